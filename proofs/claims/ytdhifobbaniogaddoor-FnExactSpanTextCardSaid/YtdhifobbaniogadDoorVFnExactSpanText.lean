/- The walk of FnExactSpanText, directed: what its calls return is given, its tests are decided. Written by a program of this repo (wip/gen/lawgen.py, wip/law). -/
import Derived.Test.YtdhifobbaniogadDoorPFnExactSpanTextx0
import Derived.Test.YtdhifobbaniogadDoorPFnExactSpanTextx1
import Derived.Test.YtdhifobbaniogadDoorPFnExactSpanTextx2
import Derived.Test.YtdhifobbaniogadDoorPFnExactSpanTextx3
import Derived.Test.YtdhifobbaniogadDoorPFnExactSpanTextx4
import Derived.Deep.DeepCutAuto
import Derived.Lib.QuietBelow
import Derived.BigQuiet
set_option linter.unusedVariables false
set_option linter.unusedSimpArgs false
namespace Go.Proofs.YtdhifobbaniogadDoor.PFnExactSpanText
open Go.RowKit Go.Sort Go.Proofs.YtdhifobbaniogadDoorW.PrintWords Go.Proofs.YtdhifobbaniogadDoorW.PrintLast Go.Proofs.YtdhifobbaniogadDoorW.PrintMore
set_option maxHeartbeats 60000000 in
set_option maxRecDepth 100000 in
theorem walkV (k : Nat) (a b : Int) (ok : Bool) (w : World) (x : ByteArray) (ht : HasTab w)
  (A1 : spec_SpanText.f k a b = some (x, ok))
  (A2 : impl_SpanText.f k a b = some (x, ok)) :
    Calls Tryd.prog 3 #[.agg #[.int .i64 a, .int .i64 b]] w fun e w' => e = .returned (.bool true) ∧ Below w.heap.size w w' := by
  have hu23 := Tryd.underlying23
  have K0 := fun W => laws_toSpan.calls a b a b W rfl
  have K1 := fun W => spec_SpanText.calls k a b x ok W A1
  have K2 := fun W (hb : Below w.heap.size w W) => impl_SpanText.calls k a b x ok W (ht.on hb) A2
  clear A1 A2 ht
  go_enter Tryd.func3, Tryd.ntmps3
  go_upto_region 1 with (fail)
  refine Own.gen (Own.boxes1 w) ?_
  intro w0 HO
  generalize w.heap.size = g1 at HO ⊢
  replace HO : Own w [(g1, .cells #[.int .i64 a, .int .i64 b] 23 (0, 0))] w0 := HO
  obtain ⟨p1_0, p1_1, f1_0, f1_1⟩ := HO.c2 0 rfl
  go_upto_region 2 with (first | (go_at_call 5; refine (K0 _).mono ?_; rintro e w1a ⟨rfl, hb⟩; replace HO := HO.call hb; clear hb) | (go_at_call 4; refine (K1 _).mono ?_; rintro e w1 ⟨rfl, hb⟩; replace HO := HO.call hb; clear hb p1_0 p1_1 f1_0 f1_1))
  obtain ⟨p1_0, p1_1, f1_0, f1_1⟩ := HO.c2 0 rfl
  have K3 := fun W (h : Below w1.heap.size w1 W) => K2 W (below_step HO.below h)
  go_upto_region 3 with (first | (go_at_call 5; refine (K0 _).mono ?_; rintro e w2a ⟨rfl, hb⟩; have K4 := K3 _ hb; replace HO := HO.call hb; clear hb) | (go_at_call 6; refine K4.mono ?_; rintro e w2 ⟨rfl, hb⟩; replace HO := HO.call hb; clear hb p1_0 p1_1 f1_0 f1_1))
  cases ok with
  | false =>
    go_wp2
    go_ret
    exact ⟨rfl, HO.below⟩
  | true =>
    go_wp2
    go_ret
    exact ⟨rfl, HO.below⟩
end Go.Proofs.YtdhifobbaniogadDoor.PFnExactSpanText
