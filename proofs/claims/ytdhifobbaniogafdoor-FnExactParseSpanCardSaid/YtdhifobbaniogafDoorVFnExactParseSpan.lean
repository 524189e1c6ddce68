/- The walk of FnExactParseSpan, directed: what its calls return is given, its tests are decided. Written by a program of this repo (wip/gen/lawgen.py, wip/law). -/
import Derived.Test.YtdhifobbaniogafDoorPFnExactParseSpanx0
import Derived.Test.YtdhifobbaniogafDoorPFnExactParseSpanx1
import Derived.Test.YtdhifobbaniogafDoorPFnExactParseSpanx2
import Derived.Test.YtdhifobbaniogafDoorPFnExactParseSpanx3
import Derived.Test.YtdhifobbaniogafDoorPFnExactParseSpanx4
import Derived.Test.YtdhifobbaniogafDoorPFnExactParseSpanx5
import Derived.Test.YtdhifobbaniogafDoorPFnExactParseSpanx6
import Derived.Deep.DeepCutAuto
import Derived.Lib.QuietBelow
import Derived.BigQuiet
set_option linter.unusedVariables false
set_option linter.unusedSimpArgs false
namespace Go.Proofs.YtdhifobbaniogafDoor.PFnExactParseSpan
open Go.RowKit Go.Sort Go.Proofs.YtdhifobbaniogafDoorW.PrintWords Go.Proofs.YtdhifobbaniogafDoorW.PrintLast Go.Proofs.YtdhifobbaniogafDoorW.PrintMore
set_option maxHeartbeats 60000000 in
set_option maxRecDepth 100000 in
theorem walkV (k : Nat) (x y : Int) (ok : Bool) (w : World) (s : ByteArray) (ht : HasTab w) (he : HasErr w)
  (A1 : s.size ≤ 1048576 → spec_ParseSpan.f k s = some (x, y, ok))
  (A2 : s.size ≤ 1048576 → impl_ParseSpan.f k s = some (x, y, ok)) :
    Calls Tryd.prog 3 #[.string s] w fun e w' => e = .returned (.bool true) ∧ Below w.heap.size w w' := by
  have hu23 := Tryd.underlying23
  by_cases hl : s.size ≤ 1048576
  · replace A1 := A1 hl
    replace A2 := A2 hl
    have N1 : decide ((s.size : Int) > 1048576) = false := decide_eq_false (by omega)
    have N2 : decide ((1048576 : Int) < s.size) = false := decide_eq_false (by omega)
    have K1 := fun W => spec_ParseSpan.calls k s x y ok W A1
    have K3 := fun W => laws_eqSpan.calls x y x y true W (by simp [laws_eqSpan.f])
    have K2 := fun W (hb : Below w.heap.size w W) => impl_ParseSpan.calls k s x y ok W (by omega) (ht.on hb) (he.on hb) A2
    clear A1 A2 ht he hl
    have HO := Own.start w
    go_enter Tryd.func3, Tryd.ntmps3
    go_upto_region 3 with (fail)
    go_upto_region 4 with (first | (go_at_call 4; refine (K1 _).mono ?_; rintro e w1a ⟨rfl, hb⟩; replace HO := HO.call hb; clear hb))
    refine Own.gen (HO.alloc _) ?_
    clear HO; intro w1 HO; generalize w1a.heap.size = g3 at HO ⊢; clear w1a
    replace HO : Own w [(g3, .cells #[.int .i64 x, .int .i64 y] 23 (0, 0))] w1 := HO
    go_upto_region 5 with (first | (go_at_call 5; refine (K2 _ HO.below).mono ?_; rintro e w2a ⟨rfl, hb⟩; replace HO := HO.call hb; clear hb))
    refine Own.gen (HO.alloc _) ?_
    clear HO; intro w2 HO; generalize w2a.heap.size = g5 at HO ⊢; clear w2a
    replace HO : Own w [(g3, .cells #[.int .i64 x, .int .i64 y] 23 (0, 0)), (g5, .cells #[.int .i64 x, .int .i64 y] 23 (0, 0))] w2 := HO
    clear K1 K2
    obtain ⟨p5_0, p5_1, f5_0, f5_1⟩ := HO.c2 1 rfl
    obtain ⟨p3_0, p3_1, f3_0, f3_1⟩ := HO.c2 0 rfl
    cases ok with
    | false =>
      go_wp2_with (first | (go_at_call 6; refine (K3 _).mono ?_; rintro e w' ⟨rfl, hb⟩; replace HO := HO.call hb; clear hb))
      go_ret
      exact ⟨rfl, HO.below⟩
    | true =>
      go_wp2_with (first | (go_at_call 6; refine (K3 _).mono ?_; rintro e w' ⟨rfl, hb⟩; replace HO := HO.call hb; clear hb))
      go_ret
      exact ⟨rfl, HO.below⟩
  · have N1 : decide ((s.size : Int) > 1048576) = true := decide_eq_true (by omega)
    have N2 : decide ((1048576 : Int) < s.size) = true := decide_eq_true (by omega)
    clear A1 A2 hl ht he
    go_enter Tryd.func3, Tryd.ntmps3
    go_wp2
    go_ret
    exact ⟨rfl, Below.refl _ _⟩
end Go.Proofs.YtdhifobbaniogafDoor.PFnExactParseSpan
