/- The walk of FnClocksAgreeOfAll, directed: what its calls return is given, its tests are decided. Written by a program of this repo (wip/gen/lawgen.py, wip/law). -/
import Derived.Test.YtdhifobbaniogabGreatDoorPFnClocksAgreeOfAllx0
import Derived.Test.YtdhifobbaniogabGreatDoorPFnClocksAgreeOfAllx1
import Derived.Test.YtdhifobbaniogabGreatDoorPFnClocksAgreeOfAllx2
import Derived.Test.YtdhifobbaniogabGreatDoorPFnClocksAgreeOfAllx3
import Derived.Test.YtdhifobbaniogabGreatDoorPFnClocksAgreeOfAllx4
import Derived.Test.YtdhifobbaniogabGreatDoorPFnClocksAgreeOfAllx5
import Derived.Test.YtdhifobbaniogabGreatDoorPFnClocksAgreeOfAllx6
import Derived.Test.YtdhifobbaniogabGreatDoorPFnClocksAgreeOfAllx7
import Derived.Test.YtdhifobbaniogabGreatDoorPFnClocksAgreeOfAllx8
import Derived.Test.YtdhifobbaniogabGreatDoorPFnClocksAgreeOfAllx9
import Derived.Test.YtdhifobbaniogabGreatDoorPFnClocksAgreeOfAllx10
import Derived.Test.YtdhifobbaniogabGreatDoorPFnClocksAgreeOfAllx11
import Derived.Test.YtdhifobbaniogabGreatDoorPFnClocksAgreeOfAllx12
import Derived.Test.YtdhifobbaniogabGreatDoorPFnClocksAgreeOfAllx13
import Derived.Test.YtdhifobbaniogabGreatDoorPFnClocksAgreeOfAllx14
import Derived.Test.YtdhifobbaniogabGreatDoorPFnClocksAgreeOfAllx15
import Derived.Test.YtdhifobbaniogabGreatDoorPFnClocksAgreeOfAllx16
import Derived.Test.YtdhifobbaniogabGreatDoorPFnClocksAgreeOfAllx17
import Derived.Test.YtdhifobbaniogabGreatDoorPFnClocksAgreeOfAllx18
import Derived.Test.YtdhifobbaniogabGreatDoorPFnClocksAgreeOfAllx19
import Derived.Test.YtdhifobbaniogabGreatDoorPFnClocksAgreeOfAllx20
import Derived.Test.YtdhifobbaniogabGreatDoorPFnClocksAgreeOfAllx21
import Derived.Test.YtdhifobbaniogabGreatDoorPFnClocksAgreeOfAllx22
import Derived.Test.YtdhifobbaniogabGreatDoorPFnClocksAgreeOfAllx23
import Derived.Test.YtdhifobbaniogabGreatDoorPFnClocksAgreeOfAllx24
import Derived.Test.YtdhifobbaniogabGreatDoorPFnClocksAgreeOfAllx25
import Derived.Test.YtdhifobbaniogabGreatDoorPFnClocksAgreeOfAllx26
import Derived.Test.YtdhifobbaniogabGreatDoorPFnClocksAgreeOfAllx27
import Derived.Test.YtdhifobbaniogabGreatDoorPFnClocksAgreeOfAllx28
import Derived.Test.YtdhifobbaniogabGreatDoorPFnClocksAgreeOfAllx29
import Derived.Test.YtdhifobbaniogabGreatDoorPFnClocksAgreeOfAllx30
import Derived.Deep.DeepCutAuto
import Derived.Lib.QuietBelow
import Derived.BigQuiet
set_option linter.unusedVariables false
set_option linter.unusedSimpArgs false
namespace Go.Proofs.YtdhifobbaniogabGreatDoor.PFnClocksAgreeOfAll
open Go.RowKit Go.Sort Go.Proofs.YtdhifobbaniogabGreatDoorW.PrintWords Go.Proofs.YtdhifobbaniogabGreatDoorW.PrintLast Go.Proofs.YtdhifobbaniogabGreatDoorW.PrintMore
theorem calls_below {P : Program} {f : FuncId} {a : Array Value} {W : World} {v : Ending} (h : Calls P f a W fun e w' => e = v ∧ Drawn0 W w') : Calls P f a W fun e w' => e = v ∧ Below W.heap.size W w' := h.mono fun _ _ ⟨e1, nd, e2⟩ => ⟨e1, by subst e2; exact pw_below_drewN (Below.refl _ _) nd⟩
attribute [local go_sem high] eqA23 eqA25 eqA26
set_option maxHeartbeats 60000000 in
set_option maxRecDepth 100000 in
theorem walkV (k : Nat) (a0 a1 a2 a3 b0 b1 b2 b3 t0 t1 s0 s1 u0 u1 p0 p1 q0 q1 nu de r0 r1 f1 f2 e1 e2 c1 c2 c3 c4 m1 m2 sg k1 k2 g1 g2 d1 d2 : Int) (ok one three five seven nine eleven th fi : Bool) (w : World) (tx l : ByteArray) (ht : HasTab w) (he : HasErr w)
  (A1 : impl_FirstAgree.f k a0 a1 a2 a3 b0 b1 b2 b3 = some (f1, f2, ok))
  (A2 : spec_FirstAgree.f k a0 a1 a2 a3 b0 b1 b2 b3 = some (f1, f2, ok))
  (A3 : impl_AgreeEvery.f k a0 a1 a2 a3 b0 b1 b2 b3 = some (e1, e2, one))
  (A4 : spec_AgreeEvery.f k a0 a1 a2 a3 b0 b1 b2 b3 = some (e1, e2, one))
  (B1 : ok = true → ∃ x1 x2 xx, impl_ShownAfter.f k a0 a1 a2 a3 f1 f2 = some (x1, x2, xx) ∧ impl_ShownAfter.f k b0 b1 b2 b3 f1 f2 = some (x1, x2, xx) ∧ impl_FirstAgree.f k b0 b1 b2 b3 a0 a1 a2 a3 = some (f1, f2, true) ∧ ¬ f1 < 1)
  (B2 : ok = true → one = true → ¬ wrap64 (f1 * e2) > wrap64 (e1 * f2))
  (A5 : impl_ClockOfReadings.f k t0 t1 s0 s1 u0 u1 = some (c1, c2, c3, c4, three))
  (A6 : spec_ClockOfReadings.f k t0 t1 s0 s1 u0 u1 = some (c1, c2, c3, c4, three))
  (B3 : three = true → impl_ShownAfter.f k c1 c2 c3 c4 s0 s1 = some (u0, u1, true) ∧ impl_IsClock.f k c1 c2 c3 c4 = some true ∧ c1 = t0 ∧ c2 = t1 ∧ ¬ wrap64 (c3 * s0) ≥ wrap64 (c4 * s1))
  (A7 : impl_AddSpans.f k p0 p1 q0 q1 = some (m1, m2, five))
  (A8 : spec_AddSpans.f k p0 p1 q0 q1 = some (m1, m2, five))
  (A9 : impl_CompareSpans.f k p0 p1 q0 q1 = some (sg, seven))
  (A10 : spec_CompareSpans.f k p0 p1 q0 q1 = some (sg, seven))
  (A11 : impl_CommonSpan.f k p0 p1 q0 q1 = some (k1, k2, nine))
  (A12 : spec_CommonSpan.f k p0 p1 q0 q1 = some (k1, k2, nine))
  (A13 : impl_MakeSpan.f k nu de = some (g1, g2, eleven))
  (A14 : spec_MakeSpan.f k nu de = some (g1, g2, eleven))
  (A15 : impl_SpanText.f k r0 r1 = some (tx, th))
  (A16 : spec_SpanText.f k r0 r1 = some (tx, th))
  (A17 : l.size ≤ 1048576 → impl_ParseSpan.f k l = some (d1, d2, fi))
  (A18 : l.size ≤ 1048576 → spec_ParseSpan.f k l = some (d1, d2, fi))
  (A19 : impl_IsSpan.f k r0 r1 = some th)
  (A20 : spec_IsSpan.f k r0 r1 = some th)
  (B4 : five = true → ∃ X Y, laws_wMore.f p0 p1 q0 q1 = some (X, Y) ∧ wrap64 (m1 * Y) = wrap64 (X * m2) ∧ impl_IsSpan.f k m1 m2 = some true)
  (B5 : seven = true → impl_CompareSpans.f k q0 q1 p0 p1 = some (wrap64 (-sg), true) ∧ ((sg = 0 ∧ p0 = q0 ∧ p1 = q1) ∨ (sg ≠ 0 ∧ (p0 ≠ q0 ∨ p1 ≠ q1))))
  (B6 : nine = true → wrap64 (k2 * p0) ≠ 0 ∧ wrap64 (k2 * q0) ≠ 0 ∧ Int.tmod (wrap64 (k1 * p1)) (wrap64 (k2 * p0)) = 0 ∧ Int.tmod (wrap64 (k1 * q1)) (wrap64 (k2 * q0)) = 0 ∧ laws_wCommon.f k (wrap64 (Int.tdiv (wrap64 (k1 * p1)) (wrap64 (k2 * p0)))) (wrap64 (Int.tdiv (wrap64 (k1 * q1)) (wrap64 (k2 * q0)))) = some 1)
  (B7 : eleven = true → ∃ wc, laws_wCommon.f k nu de = some wc ∧ wc ≠ 0 ∧ wrap64 (g1 * wrap64 (Int.tdiv de wc)) = wrap64 (wrap64 (Int.tdiv nu wc) * g2))
  (B8 : th = true → impl_ParseSpan.f k tx = some (r0, r1, true) ∧ tx.size ≤ 281474976710656)
  (B9 : l.size ≤ 1048576 → fi = true → impl_SpanText.f k d1 d2 = some (l, true)) :
    Calls Tryz.prog 3 #[.agg #[.int .i64 a0, .int .i64 a1, .int .i64 a2, .int .i64 a3], .agg #[.int .i64 b0, .int .i64 b1, .int .i64 b2, .int .i64 b3], .agg #[.int .i64 t0, .int .i64 t1], .agg #[.int .i64 s0, .int .i64 s1], .agg #[.int .i64 u0, .int .i64 u1], .agg #[.int .i64 p0, .int .i64 p1], .agg #[.int .i64 q0, .int .i64 q1], .int .i64 nu, .int .i64 de, .agg #[.int .i64 r0, .int .i64 r1], .string l] w fun e w' => e = .returned (.bool true) ∧ Below w.heap.size w w' := by
  have hu23 := Tryz.underlying23
  have hu25 := Tryz.underlying25
  have hu26 := Tryz.underlying26
  have K1 := fun W => impl_FirstAgree.calls k a0 a1 a2 a3 b0 b1 b2 b3 f1 f2 ok W A1
  have K2 := fun W => spec_FirstAgree.calls k a0 a1 a2 a3 b0 b1 b2 b3 f1 f2 ok W A2
  have K3 := fun W => impl_AgreeEvery.calls k a0 a1 a2 a3 b0 b1 b2 b3 e1 e2 one W A3
  have K4 := fun W => spec_AgreeEvery.calls k a0 a1 a2 a3 b0 b1 b2 b3 e1 e2 one W A4
  have K5 := fun W => impl_ClockOfReadings.calls k t0 t1 s0 s1 u0 u1 c1 c2 c3 c4 three W A5
  have K6 := fun W => spec_ClockOfReadings.calls k t0 t1 s0 s1 u0 u1 c1 c2 c3 c4 three W A6
  have K7 := fun W => impl_AddSpans.calls k p0 p1 q0 q1 m1 m2 five W A7
  have K8 := fun W => spec_AddSpans.calls k p0 p1 q0 q1 m1 m2 five W A8
  have K9 := fun W => impl_CompareSpans.calls k p0 p1 q0 q1 sg seven W A9
  have K10 := fun W => spec_CompareSpans.calls k p0 p1 q0 q1 sg seven W A10
  have K11 := fun W => impl_CommonSpan.calls k p0 p1 q0 q1 k1 k2 nine W A11
  have K12 := fun W => spec_CommonSpan.calls k p0 p1 q0 q1 k1 k2 nine W A12
  have K13 := fun W => impl_MakeSpan.calls k nu de g1 g2 eleven W A13
  have K14 := fun W => spec_MakeSpan.calls k nu de g1 g2 eleven W A14
  have K19 := fun W => impl_IsSpan.calls k r0 r1 th W A19
  have K20 := fun W => spec_IsSpan.calls k r0 r1 th W A20
  have K16 := fun W => spec_SpanText.calls k r0 r1 tx th W A16
  have K15 := fun W (hb : Below w.heap.size w W) => impl_SpanText.calls k r0 r1 tx th W (ht.on hb) A15
  have P17 := Aside0.mk (fun (hl : l.size ≤ 1048576) W (hb : Below w.heap.size w W) => impl_ParseSpan.calls k l d1 d2 fi W (by omega) (ht.on hb) (he.on hb) (A17 hl))
  have P18 := Aside0.mk (fun (hl : l.size ≤ 1048576) W => spec_ParseSpan.calls k l d1 d2 fi W (A18 hl))
  have P8 := Aside0.mk (fun (h : th = true) W (hb : Below w.heap.size w W) => impl_ParseSpan.calls k tx r0 r1 true W (B8 h).2 (ht.on hb) (he.on hb) (B8 h).1)
  have P9 := Aside0.mk (fun (hl : l.size ≤ 1048576) (h : fi = true) W (hb : Below w.heap.size w W) => impl_SpanText.calls k d1 d2 l true W (ht.on hb) (B9 hl h))
  replace B1 := Aside0.mk B1
  replace B2 := Aside0.mk B2
  replace B3 := Aside0.mk B3
  replace B4 := Aside0.mk B4
  replace B5 := Aside0.mk B5
  replace B6 := Aside0.mk B6
  replace B7 := Aside0.mk B7
  clear B8 B9 ht he A1 A2 A3 A4 A5 A6 A7 A8 A9 A10 A11 A12 A13 A14 A15 A16 A17 A18 A19 A20
  go_enter Tryz.func3, Tryz.ntmps3
  go_upto_region 1 with (fail)
  refine Own.gen (Own.boxes8 w) ?_
  intro w0 HO
  generalize w.heap.size + 1 + 1 + 1 + 1 + 1 + 1 + 1 = g20 at HO ⊢
  generalize w.heap.size + 1 + 1 + 1 + 1 + 1 + 1 = g17 at HO ⊢
  generalize w.heap.size + 1 + 1 + 1 + 1 + 1 = g16 at HO ⊢
  generalize w.heap.size + 1 + 1 + 1 + 1 = g15 at HO ⊢
  generalize w.heap.size + 1 + 1 + 1 = g14 at HO ⊢
  generalize w.heap.size + 1 + 1 = g13 at HO ⊢
  generalize w.heap.size + 1 = g12 at HO ⊢
  generalize w.heap.size = g11 at HO ⊢
  replace HO : Own w [(g11, .cells #[.int .i64 a0, .int .i64 a1, .int .i64 a2, .int .i64 a3] 25 (0, 0)), (g12, .cells #[.int .i64 b0, .int .i64 b1, .int .i64 b2, .int .i64 b3] 25 (0, 0)), (g13, .cells #[.int .i64 t0, .int .i64 t1] 23 (0, 0)), (g14, .cells #[.int .i64 s0, .int .i64 s1] 26 (0, 0)), (g15, .cells #[.int .i64 u0, .int .i64 u1] 23 (0, 0)), (g16, .cells #[.int .i64 p0, .int .i64 p1] 26 (0, 0)), (g17, .cells #[.int .i64 q0, .int .i64 q1] 26 (0, 0)), (g20, .cells #[.int .i64 r0, .int .i64 r1] 26 (0, 0))] w0 := HO
  by_cases hl : l.size ≤ 1048576
  · as_aux_lemma =>
    have K17 := P17.out hl; have K18 := P18.out hl; replace P9 := Aside0.mk (P9.out hl); clear P17 P18
    have N1 : decide ((l.size : Int) > 1048576) = false := decide_eq_false (by omega); have N2 : decide ((1048576 : Int) < l.size) = false := decide_eq_false (by omega); clear hl
    go_upto_region 3 with (fail)
    clear N1 N2
    obtain ⟨p11_0, p11_1, p11_2, p11_3, f11_0, f11_1, f11_2, f11_3⟩ := HO.c4 0 rfl
    obtain ⟨p12_0, p12_1, p12_2, p12_3, f12_0, f12_1, f12_2, f12_3⟩ := HO.c4 1 rfl
    go_upto_region 4 with (first | (go_at_call 4; refine (K1 _).mono ?_; rintro e w1a ⟨rfl, hb⟩; replace HO := HO.call hb; clear hb p11_0 p11_1 p11_2 p11_3 f11_0 f11_1 f11_2 f11_3 p12_0 p12_1 p12_2 p12_3 f12_0 f12_1 f12_2 f12_3))
    refine Own.gen (HO.alloc _) ?_
    clear HO; intro w1 HO; generalize w1a.heap.size = g23 at HO ⊢; clear w1a
    replace HO : Own w [(g11, .cells #[.int .i64 a0, .int .i64 a1, .int .i64 a2, .int .i64 a3] 25 (0, 0)), (g12, .cells #[.int .i64 b0, .int .i64 b1, .int .i64 b2, .int .i64 b3] 25 (0, 0)), (g13, .cells #[.int .i64 t0, .int .i64 t1] 23 (0, 0)), (g14, .cells #[.int .i64 s0, .int .i64 s1] 26 (0, 0)), (g15, .cells #[.int .i64 u0, .int .i64 u1] 23 (0, 0)), (g16, .cells #[.int .i64 p0, .int .i64 p1] 26 (0, 0)), (g17, .cells #[.int .i64 q0, .int .i64 q1] 26 (0, 0)), (g20, .cells #[.int .i64 r0, .int .i64 r1] 26 (0, 0)), (g23, .cells #[.int .i64 f1, .int .i64 f2] 26 (0, 0))] w1 := HO
    obtain ⟨p11_0, p11_1, p11_2, p11_3, f11_0, f11_1, f11_2, f11_3⟩ := HO.c4 0 rfl
    obtain ⟨p12_0, p12_1, p12_2, p12_3, f12_0, f12_1, f12_2, f12_3⟩ := HO.c4 1 rfl
    go_upto_region 5 with (first | (go_at_call 5; refine (K2 _).mono ?_; rintro e w2a ⟨rfl, hb⟩; replace HO := HO.call hb; clear hb p11_0 p11_1 p11_2 p11_3 f11_0 f11_1 f11_2 f11_3 p12_0 p12_1 p12_2 p12_3 f12_0 f12_1 f12_2 f12_3))
    refine Own.gen (HO.alloc _) ?_
    clear HO; intro w2 HO; generalize w2a.heap.size = g25 at HO ⊢; clear w2a
    replace HO : Own w [(g11, .cells #[.int .i64 a0, .int .i64 a1, .int .i64 a2, .int .i64 a3] 25 (0, 0)), (g12, .cells #[.int .i64 b0, .int .i64 b1, .int .i64 b2, .int .i64 b3] 25 (0, 0)), (g13, .cells #[.int .i64 t0, .int .i64 t1] 23 (0, 0)), (g14, .cells #[.int .i64 s0, .int .i64 s1] 26 (0, 0)), (g15, .cells #[.int .i64 u0, .int .i64 u1] 23 (0, 0)), (g16, .cells #[.int .i64 p0, .int .i64 p1] 26 (0, 0)), (g17, .cells #[.int .i64 q0, .int .i64 q1] 26 (0, 0)), (g20, .cells #[.int .i64 r0, .int .i64 r1] 26 (0, 0)), (g23, .cells #[.int .i64 f1, .int .i64 f2] 26 (0, 0)), (g25, .cells #[.int .i64 f1, .int .i64 f2] 26 (0, 0))] w2 := HO
    obtain ⟨p11_0, p11_1, p11_2, p11_3, f11_0, f11_1, f11_2, f11_3⟩ := HO.c4 0 rfl
    obtain ⟨p12_0, p12_1, p12_2, p12_3, f12_0, f12_1, f12_2, f12_3⟩ := HO.c4 1 rfl
    go_upto_region 6 with (first | (go_at_call 6; refine (K3 _).mono ?_; rintro e w3a ⟨rfl, hb⟩; replace HO := HO.call hb; clear hb p11_0 p11_1 p11_2 p11_3 f11_0 f11_1 f11_2 f11_3 p12_0 p12_1 p12_2 p12_3 f12_0 f12_1 f12_2 f12_3))
    refine Own.gen (HO.alloc _) ?_
    clear HO; intro w3 HO; generalize w3a.heap.size = g27 at HO ⊢; clear w3a
    replace HO : Own w [(g11, .cells #[.int .i64 a0, .int .i64 a1, .int .i64 a2, .int .i64 a3] 25 (0, 0)), (g12, .cells #[.int .i64 b0, .int .i64 b1, .int .i64 b2, .int .i64 b3] 25 (0, 0)), (g13, .cells #[.int .i64 t0, .int .i64 t1] 23 (0, 0)), (g14, .cells #[.int .i64 s0, .int .i64 s1] 26 (0, 0)), (g15, .cells #[.int .i64 u0, .int .i64 u1] 23 (0, 0)), (g16, .cells #[.int .i64 p0, .int .i64 p1] 26 (0, 0)), (g17, .cells #[.int .i64 q0, .int .i64 q1] 26 (0, 0)), (g20, .cells #[.int .i64 r0, .int .i64 r1] 26 (0, 0)), (g23, .cells #[.int .i64 f1, .int .i64 f2] 26 (0, 0)), (g25, .cells #[.int .i64 f1, .int .i64 f2] 26 (0, 0)), (g27, .cells #[.int .i64 e1, .int .i64 e2] 26 (0, 0))] w3 := HO
    obtain ⟨p11_0, p11_1, p11_2, p11_3, f11_0, f11_1, f11_2, f11_3⟩ := HO.c4 0 rfl
    obtain ⟨p12_0, p12_1, p12_2, p12_3, f12_0, f12_1, f12_2, f12_3⟩ := HO.c4 1 rfl
    go_upto_region 7 with (first | (go_at_call 7; refine (K4 _).mono ?_; rintro e w4a ⟨rfl, hb⟩; replace HO := HO.call hb; clear hb p11_0 p11_1 p11_2 p11_3 f11_0 f11_1 f11_2 f11_3 p12_0 p12_1 p12_2 p12_3 f12_0 f12_1 f12_2 f12_3))
    refine Own.gen (HO.alloc _) ?_
    clear HO; intro w4 HO; generalize w4a.heap.size = g29 at HO ⊢; clear w4a
    replace HO : Own w [(g11, .cells #[.int .i64 a0, .int .i64 a1, .int .i64 a2, .int .i64 a3] 25 (0, 0)), (g12, .cells #[.int .i64 b0, .int .i64 b1, .int .i64 b2, .int .i64 b3] 25 (0, 0)), (g13, .cells #[.int .i64 t0, .int .i64 t1] 23 (0, 0)), (g14, .cells #[.int .i64 s0, .int .i64 s1] 26 (0, 0)), (g15, .cells #[.int .i64 u0, .int .i64 u1] 23 (0, 0)), (g16, .cells #[.int .i64 p0, .int .i64 p1] 26 (0, 0)), (g17, .cells #[.int .i64 q0, .int .i64 q1] 26 (0, 0)), (g20, .cells #[.int .i64 r0, .int .i64 r1] 26 (0, 0)), (g23, .cells #[.int .i64 f1, .int .i64 f2] 26 (0, 0)), (g25, .cells #[.int .i64 f1, .int .i64 f2] 26 (0, 0)), (g27, .cells #[.int .i64 e1, .int .i64 e2] 26 (0, 0)), (g29, .cells #[.int .i64 e1, .int .i64 e2] 26 (0, 0))] w4 := HO
    clear K1 K2 K3 K4
    obtain ⟨p23_0, p23_1, f23_0, f23_1⟩ := HO.c2 8 rfl
    obtain ⟨p25_0, p25_1, f25_0, f25_1⟩ := HO.c2 9 rfl
    obtain ⟨p27_0, p27_1, f27_0, f27_1⟩ := HO.c2 10 rfl
    obtain ⟨p29_0, p29_1, f29_0, f29_1⟩ := HO.c2 11 rfl
    go_upto_region 9 with (fail)
    clear p23_0 p23_1 f23_0 f23_1 p25_0 p25_1 f25_0 f25_1 p27_0 p27_1 f27_0 f27_1 p29_0 p29_1 f29_0 f29_1
    go_upto_if 122 with (fail)
    go_cut [22, 31, 32, 33, 34, 35, 36] from 122 to 178 (fun v22 v31 v32 v33 v34 v35 v36 wc => Own w [(g11, .cells #[.int .i64 a0, .int .i64 a1, .int .i64 a2, .int .i64 a3] 25 (0, 0)), (g12, .cells #[.int .i64 b0, .int .i64 b1, .int .i64 b2, .int .i64 b3] 25 (0, 0)), (g13, .cells #[.int .i64 t0, .int .i64 t1] 23 (0, 0)), (g14, .cells #[.int .i64 s0, .int .i64 s1] 26 (0, 0)), (g15, .cells #[.int .i64 u0, .int .i64 u1] 23 (0, 0)), (g16, .cells #[.int .i64 p0, .int .i64 p1] 26 (0, 0)), (g17, .cells #[.int .i64 q0, .int .i64 q1] 26 (0, 0)), (g20, .cells #[.int .i64 r0, .int .i64 r1] 26 (0, 0)), (g23, .cells #[.int .i64 f1, .int .i64 f2] 26 (0, 0)), (g25, .cells #[.int .i64 f1, .int .i64 f2] 26 (0, 0)), (g27, .cells #[.int .i64 e1, .int .i64 e2] 26 (0, 0)), (g29, .cells #[.int .i64 e1, .int .i64 e2] 26 (0, 0))] wc)
    case first =>
      as_aux_lemma =>
        cases ok with
        | false =>
          as_aux_lemma =>
            go_wp2
            go_meet
            exact HO
        | true =>
          as_aux_lemma =>
            obtain ⟨x1, x2, xx, M1, M2, M3, M4⟩ := B1.out rfl; have B2x := Aside0.mk (B2.out rfl)
            have L1 := fun W => impl_ShownAfter.calls k a0 a1 a2 a3 f1 f2 x1 x2 xx W M1
            have L2 := fun W => impl_ShownAfter.calls k b0 b1 b2 b3 f1 f2 x1 x2 xx W M2
            have L3 := fun W => impl_FirstAgree.calls k b0 b1 b2 b3 a0 a1 a2 a3 f1 f2 true W M3
            have N1 : decide (f1 < 1) = false := decide_eq_false (by omega)
            clear M1 M2 M3 M4
            go_upto_region 10 with (fail)
            obtain ⟨p11_0, p11_1, p11_2, p11_3, f11_0, f11_1, f11_2, f11_3⟩ := HO.c4 0 rfl
            obtain ⟨p23_0, p23_1, f23_0, f23_1⟩ := HO.c2 8 rfl
            go_upto_region 11 with (first | (go_at_call 8; refine (L1 _).mono ?_; rintro e w5a ⟨rfl, hb⟩; replace HO := HO.call hb; clear hb p11_0 p11_1 p11_2 p11_3 f11_0 f11_1 f11_2 f11_3 p23_0 p23_1 f23_0 f23_1))
            refine Own.gen (HO.alloc _) ?_
            clear HO; intro w5 HO; generalize w5a.heap.size = g31 at HO ⊢; clear w5a
            replace HO : Own w [(g11, .cells #[.int .i64 a0, .int .i64 a1, .int .i64 a2, .int .i64 a3] 25 (0, 0)), (g12, .cells #[.int .i64 b0, .int .i64 b1, .int .i64 b2, .int .i64 b3] 25 (0, 0)), (g13, .cells #[.int .i64 t0, .int .i64 t1] 23 (0, 0)), (g14, .cells #[.int .i64 s0, .int .i64 s1] 26 (0, 0)), (g15, .cells #[.int .i64 u0, .int .i64 u1] 23 (0, 0)), (g16, .cells #[.int .i64 p0, .int .i64 p1] 26 (0, 0)), (g17, .cells #[.int .i64 q0, .int .i64 q1] 26 (0, 0)), (g20, .cells #[.int .i64 r0, .int .i64 r1] 26 (0, 0)), (g23, .cells #[.int .i64 f1, .int .i64 f2] 26 (0, 0)), (g25, .cells #[.int .i64 f1, .int .i64 f2] 26 (0, 0)), (g27, .cells #[.int .i64 e1, .int .i64 e2] 26 (0, 0)), (g29, .cells #[.int .i64 e1, .int .i64 e2] 26 (0, 0)), (g31, .cells #[.int .i64 x1, .int .i64 x2] 23 (0, 0))] w5 := HO
            obtain ⟨p12_0, p12_1, p12_2, p12_3, f12_0, f12_1, f12_2, f12_3⟩ := HO.c4 1 rfl
            obtain ⟨p23_0, p23_1, f23_0, f23_1⟩ := HO.c2 8 rfl
            go_upto_region 12 with (first | (go_at_call 8; refine (L2 _).mono ?_; rintro e w6a ⟨rfl, hb⟩; replace HO := HO.call hb; clear hb p12_0 p12_1 p12_2 p12_3 f12_0 f12_1 f12_2 f12_3 p23_0 p23_1 f23_0 f23_1))
            refine Own.gen (HO.alloc _) ?_
            clear HO; intro w6 HO; generalize w6a.heap.size = g33 at HO ⊢; clear w6a
            replace HO : Own w [(g11, .cells #[.int .i64 a0, .int .i64 a1, .int .i64 a2, .int .i64 a3] 25 (0, 0)), (g12, .cells #[.int .i64 b0, .int .i64 b1, .int .i64 b2, .int .i64 b3] 25 (0, 0)), (g13, .cells #[.int .i64 t0, .int .i64 t1] 23 (0, 0)), (g14, .cells #[.int .i64 s0, .int .i64 s1] 26 (0, 0)), (g15, .cells #[.int .i64 u0, .int .i64 u1] 23 (0, 0)), (g16, .cells #[.int .i64 p0, .int .i64 p1] 26 (0, 0)), (g17, .cells #[.int .i64 q0, .int .i64 q1] 26 (0, 0)), (g20, .cells #[.int .i64 r0, .int .i64 r1] 26 (0, 0)), (g23, .cells #[.int .i64 f1, .int .i64 f2] 26 (0, 0)), (g25, .cells #[.int .i64 f1, .int .i64 f2] 26 (0, 0)), (g27, .cells #[.int .i64 e1, .int .i64 e2] 26 (0, 0)), (g29, .cells #[.int .i64 e1, .int .i64 e2] 26 (0, 0)), (g31, .cells #[.int .i64 x1, .int .i64 x2] 23 (0, 0)), (g33, .cells #[.int .i64 x1, .int .i64 x2] 23 (0, 0))] w6 := HO
            obtain ⟨p12_0, p12_1, p12_2, p12_3, f12_0, f12_1, f12_2, f12_3⟩ := HO.c4 1 rfl
            obtain ⟨p11_0, p11_1, p11_2, p11_3, f11_0, f11_1, f11_2, f11_3⟩ := HO.c4 0 rfl
            go_upto_region 13 with (first | (go_at_call 4; refine (L3 _).mono ?_; rintro e w7a ⟨rfl, hb⟩; replace HO := HO.call hb; clear hb p12_0 p12_1 p12_2 p12_3 f12_0 f12_1 f12_2 f12_3 p11_0 p11_1 p11_2 p11_3 f11_0 f11_1 f11_2 f11_3))
            refine Own.gen (HO.alloc _) ?_
            clear HO; intro w7 HO; generalize w7a.heap.size = g35 at HO ⊢; clear w7a
            replace HO : Own w [(g11, .cells #[.int .i64 a0, .int .i64 a1, .int .i64 a2, .int .i64 a3] 25 (0, 0)), (g12, .cells #[.int .i64 b0, .int .i64 b1, .int .i64 b2, .int .i64 b3] 25 (0, 0)), (g13, .cells #[.int .i64 t0, .int .i64 t1] 23 (0, 0)), (g14, .cells #[.int .i64 s0, .int .i64 s1] 26 (0, 0)), (g15, .cells #[.int .i64 u0, .int .i64 u1] 23 (0, 0)), (g16, .cells #[.int .i64 p0, .int .i64 p1] 26 (0, 0)), (g17, .cells #[.int .i64 q0, .int .i64 q1] 26 (0, 0)), (g20, .cells #[.int .i64 r0, .int .i64 r1] 26 (0, 0)), (g23, .cells #[.int .i64 f1, .int .i64 f2] 26 (0, 0)), (g25, .cells #[.int .i64 f1, .int .i64 f2] 26 (0, 0)), (g27, .cells #[.int .i64 e1, .int .i64 e2] 26 (0, 0)), (g29, .cells #[.int .i64 e1, .int .i64 e2] 26 (0, 0)), (g31, .cells #[.int .i64 x1, .int .i64 x2] 23 (0, 0)), (g33, .cells #[.int .i64 x1, .int .i64 x2] 23 (0, 0)), (g35, .cells #[.int .i64 f1, .int .i64 f2] 26 (0, 0))] w7 := HO
            clear L1 L2 L3
            obtain ⟨p31_0, p31_1, f31_0, f31_1⟩ := HO.c2 12 rfl
            obtain ⟨p33_0, p33_1, f33_0, f33_1⟩ := HO.c2 13 rfl
            obtain ⟨p23_0, p23_1, f23_0, f23_1⟩ := HO.c2 8 rfl
            obtain ⟨p35_0, p35_1, f35_0, f35_1⟩ := HO.c2 14 rfl
            obtain ⟨p27_0, p27_1, f27_0, f27_1⟩ := HO.c2 10 rfl
            cases one with
            | false =>
              as_aux_lemma =>
                go_wp2
                go_meet
                exact Own.less (Own.less (Own.less (HO)))
            | true =>
              as_aux_lemma =>
                have N2 := B2x.out rfl; have N3 : decide (wrap64 (f1 * e2) > wrap64 (e1 * f2)) = false := decide_eq_false (by omega); have N4 : decide (wrap64 (e1 * f2) < wrap64 (f1 * e2)) = false := decide_eq_false (by omega); clear N2
                go_wp2
                go_meet
                exact Own.less (Own.less (Own.less (HO)))
    case rest =>
      as_aux_lemma =>
        clear HO; have HO := hcut; clear hcut
        revert HO; generalize wc = w5; intro HO
        go_upto_region 15 with (fail)
        obtain ⟨p13_0, p13_1, f13_0, f13_1⟩ := HO.c2 2 rfl
        obtain ⟨p14_0, p14_1, f14_0, f14_1⟩ := HO.c2 3 rfl
        obtain ⟨p15_0, p15_1, f15_0, f15_1⟩ := HO.c2 4 rfl
        go_upto_region 16 with (first | (go_at_call 9; refine (K5 _).mono ?_; rintro e w6a ⟨rfl, hb⟩; replace HO := HO.call hb; clear hb p13_0 p13_1 f13_0 f13_1 p14_0 p14_1 f14_0 f14_1 p15_0 p15_1 f15_0 f15_1))
        refine Own.gen (HO.alloc _) ?_
        clear HO; intro w6 HO; generalize w6a.heap.size = g37 at HO ⊢; clear w6a
        replace HO : Own w [(g11, .cells #[.int .i64 a0, .int .i64 a1, .int .i64 a2, .int .i64 a3] 25 (0, 0)), (g12, .cells #[.int .i64 b0, .int .i64 b1, .int .i64 b2, .int .i64 b3] 25 (0, 0)), (g13, .cells #[.int .i64 t0, .int .i64 t1] 23 (0, 0)), (g14, .cells #[.int .i64 s0, .int .i64 s1] 26 (0, 0)), (g15, .cells #[.int .i64 u0, .int .i64 u1] 23 (0, 0)), (g16, .cells #[.int .i64 p0, .int .i64 p1] 26 (0, 0)), (g17, .cells #[.int .i64 q0, .int .i64 q1] 26 (0, 0)), (g20, .cells #[.int .i64 r0, .int .i64 r1] 26 (0, 0)), (g23, .cells #[.int .i64 f1, .int .i64 f2] 26 (0, 0)), (g25, .cells #[.int .i64 f1, .int .i64 f2] 26 (0, 0)), (g27, .cells #[.int .i64 e1, .int .i64 e2] 26 (0, 0)), (g29, .cells #[.int .i64 e1, .int .i64 e2] 26 (0, 0)), (g37, .cells #[.int .i64 c1, .int .i64 c2, .int .i64 c3, .int .i64 c4] 25 (0, 0))] w6 := HO
        obtain ⟨p13_0, p13_1, f13_0, f13_1⟩ := HO.c2 2 rfl
        obtain ⟨p14_0, p14_1, f14_0, f14_1⟩ := HO.c2 3 rfl
        obtain ⟨p15_0, p15_1, f15_0, f15_1⟩ := HO.c2 4 rfl
        go_upto_region 17 with (first | (go_at_call 10; refine (K6 _).mono ?_; rintro e w7a ⟨rfl, hb⟩; replace HO := HO.call hb; clear hb p13_0 p13_1 f13_0 f13_1 p14_0 p14_1 f14_0 f14_1 p15_0 p15_1 f15_0 f15_1))
        refine Own.gen (HO.alloc _) ?_
        clear HO; intro w7 HO; generalize w7a.heap.size = g39 at HO ⊢; clear w7a
        replace HO : Own w [(g11, .cells #[.int .i64 a0, .int .i64 a1, .int .i64 a2, .int .i64 a3] 25 (0, 0)), (g12, .cells #[.int .i64 b0, .int .i64 b1, .int .i64 b2, .int .i64 b3] 25 (0, 0)), (g13, .cells #[.int .i64 t0, .int .i64 t1] 23 (0, 0)), (g14, .cells #[.int .i64 s0, .int .i64 s1] 26 (0, 0)), (g15, .cells #[.int .i64 u0, .int .i64 u1] 23 (0, 0)), (g16, .cells #[.int .i64 p0, .int .i64 p1] 26 (0, 0)), (g17, .cells #[.int .i64 q0, .int .i64 q1] 26 (0, 0)), (g20, .cells #[.int .i64 r0, .int .i64 r1] 26 (0, 0)), (g23, .cells #[.int .i64 f1, .int .i64 f2] 26 (0, 0)), (g25, .cells #[.int .i64 f1, .int .i64 f2] 26 (0, 0)), (g27, .cells #[.int .i64 e1, .int .i64 e2] 26 (0, 0)), (g29, .cells #[.int .i64 e1, .int .i64 e2] 26 (0, 0)), (g37, .cells #[.int .i64 c1, .int .i64 c2, .int .i64 c3, .int .i64 c4] 25 (0, 0)), (g39, .cells #[.int .i64 c1, .int .i64 c2, .int .i64 c3, .int .i64 c4] 25 (0, 0))] w7 := HO
        clear K5 K6
        obtain ⟨p37_0, p37_1, p37_2, p37_3, f37_0, f37_1, f37_2, f37_3⟩ := HO.c4 12 rfl
        obtain ⟨p39_0, p39_1, p39_2, p39_3, f39_0, f39_1, f39_2, f39_3⟩ := HO.c4 13 rfl
        go_upto_region 19 with (fail)
        clear p37_0 p37_1 p37_2 p37_3 f37_0 f37_1 f37_2 f37_3 p39_0 p39_1 p39_2 p39_3 f39_0 f39_1 f39_2 f39_3
        go_upto_if 201 with (fail)
        go_cut [22, 41, 42] from 201 to 238 (fun v22 v41 v42 wc => Own w [(g11, .cells #[.int .i64 a0, .int .i64 a1, .int .i64 a2, .int .i64 a3] 25 (0, 0)), (g12, .cells #[.int .i64 b0, .int .i64 b1, .int .i64 b2, .int .i64 b3] 25 (0, 0)), (g13, .cells #[.int .i64 t0, .int .i64 t1] 23 (0, 0)), (g14, .cells #[.int .i64 s0, .int .i64 s1] 26 (0, 0)), (g15, .cells #[.int .i64 u0, .int .i64 u1] 23 (0, 0)), (g16, .cells #[.int .i64 p0, .int .i64 p1] 26 (0, 0)), (g17, .cells #[.int .i64 q0, .int .i64 q1] 26 (0, 0)), (g20, .cells #[.int .i64 r0, .int .i64 r1] 26 (0, 0)), (g23, .cells #[.int .i64 f1, .int .i64 f2] 26 (0, 0)), (g25, .cells #[.int .i64 f1, .int .i64 f2] 26 (0, 0)), (g27, .cells #[.int .i64 e1, .int .i64 e2] 26 (0, 0)), (g29, .cells #[.int .i64 e1, .int .i64 e2] 26 (0, 0)), (g37, .cells #[.int .i64 c1, .int .i64 c2, .int .i64 c3, .int .i64 c4] 25 (0, 0)), (g39, .cells #[.int .i64 c1, .int .i64 c2, .int .i64 c3, .int .i64 c4] 25 (0, 0))] wc)
        case first =>
          as_aux_lemma =>
            cases three with
            | false =>
              as_aux_lemma =>
                go_wp2
                go_meet
                exact HO
            | true =>
              as_aux_lemma =>
                obtain ⟨M1, M2, M3, M4, M5⟩ := B3.out rfl
                have L1 := fun W => impl_ShownAfter.calls k c1 c2 c3 c4 s0 s1 u0 u1 true W M1
                have L2 := fun W => impl_IsClock.calls k c1 c2 c3 c4 true W M2
                have y1 : (c1 == t0) = true := beq_iff_eq.mpr M3; have y2 : (c2 == t1) = true := beq_iff_eq.mpr M4
                have N1 : decide (wrap64 (c3 * s0) ≥ wrap64 (c4 * s1)) = false := decide_eq_false (by omega); have N2 : decide (wrap64 (c4 * s1) ≤ wrap64 (c3 * s0)) = false := decide_eq_false (by omega)
                clear M1 M2 M3 M4 M5
                go_upto_region 20 with (fail)
                obtain ⟨p37_0, p37_1, p37_2, p37_3, f37_0, f37_1, f37_2, f37_3⟩ := HO.c4 12 rfl
                obtain ⟨p14_0, p14_1, f14_0, f14_1⟩ := HO.c2 3 rfl
                go_upto_region 21 with (first | (go_at_call 8; refine (L1 _).mono ?_; rintro e w8a ⟨rfl, hb⟩; replace HO := HO.call hb; clear hb p37_0 p37_1 p37_2 p37_3 f37_0 f37_1 f37_2 f37_3 p14_0 p14_1 f14_0 f14_1))
                refine Own.gen (HO.alloc _) ?_
                clear HO; intro w8 HO; generalize w8a.heap.size = g41 at HO ⊢; clear w8a
                replace HO : Own w [(g11, .cells #[.int .i64 a0, .int .i64 a1, .int .i64 a2, .int .i64 a3] 25 (0, 0)), (g12, .cells #[.int .i64 b0, .int .i64 b1, .int .i64 b2, .int .i64 b3] 25 (0, 0)), (g13, .cells #[.int .i64 t0, .int .i64 t1] 23 (0, 0)), (g14, .cells #[.int .i64 s0, .int .i64 s1] 26 (0, 0)), (g15, .cells #[.int .i64 u0, .int .i64 u1] 23 (0, 0)), (g16, .cells #[.int .i64 p0, .int .i64 p1] 26 (0, 0)), (g17, .cells #[.int .i64 q0, .int .i64 q1] 26 (0, 0)), (g20, .cells #[.int .i64 r0, .int .i64 r1] 26 (0, 0)), (g23, .cells #[.int .i64 f1, .int .i64 f2] 26 (0, 0)), (g25, .cells #[.int .i64 f1, .int .i64 f2] 26 (0, 0)), (g27, .cells #[.int .i64 e1, .int .i64 e2] 26 (0, 0)), (g29, .cells #[.int .i64 e1, .int .i64 e2] 26 (0, 0)), (g37, .cells #[.int .i64 c1, .int .i64 c2, .int .i64 c3, .int .i64 c4] 25 (0, 0)), (g39, .cells #[.int .i64 c1, .int .i64 c2, .int .i64 c3, .int .i64 c4] 25 (0, 0)), (g41, .cells #[.int .i64 u0, .int .i64 u1] 23 (0, 0))] w8 := HO
                clear L1
                obtain ⟨p37_0, p37_1, p37_2, p37_3, f37_0, f37_1, f37_2, f37_3⟩ := HO.c4 12 rfl
                obtain ⟨p13_0, p13_1, f13_0, f13_1⟩ := HO.c2 2 rfl
                obtain ⟨p41_0, p41_1, f41_0, f41_1⟩ := HO.c2 14 rfl
                obtain ⟨p15_0, p15_1, f15_0, f15_1⟩ := HO.c2 4 rfl
                obtain ⟨p14_0, p14_1, f14_0, f14_1⟩ := HO.c2 3 rfl
                go_wp2_with (first | (go_at_call 11; refine (L2 _).mono ?_; rintro e w' ⟨rfl, hb⟩; replace HO := HO.call hb; clear hb; clear p37_0 f37_0; clear p37_1 f37_1; clear p37_2 f37_2; clear p37_3 f37_3; clear p13_0 f13_0; clear p13_1 f13_1; clear p41_0 f41_0; clear p41_1 f41_1; clear p15_0 f15_0; clear p15_1 f15_1; clear p14_0 f14_0; clear p14_1 f14_1; obtain ⟨p37_0, p37_1, p37_2, p37_3, f37_0, f37_1, f37_2, f37_3⟩ := HO.c4 12 rfl; obtain ⟨p13_0, p13_1, f13_0, f13_1⟩ := HO.c2 2 rfl; obtain ⟨p41_0, p41_1, f41_0, f41_1⟩ := HO.c2 14 rfl; obtain ⟨p15_0, p15_1, f15_0, f15_1⟩ := HO.c2 4 rfl; obtain ⟨p14_0, p14_1, f14_0, f14_1⟩ := HO.c2 3 rfl))
                go_meet
                exact Own.less (HO)
        case rest =>
          as_aux_lemma =>
            clear HO; have HO := hcut; clear hcut
            revert HO; generalize wc = w8; intro HO
            go_upto_region 23 with (fail)
            obtain ⟨p16_0, p16_1, f16_0, f16_1⟩ := HO.c2 5 rfl
            obtain ⟨p17_0, p17_1, f17_0, f17_1⟩ := HO.c2 6 rfl
            go_upto_region 24 with (first | (go_at_call 12; refine (K7 _).mono ?_; rintro e w9a ⟨rfl, hb⟩; replace HO := HO.call hb; clear hb p16_0 p16_1 f16_0 f16_1 p17_0 p17_1 f17_0 f17_1))
            refine Own.gen (HO.alloc _) ?_
            clear HO; intro w9 HO; generalize w9a.heap.size = g43 at HO ⊢; clear w9a
            replace HO : Own w [(g11, .cells #[.int .i64 a0, .int .i64 a1, .int .i64 a2, .int .i64 a3] 25 (0, 0)), (g12, .cells #[.int .i64 b0, .int .i64 b1, .int .i64 b2, .int .i64 b3] 25 (0, 0)), (g13, .cells #[.int .i64 t0, .int .i64 t1] 23 (0, 0)), (g14, .cells #[.int .i64 s0, .int .i64 s1] 26 (0, 0)), (g15, .cells #[.int .i64 u0, .int .i64 u1] 23 (0, 0)), (g16, .cells #[.int .i64 p0, .int .i64 p1] 26 (0, 0)), (g17, .cells #[.int .i64 q0, .int .i64 q1] 26 (0, 0)), (g20, .cells #[.int .i64 r0, .int .i64 r1] 26 (0, 0)), (g23, .cells #[.int .i64 f1, .int .i64 f2] 26 (0, 0)), (g25, .cells #[.int .i64 f1, .int .i64 f2] 26 (0, 0)), (g27, .cells #[.int .i64 e1, .int .i64 e2] 26 (0, 0)), (g29, .cells #[.int .i64 e1, .int .i64 e2] 26 (0, 0)), (g37, .cells #[.int .i64 c1, .int .i64 c2, .int .i64 c3, .int .i64 c4] 25 (0, 0)), (g39, .cells #[.int .i64 c1, .int .i64 c2, .int .i64 c3, .int .i64 c4] 25 (0, 0)), (g43, .cells #[.int .i64 m1, .int .i64 m2] 26 (0, 0))] w9 := HO
            obtain ⟨p16_0, p16_1, f16_0, f16_1⟩ := HO.c2 5 rfl
            obtain ⟨p17_0, p17_1, f17_0, f17_1⟩ := HO.c2 6 rfl
            go_upto_region 25 with (first | (go_at_call 13; refine (K8 _).mono ?_; rintro e w10a ⟨rfl, hb⟩; replace HO := HO.call hb; clear hb p16_0 p16_1 f16_0 f16_1 p17_0 p17_1 f17_0 f17_1))
            refine Own.gen (HO.alloc _) ?_
            clear HO; intro w10 HO; generalize w10a.heap.size = g45 at HO ⊢; clear w10a
            replace HO : Own w [(g11, .cells #[.int .i64 a0, .int .i64 a1, .int .i64 a2, .int .i64 a3] 25 (0, 0)), (g12, .cells #[.int .i64 b0, .int .i64 b1, .int .i64 b2, .int .i64 b3] 25 (0, 0)), (g13, .cells #[.int .i64 t0, .int .i64 t1] 23 (0, 0)), (g14, .cells #[.int .i64 s0, .int .i64 s1] 26 (0, 0)), (g15, .cells #[.int .i64 u0, .int .i64 u1] 23 (0, 0)), (g16, .cells #[.int .i64 p0, .int .i64 p1] 26 (0, 0)), (g17, .cells #[.int .i64 q0, .int .i64 q1] 26 (0, 0)), (g20, .cells #[.int .i64 r0, .int .i64 r1] 26 (0, 0)), (g23, .cells #[.int .i64 f1, .int .i64 f2] 26 (0, 0)), (g25, .cells #[.int .i64 f1, .int .i64 f2] 26 (0, 0)), (g27, .cells #[.int .i64 e1, .int .i64 e2] 26 (0, 0)), (g29, .cells #[.int .i64 e1, .int .i64 e2] 26 (0, 0)), (g37, .cells #[.int .i64 c1, .int .i64 c2, .int .i64 c3, .int .i64 c4] 25 (0, 0)), (g39, .cells #[.int .i64 c1, .int .i64 c2, .int .i64 c3, .int .i64 c4] 25 (0, 0)), (g43, .cells #[.int .i64 m1, .int .i64 m2] 26 (0, 0)), (g45, .cells #[.int .i64 m1, .int .i64 m2] 26 (0, 0))] w10 := HO
            obtain ⟨p16_0, p16_1, f16_0, f16_1⟩ := HO.c2 5 rfl
            obtain ⟨p17_0, p17_1, f17_0, f17_1⟩ := HO.c2 6 rfl
            go_upto_region 26 with (first | (go_at_call 14; refine (K9 _).mono ?_; rintro e w11a ⟨rfl, hb⟩; replace HO := HO.call hb; clear hb p16_0 p16_1 f16_0 f16_1 p17_0 p17_1 f17_0 f17_1))
            refine Own.gen HO ?_; clear HO; intro w11 HO; clear w11a
            obtain ⟨p16_0, p16_1, f16_0, f16_1⟩ := HO.c2 5 rfl
            obtain ⟨p17_0, p17_1, f17_0, f17_1⟩ := HO.c2 6 rfl
            go_upto_region 27 with (first | (go_at_call 15; refine (K10 _).mono ?_; rintro e w12a ⟨rfl, hb⟩; replace HO := HO.call hb; clear hb p16_0 p16_1 f16_0 f16_1 p17_0 p17_1 f17_0 f17_1))
            refine Own.gen HO ?_; clear HO; intro w12 HO; clear w12a
            obtain ⟨p16_0, p16_1, f16_0, f16_1⟩ := HO.c2 5 rfl
            obtain ⟨p17_0, p17_1, f17_0, f17_1⟩ := HO.c2 6 rfl
            go_upto_region 28 with (first | (go_at_call 16; refine (K11 _).mono ?_; rintro e w13a ⟨rfl, hb⟩; replace HO := HO.call hb; clear hb p16_0 p16_1 f16_0 f16_1 p17_0 p17_1 f17_0 f17_1))
            refine Own.gen (HO.alloc _) ?_
            clear HO; intro w13 HO; generalize w13a.heap.size = g51 at HO ⊢; clear w13a
            replace HO : Own w [(g11, .cells #[.int .i64 a0, .int .i64 a1, .int .i64 a2, .int .i64 a3] 25 (0, 0)), (g12, .cells #[.int .i64 b0, .int .i64 b1, .int .i64 b2, .int .i64 b3] 25 (0, 0)), (g13, .cells #[.int .i64 t0, .int .i64 t1] 23 (0, 0)), (g14, .cells #[.int .i64 s0, .int .i64 s1] 26 (0, 0)), (g15, .cells #[.int .i64 u0, .int .i64 u1] 23 (0, 0)), (g16, .cells #[.int .i64 p0, .int .i64 p1] 26 (0, 0)), (g17, .cells #[.int .i64 q0, .int .i64 q1] 26 (0, 0)), (g20, .cells #[.int .i64 r0, .int .i64 r1] 26 (0, 0)), (g23, .cells #[.int .i64 f1, .int .i64 f2] 26 (0, 0)), (g25, .cells #[.int .i64 f1, .int .i64 f2] 26 (0, 0)), (g27, .cells #[.int .i64 e1, .int .i64 e2] 26 (0, 0)), (g29, .cells #[.int .i64 e1, .int .i64 e2] 26 (0, 0)), (g37, .cells #[.int .i64 c1, .int .i64 c2, .int .i64 c3, .int .i64 c4] 25 (0, 0)), (g39, .cells #[.int .i64 c1, .int .i64 c2, .int .i64 c3, .int .i64 c4] 25 (0, 0)), (g43, .cells #[.int .i64 m1, .int .i64 m2] 26 (0, 0)), (g45, .cells #[.int .i64 m1, .int .i64 m2] 26 (0, 0)), (g51, .cells #[.int .i64 k1, .int .i64 k2] 26 (0, 0))] w13 := HO
            obtain ⟨p16_0, p16_1, f16_0, f16_1⟩ := HO.c2 5 rfl
            obtain ⟨p17_0, p17_1, f17_0, f17_1⟩ := HO.c2 6 rfl
            go_upto_region 29 with (first | (go_at_call 17; refine (K12 _).mono ?_; rintro e w14a ⟨rfl, hb⟩; replace HO := HO.call hb; clear hb p16_0 p16_1 f16_0 f16_1 p17_0 p17_1 f17_0 f17_1))
            refine Own.gen (HO.alloc _) ?_
            clear HO; intro w14 HO; generalize w14a.heap.size = g53 at HO ⊢; clear w14a
            replace HO : Own w [(g11, .cells #[.int .i64 a0, .int .i64 a1, .int .i64 a2, .int .i64 a3] 25 (0, 0)), (g12, .cells #[.int .i64 b0, .int .i64 b1, .int .i64 b2, .int .i64 b3] 25 (0, 0)), (g13, .cells #[.int .i64 t0, .int .i64 t1] 23 (0, 0)), (g14, .cells #[.int .i64 s0, .int .i64 s1] 26 (0, 0)), (g15, .cells #[.int .i64 u0, .int .i64 u1] 23 (0, 0)), (g16, .cells #[.int .i64 p0, .int .i64 p1] 26 (0, 0)), (g17, .cells #[.int .i64 q0, .int .i64 q1] 26 (0, 0)), (g20, .cells #[.int .i64 r0, .int .i64 r1] 26 (0, 0)), (g23, .cells #[.int .i64 f1, .int .i64 f2] 26 (0, 0)), (g25, .cells #[.int .i64 f1, .int .i64 f2] 26 (0, 0)), (g27, .cells #[.int .i64 e1, .int .i64 e2] 26 (0, 0)), (g29, .cells #[.int .i64 e1, .int .i64 e2] 26 (0, 0)), (g37, .cells #[.int .i64 c1, .int .i64 c2, .int .i64 c3, .int .i64 c4] 25 (0, 0)), (g39, .cells #[.int .i64 c1, .int .i64 c2, .int .i64 c3, .int .i64 c4] 25 (0, 0)), (g43, .cells #[.int .i64 m1, .int .i64 m2] 26 (0, 0)), (g45, .cells #[.int .i64 m1, .int .i64 m2] 26 (0, 0)), (g51, .cells #[.int .i64 k1, .int .i64 k2] 26 (0, 0)), (g53, .cells #[.int .i64 k1, .int .i64 k2] 26 (0, 0))] w14 := HO
            go_upto_region 30 with (first | (go_at_call 18; refine (K13 _).mono ?_; rintro e w15a ⟨rfl, hb⟩; replace HO := HO.call hb; clear hb))
            refine Own.gen (HO.alloc _) ?_
            clear HO; intro w15 HO; generalize w15a.heap.size = g55 at HO ⊢; clear w15a
            replace HO : Own w [(g11, .cells #[.int .i64 a0, .int .i64 a1, .int .i64 a2, .int .i64 a3] 25 (0, 0)), (g12, .cells #[.int .i64 b0, .int .i64 b1, .int .i64 b2, .int .i64 b3] 25 (0, 0)), (g13, .cells #[.int .i64 t0, .int .i64 t1] 23 (0, 0)), (g14, .cells #[.int .i64 s0, .int .i64 s1] 26 (0, 0)), (g15, .cells #[.int .i64 u0, .int .i64 u1] 23 (0, 0)), (g16, .cells #[.int .i64 p0, .int .i64 p1] 26 (0, 0)), (g17, .cells #[.int .i64 q0, .int .i64 q1] 26 (0, 0)), (g20, .cells #[.int .i64 r0, .int .i64 r1] 26 (0, 0)), (g23, .cells #[.int .i64 f1, .int .i64 f2] 26 (0, 0)), (g25, .cells #[.int .i64 f1, .int .i64 f2] 26 (0, 0)), (g27, .cells #[.int .i64 e1, .int .i64 e2] 26 (0, 0)), (g29, .cells #[.int .i64 e1, .int .i64 e2] 26 (0, 0)), (g37, .cells #[.int .i64 c1, .int .i64 c2, .int .i64 c3, .int .i64 c4] 25 (0, 0)), (g39, .cells #[.int .i64 c1, .int .i64 c2, .int .i64 c3, .int .i64 c4] 25 (0, 0)), (g43, .cells #[.int .i64 m1, .int .i64 m2] 26 (0, 0)), (g45, .cells #[.int .i64 m1, .int .i64 m2] 26 (0, 0)), (g51, .cells #[.int .i64 k1, .int .i64 k2] 26 (0, 0)), (g53, .cells #[.int .i64 k1, .int .i64 k2] 26 (0, 0)), (g55, .cells #[.int .i64 g1, .int .i64 g2] 26 (0, 0))] w15 := HO
            go_upto_region 31 with (first | (go_at_call 19; refine (K14 _).mono ?_; rintro e w16a ⟨rfl, hb⟩; replace HO := HO.call hb; clear hb))
            refine Own.gen (HO.alloc _) ?_
            clear HO; intro w16 HO; generalize w16a.heap.size = g57 at HO ⊢; clear w16a
            replace HO : Own w [(g11, .cells #[.int .i64 a0, .int .i64 a1, .int .i64 a2, .int .i64 a3] 25 (0, 0)), (g12, .cells #[.int .i64 b0, .int .i64 b1, .int .i64 b2, .int .i64 b3] 25 (0, 0)), (g13, .cells #[.int .i64 t0, .int .i64 t1] 23 (0, 0)), (g14, .cells #[.int .i64 s0, .int .i64 s1] 26 (0, 0)), (g15, .cells #[.int .i64 u0, .int .i64 u1] 23 (0, 0)), (g16, .cells #[.int .i64 p0, .int .i64 p1] 26 (0, 0)), (g17, .cells #[.int .i64 q0, .int .i64 q1] 26 (0, 0)), (g20, .cells #[.int .i64 r0, .int .i64 r1] 26 (0, 0)), (g23, .cells #[.int .i64 f1, .int .i64 f2] 26 (0, 0)), (g25, .cells #[.int .i64 f1, .int .i64 f2] 26 (0, 0)), (g27, .cells #[.int .i64 e1, .int .i64 e2] 26 (0, 0)), (g29, .cells #[.int .i64 e1, .int .i64 e2] 26 (0, 0)), (g37, .cells #[.int .i64 c1, .int .i64 c2, .int .i64 c3, .int .i64 c4] 25 (0, 0)), (g39, .cells #[.int .i64 c1, .int .i64 c2, .int .i64 c3, .int .i64 c4] 25 (0, 0)), (g43, .cells #[.int .i64 m1, .int .i64 m2] 26 (0, 0)), (g45, .cells #[.int .i64 m1, .int .i64 m2] 26 (0, 0)), (g51, .cells #[.int .i64 k1, .int .i64 k2] 26 (0, 0)), (g53, .cells #[.int .i64 k1, .int .i64 k2] 26 (0, 0)), (g55, .cells #[.int .i64 g1, .int .i64 g2] 26 (0, 0)), (g57, .cells #[.int .i64 g1, .int .i64 g2] 26 (0, 0))] w16 := HO
            clear K7 K8 K9 K10 K11 K12 K13 K14
            obtain ⟨p20_0, p20_1, f20_0, f20_1⟩ := HO.c2 7 rfl
            go_upto_region 32 with (first | (go_at_call 20; refine (K15 _ HO.below).mono ?_; rintro e w17a ⟨rfl, hb⟩; replace HO := HO.call hb; clear hb p20_0 p20_1 f20_0 f20_1))
            refine Own.gen HO ?_; clear HO; intro w17 HO; clear w17a
            obtain ⟨p20_0, p20_1, f20_0, f20_1⟩ := HO.c2 7 rfl
            go_upto_region 33 with (first | (go_at_call 21; refine (K16 _).mono ?_; rintro e w18a ⟨rfl, hb⟩; replace HO := HO.call hb; clear hb p20_0 p20_1 f20_0 f20_1))
            refine Own.gen HO ?_; clear HO; intro w18 HO; clear w18a
            go_upto_region 34 with (first | (go_at_call 22; refine (K17 _ HO.below).mono ?_; rintro e w19a ⟨rfl, hb⟩; replace HO := HO.call hb; clear hb))
            refine Own.gen (HO.alloc _) ?_
            clear HO; intro w19 HO; generalize w19a.heap.size = g63 at HO ⊢; clear w19a
            replace HO : Own w [(g11, .cells #[.int .i64 a0, .int .i64 a1, .int .i64 a2, .int .i64 a3] 25 (0, 0)), (g12, .cells #[.int .i64 b0, .int .i64 b1, .int .i64 b2, .int .i64 b3] 25 (0, 0)), (g13, .cells #[.int .i64 t0, .int .i64 t1] 23 (0, 0)), (g14, .cells #[.int .i64 s0, .int .i64 s1] 26 (0, 0)), (g15, .cells #[.int .i64 u0, .int .i64 u1] 23 (0, 0)), (g16, .cells #[.int .i64 p0, .int .i64 p1] 26 (0, 0)), (g17, .cells #[.int .i64 q0, .int .i64 q1] 26 (0, 0)), (g20, .cells #[.int .i64 r0, .int .i64 r1] 26 (0, 0)), (g23, .cells #[.int .i64 f1, .int .i64 f2] 26 (0, 0)), (g25, .cells #[.int .i64 f1, .int .i64 f2] 26 (0, 0)), (g27, .cells #[.int .i64 e1, .int .i64 e2] 26 (0, 0)), (g29, .cells #[.int .i64 e1, .int .i64 e2] 26 (0, 0)), (g37, .cells #[.int .i64 c1, .int .i64 c2, .int .i64 c3, .int .i64 c4] 25 (0, 0)), (g39, .cells #[.int .i64 c1, .int .i64 c2, .int .i64 c3, .int .i64 c4] 25 (0, 0)), (g43, .cells #[.int .i64 m1, .int .i64 m2] 26 (0, 0)), (g45, .cells #[.int .i64 m1, .int .i64 m2] 26 (0, 0)), (g51, .cells #[.int .i64 k1, .int .i64 k2] 26 (0, 0)), (g53, .cells #[.int .i64 k1, .int .i64 k2] 26 (0, 0)), (g55, .cells #[.int .i64 g1, .int .i64 g2] 26 (0, 0)), (g57, .cells #[.int .i64 g1, .int .i64 g2] 26 (0, 0)), (g63, .cells #[.int .i64 d1, .int .i64 d2] 26 (0, 0))] w19 := HO
            go_upto_region 35 with (first | (go_at_call 23; refine (K18 _).mono ?_; rintro e w20a ⟨rfl, hb⟩; replace HO := HO.call hb; clear hb))
            refine Own.gen (HO.alloc _) ?_
            clear HO; intro w20 HO; generalize w20a.heap.size = g65 at HO ⊢; clear w20a
            replace HO : Own w [(g11, .cells #[.int .i64 a0, .int .i64 a1, .int .i64 a2, .int .i64 a3] 25 (0, 0)), (g12, .cells #[.int .i64 b0, .int .i64 b1, .int .i64 b2, .int .i64 b3] 25 (0, 0)), (g13, .cells #[.int .i64 t0, .int .i64 t1] 23 (0, 0)), (g14, .cells #[.int .i64 s0, .int .i64 s1] 26 (0, 0)), (g15, .cells #[.int .i64 u0, .int .i64 u1] 23 (0, 0)), (g16, .cells #[.int .i64 p0, .int .i64 p1] 26 (0, 0)), (g17, .cells #[.int .i64 q0, .int .i64 q1] 26 (0, 0)), (g20, .cells #[.int .i64 r0, .int .i64 r1] 26 (0, 0)), (g23, .cells #[.int .i64 f1, .int .i64 f2] 26 (0, 0)), (g25, .cells #[.int .i64 f1, .int .i64 f2] 26 (0, 0)), (g27, .cells #[.int .i64 e1, .int .i64 e2] 26 (0, 0)), (g29, .cells #[.int .i64 e1, .int .i64 e2] 26 (0, 0)), (g37, .cells #[.int .i64 c1, .int .i64 c2, .int .i64 c3, .int .i64 c4] 25 (0, 0)), (g39, .cells #[.int .i64 c1, .int .i64 c2, .int .i64 c3, .int .i64 c4] 25 (0, 0)), (g43, .cells #[.int .i64 m1, .int .i64 m2] 26 (0, 0)), (g45, .cells #[.int .i64 m1, .int .i64 m2] 26 (0, 0)), (g51, .cells #[.int .i64 k1, .int .i64 k2] 26 (0, 0)), (g53, .cells #[.int .i64 k1, .int .i64 k2] 26 (0, 0)), (g55, .cells #[.int .i64 g1, .int .i64 g2] 26 (0, 0)), (g57, .cells #[.int .i64 g1, .int .i64 g2] 26 (0, 0)), (g63, .cells #[.int .i64 d1, .int .i64 d2] 26 (0, 0)), (g65, .cells #[.int .i64 d1, .int .i64 d2] 26 (0, 0))] w20 := HO
            clear K15 K16 K17 K18
            go_cut [22, 377] from 307 to 377 (fun v22 v377 wc => v377 = .bool false ∧ Own w [(g11, .cells #[.int .i64 a0, .int .i64 a1, .int .i64 a2, .int .i64 a3] 25 (0, 0)), (g12, .cells #[.int .i64 b0, .int .i64 b1, .int .i64 b2, .int .i64 b3] 25 (0, 0)), (g13, .cells #[.int .i64 t0, .int .i64 t1] 23 (0, 0)), (g14, .cells #[.int .i64 s0, .int .i64 s1] 26 (0, 0)), (g15, .cells #[.int .i64 u0, .int .i64 u1] 23 (0, 0)), (g16, .cells #[.int .i64 p0, .int .i64 p1] 26 (0, 0)), (g17, .cells #[.int .i64 q0, .int .i64 q1] 26 (0, 0)), (g20, .cells #[.int .i64 r0, .int .i64 r1] 26 (0, 0)), (g23, .cells #[.int .i64 f1, .int .i64 f2] 26 (0, 0)), (g25, .cells #[.int .i64 f1, .int .i64 f2] 26 (0, 0)), (g27, .cells #[.int .i64 e1, .int .i64 e2] 26 (0, 0)), (g29, .cells #[.int .i64 e1, .int .i64 e2] 26 (0, 0)), (g37, .cells #[.int .i64 c1, .int .i64 c2, .int .i64 c3, .int .i64 c4] 25 (0, 0)), (g39, .cells #[.int .i64 c1, .int .i64 c2, .int .i64 c3, .int .i64 c4] 25 (0, 0)), (g43, .cells #[.int .i64 m1, .int .i64 m2] 26 (0, 0)), (g45, .cells #[.int .i64 m1, .int .i64 m2] 26 (0, 0)), (g51, .cells #[.int .i64 k1, .int .i64 k2] 26 (0, 0)), (g53, .cells #[.int .i64 k1, .int .i64 k2] 26 (0, 0)), (g55, .cells #[.int .i64 g1, .int .i64 g2] 26 (0, 0)), (g57, .cells #[.int .i64 g1, .int .i64 g2] 26 (0, 0)), (g63, .cells #[.int .i64 d1, .int .i64 d2] 26 (0, 0)), (g65, .cells #[.int .i64 d1, .int .i64 d2] 26 (0, 0))] wc)
            case first =>
              as_aux_lemma =>
                have Q19 : ∀ d os, Calls Tryz.prog 24 #[.agg #[.int .i64 r0, .int .i64 r1]] (grow (redrawn w20 d) os) fun e w'' => e = .returned (.bool th) ∧ ∃ p : Regrown, w'' = grow (redrawn w20 p.d) p.os := fun d os => Calls.regrown_of (K19 _)
                have Q20 : ∀ d os, Calls Tryz.prog 25 #[.agg #[.int .i64 r0, .int .i64 r1]] (grow (redrawn w20 d) os) fun e w'' => e = .returned (.bool th) ∧ ∃ p : Regrown, w'' = grow (redrawn w20 p.d) p.os := fun d os => Calls.regrown_of (K20 _)
                clear K19 K20
                obtain ⟨p43_0, p43_1, f43_0, f43_1⟩ := HO.c2 14 rfl
                obtain ⟨p45_0, p45_1, f45_0, f45_1⟩ := HO.c2 15 rfl
                obtain ⟨p51_0, p51_1, f51_0, f51_1⟩ := HO.c2 16 rfl
                obtain ⟨p53_0, p53_1, f53_0, f53_1⟩ := HO.c2 17 rfl
                obtain ⟨p55_0, p55_1, f55_0, f55_1⟩ := HO.c2 18 rfl
                obtain ⟨p57_0, p57_1, f57_0, f57_1⟩ := HO.c2 19 rfl
                obtain ⟨p63_0, p63_1, f63_0, f63_1⟩ := HO.c2 20 rfl
                obtain ⟨p65_0, p65_1, f65_0, f65_1⟩ := HO.c2 21 rfl
                obtain ⟨p20_0, p20_1, f20_0, f20_1⟩ := HO.c2 7 rfl
                have kp43_0 := cell_regrown p43_0; have kp43_1 := cell_regrown p43_1; have kp45_0 := cell_regrown p45_0; have kp45_1 := cell_regrown p45_1; have kp51_0 := cell_regrown p51_0; have kp51_1 := cell_regrown p51_1; have kp53_0 := cell_regrown p53_0; have kp53_1 := cell_regrown p53_1; have kp55_0 := cell_regrown p55_0; have kp55_1 := cell_regrown p55_1; have kp57_0 := cell_regrown p57_0; have kp57_1 := cell_regrown p57_1; have kp63_0 := cell_regrown p63_0; have kp63_1 := cell_regrown p63_1; have kp65_0 := cell_regrown p65_0; have kp65_1 := cell_regrown p65_1; have kp20_0 := cell_regrown p20_0; have kp20_1 := cell_regrown p20_1
                try dsimp only [List.append]
                refine wp_region_quiet_below (by kernel_rfl) (by kernel_rfl) ?_
                repeat (first | go_big_quiet_step (first | with_reducible exact Q19 _ _ | with_reducible exact Q20 _ _) | quiet_step (first | with_reducible exact Q19 _ _ | with_reducible exact Q20 _ _))
                refine wpQuiet_nil ?_
                intro _ hw'; obtain ⟨⟨dq, osq⟩, hw''⟩ := hw'; subst hw''
                replace HO := HO.call (below_regrown _ dq osq)
                go_wp2; go_meet
                exact ⟨by first | rfl | simp, HO⟩
            case rest =>
              as_aux_lemma =>
                clear HO; obtain ⟨rfl, HO⟩ := hcut
                revert HO; generalize wc = w21; intro HO
                clear K19 K20
                go_upto_region 37 with (fail)
                go_upto_if 378 with (fail)
                go_cut [22, 67, 68] from 378 to 398 (fun v22 v67 v68 wc => Own w [(g11, .cells #[.int .i64 a0, .int .i64 a1, .int .i64 a2, .int .i64 a3] 25 (0, 0)), (g12, .cells #[.int .i64 b0, .int .i64 b1, .int .i64 b2, .int .i64 b3] 25 (0, 0)), (g13, .cells #[.int .i64 t0, .int .i64 t1] 23 (0, 0)), (g14, .cells #[.int .i64 s0, .int .i64 s1] 26 (0, 0)), (g15, .cells #[.int .i64 u0, .int .i64 u1] 23 (0, 0)), (g16, .cells #[.int .i64 p0, .int .i64 p1] 26 (0, 0)), (g17, .cells #[.int .i64 q0, .int .i64 q1] 26 (0, 0)), (g20, .cells #[.int .i64 r0, .int .i64 r1] 26 (0, 0)), (g23, .cells #[.int .i64 f1, .int .i64 f2] 26 (0, 0)), (g25, .cells #[.int .i64 f1, .int .i64 f2] 26 (0, 0)), (g27, .cells #[.int .i64 e1, .int .i64 e2] 26 (0, 0)), (g29, .cells #[.int .i64 e1, .int .i64 e2] 26 (0, 0)), (g37, .cells #[.int .i64 c1, .int .i64 c2, .int .i64 c3, .int .i64 c4] 25 (0, 0)), (g39, .cells #[.int .i64 c1, .int .i64 c2, .int .i64 c3, .int .i64 c4] 25 (0, 0)), (g43, .cells #[.int .i64 m1, .int .i64 m2] 26 (0, 0)), (g45, .cells #[.int .i64 m1, .int .i64 m2] 26 (0, 0)), (g51, .cells #[.int .i64 k1, .int .i64 k2] 26 (0, 0)), (g53, .cells #[.int .i64 k1, .int .i64 k2] 26 (0, 0)), (g55, .cells #[.int .i64 g1, .int .i64 g2] 26 (0, 0)), (g57, .cells #[.int .i64 g1, .int .i64 g2] 26 (0, 0)), (g63, .cells #[.int .i64 d1, .int .i64 d2] 26 (0, 0)), (g65, .cells #[.int .i64 d1, .int .i64 d2] 26 (0, 0))] wc)
                case first =>
                  as_aux_lemma =>
                    cases five with
                    | false =>
                      as_aux_lemma =>
                        go_wp2
                        go_meet
                        exact HO
                    | true =>
                      as_aux_lemma =>
                        obtain ⟨X, Y, M1, M2, M3⟩ := B4.out rfl
                        have L1 := fun W => laws_wMore.calls p0 p1 q0 q1 X Y W M1
                        have L2 := fun W => impl_IsSpan.calls k m1 m2 true W M3
                        have N1a : ((wrap64 (m1 * Y)) == (wrap64 (X * m2))) = true := beq_iff_eq.mpr M2; have N1b : ((wrap64 (m1 * Y)) != (wrap64 (X * m2))) = false := bne_eq_false_iff_eq.mpr M2
                        clear M1 M2 M3
                        go_upto_region 38 with (fail)
                        obtain ⟨p16_0, p16_1, f16_0, f16_1⟩ := HO.c2 5 rfl
                        obtain ⟨p17_0, p17_1, f17_0, f17_1⟩ := HO.c2 6 rfl
                        go_upto_region 39 with (first | (go_at_call 26; refine (L1 _).mono ?_; rintro e w22a ⟨rfl, hb⟩; replace HO := HO.call hb; clear hb p16_0 p16_1 f16_0 f16_1 p17_0 p17_1 f17_0 f17_1))
                        refine Own.gen HO ?_; clear HO; intro w22 HO; clear w22a
                        clear L1
                        obtain ⟨p43_0, p43_1, f43_0, f43_1⟩ := HO.c2 14 rfl
                        go_wp2_with (first | (go_at_call 24; refine (L2 _).mono ?_; rintro e w' ⟨rfl, hb⟩; replace HO := HO.call hb; clear hb; clear p43_0 f43_0; clear p43_1 f43_1; obtain ⟨p43_0, p43_1, f43_0, f43_1⟩ := HO.c2 14 rfl))
                        go_meet
                        exact HO
                case rest =>
                  as_aux_lemma =>
                    clear HO; have HO := hcut; clear hcut
                    revert HO; generalize wc = w22; intro HO
                    go_upto_region 41 with (fail)
                    go_upto_if 399 with (fail)
                    go_cut [22, 69, 70] from 399 to 421 (fun v22 v69 v70 wc => Own w [(g11, .cells #[.int .i64 a0, .int .i64 a1, .int .i64 a2, .int .i64 a3] 25 (0, 0)), (g12, .cells #[.int .i64 b0, .int .i64 b1, .int .i64 b2, .int .i64 b3] 25 (0, 0)), (g13, .cells #[.int .i64 t0, .int .i64 t1] 23 (0, 0)), (g14, .cells #[.int .i64 s0, .int .i64 s1] 26 (0, 0)), (g15, .cells #[.int .i64 u0, .int .i64 u1] 23 (0, 0)), (g16, .cells #[.int .i64 p0, .int .i64 p1] 26 (0, 0)), (g17, .cells #[.int .i64 q0, .int .i64 q1] 26 (0, 0)), (g20, .cells #[.int .i64 r0, .int .i64 r1] 26 (0, 0)), (g23, .cells #[.int .i64 f1, .int .i64 f2] 26 (0, 0)), (g25, .cells #[.int .i64 f1, .int .i64 f2] 26 (0, 0)), (g27, .cells #[.int .i64 e1, .int .i64 e2] 26 (0, 0)), (g29, .cells #[.int .i64 e1, .int .i64 e2] 26 (0, 0)), (g37, .cells #[.int .i64 c1, .int .i64 c2, .int .i64 c3, .int .i64 c4] 25 (0, 0)), (g39, .cells #[.int .i64 c1, .int .i64 c2, .int .i64 c3, .int .i64 c4] 25 (0, 0)), (g43, .cells #[.int .i64 m1, .int .i64 m2] 26 (0, 0)), (g45, .cells #[.int .i64 m1, .int .i64 m2] 26 (0, 0)), (g51, .cells #[.int .i64 k1, .int .i64 k2] 26 (0, 0)), (g53, .cells #[.int .i64 k1, .int .i64 k2] 26 (0, 0)), (g55, .cells #[.int .i64 g1, .int .i64 g2] 26 (0, 0)), (g57, .cells #[.int .i64 g1, .int .i64 g2] 26 (0, 0)), (g63, .cells #[.int .i64 d1, .int .i64 d2] 26 (0, 0)), (g65, .cells #[.int .i64 d1, .int .i64 d2] 26 (0, 0))] wc)
                    case first =>
                      as_aux_lemma =>
                        cases seven with
                        | false =>
                          as_aux_lemma =>
                            go_wp2
                            go_meet
                            exact HO
                        | true =>
                          as_aux_lemma =>
                            obtain ⟨M1, M3⟩ := B5.out rfl; replace M3 := Aside0.mk M3
                            have L1 := fun W => impl_CompareSpans.calls k q0 q1 p0 p1 (wrap64 (-sg)) true W M1
                            clear M1
                            go_upto_region 42 with (fail)
                            obtain ⟨p17_0, p17_1, f17_0, f17_1⟩ := HO.c2 6 rfl
                            obtain ⟨p16_0, p16_1, f16_0, f16_1⟩ := HO.c2 5 rfl
                            go_upto_region 43 with (first | (go_at_call 14; refine (L1 _).mono ?_; rintro e w23a ⟨rfl, hb⟩; replace HO := HO.call hb; clear hb p17_0 p17_1 f17_0 f17_1 p16_0 p16_1 f16_0 f16_1))
                            refine Own.gen HO ?_; clear HO; intro w23 HO; clear w23a
                            clear L1
                            obtain ⟨p16_0, p16_1, f16_0, f16_1⟩ := HO.c2 5 rfl
                            obtain ⟨p17_0, p17_1, f17_0, f17_1⟩ := HO.c2 6 rfl
                            rcases M3.out with ⟨z1, z2, z3⟩ | ⟨z1, z2 | z2⟩
                            · as_aux_lemma =>
                              clear M3
                              have y1 : (sg == 0) = true := beq_iff_eq.mpr z1; have y3 : (p0 == q0) = true := beq_iff_eq.mpr z2; have y5 : (p1 == q1) = true := beq_iff_eq.mpr z3; clear z1 z2 z3
                              go_wp2
                              go_meet
                              exact HO
                            · as_aux_lemma =>
                              clear M3
                              have y1 : (sg == 0) = false := beq_eq_false_iff_ne.mpr z1
                              have y3 : (p0 == q0) = false := beq_eq_false_iff_ne.mpr z2
                              clear z1 z2
                              go_wp2
                              go_meet
                              exact HO
                            · as_aux_lemma =>
                              clear M3
                              have y1 : (sg == 0) = false := beq_eq_false_iff_ne.mpr z1
                              have y3 : (p1 == q1) = false := beq_eq_false_iff_ne.mpr z2
                              clear z1 z2
                              go_wp2
                              go_meet
                              exact HO
                    case rest =>
                      as_aux_lemma =>
                        clear HO; have HO := hcut; clear hcut
                        revert HO; generalize wc = w23; intro HO
                        go_upto_region 45 with (fail)
                        go_upto_if 422 with (fail)
                        go_cut [22, 71, 72] from 422 to 474 (fun v22 v71 v72 wc => Own w [(g11, .cells #[.int .i64 a0, .int .i64 a1, .int .i64 a2, .int .i64 a3] 25 (0, 0)), (g12, .cells #[.int .i64 b0, .int .i64 b1, .int .i64 b2, .int .i64 b3] 25 (0, 0)), (g13, .cells #[.int .i64 t0, .int .i64 t1] 23 (0, 0)), (g14, .cells #[.int .i64 s0, .int .i64 s1] 26 (0, 0)), (g15, .cells #[.int .i64 u0, .int .i64 u1] 23 (0, 0)), (g16, .cells #[.int .i64 p0, .int .i64 p1] 26 (0, 0)), (g17, .cells #[.int .i64 q0, .int .i64 q1] 26 (0, 0)), (g20, .cells #[.int .i64 r0, .int .i64 r1] 26 (0, 0)), (g23, .cells #[.int .i64 f1, .int .i64 f2] 26 (0, 0)), (g25, .cells #[.int .i64 f1, .int .i64 f2] 26 (0, 0)), (g27, .cells #[.int .i64 e1, .int .i64 e2] 26 (0, 0)), (g29, .cells #[.int .i64 e1, .int .i64 e2] 26 (0, 0)), (g37, .cells #[.int .i64 c1, .int .i64 c2, .int .i64 c3, .int .i64 c4] 25 (0, 0)), (g39, .cells #[.int .i64 c1, .int .i64 c2, .int .i64 c3, .int .i64 c4] 25 (0, 0)), (g43, .cells #[.int .i64 m1, .int .i64 m2] 26 (0, 0)), (g45, .cells #[.int .i64 m1, .int .i64 m2] 26 (0, 0)), (g51, .cells #[.int .i64 k1, .int .i64 k2] 26 (0, 0)), (g53, .cells #[.int .i64 k1, .int .i64 k2] 26 (0, 0)), (g55, .cells #[.int .i64 g1, .int .i64 g2] 26 (0, 0)), (g57, .cells #[.int .i64 g1, .int .i64 g2] 26 (0, 0)), (g63, .cells #[.int .i64 d1, .int .i64 d2] 26 (0, 0)), (g65, .cells #[.int .i64 d1, .int .i64 d2] 26 (0, 0))] wc)
                        case first =>
                          as_aux_lemma =>
                            cases nine with
                            | false =>
                              as_aux_lemma =>
                                go_wp2
                                go_meet
                                exact HO
                            | true =>
                              as_aux_lemma =>
                                obtain ⟨M1, M2, M3, M4, M5⟩ := B6.out rfl
                                have N1 : ((wrap64 (k2 * p0)) == 0) = false := beq_eq_false_iff_ne.mpr M1; have N1b : ((wrap64 (k2 * p0)) != 0) = true := bne_iff_ne.mpr M1; have N1c : ((wrap64 (k2 * p0)) = 0) = False := eq_false M1
                                have N2 : ((wrap64 (k2 * q0)) == 0) = false := beq_eq_false_iff_ne.mpr M2; have N2b : ((wrap64 (k2 * q0)) != 0) = true := bne_iff_ne.mpr M2; have N2c : ((wrap64 (k2 * q0)) = 0) = False := eq_false M2
                                have N3a : ((Int.tmod (wrap64 (k1 * p1)) (wrap64 (k2 * p0))) == (0)) = true := beq_iff_eq.mpr M3; have N3b : ((Int.tmod (wrap64 (k1 * p1)) (wrap64 (k2 * p0))) != (0)) = false := bne_eq_false_iff_eq.mpr M3
                                have N4a : ((Int.tmod (wrap64 (k1 * q1)) (wrap64 (k2 * q0))) == (0)) = true := beq_iff_eq.mpr M4; have N4b : ((Int.tmod (wrap64 (k1 * q1)) (wrap64 (k2 * q0))) != (0)) = false := bne_eq_false_iff_eq.mpr M4
                                have L1 := fun W => calls_below (laws_wCommon.calls k (wrap64 (Int.tdiv (wrap64 (k1 * p1)) (wrap64 (k2 * p0)))) (wrap64 (Int.tdiv (wrap64 (k1 * q1)) (wrap64 (k2 * q0)))) 1 W M5)
                                clear M1 M2 M3 M4 M5
                                obtain ⟨p51_0, p51_1, f51_0, f51_1⟩ := HO.c2 16 rfl
                                obtain ⟨p16_0, p16_1, f16_0, f16_1⟩ := HO.c2 5 rfl
                                obtain ⟨p17_0, p17_1, f17_0, f17_1⟩ := HO.c2 6 rfl
                                go_wp2_with (first | (go_at_call 27; refine (L1 _).mono ?_; rintro e w' ⟨rfl, hb⟩; replace HO := HO.call hb; clear hb))
                                go_meet
                                exact HO
                        case rest =>
                          as_aux_lemma =>
                            clear HO; have HO := hcut; clear hcut
                            revert HO; generalize wc = w24; intro HO
                            go_upto_region 52 with (fail)
                            go_cut [22, 494] from 475 to 494 (fun v22 v494 wc => v494 = .bool false ∧ Own w [(g11, .cells #[.int .i64 a0, .int .i64 a1, .int .i64 a2, .int .i64 a3] 25 (0, 0)), (g12, .cells #[.int .i64 b0, .int .i64 b1, .int .i64 b2, .int .i64 b3] 25 (0, 0)), (g13, .cells #[.int .i64 t0, .int .i64 t1] 23 (0, 0)), (g14, .cells #[.int .i64 s0, .int .i64 s1] 26 (0, 0)), (g15, .cells #[.int .i64 u0, .int .i64 u1] 23 (0, 0)), (g16, .cells #[.int .i64 p0, .int .i64 p1] 26 (0, 0)), (g17, .cells #[.int .i64 q0, .int .i64 q1] 26 (0, 0)), (g20, .cells #[.int .i64 r0, .int .i64 r1] 26 (0, 0)), (g23, .cells #[.int .i64 f1, .int .i64 f2] 26 (0, 0)), (g25, .cells #[.int .i64 f1, .int .i64 f2] 26 (0, 0)), (g27, .cells #[.int .i64 e1, .int .i64 e2] 26 (0, 0)), (g29, .cells #[.int .i64 e1, .int .i64 e2] 26 (0, 0)), (g37, .cells #[.int .i64 c1, .int .i64 c2, .int .i64 c3, .int .i64 c4] 25 (0, 0)), (g39, .cells #[.int .i64 c1, .int .i64 c2, .int .i64 c3, .int .i64 c4] 25 (0, 0)), (g43, .cells #[.int .i64 m1, .int .i64 m2] 26 (0, 0)), (g45, .cells #[.int .i64 m1, .int .i64 m2] 26 (0, 0)), (g51, .cells #[.int .i64 k1, .int .i64 k2] 26 (0, 0)), (g53, .cells #[.int .i64 k1, .int .i64 k2] 26 (0, 0)), (g55, .cells #[.int .i64 g1, .int .i64 g2] 26 (0, 0)), (g57, .cells #[.int .i64 g1, .int .i64 g2] 26 (0, 0)), (g63, .cells #[.int .i64 d1, .int .i64 d2] 26 (0, 0)), (g65, .cells #[.int .i64 d1, .int .i64 d2] 26 (0, 0))] wc)
                            case first =>
                              as_aux_lemma =>
                                cases eleven with
                                | false =>
                                  as_aux_lemma =>
                                    obtain ⟨p55_0, p55_1, f55_0, f55_1⟩ := HO.c2 18 rfl
                                    have kp55_0 := cell_regrown p55_0; have kp55_1 := cell_regrown p55_1
                                    try dsimp only [List.append]
                                    refine wp_region_quiet_below (by kernel_rfl) (by kernel_rfl) ?_
                                    repeat (first | go_big_quiet_step (first | with_reducible exact trivial _ _) | quiet_step (first | with_reducible exact trivial _ _))
                                    refine wpQuiet_nil ?_
                                    intro _ hw'; obtain ⟨⟨dq, osq⟩, hw''⟩ := hw'; subst hw''
                                    replace HO := HO.call (below_regrown _ dq osq)
                                    go_wp2; go_meet
                                    exact ⟨by first | rfl | simp, HO⟩
                                | true =>
                                  as_aux_lemma =>
                                    obtain ⟨wc, M1, M2, M3⟩ := B7.out rfl
                                    have L1 := fun W => calls_below (laws_wCommon.calls k nu de wc W M1)
                                    have Q1 : ∀ d os, Calls Tryz.prog 27 #[.int .i64 nu, .int .i64 de] (grow (redrawn w24 d) os) fun e w'' => e = .returned (.int .i64 wc) ∧ ∃ p : Regrown, w'' = grow (redrawn w24 p.d) p.os := fun d os => Calls.regrown_of (L1 _)
                                    replace Q1 := Aside0.mk Q1
                                    have N1 : ((wc) == 0) = false := beq_eq_false_iff_ne.mpr M2; have N1b : ((wc) != 0) = true := bne_iff_ne.mpr M2; have N1c : ((wc) = 0) = False := eq_false M2
                                    have N2a : ((wrap64 (g1 * wrap64 (Int.tdiv de wc))) == (wrap64 (wrap64 (Int.tdiv nu wc) * g2))) = true := beq_iff_eq.mpr M3; have N2b : ((wrap64 (g1 * wrap64 (Int.tdiv de wc))) != (wrap64 (wrap64 (Int.tdiv nu wc) * g2))) = false := bne_eq_false_iff_eq.mpr M3
                                    have M4 : IntKind.i64.wrap (g1 * IntKind.i64.wrap (Int.tdiv de wc)) = IntKind.i64.wrap (IntKind.i64.wrap (Int.tdiv nu wc) * g2) := by simp only [i64_w]; exact M3
                                    have N3a : ((IntKind.i64.wrap (g1 * IntKind.i64.wrap (Int.tdiv de wc))) == (IntKind.i64.wrap (IntKind.i64.wrap (Int.tdiv nu wc) * g2))) = true := beq_iff_eq.mpr M4; have N3b : ((IntKind.i64.wrap (g1 * IntKind.i64.wrap (Int.tdiv de wc))) != (IntKind.i64.wrap (IntKind.i64.wrap (Int.tdiv nu wc) * g2))) = false := bne_eq_false_iff_eq.mpr M4
                                    clear M1 M2 M3 M4 L1
                                    obtain ⟨p55_0, p55_1, f55_0, f55_1⟩ := HO.c2 18 rfl
                                    have kp55_0 := cell_regrown p55_0; have kp55_1 := cell_regrown p55_1
                                    try dsimp only [List.append]
                                    refine wp_region_quiet_below (by kernel_rfl) (by kernel_rfl) ?_
                                    repeat (first | go_big_quiet_step (first | with_reducible exact Q1.out _ _) | quiet_step (first | with_reducible exact Q1.out _ _))
                                    refine wpQuiet_nil ?_
                                    intro _ hw'; obtain ⟨⟨dq, osq⟩, hw''⟩ := hw'; subst hw''
                                    replace HO := HO.call (below_regrown _ dq osq)
                                    go_wp2; go_meet
                                    exact ⟨by first | rfl | simp, HO⟩
                            case rest =>
                              as_aux_lemma =>
                                clear HO; obtain ⟨rfl, HO⟩ := hcut
                                revert HO; generalize wc = w25; intro HO
                                go_upto_region 54 with (fail)
                                go_upto_if 495 with (fail)
                                go_cut [22, 73, 74] from 495 to 507 (fun v22 v73 v74 wc => Own w [(g11, .cells #[.int .i64 a0, .int .i64 a1, .int .i64 a2, .int .i64 a3] 25 (0, 0)), (g12, .cells #[.int .i64 b0, .int .i64 b1, .int .i64 b2, .int .i64 b3] 25 (0, 0)), (g13, .cells #[.int .i64 t0, .int .i64 t1] 23 (0, 0)), (g14, .cells #[.int .i64 s0, .int .i64 s1] 26 (0, 0)), (g15, .cells #[.int .i64 u0, .int .i64 u1] 23 (0, 0)), (g16, .cells #[.int .i64 p0, .int .i64 p1] 26 (0, 0)), (g17, .cells #[.int .i64 q0, .int .i64 q1] 26 (0, 0)), (g20, .cells #[.int .i64 r0, .int .i64 r1] 26 (0, 0)), (g23, .cells #[.int .i64 f1, .int .i64 f2] 26 (0, 0)), (g25, .cells #[.int .i64 f1, .int .i64 f2] 26 (0, 0)), (g27, .cells #[.int .i64 e1, .int .i64 e2] 26 (0, 0)), (g29, .cells #[.int .i64 e1, .int .i64 e2] 26 (0, 0)), (g37, .cells #[.int .i64 c1, .int .i64 c2, .int .i64 c3, .int .i64 c4] 25 (0, 0)), (g39, .cells #[.int .i64 c1, .int .i64 c2, .int .i64 c3, .int .i64 c4] 25 (0, 0)), (g43, .cells #[.int .i64 m1, .int .i64 m2] 26 (0, 0)), (g45, .cells #[.int .i64 m1, .int .i64 m2] 26 (0, 0)), (g51, .cells #[.int .i64 k1, .int .i64 k2] 26 (0, 0)), (g53, .cells #[.int .i64 k1, .int .i64 k2] 26 (0, 0)), (g55, .cells #[.int .i64 g1, .int .i64 g2] 26 (0, 0)), (g57, .cells #[.int .i64 g1, .int .i64 g2] 26 (0, 0)), (g63, .cells #[.int .i64 d1, .int .i64 d2] 26 (0, 0)), (g65, .cells #[.int .i64 d1, .int .i64 d2] 26 (0, 0))] wc)
                                case first =>
                                  as_aux_lemma =>
                                    cases th with
                                    | false =>
                                      as_aux_lemma =>
                                        go_wp2
                                        go_meet
                                        exact HO
                                    | true =>
                                      as_aux_lemma =>
                                        have L1 := P8.out rfl
                                        go_upto_region 55 with (fail)
                                        go_upto_region 56 with (first | (go_at_call 22; refine (L1 _ HO.below).mono ?_; rintro e w26a ⟨rfl, hb⟩; replace HO := HO.call hb; clear hb))
                                        refine Own.gen (HO.alloc _) ?_
                                        clear HO; intro w26 HO; generalize w26a.heap.size = g73 at HO ⊢; clear w26a
                                        replace HO : Own w [(g11, .cells #[.int .i64 a0, .int .i64 a1, .int .i64 a2, .int .i64 a3] 25 (0, 0)), (g12, .cells #[.int .i64 b0, .int .i64 b1, .int .i64 b2, .int .i64 b3] 25 (0, 0)), (g13, .cells #[.int .i64 t0, .int .i64 t1] 23 (0, 0)), (g14, .cells #[.int .i64 s0, .int .i64 s1] 26 (0, 0)), (g15, .cells #[.int .i64 u0, .int .i64 u1] 23 (0, 0)), (g16, .cells #[.int .i64 p0, .int .i64 p1] 26 (0, 0)), (g17, .cells #[.int .i64 q0, .int .i64 q1] 26 (0, 0)), (g20, .cells #[.int .i64 r0, .int .i64 r1] 26 (0, 0)), (g23, .cells #[.int .i64 f1, .int .i64 f2] 26 (0, 0)), (g25, .cells #[.int .i64 f1, .int .i64 f2] 26 (0, 0)), (g27, .cells #[.int .i64 e1, .int .i64 e2] 26 (0, 0)), (g29, .cells #[.int .i64 e1, .int .i64 e2] 26 (0, 0)), (g37, .cells #[.int .i64 c1, .int .i64 c2, .int .i64 c3, .int .i64 c4] 25 (0, 0)), (g39, .cells #[.int .i64 c1, .int .i64 c2, .int .i64 c3, .int .i64 c4] 25 (0, 0)), (g43, .cells #[.int .i64 m1, .int .i64 m2] 26 (0, 0)), (g45, .cells #[.int .i64 m1, .int .i64 m2] 26 (0, 0)), (g51, .cells #[.int .i64 k1, .int .i64 k2] 26 (0, 0)), (g53, .cells #[.int .i64 k1, .int .i64 k2] 26 (0, 0)), (g55, .cells #[.int .i64 g1, .int .i64 g2] 26 (0, 0)), (g57, .cells #[.int .i64 g1, .int .i64 g2] 26 (0, 0)), (g63, .cells #[.int .i64 d1, .int .i64 d2] 26 (0, 0)), (g65, .cells #[.int .i64 d1, .int .i64 d2] 26 (0, 0)), (g73, .cells #[.int .i64 r0, .int .i64 r1] 26 (0, 0))] w26 := HO
                                        clear L1
                                        obtain ⟨p73_0, p73_1, f73_0, f73_1⟩ := HO.c2 22 rfl
                                        obtain ⟨p20_0, p20_1, f20_0, f20_1⟩ := HO.c2 7 rfl
                                        go_wp2
                                        go_meet
                                        exact Own.less (HO)
                                case rest =>
                                  as_aux_lemma =>
                                    clear HO; have HO := hcut; clear hcut
                                    revert HO; generalize wc = w26; intro HO
                                    go_upto_region 58 with (fail)
                                    cases fi with
                                    | false =>
                                      as_aux_lemma =>
                                        go_wp2
                                        go_ret
                                        exact ⟨by first | rfl | simp, HO.below⟩
                                    | true =>
                                      as_aux_lemma =>
                                        have L1 := P9.out rfl
                                        go_upto_region 59 with (fail)
                                        obtain ⟨p63_0, p63_1, f63_0, f63_1⟩ := HO.c2 20 rfl
                                        go_upto_region 60 with (first | (go_at_call 20; refine (L1 _ HO.below).mono ?_; rintro e w27a ⟨rfl, hb⟩; replace HO := HO.call hb; clear hb p63_0 p63_1 f63_0 f63_1))
                                        refine Own.gen HO ?_; clear HO; intro w27 HO; clear w27a
                                        clear L1
                                        go_wp2
                                        go_ret
                                        exact ⟨by first | rfl | simp, HO.below⟩
  · have N1 : decide ((l.size : Int) > 1048576) = true := decide_eq_true (by omega); have N2 : decide ((1048576 : Int) < l.size) = true := decide_eq_true (by omega)
    clear hl P17 P18 P8 P9 K1 K2 K3 K4 K5 K6 K7 K8 K9 K10 K11 K12 K13 K14 K15 K16 K19 K20
    go_wp2
    go_ret
    exact ⟨rfl, HO.below⟩
end Go.Proofs.YtdhifobbaniogabGreatDoor.PFnClocksAgreeOfAll
