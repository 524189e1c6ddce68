/- The walk of FnClocksAgree, directed: what its calls return is given, its tests are decided. Written by a program of this repo (wip/gen/lawgen.py, wip/law). -/
import Derived.Test.YtejlandhfnnkiaaGreatDoorPFnClocksAgreex0
import Derived.Test.YtejlandhfnnkiaaGreatDoorPFnClocksAgreex1
import Derived.Test.YtejlandhfnnkiaaGreatDoorPFnClocksAgreex2
import Derived.Test.YtejlandhfnnkiaaGreatDoorPFnClocksAgreex3
import Derived.Test.YtejlandhfnnkiaaGreatDoorPFnClocksAgreex4
import Derived.Test.YtejlandhfnnkiaaGreatDoorPFnClocksAgreex5
import Derived.Test.YtejlandhfnnkiaaGreatDoorPFnClocksAgreex6
import Derived.Test.YtejlandhfnnkiaaGreatDoorPFnClocksAgreex7
import Derived.Test.YtejlandhfnnkiaaGreatDoorPFnClocksAgreex8
import Derived.Test.YtejlandhfnnkiaaGreatDoorPFnClocksAgreex9
import Derived.Test.YtejlandhfnnkiaaGreatDoorPFnClocksAgreex10
import Derived.Test.YtejlandhfnnkiaaGreatDoorPFnClocksAgreex11
import Derived.Test.YtejlandhfnnkiaaGreatDoorPFnClocksAgreex12
import Derived.Test.YtejlandhfnnkiaaGreatDoorPFnClocksAgreex13
import Derived.Test.YtejlandhfnnkiaaGreatDoorPFnClocksAgreex14
import Derived.Test.YtejlandhfnnkiaaGreatDoorPFnClocksAgreex15
import Derived.Test.YtejlandhfnnkiaaGreatDoorPFnClocksAgreex16
import Derived.Test.YtejlandhfnnkiaaGreatDoorPFnClocksAgreex17
import Derived.Test.YtejlandhfnnkiaaGreatDoorPFnClocksAgreex18
import Derived.Test.YtejlandhfnnkiaaGreatDoorPFnClocksAgreex19
import Derived.Test.YtejlandhfnnkiaaGreatDoorPFnClocksAgreex20
import Derived.Test.YtejlandhfnnkiaaGreatDoorPFnClocksAgreex21
import Derived.Test.YtejlandhfnnkiaaGreatDoorPFnClocksAgreex22
import Derived.Test.YtejlandhfnnkiaaGreatDoorPFnClocksAgreex23
import Derived.Test.YtejlandhfnnkiaaGreatDoorPFnClocksAgreex24
import Derived.Test.YtejlandhfnnkiaaGreatDoorPFnClocksAgreex25
import Derived.Test.YtejlandhfnnkiaaGreatDoorPFnClocksAgreex26
import Derived.Test.YtejlandhfnnkiaaGreatDoorPFnClocksAgreex27
import Derived.Test.YtejlandhfnnkiaaGreatDoorPFnClocksAgreex28
import Derived.Test.YtejlandhfnnkiaaGreatDoorPFnClocksAgreex29
import Derived.Test.YtejlandhfnnkiaaGreatDoorPFnClocksAgreex30
import Derived.Test.YtejlandhfnnkiaaGreatDoorPFnClocksAgreex31
import Derived.Test.YtejlandhfnnkiaaGreatDoorPFnClocksAgreex32
import Derived.Deep.DeepCutAuto
import Derived.Lib.QuietBelow
import Derived.BigQuiet
set_option linter.unusedVariables false
set_option linter.unusedSimpArgs false
namespace Go.Proofs.YtejlandhfnnkiaaGreatDoor.PFnClocksAgree
open Go.RowKit Go.Sort Go.Proofs.YtejlandhfnnkiaaGreatDoorW.PrintWords Go.Proofs.YtejlandhfnnkiaaGreatDoorW.PrintLast Go.Proofs.YtejlandhfnnkiaaGreatDoorW.PrintMore
theorem calls_below {P : Program} {f : FuncId} {a : Array Value} {W : World} {v : Ending} (h : Calls P f a W fun e w' => e = v ∧ Drawn0 W w') : Calls P f a W fun e w' => e = v ∧ Below W.heap.size W w' := h.mono fun _ _ ⟨e1, nd, e2⟩ => ⟨e1, by subst e2; exact pw_below_drewN (Below.refl _ _) nd⟩
attribute [local go_sem high] eqA25 eqA27 eqA30
set_option maxHeartbeats 60000000 in
set_option maxRecDepth 100000 in
theorem walkV (k : Nat) (a0 a1 a2 a3 b0 b1 b2 b3 t0 t1 s0 s1 u0 u1 p0 p1 q0 q1 nu de r0 r1 f1 f2 e1 e2 c1 c2 c3 c4 m1 m2 sg k1 k2 g1 g2 d1 d2 : Int) (ok one three five seven nine eleven th fi big : Bool) (w : World) (tx l : ByteArray) (ht : HasTab w) (he : HasErr w) (A_0 : Option Addr) (c_0 : Nat) (l0 : List Int) (A_1 : Option Addr) (c_1 : Nat) (l1 : List Int) (hr0 : Kd.C (Kd.int .u8) w A_0 l0.length l0) (hc0 : l0.length ≤ c_0) (hr1 : Kd.C (Kd.int .u8) w A_1 l1.length l1) (hc1 : l1.length ≤ c_1)
  (A0 : laws_big.f l0 l1 = some big)
  (D1 : big = false → spec_DrawFirstAgree.f k l0 = some (a0, a1, a2, a3, b0, b1, b2, b3))
  (D2 : big = false → spec_DrawClockOfReadings.f k l1 = some (t0, t1, s0, s1, u0, u1))
  (D3 : big = false → spec_DrawAddSpans.f k l1 = some (p0, p1, q0, q1))
  (D4 : big = false → spec_DrawMakeSpan.f l1 = some (nu, de))
  (D5 : big = false → spec_DrawSpanText.f k l1 = some (r0, r1))
  (D6 : big = false → spec_DrawParseSpan.f k l1 = some l)
  (BL : l.size ≤ 1048576)
  (A1 : impl_FirstAgree.f k a0 a1 a2 a3 b0 b1 b2 b3 = some (f1, f2, ok))
  (A2 : spec_FirstAgree.f k a0 a1 a2 a3 b0 b1 b2 b3 = some (f1, f2, ok))
  (A3 : impl_AgreeEvery.f k a0 a1 a2 a3 b0 b1 b2 b3 = some (e1, e2, one))
  (A4 : spec_AgreeEvery.f k a0 a1 a2 a3 b0 b1 b2 b3 = some (e1, e2, one))
  (B1 : ok = true → ∃ x1 x2 xx, impl_ShownAfter.f k a0 a1 a2 a3 f1 f2 = some (x1, x2, xx) ∧ impl_ShownAfter.f k b0 b1 b2 b3 f1 f2 = some (x1, x2, xx) ∧ impl_FirstAgree.f k b0 b1 b2 b3 a0 a1 a2 a3 = some (f1, f2, true) ∧ ¬ f1 < 1)
  (B2 : ok = true → one = true → ¬ wrap64 (f1 * e2) > wrap64 (e1 * f2))
  (A5 : impl_ClockOfReadings.f k t0 t1 s0 s1 u0 u1 = some (c1, c2, c3, c4, three))
  (A6 : spec_ClockOfReadings.f k t0 t1 s0 s1 u0 u1 = some (c1, c2, c3, c4, three))
  (B3 : three = true → impl_ShownAfter.f k c1 c2 c3 c4 s0 s1 = some (u0, u1, true) ∧ impl_IsClock.f k c1 c2 c3 c4 = some true ∧ c1 = t0 ∧ c2 = t1 ∧ ¬ wrap64 (c3 * s0) ≥ wrap64 (c4 * s1))
  (A7 : impl_AddSpans.f k p0 p1 q0 q1 = some (m1, m2, five))
  (A8 : spec_AddSpans.f k p0 p1 q0 q1 = some (m1, m2, five))
  (A9 : impl_CompareSpans.f k p0 p1 q0 q1 = some (sg, seven))
  (A10 : spec_CompareSpans.f k p0 p1 q0 q1 = some (sg, seven))
  (A11 : impl_CommonSpan.f k p0 p1 q0 q1 = some (k1, k2, nine))
  (A12 : spec_CommonSpan.f k p0 p1 q0 q1 = some (k1, k2, nine))
  (A13 : impl_MakeSpan.f k nu de = some (g1, g2, eleven))
  (A14 : spec_MakeSpan.f k nu de = some (g1, g2, eleven))
  (A15 : impl_SpanText.f k r0 r1 = some (tx, th))
  (A16 : spec_SpanText.f k r0 r1 = some (tx, th))
  (A17 : l.size ≤ 1048576 → impl_ParseSpan.f k l = some (d1, d2, fi))
  (A18 : l.size ≤ 1048576 → spec_ParseSpan.f k l = some (d1, d2, fi))
  (A19 : impl_IsSpan.f k r0 r1 = some th)
  (A20 : spec_IsSpan.f k r0 r1 = some th)
  (B4 : five = true → ∃ X Y, laws_wMore.f p0 p1 q0 q1 = some (X, Y) ∧ wrap64 (m1 * Y) = wrap64 (X * m2) ∧ impl_IsSpan.f k m1 m2 = some true)
  (B5 : seven = true → impl_CompareSpans.f k q0 q1 p0 p1 = some (wrap64 (-sg), true) ∧ ((sg = 0 ∧ p0 = q0 ∧ p1 = q1) ∨ (sg ≠ 0 ∧ (p0 ≠ q0 ∨ p1 ≠ q1))))
  (B6 : nine = true → wrap64 (k2 * p0) ≠ 0 ∧ wrap64 (k2 * q0) ≠ 0 ∧ Int.tmod (wrap64 (k1 * p1)) (wrap64 (k2 * p0)) = 0 ∧ Int.tmod (wrap64 (k1 * q1)) (wrap64 (k2 * q0)) = 0 ∧ laws_wCommon.f k (wrap64 (Int.tdiv (wrap64 (k1 * p1)) (wrap64 (k2 * p0)))) (wrap64 (Int.tdiv (wrap64 (k1 * q1)) (wrap64 (k2 * q0)))) = some 1)
  (B7 : eleven = true → ∃ wc, laws_wCommon.f k nu de = some wc ∧ wc ≠ 0 ∧ wrap64 (g1 * wrap64 (Int.tdiv de wc)) = wrap64 (wrap64 (Int.tdiv nu wc) * g2))
  (B8 : th = true → impl_ParseSpan.f k tx = some (r0, r1, true) ∧ tx.size ≤ 281474976710656)
  (B9 : l.size ≤ 1048576 → fi = true → impl_SpanText.f k d1 d2 = some (l, true)) :
    Calls Tryz.prog 3 #[.slice A_0 l0.length c_0, .slice A_1 l1.length c_1] w fun e w' => e = .returned (.bool true) ∧ Below w.heap.size w w' := by
  have hu25 := Tryz.underlying25
  have hu27 := Tryz.underlying27
  have hu30 := Tryz.underlying30
  have KB := laws_big.calls A_0 c_0 l0 A_1 c_1 l1 big w hr0 hc0 hr1 hc1 A0
  have K1 := fun W => impl_FirstAgree.calls k a0 a1 a2 a3 b0 b1 b2 b3 f1 f2 ok W A1
  have K2 := fun W => spec_FirstAgree.calls k a0 a1 a2 a3 b0 b1 b2 b3 f1 f2 ok W A2
  have K3 := fun W => impl_AgreeEvery.calls k a0 a1 a2 a3 b0 b1 b2 b3 e1 e2 one W A3
  have K4 := fun W => spec_AgreeEvery.calls k a0 a1 a2 a3 b0 b1 b2 b3 e1 e2 one W A4
  have K5 := fun W => impl_ClockOfReadings.calls k t0 t1 s0 s1 u0 u1 c1 c2 c3 c4 three W A5
  have K6 := fun W => spec_ClockOfReadings.calls k t0 t1 s0 s1 u0 u1 c1 c2 c3 c4 three W A6
  have K7 := fun W => impl_AddSpans.calls k p0 p1 q0 q1 m1 m2 five W A7
  have K8 := fun W => spec_AddSpans.calls k p0 p1 q0 q1 m1 m2 five W A8
  have K9 := fun W => impl_CompareSpans.calls k p0 p1 q0 q1 sg seven W A9
  have K10 := fun W => spec_CompareSpans.calls k p0 p1 q0 q1 sg seven W A10
  have K11 := fun W => impl_CommonSpan.calls k p0 p1 q0 q1 k1 k2 nine W A11
  have K12 := fun W => spec_CommonSpan.calls k p0 p1 q0 q1 k1 k2 nine W A12
  have K13 := fun W => impl_MakeSpan.calls k nu de g1 g2 eleven W A13
  have K14 := fun W => spec_MakeSpan.calls k nu de g1 g2 eleven W A14
  have K19 := fun W => impl_IsSpan.calls k r0 r1 th W A19
  have K20 := fun W => spec_IsSpan.calls k r0 r1 th W A20
  have K16 := fun W => spec_SpanText.calls k r0 r1 tx th W A16
  have K15 := fun W (hb : Below w.heap.size w W) => impl_SpanText.calls k r0 r1 tx th W (ht.on hb) A15
  have P17 := Aside0.mk (fun (hl : l.size ≤ 1048576) W (hb : Below w.heap.size w W) => impl_ParseSpan.calls k l d1 d2 fi W (by omega) (ht.on hb) (he.on hb) (A17 hl))
  have P18 := Aside0.mk (fun (hl : l.size ≤ 1048576) W => spec_ParseSpan.calls k l d1 d2 fi W (A18 hl))
  have P8 := Aside0.mk (fun (h : th = true) W (hb : Below w.heap.size w W) => impl_ParseSpan.calls k tx r0 r1 true W (B8 h).2 (ht.on hb) (he.on hb) (B8 h).1)
  have P9 := Aside0.mk (fun (hl : l.size ≤ 1048576) (h : fi = true) W (hb : Below w.heap.size w W) => impl_SpanText.calls k d1 d2 l true W (ht.on hb) (B9 hl h))
  replace B1 := Aside0.mk B1
  replace B2 := Aside0.mk B2
  replace B3 := Aside0.mk B3
  replace B4 := Aside0.mk B4
  replace B5 := Aside0.mk B5
  replace B6 := Aside0.mk B6
  replace B7 := Aside0.mk B7
  clear B8 B9 ht he A1 A2 A3 A4 A5 A6 A7 A8 A9 A10 A11 A12 A13 A14 A15 A16 A17 A18 A19 A20
  replace D1 := Aside0.mk D1; replace D2 := Aside0.mk D2; replace D3 := Aside0.mk D3; replace D4 := Aside0.mk D4; replace D5 := Aside0.mk D5; replace D6 := Aside0.mk D6; clear A0
  have K17 := P17.out BL; have K18 := P18.out BL; replace P9 := Aside0.mk (P9.out BL); clear P17 P18 BL
  go_enter Tryz.func3, Tryz.ntmps3
  cases big with
  | true =>
    clear P8 P9 K1 K2 K3 K4 K5 K6 K7 K8 K9 K10 K11 K12 K13 K14 K15 K16 K17 K18 K19 K20
    go_wp2_with (first | (go_at_call 4; refine KB.mono ?_; rintro e w' ⟨rfl, nd, rfl⟩))
    go_ret
    exact ⟨rfl, pw_below_drewN (Below.refl _ _) nd⟩
  | false =>
    as_aux_lemma =>
      replace D1 := D1.out rfl; replace D2 := D2.out rfl; replace D3 := D3.out rfl; replace D4 := D4.out rfl; replace D5 := D5.out rfl; replace D6 := D6.out rfl
      have KD1 := fun W (hb : Below w.heap.size w W) => spec_DrawFirstAgree.calls k A_0 c_0 l0 a0 a1 a2 a3 b0 b1 b2 b3 W (Kd.C_below hr0 hb) hc0 D1
      have KD2 := fun W (hb : Below w.heap.size w W) => spec_DrawClockOfReadings.calls k A_1 c_1 l1 t0 t1 s0 s1 u0 u1 W (Kd.C_below hr1 hb) hc1 D2
      have KD3 := fun W (hb : Below w.heap.size w W) => spec_DrawAddSpans.calls k A_1 c_1 l1 p0 p1 q0 q1 W (Kd.C_below hr1 hb) hc1 D3
      have KD4 := fun W (hb : Below w.heap.size w W) => spec_DrawMakeSpan.calls A_1 c_1 l1 nu de W (Kd.C_below hr1 hb) hc1 D4
      have KD5 := fun W (hb : Below w.heap.size w W) => spec_DrawSpanText.calls k A_1 c_1 l1 r0 r1 W (Kd.C_below hr1 hb) hc1 D5
      have KD6 := fun W (hb : Below w.heap.size w W) => spec_DrawParseSpan.calls k A_1 c_1 l1 l W (Kd.C_below hr1 hb) hc1 D6
      clear D1 D2 D3 D4 D5 D6 hr0 hr1 hc0 hc1
      go_upto_region 3 with (first | (go_at_call 4; refine KB.mono ?_; rintro e w' ⟨rfl, nd, rfl⟩))
      refine Own.gen ((Own.start w).drewN nd) ?_
      clear KB; intro w0 HO
      go_upto_region 4 with (first | (go_at_call 5; refine (KD1 _ HO.below).mono ?_; rintro e w1a ⟨rfl, hb⟩; replace HO := HO.call hb; clear hb))
      refine Own.gen ((HO.alloc_at rfl _).1.alloc_at (HO.alloc_at rfl _).2 _).1 ?_
      clear HO; intro w1 HO
      generalize w1a.heap.size + 1 = g6 at HO ⊢
      generalize w1a.heap.size = g5 at HO ⊢
      clear w1a
      replace HO : Own w [(g5, .cells #[.int .i64 a0, .int .i64 a1, .int .i64 a2, .int .i64 a3] 27 (0, 0)), (g6, .cells #[.int .i64 b0, .int .i64 b1, .int .i64 b2, .int .i64 b3] 27 (0, 0))] w1 := HO
      clear KD1
      obtain ⟨p5_0, p5_1, p5_2, p5_3, f5_0, f5_1, f5_2, f5_3⟩ := HO.c4 0 rfl
      obtain ⟨p6_0, p6_1, p6_2, p6_3, f6_0, f6_1, f6_2, f6_3⟩ := HO.c4 1 rfl
      go_upto_region 5 with (first | (go_at_call 6; refine (K1 _).mono ?_; rintro e w2a ⟨rfl, hb⟩; replace HO := HO.call hb; clear hb p5_0 p5_1 p5_2 p5_3 f5_0 f5_1 f5_2 f5_3 p6_0 p6_1 p6_2 p6_3 f6_0 f6_1 f6_2 f6_3))
      refine Own.gen (HO.alloc _) ?_
      clear HO; intro w2 HO; generalize w2a.heap.size = g7 at HO ⊢; clear w2a
      replace HO : Own w [(g5, .cells #[.int .i64 a0, .int .i64 a1, .int .i64 a2, .int .i64 a3] 27 (0, 0)), (g6, .cells #[.int .i64 b0, .int .i64 b1, .int .i64 b2, .int .i64 b3] 27 (0, 0)), (g7, .cells #[.int .i64 f1, .int .i64 f2] 30 (0, 0))] w2 := HO
      obtain ⟨p5_0, p5_1, p5_2, p5_3, f5_0, f5_1, f5_2, f5_3⟩ := HO.c4 0 rfl
      obtain ⟨p6_0, p6_1, p6_2, p6_3, f6_0, f6_1, f6_2, f6_3⟩ := HO.c4 1 rfl
      go_upto_region 6 with (first | (go_at_call 7; refine (K2 _).mono ?_; rintro e w3a ⟨rfl, hb⟩; replace HO := HO.call hb; clear hb p5_0 p5_1 p5_2 p5_3 f5_0 f5_1 f5_2 f5_3 p6_0 p6_1 p6_2 p6_3 f6_0 f6_1 f6_2 f6_3))
      refine Own.gen (HO.alloc _) ?_
      clear HO; intro w3 HO; generalize w3a.heap.size = g9 at HO ⊢; clear w3a
      replace HO : Own w [(g5, .cells #[.int .i64 a0, .int .i64 a1, .int .i64 a2, .int .i64 a3] 27 (0, 0)), (g6, .cells #[.int .i64 b0, .int .i64 b1, .int .i64 b2, .int .i64 b3] 27 (0, 0)), (g7, .cells #[.int .i64 f1, .int .i64 f2] 30 (0, 0)), (g9, .cells #[.int .i64 f1, .int .i64 f2] 30 (0, 0))] w3 := HO
      obtain ⟨p5_0, p5_1, p5_2, p5_3, f5_0, f5_1, f5_2, f5_3⟩ := HO.c4 0 rfl
      obtain ⟨p6_0, p6_1, p6_2, p6_3, f6_0, f6_1, f6_2, f6_3⟩ := HO.c4 1 rfl
      go_upto_region 7 with (first | (go_at_call 8; refine (K3 _).mono ?_; rintro e w4a ⟨rfl, hb⟩; replace HO := HO.call hb; clear hb p5_0 p5_1 p5_2 p5_3 f5_0 f5_1 f5_2 f5_3 p6_0 p6_1 p6_2 p6_3 f6_0 f6_1 f6_2 f6_3))
      refine Own.gen (HO.alloc _) ?_
      clear HO; intro w4 HO; generalize w4a.heap.size = g11 at HO ⊢; clear w4a
      replace HO : Own w [(g5, .cells #[.int .i64 a0, .int .i64 a1, .int .i64 a2, .int .i64 a3] 27 (0, 0)), (g6, .cells #[.int .i64 b0, .int .i64 b1, .int .i64 b2, .int .i64 b3] 27 (0, 0)), (g7, .cells #[.int .i64 f1, .int .i64 f2] 30 (0, 0)), (g9, .cells #[.int .i64 f1, .int .i64 f2] 30 (0, 0)), (g11, .cells #[.int .i64 e1, .int .i64 e2] 30 (0, 0))] w4 := HO
      obtain ⟨p5_0, p5_1, p5_2, p5_3, f5_0, f5_1, f5_2, f5_3⟩ := HO.c4 0 rfl
      obtain ⟨p6_0, p6_1, p6_2, p6_3, f6_0, f6_1, f6_2, f6_3⟩ := HO.c4 1 rfl
      go_upto_region 8 with (first | (go_at_call 9; refine (K4 _).mono ?_; rintro e w5a ⟨rfl, hb⟩; replace HO := HO.call hb; clear hb p5_0 p5_1 p5_2 p5_3 f5_0 f5_1 f5_2 f5_3 p6_0 p6_1 p6_2 p6_3 f6_0 f6_1 f6_2 f6_3))
      refine Own.gen (HO.alloc _) ?_
      clear HO; intro w5 HO; generalize w5a.heap.size = g13 at HO ⊢; clear w5a
      replace HO : Own w [(g5, .cells #[.int .i64 a0, .int .i64 a1, .int .i64 a2, .int .i64 a3] 27 (0, 0)), (g6, .cells #[.int .i64 b0, .int .i64 b1, .int .i64 b2, .int .i64 b3] 27 (0, 0)), (g7, .cells #[.int .i64 f1, .int .i64 f2] 30 (0, 0)), (g9, .cells #[.int .i64 f1, .int .i64 f2] 30 (0, 0)), (g11, .cells #[.int .i64 e1, .int .i64 e2] 30 (0, 0)), (g13, .cells #[.int .i64 e1, .int .i64 e2] 30 (0, 0))] w5 := HO
      clear K1 K2 K3 K4
      obtain ⟨p7_0, p7_1, f7_0, f7_1⟩ := HO.c2 2 rfl
      obtain ⟨p9_0, p9_1, f9_0, f9_1⟩ := HO.c2 3 rfl
      obtain ⟨p11_0, p11_1, f11_0, f11_1⟩ := HO.c2 4 rfl
      obtain ⟨p13_0, p13_1, f13_0, f13_1⟩ := HO.c2 5 rfl
      go_upto_region 10 with (fail)
      clear p7_0 p7_1 f7_0 f7_1 p9_0 p9_1 f9_0 f9_1 p11_0 p11_1 f11_0 f11_1 p13_0 p13_1 f13_0 f13_1
      go_upto_if 120 with (fail)
      go_cut [4, 15, 16, 17, 18, 19, 20] from 120 to 176 (fun v4 v15 v16 v17 v18 v19 v20 wc => Own w [(g5, .cells #[.int .i64 a0, .int .i64 a1, .int .i64 a2, .int .i64 a3] 27 (0, 0)), (g6, .cells #[.int .i64 b0, .int .i64 b1, .int .i64 b2, .int .i64 b3] 27 (0, 0)), (g7, .cells #[.int .i64 f1, .int .i64 f2] 30 (0, 0)), (g9, .cells #[.int .i64 f1, .int .i64 f2] 30 (0, 0)), (g11, .cells #[.int .i64 e1, .int .i64 e2] 30 (0, 0)), (g13, .cells #[.int .i64 e1, .int .i64 e2] 30 (0, 0))] wc)
      case first =>
        as_aux_lemma =>
          cases ok with
          | false =>
            as_aux_lemma =>
              go_wp2
              go_meet
              exact HO
          | true =>
            as_aux_lemma =>
              obtain ⟨x1, x2, xx, M1, M2, M3, M4⟩ := B1.out rfl; have B2x := Aside0.mk (B2.out rfl)
              have L1 := fun W => impl_ShownAfter.calls k a0 a1 a2 a3 f1 f2 x1 x2 xx W M1
              have L2 := fun W => impl_ShownAfter.calls k b0 b1 b2 b3 f1 f2 x1 x2 xx W M2
              have L3 := fun W => impl_FirstAgree.calls k b0 b1 b2 b3 a0 a1 a2 a3 f1 f2 true W M3
              have N1 : decide (f1 < 1) = false := decide_eq_false (by omega)
              clear M1 M2 M3 M4
              go_upto_region 11 with (fail)
              obtain ⟨p5_0, p5_1, p5_2, p5_3, f5_0, f5_1, f5_2, f5_3⟩ := HO.c4 0 rfl
              obtain ⟨p7_0, p7_1, f7_0, f7_1⟩ := HO.c2 2 rfl
              go_upto_region 12 with (first | (go_at_call 10; refine (L1 _).mono ?_; rintro e w6a ⟨rfl, hb⟩; replace HO := HO.call hb; clear hb p5_0 p5_1 p5_2 p5_3 f5_0 f5_1 f5_2 f5_3 p7_0 p7_1 f7_0 f7_1))
              refine Own.gen (HO.alloc _) ?_
              clear HO; intro w6 HO; generalize w6a.heap.size = g15 at HO ⊢; clear w6a
              replace HO : Own w [(g5, .cells #[.int .i64 a0, .int .i64 a1, .int .i64 a2, .int .i64 a3] 27 (0, 0)), (g6, .cells #[.int .i64 b0, .int .i64 b1, .int .i64 b2, .int .i64 b3] 27 (0, 0)), (g7, .cells #[.int .i64 f1, .int .i64 f2] 30 (0, 0)), (g9, .cells #[.int .i64 f1, .int .i64 f2] 30 (0, 0)), (g11, .cells #[.int .i64 e1, .int .i64 e2] 30 (0, 0)), (g13, .cells #[.int .i64 e1, .int .i64 e2] 30 (0, 0)), (g15, .cells #[.int .i64 x1, .int .i64 x2] 25 (0, 0))] w6 := HO
              obtain ⟨p6_0, p6_1, p6_2, p6_3, f6_0, f6_1, f6_2, f6_3⟩ := HO.c4 1 rfl
              obtain ⟨p7_0, p7_1, f7_0, f7_1⟩ := HO.c2 2 rfl
              go_upto_region 13 with (first | (go_at_call 10; refine (L2 _).mono ?_; rintro e w7a ⟨rfl, hb⟩; replace HO := HO.call hb; clear hb p6_0 p6_1 p6_2 p6_3 f6_0 f6_1 f6_2 f6_3 p7_0 p7_1 f7_0 f7_1))
              refine Own.gen (HO.alloc _) ?_
              clear HO; intro w7 HO; generalize w7a.heap.size = g17 at HO ⊢; clear w7a
              replace HO : Own w [(g5, .cells #[.int .i64 a0, .int .i64 a1, .int .i64 a2, .int .i64 a3] 27 (0, 0)), (g6, .cells #[.int .i64 b0, .int .i64 b1, .int .i64 b2, .int .i64 b3] 27 (0, 0)), (g7, .cells #[.int .i64 f1, .int .i64 f2] 30 (0, 0)), (g9, .cells #[.int .i64 f1, .int .i64 f2] 30 (0, 0)), (g11, .cells #[.int .i64 e1, .int .i64 e2] 30 (0, 0)), (g13, .cells #[.int .i64 e1, .int .i64 e2] 30 (0, 0)), (g15, .cells #[.int .i64 x1, .int .i64 x2] 25 (0, 0)), (g17, .cells #[.int .i64 x1, .int .i64 x2] 25 (0, 0))] w7 := HO
              obtain ⟨p6_0, p6_1, p6_2, p6_3, f6_0, f6_1, f6_2, f6_3⟩ := HO.c4 1 rfl
              obtain ⟨p5_0, p5_1, p5_2, p5_3, f5_0, f5_1, f5_2, f5_3⟩ := HO.c4 0 rfl
              go_upto_region 14 with (first | (go_at_call 6; refine (L3 _).mono ?_; rintro e w8a ⟨rfl, hb⟩; replace HO := HO.call hb; clear hb p6_0 p6_1 p6_2 p6_3 f6_0 f6_1 f6_2 f6_3 p5_0 p5_1 p5_2 p5_3 f5_0 f5_1 f5_2 f5_3))
              refine Own.gen (HO.alloc _) ?_
              clear HO; intro w8 HO; generalize w8a.heap.size = g19 at HO ⊢; clear w8a
              replace HO : Own w [(g5, .cells #[.int .i64 a0, .int .i64 a1, .int .i64 a2, .int .i64 a3] 27 (0, 0)), (g6, .cells #[.int .i64 b0, .int .i64 b1, .int .i64 b2, .int .i64 b3] 27 (0, 0)), (g7, .cells #[.int .i64 f1, .int .i64 f2] 30 (0, 0)), (g9, .cells #[.int .i64 f1, .int .i64 f2] 30 (0, 0)), (g11, .cells #[.int .i64 e1, .int .i64 e2] 30 (0, 0)), (g13, .cells #[.int .i64 e1, .int .i64 e2] 30 (0, 0)), (g15, .cells #[.int .i64 x1, .int .i64 x2] 25 (0, 0)), (g17, .cells #[.int .i64 x1, .int .i64 x2] 25 (0, 0)), (g19, .cells #[.int .i64 f1, .int .i64 f2] 30 (0, 0))] w8 := HO
              clear L1 L2 L3
              obtain ⟨p15_0, p15_1, f15_0, f15_1⟩ := HO.c2 6 rfl
              obtain ⟨p17_0, p17_1, f17_0, f17_1⟩ := HO.c2 7 rfl
              obtain ⟨p7_0, p7_1, f7_0, f7_1⟩ := HO.c2 2 rfl
              obtain ⟨p19_0, p19_1, f19_0, f19_1⟩ := HO.c2 8 rfl
              obtain ⟨p11_0, p11_1, f11_0, f11_1⟩ := HO.c2 4 rfl
              cases one with
              | false =>
                as_aux_lemma =>
                  go_wp2
                  go_meet
                  exact Own.less (Own.less (Own.less (HO)))
              | true =>
                as_aux_lemma =>
                  have N2 := B2x.out rfl; have N3 : decide (wrap64 (f1 * e2) > wrap64 (e1 * f2)) = false := decide_eq_false (by omega); have N4 : decide (wrap64 (e1 * f2) < wrap64 (f1 * e2)) = false := decide_eq_false (by omega); clear N2
                  go_wp2
                  go_meet
                  exact Own.less (Own.less (Own.less (HO)))
      case rest =>
        as_aux_lemma =>
          clear HO; have HO := hcut; clear hcut
          revert HO; generalize wc = w6; intro HO
          go_upto_region 16 with (fail)
          go_upto_region 17 with (first | (go_at_call 11; refine (KD2 _ HO.below).mono ?_; rintro e w7a ⟨rfl, hb⟩; replace HO := HO.call hb; clear hb))
          refine Own.gen (((HO.alloc_at rfl _).1.alloc_at (HO.alloc_at rfl _).2 _).1.alloc_at ((HO.alloc_at rfl _).1.alloc_at (HO.alloc_at rfl _).2 _).2 _).1 ?_
          clear HO; intro w7 HO
          generalize w7a.heap.size + 1 + 1 = g23 at HO ⊢
          generalize w7a.heap.size + 1 = g22 at HO ⊢
          generalize w7a.heap.size = g21 at HO ⊢
          clear w7a
          replace HO : Own w [(g5, .cells #[.int .i64 a0, .int .i64 a1, .int .i64 a2, .int .i64 a3] 27 (0, 0)), (g6, .cells #[.int .i64 b0, .int .i64 b1, .int .i64 b2, .int .i64 b3] 27 (0, 0)), (g7, .cells #[.int .i64 f1, .int .i64 f2] 30 (0, 0)), (g9, .cells #[.int .i64 f1, .int .i64 f2] 30 (0, 0)), (g11, .cells #[.int .i64 e1, .int .i64 e2] 30 (0, 0)), (g13, .cells #[.int .i64 e1, .int .i64 e2] 30 (0, 0)), (g21, .cells #[.int .i64 t0, .int .i64 t1] 25 (0, 0)), (g22, .cells #[.int .i64 s0, .int .i64 s1] 30 (0, 0)), (g23, .cells #[.int .i64 u0, .int .i64 u1] 25 (0, 0))] w7 := HO
          clear KD2
          obtain ⟨p21_0, p21_1, f21_0, f21_1⟩ := HO.c2 6 rfl
          obtain ⟨p22_0, p22_1, f22_0, f22_1⟩ := HO.c2 7 rfl
          obtain ⟨p23_0, p23_1, f23_0, f23_1⟩ := HO.c2 8 rfl
          go_upto_region 18 with (first | (go_at_call 12; refine (K5 _).mono ?_; rintro e w8a ⟨rfl, hb⟩; replace HO := HO.call hb; clear hb p21_0 p21_1 f21_0 f21_1 p22_0 p22_1 f22_0 f22_1 p23_0 p23_1 f23_0 f23_1))
          refine Own.gen (HO.alloc _) ?_
          clear HO; intro w8 HO; generalize w8a.heap.size = g24 at HO ⊢; clear w8a
          replace HO : Own w [(g5, .cells #[.int .i64 a0, .int .i64 a1, .int .i64 a2, .int .i64 a3] 27 (0, 0)), (g6, .cells #[.int .i64 b0, .int .i64 b1, .int .i64 b2, .int .i64 b3] 27 (0, 0)), (g7, .cells #[.int .i64 f1, .int .i64 f2] 30 (0, 0)), (g9, .cells #[.int .i64 f1, .int .i64 f2] 30 (0, 0)), (g11, .cells #[.int .i64 e1, .int .i64 e2] 30 (0, 0)), (g13, .cells #[.int .i64 e1, .int .i64 e2] 30 (0, 0)), (g21, .cells #[.int .i64 t0, .int .i64 t1] 25 (0, 0)), (g22, .cells #[.int .i64 s0, .int .i64 s1] 30 (0, 0)), (g23, .cells #[.int .i64 u0, .int .i64 u1] 25 (0, 0)), (g24, .cells #[.int .i64 c1, .int .i64 c2, .int .i64 c3, .int .i64 c4] 27 (0, 0))] w8 := HO
          obtain ⟨p21_0, p21_1, f21_0, f21_1⟩ := HO.c2 6 rfl
          obtain ⟨p22_0, p22_1, f22_0, f22_1⟩ := HO.c2 7 rfl
          obtain ⟨p23_0, p23_1, f23_0, f23_1⟩ := HO.c2 8 rfl
          go_upto_region 19 with (first | (go_at_call 13; refine (K6 _).mono ?_; rintro e w9a ⟨rfl, hb⟩; replace HO := HO.call hb; clear hb p21_0 p21_1 f21_0 f21_1 p22_0 p22_1 f22_0 f22_1 p23_0 p23_1 f23_0 f23_1))
          refine Own.gen (HO.alloc _) ?_
          clear HO; intro w9 HO; generalize w9a.heap.size = g26 at HO ⊢; clear w9a
          replace HO : Own w [(g5, .cells #[.int .i64 a0, .int .i64 a1, .int .i64 a2, .int .i64 a3] 27 (0, 0)), (g6, .cells #[.int .i64 b0, .int .i64 b1, .int .i64 b2, .int .i64 b3] 27 (0, 0)), (g7, .cells #[.int .i64 f1, .int .i64 f2] 30 (0, 0)), (g9, .cells #[.int .i64 f1, .int .i64 f2] 30 (0, 0)), (g11, .cells #[.int .i64 e1, .int .i64 e2] 30 (0, 0)), (g13, .cells #[.int .i64 e1, .int .i64 e2] 30 (0, 0)), (g21, .cells #[.int .i64 t0, .int .i64 t1] 25 (0, 0)), (g22, .cells #[.int .i64 s0, .int .i64 s1] 30 (0, 0)), (g23, .cells #[.int .i64 u0, .int .i64 u1] 25 (0, 0)), (g24, .cells #[.int .i64 c1, .int .i64 c2, .int .i64 c3, .int .i64 c4] 27 (0, 0)), (g26, .cells #[.int .i64 c1, .int .i64 c2, .int .i64 c3, .int .i64 c4] 27 (0, 0))] w9 := HO
          clear K5 K6
          obtain ⟨p24_0, p24_1, p24_2, p24_3, f24_0, f24_1, f24_2, f24_3⟩ := HO.c4 9 rfl
          obtain ⟨p26_0, p26_1, p26_2, p26_3, f26_0, f26_1, f26_2, f26_3⟩ := HO.c4 10 rfl
          go_upto_region 21 with (fail)
          clear p24_0 p24_1 p24_2 p24_3 f24_0 f24_1 f24_2 f24_3 p26_0 p26_1 p26_2 p26_3 f26_0 f26_1 f26_2 f26_3
          go_upto_if 205 with (fail)
          go_cut [4, 28, 29] from 205 to 242 (fun v4 v28 v29 wc => Own w [(g5, .cells #[.int .i64 a0, .int .i64 a1, .int .i64 a2, .int .i64 a3] 27 (0, 0)), (g6, .cells #[.int .i64 b0, .int .i64 b1, .int .i64 b2, .int .i64 b3] 27 (0, 0)), (g7, .cells #[.int .i64 f1, .int .i64 f2] 30 (0, 0)), (g9, .cells #[.int .i64 f1, .int .i64 f2] 30 (0, 0)), (g11, .cells #[.int .i64 e1, .int .i64 e2] 30 (0, 0)), (g13, .cells #[.int .i64 e1, .int .i64 e2] 30 (0, 0)), (g21, .cells #[.int .i64 t0, .int .i64 t1] 25 (0, 0)), (g22, .cells #[.int .i64 s0, .int .i64 s1] 30 (0, 0)), (g23, .cells #[.int .i64 u0, .int .i64 u1] 25 (0, 0)), (g24, .cells #[.int .i64 c1, .int .i64 c2, .int .i64 c3, .int .i64 c4] 27 (0, 0)), (g26, .cells #[.int .i64 c1, .int .i64 c2, .int .i64 c3, .int .i64 c4] 27 (0, 0))] wc)
          case first =>
            as_aux_lemma =>
              cases three with
              | false =>
                as_aux_lemma =>
                  go_wp2
                  go_meet
                  exact HO
              | true =>
                as_aux_lemma =>
                  obtain ⟨M1, M2, M3, M4, M5⟩ := B3.out rfl
                  have L1 := fun W => impl_ShownAfter.calls k c1 c2 c3 c4 s0 s1 u0 u1 true W M1
                  have L2 := fun W => impl_IsClock.calls k c1 c2 c3 c4 true W M2
                  have y1 : (c1 == t0) = true := beq_iff_eq.mpr M3; have y2 : (c2 == t1) = true := beq_iff_eq.mpr M4
                  have N1 : decide (wrap64 (c3 * s0) ≥ wrap64 (c4 * s1)) = false := decide_eq_false (by omega); have N2 : decide (wrap64 (c4 * s1) ≤ wrap64 (c3 * s0)) = false := decide_eq_false (by omega)
                  clear M1 M2 M3 M4 M5
                  go_upto_region 22 with (fail)
                  obtain ⟨p24_0, p24_1, p24_2, p24_3, f24_0, f24_1, f24_2, f24_3⟩ := HO.c4 9 rfl
                  obtain ⟨p22_0, p22_1, f22_0, f22_1⟩ := HO.c2 7 rfl
                  go_upto_region 23 with (first | (go_at_call 10; refine (L1 _).mono ?_; rintro e w10a ⟨rfl, hb⟩; replace HO := HO.call hb; clear hb p24_0 p24_1 p24_2 p24_3 f24_0 f24_1 f24_2 f24_3 p22_0 p22_1 f22_0 f22_1))
                  refine Own.gen (HO.alloc _) ?_
                  clear HO; intro w10 HO; generalize w10a.heap.size = g28 at HO ⊢; clear w10a
                  replace HO : Own w [(g5, .cells #[.int .i64 a0, .int .i64 a1, .int .i64 a2, .int .i64 a3] 27 (0, 0)), (g6, .cells #[.int .i64 b0, .int .i64 b1, .int .i64 b2, .int .i64 b3] 27 (0, 0)), (g7, .cells #[.int .i64 f1, .int .i64 f2] 30 (0, 0)), (g9, .cells #[.int .i64 f1, .int .i64 f2] 30 (0, 0)), (g11, .cells #[.int .i64 e1, .int .i64 e2] 30 (0, 0)), (g13, .cells #[.int .i64 e1, .int .i64 e2] 30 (0, 0)), (g21, .cells #[.int .i64 t0, .int .i64 t1] 25 (0, 0)), (g22, .cells #[.int .i64 s0, .int .i64 s1] 30 (0, 0)), (g23, .cells #[.int .i64 u0, .int .i64 u1] 25 (0, 0)), (g24, .cells #[.int .i64 c1, .int .i64 c2, .int .i64 c3, .int .i64 c4] 27 (0, 0)), (g26, .cells #[.int .i64 c1, .int .i64 c2, .int .i64 c3, .int .i64 c4] 27 (0, 0)), (g28, .cells #[.int .i64 u0, .int .i64 u1] 25 (0, 0))] w10 := HO
                  clear L1
                  obtain ⟨p24_0, p24_1, p24_2, p24_3, f24_0, f24_1, f24_2, f24_3⟩ := HO.c4 9 rfl
                  obtain ⟨p21_0, p21_1, f21_0, f21_1⟩ := HO.c2 6 rfl
                  obtain ⟨p28_0, p28_1, f28_0, f28_1⟩ := HO.c2 11 rfl
                  obtain ⟨p23_0, p23_1, f23_0, f23_1⟩ := HO.c2 8 rfl
                  obtain ⟨p22_0, p22_1, f22_0, f22_1⟩ := HO.c2 7 rfl
                  go_wp2_with (first | (go_at_call 14; refine (L2 _).mono ?_; rintro e w' ⟨rfl, hb⟩; replace HO := HO.call hb; clear hb; clear p24_0 f24_0; clear p24_1 f24_1; clear p24_2 f24_2; clear p24_3 f24_3; clear p21_0 f21_0; clear p21_1 f21_1; clear p28_0 f28_0; clear p28_1 f28_1; clear p23_0 f23_0; clear p23_1 f23_1; clear p22_0 f22_0; clear p22_1 f22_1; obtain ⟨p24_0, p24_1, p24_2, p24_3, f24_0, f24_1, f24_2, f24_3⟩ := HO.c4 9 rfl; obtain ⟨p21_0, p21_1, f21_0, f21_1⟩ := HO.c2 6 rfl; obtain ⟨p28_0, p28_1, f28_0, f28_1⟩ := HO.c2 11 rfl; obtain ⟨p23_0, p23_1, f23_0, f23_1⟩ := HO.c2 8 rfl; obtain ⟨p22_0, p22_1, f22_0, f22_1⟩ := HO.c2 7 rfl))
                  go_meet
                  exact Own.less (HO)
          case rest =>
            as_aux_lemma =>
              clear HO; have HO := hcut; clear hcut
              revert HO; generalize wc = w10; intro HO
              go_upto_region 25 with (fail)
              go_upto_region 26 with (first | (go_at_call 15; refine (KD3 _ HO.below).mono ?_; rintro e w11a ⟨rfl, hb⟩; replace HO := HO.call hb; clear hb))
              refine Own.gen ((HO.alloc_at rfl _).1.alloc_at (HO.alloc_at rfl _).2 _).1 ?_
              clear HO; intro w11 HO
              generalize w11a.heap.size + 1 = g31 at HO ⊢
              generalize w11a.heap.size = g30 at HO ⊢
              clear w11a
              replace HO : Own w [(g5, .cells #[.int .i64 a0, .int .i64 a1, .int .i64 a2, .int .i64 a3] 27 (0, 0)), (g6, .cells #[.int .i64 b0, .int .i64 b1, .int .i64 b2, .int .i64 b3] 27 (0, 0)), (g7, .cells #[.int .i64 f1, .int .i64 f2] 30 (0, 0)), (g9, .cells #[.int .i64 f1, .int .i64 f2] 30 (0, 0)), (g11, .cells #[.int .i64 e1, .int .i64 e2] 30 (0, 0)), (g13, .cells #[.int .i64 e1, .int .i64 e2] 30 (0, 0)), (g21, .cells #[.int .i64 t0, .int .i64 t1] 25 (0, 0)), (g22, .cells #[.int .i64 s0, .int .i64 s1] 30 (0, 0)), (g23, .cells #[.int .i64 u0, .int .i64 u1] 25 (0, 0)), (g24, .cells #[.int .i64 c1, .int .i64 c2, .int .i64 c3, .int .i64 c4] 27 (0, 0)), (g26, .cells #[.int .i64 c1, .int .i64 c2, .int .i64 c3, .int .i64 c4] 27 (0, 0)), (g30, .cells #[.int .i64 p0, .int .i64 p1] 30 (0, 0)), (g31, .cells #[.int .i64 q0, .int .i64 q1] 30 (0, 0))] w11 := HO
              clear KD3
              obtain ⟨p30_0, p30_1, f30_0, f30_1⟩ := HO.c2 11 rfl
              obtain ⟨p31_0, p31_1, f31_0, f31_1⟩ := HO.c2 12 rfl
              go_upto_region 27 with (first | (go_at_call 16; refine (K7 _).mono ?_; rintro e w12a ⟨rfl, hb⟩; replace HO := HO.call hb; clear hb p30_0 p30_1 f30_0 f30_1 p31_0 p31_1 f31_0 f31_1))
              refine Own.gen (HO.alloc _) ?_
              clear HO; intro w12 HO; generalize w12a.heap.size = g32 at HO ⊢; clear w12a
              replace HO : Own w [(g5, .cells #[.int .i64 a0, .int .i64 a1, .int .i64 a2, .int .i64 a3] 27 (0, 0)), (g6, .cells #[.int .i64 b0, .int .i64 b1, .int .i64 b2, .int .i64 b3] 27 (0, 0)), (g7, .cells #[.int .i64 f1, .int .i64 f2] 30 (0, 0)), (g9, .cells #[.int .i64 f1, .int .i64 f2] 30 (0, 0)), (g11, .cells #[.int .i64 e1, .int .i64 e2] 30 (0, 0)), (g13, .cells #[.int .i64 e1, .int .i64 e2] 30 (0, 0)), (g21, .cells #[.int .i64 t0, .int .i64 t1] 25 (0, 0)), (g22, .cells #[.int .i64 s0, .int .i64 s1] 30 (0, 0)), (g23, .cells #[.int .i64 u0, .int .i64 u1] 25 (0, 0)), (g24, .cells #[.int .i64 c1, .int .i64 c2, .int .i64 c3, .int .i64 c4] 27 (0, 0)), (g26, .cells #[.int .i64 c1, .int .i64 c2, .int .i64 c3, .int .i64 c4] 27 (0, 0)), (g30, .cells #[.int .i64 p0, .int .i64 p1] 30 (0, 0)), (g31, .cells #[.int .i64 q0, .int .i64 q1] 30 (0, 0)), (g32, .cells #[.int .i64 m1, .int .i64 m2] 30 (0, 0))] w12 := HO
              obtain ⟨p30_0, p30_1, f30_0, f30_1⟩ := HO.c2 11 rfl
              obtain ⟨p31_0, p31_1, f31_0, f31_1⟩ := HO.c2 12 rfl
              go_upto_region 28 with (first | (go_at_call 17; refine (K8 _).mono ?_; rintro e w13a ⟨rfl, hb⟩; replace HO := HO.call hb; clear hb p30_0 p30_1 f30_0 f30_1 p31_0 p31_1 f31_0 f31_1))
              refine Own.gen (HO.alloc _) ?_
              clear HO; intro w13 HO; generalize w13a.heap.size = g34 at HO ⊢; clear w13a
              replace HO : Own w [(g5, .cells #[.int .i64 a0, .int .i64 a1, .int .i64 a2, .int .i64 a3] 27 (0, 0)), (g6, .cells #[.int .i64 b0, .int .i64 b1, .int .i64 b2, .int .i64 b3] 27 (0, 0)), (g7, .cells #[.int .i64 f1, .int .i64 f2] 30 (0, 0)), (g9, .cells #[.int .i64 f1, .int .i64 f2] 30 (0, 0)), (g11, .cells #[.int .i64 e1, .int .i64 e2] 30 (0, 0)), (g13, .cells #[.int .i64 e1, .int .i64 e2] 30 (0, 0)), (g21, .cells #[.int .i64 t0, .int .i64 t1] 25 (0, 0)), (g22, .cells #[.int .i64 s0, .int .i64 s1] 30 (0, 0)), (g23, .cells #[.int .i64 u0, .int .i64 u1] 25 (0, 0)), (g24, .cells #[.int .i64 c1, .int .i64 c2, .int .i64 c3, .int .i64 c4] 27 (0, 0)), (g26, .cells #[.int .i64 c1, .int .i64 c2, .int .i64 c3, .int .i64 c4] 27 (0, 0)), (g30, .cells #[.int .i64 p0, .int .i64 p1] 30 (0, 0)), (g31, .cells #[.int .i64 q0, .int .i64 q1] 30 (0, 0)), (g32, .cells #[.int .i64 m1, .int .i64 m2] 30 (0, 0)), (g34, .cells #[.int .i64 m1, .int .i64 m2] 30 (0, 0))] w13 := HO
              obtain ⟨p30_0, p30_1, f30_0, f30_1⟩ := HO.c2 11 rfl
              obtain ⟨p31_0, p31_1, f31_0, f31_1⟩ := HO.c2 12 rfl
              go_upto_region 29 with (first | (go_at_call 18; refine (K9 _).mono ?_; rintro e w14a ⟨rfl, hb⟩; replace HO := HO.call hb; clear hb p30_0 p30_1 f30_0 f30_1 p31_0 p31_1 f31_0 f31_1))
              refine Own.gen HO ?_; clear HO; intro w14 HO; clear w14a
              obtain ⟨p30_0, p30_1, f30_0, f30_1⟩ := HO.c2 11 rfl
              obtain ⟨p31_0, p31_1, f31_0, f31_1⟩ := HO.c2 12 rfl
              go_upto_region 30 with (first | (go_at_call 19; refine (K10 _).mono ?_; rintro e w15a ⟨rfl, hb⟩; replace HO := HO.call hb; clear hb p30_0 p30_1 f30_0 f30_1 p31_0 p31_1 f31_0 f31_1))
              refine Own.gen HO ?_; clear HO; intro w15 HO; clear w15a
              obtain ⟨p30_0, p30_1, f30_0, f30_1⟩ := HO.c2 11 rfl
              obtain ⟨p31_0, p31_1, f31_0, f31_1⟩ := HO.c2 12 rfl
              go_upto_region 31 with (first | (go_at_call 20; refine (K11 _).mono ?_; rintro e w16a ⟨rfl, hb⟩; replace HO := HO.call hb; clear hb p30_0 p30_1 f30_0 f30_1 p31_0 p31_1 f31_0 f31_1))
              refine Own.gen (HO.alloc _) ?_
              clear HO; intro w16 HO; generalize w16a.heap.size = g40 at HO ⊢; clear w16a
              replace HO : Own w [(g5, .cells #[.int .i64 a0, .int .i64 a1, .int .i64 a2, .int .i64 a3] 27 (0, 0)), (g6, .cells #[.int .i64 b0, .int .i64 b1, .int .i64 b2, .int .i64 b3] 27 (0, 0)), (g7, .cells #[.int .i64 f1, .int .i64 f2] 30 (0, 0)), (g9, .cells #[.int .i64 f1, .int .i64 f2] 30 (0, 0)), (g11, .cells #[.int .i64 e1, .int .i64 e2] 30 (0, 0)), (g13, .cells #[.int .i64 e1, .int .i64 e2] 30 (0, 0)), (g21, .cells #[.int .i64 t0, .int .i64 t1] 25 (0, 0)), (g22, .cells #[.int .i64 s0, .int .i64 s1] 30 (0, 0)), (g23, .cells #[.int .i64 u0, .int .i64 u1] 25 (0, 0)), (g24, .cells #[.int .i64 c1, .int .i64 c2, .int .i64 c3, .int .i64 c4] 27 (0, 0)), (g26, .cells #[.int .i64 c1, .int .i64 c2, .int .i64 c3, .int .i64 c4] 27 (0, 0)), (g30, .cells #[.int .i64 p0, .int .i64 p1] 30 (0, 0)), (g31, .cells #[.int .i64 q0, .int .i64 q1] 30 (0, 0)), (g32, .cells #[.int .i64 m1, .int .i64 m2] 30 (0, 0)), (g34, .cells #[.int .i64 m1, .int .i64 m2] 30 (0, 0)), (g40, .cells #[.int .i64 k1, .int .i64 k2] 30 (0, 0))] w16 := HO
              obtain ⟨p30_0, p30_1, f30_0, f30_1⟩ := HO.c2 11 rfl
              obtain ⟨p31_0, p31_1, f31_0, f31_1⟩ := HO.c2 12 rfl
              go_upto_region 32 with (first | (go_at_call 21; refine (K12 _).mono ?_; rintro e w17a ⟨rfl, hb⟩; replace HO := HO.call hb; clear hb p30_0 p30_1 f30_0 f30_1 p31_0 p31_1 f31_0 f31_1))
              refine Own.gen (HO.alloc _) ?_
              clear HO; intro w17 HO; generalize w17a.heap.size = g42 at HO ⊢; clear w17a
              replace HO : Own w [(g5, .cells #[.int .i64 a0, .int .i64 a1, .int .i64 a2, .int .i64 a3] 27 (0, 0)), (g6, .cells #[.int .i64 b0, .int .i64 b1, .int .i64 b2, .int .i64 b3] 27 (0, 0)), (g7, .cells #[.int .i64 f1, .int .i64 f2] 30 (0, 0)), (g9, .cells #[.int .i64 f1, .int .i64 f2] 30 (0, 0)), (g11, .cells #[.int .i64 e1, .int .i64 e2] 30 (0, 0)), (g13, .cells #[.int .i64 e1, .int .i64 e2] 30 (0, 0)), (g21, .cells #[.int .i64 t0, .int .i64 t1] 25 (0, 0)), (g22, .cells #[.int .i64 s0, .int .i64 s1] 30 (0, 0)), (g23, .cells #[.int .i64 u0, .int .i64 u1] 25 (0, 0)), (g24, .cells #[.int .i64 c1, .int .i64 c2, .int .i64 c3, .int .i64 c4] 27 (0, 0)), (g26, .cells #[.int .i64 c1, .int .i64 c2, .int .i64 c3, .int .i64 c4] 27 (0, 0)), (g30, .cells #[.int .i64 p0, .int .i64 p1] 30 (0, 0)), (g31, .cells #[.int .i64 q0, .int .i64 q1] 30 (0, 0)), (g32, .cells #[.int .i64 m1, .int .i64 m2] 30 (0, 0)), (g34, .cells #[.int .i64 m1, .int .i64 m2] 30 (0, 0)), (g40, .cells #[.int .i64 k1, .int .i64 k2] 30 (0, 0)), (g42, .cells #[.int .i64 k1, .int .i64 k2] 30 (0, 0))] w17 := HO
              go_upto_region 33 with (first | (go_at_call 22; refine (KD4 _ HO.below).mono ?_; rintro e w18a ⟨rfl, hb⟩; replace HO := HO.call hb; clear hb))
              refine Own.gen HO ?_; clear HO; intro w18 HO; clear w18a
              clear KD4
              go_upto_region 34 with (first | (go_at_call 23; refine (K13 _).mono ?_; rintro e w19a ⟨rfl, hb⟩; replace HO := HO.call hb; clear hb))
              refine Own.gen (HO.alloc _) ?_
              clear HO; intro w19 HO; generalize w19a.heap.size = g46 at HO ⊢; clear w19a
              replace HO : Own w [(g5, .cells #[.int .i64 a0, .int .i64 a1, .int .i64 a2, .int .i64 a3] 27 (0, 0)), (g6, .cells #[.int .i64 b0, .int .i64 b1, .int .i64 b2, .int .i64 b3] 27 (0, 0)), (g7, .cells #[.int .i64 f1, .int .i64 f2] 30 (0, 0)), (g9, .cells #[.int .i64 f1, .int .i64 f2] 30 (0, 0)), (g11, .cells #[.int .i64 e1, .int .i64 e2] 30 (0, 0)), (g13, .cells #[.int .i64 e1, .int .i64 e2] 30 (0, 0)), (g21, .cells #[.int .i64 t0, .int .i64 t1] 25 (0, 0)), (g22, .cells #[.int .i64 s0, .int .i64 s1] 30 (0, 0)), (g23, .cells #[.int .i64 u0, .int .i64 u1] 25 (0, 0)), (g24, .cells #[.int .i64 c1, .int .i64 c2, .int .i64 c3, .int .i64 c4] 27 (0, 0)), (g26, .cells #[.int .i64 c1, .int .i64 c2, .int .i64 c3, .int .i64 c4] 27 (0, 0)), (g30, .cells #[.int .i64 p0, .int .i64 p1] 30 (0, 0)), (g31, .cells #[.int .i64 q0, .int .i64 q1] 30 (0, 0)), (g32, .cells #[.int .i64 m1, .int .i64 m2] 30 (0, 0)), (g34, .cells #[.int .i64 m1, .int .i64 m2] 30 (0, 0)), (g40, .cells #[.int .i64 k1, .int .i64 k2] 30 (0, 0)), (g42, .cells #[.int .i64 k1, .int .i64 k2] 30 (0, 0)), (g46, .cells #[.int .i64 g1, .int .i64 g2] 30 (0, 0))] w19 := HO
              go_upto_region 35 with (first | (go_at_call 24; refine (K14 _).mono ?_; rintro e w20a ⟨rfl, hb⟩; replace HO := HO.call hb; clear hb))
              refine Own.gen (HO.alloc _) ?_
              clear HO; intro w20 HO; generalize w20a.heap.size = g48 at HO ⊢; clear w20a
              replace HO : Own w [(g5, .cells #[.int .i64 a0, .int .i64 a1, .int .i64 a2, .int .i64 a3] 27 (0, 0)), (g6, .cells #[.int .i64 b0, .int .i64 b1, .int .i64 b2, .int .i64 b3] 27 (0, 0)), (g7, .cells #[.int .i64 f1, .int .i64 f2] 30 (0, 0)), (g9, .cells #[.int .i64 f1, .int .i64 f2] 30 (0, 0)), (g11, .cells #[.int .i64 e1, .int .i64 e2] 30 (0, 0)), (g13, .cells #[.int .i64 e1, .int .i64 e2] 30 (0, 0)), (g21, .cells #[.int .i64 t0, .int .i64 t1] 25 (0, 0)), (g22, .cells #[.int .i64 s0, .int .i64 s1] 30 (0, 0)), (g23, .cells #[.int .i64 u0, .int .i64 u1] 25 (0, 0)), (g24, .cells #[.int .i64 c1, .int .i64 c2, .int .i64 c3, .int .i64 c4] 27 (0, 0)), (g26, .cells #[.int .i64 c1, .int .i64 c2, .int .i64 c3, .int .i64 c4] 27 (0, 0)), (g30, .cells #[.int .i64 p0, .int .i64 p1] 30 (0, 0)), (g31, .cells #[.int .i64 q0, .int .i64 q1] 30 (0, 0)), (g32, .cells #[.int .i64 m1, .int .i64 m2] 30 (0, 0)), (g34, .cells #[.int .i64 m1, .int .i64 m2] 30 (0, 0)), (g40, .cells #[.int .i64 k1, .int .i64 k2] 30 (0, 0)), (g42, .cells #[.int .i64 k1, .int .i64 k2] 30 (0, 0)), (g46, .cells #[.int .i64 g1, .int .i64 g2] 30 (0, 0)), (g48, .cells #[.int .i64 g1, .int .i64 g2] 30 (0, 0))] w20 := HO
              clear K7 K8 K9 K10 K11 K12 K13 K14
              go_upto_region 36 with (first | (go_at_call 25; refine (KD5 _ HO.below).mono ?_; rintro e w21a ⟨rfl, hb⟩; replace HO := HO.call hb; clear hb))
              refine Own.gen (HO.alloc _) ?_
              clear HO; intro w21 HO; generalize w21a.heap.size = g50 at HO ⊢; clear w21a
              replace HO : Own w [(g5, .cells #[.int .i64 a0, .int .i64 a1, .int .i64 a2, .int .i64 a3] 27 (0, 0)), (g6, .cells #[.int .i64 b0, .int .i64 b1, .int .i64 b2, .int .i64 b3] 27 (0, 0)), (g7, .cells #[.int .i64 f1, .int .i64 f2] 30 (0, 0)), (g9, .cells #[.int .i64 f1, .int .i64 f2] 30 (0, 0)), (g11, .cells #[.int .i64 e1, .int .i64 e2] 30 (0, 0)), (g13, .cells #[.int .i64 e1, .int .i64 e2] 30 (0, 0)), (g21, .cells #[.int .i64 t0, .int .i64 t1] 25 (0, 0)), (g22, .cells #[.int .i64 s0, .int .i64 s1] 30 (0, 0)), (g23, .cells #[.int .i64 u0, .int .i64 u1] 25 (0, 0)), (g24, .cells #[.int .i64 c1, .int .i64 c2, .int .i64 c3, .int .i64 c4] 27 (0, 0)), (g26, .cells #[.int .i64 c1, .int .i64 c2, .int .i64 c3, .int .i64 c4] 27 (0, 0)), (g30, .cells #[.int .i64 p0, .int .i64 p1] 30 (0, 0)), (g31, .cells #[.int .i64 q0, .int .i64 q1] 30 (0, 0)), (g32, .cells #[.int .i64 m1, .int .i64 m2] 30 (0, 0)), (g34, .cells #[.int .i64 m1, .int .i64 m2] 30 (0, 0)), (g40, .cells #[.int .i64 k1, .int .i64 k2] 30 (0, 0)), (g42, .cells #[.int .i64 k1, .int .i64 k2] 30 (0, 0)), (g46, .cells #[.int .i64 g1, .int .i64 g2] 30 (0, 0)), (g48, .cells #[.int .i64 g1, .int .i64 g2] 30 (0, 0)), (g50, .cells #[.int .i64 r0, .int .i64 r1] 30 (0, 0))] w21 := HO
              clear KD5
              obtain ⟨p50_0, p50_1, f50_0, f50_1⟩ := HO.c2 19 rfl
              go_upto_region 37 with (first | (go_at_call 26; refine (K15 _ HO.below).mono ?_; rintro e w22a ⟨rfl, hb⟩; replace HO := HO.call hb; clear hb p50_0 p50_1 f50_0 f50_1))
              refine Own.gen HO ?_; clear HO; intro w22 HO; clear w22a
              obtain ⟨p50_0, p50_1, f50_0, f50_1⟩ := HO.c2 19 rfl
              go_upto_region 38 with (first | (go_at_call 27; refine (K16 _).mono ?_; rintro e w23a ⟨rfl, hb⟩; replace HO := HO.call hb; clear hb p50_0 p50_1 f50_0 f50_1))
              refine Own.gen HO ?_; clear HO; intro w23 HO; clear w23a
              go_upto_region 39 with (first | (go_at_call 28; refine (KD6 _ HO.below).mono ?_; rintro e w24a ⟨rfl, hb⟩; replace HO := HO.call hb; clear hb))
              refine Own.gen HO ?_; clear HO; intro w24 HO; clear w24a
              clear KD6
              go_upto_region 40 with (first | (go_at_call 29; refine (K17 _ HO.below).mono ?_; rintro e w25a ⟨rfl, hb⟩; replace HO := HO.call hb; clear hb))
              refine Own.gen (HO.alloc _) ?_
              clear HO; intro w25 HO; generalize w25a.heap.size = g56 at HO ⊢; clear w25a
              replace HO : Own w [(g5, .cells #[.int .i64 a0, .int .i64 a1, .int .i64 a2, .int .i64 a3] 27 (0, 0)), (g6, .cells #[.int .i64 b0, .int .i64 b1, .int .i64 b2, .int .i64 b3] 27 (0, 0)), (g7, .cells #[.int .i64 f1, .int .i64 f2] 30 (0, 0)), (g9, .cells #[.int .i64 f1, .int .i64 f2] 30 (0, 0)), (g11, .cells #[.int .i64 e1, .int .i64 e2] 30 (0, 0)), (g13, .cells #[.int .i64 e1, .int .i64 e2] 30 (0, 0)), (g21, .cells #[.int .i64 t0, .int .i64 t1] 25 (0, 0)), (g22, .cells #[.int .i64 s0, .int .i64 s1] 30 (0, 0)), (g23, .cells #[.int .i64 u0, .int .i64 u1] 25 (0, 0)), (g24, .cells #[.int .i64 c1, .int .i64 c2, .int .i64 c3, .int .i64 c4] 27 (0, 0)), (g26, .cells #[.int .i64 c1, .int .i64 c2, .int .i64 c3, .int .i64 c4] 27 (0, 0)), (g30, .cells #[.int .i64 p0, .int .i64 p1] 30 (0, 0)), (g31, .cells #[.int .i64 q0, .int .i64 q1] 30 (0, 0)), (g32, .cells #[.int .i64 m1, .int .i64 m2] 30 (0, 0)), (g34, .cells #[.int .i64 m1, .int .i64 m2] 30 (0, 0)), (g40, .cells #[.int .i64 k1, .int .i64 k2] 30 (0, 0)), (g42, .cells #[.int .i64 k1, .int .i64 k2] 30 (0, 0)), (g46, .cells #[.int .i64 g1, .int .i64 g2] 30 (0, 0)), (g48, .cells #[.int .i64 g1, .int .i64 g2] 30 (0, 0)), (g50, .cells #[.int .i64 r0, .int .i64 r1] 30 (0, 0)), (g56, .cells #[.int .i64 d1, .int .i64 d2] 30 (0, 0))] w25 := HO
              go_upto_region 41 with (first | (go_at_call 30; refine (K18 _).mono ?_; rintro e w26a ⟨rfl, hb⟩; replace HO := HO.call hb; clear hb))
              refine Own.gen (HO.alloc _) ?_
              clear HO; intro w26 HO; generalize w26a.heap.size = g58 at HO ⊢; clear w26a
              replace HO : Own w [(g5, .cells #[.int .i64 a0, .int .i64 a1, .int .i64 a2, .int .i64 a3] 27 (0, 0)), (g6, .cells #[.int .i64 b0, .int .i64 b1, .int .i64 b2, .int .i64 b3] 27 (0, 0)), (g7, .cells #[.int .i64 f1, .int .i64 f2] 30 (0, 0)), (g9, .cells #[.int .i64 f1, .int .i64 f2] 30 (0, 0)), (g11, .cells #[.int .i64 e1, .int .i64 e2] 30 (0, 0)), (g13, .cells #[.int .i64 e1, .int .i64 e2] 30 (0, 0)), (g21, .cells #[.int .i64 t0, .int .i64 t1] 25 (0, 0)), (g22, .cells #[.int .i64 s0, .int .i64 s1] 30 (0, 0)), (g23, .cells #[.int .i64 u0, .int .i64 u1] 25 (0, 0)), (g24, .cells #[.int .i64 c1, .int .i64 c2, .int .i64 c3, .int .i64 c4] 27 (0, 0)), (g26, .cells #[.int .i64 c1, .int .i64 c2, .int .i64 c3, .int .i64 c4] 27 (0, 0)), (g30, .cells #[.int .i64 p0, .int .i64 p1] 30 (0, 0)), (g31, .cells #[.int .i64 q0, .int .i64 q1] 30 (0, 0)), (g32, .cells #[.int .i64 m1, .int .i64 m2] 30 (0, 0)), (g34, .cells #[.int .i64 m1, .int .i64 m2] 30 (0, 0)), (g40, .cells #[.int .i64 k1, .int .i64 k2] 30 (0, 0)), (g42, .cells #[.int .i64 k1, .int .i64 k2] 30 (0, 0)), (g46, .cells #[.int .i64 g1, .int .i64 g2] 30 (0, 0)), (g48, .cells #[.int .i64 g1, .int .i64 g2] 30 (0, 0)), (g50, .cells #[.int .i64 r0, .int .i64 r1] 30 (0, 0)), (g56, .cells #[.int .i64 d1, .int .i64 d2] 30 (0, 0)), (g58, .cells #[.int .i64 d1, .int .i64 d2] 30 (0, 0))] w26 := HO
              clear K15 K16 K17 K18
              go_cut [4, 395] from 325 to 395 (fun v4 v395 wc => v395 = .bool false ∧ Own w [(g5, .cells #[.int .i64 a0, .int .i64 a1, .int .i64 a2, .int .i64 a3] 27 (0, 0)), (g6, .cells #[.int .i64 b0, .int .i64 b1, .int .i64 b2, .int .i64 b3] 27 (0, 0)), (g7, .cells #[.int .i64 f1, .int .i64 f2] 30 (0, 0)), (g9, .cells #[.int .i64 f1, .int .i64 f2] 30 (0, 0)), (g11, .cells #[.int .i64 e1, .int .i64 e2] 30 (0, 0)), (g13, .cells #[.int .i64 e1, .int .i64 e2] 30 (0, 0)), (g21, .cells #[.int .i64 t0, .int .i64 t1] 25 (0, 0)), (g22, .cells #[.int .i64 s0, .int .i64 s1] 30 (0, 0)), (g23, .cells #[.int .i64 u0, .int .i64 u1] 25 (0, 0)), (g24, .cells #[.int .i64 c1, .int .i64 c2, .int .i64 c3, .int .i64 c4] 27 (0, 0)), (g26, .cells #[.int .i64 c1, .int .i64 c2, .int .i64 c3, .int .i64 c4] 27 (0, 0)), (g30, .cells #[.int .i64 p0, .int .i64 p1] 30 (0, 0)), (g31, .cells #[.int .i64 q0, .int .i64 q1] 30 (0, 0)), (g32, .cells #[.int .i64 m1, .int .i64 m2] 30 (0, 0)), (g34, .cells #[.int .i64 m1, .int .i64 m2] 30 (0, 0)), (g40, .cells #[.int .i64 k1, .int .i64 k2] 30 (0, 0)), (g42, .cells #[.int .i64 k1, .int .i64 k2] 30 (0, 0)), (g46, .cells #[.int .i64 g1, .int .i64 g2] 30 (0, 0)), (g48, .cells #[.int .i64 g1, .int .i64 g2] 30 (0, 0)), (g50, .cells #[.int .i64 r0, .int .i64 r1] 30 (0, 0)), (g56, .cells #[.int .i64 d1, .int .i64 d2] 30 (0, 0)), (g58, .cells #[.int .i64 d1, .int .i64 d2] 30 (0, 0))] wc)
              case first =>
                as_aux_lemma =>
                  have Q19 : ∀ d os, Calls Tryz.prog 31 #[.agg #[.int .i64 r0, .int .i64 r1]] (grow (redrawn w26 d) os) fun e w'' => e = .returned (.bool th) ∧ ∃ p : Regrown, w'' = grow (redrawn w26 p.d) p.os := fun d os => Calls.regrown_of (K19 _)
                  have Q20 : ∀ d os, Calls Tryz.prog 32 #[.agg #[.int .i64 r0, .int .i64 r1]] (grow (redrawn w26 d) os) fun e w'' => e = .returned (.bool th) ∧ ∃ p : Regrown, w'' = grow (redrawn w26 p.d) p.os := fun d os => Calls.regrown_of (K20 _)
                  clear K19 K20
                  obtain ⟨p32_0, p32_1, f32_0, f32_1⟩ := HO.c2 13 rfl
                  obtain ⟨p34_0, p34_1, f34_0, f34_1⟩ := HO.c2 14 rfl
                  obtain ⟨p40_0, p40_1, f40_0, f40_1⟩ := HO.c2 15 rfl
                  obtain ⟨p42_0, p42_1, f42_0, f42_1⟩ := HO.c2 16 rfl
                  obtain ⟨p46_0, p46_1, f46_0, f46_1⟩ := HO.c2 17 rfl
                  obtain ⟨p48_0, p48_1, f48_0, f48_1⟩ := HO.c2 18 rfl
                  obtain ⟨p56_0, p56_1, f56_0, f56_1⟩ := HO.c2 20 rfl
                  obtain ⟨p58_0, p58_1, f58_0, f58_1⟩ := HO.c2 21 rfl
                  obtain ⟨p50_0, p50_1, f50_0, f50_1⟩ := HO.c2 19 rfl
                  have kp32_0 := cell_regrown p32_0; have kp32_1 := cell_regrown p32_1; have kp34_0 := cell_regrown p34_0; have kp34_1 := cell_regrown p34_1; have kp40_0 := cell_regrown p40_0; have kp40_1 := cell_regrown p40_1; have kp42_0 := cell_regrown p42_0; have kp42_1 := cell_regrown p42_1; have kp46_0 := cell_regrown p46_0; have kp46_1 := cell_regrown p46_1; have kp48_0 := cell_regrown p48_0; have kp48_1 := cell_regrown p48_1; have kp56_0 := cell_regrown p56_0; have kp56_1 := cell_regrown p56_1; have kp58_0 := cell_regrown p58_0; have kp58_1 := cell_regrown p58_1; have kp50_0 := cell_regrown p50_0; have kp50_1 := cell_regrown p50_1
                  try dsimp only [List.append]
                  refine wp_region_quiet_below (by kernel_rfl) (by kernel_rfl) ?_
                  repeat (first | go_big_quiet_step (first | with_reducible exact Q19 _ _ | with_reducible exact Q20 _ _) | quiet_step (first | with_reducible exact Q19 _ _ | with_reducible exact Q20 _ _))
                  refine wpQuiet_nil ?_
                  intro _ hw'; obtain ⟨⟨dq, osq⟩, hw''⟩ := hw'; subst hw''
                  replace HO := HO.call (below_regrown _ dq osq)
                  go_wp2; go_meet
                  exact ⟨by first | rfl | simp, HO⟩
              case rest =>
                as_aux_lemma =>
                  clear HO; obtain ⟨rfl, HO⟩ := hcut
                  revert HO; generalize wc = w27; intro HO
                  clear K19 K20
                  go_upto_region 43 with (fail)
                  go_upto_if 396 with (fail)
                  go_cut [4, 60, 61] from 396 to 416 (fun v4 v60 v61 wc => Own w [(g5, .cells #[.int .i64 a0, .int .i64 a1, .int .i64 a2, .int .i64 a3] 27 (0, 0)), (g6, .cells #[.int .i64 b0, .int .i64 b1, .int .i64 b2, .int .i64 b3] 27 (0, 0)), (g7, .cells #[.int .i64 f1, .int .i64 f2] 30 (0, 0)), (g9, .cells #[.int .i64 f1, .int .i64 f2] 30 (0, 0)), (g11, .cells #[.int .i64 e1, .int .i64 e2] 30 (0, 0)), (g13, .cells #[.int .i64 e1, .int .i64 e2] 30 (0, 0)), (g21, .cells #[.int .i64 t0, .int .i64 t1] 25 (0, 0)), (g22, .cells #[.int .i64 s0, .int .i64 s1] 30 (0, 0)), (g23, .cells #[.int .i64 u0, .int .i64 u1] 25 (0, 0)), (g24, .cells #[.int .i64 c1, .int .i64 c2, .int .i64 c3, .int .i64 c4] 27 (0, 0)), (g26, .cells #[.int .i64 c1, .int .i64 c2, .int .i64 c3, .int .i64 c4] 27 (0, 0)), (g30, .cells #[.int .i64 p0, .int .i64 p1] 30 (0, 0)), (g31, .cells #[.int .i64 q0, .int .i64 q1] 30 (0, 0)), (g32, .cells #[.int .i64 m1, .int .i64 m2] 30 (0, 0)), (g34, .cells #[.int .i64 m1, .int .i64 m2] 30 (0, 0)), (g40, .cells #[.int .i64 k1, .int .i64 k2] 30 (0, 0)), (g42, .cells #[.int .i64 k1, .int .i64 k2] 30 (0, 0)), (g46, .cells #[.int .i64 g1, .int .i64 g2] 30 (0, 0)), (g48, .cells #[.int .i64 g1, .int .i64 g2] 30 (0, 0)), (g50, .cells #[.int .i64 r0, .int .i64 r1] 30 (0, 0)), (g56, .cells #[.int .i64 d1, .int .i64 d2] 30 (0, 0)), (g58, .cells #[.int .i64 d1, .int .i64 d2] 30 (0, 0))] wc)
                  case first =>
                    as_aux_lemma =>
                      cases five with
                      | false =>
                        as_aux_lemma =>
                          go_wp2
                          go_meet
                          exact HO
                      | true =>
                        as_aux_lemma =>
                          obtain ⟨X, Y, M1, M2, M3⟩ := B4.out rfl
                          have L1 := fun W => laws_wMore.calls p0 p1 q0 q1 X Y W M1
                          have L2 := fun W => impl_IsSpan.calls k m1 m2 true W M3
                          have N1a : ((wrap64 (m1 * Y)) == (wrap64 (X * m2))) = true := beq_iff_eq.mpr M2; have N1b : ((wrap64 (m1 * Y)) != (wrap64 (X * m2))) = false := bne_eq_false_iff_eq.mpr M2
                          clear M1 M2 M3
                          go_upto_region 44 with (fail)
                          obtain ⟨p30_0, p30_1, f30_0, f30_1⟩ := HO.c2 11 rfl
                          obtain ⟨p31_0, p31_1, f31_0, f31_1⟩ := HO.c2 12 rfl
                          go_upto_region 45 with (first | (go_at_call 33; refine (L1 _).mono ?_; rintro e w28a ⟨rfl, hb⟩; replace HO := HO.call hb; clear hb p30_0 p30_1 f30_0 f30_1 p31_0 p31_1 f31_0 f31_1))
                          refine Own.gen HO ?_; clear HO; intro w28 HO; clear w28a
                          clear L1
                          obtain ⟨p32_0, p32_1, f32_0, f32_1⟩ := HO.c2 13 rfl
                          go_wp2_with (first | (go_at_call 31; refine (L2 _).mono ?_; rintro e w' ⟨rfl, hb⟩; replace HO := HO.call hb; clear hb; clear p32_0 f32_0; clear p32_1 f32_1; obtain ⟨p32_0, p32_1, f32_0, f32_1⟩ := HO.c2 13 rfl))
                          go_meet
                          exact HO
                  case rest =>
                    as_aux_lemma =>
                      clear HO; have HO := hcut; clear hcut
                      revert HO; generalize wc = w28; intro HO
                      go_upto_region 47 with (fail)
                      go_upto_if 417 with (fail)
                      go_cut [4, 62, 63] from 417 to 439 (fun v4 v62 v63 wc => Own w [(g5, .cells #[.int .i64 a0, .int .i64 a1, .int .i64 a2, .int .i64 a3] 27 (0, 0)), (g6, .cells #[.int .i64 b0, .int .i64 b1, .int .i64 b2, .int .i64 b3] 27 (0, 0)), (g7, .cells #[.int .i64 f1, .int .i64 f2] 30 (0, 0)), (g9, .cells #[.int .i64 f1, .int .i64 f2] 30 (0, 0)), (g11, .cells #[.int .i64 e1, .int .i64 e2] 30 (0, 0)), (g13, .cells #[.int .i64 e1, .int .i64 e2] 30 (0, 0)), (g21, .cells #[.int .i64 t0, .int .i64 t1] 25 (0, 0)), (g22, .cells #[.int .i64 s0, .int .i64 s1] 30 (0, 0)), (g23, .cells #[.int .i64 u0, .int .i64 u1] 25 (0, 0)), (g24, .cells #[.int .i64 c1, .int .i64 c2, .int .i64 c3, .int .i64 c4] 27 (0, 0)), (g26, .cells #[.int .i64 c1, .int .i64 c2, .int .i64 c3, .int .i64 c4] 27 (0, 0)), (g30, .cells #[.int .i64 p0, .int .i64 p1] 30 (0, 0)), (g31, .cells #[.int .i64 q0, .int .i64 q1] 30 (0, 0)), (g32, .cells #[.int .i64 m1, .int .i64 m2] 30 (0, 0)), (g34, .cells #[.int .i64 m1, .int .i64 m2] 30 (0, 0)), (g40, .cells #[.int .i64 k1, .int .i64 k2] 30 (0, 0)), (g42, .cells #[.int .i64 k1, .int .i64 k2] 30 (0, 0)), (g46, .cells #[.int .i64 g1, .int .i64 g2] 30 (0, 0)), (g48, .cells #[.int .i64 g1, .int .i64 g2] 30 (0, 0)), (g50, .cells #[.int .i64 r0, .int .i64 r1] 30 (0, 0)), (g56, .cells #[.int .i64 d1, .int .i64 d2] 30 (0, 0)), (g58, .cells #[.int .i64 d1, .int .i64 d2] 30 (0, 0))] wc)
                      case first =>
                        as_aux_lemma =>
                          cases seven with
                          | false =>
                            as_aux_lemma =>
                              go_wp2
                              go_meet
                              exact HO
                          | true =>
                            as_aux_lemma =>
                              obtain ⟨M1, M3⟩ := B5.out rfl; replace M3 := Aside0.mk M3
                              have L1 := fun W => impl_CompareSpans.calls k q0 q1 p0 p1 (wrap64 (-sg)) true W M1
                              clear M1
                              go_upto_region 48 with (fail)
                              obtain ⟨p31_0, p31_1, f31_0, f31_1⟩ := HO.c2 12 rfl
                              obtain ⟨p30_0, p30_1, f30_0, f30_1⟩ := HO.c2 11 rfl
                              go_upto_region 49 with (first | (go_at_call 18; refine (L1 _).mono ?_; rintro e w29a ⟨rfl, hb⟩; replace HO := HO.call hb; clear hb p31_0 p31_1 f31_0 f31_1 p30_0 p30_1 f30_0 f30_1))
                              refine Own.gen HO ?_; clear HO; intro w29 HO; clear w29a
                              clear L1
                              obtain ⟨p30_0, p30_1, f30_0, f30_1⟩ := HO.c2 11 rfl
                              obtain ⟨p31_0, p31_1, f31_0, f31_1⟩ := HO.c2 12 rfl
                              rcases M3.out with ⟨z1, z2, z3⟩ | ⟨z1, z2 | z2⟩
                              · as_aux_lemma =>
                                clear M3
                                have y1 : (sg == 0) = true := beq_iff_eq.mpr z1; have y3 : (p0 == q0) = true := beq_iff_eq.mpr z2; have y5 : (p1 == q1) = true := beq_iff_eq.mpr z3; clear z1 z2 z3
                                go_wp2
                                go_meet
                                exact HO
                              · as_aux_lemma =>
                                clear M3
                                have y1 : (sg == 0) = false := beq_eq_false_iff_ne.mpr z1
                                have y3 : (p0 == q0) = false := beq_eq_false_iff_ne.mpr z2
                                clear z1 z2
                                go_wp2
                                go_meet
                                exact HO
                              · as_aux_lemma =>
                                clear M3
                                have y1 : (sg == 0) = false := beq_eq_false_iff_ne.mpr z1
                                have y3 : (p1 == q1) = false := beq_eq_false_iff_ne.mpr z2
                                clear z1 z2
                                go_wp2
                                go_meet
                                exact HO
                      case rest =>
                        as_aux_lemma =>
                          clear HO; have HO := hcut; clear hcut
                          revert HO; generalize wc = w29; intro HO
                          go_upto_region 51 with (fail)
                          go_upto_if 440 with (fail)
                          go_cut [4, 64, 65] from 440 to 492 (fun v4 v64 v65 wc => Own w [(g5, .cells #[.int .i64 a0, .int .i64 a1, .int .i64 a2, .int .i64 a3] 27 (0, 0)), (g6, .cells #[.int .i64 b0, .int .i64 b1, .int .i64 b2, .int .i64 b3] 27 (0, 0)), (g7, .cells #[.int .i64 f1, .int .i64 f2] 30 (0, 0)), (g9, .cells #[.int .i64 f1, .int .i64 f2] 30 (0, 0)), (g11, .cells #[.int .i64 e1, .int .i64 e2] 30 (0, 0)), (g13, .cells #[.int .i64 e1, .int .i64 e2] 30 (0, 0)), (g21, .cells #[.int .i64 t0, .int .i64 t1] 25 (0, 0)), (g22, .cells #[.int .i64 s0, .int .i64 s1] 30 (0, 0)), (g23, .cells #[.int .i64 u0, .int .i64 u1] 25 (0, 0)), (g24, .cells #[.int .i64 c1, .int .i64 c2, .int .i64 c3, .int .i64 c4] 27 (0, 0)), (g26, .cells #[.int .i64 c1, .int .i64 c2, .int .i64 c3, .int .i64 c4] 27 (0, 0)), (g30, .cells #[.int .i64 p0, .int .i64 p1] 30 (0, 0)), (g31, .cells #[.int .i64 q0, .int .i64 q1] 30 (0, 0)), (g32, .cells #[.int .i64 m1, .int .i64 m2] 30 (0, 0)), (g34, .cells #[.int .i64 m1, .int .i64 m2] 30 (0, 0)), (g40, .cells #[.int .i64 k1, .int .i64 k2] 30 (0, 0)), (g42, .cells #[.int .i64 k1, .int .i64 k2] 30 (0, 0)), (g46, .cells #[.int .i64 g1, .int .i64 g2] 30 (0, 0)), (g48, .cells #[.int .i64 g1, .int .i64 g2] 30 (0, 0)), (g50, .cells #[.int .i64 r0, .int .i64 r1] 30 (0, 0)), (g56, .cells #[.int .i64 d1, .int .i64 d2] 30 (0, 0)), (g58, .cells #[.int .i64 d1, .int .i64 d2] 30 (0, 0))] wc)
                          case first =>
                            as_aux_lemma =>
                              cases nine with
                              | false =>
                                as_aux_lemma =>
                                  go_wp2
                                  go_meet
                                  exact HO
                              | true =>
                                as_aux_lemma =>
                                  obtain ⟨M1, M2, M3, M4, M5⟩ := B6.out rfl
                                  have N1 : ((wrap64 (k2 * p0)) == 0) = false := beq_eq_false_iff_ne.mpr M1; have N1b : ((wrap64 (k2 * p0)) != 0) = true := bne_iff_ne.mpr M1; have N1c : ((wrap64 (k2 * p0)) = 0) = False := eq_false M1
                                  have N2 : ((wrap64 (k2 * q0)) == 0) = false := beq_eq_false_iff_ne.mpr M2; have N2b : ((wrap64 (k2 * q0)) != 0) = true := bne_iff_ne.mpr M2; have N2c : ((wrap64 (k2 * q0)) = 0) = False := eq_false M2
                                  have N3a : ((Int.tmod (wrap64 (k1 * p1)) (wrap64 (k2 * p0))) == (0)) = true := beq_iff_eq.mpr M3; have N3b : ((Int.tmod (wrap64 (k1 * p1)) (wrap64 (k2 * p0))) != (0)) = false := bne_eq_false_iff_eq.mpr M3
                                  have N4a : ((Int.tmod (wrap64 (k1 * q1)) (wrap64 (k2 * q0))) == (0)) = true := beq_iff_eq.mpr M4; have N4b : ((Int.tmod (wrap64 (k1 * q1)) (wrap64 (k2 * q0))) != (0)) = false := bne_eq_false_iff_eq.mpr M4
                                  have L1 := fun W => calls_below (laws_wCommon.calls k (wrap64 (Int.tdiv (wrap64 (k1 * p1)) (wrap64 (k2 * p0)))) (wrap64 (Int.tdiv (wrap64 (k1 * q1)) (wrap64 (k2 * q0)))) 1 W M5)
                                  clear M1 M2 M3 M4 M5
                                  obtain ⟨p40_0, p40_1, f40_0, f40_1⟩ := HO.c2 15 rfl
                                  obtain ⟨p30_0, p30_1, f30_0, f30_1⟩ := HO.c2 11 rfl
                                  obtain ⟨p31_0, p31_1, f31_0, f31_1⟩ := HO.c2 12 rfl
                                  go_wp2_with (first | (go_at_call 34; refine (L1 _).mono ?_; rintro e w' ⟨rfl, hb⟩; replace HO := HO.call hb; clear hb))
                                  go_meet
                                  exact HO
                          case rest =>
                            as_aux_lemma =>
                              clear HO; have HO := hcut; clear hcut
                              revert HO; generalize wc = w30; intro HO
                              go_upto_region 58 with (fail)
                              go_cut [4, 512] from 493 to 512 (fun v4 v512 wc => v512 = .bool false ∧ Own w [(g5, .cells #[.int .i64 a0, .int .i64 a1, .int .i64 a2, .int .i64 a3] 27 (0, 0)), (g6, .cells #[.int .i64 b0, .int .i64 b1, .int .i64 b2, .int .i64 b3] 27 (0, 0)), (g7, .cells #[.int .i64 f1, .int .i64 f2] 30 (0, 0)), (g9, .cells #[.int .i64 f1, .int .i64 f2] 30 (0, 0)), (g11, .cells #[.int .i64 e1, .int .i64 e2] 30 (0, 0)), (g13, .cells #[.int .i64 e1, .int .i64 e2] 30 (0, 0)), (g21, .cells #[.int .i64 t0, .int .i64 t1] 25 (0, 0)), (g22, .cells #[.int .i64 s0, .int .i64 s1] 30 (0, 0)), (g23, .cells #[.int .i64 u0, .int .i64 u1] 25 (0, 0)), (g24, .cells #[.int .i64 c1, .int .i64 c2, .int .i64 c3, .int .i64 c4] 27 (0, 0)), (g26, .cells #[.int .i64 c1, .int .i64 c2, .int .i64 c3, .int .i64 c4] 27 (0, 0)), (g30, .cells #[.int .i64 p0, .int .i64 p1] 30 (0, 0)), (g31, .cells #[.int .i64 q0, .int .i64 q1] 30 (0, 0)), (g32, .cells #[.int .i64 m1, .int .i64 m2] 30 (0, 0)), (g34, .cells #[.int .i64 m1, .int .i64 m2] 30 (0, 0)), (g40, .cells #[.int .i64 k1, .int .i64 k2] 30 (0, 0)), (g42, .cells #[.int .i64 k1, .int .i64 k2] 30 (0, 0)), (g46, .cells #[.int .i64 g1, .int .i64 g2] 30 (0, 0)), (g48, .cells #[.int .i64 g1, .int .i64 g2] 30 (0, 0)), (g50, .cells #[.int .i64 r0, .int .i64 r1] 30 (0, 0)), (g56, .cells #[.int .i64 d1, .int .i64 d2] 30 (0, 0)), (g58, .cells #[.int .i64 d1, .int .i64 d2] 30 (0, 0))] wc)
                              case first =>
                                as_aux_lemma =>
                                  cases eleven with
                                  | false =>
                                    as_aux_lemma =>
                                      obtain ⟨p46_0, p46_1, f46_0, f46_1⟩ := HO.c2 17 rfl
                                      have kp46_0 := cell_regrown p46_0; have kp46_1 := cell_regrown p46_1
                                      try dsimp only [List.append]
                                      refine wp_region_quiet_below (by kernel_rfl) (by kernel_rfl) ?_
                                      repeat (first | go_big_quiet_step (first | with_reducible exact trivial _ _) | quiet_step (first | with_reducible exact trivial _ _))
                                      refine wpQuiet_nil ?_
                                      intro _ hw'; obtain ⟨⟨dq, osq⟩, hw''⟩ := hw'; subst hw''
                                      replace HO := HO.call (below_regrown _ dq osq)
                                      go_wp2; go_meet
                                      exact ⟨by first | rfl | simp, HO⟩
                                  | true =>
                                    as_aux_lemma =>
                                      obtain ⟨wc, M1, M2, M3⟩ := B7.out rfl
                                      have L1 := fun W => calls_below (laws_wCommon.calls k nu de wc W M1)
                                      have Q1 : ∀ d os, Calls Tryz.prog 34 #[.int .i64 nu, .int .i64 de] (grow (redrawn w30 d) os) fun e w'' => e = .returned (.int .i64 wc) ∧ ∃ p : Regrown, w'' = grow (redrawn w30 p.d) p.os := fun d os => Calls.regrown_of (L1 _)
                                      replace Q1 := Aside0.mk Q1
                                      have N1 : ((wc) == 0) = false := beq_eq_false_iff_ne.mpr M2; have N1b : ((wc) != 0) = true := bne_iff_ne.mpr M2; have N1c : ((wc) = 0) = False := eq_false M2
                                      have N2a : ((wrap64 (g1 * wrap64 (Int.tdiv de wc))) == (wrap64 (wrap64 (Int.tdiv nu wc) * g2))) = true := beq_iff_eq.mpr M3; have N2b : ((wrap64 (g1 * wrap64 (Int.tdiv de wc))) != (wrap64 (wrap64 (Int.tdiv nu wc) * g2))) = false := bne_eq_false_iff_eq.mpr M3
                                      have M4 : IntKind.i64.wrap (g1 * IntKind.i64.wrap (Int.tdiv de wc)) = IntKind.i64.wrap (IntKind.i64.wrap (Int.tdiv nu wc) * g2) := by simp only [i64_w]; exact M3
                                      have N3a : ((IntKind.i64.wrap (g1 * IntKind.i64.wrap (Int.tdiv de wc))) == (IntKind.i64.wrap (IntKind.i64.wrap (Int.tdiv nu wc) * g2))) = true := beq_iff_eq.mpr M4; have N3b : ((IntKind.i64.wrap (g1 * IntKind.i64.wrap (Int.tdiv de wc))) != (IntKind.i64.wrap (IntKind.i64.wrap (Int.tdiv nu wc) * g2))) = false := bne_eq_false_iff_eq.mpr M4
                                      clear M1 M2 M3 M4 L1
                                      obtain ⟨p46_0, p46_1, f46_0, f46_1⟩ := HO.c2 17 rfl
                                      have kp46_0 := cell_regrown p46_0; have kp46_1 := cell_regrown p46_1
                                      try dsimp only [List.append]
                                      refine wp_region_quiet_below (by kernel_rfl) (by kernel_rfl) ?_
                                      repeat (first | go_big_quiet_step (first | with_reducible exact Q1.out _ _) | quiet_step (first | with_reducible exact Q1.out _ _))
                                      refine wpQuiet_nil ?_
                                      intro _ hw'; obtain ⟨⟨dq, osq⟩, hw''⟩ := hw'; subst hw''
                                      replace HO := HO.call (below_regrown _ dq osq)
                                      go_wp2; go_meet
                                      exact ⟨by first | rfl | simp, HO⟩
                              case rest =>
                                as_aux_lemma =>
                                  clear HO; obtain ⟨rfl, HO⟩ := hcut
                                  revert HO; generalize wc = w31; intro HO
                                  go_upto_region 60 with (fail)
                                  go_upto_if 513 with (fail)
                                  go_cut [4, 66, 67] from 513 to 525 (fun v4 v66 v67 wc => Own w [(g5, .cells #[.int .i64 a0, .int .i64 a1, .int .i64 a2, .int .i64 a3] 27 (0, 0)), (g6, .cells #[.int .i64 b0, .int .i64 b1, .int .i64 b2, .int .i64 b3] 27 (0, 0)), (g7, .cells #[.int .i64 f1, .int .i64 f2] 30 (0, 0)), (g9, .cells #[.int .i64 f1, .int .i64 f2] 30 (0, 0)), (g11, .cells #[.int .i64 e1, .int .i64 e2] 30 (0, 0)), (g13, .cells #[.int .i64 e1, .int .i64 e2] 30 (0, 0)), (g21, .cells #[.int .i64 t0, .int .i64 t1] 25 (0, 0)), (g22, .cells #[.int .i64 s0, .int .i64 s1] 30 (0, 0)), (g23, .cells #[.int .i64 u0, .int .i64 u1] 25 (0, 0)), (g24, .cells #[.int .i64 c1, .int .i64 c2, .int .i64 c3, .int .i64 c4] 27 (0, 0)), (g26, .cells #[.int .i64 c1, .int .i64 c2, .int .i64 c3, .int .i64 c4] 27 (0, 0)), (g30, .cells #[.int .i64 p0, .int .i64 p1] 30 (0, 0)), (g31, .cells #[.int .i64 q0, .int .i64 q1] 30 (0, 0)), (g32, .cells #[.int .i64 m1, .int .i64 m2] 30 (0, 0)), (g34, .cells #[.int .i64 m1, .int .i64 m2] 30 (0, 0)), (g40, .cells #[.int .i64 k1, .int .i64 k2] 30 (0, 0)), (g42, .cells #[.int .i64 k1, .int .i64 k2] 30 (0, 0)), (g46, .cells #[.int .i64 g1, .int .i64 g2] 30 (0, 0)), (g48, .cells #[.int .i64 g1, .int .i64 g2] 30 (0, 0)), (g50, .cells #[.int .i64 r0, .int .i64 r1] 30 (0, 0)), (g56, .cells #[.int .i64 d1, .int .i64 d2] 30 (0, 0)), (g58, .cells #[.int .i64 d1, .int .i64 d2] 30 (0, 0))] wc)
                                  case first =>
                                    as_aux_lemma =>
                                      cases th with
                                      | false =>
                                        as_aux_lemma =>
                                          go_wp2
                                          go_meet
                                          exact HO
                                      | true =>
                                        as_aux_lemma =>
                                          have L1 := P8.out rfl
                                          go_upto_region 61 with (fail)
                                          go_upto_region 62 with (first | (go_at_call 29; refine (L1 _ HO.below).mono ?_; rintro e w32a ⟨rfl, hb⟩; replace HO := HO.call hb; clear hb))
                                          refine Own.gen (HO.alloc _) ?_
                                          clear HO; intro w32 HO; generalize w32a.heap.size = g66 at HO ⊢; clear w32a
                                          replace HO : Own w [(g5, .cells #[.int .i64 a0, .int .i64 a1, .int .i64 a2, .int .i64 a3] 27 (0, 0)), (g6, .cells #[.int .i64 b0, .int .i64 b1, .int .i64 b2, .int .i64 b3] 27 (0, 0)), (g7, .cells #[.int .i64 f1, .int .i64 f2] 30 (0, 0)), (g9, .cells #[.int .i64 f1, .int .i64 f2] 30 (0, 0)), (g11, .cells #[.int .i64 e1, .int .i64 e2] 30 (0, 0)), (g13, .cells #[.int .i64 e1, .int .i64 e2] 30 (0, 0)), (g21, .cells #[.int .i64 t0, .int .i64 t1] 25 (0, 0)), (g22, .cells #[.int .i64 s0, .int .i64 s1] 30 (0, 0)), (g23, .cells #[.int .i64 u0, .int .i64 u1] 25 (0, 0)), (g24, .cells #[.int .i64 c1, .int .i64 c2, .int .i64 c3, .int .i64 c4] 27 (0, 0)), (g26, .cells #[.int .i64 c1, .int .i64 c2, .int .i64 c3, .int .i64 c4] 27 (0, 0)), (g30, .cells #[.int .i64 p0, .int .i64 p1] 30 (0, 0)), (g31, .cells #[.int .i64 q0, .int .i64 q1] 30 (0, 0)), (g32, .cells #[.int .i64 m1, .int .i64 m2] 30 (0, 0)), (g34, .cells #[.int .i64 m1, .int .i64 m2] 30 (0, 0)), (g40, .cells #[.int .i64 k1, .int .i64 k2] 30 (0, 0)), (g42, .cells #[.int .i64 k1, .int .i64 k2] 30 (0, 0)), (g46, .cells #[.int .i64 g1, .int .i64 g2] 30 (0, 0)), (g48, .cells #[.int .i64 g1, .int .i64 g2] 30 (0, 0)), (g50, .cells #[.int .i64 r0, .int .i64 r1] 30 (0, 0)), (g56, .cells #[.int .i64 d1, .int .i64 d2] 30 (0, 0)), (g58, .cells #[.int .i64 d1, .int .i64 d2] 30 (0, 0)), (g66, .cells #[.int .i64 r0, .int .i64 r1] 30 (0, 0))] w32 := HO
                                          clear L1
                                          obtain ⟨p66_0, p66_1, f66_0, f66_1⟩ := HO.c2 22 rfl
                                          obtain ⟨p50_0, p50_1, f50_0, f50_1⟩ := HO.c2 19 rfl
                                          go_wp2
                                          go_meet
                                          exact Own.less (HO)
                                  case rest =>
                                    as_aux_lemma =>
                                      clear HO; have HO := hcut; clear hcut
                                      revert HO; generalize wc = w32; intro HO
                                      go_upto_region 64 with (fail)
                                      cases fi with
                                      | false =>
                                        as_aux_lemma =>
                                          go_wp2
                                          go_ret
                                          exact ⟨by first | rfl | simp, HO.below⟩
                                      | true =>
                                        as_aux_lemma =>
                                          have L1 := P9.out rfl
                                          go_upto_region 65 with (fail)
                                          obtain ⟨p56_0, p56_1, f56_0, f56_1⟩ := HO.c2 20 rfl
                                          go_upto_region 66 with (first | (go_at_call 26; refine (L1 _ HO.below).mono ?_; rintro e w33a ⟨rfl, hb⟩; replace HO := HO.call hb; clear hb p56_0 p56_1 f56_0 f56_1))
                                          refine Own.gen HO ?_; clear HO; intro w33 HO; clear w33a
                                          clear L1
                                          go_wp2
                                          go_ret
                                          exact ⟨by first | rfl | simp, HO.below⟩
end Go.Proofs.YtejlandhfnnkiaaGreatDoor.PFnClocksAgree
