/- The walk of FnClocksDrift, directed: what its calls return is given, its tests are decided. Written by a program of this repo (wip/gen/lawgen.py, wip/law). -/
import Derived.Test.YtbcpdgiinebnaaaPFnClocksDriftx0
import Derived.Test.YtbcpdgiinebnaaaPFnClocksDriftx1
import Derived.Test.YtbcpdgiinebnaaaPFnClocksDriftx2
import Derived.Test.YtbcpdgiinebnaaaPFnClocksDriftx3
import Derived.Test.YtbcpdgiinebnaaaPFnClocksDriftx4
import Derived.Test.YtbcpdgiinebnaaaPFnClocksDriftx5
import Derived.Test.YtbcpdgiinebnaaaPFnClocksDriftx6
import Derived.Test.YtbcpdgiinebnaaaPFnClocksDriftx7
import Derived.Test.YtbcpdgiinebnaaaPFnClocksDriftx8
import Derived.Test.YtbcpdgiinebnaaaPFnClocksDriftx9
import Derived.Test.YtbcpdgiinebnaaaPFnClocksDriftx10
import Derived.Test.YtbcpdgiinebnaaaPFnClocksDriftx11
import Derived.Test.YtbcpdgiinebnaaaPFnClocksDriftx12
import Derived.Test.YtbcpdgiinebnaaaPFnClocksDriftx13
import Derived.Test.YtbcpdgiinebnaaaPFnClocksDriftx14
import Derived.Test.YtbcpdgiinebnaaaPFnClocksDriftx15
import Derived.Test.YtbcpdgiinebnaaaPFnClocksDriftx16
import Derived.Test.YtbcpdgiinebnaaaPFnClocksDriftx17
import Derived.Test.YtbcpdgiinebnaaaPFnClocksDriftx18
import Derived.Test.YtbcpdgiinebnaaaPFnClocksDriftx19
import Derived.Test.YtbcpdgiinebnaaaPFnClocksDriftx20
import Derived.Test.YtbcpdgiinebnaaaPFnClocksDriftx21
import Derived.Test.YtbcpdgiinebnaaaPFnClocksDriftx22
import Derived.Test.YtbcpdgiinebnaaaPFnClocksDriftx23
import Derived.Test.YtbcpdgiinebnaaaPFnClocksDriftx24
import Derived.Test.YtbcpdgiinebnaaaPFnClocksDriftx25
import Derived.Deep.DeepCutAuto
import Derived.Lib.QuietBelow
set_option linter.unusedVariables false
set_option linter.unusedSimpArgs false
namespace Go.Proofs.Ytbcpdgiinebnaaa.PFnClocksDrift
open Go.RowKit Go.Sort Go.Proofs.YtbcpdgiinebnaaaW.PrintWords Go.Proofs.YtbcpdgiinebnaaaW.PrintLast Go.Proofs.YtbcpdgiinebnaaaW.PrintMore
attribute [local go_sem high] eqA35 eqA43 eqA44
set_option maxHeartbeats 60000000 in
set_option maxRecDepth 100000 in
theorem walkV (k : Nat) (a0 a1 a2 a3 b0 b1 c0 c1 c2 c3 d0 d1 d2 d3 t0 t1 x1 x2 y1 y2 s1 s2 s3 s4 f1 f2 e1 e2 h1 h2 : Int) (ok one three five seven nine ck big : Bool) (w : World) (A_0 : Option Addr) (c_0 : Nat) (l0 : List Int) (A_1 : Option Addr) (c_1 : Nat) (l1 : List Int) (hr0 : Kd.C (Kd.int .u8) w A_0 l0.length l0) (hc0 : l0.length ≤ c_0) (hr1 : Kd.C (Kd.int .u8) w A_1 l1.length l1) (hc1 : l1.length ≤ c_1)
  (A0 : laws_big.f l0 l1 = some big)
  (D1 : big = false → spec_DrawShownAfter.f k l0 = some (a0, a1, a2, a3, b0, b1))
  (D2 : big = false → spec_DrawFirstRight.f k l1 = some (c0, c1, c2, c3))
  (D3 : big = false → spec_DrawFirstShown.f k l1 = some (d0, d1, d2, d3, t0, t1))
  (A1 : impl_ShownAfter.f k a0 a1 a2 a3 b0 b1 = some (x1, x2, ok))
  (A2 : spec_ShownAfter.f k a0 a1 a2 a3 b0 b1 = some (x1, x2, ok))
  (A3 : impl_AheadAfter.f k a0 a1 a2 a3 b0 b1 = some (y1, y2, one))
  (A4 : spec_AheadAfter.f k a0 a1 a2 a3 b0 b1 = some (y1, y2, one))
  (A5 : impl_SetRight.f k a0 a1 a2 a3 b0 b1 = some (s1, s2, s3, s4, three))
  (A6 : spec_SetRight.f k a0 a1 a2 a3 b0 b1 = some (s1, s2, s3, s4, three))
  (B1 : ok = true → one = true → ∃ m1 m2 u1 u2 six, impl_MakeTurn.f k b0 b1 = some (m1, m2, true) ∧ impl_AddTurns.f k m1 m2 y1 y2 = some (u1, u2, six) ∧ (six = true → u1 = x1 ∧ u2 = x2))
  (B2 : three = true → impl_AheadAfter.f k s1 s2 s3 s4 b0 b1 = some (0, 1, true) ∧ a2 = s3 ∧ a3 = s4)
  (A7 : impl_FirstRight.f k c0 c1 c2 c3 = some (f1, f2, five))
  (A8 : spec_FirstRight.f k c0 c1 c2 c3 = some (f1, f2, five))
  (A9 : impl_RightEvery.f k c0 c1 c2 c3 = some (e1, e2, seven))
  (A10 : spec_RightEvery.f k c0 c1 c2 c3 = some (e1, e2, seven))
  (A11 : impl_IsClock.f k c0 c1 c2 c3 = some ck)
  (A12 : spec_IsClock.f k c0 c1 c2 c3 = some ck)
  (B3 : five = true → ck = true)
  (B4 : seven = true → ck = true)
  (B5 : five = true → impl_AheadAfter.f k c0 c1 c2 c3 f1 f2 = some (0, 1, true) ∧ ¬ f1 < 1)
  (B6 : five = true → seven = true → ¬ wrap64 (f1 * e2) > wrap64 (e1 * f2) ∧ ∃ n1 n2 nn, impl_AddSpans.f k f1 f2 e1 e2 = some (n1, n2, nn) ∧ (nn = true → impl_AheadAfter.f k c0 c1 c2 c3 n1 n2 = some (0, 1, true)))
  (A13 : impl_FirstShown.f k d0 d1 d2 d3 t0 t1 = some (h1, h2, nine))
  (A14 : spec_FirstShown.f k d0 d1 d2 d3 t0 t1 = some (h1, h2, nine))
  (B7 : nine = true → impl_ShownAfter.f k d0 d1 d2 d3 h1 h2 = some (t0, t1, true) ∧ ¬ wrap64 (h1 * d2) ≥ wrap64 (h2 * d3)) :
    Calls Try.prog 9 #[.slice A_0 l0.length c_0, .slice A_1 l1.length c_1] w fun e w' => e = .returned (.bool true) ∧ Below w.heap.size w w' := by
  have hu35 := Try.underlying35
  have hu43 := Try.underlying43
  have hu44 := Try.underlying44
  have KB := laws_big.calls A_0 c_0 l0 A_1 c_1 l1 big w hr0 hc0 hr1 hc1 A0
  have K1 := fun W => impl_ShownAfter.calls k a0 a1 a2 a3 b0 b1 x1 x2 ok W A1
  have K2 := fun W => spec_ShownAfter.calls k a0 a1 a2 a3 b0 b1 x1 x2 ok W A2
  have K3 := fun W => impl_AheadAfter.calls k a0 a1 a2 a3 b0 b1 y1 y2 one W A3
  have K4 := fun W => spec_AheadAfter.calls k a0 a1 a2 a3 b0 b1 y1 y2 one W A4
  have K5 := fun W => impl_SetRight.calls k a0 a1 a2 a3 b0 b1 s1 s2 s3 s4 three W A5
  have K6 := fun W => spec_SetRight.calls k a0 a1 a2 a3 b0 b1 s1 s2 s3 s4 three W A6
  have K7 := fun W => impl_FirstRight.calls k c0 c1 c2 c3 f1 f2 five W A7
  have K8 := fun W => spec_FirstRight.calls k c0 c1 c2 c3 f1 f2 five W A8
  have K9 := fun W => impl_RightEvery.calls k c0 c1 c2 c3 e1 e2 seven W A9
  have K10 := fun W => spec_RightEvery.calls k c0 c1 c2 c3 e1 e2 seven W A10
  have K11 := fun W => impl_IsClock.calls k c0 c1 c2 c3 ck W A11
  have K12 := fun W => spec_IsClock.calls k c0 c1 c2 c3 ck W A12
  have K13 := fun W => impl_FirstShown.calls k d0 d1 d2 d3 t0 t1 h1 h2 nine W A13
  have K14 := fun W => spec_FirstShown.calls k d0 d1 d2 d3 t0 t1 h1 h2 nine W A14
  replace B1 := Aside0.mk B1
  replace B2 := Aside0.mk B2
  replace B3 := Aside0.mk B3
  replace B4 := Aside0.mk B4
  replace B5 := Aside0.mk B5
  replace B6 := Aside0.mk B6
  replace B7 := Aside0.mk B7
  clear A1 A2 A3 A4 A5 A6 A7 A8 A9 A10 A11 A12 A13 A14
  replace D1 := Aside0.mk D1; replace D2 := Aside0.mk D2; replace D3 := Aside0.mk D3; clear A0
  go_enter Try.func9, Try.ntmps9
  cases big with
  | true =>
    clear K1 K2 K3 K4 K5 K6 K7 K8 K9 K10 K11 K12 K13 K14
    go_wp2_with (first | (go_at_call 44; refine KB.mono ?_; rintro e w' ⟨rfl, nd, rfl⟩))
    go_ret
    exact ⟨rfl, pw_below_drewN (Below.refl _ _) nd⟩
  | false =>
    as_aux_lemma =>
      replace D1 := D1.out rfl; replace D2 := D2.out rfl; replace D3 := D3.out rfl
      have KD1 := fun W (hb : Below w.heap.size w W) => spec_DrawShownAfter.calls k A_0 c_0 l0 a0 a1 a2 a3 b0 b1 W (Kd.C_below hr0 hb) hc0 D1
      have KD2 := fun W (hb : Below w.heap.size w W) => spec_DrawFirstRight.calls k A_1 c_1 l1 c0 c1 c2 c3 W (Kd.C_below hr1 hb) hc1 D2
      have KD3 := fun W (hb : Below w.heap.size w W) => spec_DrawFirstShown.calls k A_1 c_1 l1 d0 d1 d2 d3 t0 t1 W (Kd.C_below hr1 hb) hc1 D3
      clear D1 D2 D3 hr0 hr1 hc0 hc1
      go_upto_region 3 with (first | (go_at_call 44; refine KB.mono ?_; rintro e w' ⟨rfl, nd, rfl⟩))
      refine Own.gen ((Own.start w).drewN nd) ?_
      clear KB; intro w0 HO
      go_upto_region 4 with (first | (go_at_call 78; refine (KD1 _ HO.below).mono ?_; rintro e w1a ⟨rfl, hb⟩; replace HO := HO.call hb; clear hb))
      refine Own.gen ((HO.alloc_at rfl _).1.alloc_at (HO.alloc_at rfl _).2 _).1 ?_
      clear HO; intro w1 HO
      generalize w1a.heap.size + 1 = g6 at HO ⊢
      generalize w1a.heap.size = g5 at HO ⊢
      clear w1a
      replace HO : Own w [(g5, .cells #[.int .i64 a0, .int .i64 a1, .int .i64 a2, .int .i64 a3] 43 (0, 0)), (g6, .cells #[.int .i64 b0, .int .i64 b1] 44 (0, 0))] w1 := HO
      clear KD1
      obtain ⟨p5_0, p5_1, p5_2, p5_3, f5_0, f5_1, f5_2, f5_3⟩ := HO.c4 0 rfl
      obtain ⟨p6_0, p6_1, f6_0, f6_1⟩ := HO.c2 1 rfl
      go_upto_region 5 with (first | (go_at_call 27; refine (K1 _).mono ?_; rintro e w2a ⟨rfl, hb⟩; replace HO := HO.call hb; clear hb p5_0 p5_1 p5_2 p5_3 f5_0 f5_1 f5_2 f5_3 p6_0 p6_1 f6_0 f6_1))
      refine Own.gen (HO.alloc _) ?_
      clear HO; intro w2 HO; generalize w2a.heap.size = g7 at HO ⊢; clear w2a
      replace HO : Own w [(g5, .cells #[.int .i64 a0, .int .i64 a1, .int .i64 a2, .int .i64 a3] 43 (0, 0)), (g6, .cells #[.int .i64 b0, .int .i64 b1] 44 (0, 0)), (g7, .cells #[.int .i64 x1, .int .i64 x2] 35 (0, 0))] w2 := HO
      obtain ⟨p5_0, p5_1, p5_2, p5_3, f5_0, f5_1, f5_2, f5_3⟩ := HO.c4 0 rfl
      obtain ⟨p6_0, p6_1, f6_0, f6_1⟩ := HO.c2 1 rfl
      go_upto_region 6 with (first | (go_at_call 28; refine (K2 _).mono ?_; rintro e w3a ⟨rfl, hb⟩; replace HO := HO.call hb; clear hb p5_0 p5_1 p5_2 p5_3 f5_0 f5_1 f5_2 f5_3 p6_0 p6_1 f6_0 f6_1))
      refine Own.gen (HO.alloc _) ?_
      clear HO; intro w3 HO; generalize w3a.heap.size = g9 at HO ⊢; clear w3a
      replace HO : Own w [(g5, .cells #[.int .i64 a0, .int .i64 a1, .int .i64 a2, .int .i64 a3] 43 (0, 0)), (g6, .cells #[.int .i64 b0, .int .i64 b1] 44 (0, 0)), (g7, .cells #[.int .i64 x1, .int .i64 x2] 35 (0, 0)), (g9, .cells #[.int .i64 x1, .int .i64 x2] 35 (0, 0))] w3 := HO
      obtain ⟨p5_0, p5_1, p5_2, p5_3, f5_0, f5_1, f5_2, f5_3⟩ := HO.c4 0 rfl
      obtain ⟨p6_0, p6_1, f6_0, f6_1⟩ := HO.c2 1 rfl
      go_upto_region 7 with (first | (go_at_call 29; refine (K3 _).mono ?_; rintro e w4a ⟨rfl, hb⟩; replace HO := HO.call hb; clear hb p5_0 p5_1 p5_2 p5_3 f5_0 f5_1 f5_2 f5_3 p6_0 p6_1 f6_0 f6_1))
      refine Own.gen (HO.alloc _) ?_
      clear HO; intro w4 HO; generalize w4a.heap.size = g11 at HO ⊢; clear w4a
      replace HO : Own w [(g5, .cells #[.int .i64 a0, .int .i64 a1, .int .i64 a2, .int .i64 a3] 43 (0, 0)), (g6, .cells #[.int .i64 b0, .int .i64 b1] 44 (0, 0)), (g7, .cells #[.int .i64 x1, .int .i64 x2] 35 (0, 0)), (g9, .cells #[.int .i64 x1, .int .i64 x2] 35 (0, 0)), (g11, .cells #[.int .i64 y1, .int .i64 y2] 35 (0, 0))] w4 := HO
      obtain ⟨p5_0, p5_1, p5_2, p5_3, f5_0, f5_1, f5_2, f5_3⟩ := HO.c4 0 rfl
      obtain ⟨p6_0, p6_1, f6_0, f6_1⟩ := HO.c2 1 rfl
      go_upto_region 8 with (first | (go_at_call 30; refine (K4 _).mono ?_; rintro e w5a ⟨rfl, hb⟩; replace HO := HO.call hb; clear hb p5_0 p5_1 p5_2 p5_3 f5_0 f5_1 f5_2 f5_3 p6_0 p6_1 f6_0 f6_1))
      refine Own.gen (HO.alloc _) ?_
      clear HO; intro w5 HO; generalize w5a.heap.size = g13 at HO ⊢; clear w5a
      replace HO : Own w [(g5, .cells #[.int .i64 a0, .int .i64 a1, .int .i64 a2, .int .i64 a3] 43 (0, 0)), (g6, .cells #[.int .i64 b0, .int .i64 b1] 44 (0, 0)), (g7, .cells #[.int .i64 x1, .int .i64 x2] 35 (0, 0)), (g9, .cells #[.int .i64 x1, .int .i64 x2] 35 (0, 0)), (g11, .cells #[.int .i64 y1, .int .i64 y2] 35 (0, 0)), (g13, .cells #[.int .i64 y1, .int .i64 y2] 35 (0, 0))] w5 := HO
      obtain ⟨p5_0, p5_1, p5_2, p5_3, f5_0, f5_1, f5_2, f5_3⟩ := HO.c4 0 rfl
      obtain ⟨p6_0, p6_1, f6_0, f6_1⟩ := HO.c2 1 rfl
      go_upto_region 9 with (first | (go_at_call 31; refine (K5 _).mono ?_; rintro e w6a ⟨rfl, hb⟩; replace HO := HO.call hb; clear hb p5_0 p5_1 p5_2 p5_3 f5_0 f5_1 f5_2 f5_3 p6_0 p6_1 f6_0 f6_1))
      refine Own.gen (HO.alloc _) ?_
      clear HO; intro w6 HO; generalize w6a.heap.size = g15 at HO ⊢; clear w6a
      replace HO : Own w [(g5, .cells #[.int .i64 a0, .int .i64 a1, .int .i64 a2, .int .i64 a3] 43 (0, 0)), (g6, .cells #[.int .i64 b0, .int .i64 b1] 44 (0, 0)), (g7, .cells #[.int .i64 x1, .int .i64 x2] 35 (0, 0)), (g9, .cells #[.int .i64 x1, .int .i64 x2] 35 (0, 0)), (g11, .cells #[.int .i64 y1, .int .i64 y2] 35 (0, 0)), (g13, .cells #[.int .i64 y1, .int .i64 y2] 35 (0, 0)), (g15, .cells #[.int .i64 s1, .int .i64 s2, .int .i64 s3, .int .i64 s4] 43 (0, 0))] w6 := HO
      obtain ⟨p5_0, p5_1, p5_2, p5_3, f5_0, f5_1, f5_2, f5_3⟩ := HO.c4 0 rfl
      obtain ⟨p6_0, p6_1, f6_0, f6_1⟩ := HO.c2 1 rfl
      go_upto_region 10 with (first | (go_at_call 32; refine (K6 _).mono ?_; rintro e w7a ⟨rfl, hb⟩; replace HO := HO.call hb; clear hb p5_0 p5_1 p5_2 p5_3 f5_0 f5_1 f5_2 f5_3 p6_0 p6_1 f6_0 f6_1))
      refine Own.gen (HO.alloc _) ?_
      clear HO; intro w7 HO; generalize w7a.heap.size = g17 at HO ⊢; clear w7a
      replace HO : Own w [(g5, .cells #[.int .i64 a0, .int .i64 a1, .int .i64 a2, .int .i64 a3] 43 (0, 0)), (g6, .cells #[.int .i64 b0, .int .i64 b1] 44 (0, 0)), (g7, .cells #[.int .i64 x1, .int .i64 x2] 35 (0, 0)), (g9, .cells #[.int .i64 x1, .int .i64 x2] 35 (0, 0)), (g11, .cells #[.int .i64 y1, .int .i64 y2] 35 (0, 0)), (g13, .cells #[.int .i64 y1, .int .i64 y2] 35 (0, 0)), (g15, .cells #[.int .i64 s1, .int .i64 s2, .int .i64 s3, .int .i64 s4] 43 (0, 0)), (g17, .cells #[.int .i64 s1, .int .i64 s2, .int .i64 s3, .int .i64 s4] 43 (0, 0))] w7 := HO
      clear K1 K2 K3 K4 K5 K6
      obtain ⟨p7_0, p7_1, f7_0, f7_1⟩ := HO.c2 2 rfl
      obtain ⟨p9_0, p9_1, f9_0, f9_1⟩ := HO.c2 3 rfl
      obtain ⟨p11_0, p11_1, f11_0, f11_1⟩ := HO.c2 4 rfl
      obtain ⟨p13_0, p13_1, f13_0, f13_1⟩ := HO.c2 5 rfl
      obtain ⟨p15_0, p15_1, p15_2, p15_3, f15_0, f15_1, f15_2, f15_3⟩ := HO.c4 6 rfl
      obtain ⟨p17_0, p17_1, p17_2, p17_3, f17_0, f17_1, f17_2, f17_3⟩ := HO.c4 7 rfl
      go_upto_region 12 with (fail)
      clear p7_0 p7_1 f7_0 f7_1 p9_0 p9_1 f9_0 f9_1 p11_0 p11_1 f11_0 f11_1 p13_0 p13_1 f13_0 f13_1 p15_0 p15_1 p15_2 p15_3 f15_0 f15_1 f15_2 f15_3 p17_0 p17_1 p17_2 p17_3 f17_0 f17_1 f17_2 f17_3
      obtain ⟨q123, hq123⟩ : ∃ q, q = (ok && one) := ⟨_, rfl⟩
      replace hq123 := Aside0.mk hq123
      go_cut [123] (fun v123 wc => v123 = .bool q123 ∧ Own w [(g5, .cells #[.int .i64 a0, .int .i64 a1, .int .i64 a2, .int .i64 a3] 43 (0, 0)), (g6, .cells #[.int .i64 b0, .int .i64 b1] 44 (0, 0)), (g7, .cells #[.int .i64 x1, .int .i64 x2] 35 (0, 0)), (g9, .cells #[.int .i64 x1, .int .i64 x2] 35 (0, 0)), (g11, .cells #[.int .i64 y1, .int .i64 y2] 35 (0, 0)), (g13, .cells #[.int .i64 y1, .int .i64 y2] 35 (0, 0)), (g15, .cells #[.int .i64 s1, .int .i64 s2, .int .i64 s3, .int .i64 s4] 43 (0, 0)), (g17, .cells #[.int .i64 s1, .int .i64 s2, .int .i64 s3, .int .i64 s4] 43 (0, 0))] wc)
      case first =>
        as_aux_lemma =>
          cases ok
          all_goals (go_wp2; go_meet)
          all_goals exact ⟨by rw [hq123.out]; first | rfl | simp, HO⟩
      case rest =>
        as_aux_lemma =>
          clear HO; obtain ⟨rfl, HO⟩ := hcut
          revert HO; generalize wc = w8; intro HO
          go_upto_if 123 with (fail)
          go_cut [] (fun wc => Own w [(g5, .cells #[.int .i64 a0, .int .i64 a1, .int .i64 a2, .int .i64 a3] 43 (0, 0)), (g6, .cells #[.int .i64 b0, .int .i64 b1] 44 (0, 0)), (g7, .cells #[.int .i64 x1, .int .i64 x2] 35 (0, 0)), (g9, .cells #[.int .i64 x1, .int .i64 x2] 35 (0, 0)), (g11, .cells #[.int .i64 y1, .int .i64 y2] 35 (0, 0)), (g13, .cells #[.int .i64 y1, .int .i64 y2] 35 (0, 0)), (g15, .cells #[.int .i64 s1, .int .i64 s2, .int .i64 s3, .int .i64 s4] 43 (0, 0)), (g17, .cells #[.int .i64 s1, .int .i64 s2, .int .i64 s3, .int .i64 s4] 43 (0, 0))] wc)
          case first =>
            as_aux_lemma =>
              cases q123 with
              | false =>
                as_aux_lemma =>
                  go_wp2
                  go_meet
                  exact HO
              | true =>
                as_aux_lemma =>
                  have hq := hq123.out; simp only [Bool.true_eq, Bool.and_eq_true] at hq
                  obtain ⟨m1, m2, u1, u2, six, M1, M2, M3⟩ := B1.out hq.1 hq.2; have M3 := Aside0.mk M3; clear hq hq123
                  have L1 := fun W => impl_MakeTurn.calls k b0 b1 m1 m2 true W M1
                  have L2 := fun W => impl_AddTurns.calls k m1 m2 y1 y2 u1 u2 six W M2
                  clear M1 M2
                  go_upto_region 13 with (fail)
                  obtain ⟨p6_0, p6_1, f6_0, f6_1⟩ := HO.c2 1 rfl
                  go_upto_region 14 with (first | (go_at_call 33; refine (L1 _).mono ?_; rintro e w9a ⟨rfl, hb⟩; replace HO := HO.call hb; clear hb p6_0 p6_1 f6_0 f6_1))
                  refine Own.gen (HO.alloc _) ?_
                  clear HO; intro w9 HO; generalize w9a.heap.size = g19 at HO ⊢; clear w9a
                  replace HO : Own w [(g5, .cells #[.int .i64 a0, .int .i64 a1, .int .i64 a2, .int .i64 a3] 43 (0, 0)), (g6, .cells #[.int .i64 b0, .int .i64 b1] 44 (0, 0)), (g7, .cells #[.int .i64 x1, .int .i64 x2] 35 (0, 0)), (g9, .cells #[.int .i64 x1, .int .i64 x2] 35 (0, 0)), (g11, .cells #[.int .i64 y1, .int .i64 y2] 35 (0, 0)), (g13, .cells #[.int .i64 y1, .int .i64 y2] 35 (0, 0)), (g15, .cells #[.int .i64 s1, .int .i64 s2, .int .i64 s3, .int .i64 s4] 43 (0, 0)), (g17, .cells #[.int .i64 s1, .int .i64 s2, .int .i64 s3, .int .i64 s4] 43 (0, 0)), (g19, .cells #[.int .i64 m1, .int .i64 m2] 35 (0, 0))] w9 := HO
                  obtain ⟨p19_0, p19_1, f19_0, f19_1⟩ := HO.c2 8 rfl
                  obtain ⟨p11_0, p11_1, f11_0, f11_1⟩ := HO.c2 4 rfl
                  go_upto_region 15 with (first | (go_at_call 34; refine (L2 _).mono ?_; rintro e w10a ⟨rfl, hb⟩; replace HO := HO.call hb; clear hb p19_0 p19_1 f19_0 f19_1 p11_0 p11_1 f11_0 f11_1))
                  refine Own.gen (HO.alloc _) ?_
                  clear HO; intro w10 HO; generalize w10a.heap.size = g21 at HO ⊢; clear w10a
                  replace HO : Own w [(g5, .cells #[.int .i64 a0, .int .i64 a1, .int .i64 a2, .int .i64 a3] 43 (0, 0)), (g6, .cells #[.int .i64 b0, .int .i64 b1] 44 (0, 0)), (g7, .cells #[.int .i64 x1, .int .i64 x2] 35 (0, 0)), (g9, .cells #[.int .i64 x1, .int .i64 x2] 35 (0, 0)), (g11, .cells #[.int .i64 y1, .int .i64 y2] 35 (0, 0)), (g13, .cells #[.int .i64 y1, .int .i64 y2] 35 (0, 0)), (g15, .cells #[.int .i64 s1, .int .i64 s2, .int .i64 s3, .int .i64 s4] 43 (0, 0)), (g17, .cells #[.int .i64 s1, .int .i64 s2, .int .i64 s3, .int .i64 s4] 43 (0, 0)), (g19, .cells #[.int .i64 m1, .int .i64 m2] 35 (0, 0)), (g21, .cells #[.int .i64 u1, .int .i64 u2] 35 (0, 0))] w10 := HO
                  obtain ⟨p21_0, p21_1, f21_0, f21_1⟩ := HO.c2 9 rfl
                  obtain ⟨p7_0, p7_1, f7_0, f7_1⟩ := HO.c2 2 rfl
                  cases six with
                  | false =>
                    go_wp2
                    go_meet
                    exact Own.less (Own.less (HO))
                  | true =>
                    obtain ⟨rfl, rfl⟩ := M3.out rfl
                    go_wp2
                    go_meet
                    exact Own.less (Own.less (HO))
          case rest =>
            as_aux_lemma =>
              clear HO; have HO := hcut; clear hcut
              revert HO; generalize wc = w9; intro HO
              go_upto_if 148 with (fail)
              go_cut [] (fun wc => Own w [(g5, .cells #[.int .i64 a0, .int .i64 a1, .int .i64 a2, .int .i64 a3] 43 (0, 0)), (g6, .cells #[.int .i64 b0, .int .i64 b1] 44 (0, 0)), (g7, .cells #[.int .i64 x1, .int .i64 x2] 35 (0, 0)), (g9, .cells #[.int .i64 x1, .int .i64 x2] 35 (0, 0)), (g11, .cells #[.int .i64 y1, .int .i64 y2] 35 (0, 0)), (g13, .cells #[.int .i64 y1, .int .i64 y2] 35 (0, 0)), (g15, .cells #[.int .i64 s1, .int .i64 s2, .int .i64 s3, .int .i64 s4] 43 (0, 0)), (g17, .cells #[.int .i64 s1, .int .i64 s2, .int .i64 s3, .int .i64 s4] 43 (0, 0))] wc)
              case first =>
                as_aux_lemma =>
                  cases three with
                  | false =>
                    as_aux_lemma =>
                      go_wp2
                      go_meet
                      exact HO
                  | true =>
                    as_aux_lemma =>
                      obtain ⟨M1, rfl, rfl⟩ := B2.out rfl
                      have L1 := fun W => impl_AheadAfter.calls k s1 s2 a2 a3 b0 b1 0 1 true W M1
                      clear M1
                      go_upto_region 18 with (fail)
                      obtain ⟨p15_0, p15_1, p15_2, p15_3, f15_0, f15_1, f15_2, f15_3⟩ := HO.c4 6 rfl
                      obtain ⟨p6_0, p6_1, f6_0, f6_1⟩ := HO.c2 1 rfl
                      go_upto_region 19 with (first | (go_at_call 29; refine (L1 _).mono ?_; rintro e w10a ⟨rfl, hb⟩; replace HO := HO.call hb; clear hb p15_0 p15_1 p15_2 p15_3 f15_0 f15_1 f15_2 f15_3 p6_0 p6_1 f6_0 f6_1))
                      refine Own.gen (HO.alloc _) ?_
                      clear HO; intro w10 HO; generalize w10a.heap.size = g23 at HO ⊢; clear w10a
                      replace HO : Own w [(g5, .cells #[.int .i64 a0, .int .i64 a1, .int .i64 a2, .int .i64 a3] 43 (0, 0)), (g6, .cells #[.int .i64 b0, .int .i64 b1] 44 (0, 0)), (g7, .cells #[.int .i64 x1, .int .i64 x2] 35 (0, 0)), (g9, .cells #[.int .i64 x1, .int .i64 x2] 35 (0, 0)), (g11, .cells #[.int .i64 y1, .int .i64 y2] 35 (0, 0)), (g13, .cells #[.int .i64 y1, .int .i64 y2] 35 (0, 0)), (g15, .cells #[.int .i64 s1, .int .i64 s2, .int .i64 a2, .int .i64 a3] 43 (0, 0)), (g17, .cells #[.int .i64 s1, .int .i64 s2, .int .i64 a2, .int .i64 a3] 43 (0, 0)), (g23, .cells #[.int .i64 0, .int .i64 1] 35 (0, 0))] w10 := HO
                      obtain ⟨p23_0, p23_1, f23_0, f23_1⟩ := HO.c2 8 rfl
                      obtain ⟨p15_0, p15_1, p15_2, p15_3, f15_0, f15_1, f15_2, f15_3⟩ := HO.c4 6 rfl
                      obtain ⟨p5_0, p5_1, p5_2, p5_3, f5_0, f5_1, f5_2, f5_3⟩ := HO.c4 0 rfl
                      go_wp2
                      go_meet
                      exact Own.less (HO)
              case rest =>
                as_aux_lemma =>
                  clear HO; have HO := hcut; clear hcut
                  revert HO; generalize wc = w10; intro HO
                  go_upto_region 21 with (fail)
                  go_upto_region 22 with (first | (go_at_call 79; refine (KD2 _ HO.below).mono ?_; rintro e w11a ⟨rfl, hb⟩; replace HO := HO.call hb; clear hb))
                  refine Own.gen (HO.alloc _) ?_
                  clear HO; intro w11 HO; generalize w11a.heap.size = g25 at HO ⊢; clear w11a
                  replace HO : Own w [(g5, .cells #[.int .i64 a0, .int .i64 a1, .int .i64 a2, .int .i64 a3] 43 (0, 0)), (g6, .cells #[.int .i64 b0, .int .i64 b1] 44 (0, 0)), (g7, .cells #[.int .i64 x1, .int .i64 x2] 35 (0, 0)), (g9, .cells #[.int .i64 x1, .int .i64 x2] 35 (0, 0)), (g11, .cells #[.int .i64 y1, .int .i64 y2] 35 (0, 0)), (g13, .cells #[.int .i64 y1, .int .i64 y2] 35 (0, 0)), (g15, .cells #[.int .i64 s1, .int .i64 s2, .int .i64 s3, .int .i64 s4] 43 (0, 0)), (g17, .cells #[.int .i64 s1, .int .i64 s2, .int .i64 s3, .int .i64 s4] 43 (0, 0)), (g25, .cells #[.int .i64 c0, .int .i64 c1, .int .i64 c2, .int .i64 c3] 43 (0, 0))] w11 := HO
                  clear KD2
                  obtain ⟨p25_0, p25_1, p25_2, p25_3, f25_0, f25_1, f25_2, f25_3⟩ := HO.c4 8 rfl
                  go_upto_region 23 with (first | (go_at_call 35; refine (K7 _).mono ?_; rintro e w12a ⟨rfl, hb⟩; replace HO := HO.call hb; clear hb p25_0 p25_1 p25_2 p25_3 f25_0 f25_1 f25_2 f25_3))
                  refine Own.gen (HO.alloc _) ?_
                  clear HO; intro w12 HO; generalize w12a.heap.size = g26 at HO ⊢; clear w12a
                  replace HO : Own w [(g5, .cells #[.int .i64 a0, .int .i64 a1, .int .i64 a2, .int .i64 a3] 43 (0, 0)), (g6, .cells #[.int .i64 b0, .int .i64 b1] 44 (0, 0)), (g7, .cells #[.int .i64 x1, .int .i64 x2] 35 (0, 0)), (g9, .cells #[.int .i64 x1, .int .i64 x2] 35 (0, 0)), (g11, .cells #[.int .i64 y1, .int .i64 y2] 35 (0, 0)), (g13, .cells #[.int .i64 y1, .int .i64 y2] 35 (0, 0)), (g15, .cells #[.int .i64 s1, .int .i64 s2, .int .i64 s3, .int .i64 s4] 43 (0, 0)), (g17, .cells #[.int .i64 s1, .int .i64 s2, .int .i64 s3, .int .i64 s4] 43 (0, 0)), (g25, .cells #[.int .i64 c0, .int .i64 c1, .int .i64 c2, .int .i64 c3] 43 (0, 0)), (g26, .cells #[.int .i64 f1, .int .i64 f2] 44 (0, 0))] w12 := HO
                  obtain ⟨p25_0, p25_1, p25_2, p25_3, f25_0, f25_1, f25_2, f25_3⟩ := HO.c4 8 rfl
                  go_upto_region 24 with (first | (go_at_call 36; refine (K8 _).mono ?_; rintro e w13a ⟨rfl, hb⟩; replace HO := HO.call hb; clear hb p25_0 p25_1 p25_2 p25_3 f25_0 f25_1 f25_2 f25_3))
                  refine Own.gen (HO.alloc _) ?_
                  clear HO; intro w13 HO; generalize w13a.heap.size = g28 at HO ⊢; clear w13a
                  replace HO : Own w [(g5, .cells #[.int .i64 a0, .int .i64 a1, .int .i64 a2, .int .i64 a3] 43 (0, 0)), (g6, .cells #[.int .i64 b0, .int .i64 b1] 44 (0, 0)), (g7, .cells #[.int .i64 x1, .int .i64 x2] 35 (0, 0)), (g9, .cells #[.int .i64 x1, .int .i64 x2] 35 (0, 0)), (g11, .cells #[.int .i64 y1, .int .i64 y2] 35 (0, 0)), (g13, .cells #[.int .i64 y1, .int .i64 y2] 35 (0, 0)), (g15, .cells #[.int .i64 s1, .int .i64 s2, .int .i64 s3, .int .i64 s4] 43 (0, 0)), (g17, .cells #[.int .i64 s1, .int .i64 s2, .int .i64 s3, .int .i64 s4] 43 (0, 0)), (g25, .cells #[.int .i64 c0, .int .i64 c1, .int .i64 c2, .int .i64 c3] 43 (0, 0)), (g26, .cells #[.int .i64 f1, .int .i64 f2] 44 (0, 0)), (g28, .cells #[.int .i64 f1, .int .i64 f2] 44 (0, 0))] w13 := HO
                  obtain ⟨p25_0, p25_1, p25_2, p25_3, f25_0, f25_1, f25_2, f25_3⟩ := HO.c4 8 rfl
                  go_upto_region 25 with (first | (go_at_call 37; refine (K9 _).mono ?_; rintro e w14a ⟨rfl, hb⟩; replace HO := HO.call hb; clear hb p25_0 p25_1 p25_2 p25_3 f25_0 f25_1 f25_2 f25_3))
                  refine Own.gen (HO.alloc _) ?_
                  clear HO; intro w14 HO; generalize w14a.heap.size = g30 at HO ⊢; clear w14a
                  replace HO : Own w [(g5, .cells #[.int .i64 a0, .int .i64 a1, .int .i64 a2, .int .i64 a3] 43 (0, 0)), (g6, .cells #[.int .i64 b0, .int .i64 b1] 44 (0, 0)), (g7, .cells #[.int .i64 x1, .int .i64 x2] 35 (0, 0)), (g9, .cells #[.int .i64 x1, .int .i64 x2] 35 (0, 0)), (g11, .cells #[.int .i64 y1, .int .i64 y2] 35 (0, 0)), (g13, .cells #[.int .i64 y1, .int .i64 y2] 35 (0, 0)), (g15, .cells #[.int .i64 s1, .int .i64 s2, .int .i64 s3, .int .i64 s4] 43 (0, 0)), (g17, .cells #[.int .i64 s1, .int .i64 s2, .int .i64 s3, .int .i64 s4] 43 (0, 0)), (g25, .cells #[.int .i64 c0, .int .i64 c1, .int .i64 c2, .int .i64 c3] 43 (0, 0)), (g26, .cells #[.int .i64 f1, .int .i64 f2] 44 (0, 0)), (g28, .cells #[.int .i64 f1, .int .i64 f2] 44 (0, 0)), (g30, .cells #[.int .i64 e1, .int .i64 e2] 44 (0, 0))] w14 := HO
                  obtain ⟨p25_0, p25_1, p25_2, p25_3, f25_0, f25_1, f25_2, f25_3⟩ := HO.c4 8 rfl
                  go_upto_region 26 with (first | (go_at_call 38; refine (K10 _).mono ?_; rintro e w15a ⟨rfl, hb⟩; replace HO := HO.call hb; clear hb p25_0 p25_1 p25_2 p25_3 f25_0 f25_1 f25_2 f25_3))
                  refine Own.gen (HO.alloc _) ?_
                  clear HO; intro w15 HO; generalize w15a.heap.size = g32 at HO ⊢; clear w15a
                  replace HO : Own w [(g5, .cells #[.int .i64 a0, .int .i64 a1, .int .i64 a2, .int .i64 a3] 43 (0, 0)), (g6, .cells #[.int .i64 b0, .int .i64 b1] 44 (0, 0)), (g7, .cells #[.int .i64 x1, .int .i64 x2] 35 (0, 0)), (g9, .cells #[.int .i64 x1, .int .i64 x2] 35 (0, 0)), (g11, .cells #[.int .i64 y1, .int .i64 y2] 35 (0, 0)), (g13, .cells #[.int .i64 y1, .int .i64 y2] 35 (0, 0)), (g15, .cells #[.int .i64 s1, .int .i64 s2, .int .i64 s3, .int .i64 s4] 43 (0, 0)), (g17, .cells #[.int .i64 s1, .int .i64 s2, .int .i64 s3, .int .i64 s4] 43 (0, 0)), (g25, .cells #[.int .i64 c0, .int .i64 c1, .int .i64 c2, .int .i64 c3] 43 (0, 0)), (g26, .cells #[.int .i64 f1, .int .i64 f2] 44 (0, 0)), (g28, .cells #[.int .i64 f1, .int .i64 f2] 44 (0, 0)), (g30, .cells #[.int .i64 e1, .int .i64 e2] 44 (0, 0)), (g32, .cells #[.int .i64 e1, .int .i64 e2] 44 (0, 0))] w15 := HO
                  clear K7 K8 K9 K10
                  go_cut [238] (fun v238 wc => v238 = .bool false ∧ Own w [(g5, .cells #[.int .i64 a0, .int .i64 a1, .int .i64 a2, .int .i64 a3] 43 (0, 0)), (g6, .cells #[.int .i64 b0, .int .i64 b1] 44 (0, 0)), (g7, .cells #[.int .i64 x1, .int .i64 x2] 35 (0, 0)), (g9, .cells #[.int .i64 x1, .int .i64 x2] 35 (0, 0)), (g11, .cells #[.int .i64 y1, .int .i64 y2] 35 (0, 0)), (g13, .cells #[.int .i64 y1, .int .i64 y2] 35 (0, 0)), (g15, .cells #[.int .i64 s1, .int .i64 s2, .int .i64 s3, .int .i64 s4] 43 (0, 0)), (g17, .cells #[.int .i64 s1, .int .i64 s2, .int .i64 s3, .int .i64 s4] 43 (0, 0)), (g25, .cells #[.int .i64 c0, .int .i64 c1, .int .i64 c2, .int .i64 c3] 43 (0, 0)), (g26, .cells #[.int .i64 f1, .int .i64 f2] 44 (0, 0)), (g28, .cells #[.int .i64 f1, .int .i64 f2] 44 (0, 0)), (g30, .cells #[.int .i64 e1, .int .i64 e2] 44 (0, 0)), (g32, .cells #[.int .i64 e1, .int .i64 e2] 44 (0, 0))] wc)
                  case first =>
                    as_aux_lemma =>
                      have Q11 : ∀ d os, Calls Try.prog 39 #[.agg #[.int .i64 c0, .int .i64 c1, .int .i64 c2, .int .i64 c3]] (grow (redrawn w15 d) os) fun e w'' => e = .returned (.bool ck) ∧ ∃ p : Regrown, w'' = grow (redrawn w15 p.d) p.os := fun d os => Calls.regrown_of (K11 _)
                      have Q12 : ∀ d os, Calls Try.prog 40 #[.agg #[.int .i64 c0, .int .i64 c1, .int .i64 c2, .int .i64 c3]] (grow (redrawn w15 d) os) fun e w'' => e = .returned (.bool ck) ∧ ∃ p : Regrown, w'' = grow (redrawn w15 p.d) p.os := fun d os => Calls.regrown_of (K12 _)
                      cases five <;> cases seven
                      · as_aux_lemma =>
                        obtain ⟨p26_0, p26_1, f26_0, f26_1⟩ := HO.c2 9 rfl
                        obtain ⟨p28_0, p28_1, f28_0, f28_1⟩ := HO.c2 10 rfl
                        obtain ⟨p30_0, p30_1, f30_0, f30_1⟩ := HO.c2 11 rfl
                        obtain ⟨p32_0, p32_1, f32_0, f32_1⟩ := HO.c2 12 rfl
                        obtain ⟨p25_0, p25_1, p25_2, p25_3, f25_0, f25_1, f25_2, f25_3⟩ := HO.c4 8 rfl
                        have kp26_0 := cell_regrown p26_0; have kp26_1 := cell_regrown p26_1; have kp28_0 := cell_regrown p28_0; have kp28_1 := cell_regrown p28_1; have kp30_0 := cell_regrown p30_0; have kp30_1 := cell_regrown p30_1; have kp32_0 := cell_regrown p32_0; have kp32_1 := cell_regrown p32_1; have kp25_0 := cell_regrown p25_0; have kp25_1 := cell_regrown p25_1; have kp25_2 := cell_regrown p25_2; have kp25_3 := cell_regrown p25_3
                        refine wp_region_quiet_below (by kernel_rfl) (by kernel_rfl) ?_
                        repeat (quiet_step (first | exact Q11 _ _ | exact Q12 _ _))
                        refine wpQuiet_nil ?_
                        intro _ hw'; obtain ⟨⟨dq, osq⟩, hw''⟩ := hw'; subst hw''
                        replace HO := HO.call (below_regrown _ dq osq)
                        go_wp2; go_meet
                        exact ⟨by first | rfl | simp, HO⟩
                      · as_aux_lemma =>
                        obtain rfl := B4.out rfl
                        obtain ⟨p26_0, p26_1, f26_0, f26_1⟩ := HO.c2 9 rfl
                        obtain ⟨p28_0, p28_1, f28_0, f28_1⟩ := HO.c2 10 rfl
                        obtain ⟨p30_0, p30_1, f30_0, f30_1⟩ := HO.c2 11 rfl
                        obtain ⟨p32_0, p32_1, f32_0, f32_1⟩ := HO.c2 12 rfl
                        obtain ⟨p25_0, p25_1, p25_2, p25_3, f25_0, f25_1, f25_2, f25_3⟩ := HO.c4 8 rfl
                        have kp26_0 := cell_regrown p26_0; have kp26_1 := cell_regrown p26_1; have kp28_0 := cell_regrown p28_0; have kp28_1 := cell_regrown p28_1; have kp30_0 := cell_regrown p30_0; have kp30_1 := cell_regrown p30_1; have kp32_0 := cell_regrown p32_0; have kp32_1 := cell_regrown p32_1; have kp25_0 := cell_regrown p25_0; have kp25_1 := cell_regrown p25_1; have kp25_2 := cell_regrown p25_2; have kp25_3 := cell_regrown p25_3
                        refine wp_region_quiet_below (by kernel_rfl) (by kernel_rfl) ?_
                        repeat (quiet_step (first | exact Q11 _ _ | exact Q12 _ _))
                        refine wpQuiet_nil ?_
                        intro _ hw'; obtain ⟨⟨dq, osq⟩, hw''⟩ := hw'; subst hw''
                        replace HO := HO.call (below_regrown _ dq osq)
                        go_wp2; go_meet
                        exact ⟨by first | rfl | simp, HO⟩
                      · as_aux_lemma =>
                        obtain rfl := B3.out rfl
                        obtain ⟨p26_0, p26_1, f26_0, f26_1⟩ := HO.c2 9 rfl
                        obtain ⟨p28_0, p28_1, f28_0, f28_1⟩ := HO.c2 10 rfl
                        obtain ⟨p30_0, p30_1, f30_0, f30_1⟩ := HO.c2 11 rfl
                        obtain ⟨p32_0, p32_1, f32_0, f32_1⟩ := HO.c2 12 rfl
                        obtain ⟨p25_0, p25_1, p25_2, p25_3, f25_0, f25_1, f25_2, f25_3⟩ := HO.c4 8 rfl
                        have kp26_0 := cell_regrown p26_0; have kp26_1 := cell_regrown p26_1; have kp28_0 := cell_regrown p28_0; have kp28_1 := cell_regrown p28_1; have kp30_0 := cell_regrown p30_0; have kp30_1 := cell_regrown p30_1; have kp32_0 := cell_regrown p32_0; have kp32_1 := cell_regrown p32_1; have kp25_0 := cell_regrown p25_0; have kp25_1 := cell_regrown p25_1; have kp25_2 := cell_regrown p25_2; have kp25_3 := cell_regrown p25_3
                        refine wp_region_quiet_below (by kernel_rfl) (by kernel_rfl) ?_
                        repeat (quiet_step (first | exact Q11 _ _ | exact Q12 _ _))
                        refine wpQuiet_nil ?_
                        intro _ hw'; obtain ⟨⟨dq, osq⟩, hw''⟩ := hw'; subst hw''
                        replace HO := HO.call (below_regrown _ dq osq)
                        go_wp2; go_meet
                        exact ⟨by first | rfl | simp, HO⟩
                      · as_aux_lemma =>
                        obtain rfl := B3.out rfl
                        obtain ⟨p26_0, p26_1, f26_0, f26_1⟩ := HO.c2 9 rfl
                        obtain ⟨p28_0, p28_1, f28_0, f28_1⟩ := HO.c2 10 rfl
                        obtain ⟨p30_0, p30_1, f30_0, f30_1⟩ := HO.c2 11 rfl
                        obtain ⟨p32_0, p32_1, f32_0, f32_1⟩ := HO.c2 12 rfl
                        obtain ⟨p25_0, p25_1, p25_2, p25_3, f25_0, f25_1, f25_2, f25_3⟩ := HO.c4 8 rfl
                        have kp26_0 := cell_regrown p26_0; have kp26_1 := cell_regrown p26_1; have kp28_0 := cell_regrown p28_0; have kp28_1 := cell_regrown p28_1; have kp30_0 := cell_regrown p30_0; have kp30_1 := cell_regrown p30_1; have kp32_0 := cell_regrown p32_0; have kp32_1 := cell_regrown p32_1; have kp25_0 := cell_regrown p25_0; have kp25_1 := cell_regrown p25_1; have kp25_2 := cell_regrown p25_2; have kp25_3 := cell_regrown p25_3
                        refine wp_region_quiet_below (by kernel_rfl) (by kernel_rfl) ?_
                        repeat (quiet_step (first | exact Q11 _ _ | exact Q12 _ _))
                        refine wpQuiet_nil ?_
                        intro _ hw'; obtain ⟨⟨dq, osq⟩, hw''⟩ := hw'; subst hw''
                        replace HO := HO.call (below_regrown _ dq osq)
                        go_wp2; go_meet
                        exact ⟨by first | rfl | simp, HO⟩
                  case rest =>
                    as_aux_lemma =>
                      clear HO; obtain ⟨rfl, HO⟩ := hcut
                      revert HO; generalize wc = w16; intro HO
                      clear K11 K12
                      go_upto_if 239 with (fail)
                      go_cut [] (fun wc => Own w [(g5, .cells #[.int .i64 a0, .int .i64 a1, .int .i64 a2, .int .i64 a3] 43 (0, 0)), (g6, .cells #[.int .i64 b0, .int .i64 b1] 44 (0, 0)), (g7, .cells #[.int .i64 x1, .int .i64 x2] 35 (0, 0)), (g9, .cells #[.int .i64 x1, .int .i64 x2] 35 (0, 0)), (g11, .cells #[.int .i64 y1, .int .i64 y2] 35 (0, 0)), (g13, .cells #[.int .i64 y1, .int .i64 y2] 35 (0, 0)), (g15, .cells #[.int .i64 s1, .int .i64 s2, .int .i64 s3, .int .i64 s4] 43 (0, 0)), (g17, .cells #[.int .i64 s1, .int .i64 s2, .int .i64 s3, .int .i64 s4] 43 (0, 0)), (g25, .cells #[.int .i64 c0, .int .i64 c1, .int .i64 c2, .int .i64 c3] 43 (0, 0)), (g26, .cells #[.int .i64 f1, .int .i64 f2] 44 (0, 0)), (g28, .cells #[.int .i64 f1, .int .i64 f2] 44 (0, 0)), (g30, .cells #[.int .i64 e1, .int .i64 e2] 44 (0, 0)), (g32, .cells #[.int .i64 e1, .int .i64 e2] 44 (0, 0))] wc)
                      case first =>
                        as_aux_lemma =>
                          cases five with
                          | false =>
                            as_aux_lemma =>
                              go_wp2
                              go_meet
                              exact HO
                          | true =>
                            as_aux_lemma =>
                              obtain ⟨M1, M2⟩ := B5.out rfl; have M2 : decide (f1 < 1) = false := decide_eq_false (by omega)
                              have L1 := fun W => impl_AheadAfter.calls k c0 c1 c2 c3 f1 f2 0 1 true W M1
                              clear M1
                              go_upto_region 29 with (fail)
                              obtain ⟨p25_0, p25_1, p25_2, p25_3, f25_0, f25_1, f25_2, f25_3⟩ := HO.c4 8 rfl
                              obtain ⟨p26_0, p26_1, f26_0, f26_1⟩ := HO.c2 9 rfl
                              go_upto_region 30 with (first | (go_at_call 29; refine (L1 _).mono ?_; rintro e w17a ⟨rfl, hb⟩; replace HO := HO.call hb; clear hb p25_0 p25_1 p25_2 p25_3 f25_0 f25_1 f25_2 f25_3 p26_0 p26_1 f26_0 f26_1))
                              refine Own.gen (HO.alloc _) ?_
                              clear HO; intro w17 HO; generalize w17a.heap.size = g34 at HO ⊢; clear w17a
                              replace HO : Own w [(g5, .cells #[.int .i64 a0, .int .i64 a1, .int .i64 a2, .int .i64 a3] 43 (0, 0)), (g6, .cells #[.int .i64 b0, .int .i64 b1] 44 (0, 0)), (g7, .cells #[.int .i64 x1, .int .i64 x2] 35 (0, 0)), (g9, .cells #[.int .i64 x1, .int .i64 x2] 35 (0, 0)), (g11, .cells #[.int .i64 y1, .int .i64 y2] 35 (0, 0)), (g13, .cells #[.int .i64 y1, .int .i64 y2] 35 (0, 0)), (g15, .cells #[.int .i64 s1, .int .i64 s2, .int .i64 s3, .int .i64 s4] 43 (0, 0)), (g17, .cells #[.int .i64 s1, .int .i64 s2, .int .i64 s3, .int .i64 s4] 43 (0, 0)), (g25, .cells #[.int .i64 c0, .int .i64 c1, .int .i64 c2, .int .i64 c3] 43 (0, 0)), (g26, .cells #[.int .i64 f1, .int .i64 f2] 44 (0, 0)), (g28, .cells #[.int .i64 f1, .int .i64 f2] 44 (0, 0)), (g30, .cells #[.int .i64 e1, .int .i64 e2] 44 (0, 0)), (g32, .cells #[.int .i64 e1, .int .i64 e2] 44 (0, 0)), (g34, .cells #[.int .i64 0, .int .i64 1] 35 (0, 0))] w17 := HO
                              obtain ⟨p34_0, p34_1, f34_0, f34_1⟩ := HO.c2 13 rfl
                              obtain ⟨p26_0, p26_1, f26_0, f26_1⟩ := HO.c2 9 rfl
                              go_wp2
                              go_meet
                              exact Own.less (HO)
                      case rest =>
                        as_aux_lemma =>
                          clear HO; have HO := hcut; clear hcut
                          revert HO; generalize wc = w17; intro HO
                          go_upto_region 32 with (fail)
                          obtain ⟨q261, hq261⟩ : ∃ q, q = (five && seven) := ⟨_, rfl⟩
                          replace hq261 := Aside0.mk hq261
                          go_cut [261] (fun v261 wc => v261 = .bool q261 ∧ Own w [(g5, .cells #[.int .i64 a0, .int .i64 a1, .int .i64 a2, .int .i64 a3] 43 (0, 0)), (g6, .cells #[.int .i64 b0, .int .i64 b1] 44 (0, 0)), (g7, .cells #[.int .i64 x1, .int .i64 x2] 35 (0, 0)), (g9, .cells #[.int .i64 x1, .int .i64 x2] 35 (0, 0)), (g11, .cells #[.int .i64 y1, .int .i64 y2] 35 (0, 0)), (g13, .cells #[.int .i64 y1, .int .i64 y2] 35 (0, 0)), (g15, .cells #[.int .i64 s1, .int .i64 s2, .int .i64 s3, .int .i64 s4] 43 (0, 0)), (g17, .cells #[.int .i64 s1, .int .i64 s2, .int .i64 s3, .int .i64 s4] 43 (0, 0)), (g25, .cells #[.int .i64 c0, .int .i64 c1, .int .i64 c2, .int .i64 c3] 43 (0, 0)), (g26, .cells #[.int .i64 f1, .int .i64 f2] 44 (0, 0)), (g28, .cells #[.int .i64 f1, .int .i64 f2] 44 (0, 0)), (g30, .cells #[.int .i64 e1, .int .i64 e2] 44 (0, 0)), (g32, .cells #[.int .i64 e1, .int .i64 e2] 44 (0, 0))] wc)
                          case first =>
                            as_aux_lemma =>
                              cases five
                              all_goals (go_wp2; go_meet)
                              all_goals exact ⟨by rw [hq261.out]; first | rfl | simp, HO⟩
                          case rest =>
                            as_aux_lemma =>
                              clear HO; obtain ⟨rfl, HO⟩ := hcut
                              revert HO; generalize wc = w18; intro HO
                              go_upto_if 261 with (fail)
                              go_cut [] (fun wc => Own w [(g5, .cells #[.int .i64 a0, .int .i64 a1, .int .i64 a2, .int .i64 a3] 43 (0, 0)), (g6, .cells #[.int .i64 b0, .int .i64 b1] 44 (0, 0)), (g7, .cells #[.int .i64 x1, .int .i64 x2] 35 (0, 0)), (g9, .cells #[.int .i64 x1, .int .i64 x2] 35 (0, 0)), (g11, .cells #[.int .i64 y1, .int .i64 y2] 35 (0, 0)), (g13, .cells #[.int .i64 y1, .int .i64 y2] 35 (0, 0)), (g15, .cells #[.int .i64 s1, .int .i64 s2, .int .i64 s3, .int .i64 s4] 43 (0, 0)), (g17, .cells #[.int .i64 s1, .int .i64 s2, .int .i64 s3, .int .i64 s4] 43 (0, 0)), (g25, .cells #[.int .i64 c0, .int .i64 c1, .int .i64 c2, .int .i64 c3] 43 (0, 0)), (g26, .cells #[.int .i64 f1, .int .i64 f2] 44 (0, 0)), (g28, .cells #[.int .i64 f1, .int .i64 f2] 44 (0, 0)), (g30, .cells #[.int .i64 e1, .int .i64 e2] 44 (0, 0)), (g32, .cells #[.int .i64 e1, .int .i64 e2] 44 (0, 0))] wc)
                              case first =>
                                as_aux_lemma =>
                                  cases q261 with
                                  | false =>
                                    as_aux_lemma =>
                                      go_wp2
                                      go_meet
                                      exact HO
                                  | true =>
                                    as_aux_lemma =>
                                      have hq := hq261.out; simp only [Bool.true_eq, Bool.and_eq_true] at hq
                                      obtain ⟨M0, n1, n2, nn, M1, M2⟩ := B6.out hq.1 hq.2; have M2 := Aside0.mk M2; have M0 : decide (wrap64 (f1 * e2) > wrap64 (e1 * f2)) = false := decide_eq_false (by omega); clear hq hq261
                                      have L1 := fun W => impl_AddSpans.calls k f1 f2 e1 e2 n1 n2 nn W M1
                                      clear M1
                                      go_upto_region 33 with (fail)
                                      obtain ⟨p26_0, p26_1, f26_0, f26_1⟩ := HO.c2 9 rfl
                                      obtain ⟨p30_0, p30_1, f30_0, f30_1⟩ := HO.c2 11 rfl
                                      go_upto_region 35 with (fail)
                                      clear p26_0 p26_1 f26_0 f26_1 p30_0 p30_1 f30_0 f30_1
                                      obtain ⟨p26_0, p26_1, f26_0, f26_1⟩ := HO.c2 9 rfl
                                      obtain ⟨p30_0, p30_1, f30_0, f30_1⟩ := HO.c2 11 rfl
                                      go_upto_region 36 with (first | (go_at_call 41; refine (L1 _).mono ?_; rintro e w19a ⟨rfl, hb⟩; replace HO := HO.call hb; clear hb p26_0 p26_1 f26_0 f26_1 p30_0 p30_1 f30_0 f30_1))
                                      refine Own.gen (HO.alloc _) ?_
                                      clear HO; intro w19 HO; generalize w19a.heap.size = g36 at HO ⊢; clear w19a
                                      replace HO : Own w [(g5, .cells #[.int .i64 a0, .int .i64 a1, .int .i64 a2, .int .i64 a3] 43 (0, 0)), (g6, .cells #[.int .i64 b0, .int .i64 b1] 44 (0, 0)), (g7, .cells #[.int .i64 x1, .int .i64 x2] 35 (0, 0)), (g9, .cells #[.int .i64 x1, .int .i64 x2] 35 (0, 0)), (g11, .cells #[.int .i64 y1, .int .i64 y2] 35 (0, 0)), (g13, .cells #[.int .i64 y1, .int .i64 y2] 35 (0, 0)), (g15, .cells #[.int .i64 s1, .int .i64 s2, .int .i64 s3, .int .i64 s4] 43 (0, 0)), (g17, .cells #[.int .i64 s1, .int .i64 s2, .int .i64 s3, .int .i64 s4] 43 (0, 0)), (g25, .cells #[.int .i64 c0, .int .i64 c1, .int .i64 c2, .int .i64 c3] 43 (0, 0)), (g26, .cells #[.int .i64 f1, .int .i64 f2] 44 (0, 0)), (g28, .cells #[.int .i64 f1, .int .i64 f2] 44 (0, 0)), (g30, .cells #[.int .i64 e1, .int .i64 e2] 44 (0, 0)), (g32, .cells #[.int .i64 e1, .int .i64 e2] 44 (0, 0)), (g36, .cells #[.int .i64 n1, .int .i64 n2] 44 (0, 0))] w19 := HO
                                      cases nn with
                                      | false =>
                                        as_aux_lemma =>
                                          go_wp2
                                          go_meet
                                          exact Own.less (HO)
                                      | true =>
                                        as_aux_lemma =>
                                          have M2 := M2.out rfl
                                          have L2 := fun W => impl_AheadAfter.calls k c0 c1 c2 c3 n1 n2 0 1 true W M2
                                          clear M2
                                          go_upto_region 37 with (fail)
                                          obtain ⟨p25_0, p25_1, p25_2, p25_3, f25_0, f25_1, f25_2, f25_3⟩ := HO.c4 8 rfl
                                          obtain ⟨p36_0, p36_1, f36_0, f36_1⟩ := HO.c2 13 rfl
                                          go_upto_region 38 with (first | (go_at_call 29; refine (L2 _).mono ?_; rintro e w20a ⟨rfl, hb⟩; replace HO := HO.call hb; clear hb p25_0 p25_1 p25_2 p25_3 f25_0 f25_1 f25_2 f25_3 p36_0 p36_1 f36_0 f36_1))
                                          refine Own.gen (HO.alloc _) ?_
                                          clear HO; intro w20 HO; generalize w20a.heap.size = g38 at HO ⊢; clear w20a
                                          replace HO : Own w [(g5, .cells #[.int .i64 a0, .int .i64 a1, .int .i64 a2, .int .i64 a3] 43 (0, 0)), (g6, .cells #[.int .i64 b0, .int .i64 b1] 44 (0, 0)), (g7, .cells #[.int .i64 x1, .int .i64 x2] 35 (0, 0)), (g9, .cells #[.int .i64 x1, .int .i64 x2] 35 (0, 0)), (g11, .cells #[.int .i64 y1, .int .i64 y2] 35 (0, 0)), (g13, .cells #[.int .i64 y1, .int .i64 y2] 35 (0, 0)), (g15, .cells #[.int .i64 s1, .int .i64 s2, .int .i64 s3, .int .i64 s4] 43 (0, 0)), (g17, .cells #[.int .i64 s1, .int .i64 s2, .int .i64 s3, .int .i64 s4] 43 (0, 0)), (g25, .cells #[.int .i64 c0, .int .i64 c1, .int .i64 c2, .int .i64 c3] 43 (0, 0)), (g26, .cells #[.int .i64 f1, .int .i64 f2] 44 (0, 0)), (g28, .cells #[.int .i64 f1, .int .i64 f2] 44 (0, 0)), (g30, .cells #[.int .i64 e1, .int .i64 e2] 44 (0, 0)), (g32, .cells #[.int .i64 e1, .int .i64 e2] 44 (0, 0)), (g36, .cells #[.int .i64 n1, .int .i64 n2] 44 (0, 0)), (g38, .cells #[.int .i64 0, .int .i64 1] 35 (0, 0))] w20 := HO
                                          obtain ⟨p38_0, p38_1, f38_0, f38_1⟩ := HO.c2 14 rfl
                                          go_wp2
                                          go_meet
                                          exact Own.less (Own.less (HO))
                              case rest =>
                                as_aux_lemma =>
                                  clear HO; have HO := hcut; clear hcut
                                  revert HO; generalize wc = w19; intro HO
                                  go_upto_region 40 with (fail)
                                  go_upto_region 41 with (first | (go_at_call 80; refine (KD3 _ HO.below).mono ?_; rintro e w20a ⟨rfl, hb⟩; replace HO := HO.call hb; clear hb))
                                  refine Own.gen ((HO.alloc_at rfl _).1.alloc_at (HO.alloc_at rfl _).2 _).1 ?_
                                  clear HO; intro w20 HO
                                  generalize w20a.heap.size + 1 = g41 at HO ⊢
                                  generalize w20a.heap.size = g40 at HO ⊢
                                  clear w20a
                                  replace HO : Own w [(g5, .cells #[.int .i64 a0, .int .i64 a1, .int .i64 a2, .int .i64 a3] 43 (0, 0)), (g6, .cells #[.int .i64 b0, .int .i64 b1] 44 (0, 0)), (g7, .cells #[.int .i64 x1, .int .i64 x2] 35 (0, 0)), (g9, .cells #[.int .i64 x1, .int .i64 x2] 35 (0, 0)), (g11, .cells #[.int .i64 y1, .int .i64 y2] 35 (0, 0)), (g13, .cells #[.int .i64 y1, .int .i64 y2] 35 (0, 0)), (g15, .cells #[.int .i64 s1, .int .i64 s2, .int .i64 s3, .int .i64 s4] 43 (0, 0)), (g17, .cells #[.int .i64 s1, .int .i64 s2, .int .i64 s3, .int .i64 s4] 43 (0, 0)), (g25, .cells #[.int .i64 c0, .int .i64 c1, .int .i64 c2, .int .i64 c3] 43 (0, 0)), (g26, .cells #[.int .i64 f1, .int .i64 f2] 44 (0, 0)), (g28, .cells #[.int .i64 f1, .int .i64 f2] 44 (0, 0)), (g30, .cells #[.int .i64 e1, .int .i64 e2] 44 (0, 0)), (g32, .cells #[.int .i64 e1, .int .i64 e2] 44 (0, 0)), (g40, .cells #[.int .i64 d0, .int .i64 d1, .int .i64 d2, .int .i64 d3] 43 (0, 0)), (g41, .cells #[.int .i64 t0, .int .i64 t1] 35 (0, 0))] w20 := HO
                                  clear KD3
                                  obtain ⟨p40_0, p40_1, p40_2, p40_3, f40_0, f40_1, f40_2, f40_3⟩ := HO.c4 13 rfl
                                  obtain ⟨p41_0, p41_1, f41_0, f41_1⟩ := HO.c2 14 rfl
                                  go_upto_region 42 with (first | (go_at_call 42; refine (K13 _).mono ?_; rintro e w21a ⟨rfl, hb⟩; replace HO := HO.call hb; clear hb p40_0 p40_1 p40_2 p40_3 f40_0 f40_1 f40_2 f40_3 p41_0 p41_1 f41_0 f41_1))
                                  refine Own.gen (HO.alloc _) ?_
                                  clear HO; intro w21 HO; generalize w21a.heap.size = g42 at HO ⊢; clear w21a
                                  replace HO : Own w [(g5, .cells #[.int .i64 a0, .int .i64 a1, .int .i64 a2, .int .i64 a3] 43 (0, 0)), (g6, .cells #[.int .i64 b0, .int .i64 b1] 44 (0, 0)), (g7, .cells #[.int .i64 x1, .int .i64 x2] 35 (0, 0)), (g9, .cells #[.int .i64 x1, .int .i64 x2] 35 (0, 0)), (g11, .cells #[.int .i64 y1, .int .i64 y2] 35 (0, 0)), (g13, .cells #[.int .i64 y1, .int .i64 y2] 35 (0, 0)), (g15, .cells #[.int .i64 s1, .int .i64 s2, .int .i64 s3, .int .i64 s4] 43 (0, 0)), (g17, .cells #[.int .i64 s1, .int .i64 s2, .int .i64 s3, .int .i64 s4] 43 (0, 0)), (g25, .cells #[.int .i64 c0, .int .i64 c1, .int .i64 c2, .int .i64 c3] 43 (0, 0)), (g26, .cells #[.int .i64 f1, .int .i64 f2] 44 (0, 0)), (g28, .cells #[.int .i64 f1, .int .i64 f2] 44 (0, 0)), (g30, .cells #[.int .i64 e1, .int .i64 e2] 44 (0, 0)), (g32, .cells #[.int .i64 e1, .int .i64 e2] 44 (0, 0)), (g40, .cells #[.int .i64 d0, .int .i64 d1, .int .i64 d2, .int .i64 d3] 43 (0, 0)), (g41, .cells #[.int .i64 t0, .int .i64 t1] 35 (0, 0)), (g42, .cells #[.int .i64 h1, .int .i64 h2] 44 (0, 0))] w21 := HO
                                  obtain ⟨p40_0, p40_1, p40_2, p40_3, f40_0, f40_1, f40_2, f40_3⟩ := HO.c4 13 rfl
                                  obtain ⟨p41_0, p41_1, f41_0, f41_1⟩ := HO.c2 14 rfl
                                  go_upto_region 43 with (first | (go_at_call 43; refine (K14 _).mono ?_; rintro e w22a ⟨rfl, hb⟩; replace HO := HO.call hb; clear hb p40_0 p40_1 p40_2 p40_3 f40_0 f40_1 f40_2 f40_3 p41_0 p41_1 f41_0 f41_1))
                                  refine Own.gen (HO.alloc _) ?_
                                  clear HO; intro w22 HO; generalize w22a.heap.size = g44 at HO ⊢; clear w22a
                                  replace HO : Own w [(g5, .cells #[.int .i64 a0, .int .i64 a1, .int .i64 a2, .int .i64 a3] 43 (0, 0)), (g6, .cells #[.int .i64 b0, .int .i64 b1] 44 (0, 0)), (g7, .cells #[.int .i64 x1, .int .i64 x2] 35 (0, 0)), (g9, .cells #[.int .i64 x1, .int .i64 x2] 35 (0, 0)), (g11, .cells #[.int .i64 y1, .int .i64 y2] 35 (0, 0)), (g13, .cells #[.int .i64 y1, .int .i64 y2] 35 (0, 0)), (g15, .cells #[.int .i64 s1, .int .i64 s2, .int .i64 s3, .int .i64 s4] 43 (0, 0)), (g17, .cells #[.int .i64 s1, .int .i64 s2, .int .i64 s3, .int .i64 s4] 43 (0, 0)), (g25, .cells #[.int .i64 c0, .int .i64 c1, .int .i64 c2, .int .i64 c3] 43 (0, 0)), (g26, .cells #[.int .i64 f1, .int .i64 f2] 44 (0, 0)), (g28, .cells #[.int .i64 f1, .int .i64 f2] 44 (0, 0)), (g30, .cells #[.int .i64 e1, .int .i64 e2] 44 (0, 0)), (g32, .cells #[.int .i64 e1, .int .i64 e2] 44 (0, 0)), (g40, .cells #[.int .i64 d0, .int .i64 d1, .int .i64 d2, .int .i64 d3] 43 (0, 0)), (g41, .cells #[.int .i64 t0, .int .i64 t1] 35 (0, 0)), (g42, .cells #[.int .i64 h1, .int .i64 h2] 44 (0, 0)), (g44, .cells #[.int .i64 h1, .int .i64 h2] 44 (0, 0))] w22 := HO
                                  obtain ⟨p42_0, p42_1, f42_0, f42_1⟩ := HO.c2 15 rfl
                                  obtain ⟨p44_0, p44_1, f44_0, f44_1⟩ := HO.c2 16 rfl
                                  go_upto_region 45 with (fail)
                                  clear p42_0 p42_1 f42_0 f42_1 p44_0 p44_1 f44_0 f44_1
                                  cases nine with
                                  | false =>
                                    as_aux_lemma =>
                                      go_wp2; go_ret; exact ⟨rfl, HO.below⟩
                                  | true =>
                                    as_aux_lemma =>
                                      obtain ⟨M1, M2⟩ := B7.out rfl; have M2 : decide (wrap64 (h1 * d2) ≥ wrap64 (h2 * d3)) = false := decide_eq_false (by omega)
                                      have L1 := fun W => impl_ShownAfter.calls k d0 d1 d2 d3 h1 h2 t0 t1 true W M1
                                      clear M1
                                      go_upto_region 46 with (fail)
                                      obtain ⟨p40_0, p40_1, p40_2, p40_3, f40_0, f40_1, f40_2, f40_3⟩ := HO.c4 13 rfl
                                      obtain ⟨p42_0, p42_1, f42_0, f42_1⟩ := HO.c2 15 rfl
                                      go_upto_region 47 with (first | (go_at_call 27; refine (L1 _).mono ?_; rintro e w23a ⟨rfl, hb⟩; replace HO := HO.call hb; clear hb p40_0 p40_1 p40_2 p40_3 f40_0 f40_1 f40_2 f40_3 p42_0 p42_1 f42_0 f42_1))
                                      refine Own.gen (HO.alloc _) ?_
                                      clear HO; intro w23 HO; generalize w23a.heap.size = g46 at HO ⊢; clear w23a
                                      replace HO : Own w [(g5, .cells #[.int .i64 a0, .int .i64 a1, .int .i64 a2, .int .i64 a3] 43 (0, 0)), (g6, .cells #[.int .i64 b0, .int .i64 b1] 44 (0, 0)), (g7, .cells #[.int .i64 x1, .int .i64 x2] 35 (0, 0)), (g9, .cells #[.int .i64 x1, .int .i64 x2] 35 (0, 0)), (g11, .cells #[.int .i64 y1, .int .i64 y2] 35 (0, 0)), (g13, .cells #[.int .i64 y1, .int .i64 y2] 35 (0, 0)), (g15, .cells #[.int .i64 s1, .int .i64 s2, .int .i64 s3, .int .i64 s4] 43 (0, 0)), (g17, .cells #[.int .i64 s1, .int .i64 s2, .int .i64 s3, .int .i64 s4] 43 (0, 0)), (g25, .cells #[.int .i64 c0, .int .i64 c1, .int .i64 c2, .int .i64 c3] 43 (0, 0)), (g26, .cells #[.int .i64 f1, .int .i64 f2] 44 (0, 0)), (g28, .cells #[.int .i64 f1, .int .i64 f2] 44 (0, 0)), (g30, .cells #[.int .i64 e1, .int .i64 e2] 44 (0, 0)), (g32, .cells #[.int .i64 e1, .int .i64 e2] 44 (0, 0)), (g40, .cells #[.int .i64 d0, .int .i64 d1, .int .i64 d2, .int .i64 d3] 43 (0, 0)), (g41, .cells #[.int .i64 t0, .int .i64 t1] 35 (0, 0)), (g42, .cells #[.int .i64 h1, .int .i64 h2] 44 (0, 0)), (g44, .cells #[.int .i64 h1, .int .i64 h2] 44 (0, 0)), (g46, .cells #[.int .i64 t0, .int .i64 t1] 35 (0, 0))] w23 := HO
                                      obtain ⟨p46_0, p46_1, f46_0, f46_1⟩ := HO.c2 17 rfl
                                      obtain ⟨p41_0, p41_1, f41_0, f41_1⟩ := HO.c2 14 rfl
                                      obtain ⟨p42_0, p42_1, f42_0, f42_1⟩ := HO.c2 15 rfl
                                      obtain ⟨p40_0, p40_1, p40_2, p40_3, f40_0, f40_1, f40_2, f40_3⟩ := HO.c4 13 rfl
                                      go_wp2; go_ret; exact ⟨rfl, HO.below⟩
end Go.Proofs.Ytbcpdgiinebnaaa.PFnClocksDrift
