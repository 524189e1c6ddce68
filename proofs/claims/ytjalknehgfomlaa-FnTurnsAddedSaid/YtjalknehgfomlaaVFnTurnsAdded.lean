/- The walk of FnTurnsAdded, directed: what its calls return is given, its tests are decided. Written by a program of this repo (wip/gen/lawgen.py, wip/law). -/
import Derived.Test.YtjalknehgfomlaaPFnTurnsAddedx0
import Derived.Test.YtjalknehgfomlaaPFnTurnsAddedx1
import Derived.Test.YtjalknehgfomlaaPFnTurnsAddedx2
import Derived.Test.YtjalknehgfomlaaPFnTurnsAddedx3
import Derived.Test.YtjalknehgfomlaaPFnTurnsAddedx4
import Derived.Test.YtjalknehgfomlaaPFnTurnsAddedx5
import Derived.Test.YtjalknehgfomlaaPFnTurnsAddedx6
import Derived.Test.YtjalknehgfomlaaPFnTurnsAddedx7
import Derived.Test.YtjalknehgfomlaaPFnTurnsAddedx8
import Derived.Test.YtjalknehgfomlaaPFnTurnsAddedx9
import Derived.Test.YtjalknehgfomlaaPFnTurnsAddedx10
import Derived.Test.YtjalknehgfomlaaPFnTurnsAddedx11
import Derived.Deep.DeepCutAuto
import Derived.Lib.QuietBelow
import Derived.BigQuiet
set_option linter.unusedVariables false
set_option linter.unusedSimpArgs false
namespace Go.Proofs.Ytjalknehgfomlaa.PFnTurnsAdded
open Go.RowKit Go.Sort Go.Proofs.YtjalknehgfomlaaW.PrintWords Go.Proofs.YtjalknehgfomlaaW.PrintLast Go.Proofs.YtjalknehgfomlaaW.PrintMore
attribute [local go_sem high] eqA25
set_option maxHeartbeats 60000000 in
set_option maxRecDepth 100000 in
theorem walkV (k : Nat) (p q r s x1 x2 y1 y2 sg m1 m2 t1 t2 kk u1 u2 v1 v2 nn dd g1 g2 : Int) (big ok one th ta tb s7 s9 s11 : Bool) (w : World) (A_0 : Option Addr) (c_0 : Nat) (l0 : List Int) (A_1 : Option Addr) (c_1 : Nat) (l1 : List Int) (hr0 : Kd.C (Kd.int .u8) w A_0 l0.length l0) (hc0 : l0.length ≤ c_0) (hr1 : Kd.C (Kd.int .u8) w A_1 l1.length l1) (hc1 : l1.length ≤ c_1)
  (A0 : laws_big.f l0 l1 = some big)
  (D1 : big = false → spec_DrawAddTurns.f k l0 = some (p, q, r, s))
  (D2 : big = false → spec_DrawTimesTurn.f k l1 = some (t1, t2, kk))
  (D3 : big = false → spec_DrawMakeTurn.f l1 = some (nn, dd))
  (A1 : impl_AddTurns.f k p q r s = some (x1, x2, ok))
  (A2 : spec_AddTurns.f k p q r s = some (x1, x2, ok))
  (A3 : impl_LessTurn.f k p q r s = some (y1, y2, one))
  (A4 : spec_LessTurn.f k p q r s = some (y1, y2, one))
  (A5 : impl_CompareTurns.f p q r s = some (sg, th))
  (A6 : spec_CompareTurns.f k p q r s = some (sg, th))
  (A7 : impl_MirrorTurn.f k p q = some (m1, m2, ta))
  (A8 : spec_MirrorTurn.f k p q = some (m1, m2, ta))
  (A9 : impl_IsTurn.f k p q = some ta)
  (A10 : spec_IsTurn.f k p q = some ta)
  (A11 : impl_IsTurn.f k r s = some tb)
  (HT : th = (ta && tb))
  (B1 : ok = true → th = true)
  (B2 : one = true → th = true)
  (B3 : th = true → impl_CompareTurns.f r s p q = some (wrap64 (-sg), true) ∧ impl_AddTurns.f k r s p q = some (x1, x2, ok) ∧ ((sg = 0 ∧ r = p ∧ s = q) ∨ (sg ≠ 0 ∧ (p ≠ r ∨ q ≠ s))))
  (B4 : ok = true → impl_IsTurn.f k x1 x2 = some true ∧ ∃ l1' l2' sv, impl_LessTurn.f k x1 x2 r s = some (l1', l2', sv) ∧ (sv = true → l1' = p ∧ l2' = q))
  (B5 : ta = true → impl_AddTurns.f k p q m1 m2 = some (0, 1, true) ∧ impl_MirrorTurn.f k m1 m2 = some (p, q, true))
  (A13 : impl_TimesTurn.f k t1 t2 kk = some (u1, u2, s7))
  (A14 : spec_TimesTurn.f k t1 t2 kk = some (u1, u2, s7))
  (A15 : impl_PartOfTurn.f k t1 t2 kk = some (v1, v2, s9))
  (A16 : spec_PartOfTurn.f k t1 t2 kk = some (v1, v2, s9))
  (A17 : impl_MakeTurn.f k nn dd = some (g1, g2, s11))
  (A18 : spec_MakeTurn.f k nn dd = some (g1, g2, s11))
  (B6 : s9 = true → impl_TimesTurn.f k v1 v2 kk = some (t1, t2, true) ∧ ¬ wrap64 (v1 * kk) ≥ wrap64 (v2 * kk) ∧ v2 ≠ 0 ∧ wrap64 (Int.tdiv (wrap64 (v1 * kk)) v2) = 0)
  (B7 : s11 = true → impl_IsTurn.f k g1 g2 = some true ∧ g2 ≠ 0 ∧ dd ≠ 0 ∧ Int.tmod dd g2 = 0 ∧ Int.tmod (wrap64 (nn - wrap64 (g1 * wrap64 (Int.tdiv dd g2)))) dd = 0) :
    Calls Try.prog 3 #[.slice A_0 l0.length c_0, .slice A_1 l1.length c_1] w fun e w' => e = .returned (.bool true) ∧ Below w.heap.size w w' := by
  have hu25 := Try.underlying25
  have KB := laws_big.calls A_0 c_0 l0 A_1 c_1 l1 big w hr0 hc0 hr1 hc1 A0
  have K1 := fun W => impl_AddTurns.calls k p q r s x1 x2 ok W A1
  have K2 := fun W => spec_AddTurns.calls k p q r s x1 x2 ok W A2
  have K3 := fun W => impl_LessTurn.calls k p q r s y1 y2 one W A3
  have K4 := fun W => spec_LessTurn.calls k p q r s y1 y2 one W A4
  have K5 := fun W => impl_CompareTurns.calls p q r s sg th W A5
  have K6 := fun W => spec_CompareTurns.calls k p q r s sg th W A6
  have K7 := fun W => impl_MirrorTurn.calls k p q m1 m2 ta W A7
  have K8 := fun W => spec_MirrorTurn.calls k p q m1 m2 ta W A8
  have K9 := fun W => impl_IsTurn.calls k p q ta W A9
  have K10 := fun W => spec_IsTurn.calls k p q ta W A10
  have K11 := fun W => impl_IsTurn.calls k r s tb W A11
  have K13 := fun W => impl_TimesTurn.calls k t1 t2 kk u1 u2 s7 W A13
  have K14 := fun W => spec_TimesTurn.calls k t1 t2 kk u1 u2 s7 W A14
  have K15 := fun W => impl_PartOfTurn.calls k t1 t2 kk v1 v2 s9 W A15
  have K16 := fun W => spec_PartOfTurn.calls k t1 t2 kk v1 v2 s9 W A16
  have K17 := fun W => impl_MakeTurn.calls k nn dd g1 g2 s11 W A17
  have K18 := fun W => spec_MakeTurn.calls k nn dd g1 g2 s11 W A18
  replace B1 := Aside0.mk B1
  replace B2 := Aside0.mk B2
  replace B3 := Aside0.mk B3
  replace B4 := Aside0.mk B4
  replace B5 := Aside0.mk B5
  replace B6 := Aside0.mk B6
  replace B7 := Aside0.mk B7
  replace HT := Aside0.mk HT; replace D1 := Aside0.mk D1; replace D2 := Aside0.mk D2; replace D3 := Aside0.mk D3; clear A0 A1 A2 A3 A4 A5 A6 A7 A8 A9 A10 A11 A13 A14 A15 A16 A17 A18
  go_enter Try.func3, Try.ntmps3
  cases big with
  | true =>
    clear K1 K2 K3 K4 K5 K6 K7 K8 K9 K10 K11 K13 K14 K15 K16 K17 K18
    go_wp2_with (first | (go_at_call 4; refine KB.mono ?_; rintro e w' ⟨rfl, nd, rfl⟩))
    go_ret
    exact ⟨rfl, pw_below_drewN (Below.refl _ _) nd⟩
  | false =>
    as_aux_lemma =>
      replace D1 := D1.out rfl; replace D2 := D2.out rfl; replace D3 := D3.out rfl
      have KD1 := fun W (hb : Below w.heap.size w W) => spec_DrawAddTurns.calls k A_0 c_0 l0 p q r s W (Kd.C_below hr0 hb) hc0 D1
      have KD2 := fun W (hb : Below w.heap.size w W) => spec_DrawTimesTurn.calls k A_1 c_1 l1 t1 t2 kk W (Kd.C_below hr1 hb) hc1 D2
      have KD3 := fun W (hb : Below w.heap.size w W) => spec_DrawMakeTurn.calls A_1 c_1 l1 nn dd W (Kd.C_below hr1 hb) hc1 D3
      clear D1 D2 D3 hr0 hr1 hc0 hc1
      go_upto_region 3 with (first | (go_at_call 4; refine KB.mono ?_; rintro e w' ⟨rfl, nd, rfl⟩))
      refine Own.gen ((Own.start w).drewN nd) ?_
      clear KB; intro w0 HO
      go_upto_region 4 with (first | (go_at_call 5; refine (KD1 _ HO.below).mono ?_; rintro e w1a ⟨rfl, hb⟩; replace HO := HO.call hb; clear hb))
      refine Own.gen ((HO.alloc_at rfl _).1.alloc_at (HO.alloc_at rfl _).2 _).1 ?_
      clear HO; intro w1 HO
      generalize w1a.heap.size + 1 = g6 at HO ⊢
      generalize w1a.heap.size = g5 at HO ⊢
      clear w1a
      replace HO : Own w [(g5, .cells #[.int .i64 p, .int .i64 q] 25 (0, 0)), (g6, .cells #[.int .i64 r, .int .i64 s] 25 (0, 0))] w1 := HO
      obtain ⟨p5_0, p5_1, f5_0, f5_1⟩ := HO.c2 0 rfl
      obtain ⟨p6_0, p6_1, f6_0, f6_1⟩ := HO.c2 1 rfl
      go_upto_region 5 with (first | (go_at_call 6; refine (K1 _).mono ?_; rintro e w2a ⟨rfl, hb⟩; replace HO := HO.call hb; clear hb p5_0 p5_1 f5_0 f5_1 p6_0 p6_1 f6_0 f6_1))
      refine Own.gen (HO.alloc _) ?_
      clear HO; intro w2 HO; generalize w2a.heap.size = g7 at HO ⊢; clear w2a
      replace HO : Own w [(g5, .cells #[.int .i64 p, .int .i64 q] 25 (0, 0)), (g6, .cells #[.int .i64 r, .int .i64 s] 25 (0, 0)), (g7, .cells #[.int .i64 x1, .int .i64 x2] 25 (0, 0))] w2 := HO
      obtain ⟨p5_0, p5_1, f5_0, f5_1⟩ := HO.c2 0 rfl
      obtain ⟨p6_0, p6_1, f6_0, f6_1⟩ := HO.c2 1 rfl
      go_upto_region 6 with (first | (go_at_call 7; refine (K2 _).mono ?_; rintro e w3a ⟨rfl, hb⟩; replace HO := HO.call hb; clear hb p5_0 p5_1 f5_0 f5_1 p6_0 p6_1 f6_0 f6_1))
      refine Own.gen (HO.alloc _) ?_
      clear HO; intro w3 HO; generalize w3a.heap.size = g9 at HO ⊢; clear w3a
      replace HO : Own w [(g5, .cells #[.int .i64 p, .int .i64 q] 25 (0, 0)), (g6, .cells #[.int .i64 r, .int .i64 s] 25 (0, 0)), (g7, .cells #[.int .i64 x1, .int .i64 x2] 25 (0, 0)), (g9, .cells #[.int .i64 x1, .int .i64 x2] 25 (0, 0))] w3 := HO
      obtain ⟨p5_0, p5_1, f5_0, f5_1⟩ := HO.c2 0 rfl
      obtain ⟨p6_0, p6_1, f6_0, f6_1⟩ := HO.c2 1 rfl
      go_upto_region 7 with (first | (go_at_call 8; refine (K3 _).mono ?_; rintro e w4a ⟨rfl, hb⟩; replace HO := HO.call hb; clear hb p5_0 p5_1 f5_0 f5_1 p6_0 p6_1 f6_0 f6_1))
      refine Own.gen (HO.alloc _) ?_
      clear HO; intro w4 HO; generalize w4a.heap.size = g11 at HO ⊢; clear w4a
      replace HO : Own w [(g5, .cells #[.int .i64 p, .int .i64 q] 25 (0, 0)), (g6, .cells #[.int .i64 r, .int .i64 s] 25 (0, 0)), (g7, .cells #[.int .i64 x1, .int .i64 x2] 25 (0, 0)), (g9, .cells #[.int .i64 x1, .int .i64 x2] 25 (0, 0)), (g11, .cells #[.int .i64 y1, .int .i64 y2] 25 (0, 0))] w4 := HO
      obtain ⟨p5_0, p5_1, f5_0, f5_1⟩ := HO.c2 0 rfl
      obtain ⟨p6_0, p6_1, f6_0, f6_1⟩ := HO.c2 1 rfl
      go_upto_region 8 with (first | (go_at_call 9; refine (K4 _).mono ?_; rintro e w5a ⟨rfl, hb⟩; replace HO := HO.call hb; clear hb p5_0 p5_1 f5_0 f5_1 p6_0 p6_1 f6_0 f6_1))
      refine Own.gen (HO.alloc _) ?_
      clear HO; intro w5 HO; generalize w5a.heap.size = g13 at HO ⊢; clear w5a
      replace HO : Own w [(g5, .cells #[.int .i64 p, .int .i64 q] 25 (0, 0)), (g6, .cells #[.int .i64 r, .int .i64 s] 25 (0, 0)), (g7, .cells #[.int .i64 x1, .int .i64 x2] 25 (0, 0)), (g9, .cells #[.int .i64 x1, .int .i64 x2] 25 (0, 0)), (g11, .cells #[.int .i64 y1, .int .i64 y2] 25 (0, 0)), (g13, .cells #[.int .i64 y1, .int .i64 y2] 25 (0, 0))] w5 := HO
      obtain ⟨p5_0, p5_1, f5_0, f5_1⟩ := HO.c2 0 rfl
      obtain ⟨p6_0, p6_1, f6_0, f6_1⟩ := HO.c2 1 rfl
      go_upto_region 9 with (first | (go_at_call 10; refine (K5 _).mono ?_; rintro e w6a ⟨rfl, hb⟩; replace HO := HO.call hb; clear hb p5_0 p5_1 f5_0 f5_1 p6_0 p6_1 f6_0 f6_1))
      refine Own.gen HO ?_; clear HO; intro w6 HO; clear w6a
      obtain ⟨p5_0, p5_1, f5_0, f5_1⟩ := HO.c2 0 rfl
      obtain ⟨p6_0, p6_1, f6_0, f6_1⟩ := HO.c2 1 rfl
      go_upto_region 10 with (first | (go_at_call 11; refine (K6 _).mono ?_; rintro e w7a ⟨rfl, hb⟩; replace HO := HO.call hb; clear hb p5_0 p5_1 f5_0 f5_1 p6_0 p6_1 f6_0 f6_1))
      refine Own.gen HO ?_; clear HO; intro w7 HO; clear w7a
      obtain ⟨p5_0, p5_1, f5_0, f5_1⟩ := HO.c2 0 rfl
      go_upto_region 11 with (first | (go_at_call 12; refine (K7 _).mono ?_; rintro e w8a ⟨rfl, hb⟩; replace HO := HO.call hb; clear hb p5_0 p5_1 f5_0 f5_1))
      refine Own.gen (HO.alloc _) ?_
      clear HO; intro w8 HO; generalize w8a.heap.size = g19 at HO ⊢; clear w8a
      replace HO : Own w [(g5, .cells #[.int .i64 p, .int .i64 q] 25 (0, 0)), (g6, .cells #[.int .i64 r, .int .i64 s] 25 (0, 0)), (g7, .cells #[.int .i64 x1, .int .i64 x2] 25 (0, 0)), (g9, .cells #[.int .i64 x1, .int .i64 x2] 25 (0, 0)), (g11, .cells #[.int .i64 y1, .int .i64 y2] 25 (0, 0)), (g13, .cells #[.int .i64 y1, .int .i64 y2] 25 (0, 0)), (g19, .cells #[.int .i64 m1, .int .i64 m2] 25 (0, 0))] w8 := HO
      obtain ⟨p5_0, p5_1, f5_0, f5_1⟩ := HO.c2 0 rfl
      go_upto_region 12 with (first | (go_at_call 13; refine (K8 _).mono ?_; rintro e w9a ⟨rfl, hb⟩; replace HO := HO.call hb; clear hb p5_0 p5_1 f5_0 f5_1))
      refine Own.gen (HO.alloc _) ?_
      clear HO; intro w9 HO; generalize w9a.heap.size = g21 at HO ⊢; clear w9a
      replace HO : Own w [(g5, .cells #[.int .i64 p, .int .i64 q] 25 (0, 0)), (g6, .cells #[.int .i64 r, .int .i64 s] 25 (0, 0)), (g7, .cells #[.int .i64 x1, .int .i64 x2] 25 (0, 0)), (g9, .cells #[.int .i64 x1, .int .i64 x2] 25 (0, 0)), (g11, .cells #[.int .i64 y1, .int .i64 y2] 25 (0, 0)), (g13, .cells #[.int .i64 y1, .int .i64 y2] 25 (0, 0)), (g19, .cells #[.int .i64 m1, .int .i64 m2] 25 (0, 0)), (g21, .cells #[.int .i64 m1, .int .i64 m2] 25 (0, 0))] w9 := HO
      clear KD1 K1 K2 K3 K4 K5 K6 K7 K8
      go_cut [179] (fun v179 wc => v179 = .bool false ∧ Own w [(g5, .cells #[.int .i64 p, .int .i64 q] 25 (0, 0)), (g6, .cells #[.int .i64 r, .int .i64 s] 25 (0, 0)), (g7, .cells #[.int .i64 x1, .int .i64 x2] 25 (0, 0)), (g9, .cells #[.int .i64 x1, .int .i64 x2] 25 (0, 0)), (g11, .cells #[.int .i64 y1, .int .i64 y2] 25 (0, 0)), (g13, .cells #[.int .i64 y1, .int .i64 y2] 25 (0, 0)), (g19, .cells #[.int .i64 m1, .int .i64 m2] 25 (0, 0)), (g21, .cells #[.int .i64 m1, .int .i64 m2] 25 (0, 0))] wc)
      case first =>
        as_aux_lemma =>
          have Q9 : ∀ d os, Calls Try.prog 14 #[.agg #[.int .i64 p, .int .i64 q]] (grow (redrawn w9 d) os) fun e w'' => e = .returned (.bool ta) ∧ ∃ p : Regrown, w'' = grow (redrawn w9 p.d) p.os := fun d os => Calls.regrown_of (K9 _)
          have Q10 : ∀ d os, Calls Try.prog 15 #[.agg #[.int .i64 p, .int .i64 q]] (grow (redrawn w9 d) os) fun e w'' => e = .returned (.bool ta) ∧ ∃ p : Regrown, w'' = grow (redrawn w9 p.d) p.os := fun d os => Calls.regrown_of (K10 _)
          have Q11 : ∀ d os, Calls Try.prog 14 #[.agg #[.int .i64 r, .int .i64 s]] (grow (redrawn w9 d) os) fun e w'' => e = .returned (.bool tb) ∧ ∃ p : Regrown, w'' = grow (redrawn w9 p.d) p.os := fun d os => Calls.regrown_of (K11 _)
          clear K9 K10 K11
          cases ta with
          | false =>
            obtain rfl : th = false := by simpa using HT.out
            obtain rfl : ok = false := by cases ok <;> first | rfl | exact absurd (B1.out rfl) (by simp)
            obtain rfl : one = false := by cases one <;> first | rfl | exact absurd (B2.out rfl) (by simp)
            obtain ⟨p7_0, p7_1, f7_0, f7_1⟩ := HO.c2 2 rfl
            obtain ⟨p9_0, p9_1, f9_0, f9_1⟩ := HO.c2 3 rfl
            obtain ⟨p11_0, p11_1, f11_0, f11_1⟩ := HO.c2 4 rfl
            obtain ⟨p13_0, p13_1, f13_0, f13_1⟩ := HO.c2 5 rfl
            obtain ⟨p19_0, p19_1, f19_0, f19_1⟩ := HO.c2 6 rfl
            obtain ⟨p21_0, p21_1, f21_0, f21_1⟩ := HO.c2 7 rfl
            obtain ⟨p5_0, p5_1, f5_0, f5_1⟩ := HO.c2 0 rfl
            obtain ⟨p6_0, p6_1, f6_0, f6_1⟩ := HO.c2 1 rfl
            have kp7_0 := cell_regrown p7_0; have kp7_1 := cell_regrown p7_1; have kp9_0 := cell_regrown p9_0; have kp9_1 := cell_regrown p9_1; have kp11_0 := cell_regrown p11_0; have kp11_1 := cell_regrown p11_1; have kp13_0 := cell_regrown p13_0; have kp13_1 := cell_regrown p13_1; have kp19_0 := cell_regrown p19_0; have kp19_1 := cell_regrown p19_1; have kp21_0 := cell_regrown p21_0; have kp21_1 := cell_regrown p21_1; have kp5_0 := cell_regrown p5_0; have kp5_1 := cell_regrown p5_1; have kp6_0 := cell_regrown p6_0; have kp6_1 := cell_regrown p6_1
            try dsimp only [List.append]
            refine wp_region_quiet_below (by kernel_rfl) (by kernel_rfl) ?_
            repeat (first | go_big_quiet_step (first | with_reducible exact Q9 _ _ | with_reducible exact Q10 _ _ | with_reducible exact Q11 _ _) | quiet_step (first | with_reducible exact Q9 _ _ | with_reducible exact Q10 _ _ | with_reducible exact Q11 _ _))
            refine wpQuiet_nil ?_
            intro _ hw'; obtain ⟨⟨dq, osq⟩, hw''⟩ := hw'; subst hw''
            replace HO := HO.call (below_regrown _ dq osq)
            go_wp2; go_meet
            exact ⟨by first | rfl | simp, HO⟩
          | true =>
            cases tb with
            | false =>
              obtain rfl : th = false := by simpa using HT.out
              obtain rfl : ok = false := by cases ok <;> first | rfl | exact absurd (B1.out rfl) (by simp)
              obtain rfl : one = false := by cases one <;> first | rfl | exact absurd (B2.out rfl) (by simp)
              obtain ⟨p7_0, p7_1, f7_0, f7_1⟩ := HO.c2 2 rfl
              obtain ⟨p9_0, p9_1, f9_0, f9_1⟩ := HO.c2 3 rfl
              obtain ⟨p11_0, p11_1, f11_0, f11_1⟩ := HO.c2 4 rfl
              obtain ⟨p13_0, p13_1, f13_0, f13_1⟩ := HO.c2 5 rfl
              obtain ⟨p19_0, p19_1, f19_0, f19_1⟩ := HO.c2 6 rfl
              obtain ⟨p21_0, p21_1, f21_0, f21_1⟩ := HO.c2 7 rfl
              obtain ⟨p5_0, p5_1, f5_0, f5_1⟩ := HO.c2 0 rfl
              obtain ⟨p6_0, p6_1, f6_0, f6_1⟩ := HO.c2 1 rfl
              have kp7_0 := cell_regrown p7_0; have kp7_1 := cell_regrown p7_1; have kp9_0 := cell_regrown p9_0; have kp9_1 := cell_regrown p9_1; have kp11_0 := cell_regrown p11_0; have kp11_1 := cell_regrown p11_1; have kp13_0 := cell_regrown p13_0; have kp13_1 := cell_regrown p13_1; have kp19_0 := cell_regrown p19_0; have kp19_1 := cell_regrown p19_1; have kp21_0 := cell_regrown p21_0; have kp21_1 := cell_regrown p21_1; have kp5_0 := cell_regrown p5_0; have kp5_1 := cell_regrown p5_1; have kp6_0 := cell_regrown p6_0; have kp6_1 := cell_regrown p6_1
              try dsimp only [List.append]
              refine wp_region_quiet_below (by kernel_rfl) (by kernel_rfl) ?_
              repeat (first | go_big_quiet_step (first | with_reducible exact Q9 _ _ | with_reducible exact Q10 _ _ | with_reducible exact Q11 _ _) | quiet_step (first | with_reducible exact Q9 _ _ | with_reducible exact Q10 _ _ | with_reducible exact Q11 _ _))
              refine wpQuiet_nil ?_
              intro _ hw'; obtain ⟨⟨dq, osq⟩, hw''⟩ := hw'; subst hw''
              replace HO := HO.call (below_regrown _ dq osq)
              go_wp2; go_meet
              exact ⟨by first | rfl | simp, HO⟩
            | true =>
              obtain rfl : th = true := by simpa using HT.out
              cases ok with
              | false =>
                cases one with
                | false =>
                  as_aux_lemma =>
                    obtain ⟨p7_0, p7_1, f7_0, f7_1⟩ := HO.c2 2 rfl
                    obtain ⟨p9_0, p9_1, f9_0, f9_1⟩ := HO.c2 3 rfl
                    obtain ⟨p11_0, p11_1, f11_0, f11_1⟩ := HO.c2 4 rfl
                    obtain ⟨p13_0, p13_1, f13_0, f13_1⟩ := HO.c2 5 rfl
                    obtain ⟨p19_0, p19_1, f19_0, f19_1⟩ := HO.c2 6 rfl
                    obtain ⟨p21_0, p21_1, f21_0, f21_1⟩ := HO.c2 7 rfl
                    obtain ⟨p5_0, p5_1, f5_0, f5_1⟩ := HO.c2 0 rfl
                    obtain ⟨p6_0, p6_1, f6_0, f6_1⟩ := HO.c2 1 rfl
                    have kp7_0 := cell_regrown p7_0; have kp7_1 := cell_regrown p7_1; have kp9_0 := cell_regrown p9_0; have kp9_1 := cell_regrown p9_1; have kp11_0 := cell_regrown p11_0; have kp11_1 := cell_regrown p11_1; have kp13_0 := cell_regrown p13_0; have kp13_1 := cell_regrown p13_1; have kp19_0 := cell_regrown p19_0; have kp19_1 := cell_regrown p19_1; have kp21_0 := cell_regrown p21_0; have kp21_1 := cell_regrown p21_1; have kp5_0 := cell_regrown p5_0; have kp5_1 := cell_regrown p5_1; have kp6_0 := cell_regrown p6_0; have kp6_1 := cell_regrown p6_1
                    try dsimp only [List.append]
                    refine wp_region_quiet_below (by kernel_rfl) (by kernel_rfl) ?_
                    repeat (first | go_big_quiet_step (first | with_reducible exact Q9 _ _ | with_reducible exact Q10 _ _ | with_reducible exact Q11 _ _) | quiet_step (first | with_reducible exact Q9 _ _ | with_reducible exact Q10 _ _ | with_reducible exact Q11 _ _))
                    refine wpQuiet_nil ?_
                    intro _ hw'; obtain ⟨⟨dq, osq⟩, hw''⟩ := hw'; subst hw''
                    replace HO := HO.call (below_regrown _ dq osq)
                    go_wp2; go_meet
                    exact ⟨by first | rfl | simp, HO⟩
                | true =>
                  as_aux_lemma =>
                    obtain ⟨p7_0, p7_1, f7_0, f7_1⟩ := HO.c2 2 rfl
                    obtain ⟨p9_0, p9_1, f9_0, f9_1⟩ := HO.c2 3 rfl
                    obtain ⟨p11_0, p11_1, f11_0, f11_1⟩ := HO.c2 4 rfl
                    obtain ⟨p13_0, p13_1, f13_0, f13_1⟩ := HO.c2 5 rfl
                    obtain ⟨p19_0, p19_1, f19_0, f19_1⟩ := HO.c2 6 rfl
                    obtain ⟨p21_0, p21_1, f21_0, f21_1⟩ := HO.c2 7 rfl
                    obtain ⟨p5_0, p5_1, f5_0, f5_1⟩ := HO.c2 0 rfl
                    obtain ⟨p6_0, p6_1, f6_0, f6_1⟩ := HO.c2 1 rfl
                    have kp7_0 := cell_regrown p7_0; have kp7_1 := cell_regrown p7_1; have kp9_0 := cell_regrown p9_0; have kp9_1 := cell_regrown p9_1; have kp11_0 := cell_regrown p11_0; have kp11_1 := cell_regrown p11_1; have kp13_0 := cell_regrown p13_0; have kp13_1 := cell_regrown p13_1; have kp19_0 := cell_regrown p19_0; have kp19_1 := cell_regrown p19_1; have kp21_0 := cell_regrown p21_0; have kp21_1 := cell_regrown p21_1; have kp5_0 := cell_regrown p5_0; have kp5_1 := cell_regrown p5_1; have kp6_0 := cell_regrown p6_0; have kp6_1 := cell_regrown p6_1
                    try dsimp only [List.append]
                    refine wp_region_quiet_below (by kernel_rfl) (by kernel_rfl) ?_
                    repeat (first | go_big_quiet_step (first | with_reducible exact Q9 _ _ | with_reducible exact Q10 _ _ | with_reducible exact Q11 _ _) | quiet_step (first | with_reducible exact Q9 _ _ | with_reducible exact Q10 _ _ | with_reducible exact Q11 _ _))
                    refine wpQuiet_nil ?_
                    intro _ hw'; obtain ⟨⟨dq, osq⟩, hw''⟩ := hw'; subst hw''
                    replace HO := HO.call (below_regrown _ dq osq)
                    go_wp2; go_meet
                    exact ⟨by first | rfl | simp, HO⟩
              | true =>
                cases one with
                | false =>
                  as_aux_lemma =>
                    obtain ⟨p7_0, p7_1, f7_0, f7_1⟩ := HO.c2 2 rfl
                    obtain ⟨p9_0, p9_1, f9_0, f9_1⟩ := HO.c2 3 rfl
                    obtain ⟨p11_0, p11_1, f11_0, f11_1⟩ := HO.c2 4 rfl
                    obtain ⟨p13_0, p13_1, f13_0, f13_1⟩ := HO.c2 5 rfl
                    obtain ⟨p19_0, p19_1, f19_0, f19_1⟩ := HO.c2 6 rfl
                    obtain ⟨p21_0, p21_1, f21_0, f21_1⟩ := HO.c2 7 rfl
                    obtain ⟨p5_0, p5_1, f5_0, f5_1⟩ := HO.c2 0 rfl
                    obtain ⟨p6_0, p6_1, f6_0, f6_1⟩ := HO.c2 1 rfl
                    have kp7_0 := cell_regrown p7_0; have kp7_1 := cell_regrown p7_1; have kp9_0 := cell_regrown p9_0; have kp9_1 := cell_regrown p9_1; have kp11_0 := cell_regrown p11_0; have kp11_1 := cell_regrown p11_1; have kp13_0 := cell_regrown p13_0; have kp13_1 := cell_regrown p13_1; have kp19_0 := cell_regrown p19_0; have kp19_1 := cell_regrown p19_1; have kp21_0 := cell_regrown p21_0; have kp21_1 := cell_regrown p21_1; have kp5_0 := cell_regrown p5_0; have kp5_1 := cell_regrown p5_1; have kp6_0 := cell_regrown p6_0; have kp6_1 := cell_regrown p6_1
                    try dsimp only [List.append]
                    refine wp_region_quiet_below (by kernel_rfl) (by kernel_rfl) ?_
                    repeat (first | go_big_quiet_step (first | with_reducible exact Q9 _ _ | with_reducible exact Q10 _ _ | with_reducible exact Q11 _ _) | quiet_step (first | with_reducible exact Q9 _ _ | with_reducible exact Q10 _ _ | with_reducible exact Q11 _ _))
                    refine wpQuiet_nil ?_
                    intro _ hw'; obtain ⟨⟨dq, osq⟩, hw''⟩ := hw'; subst hw''
                    replace HO := HO.call (below_regrown _ dq osq)
                    go_wp2; go_meet
                    exact ⟨by first | rfl | simp, HO⟩
                | true =>
                  as_aux_lemma =>
                    obtain ⟨p7_0, p7_1, f7_0, f7_1⟩ := HO.c2 2 rfl
                    obtain ⟨p9_0, p9_1, f9_0, f9_1⟩ := HO.c2 3 rfl
                    obtain ⟨p11_0, p11_1, f11_0, f11_1⟩ := HO.c2 4 rfl
                    obtain ⟨p13_0, p13_1, f13_0, f13_1⟩ := HO.c2 5 rfl
                    obtain ⟨p19_0, p19_1, f19_0, f19_1⟩ := HO.c2 6 rfl
                    obtain ⟨p21_0, p21_1, f21_0, f21_1⟩ := HO.c2 7 rfl
                    obtain ⟨p5_0, p5_1, f5_0, f5_1⟩ := HO.c2 0 rfl
                    obtain ⟨p6_0, p6_1, f6_0, f6_1⟩ := HO.c2 1 rfl
                    have kp7_0 := cell_regrown p7_0; have kp7_1 := cell_regrown p7_1; have kp9_0 := cell_regrown p9_0; have kp9_1 := cell_regrown p9_1; have kp11_0 := cell_regrown p11_0; have kp11_1 := cell_regrown p11_1; have kp13_0 := cell_regrown p13_0; have kp13_1 := cell_regrown p13_1; have kp19_0 := cell_regrown p19_0; have kp19_1 := cell_regrown p19_1; have kp21_0 := cell_regrown p21_0; have kp21_1 := cell_regrown p21_1; have kp5_0 := cell_regrown p5_0; have kp5_1 := cell_regrown p5_1; have kp6_0 := cell_regrown p6_0; have kp6_1 := cell_regrown p6_1
                    try dsimp only [List.append]
                    refine wp_region_quiet_below (by kernel_rfl) (by kernel_rfl) ?_
                    repeat (first | go_big_quiet_step (first | with_reducible exact Q9 _ _ | with_reducible exact Q10 _ _ | with_reducible exact Q11 _ _) | quiet_step (first | with_reducible exact Q9 _ _ | with_reducible exact Q10 _ _ | with_reducible exact Q11 _ _))
                    refine wpQuiet_nil ?_
                    intro _ hw'; obtain ⟨⟨dq, osq⟩, hw''⟩ := hw'; subst hw''
                    replace HO := HO.call (below_regrown _ dq osq)
                    go_wp2; go_meet
                    exact ⟨by first | rfl | simp, HO⟩
      case rest =>
        as_aux_lemma =>
          clear HO; obtain ⟨rfl, HO⟩ := hcut
          revert HO; generalize wc = w10; intro HO
          clear K9 K10 K11
          go_upto_if 180 with (fail)
          go_cut [] (fun wc => Own w [(g5, .cells #[.int .i64 p, .int .i64 q] 25 (0, 0)), (g6, .cells #[.int .i64 r, .int .i64 s] 25 (0, 0)), (g7, .cells #[.int .i64 x1, .int .i64 x2] 25 (0, 0)), (g9, .cells #[.int .i64 x1, .int .i64 x2] 25 (0, 0)), (g11, .cells #[.int .i64 y1, .int .i64 y2] 25 (0, 0)), (g13, .cells #[.int .i64 y1, .int .i64 y2] 25 (0, 0)), (g19, .cells #[.int .i64 m1, .int .i64 m2] 25 (0, 0)), (g21, .cells #[.int .i64 m1, .int .i64 m2] 25 (0, 0))] wc)
          case first =>
            as_aux_lemma =>
              cases th with
              | false =>
                as_aux_lemma =>
                  go_wp2
                  go_meet
                  exact HO
              | true =>
                as_aux_lemma =>
                  obtain ⟨M1, M2, M3⟩ := B3.out rfl; have M3 := Aside0.mk M3
                  have L1 := fun W => impl_CompareTurns.calls r s p q (wrap64 (-sg)) true W M1
                  have L2 := fun W => impl_AddTurns.calls k r s p q x1 x2 ok W M2
                  clear M1 M2
                  go_upto_region 15 with (fail)
                  obtain ⟨p6_0, p6_1, f6_0, f6_1⟩ := HO.c2 1 rfl
                  obtain ⟨p5_0, p5_1, f5_0, f5_1⟩ := HO.c2 0 rfl
                  go_upto_region 16 with (first | (go_at_call 10; refine (L1 _).mono ?_; rintro e w11a ⟨rfl, hb⟩; replace HO := HO.call hb; clear hb p6_0 p6_1 f6_0 f6_1 p5_0 p5_1 f5_0 f5_1))
                  refine Own.gen HO ?_; clear HO; intro w11 HO; clear w11a
                  obtain ⟨p6_0, p6_1, f6_0, f6_1⟩ := HO.c2 1 rfl
                  obtain ⟨p5_0, p5_1, f5_0, f5_1⟩ := HO.c2 0 rfl
                  go_upto_region 17 with (first | (go_at_call 6; refine (L2 _).mono ?_; rintro e w12a ⟨rfl, hb⟩; replace HO := HO.call hb; clear hb p6_0 p6_1 f6_0 f6_1 p5_0 p5_1 f5_0 f5_1))
                  refine Own.gen (HO.alloc _) ?_
                  clear HO; intro w12 HO; generalize w12a.heap.size = g25 at HO ⊢; clear w12a
                  replace HO : Own w [(g5, .cells #[.int .i64 p, .int .i64 q] 25 (0, 0)), (g6, .cells #[.int .i64 r, .int .i64 s] 25 (0, 0)), (g7, .cells #[.int .i64 x1, .int .i64 x2] 25 (0, 0)), (g9, .cells #[.int .i64 x1, .int .i64 x2] 25 (0, 0)), (g11, .cells #[.int .i64 y1, .int .i64 y2] 25 (0, 0)), (g13, .cells #[.int .i64 y1, .int .i64 y2] 25 (0, 0)), (g19, .cells #[.int .i64 m1, .int .i64 m2] 25 (0, 0)), (g21, .cells #[.int .i64 m1, .int .i64 m2] 25 (0, 0)), (g25, .cells #[.int .i64 x1, .int .i64 x2] 25 (0, 0))] w12 := HO
                  obtain ⟨p5_0, p5_1, f5_0, f5_1⟩ := HO.c2 0 rfl
                  obtain ⟨p6_0, p6_1, f6_0, f6_1⟩ := HO.c2 1 rfl
                  obtain ⟨p25_0, p25_1, f25_0, f25_1⟩ := HO.c2 8 rfl
                  obtain ⟨p7_0, p7_1, f7_0, f7_1⟩ := HO.c2 2 rfl
                  rcases M3.out with ⟨z1, z2, z3⟩ | ⟨z1, z2 | z2⟩
                  · as_aux_lemma =>
                    clear M3
                    have y1 : (sg == 0) = true := beq_iff_eq.mpr z1
                    have y3 : (p == r) = true := beq_iff_eq.mpr z2.symm
                    have y5 : (q == s) = true := beq_iff_eq.mpr z3.symm
                    clear z1 z2 z3
                    go_wp2
                    go_meet
                    exact Own.less (HO)
                  · as_aux_lemma =>
                    clear M3
                    have y1 : (sg == 0) = false := beq_eq_false_iff_ne.mpr z1
                    have y3 : (p == r) = false := beq_eq_false_iff_ne.mpr z2
                    clear z1 z2
                    go_wp2
                    go_meet
                    exact Own.less (HO)
                  · as_aux_lemma =>
                    clear M3
                    have y1 : (sg == 0) = false := beq_eq_false_iff_ne.mpr z1
                    have y3 : (q == s) = false := beq_eq_false_iff_ne.mpr z2
                    clear z1 z2
                    go_wp2
                    go_meet
                    exact Own.less (HO)
          case rest =>
            as_aux_lemma =>
              clear HO; have HO := hcut; clear hcut
              revert HO; generalize wc = w11; intro HO
              go_upto_if 219 with (fail)
              go_cut [] (fun wc => Own w [(g5, .cells #[.int .i64 p, .int .i64 q] 25 (0, 0)), (g6, .cells #[.int .i64 r, .int .i64 s] 25 (0, 0)), (g7, .cells #[.int .i64 x1, .int .i64 x2] 25 (0, 0)), (g9, .cells #[.int .i64 x1, .int .i64 x2] 25 (0, 0)), (g11, .cells #[.int .i64 y1, .int .i64 y2] 25 (0, 0)), (g13, .cells #[.int .i64 y1, .int .i64 y2] 25 (0, 0)), (g19, .cells #[.int .i64 m1, .int .i64 m2] 25 (0, 0)), (g21, .cells #[.int .i64 m1, .int .i64 m2] 25 (0, 0))] wc)
              case first =>
                as_aux_lemma =>
                  cases ok with
                  | false =>
                    as_aux_lemma =>
                      go_wp2
                      go_meet
                      exact HO
                  | true =>
                    as_aux_lemma =>
                      obtain ⟨M1, l1', l2', sv, M2, M3⟩ := B4.out rfl; have M3 := Aside0.mk M3
                      have L1 := fun W => impl_LessTurn.calls k x1 x2 r s l1' l2' sv W M2
                      have L2 := fun W => impl_IsTurn.calls k x1 x2 true W M1
                      clear M1 M2
                      go_upto_region 20 with (fail)
                      obtain ⟨p7_0, p7_1, f7_0, f7_1⟩ := HO.c2 2 rfl
                      obtain ⟨p6_0, p6_1, f6_0, f6_1⟩ := HO.c2 1 rfl
                      go_upto_region 21 with (first | (go_at_call 8; refine (L1 _).mono ?_; rintro e w12a ⟨rfl, hb⟩; replace HO := HO.call hb; clear hb p7_0 p7_1 f7_0 f7_1 p6_0 p6_1 f6_0 f6_1))
                      refine Own.gen (HO.alloc _) ?_
                      clear HO; intro w12 HO; generalize w12a.heap.size = g27 at HO ⊢; clear w12a
                      replace HO : Own w [(g5, .cells #[.int .i64 p, .int .i64 q] 25 (0, 0)), (g6, .cells #[.int .i64 r, .int .i64 s] 25 (0, 0)), (g7, .cells #[.int .i64 x1, .int .i64 x2] 25 (0, 0)), (g9, .cells #[.int .i64 x1, .int .i64 x2] 25 (0, 0)), (g11, .cells #[.int .i64 y1, .int .i64 y2] 25 (0, 0)), (g13, .cells #[.int .i64 y1, .int .i64 y2] 25 (0, 0)), (g19, .cells #[.int .i64 m1, .int .i64 m2] 25 (0, 0)), (g21, .cells #[.int .i64 m1, .int .i64 m2] 25 (0, 0)), (g27, .cells #[.int .i64 l1', .int .i64 l2'] 25 (0, 0))] w12 := HO
                      cases sv with
                      | false =>
                        as_aux_lemma =>
                          obtain ⟨p7_0, p7_1, f7_0, f7_1⟩ := HO.c2 2 rfl
                          obtain ⟨p27_0, p27_1, f27_0, f27_1⟩ := HO.c2 8 rfl
                          obtain ⟨p5_0, p5_1, f5_0, f5_1⟩ := HO.c2 0 rfl
                          go_wp2_with (first | (go_at_call 14; refine (L2 _).mono ?_; rintro e w' ⟨rfl, hb⟩; replace HO := HO.call hb; clear hb; clear p7_0 f7_0; clear p7_1 f7_1; clear p27_0 f27_0; clear p27_1 f27_1; clear p5_0 f5_0; clear p5_1 f5_1; obtain ⟨p27_0, p27_1, f27_0, f27_1⟩ := HO.c2 8 rfl; obtain ⟨p5_0, p5_1, f5_0, f5_1⟩ := HO.c2 0 rfl))
                          go_meet
                          exact Own.less (HO)
                      | true =>
                        as_aux_lemma =>
                          obtain ⟨z1, z2⟩ := M3.out rfl; subst z1; subst z2
                          obtain ⟨p7_0, p7_1, f7_0, f7_1⟩ := HO.c2 2 rfl
                          obtain ⟨p27_0, p27_1, f27_0, f27_1⟩ := HO.c2 8 rfl
                          obtain ⟨p5_0, p5_1, f5_0, f5_1⟩ := HO.c2 0 rfl
                          go_wp2_with (first | (go_at_call 14; refine (L2 _).mono ?_; rintro e w' ⟨rfl, hb⟩; replace HO := HO.call hb; clear hb; clear p7_0 f7_0; clear p7_1 f7_1; clear p27_0 f27_0; clear p27_1 f27_1; clear p5_0 f5_0; clear p5_1 f5_1; obtain ⟨p27_0, p27_1, f27_0, f27_1⟩ := HO.c2 8 rfl; obtain ⟨p5_0, p5_1, f5_0, f5_1⟩ := HO.c2 0 rfl))
                          go_meet
                          exact Own.less (HO)
              case rest =>
                as_aux_lemma =>
                  clear HO; have HO := hcut; clear hcut
                  revert HO; generalize wc = w12; intro HO
                  go_upto_if 237 with (fail)
                  go_cut [] (fun wc => Own w [(g5, .cells #[.int .i64 p, .int .i64 q] 25 (0, 0)), (g6, .cells #[.int .i64 r, .int .i64 s] 25 (0, 0)), (g7, .cells #[.int .i64 x1, .int .i64 x2] 25 (0, 0)), (g9, .cells #[.int .i64 x1, .int .i64 x2] 25 (0, 0)), (g11, .cells #[.int .i64 y1, .int .i64 y2] 25 (0, 0)), (g13, .cells #[.int .i64 y1, .int .i64 y2] 25 (0, 0)), (g19, .cells #[.int .i64 m1, .int .i64 m2] 25 (0, 0)), (g21, .cells #[.int .i64 m1, .int .i64 m2] 25 (0, 0))] wc)
                  case first =>
                    as_aux_lemma =>
                      cases ta with
                      | false =>
                        as_aux_lemma =>
                          go_wp2
                          go_meet
                          exact HO
                      | true =>
                        as_aux_lemma =>
                          obtain ⟨M1, M2⟩ := B5.out rfl
                          have L1 := fun W => impl_AddTurns.calls k p q m1 m2 0 1 true W M1
                          have L2 := fun W => impl_MirrorTurn.calls k m1 m2 p q true W M2
                          clear M1 M2
                          go_upto_region 24 with (fail)
                          obtain ⟨p5_0, p5_1, f5_0, f5_1⟩ := HO.c2 0 rfl
                          obtain ⟨p19_0, p19_1, f19_0, f19_1⟩ := HO.c2 6 rfl
                          go_upto_region 25 with (first | (go_at_call 6; refine (L1 _).mono ?_; rintro e w13a ⟨rfl, hb⟩; replace HO := HO.call hb; clear hb p5_0 p5_1 f5_0 f5_1 p19_0 p19_1 f19_0 f19_1))
                          refine Own.gen (HO.alloc _) ?_
                          clear HO; intro w13 HO; generalize w13a.heap.size = g29 at HO ⊢; clear w13a
                          replace HO : Own w [(g5, .cells #[.int .i64 p, .int .i64 q] 25 (0, 0)), (g6, .cells #[.int .i64 r, .int .i64 s] 25 (0, 0)), (g7, .cells #[.int .i64 x1, .int .i64 x2] 25 (0, 0)), (g9, .cells #[.int .i64 x1, .int .i64 x2] 25 (0, 0)), (g11, .cells #[.int .i64 y1, .int .i64 y2] 25 (0, 0)), (g13, .cells #[.int .i64 y1, .int .i64 y2] 25 (0, 0)), (g19, .cells #[.int .i64 m1, .int .i64 m2] 25 (0, 0)), (g21, .cells #[.int .i64 m1, .int .i64 m2] 25 (0, 0)), (g29, .cells #[.int .i64 0, .int .i64 1] 25 (0, 0))] w13 := HO
                          obtain ⟨p19_0, p19_1, f19_0, f19_1⟩ := HO.c2 6 rfl
                          go_upto_region 26 with (first | (go_at_call 12; refine (L2 _).mono ?_; rintro e w14a ⟨rfl, hb⟩; replace HO := HO.call hb; clear hb p19_0 p19_1 f19_0 f19_1))
                          refine Own.gen (HO.alloc _) ?_
                          clear HO; intro w14 HO; generalize w14a.heap.size = g31 at HO ⊢; clear w14a
                          replace HO : Own w [(g5, .cells #[.int .i64 p, .int .i64 q] 25 (0, 0)), (g6, .cells #[.int .i64 r, .int .i64 s] 25 (0, 0)), (g7, .cells #[.int .i64 x1, .int .i64 x2] 25 (0, 0)), (g9, .cells #[.int .i64 x1, .int .i64 x2] 25 (0, 0)), (g11, .cells #[.int .i64 y1, .int .i64 y2] 25 (0, 0)), (g13, .cells #[.int .i64 y1, .int .i64 y2] 25 (0, 0)), (g19, .cells #[.int .i64 m1, .int .i64 m2] 25 (0, 0)), (g21, .cells #[.int .i64 m1, .int .i64 m2] 25 (0, 0)), (g29, .cells #[.int .i64 0, .int .i64 1] 25 (0, 0)), (g31, .cells #[.int .i64 p, .int .i64 q] 25 (0, 0))] w14 := HO
                          obtain ⟨p29_0, p29_1, f29_0, f29_1⟩ := HO.c2 8 rfl
                          obtain ⟨p31_0, p31_1, f31_0, f31_1⟩ := HO.c2 9 rfl
                          obtain ⟨p5_0, p5_1, f5_0, f5_1⟩ := HO.c2 0 rfl
                          go_wp2
                          go_meet
                          exact Own.less (Own.less (HO))
                  case rest =>
                    as_aux_lemma =>
                      clear HO; have HO := hcut; clear hcut
                      revert HO; generalize wc = w13; intro HO
                      go_upto_region 28 with (fail)
                      go_upto_region 29 with (first | (go_at_call 16; refine (KD2 _ HO.below).mono ?_; rintro e w14a ⟨rfl, hb⟩; replace HO := HO.call hb; clear hb))
                      refine Own.gen (HO.alloc _) ?_
                      clear HO; intro w14 HO; generalize w14a.heap.size = g33 at HO ⊢; clear w14a
                      replace HO : Own w [(g5, .cells #[.int .i64 p, .int .i64 q] 25 (0, 0)), (g6, .cells #[.int .i64 r, .int .i64 s] 25 (0, 0)), (g7, .cells #[.int .i64 x1, .int .i64 x2] 25 (0, 0)), (g9, .cells #[.int .i64 x1, .int .i64 x2] 25 (0, 0)), (g11, .cells #[.int .i64 y1, .int .i64 y2] 25 (0, 0)), (g13, .cells #[.int .i64 y1, .int .i64 y2] 25 (0, 0)), (g19, .cells #[.int .i64 m1, .int .i64 m2] 25 (0, 0)), (g21, .cells #[.int .i64 m1, .int .i64 m2] 25 (0, 0)), (g33, .cells #[.int .i64 t1, .int .i64 t2] 25 (0, 0))] w14 := HO
                      obtain ⟨p33_0, p33_1, f33_0, f33_1⟩ := HO.c2 8 rfl
                      go_upto_region 30 with (first | (go_at_call 17; refine (K13 _).mono ?_; rintro e w15a ⟨rfl, hb⟩; replace HO := HO.call hb; clear hb p33_0 p33_1 f33_0 f33_1))
                      refine Own.gen (HO.alloc _) ?_
                      clear HO; intro w15 HO; generalize w15a.heap.size = g35 at HO ⊢; clear w15a
                      replace HO : Own w [(g5, .cells #[.int .i64 p, .int .i64 q] 25 (0, 0)), (g6, .cells #[.int .i64 r, .int .i64 s] 25 (0, 0)), (g7, .cells #[.int .i64 x1, .int .i64 x2] 25 (0, 0)), (g9, .cells #[.int .i64 x1, .int .i64 x2] 25 (0, 0)), (g11, .cells #[.int .i64 y1, .int .i64 y2] 25 (0, 0)), (g13, .cells #[.int .i64 y1, .int .i64 y2] 25 (0, 0)), (g19, .cells #[.int .i64 m1, .int .i64 m2] 25 (0, 0)), (g21, .cells #[.int .i64 m1, .int .i64 m2] 25 (0, 0)), (g33, .cells #[.int .i64 t1, .int .i64 t2] 25 (0, 0)), (g35, .cells #[.int .i64 u1, .int .i64 u2] 25 (0, 0))] w15 := HO
                      obtain ⟨p33_0, p33_1, f33_0, f33_1⟩ := HO.c2 8 rfl
                      go_upto_region 31 with (first | (go_at_call 18; refine (K14 _).mono ?_; rintro e w16a ⟨rfl, hb⟩; replace HO := HO.call hb; clear hb p33_0 p33_1 f33_0 f33_1))
                      refine Own.gen (HO.alloc _) ?_
                      clear HO; intro w16 HO; generalize w16a.heap.size = g37 at HO ⊢; clear w16a
                      replace HO : Own w [(g5, .cells #[.int .i64 p, .int .i64 q] 25 (0, 0)), (g6, .cells #[.int .i64 r, .int .i64 s] 25 (0, 0)), (g7, .cells #[.int .i64 x1, .int .i64 x2] 25 (0, 0)), (g9, .cells #[.int .i64 x1, .int .i64 x2] 25 (0, 0)), (g11, .cells #[.int .i64 y1, .int .i64 y2] 25 (0, 0)), (g13, .cells #[.int .i64 y1, .int .i64 y2] 25 (0, 0)), (g19, .cells #[.int .i64 m1, .int .i64 m2] 25 (0, 0)), (g21, .cells #[.int .i64 m1, .int .i64 m2] 25 (0, 0)), (g33, .cells #[.int .i64 t1, .int .i64 t2] 25 (0, 0)), (g35, .cells #[.int .i64 u1, .int .i64 u2] 25 (0, 0)), (g37, .cells #[.int .i64 u1, .int .i64 u2] 25 (0, 0))] w16 := HO
                      obtain ⟨p33_0, p33_1, f33_0, f33_1⟩ := HO.c2 8 rfl
                      go_upto_region 32 with (first | (go_at_call 19; refine (K15 _).mono ?_; rintro e w17a ⟨rfl, hb⟩; replace HO := HO.call hb; clear hb p33_0 p33_1 f33_0 f33_1))
                      refine Own.gen (HO.alloc _) ?_
                      clear HO; intro w17 HO; generalize w17a.heap.size = g39 at HO ⊢; clear w17a
                      replace HO : Own w [(g5, .cells #[.int .i64 p, .int .i64 q] 25 (0, 0)), (g6, .cells #[.int .i64 r, .int .i64 s] 25 (0, 0)), (g7, .cells #[.int .i64 x1, .int .i64 x2] 25 (0, 0)), (g9, .cells #[.int .i64 x1, .int .i64 x2] 25 (0, 0)), (g11, .cells #[.int .i64 y1, .int .i64 y2] 25 (0, 0)), (g13, .cells #[.int .i64 y1, .int .i64 y2] 25 (0, 0)), (g19, .cells #[.int .i64 m1, .int .i64 m2] 25 (0, 0)), (g21, .cells #[.int .i64 m1, .int .i64 m2] 25 (0, 0)), (g33, .cells #[.int .i64 t1, .int .i64 t2] 25 (0, 0)), (g35, .cells #[.int .i64 u1, .int .i64 u2] 25 (0, 0)), (g37, .cells #[.int .i64 u1, .int .i64 u2] 25 (0, 0)), (g39, .cells #[.int .i64 v1, .int .i64 v2] 25 (0, 0))] w17 := HO
                      obtain ⟨p33_0, p33_1, f33_0, f33_1⟩ := HO.c2 8 rfl
                      go_upto_region 33 with (first | (go_at_call 20; refine (K16 _).mono ?_; rintro e w18a ⟨rfl, hb⟩; replace HO := HO.call hb; clear hb p33_0 p33_1 f33_0 f33_1))
                      refine Own.gen (HO.alloc _) ?_
                      clear HO; intro w18 HO; generalize w18a.heap.size = g41 at HO ⊢; clear w18a
                      replace HO : Own w [(g5, .cells #[.int .i64 p, .int .i64 q] 25 (0, 0)), (g6, .cells #[.int .i64 r, .int .i64 s] 25 (0, 0)), (g7, .cells #[.int .i64 x1, .int .i64 x2] 25 (0, 0)), (g9, .cells #[.int .i64 x1, .int .i64 x2] 25 (0, 0)), (g11, .cells #[.int .i64 y1, .int .i64 y2] 25 (0, 0)), (g13, .cells #[.int .i64 y1, .int .i64 y2] 25 (0, 0)), (g19, .cells #[.int .i64 m1, .int .i64 m2] 25 (0, 0)), (g21, .cells #[.int .i64 m1, .int .i64 m2] 25 (0, 0)), (g33, .cells #[.int .i64 t1, .int .i64 t2] 25 (0, 0)), (g35, .cells #[.int .i64 u1, .int .i64 u2] 25 (0, 0)), (g37, .cells #[.int .i64 u1, .int .i64 u2] 25 (0, 0)), (g39, .cells #[.int .i64 v1, .int .i64 v2] 25 (0, 0)), (g41, .cells #[.int .i64 v1, .int .i64 v2] 25 (0, 0))] w18 := HO
                      go_upto_region 34 with (first | (go_at_call 21; refine (KD3 _ HO.below).mono ?_; rintro e w19a ⟨rfl, hb⟩; replace HO := HO.call hb; clear hb))
                      refine Own.gen HO ?_; clear HO; intro w19 HO; clear w19a
                      go_upto_region 35 with (first | (go_at_call 22; refine (K17 _).mono ?_; rintro e w20a ⟨rfl, hb⟩; replace HO := HO.call hb; clear hb))
                      refine Own.gen (HO.alloc _) ?_
                      clear HO; intro w20 HO; generalize w20a.heap.size = g45 at HO ⊢; clear w20a
                      replace HO : Own w [(g5, .cells #[.int .i64 p, .int .i64 q] 25 (0, 0)), (g6, .cells #[.int .i64 r, .int .i64 s] 25 (0, 0)), (g7, .cells #[.int .i64 x1, .int .i64 x2] 25 (0, 0)), (g9, .cells #[.int .i64 x1, .int .i64 x2] 25 (0, 0)), (g11, .cells #[.int .i64 y1, .int .i64 y2] 25 (0, 0)), (g13, .cells #[.int .i64 y1, .int .i64 y2] 25 (0, 0)), (g19, .cells #[.int .i64 m1, .int .i64 m2] 25 (0, 0)), (g21, .cells #[.int .i64 m1, .int .i64 m2] 25 (0, 0)), (g33, .cells #[.int .i64 t1, .int .i64 t2] 25 (0, 0)), (g35, .cells #[.int .i64 u1, .int .i64 u2] 25 (0, 0)), (g37, .cells #[.int .i64 u1, .int .i64 u2] 25 (0, 0)), (g39, .cells #[.int .i64 v1, .int .i64 v2] 25 (0, 0)), (g41, .cells #[.int .i64 v1, .int .i64 v2] 25 (0, 0)), (g45, .cells #[.int .i64 g1, .int .i64 g2] 25 (0, 0))] w20 := HO
                      go_upto_region 36 with (first | (go_at_call 23; refine (K18 _).mono ?_; rintro e w21a ⟨rfl, hb⟩; replace HO := HO.call hb; clear hb))
                      refine Own.gen (HO.alloc _) ?_
                      clear HO; intro w21 HO; generalize w21a.heap.size = g47 at HO ⊢; clear w21a
                      replace HO : Own w [(g5, .cells #[.int .i64 p, .int .i64 q] 25 (0, 0)), (g6, .cells #[.int .i64 r, .int .i64 s] 25 (0, 0)), (g7, .cells #[.int .i64 x1, .int .i64 x2] 25 (0, 0)), (g9, .cells #[.int .i64 x1, .int .i64 x2] 25 (0, 0)), (g11, .cells #[.int .i64 y1, .int .i64 y2] 25 (0, 0)), (g13, .cells #[.int .i64 y1, .int .i64 y2] 25 (0, 0)), (g19, .cells #[.int .i64 m1, .int .i64 m2] 25 (0, 0)), (g21, .cells #[.int .i64 m1, .int .i64 m2] 25 (0, 0)), (g33, .cells #[.int .i64 t1, .int .i64 t2] 25 (0, 0)), (g35, .cells #[.int .i64 u1, .int .i64 u2] 25 (0, 0)), (g37, .cells #[.int .i64 u1, .int .i64 u2] 25 (0, 0)), (g39, .cells #[.int .i64 v1, .int .i64 v2] 25 (0, 0)), (g41, .cells #[.int .i64 v1, .int .i64 v2] 25 (0, 0)), (g45, .cells #[.int .i64 g1, .int .i64 g2] 25 (0, 0)), (g47, .cells #[.int .i64 g1, .int .i64 g2] 25 (0, 0))] w21 := HO
                      clear KD2 KD3 K13 K14 K15 K16 K17 K18
                      obtain ⟨p35_0, p35_1, f35_0, f35_1⟩ := HO.c2 9 rfl
                      obtain ⟨p37_0, p37_1, f37_0, f37_1⟩ := HO.c2 10 rfl
                      obtain ⟨p39_0, p39_1, f39_0, f39_1⟩ := HO.c2 11 rfl
                      obtain ⟨p41_0, p41_1, f41_0, f41_1⟩ := HO.c2 12 rfl
                      obtain ⟨p45_0, p45_1, f45_0, f45_1⟩ := HO.c2 13 rfl
                      obtain ⟨p47_0, p47_1, f47_0, f47_1⟩ := HO.c2 14 rfl
                      go_upto_region 38 with (fail)
                      clear p35_0 p35_1 f35_0 f35_1 p37_0 p37_1 f37_0 f37_1 p39_0 p39_1 f39_0 f39_1 p41_0 p41_1 f41_0 f41_1 p45_0 p45_1 f45_0 f45_1 p47_0 p47_1 f47_0 f47_1
                      go_upto_if 339 with (fail)
                      go_cut [] (fun wc => Own w [(g5, .cells #[.int .i64 p, .int .i64 q] 25 (0, 0)), (g6, .cells #[.int .i64 r, .int .i64 s] 25 (0, 0)), (g7, .cells #[.int .i64 x1, .int .i64 x2] 25 (0, 0)), (g9, .cells #[.int .i64 x1, .int .i64 x2] 25 (0, 0)), (g11, .cells #[.int .i64 y1, .int .i64 y2] 25 (0, 0)), (g13, .cells #[.int .i64 y1, .int .i64 y2] 25 (0, 0)), (g19, .cells #[.int .i64 m1, .int .i64 m2] 25 (0, 0)), (g21, .cells #[.int .i64 m1, .int .i64 m2] 25 (0, 0)), (g33, .cells #[.int .i64 t1, .int .i64 t2] 25 (0, 0)), (g35, .cells #[.int .i64 u1, .int .i64 u2] 25 (0, 0)), (g37, .cells #[.int .i64 u1, .int .i64 u2] 25 (0, 0)), (g39, .cells #[.int .i64 v1, .int .i64 v2] 25 (0, 0)), (g41, .cells #[.int .i64 v1, .int .i64 v2] 25 (0, 0)), (g45, .cells #[.int .i64 g1, .int .i64 g2] 25 (0, 0)), (g47, .cells #[.int .i64 g1, .int .i64 g2] 25 (0, 0))] wc)
                      case first =>
                        as_aux_lemma =>
                          cases s9 with
                          | false =>
                            as_aux_lemma =>
                              go_wp2
                              go_meet
                              exact HO
                          | true =>
                            as_aux_lemma =>
                              obtain ⟨M1, M2, M3, M4⟩ := B6.out rfl
                              have L1 := fun W => impl_TimesTurn.calls k v1 v2 kk t1 t2 true W M1
                              clear M1
                              go_upto_region 39 with (fail)
                              obtain ⟨p39_0, p39_1, f39_0, f39_1⟩ := HO.c2 11 rfl
                              go_upto_region 40 with (first | (go_at_call 17; refine (L1 _).mono ?_; rintro e w22a ⟨rfl, hb⟩; replace HO := HO.call hb; clear hb p39_0 p39_1 f39_0 f39_1))
                              refine Own.gen (HO.alloc _) ?_
                              clear HO; intro w22 HO; generalize w22a.heap.size = g49 at HO ⊢; clear w22a
                              replace HO : Own w [(g5, .cells #[.int .i64 p, .int .i64 q] 25 (0, 0)), (g6, .cells #[.int .i64 r, .int .i64 s] 25 (0, 0)), (g7, .cells #[.int .i64 x1, .int .i64 x2] 25 (0, 0)), (g9, .cells #[.int .i64 x1, .int .i64 x2] 25 (0, 0)), (g11, .cells #[.int .i64 y1, .int .i64 y2] 25 (0, 0)), (g13, .cells #[.int .i64 y1, .int .i64 y2] 25 (0, 0)), (g19, .cells #[.int .i64 m1, .int .i64 m2] 25 (0, 0)), (g21, .cells #[.int .i64 m1, .int .i64 m2] 25 (0, 0)), (g33, .cells #[.int .i64 t1, .int .i64 t2] 25 (0, 0)), (g35, .cells #[.int .i64 u1, .int .i64 u2] 25 (0, 0)), (g37, .cells #[.int .i64 u1, .int .i64 u2] 25 (0, 0)), (g39, .cells #[.int .i64 v1, .int .i64 v2] 25 (0, 0)), (g41, .cells #[.int .i64 v1, .int .i64 v2] 25 (0, 0)), (g45, .cells #[.int .i64 g1, .int .i64 g2] 25 (0, 0)), (g47, .cells #[.int .i64 g1, .int .i64 g2] 25 (0, 0)), (g49, .cells #[.int .i64 t1, .int .i64 t2] 25 (0, 0))] w22 := HO
                              have N2 : decide (wrap64 (v1 * kk) ≥ wrap64 (v2 * kk)) = false := decide_eq_false (by omega); have N3 : (v2 == 0) = false := beq_eq_false_iff_ne.mpr M3
                              obtain ⟨p49_0, p49_1, f49_0, f49_1⟩ := HO.c2 15 rfl
                              obtain ⟨p33_0, p33_1, f33_0, f33_1⟩ := HO.c2 8 rfl
                              obtain ⟨p39_0, p39_1, f39_0, f39_1⟩ := HO.c2 11 rfl
                              go_wp2
                              go_meet
                              exact Own.less (HO)
                      case rest =>
                        as_aux_lemma =>
                          clear HO; have HO := hcut; clear hcut
                          revert HO; generalize wc = w22; intro HO
                          go_upto_region 42 with (fail)
                          cases s11 with
                          | false =>
                            as_aux_lemma =>
                              go_wp2; go_ret; exact ⟨rfl, HO.below⟩
                          | true =>
                            as_aux_lemma =>
                              obtain ⟨M1, M2, M3, M4, M5⟩ := B7.out rfl
                              have L1 := fun W => impl_IsTurn.calls k g1 g2 true W M1
                              clear M1
                              go_upto_region 43 with (fail)
                              have Q1 : ∀ d os, Calls Try.prog 14 #[.agg #[.int .i64 g1, .int .i64 g2]] (grow (redrawn w22 d) os) fun e w'' => e = .returned (.bool true) ∧ ∃ p : Regrown, w'' = grow (redrawn w22 p.d) p.os := fun d os => Calls.regrown_of (L1 _)
                              have N3a : ((Int.tmod dd g2) == 0) = true := beq_iff_eq.mpr M4
                              have N3b : ((Int.tmod dd g2) != 0) = false := by rw [bne, N3a]; rfl
                              have N3c : decide ((Int.tmod dd g2) = 0) = true := decide_eq_true M4
                              have N4a : ((Int.tmod (wrap64 (nn - wrap64 (g1 * wrap64 (Int.tdiv dd g2)))) dd) == 0) = true := beq_iff_eq.mpr M5
                              have N4b : ((Int.tmod (wrap64 (nn - wrap64 (g1 * wrap64 (Int.tdiv dd g2)))) dd) != 0) = false := by rw [bne, N4a]; rfl
                              have N4c : decide ((Int.tmod (wrap64 (nn - wrap64 (g1 * wrap64 (Int.tdiv dd g2)))) dd) = 0) = true := decide_eq_true M5
                              have M6 : Int.tmod (IntKind.i64.wrap (nn - IntKind.i64.wrap (g1 * IntKind.i64.wrap (Int.tdiv dd g2)))) dd = 0 := by simp only [i64_w]; exact M5
                              have N6a : ((Int.tmod (IntKind.i64.wrap (nn - IntKind.i64.wrap (g1 * IntKind.i64.wrap (Int.tdiv dd g2)))) dd) == 0) = true := beq_iff_eq.mpr M6; have N6b : ((Int.tmod (IntKind.i64.wrap (nn - IntKind.i64.wrap (g1 * IntKind.i64.wrap (Int.tdiv dd g2)))) dd) != 0) = false := by rw [bne, N6a]; rfl
                              have N1 : (g2 == 0) = false := beq_eq_false_iff_ne.mpr M2
                              have N2 : (dd == 0) = false := beq_eq_false_iff_ne.mpr M3
                              obtain ⟨p45_0, p45_1, f45_0, f45_1⟩ := HO.c2 13 rfl
                              have kp45_0 := cell_regrown p45_0; have kp45_1 := cell_regrown p45_1
                              try dsimp only [List.append]
                              refine wp_region_quiet_below (by kernel_rfl) (by kernel_rfl) ?_
                              repeat (first | go_big_quiet_step (first | with_reducible exact Q1 _ _) | quiet_step (first | with_reducible exact Q1 _ _))
                              refine wpQuiet_nil ?_
                              intro _ hw'; obtain ⟨⟨dq, osq⟩, hw''⟩ := hw'; subst hw''
                              replace HO := HO.call (below_regrown _ dq osq)
                              go_wp2; go_ret; exact ⟨rfl, HO.below⟩
end Go.Proofs.Ytjalknehgfomlaa.PFnTurnsAdded
