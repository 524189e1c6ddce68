/- A part of the walk of FnClocksAgree: which Lean function each Go function comes to, and that the machine's call does so. Written by a program of this repo (wip/gen/xprint.py). -/
import Derived.Test.YtejlandhfnnkiaaGreatDoorPFnClocksAgreex0
import Derived.Test.YtejlandhfnnkiaaGreatDoorPFnClocksAgreex7
import Derived.Test.YtejlandhfnnkiaaGreatDoorPFnClocksAgreex8
namespace Go.Proofs.YtejlandhfnnkiaaGreatDoor.PFnClocksAgree
open Go.RowKit Go.Proofs.YtejlandhfnnkiaaGreatDoorW.PrintWords Go.Proofs.YtejlandhfnnkiaaGreatDoorW.PrintLast Go.Proofs.YtejlandhfnnkiaaGreatDoorW.PrintMore
attribute [local go_sem] max2_int min2_int max_two min_two max_three min_three max_four min_four   -- for this text's walks alone
set_option linter.unusedVariables false
set_option linter.unusedSimpArgs false

/-! ### impl_first: function 36 -/
def impl_first.j0 : Nat → Int → Int → Bool → Int → Int → Int → Int → Int → Int → Int → Int → Option (Int × Int × Bool)
  | 0, _, _, _, _, _, _, _, _, _, _, _ => none
  | k + 1, x6, x7, x26, x244000, x244001, x244002, x244003, x245000, x245001, x245002, x245003 => if x26 = true then (some (0, 0, false)) else ((impl_Turn_minus.f k x244000 x244001 x245000 x245001).bind fun bt250 => (if x6 > 0 then ((impl_Turn_mirror.f k bt250.1 bt250.2).bind fun bt253 => (if bt253.1 = 0 then ((impl_spanOf.f k (wrap64 (x7)) (wrap64 ((mx x6 (wrap64 (-x6)))))).bind fun bt255 => (some (bt255.1, bt255.2.1, bt255.2.2))) else ((impl_spanOf.f k (wrap64 (bt253.1 * x7)) (wrap64 (bt253.2 * (mx x6 (wrap64 (-x6)))))).bind fun bt258 => (some (bt258.1, bt258.2.1, bt258.2.2))))) else (if bt250.1 = 0 then ((impl_spanOf.f k (wrap64 (x7)) (wrap64 ((mx x6 (wrap64 (-x6)))))).bind fun bt261 => (some (bt261.1, bt261.2.1, bt261.2.2))) else ((impl_spanOf.f k (wrap64 (bt250.1 * x7)) (wrap64 (bt250.2 * (mx x6 (wrap64 (-x6)))))).bind fun bt264 => (some (bt264.1, bt264.2.1, bt264.2.2))))))
def impl_first.f (k : Nat) (a0_0 : Int) (a0_1 : Int) (a0_2 : Int) (a0_3 : Int) (a1_0 : Int) (a1_1 : Int) (a1_2 : Int) (a1_3 : Int) : Option (Int × Int × Bool) := (impl_gain.f a0_0 a0_1 a0_2 a0_3 a1_0 a1_1 a1_2 a1_3).bind fun bt246 => ((impl_IsClock.f k a0_0 a0_1 a0_2 a0_3).bind fun t248 => (if t248 = true then ((impl_IsClock.f k a1_0 a1_1 a1_2 a1_3).bind fun t249 => (if t249 = true then (impl_first.j0 k bt246.1 bt246.2 (bt246.1 == 0) a0_0 a0_1 a0_2 a0_3 a1_0 a1_1 a1_2 a1_3) else (impl_first.j0 k bt246.1 bt246.2 true a0_0 a0_1 a0_2 a0_3 a1_0 a1_1 a1_2 a1_3))) else (impl_first.j0 k bt246.1 bt246.2 true a0_0 a0_1 a0_2 a0_3 a1_0 a1_1 a1_2 a1_3)))
theorem impl_first.mono_l : ∀ k, (∀ y0 y1 y2 y3 y4 y5 y6 y7 y8 y9 y10, LeO (impl_first.j0 k y0 y1 y2 y3 y4 y5 y6 y7 y8 y9 y10) (impl_first.j0 (k + 1) y0 y1 y2 y3 y4 y5 y6 y7 y8 y9 y10))
  | 0 => fun _ _ _ _ _ _ _ _ _ _ _ r h => by simp [impl_first.j0] at h
  | k + 1 => by
    have ih0 := impl_first.mono_l k
    intro y0 y1 y2 y3 y4 y5 y6 y7 y8 y9 y10
    unfold impl_first.j0
    repeat' first
    | (with_reducible exact ih0 _ _ _ _ _ _ _ _ _ _ _)
    | (with_reducible exact impl_IsClock.mono _ _ _ _ _)
    | (with_reducible exact impl_Turn_minus.mono _ _ _ _ _)
    | (with_reducible exact impl_Turn_mirror.mono _ _ _)
    | (with_reducible exact impl_spanOf.mono _ _ _)
    | (with_reducible exact LeO.refl _)
    | (with_reducible exact LeO.none _)
    | (with_reducible refine LeO.ite ?_ ?_)
    | (with_reducible refine LeO.bind ?_ (fun _ => ?_))
    | exact ih0 _ _ _ _ _ _ _ _ _ _ _
    | exact impl_IsClock.mono _ _ _ _ _
    | exact impl_Turn_minus.mono _ _ _ _ _
    | exact impl_Turn_mirror.mono _ _ _
    | exact impl_spanOf.mono _ _ _
    | exact LeO.none _
    | refine LeO.ite ?_ ?_
    | refine LeO.bind ?_ (fun _ => ?_)
theorem impl_first.mono : ∀ a0 a1 a2 a3 a4 a5 a6 a7 k, LeO (impl_first.f k a0 a1 a2 a3 a4 a5 a6 a7) (impl_first.f (k + 1) a0 a1 a2 a3 a4 a5 a6 a7) := by
  intro a0 a1 a2 a3 a4 a5 a6 a7 k
  have ih0 := impl_first.mono_l k
  unfold impl_first.f
  repeat' first
      | (with_reducible exact ih0 _ _ _ _ _ _ _ _ _ _ _)
      | (with_reducible exact impl_IsClock.mono _ _ _ _ _)
      | (with_reducible exact impl_Turn_minus.mono _ _ _ _ _)
      | (with_reducible exact impl_Turn_mirror.mono _ _ _)
      | (with_reducible exact impl_spanOf.mono _ _ _)
      | (with_reducible exact LeO.refl _)
      | (with_reducible exact LeO.none _)
      | (with_reducible refine LeO.ite ?_ ?_)
      | (with_reducible refine LeO.bind ?_ (fun _ => ?_))
      | exact ih0 _ _ _ _ _ _ _ _ _ _ _
      | exact impl_IsClock.mono _ _ _ _ _
      | exact impl_Turn_minus.mono _ _ _ _ _
      | exact impl_Turn_mirror.mono _ _ _
      | exact impl_spanOf.mono _ _ _
      | exact LeO.none _
      | refine LeO.ite ?_ ?_
      | refine LeO.bind ?_ (fun _ => ?_)
set_option maxHeartbeats 8000000 in
set_option maxRecDepth 100000 in
theorem impl_first.calls (k : Nat) (a0_0 : Int) (a0_1 : Int) (a0_2 : Int) (a0_3 : Int) (a1_0 : Int) (a1_1 : Int) (a1_2 : Int) (a1_3 : Int) (r1 : Int) (r2 : Int) (r3 : Bool) (w : World) (h : impl_first.f k a0_0 a0_1 a0_2 a0_3 a1_0 a1_1 a1_2 a1_3 = some (r1, r2, r3)) :
    Calls Tryz.prog 36 #[.agg #[.int .i64 a0_0, .int .i64 a0_1, .int .i64 a0_2, .int .i64 a0_3], .agg #[.int .i64 a1_0, .int .i64 a1_1, .int .i64 a1_2, .int .i64 a1_3]] w fun e w' => e = .returned (.tuple #[.agg #[.int .i64 r1, .int .i64 r2], .bool r3]) ∧ Below w.heap.size w w' := by
  have hu27 := Tryz.underlying27
  have hu30 := Tryz.underlying30
  have hu25 := Tryz.underlying25
  have HB := Aside0.mk (Below.refl w.heap.size w)
  have H : ((impl_gain.f a0_0 a0_1 a0_2 a0_3 a1_0 a1_1 a1_2 a1_3).bind fun bt246 => ((impl_IsClock.f k a0_0 a0_1 a0_2 a0_3).bind fun t248 => (if t248 = true then ((impl_IsClock.f k a1_0 a1_1 a1_2 a1_3).bind fun t249 => (if t249 = true then (impl_first.j0 k bt246.1 bt246.2 (bt246.1 == 0) a0_0 a0_1 a0_2 a0_3 a1_0 a1_1 a1_2 a1_3) else (impl_first.j0 k bt246.1 bt246.2 true a0_0 a0_1 a0_2 a0_3 a1_0 a1_1 a1_2 a1_3))) else (impl_first.j0 k bt246.1 bt246.2 true a0_0 a0_1 a0_2 a0_3 a1_0 a1_1 a1_2 a1_3)))) = some (r1, r2, r3) := h
  clear h
  replace H := Option.bind_eq_some_iff.mp H
  obtain ⟨⟨t246, t247⟩, A30, H⟩ := H
  (try dsimp only at H)
  have A3 := Aside0.mk A30
  clear A30
  have HC4 := Aside0.mk H
  clear H
  go_enter Tryz.func36, Tryz.ntmps36
  go_upto_region 2 with (first | ((with_reducible refine gate_dst (N := 2) rfl ?_); refine be #[.int .i64 a0_0, .int .i64 a0_1, .int .i64 a0_2, .int .i64 a0_3] 27 ?_; intro gb243 hg w5 hbox hb; have BK243 := Aside0.mk hbox; have GW243 := zs HB hg; have GE243 := zs HB hg; replace HB := zB HB hb; clear hb hbox hg) | ((with_reducible refine gate_dst (N := 3) rfl ?_); refine be #[.int .i64 a1_0, .int .i64 a1_1, .int .i64 a1_2, .int .i64 a1_3] 27 ?_; intro gb244 hg w6 hbox hb; have BK244 := Aside0.mk hbox; have GW244 := zs HB hg; have GE244 := zs HB hg; have NB243_244 := zn BK243 hg; have NB244_243 := zm BK243 hg; replace BK243 := zb BK243 hb; replace HB := zB HB hb; clear hb hbox hg) | ((with_reducible refine gate_dst (N := 4) rfl ?_); refine be #[.int .i64 0, .int .i64 0] 30 ?_; intro gb245 hg w7 hbox hb; have BK245 := Aside0.mk hbox; have GW245 := zs HB hg; have GE245 := zs HB hg; have NB243_245 := zn BK243 hg; have NB245_243 := zm BK243 hg; have NB244_245 := zn BK244 hg; have NB245_244 := zm BK244 hg; replace BK243 := zb BK243 hb; replace BK244 := zb BK244 hb; replace HB := zB HB hb; clear hb hbox hg; have hnb8 := NB243_244.1; have hnc8 := NB244_243.1; have hnb9 := NB243_245.1; have hnc9 := NB245_243.1; obtain ⟨hcz10_0, hcz10_1, hcz10_2, hcz10_3, hfz10_0, hfz10_1, hfz10_2, hfz10_3⟩ := zc4 BK243; have hnb11 := NB244_245.1; have hnc11 := NB245_244.1; obtain ⟨hcz12_0, hcz12_1, hcz12_2, hcz12_3, hfz12_0, hfz12_1, hfz12_2, hfz12_3⟩ := zc4 BK244) | ((with_reducible refine gate_callee (f := 75) rfl ?_); refine gl (some 12) Tryz.func75 #[.agg #[.int .i64 a0_0, .int .i64 a0_1, .int .i64 a0_2, .int .i64 a0_3], .agg #[.int .i64 a1_0, .int .i64 a1_1, .int .i64 a1_2, .int .i64 a1_3]] ?_; (with_reducible refine (impl_gain.calls a0_0 a0_1 a0_2 a0_3 a1_0 a1_1 a1_2 a1_3 t246 t247 _ A3.1).mono ?_); rintro e w13 ⟨rfl, hb⟩; refine ⟨_, rfl, ?_⟩; replace BK243 := zb BK243 hb; replace BK244 := zb BK244 hb; replace BK245 := zb BK245 hb; replace HB := zB HB hb; clear hb))
  (try simp only [Act.put, List.setIfInBounds_toArray, List.set_cons_zero, List.set_cons_succ])
  go_cut [26] (fun v26 wc => ∃ (kq : Nat) (x26_3 : Bool), v26 = .bool x26_3 ∧ Aside0 (impl_first.j0 kq t246 t247 x26_3 a0_0 a0_1 a0_2 a0_3 a1_0 a1_1 a1_2 a1_3 = some (r1, r2, r3)) ∧ Aside0 (kq ≤ k) ∧ Aside0 (wc.heap[gb243]? = some (.cells #[.int .i64 a0_0, .int .i64 a0_1, .int .i64 a0_2, .int .i64 a0_3] 27 (0, 0))) ∧ Aside0 (wc.heap[gb244]? = some (.cells #[.int .i64 a1_0, .int .i64 a1_1, .int .i64 a1_2, .int .i64 a1_3] 27 (0, 0))) ∧ Aside0 (wc.heap[gb245]? = some (.cells #[.int .i64 0, .int .i64 0] 30 (0, 0))) ∧ Aside0 (Below w.heap.size w wc))
  case first =>
    have H := HC4.1
    clear HC4
    replace H := Option.bind_eq_some_iff.mp H
    obtain ⟨t248, A140, H⟩ := H
    (try dsimp only at H)
    have A14 := Aside0.mk A140
    clear A140
    by_cases c15 : t248 = true
    · subst c15
      rw [if_pos rfl] at H
      replace H := Option.bind_eq_some_iff.mp H
      obtain ⟨t249, A160, H⟩ := H
      (try dsimp only at H)
      have A16 := Aside0.mk A160
      clear A160
      by_cases c17 : t249 = true
      · subst c17
        rw [if_pos rfl] at H
        have H' := Aside0.mk H
        clear H
        have hnb18 := NB243_244.1
        have hnc18 := NB244_243.1
        have hnb19 := NB243_245.1
        have hnc19 := NB245_243.1
        obtain ⟨hcz20_0, hcz20_1, hcz20_2, hcz20_3, hfz20_0, hfz20_1, hfz20_2, hfz20_3⟩ := zc4 BK243
        go_wp2_with (first | ((with_reducible refine gate_callee (f := 14) rfl ?_); refine gl (some 16) Tryz.func14 #[.agg #[.int .i64 a0_0, .int .i64 a0_1, .int .i64 a0_2, .int .i64 a0_3]] ?_; (with_reducible refine (impl_IsClock.calls k a0_0 a0_1 a0_2 a0_3 true _ A14.1).mono ?_); rintro e w21 ⟨rfl, hb⟩; refine ⟨_, rfl, ?_⟩; replace BK243 := zb BK243 hb; replace BK244 := zb BK244 hb; replace BK245 := zb BK245 hb; replace HB := zB HB hb; clear hb; have hnb22 := NB244_245.1; have hnc22 := NB245_244.1; obtain ⟨hcz23_0, hcz23_1, hcz23_2, hcz23_3, hfz23_0, hfz23_1, hfz23_2, hfz23_3⟩ := zc4 BK244) | (go_at_call 14; (with_reducible refine (impl_IsClock.calls k a1_0 a1_1 a1_2 a1_3 true _ A16.1).mono ?_); rintro e w24 ⟨rfl, hb⟩; replace BK243 := zb BK243 hb; replace BK244 := zb BK244 hb; replace BK245 := zb BK245 hb; replace HB := zB HB hb; clear hb))
        go_meet
        case rel => exact ⟨_, ((t246 == 0)), ew, H', le_, ⟨bk BK243⟩, ⟨bk BK244⟩, ⟨bk BK245⟩, ⟨bq HB⟩⟩
      replace c17 := Bool.eq_false_iff.mpr c17
      subst c17
      rw [if_neg (show ¬ (false = true) by decide)] at H
      have H' := Aside0.mk H
      clear H
      have hnb25 := NB243_244.1
      have hnc25 := NB244_243.1
      have hnb26 := NB243_245.1
      have hnc26 := NB245_243.1
      obtain ⟨hcz27_0, hcz27_1, hcz27_2, hcz27_3, hfz27_0, hfz27_1, hfz27_2, hfz27_3⟩ := zc4 BK243
      go_wp2_with (first | ((with_reducible refine gate_callee (f := 14) rfl ?_); refine gl (some 16) Tryz.func14 #[.agg #[.int .i64 a0_0, .int .i64 a0_1, .int .i64 a0_2, .int .i64 a0_3]] ?_; (with_reducible refine (impl_IsClock.calls k a0_0 a0_1 a0_2 a0_3 true _ A14.1).mono ?_); rintro e w28 ⟨rfl, hb⟩; refine ⟨_, rfl, ?_⟩; replace BK243 := zb BK243 hb; replace BK244 := zb BK244 hb; replace BK245 := zb BK245 hb; replace HB := zB HB hb; clear hb; have hnb29 := NB244_245.1; have hnc29 := NB245_244.1; obtain ⟨hcz30_0, hcz30_1, hcz30_2, hcz30_3, hfz30_0, hfz30_1, hfz30_2, hfz30_3⟩ := zc4 BK244) | (go_at_call 14; (with_reducible refine (impl_IsClock.calls k a1_0 a1_1 a1_2 a1_3 false _ A16.1).mono ?_); rintro e w31 ⟨rfl, hb⟩; replace BK243 := zb BK243 hb; replace BK244 := zb BK244 hb; replace BK245 := zb BK245 hb; replace HB := zB HB hb; clear hb))
      go_meet
      case rel => exact ⟨_, (true), ew, H', le_, ⟨bk BK243⟩, ⟨bk BK244⟩, ⟨bk BK245⟩, ⟨bq HB⟩⟩
    replace c15 := Bool.eq_false_iff.mpr c15
    subst c15
    rw [if_neg (show ¬ (false = true) by decide)] at H
    have H' := Aside0.mk H
    clear H
    have hnb32 := NB243_244.1
    have hnc32 := NB244_243.1
    have hnb33 := NB243_245.1
    have hnc33 := NB245_243.1
    obtain ⟨hcz34_0, hcz34_1, hcz34_2, hcz34_3, hfz34_0, hfz34_1, hfz34_2, hfz34_3⟩ := zc4 BK243
    go_wp2_with (first | ((with_reducible refine gate_callee (f := 14) rfl ?_); refine gl (some 16) Tryz.func14 #[.agg #[.int .i64 a0_0, .int .i64 a0_1, .int .i64 a0_2, .int .i64 a0_3]] ?_; (with_reducible refine (impl_IsClock.calls k a0_0 a0_1 a0_2 a0_3 false _ A14.1).mono ?_); rintro e w35 ⟨rfl, hb⟩; refine ⟨_, rfl, ?_⟩; replace BK243 := zb BK243 hb; replace BK244 := zb BK244 hb; replace BK245 := zb BK245 hb; replace HB := zB HB hb; clear hb))
    go_meet
    case rel => exact ⟨_, (true), ew, H', le_, ⟨bk BK243⟩, ⟨bk BK244⟩, ⟨bk BK245⟩, ⟨bq HB⟩⟩
  clear HC4
  try clear c1
  try clear c2
  try clear p2
  try clear c3
  try clear c7
  try clear c8
  try clear c9
  try clear c11
  try clear c14
  try clear c15
  try clear c17
  try clear c18
  try clear c19
  try clear c22
  try clear c25
  try clear c26
  try clear c29
  try clear c32
  try clear c33
  try clear hcz10_0
  try clear hcz10_1
  try clear hcz10_2
  try clear hcz10_3
  try clear hcz12_0
  try clear hcz12_1
  try clear hcz12_2
  try clear hcz12_3
  try clear hcz20_0
  try clear hcz20_1
  try clear hcz20_2
  try clear hcz20_3
  try clear hcz23_0
  try clear hcz23_1
  try clear hcz23_2
  try clear hcz23_3
  try clear hcz27_0
  try clear hcz27_1
  try clear hcz27_2
  try clear hcz27_3
  try clear hcz30_0
  try clear hcz30_1
  try clear hcz30_2
  try clear hcz30_3
  try clear hcz34_0
  try clear hcz34_1
  try clear hcz34_2
  try clear hcz34_3
  try clear hfz10_0
  try clear hfz10_1
  try clear hfz10_2
  try clear hfz10_3
  try clear hfz12_0
  try clear hfz12_1
  try clear hfz12_2
  try clear hfz12_3
  try clear hfz20_0
  try clear hfz20_1
  try clear hfz20_2
  try clear hfz20_3
  try clear hfz23_0
  try clear hfz23_1
  try clear hfz23_2
  try clear hfz23_3
  try clear hfz27_0
  try clear hfz27_1
  try clear hfz27_2
  try clear hfz27_3
  try clear hfz30_0
  try clear hfz30_1
  try clear hfz30_2
  try clear hfz30_3
  try clear hfz34_0
  try clear hfz34_1
  try clear hfz34_2
  try clear hfz34_3
  obtain ⟨kq, x26_3, rfl, HA, HJ3, BK243, BK244, BK245, HB⟩ := hcut
  cases kq with
  | zero => exact absurd HA.1 (by simp [impl_first.j0])
  | succ kj3 =>
    have H := HA.1
    clear HA
    simp only [impl_first.j0] at H
    by_cases c36 : x26_3 = true
    · subst c36
      rw [if_pos rfl] at H
      simp only [Option.some.injEq, Prod.mk.injEq] at H
      obtain ⟨rfl, rfl, rfl⟩ := H
      have hnb37 := NB245_243.1
      have hnc37 := NB243_245.1
      have hnb38 := NB245_244.1
      have hnc38 := NB244_245.1
      obtain ⟨hcz39_0, hcz39_1, hfz39_0, hfz39_1⟩ := zc2 BK245
      go_wp2
      refine bodyPost_ret (results_ct rfl _ _ gb245 30 #[.int .i64 0, .int .i64 0] (0, 0) _ rfl (bk BK245) Tryz.underlying30 rfl (by kernel_rfl)) rfl ?_
      exact ⟨er, bq HB⟩
    replace c36 := Bool.eq_false_iff.mpr c36
    subst c36
    rw [if_neg (show ¬ (false = true) by decide)] at H
    replace H := Option.bind_eq_some_iff.mp H
    obtain ⟨⟨t250, t251⟩, A400, H⟩ := H
    (try dsimp only at H)
    have A40 := Aside0.mk A400
    clear A400
    by_cases c41 : t246 > 0
    · rw [if_pos c41] at H
      have c41b0 : decide (0 < t246) = true := decide_eq_true c41
      clear c41
      replace H := Option.bind_eq_some_iff.mp H
      obtain ⟨⟨t253, t254⟩, A420, H⟩ := H
      (try dsimp only at H)
      have A42 := Aside0.mk A420
      clear A420
      by_cases c43 : t253 = 0
      · rw [if_pos c43] at H
        have c43b0 : (t253 == 0) = true := beq_iff_eq.mpr c43
        have c43b1 : (t253 != 0) = false := bne_eq_false_iff_eq.mpr c43
        clear c43
        obtain ⟨ji44, hji44⟩ : ∃ j_ : Int, (mx t246 (wrap64 (-t246))) = j_ := ⟨_, rfl⟩
        replace H : ((impl_spanOf.f kj3 (wrap64 (t247)) (wrap64 ((ji44)))).bind fun bt255 => (some (bt255.1, bt255.2.1, bt255.2.2))) = some (r1, r2, r3) := by first | (rw [hji44] at H; exact H) | (simp only [hji44] at H ⊢; exact H)
        (try rw [hji44] at A40)
        (try rw [hji44] at A42)
        have hji44_ : (if t246 < (wrap64 (-t246)) then (wrap64 (-t246)) else t246) = ji44 := hji44
        replace H := Option.bind_eq_some_iff.mp H
        obtain ⟨⟨t255, t256, t257⟩, A450, H⟩ := H
        (try dsimp only at H)
        have A45 := Aside0.mk A450
        clear A450
        simp only [Option.some.injEq, Prod.mk.injEq] at H
        obtain ⟨rfl, rfl, rfl⟩ := H
        have hnb46 := NB243_244.1
        have hnc46 := NB244_243.1
        have hnb47 := NB243_245.1
        have hnc47 := NB245_243.1
        obtain ⟨hcz48_0, hcz48_1, hcz48_2, hcz48_3, hfz48_0, hfz48_1, hfz48_2, hfz48_3⟩ := zc4 BK243
        have hnb49 := NB244_245.1
        have hnc49 := NB245_244.1
        obtain ⟨hcz50_0, hcz50_1, hcz50_2, hcz50_3, hfz50_0, hfz50_1, hfz50_2, hfz50_3⟩ := zc4 BK244
        go_wp2_with (first | ((with_reducible refine gate_callee (f := 49) rfl ?_); refine gl (some 32) Tryz.func49 #[.agg #[.int .i64 a0_0, .int .i64 a0_1], .agg #[.int .i64 a1_0, .int .i64 a1_1]] ?_; (with_reducible refine (impl_Turn_minus.calls kj3 a0_0 a0_1 a1_0 a1_1 t250 t251 _ A40.1).mono ?_); rintro e w51 ⟨rfl, hb⟩; refine ⟨_, rfl, ?_⟩; replace BK243 := zb BK243 hb; replace BK244 := zb BK244 hb; replace BK245 := zb BK245 hb; replace HB := zB HB hb; clear hb) | ((with_reducible refine gate_dst (N := 8) rfl ?_); refine be #[.int .i64 0, .int .i64 0] 25 ?_; intro gb252 hg w52 hbox hb; have BK252 := Aside0.mk hbox; have GW252 := zs HB hg; have GE252 := zs HB hg; have NB243_252 := zn BK243 hg; have NB252_243 := zm BK243 hg; have NB244_252 := zn BK244 hg; have NB252_244 := zm BK244 hg; have NB245_252 := zn BK245 hg; have NB252_245 := zm BK245 hg; replace BK243 := zb BK243 hb; replace BK244 := zb BK244 hb; replace BK245 := zb BK245 hb; replace HB := zB HB hb; clear hb hbox hg; have hnb53 := NB252_243.1; have hnc53 := NB243_252.1; have hnb54 := NB252_244.1; have hnc54 := NB244_252.1; have hnb55 := NB252_245.1; have hnc55 := NB245_252.1; obtain ⟨hcz56_0, hcz56_1, hfz56_0, hfz56_1⟩ := zc2 BK252) | ((with_reducible refine gate_callee (f := 76) rfl ?_); refine gl (some 36) Tryz.func76 #[.agg #[.int .i64 t250, .int .i64 t251]] ?_; (with_reducible refine (impl_Turn_mirror.calls kj3 t250 t251 t253 t254 _ A42.1).mono ?_); rintro e w57 ⟨rfl, hb⟩; refine ⟨_, rfl, ?_⟩; replace BK243 := zy (o' := .cells #[.int .i64 a0_0, .int .i64 a0_1, .int .i64 a0_2, .int .i64 a0_3] 27 (0, 0)) BK243 hb; replace BK244 := zy (o' := .cells #[.int .i64 a1_0, .int .i64 a1_1, .int .i64 a1_2, .int .i64 a1_3] 27 (0, 0)) BK244 hb; replace BK245 := zy (o' := .cells #[.int .i64 0, .int .i64 0] 30 (0, 0)) BK245 hb; replace BK252 := zy (o' := .cells #[.int .i64 t250, .int .i64 t251] 25 (0, 0)) BK252 hb; replace HB := zB HB hb; clear hb; obtain ⟨hcz58_0, hcz58_1, hfz58_0, hfz58_1⟩ := zc2 BK252; have hsz58_1 : (((w57.setCell ⟨gb252, 0, none⟩ (.int .i64 t253)).setCell ⟨gb252, 1, none⟩ (.int .i64 t254)).setCell ⟨gb252, 0, none⟩ (.int .i64 1)).cell? ⟨gb252, 1, none⟩ = some (.int .i64 t254) := (World.cell?_setCell_other _ _ _ _ (by simp)).trans (World.cell?_setCell_same _ _ _ ((World.cell?_setCell_other _ _ _ _ (by simp)).trans hcz58_1))) | ((with_reducible refine gate_callee (f := 57) rfl ?_); refine goesL_ (some 52) rfl rfl Tryz.func57 (by kernel_rfl) rfl #[.int .i64 (wrap64 (t247)), .int .i64 (wrap64 ((ji44)))] rfl (by (try simp only [List.map_toArray, List.map_cons, List.map_nil]); first | done | (simp only [hji44]; rfl) | rfl | (simp only [List.length_drop, List.length_take]; rfl)) ?_; (with_reducible refine (impl_spanOf.calls kj3 (wrap64 (t247)) (wrap64 ((ji44))) t255 t256 t257 _ A45.1).mono ?_); rintro e w59 ⟨rfl, hb⟩; refine ⟨_, rfl, ?_⟩; replace BK243 := zy (o' := .cells #[.int .i64 a0_0, .int .i64 a0_1, .int .i64 a0_2, .int .i64 a0_3] 27 (0, 0)) BK243 hb; replace BK244 := zy (o' := .cells #[.int .i64 a1_0, .int .i64 a1_1, .int .i64 a1_2, .int .i64 a1_3] 27 (0, 0)) BK244 hb; replace BK245 := zy (o' := .cells #[.int .i64 0, .int .i64 0] 30 (0, 0)) BK245 hb; replace BK252 := zy (o' := .cells #[.int .i64 1, .int .i64 1] 25 (0, 0)) BK252 hb; replace HB := zB HB hb; clear hb; obtain ⟨hcz60_0, hcz60_1, hfz60_0, hfz60_1⟩ := zc2 BK245))
        refine bodyPost_ret (results_ct rfl _ _ gb245 30 #[.int .i64 t255, .int .i64 t256] (0, 0) _ rfl (bk BK245) Tryz.underlying30 rfl (by kernel_rfl)) rfl ?_
        exact ⟨by first | rfl | (simp [errW_none, errW_some] <;> rfl) | (simp only [← hji44]; first | rfl | (simp [errW_none, errW_some] <;> rfl)) | (simp [*, errW_none, errW_some] <;> rfl), bq HB⟩
      rw [if_neg c43] at H
      have c43b0 : (t253 == 0) = false := beq_eq_false_iff_ne.mpr c43
      have c43b1 : (t253 != 0) = true := bne_iff_ne.mpr c43
      obtain ⟨ji61, hji61⟩ : ∃ j_ : Int, (mx t246 (wrap64 (-t246))) = j_ := ⟨_, rfl⟩
      replace H : ((impl_spanOf.f kj3 (wrap64 (t253 * t247)) (wrap64 (t254 * (ji61)))).bind fun bt258 => (some (bt258.1, bt258.2.1, bt258.2.2))) = some (r1, r2, r3) := by first | (rw [hji61] at H; exact H) | (simp only [hji61] at H ⊢; exact H)
      (try rw [hji61] at A40)
      (try rw [hji61] at A42)
      have hji61_ : (if t246 < (wrap64 (-t246)) then (wrap64 (-t246)) else t246) = ji61 := hji61
      replace H := Option.bind_eq_some_iff.mp H
      obtain ⟨⟨t258, t259, t260⟩, A620, H⟩ := H
      (try dsimp only at H)
      have A62 := Aside0.mk A620
      clear A620
      simp only [Option.some.injEq, Prod.mk.injEq] at H
      obtain ⟨rfl, rfl, rfl⟩ := H
      have hnb63 := NB243_244.1
      have hnc63 := NB244_243.1
      have hnb64 := NB243_245.1
      have hnc64 := NB245_243.1
      obtain ⟨hcz65_0, hcz65_1, hcz65_2, hcz65_3, hfz65_0, hfz65_1, hfz65_2, hfz65_3⟩ := zc4 BK243
      have hnb66 := NB244_245.1
      have hnc66 := NB245_244.1
      obtain ⟨hcz67_0, hcz67_1, hcz67_2, hcz67_3, hfz67_0, hfz67_1, hfz67_2, hfz67_3⟩ := zc4 BK244
      go_wp2_with (first | ((with_reducible refine gate_callee (f := 49) rfl ?_); refine gl (some 32) Tryz.func49 #[.agg #[.int .i64 a0_0, .int .i64 a0_1], .agg #[.int .i64 a1_0, .int .i64 a1_1]] ?_; (with_reducible refine (impl_Turn_minus.calls kj3 a0_0 a0_1 a1_0 a1_1 t250 t251 _ A40.1).mono ?_); rintro e w68 ⟨rfl, hb⟩; refine ⟨_, rfl, ?_⟩; replace BK243 := zb BK243 hb; replace BK244 := zb BK244 hb; replace BK245 := zb BK245 hb; replace HB := zB HB hb; clear hb) | ((with_reducible refine gate_dst (N := 8) rfl ?_); refine be #[.int .i64 0, .int .i64 0] 25 ?_; intro gb252 hg w69 hbox hb; have BK252 := Aside0.mk hbox; have GW252 := zs HB hg; have GE252 := zs HB hg; have NB243_252 := zn BK243 hg; have NB252_243 := zm BK243 hg; have NB244_252 := zn BK244 hg; have NB252_244 := zm BK244 hg; have NB245_252 := zn BK245 hg; have NB252_245 := zm BK245 hg; replace BK243 := zb BK243 hb; replace BK244 := zb BK244 hb; replace BK245 := zb BK245 hb; replace HB := zB HB hb; clear hb hbox hg; have hnb70 := NB252_243.1; have hnc70 := NB243_252.1; have hnb71 := NB252_244.1; have hnc71 := NB244_252.1; have hnb72 := NB252_245.1; have hnc72 := NB245_252.1; obtain ⟨hcz73_0, hcz73_1, hfz73_0, hfz73_1⟩ := zc2 BK252) | ((with_reducible refine gate_callee (f := 76) rfl ?_); refine gl (some 36) Tryz.func76 #[.agg #[.int .i64 t250, .int .i64 t251]] ?_; (with_reducible refine (impl_Turn_mirror.calls kj3 t250 t251 t253 t254 _ A42.1).mono ?_); rintro e w74 ⟨rfl, hb⟩; refine ⟨_, rfl, ?_⟩; replace BK243 := zy (o' := .cells #[.int .i64 a0_0, .int .i64 a0_1, .int .i64 a0_2, .int .i64 a0_3] 27 (0, 0)) BK243 hb; replace BK244 := zy (o' := .cells #[.int .i64 a1_0, .int .i64 a1_1, .int .i64 a1_2, .int .i64 a1_3] 27 (0, 0)) BK244 hb; replace BK245 := zy (o' := .cells #[.int .i64 0, .int .i64 0] 30 (0, 0)) BK245 hb; replace BK252 := zy (o' := .cells #[.int .i64 t250, .int .i64 t251] 25 (0, 0)) BK252 hb; replace HB := zB HB hb; clear hb; obtain ⟨hcz75_0, hcz75_1, hfz75_0, hfz75_1⟩ := zc2 BK252) | ((with_reducible refine gate_callee (f := 57) rfl ?_); refine goesL_ (some 52) rfl rfl Tryz.func57 (by kernel_rfl) rfl #[.int .i64 (wrap64 (t253 * t247)), .int .i64 (wrap64 (t254 * (ji61)))] rfl (by (try simp only [List.map_toArray, List.map_cons, List.map_nil]); first | done | (simp only [hji61]; rfl) | rfl | (simp only [List.length_drop, List.length_take]; rfl)) ?_; (with_reducible refine (impl_spanOf.calls kj3 (wrap64 (t253 * t247)) (wrap64 (t254 * (ji61))) t258 t259 t260 _ A62.1).mono ?_); rintro e w76 ⟨rfl, hb⟩; refine ⟨_, rfl, ?_⟩; replace BK243 := zy (o' := .cells #[.int .i64 a0_0, .int .i64 a0_1, .int .i64 a0_2, .int .i64 a0_3] 27 (0, 0)) BK243 hb; replace BK244 := zy (o' := .cells #[.int .i64 a1_0, .int .i64 a1_1, .int .i64 a1_2, .int .i64 a1_3] 27 (0, 0)) BK244 hb; replace BK245 := zy (o' := .cells #[.int .i64 0, .int .i64 0] 30 (0, 0)) BK245 hb; replace BK252 := zy (o' := .cells #[.int .i64 t253, .int .i64 t254] 25 (0, 0)) BK252 hb; replace HB := zB HB hb; clear hb; obtain ⟨hcz77_0, hcz77_1, hfz77_0, hfz77_1⟩ := zc2 BK245))
      refine bodyPost_ret (results_ct rfl _ _ gb245 30 #[.int .i64 t258, .int .i64 t259] (0, 0) _ rfl (bk BK245) Tryz.underlying30 rfl (by kernel_rfl)) rfl ?_
      exact ⟨by first | rfl | (simp [errW_none, errW_some] <;> rfl) | (simp only [← hji61]; first | rfl | (simp [errW_none, errW_some] <;> rfl)) | (simp [*, errW_none, errW_some] <;> rfl), bq HB⟩
    rw [if_neg c41] at H
    have c41b0 : decide (0 < t246) = false := decide_eq_false c41
    clear c41
    by_cases c78 : t250 = 0
    · rw [if_pos c78] at H
      have c78b0 : (t250 == 0) = true := beq_iff_eq.mpr c78
      have c78b1 : (t250 != 0) = false := bne_eq_false_iff_eq.mpr c78
      clear c78
      obtain ⟨ji79, hji79⟩ : ∃ j_ : Int, (mx t246 (wrap64 (-t246))) = j_ := ⟨_, rfl⟩
      replace H : ((impl_spanOf.f kj3 (wrap64 (t247)) (wrap64 ((ji79)))).bind fun bt261 => (some (bt261.1, bt261.2.1, bt261.2.2))) = some (r1, r2, r3) := by first | (rw [hji79] at H; exact H) | (simp only [hji79] at H ⊢; exact H)
      (try rw [hji79] at A40)
      have hji79_ : (if t246 < (wrap64 (-t246)) then (wrap64 (-t246)) else t246) = ji79 := hji79
      replace H := Option.bind_eq_some_iff.mp H
      obtain ⟨⟨t261, t262, t263⟩, A800, H⟩ := H
      (try dsimp only at H)
      have A80 := Aside0.mk A800
      clear A800
      simp only [Option.some.injEq, Prod.mk.injEq] at H
      obtain ⟨rfl, rfl, rfl⟩ := H
      have hnb81 := NB243_244.1
      have hnc81 := NB244_243.1
      have hnb82 := NB243_245.1
      have hnc82 := NB245_243.1
      obtain ⟨hcz83_0, hcz83_1, hcz83_2, hcz83_3, hfz83_0, hfz83_1, hfz83_2, hfz83_3⟩ := zc4 BK243
      have hnb84 := NB244_245.1
      have hnc84 := NB245_244.1
      obtain ⟨hcz85_0, hcz85_1, hcz85_2, hcz85_3, hfz85_0, hfz85_1, hfz85_2, hfz85_3⟩ := zc4 BK244
      go_wp2_with (first | ((with_reducible refine gate_callee (f := 49) rfl ?_); refine gl (some 32) Tryz.func49 #[.agg #[.int .i64 a0_0, .int .i64 a0_1], .agg #[.int .i64 a1_0, .int .i64 a1_1]] ?_; (with_reducible refine (impl_Turn_minus.calls kj3 a0_0 a0_1 a1_0 a1_1 t250 t251 _ A40.1).mono ?_); rintro e w86 ⟨rfl, hb⟩; refine ⟨_, rfl, ?_⟩; replace BK243 := zb BK243 hb; replace BK244 := zb BK244 hb; replace BK245 := zb BK245 hb; replace HB := zB HB hb; clear hb) | ((with_reducible refine gate_dst (N := 8) rfl ?_); refine be #[.int .i64 0, .int .i64 0] 25 ?_; intro gb252 hg w87 hbox hb; have BK252 := Aside0.mk hbox; have GW252 := zs HB hg; have GE252 := zs HB hg; have NB243_252 := zn BK243 hg; have NB252_243 := zm BK243 hg; have NB244_252 := zn BK244 hg; have NB252_244 := zm BK244 hg; have NB245_252 := zn BK245 hg; have NB252_245 := zm BK245 hg; replace BK243 := zb BK243 hb; replace BK244 := zb BK244 hb; replace BK245 := zb BK245 hb; replace HB := zB HB hb; clear hb hbox hg; have hnb88 := NB252_243.1; have hnc88 := NB243_252.1; have hnb89 := NB252_244.1; have hnc89 := NB244_252.1; have hnb90 := NB252_245.1; have hnc90 := NB245_252.1; obtain ⟨hcz91_0, hcz91_1, hfz91_0, hfz91_1⟩ := zc2 BK252; have hsz91_1 : (((w87.setCell ⟨gb252, 0, none⟩ (.int .i64 t250)).setCell ⟨gb252, 1, none⟩ (.int .i64 t251)).setCell ⟨gb252, 0, none⟩ (.int .i64 1)).cell? ⟨gb252, 1, none⟩ = some (.int .i64 t251) := (World.cell?_setCell_other _ _ _ _ (by simp)).trans (World.cell?_setCell_same _ _ _ ((World.cell?_setCell_other _ _ _ _ (by simp)).trans hcz91_1))) | ((with_reducible refine gate_callee (f := 57) rfl ?_); refine goesL_ (some 52) rfl rfl Tryz.func57 (by kernel_rfl) rfl #[.int .i64 (wrap64 (t247)), .int .i64 (wrap64 ((ji79)))] rfl (by (try simp only [List.map_toArray, List.map_cons, List.map_nil]); first | done | (simp only [hji79]; rfl) | rfl | (simp only [List.length_drop, List.length_take]; rfl)) ?_; (with_reducible refine (impl_spanOf.calls kj3 (wrap64 (t247)) (wrap64 ((ji79))) t261 t262 t263 _ A80.1).mono ?_); rintro e w92 ⟨rfl, hb⟩; refine ⟨_, rfl, ?_⟩; replace BK243 := zy (o' := .cells #[.int .i64 a0_0, .int .i64 a0_1, .int .i64 a0_2, .int .i64 a0_3] 27 (0, 0)) BK243 hb; replace BK244 := zy (o' := .cells #[.int .i64 a1_0, .int .i64 a1_1, .int .i64 a1_2, .int .i64 a1_3] 27 (0, 0)) BK244 hb; replace BK245 := zy (o' := .cells #[.int .i64 0, .int .i64 0] 30 (0, 0)) BK245 hb; replace BK252 := zy (o' := .cells #[.int .i64 1, .int .i64 1] 25 (0, 0)) BK252 hb; replace HB := zB HB hb; clear hb; obtain ⟨hcz93_0, hcz93_1, hfz93_0, hfz93_1⟩ := zc2 BK245))
      refine bodyPost_ret (results_ct rfl _ _ gb245 30 #[.int .i64 t261, .int .i64 t262] (0, 0) _ rfl (bk BK245) Tryz.underlying30 rfl (by kernel_rfl)) rfl ?_
      exact ⟨by first | rfl | (simp [errW_none, errW_some] <;> rfl) | (simp only [← hji79]; first | rfl | (simp [errW_none, errW_some] <;> rfl)) | (simp [*, errW_none, errW_some] <;> rfl), bq HB⟩
    rw [if_neg c78] at H
    have c78b0 : (t250 == 0) = false := beq_eq_false_iff_ne.mpr c78
    have c78b1 : (t250 != 0) = true := bne_iff_ne.mpr c78
    obtain ⟨ji94, hji94⟩ : ∃ j_ : Int, (mx t246 (wrap64 (-t246))) = j_ := ⟨_, rfl⟩
    replace H : ((impl_spanOf.f kj3 (wrap64 (t250 * t247)) (wrap64 (t251 * (ji94)))).bind fun bt264 => (some (bt264.1, bt264.2.1, bt264.2.2))) = some (r1, r2, r3) := by first | (rw [hji94] at H; exact H) | (simp only [hji94] at H ⊢; exact H)
    (try rw [hji94] at A40)
    have hji94_ : (if t246 < (wrap64 (-t246)) then (wrap64 (-t246)) else t246) = ji94 := hji94
    replace H := Option.bind_eq_some_iff.mp H
    obtain ⟨⟨t264, t265, t266⟩, A950, H⟩ := H
    (try dsimp only at H)
    have A95 := Aside0.mk A950
    clear A950
    simp only [Option.some.injEq, Prod.mk.injEq] at H
    obtain ⟨rfl, rfl, rfl⟩ := H
    have hnb96 := NB243_244.1
    have hnc96 := NB244_243.1
    have hnb97 := NB243_245.1
    have hnc97 := NB245_243.1
    obtain ⟨hcz98_0, hcz98_1, hcz98_2, hcz98_3, hfz98_0, hfz98_1, hfz98_2, hfz98_3⟩ := zc4 BK243
    have hnb99 := NB244_245.1
    have hnc99 := NB245_244.1
    obtain ⟨hcz100_0, hcz100_1, hcz100_2, hcz100_3, hfz100_0, hfz100_1, hfz100_2, hfz100_3⟩ := zc4 BK244
    go_wp2_with (first | ((with_reducible refine gate_callee (f := 49) rfl ?_); refine gl (some 32) Tryz.func49 #[.agg #[.int .i64 a0_0, .int .i64 a0_1], .agg #[.int .i64 a1_0, .int .i64 a1_1]] ?_; (with_reducible refine (impl_Turn_minus.calls kj3 a0_0 a0_1 a1_0 a1_1 t250 t251 _ A40.1).mono ?_); rintro e w101 ⟨rfl, hb⟩; refine ⟨_, rfl, ?_⟩; replace BK243 := zb BK243 hb; replace BK244 := zb BK244 hb; replace BK245 := zb BK245 hb; replace HB := zB HB hb; clear hb) | ((with_reducible refine gate_dst (N := 8) rfl ?_); refine be #[.int .i64 0, .int .i64 0] 25 ?_; intro gb252 hg w102 hbox hb; have BK252 := Aside0.mk hbox; have GW252 := zs HB hg; have GE252 := zs HB hg; have NB243_252 := zn BK243 hg; have NB252_243 := zm BK243 hg; have NB244_252 := zn BK244 hg; have NB252_244 := zm BK244 hg; have NB245_252 := zn BK245 hg; have NB252_245 := zm BK245 hg; replace BK243 := zb BK243 hb; replace BK244 := zb BK244 hb; replace BK245 := zb BK245 hb; replace HB := zB HB hb; clear hb hbox hg; have hnb103 := NB252_243.1; have hnc103 := NB243_252.1; have hnb104 := NB252_244.1; have hnc104 := NB244_252.1; have hnb105 := NB252_245.1; have hnc105 := NB245_252.1; obtain ⟨hcz106_0, hcz106_1, hfz106_0, hfz106_1⟩ := zc2 BK252) | ((with_reducible refine gate_callee (f := 57) rfl ?_); refine goesL_ (some 52) rfl rfl Tryz.func57 (by kernel_rfl) rfl #[.int .i64 (wrap64 (t250 * t247)), .int .i64 (wrap64 (t251 * (ji94)))] rfl (by (try simp only [List.map_toArray, List.map_cons, List.map_nil]); first | done | (simp only [hji94]; rfl) | rfl | (simp only [List.length_drop, List.length_take]; rfl)) ?_; (with_reducible refine (impl_spanOf.calls kj3 (wrap64 (t250 * t247)) (wrap64 (t251 * (ji94))) t264 t265 t266 _ A95.1).mono ?_); rintro e w107 ⟨rfl, hb⟩; refine ⟨_, rfl, ?_⟩; replace BK243 := zy (o' := .cells #[.int .i64 a0_0, .int .i64 a0_1, .int .i64 a0_2, .int .i64 a0_3] 27 (0, 0)) BK243 hb; replace BK244 := zy (o' := .cells #[.int .i64 a1_0, .int .i64 a1_1, .int .i64 a1_2, .int .i64 a1_3] 27 (0, 0)) BK244 hb; replace BK245 := zy (o' := .cells #[.int .i64 0, .int .i64 0] 30 (0, 0)) BK245 hb; replace BK252 := zy (o' := .cells #[.int .i64 t250, .int .i64 t251] 25 (0, 0)) BK252 hb; replace HB := zB HB hb; clear hb; obtain ⟨hcz108_0, hcz108_1, hfz108_0, hfz108_1⟩ := zc2 BK245))
    refine bodyPost_ret (results_ct rfl _ _ gb245 30 #[.int .i64 t264, .int .i64 t265] (0, 0) _ rfl (bk BK245) Tryz.underlying30 rfl (by kernel_rfl)) rfl ?_
    exact ⟨by first | rfl | (simp [errW_none, errW_some] <;> rfl) | (simp only [← hji94]; first | rfl | (simp [errW_none, errW_some] <;> rfl)) | (simp [*, errW_none, errW_some] <;> rfl), bq HB⟩

/-! ### impl_FirstAgree: function 6 -/
def impl_FirstAgree.f (k : Nat) (a0_0 : Int) (a0_1 : Int) (a0_2 : Int) (a0_3 : Int) (a1_0 : Int) (a1_1 : Int) (a1_2 : Int) (a1_3 : Int) : Option (Int × Int × Bool) := (impl_first.f k a0_0 a0_1 a0_2 a0_3 a1_0 a1_1 a1_2 a1_3).bind fun bt270 => (some (bt270.1, bt270.2.1, bt270.2.2))
theorem impl_FirstAgree.mono : ∀ a0 a1 a2 a3 a4 a5 a6 a7 k, LeO (impl_FirstAgree.f k a0 a1 a2 a3 a4 a5 a6 a7) (impl_FirstAgree.f (k + 1) a0 a1 a2 a3 a4 a5 a6 a7) := by
  intro a0 a1 a2 a3 a4 a5 a6 a7 k
  unfold impl_FirstAgree.f
  repeat' first
      | (with_reducible exact impl_first.mono _ _ _ _ _ _ _ _ _)
      | (with_reducible exact LeO.refl _)
      | (with_reducible exact LeO.none _)
      | (with_reducible refine LeO.ite ?_ ?_)
      | (with_reducible refine LeO.bind ?_ (fun _ => ?_))
      | exact impl_first.mono _ _ _ _ _ _ _ _ _
      | exact LeO.none _
      | refine LeO.ite ?_ ?_
      | refine LeO.bind ?_ (fun _ => ?_)
set_option maxHeartbeats 8000000 in
set_option maxRecDepth 100000 in
theorem impl_FirstAgree.calls (k : Nat) (a0_0 : Int) (a0_1 : Int) (a0_2 : Int) (a0_3 : Int) (a1_0 : Int) (a1_1 : Int) (a1_2 : Int) (a1_3 : Int) (r1 : Int) (r2 : Int) (r3 : Bool) (w : World) (h : impl_FirstAgree.f k a0_0 a0_1 a0_2 a0_3 a1_0 a1_1 a1_2 a1_3 = some (r1, r2, r3)) :
    Calls Tryz.prog 6 #[.agg #[.int .i64 a0_0, .int .i64 a0_1, .int .i64 a0_2, .int .i64 a0_3], .agg #[.int .i64 a1_0, .int .i64 a1_1, .int .i64 a1_2, .int .i64 a1_3]] w fun e w' => e = .returned (.tuple #[.agg #[.int .i64 r1, .int .i64 r2], .bool r3]) ∧ Below w.heap.size w w' := by
  have hu27 := Tryz.underlying27
  have hu30 := Tryz.underlying30
  have HB := Aside0.mk (Below.refl w.heap.size w)
  have H : ((impl_first.f k a0_0 a0_1 a0_2 a0_3 a1_0 a1_1 a1_2 a1_3).bind fun bt270 => (some (bt270.1, bt270.2.1, bt270.2.2))) = some (r1, r2, r3) := h
  clear h
  replace H := Option.bind_eq_some_iff.mp H
  obtain ⟨⟨t270, t271, t272⟩, A30, H⟩ := H
  (try dsimp only at H)
  have A3 := Aside0.mk A30
  clear A30
  simp only [Option.some.injEq, Prod.mk.injEq] at H
  obtain ⟨rfl, rfl, rfl⟩ := H
  go_enter Tryz.func6, Tryz.ntmps6
  go_wp2_with (first | ((with_reducible refine gate_dst (N := 2) rfl ?_); refine be #[.int .i64 a0_0, .int .i64 a0_1, .int .i64 a0_2, .int .i64 a0_3] 27 ?_; intro gb267 hg w4 hbox hb; have BK267 := Aside0.mk hbox; have GW267 := zs HB hg; have GE267 := zs HB hg; replace HB := zB HB hb; clear hb hbox hg) | ((with_reducible refine gate_dst (N := 3) rfl ?_); refine be #[.int .i64 a1_0, .int .i64 a1_1, .int .i64 a1_2, .int .i64 a1_3] 27 ?_; intro gb268 hg w5 hbox hb; have BK268 := Aside0.mk hbox; have GW268 := zs HB hg; have GE268 := zs HB hg; have NB267_268 := zn BK267 hg; have NB268_267 := zm BK267 hg; replace BK267 := zb BK267 hb; replace HB := zB HB hb; clear hb hbox hg) | ((with_reducible refine gate_dst (N := 4) rfl ?_); refine be #[.int .i64 0, .int .i64 0] 30 ?_; intro gb269 hg w6 hbox hb; have BK269 := Aside0.mk hbox; have GW269 := zs HB hg; have GE269 := zs HB hg; have NB267_269 := zn BK267 hg; have NB269_267 := zm BK267 hg; have NB268_269 := zn BK268 hg; have NB269_268 := zm BK268 hg; replace BK267 := zb BK267 hb; replace BK268 := zb BK268 hb; replace HB := zB HB hb; clear hb hbox hg; have hnb7 := NB267_268.1; have hnc7 := NB268_267.1; have hnb8 := NB267_269.1; have hnc8 := NB269_267.1; obtain ⟨hcz9_0, hcz9_1, hcz9_2, hcz9_3, hfz9_0, hfz9_1, hfz9_2, hfz9_3⟩ := zc4 BK267; have hnb10 := NB268_269.1; have hnc10 := NB269_268.1; obtain ⟨hcz11_0, hcz11_1, hcz11_2, hcz11_3, hfz11_0, hfz11_1, hfz11_2, hfz11_3⟩ := zc4 BK268) | ((with_reducible refine gate_callee (f := 36) rfl ?_); refine gl (some 8) Tryz.func36 #[.agg #[.int .i64 a0_0, .int .i64 a0_1, .int .i64 a0_2, .int .i64 a0_3], .agg #[.int .i64 a1_0, .int .i64 a1_1, .int .i64 a1_2, .int .i64 a1_3]] ?_; (with_reducible refine (impl_first.calls k a0_0 a0_1 a0_2 a0_3 a1_0 a1_1 a1_2 a1_3 t270 t271 t272 _ A3.1).mono ?_); rintro e w12 ⟨rfl, hb⟩; refine ⟨_, rfl, ?_⟩; replace BK267 := zb BK267 hb; replace BK268 := zb BK268 hb; replace BK269 := zb BK269 hb; replace HB := zB HB hb; clear hb; obtain ⟨hcz13_0, hcz13_1, hfz13_0, hfz13_1⟩ := zc2 BK269))
  refine bodyPost_ret (results_ct rfl _ _ gb269 30 #[.int .i64 t270, .int .i64 t271] (0, 0) _ rfl (bk BK269) Tryz.underlying30 rfl (by kernel_rfl)) rfl ?_
  exact ⟨er, bq HB⟩

end Go.Proofs.YtejlandhfnnkiaaGreatDoor.PFnClocksAgree
