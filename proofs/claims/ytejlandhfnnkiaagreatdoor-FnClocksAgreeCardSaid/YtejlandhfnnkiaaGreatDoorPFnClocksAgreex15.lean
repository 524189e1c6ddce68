/- A part of the walk of FnClocksAgree: which Lean function each Go function comes to, and that the machine's call does so. Written by a program of this repo (wip/gen/xprint.py). -/
import Derived.Test.YtejlandhfnnkiaaGreatDoorPFnClocksAgreex0
import Derived.Test.YtejlandhfnnkiaaGreatDoorPFnClocksAgreex7
import Derived.Test.YtejlandhfnnkiaaGreatDoorPFnClocksAgreex10
import Derived.Test.YtejlandhfnnkiaaGreatDoorPFnClocksAgreex11
import Derived.Test.YtejlandhfnnkiaaGreatDoorPFnClocksAgreex12
namespace Go.Proofs.YtejlandhfnnkiaaGreatDoor.PFnClocksAgree
open Go.RowKit Go.Proofs.YtejlandhfnnkiaaGreatDoorW.PrintWords Go.Proofs.YtejlandhfnnkiaaGreatDoorW.PrintLast Go.Proofs.YtejlandhfnnkiaaGreatDoorW.PrintMore
attribute [local go_sem] max2_int min2_int max_two min_two max_three min_three max_four min_four   -- for this text's walks alone
set_option linter.unusedVariables false
set_option linter.unusedSimpArgs false

/-! ### spec_AgreeEvery: function 9 -/
def spec_AgreeEvery.j0 : Nat → Bool → Int → Int → Int → Int → Int → Int → Int → Int → Option (Int × Int × Bool)
  | 0, _, _, _, _, _, _, _, _, _ => none
  | k + 1, x16, x344000, x344001, x344002, x344003, x345000, x345001, x345002, x345003 => if x16 = true then (some (0, 0, false)) else ((spec_drApart.f k x344000 x344001 x344002 x344003 x345000 x345001 x345002 x345003).bind fun bt348 => (if bt348.2.2.1 = 0 then (some (0, 0, false)) else ((spec_l1Abs.f bt348.2.2.1).bind fun t353 => ((spec_drMake.f k bt348.2.2.2 t353).bind fun bt354 => (some (bt354.1, bt354.2.1, bt354.2.2))))))
def spec_AgreeEvery.f (k : Nat) (a0_0 : Int) (a0_1 : Int) (a0_2 : Int) (a0_3 : Int) (a1_0 : Int) (a1_1 : Int) (a1_2 : Int) (a1_3 : Int) : Option (Int × Int × Bool) := (spec_drClock.f k a0_0 a0_1 a0_2 a0_3).bind fun t346 => (if t346 = true then ((spec_drClock.f k a1_0 a1_1 a1_2 a1_3).bind fun t347 => (spec_AgreeEvery.j0 k (!t347) a0_0 a0_1 a0_2 a0_3 a1_0 a1_1 a1_2 a1_3)) else (spec_AgreeEvery.j0 k true a0_0 a0_1 a0_2 a0_3 a1_0 a1_1 a1_2 a1_3))
theorem spec_AgreeEvery.mono_l : ∀ k, (∀ y0 y1 y2 y3 y4 y5 y6 y7 y8, LeO (spec_AgreeEvery.j0 k y0 y1 y2 y3 y4 y5 y6 y7 y8) (spec_AgreeEvery.j0 (k + 1) y0 y1 y2 y3 y4 y5 y6 y7 y8))
  | 0 => fun _ _ _ _ _ _ _ _ _ r h => by simp [spec_AgreeEvery.j0] at h
  | k + 1 => by
    have ih0 := spec_AgreeEvery.mono_l k
    intro y0 y1 y2 y3 y4 y5 y6 y7 y8
    unfold spec_AgreeEvery.j0
    repeat' first
    | (with_reducible exact ih0 _ _ _ _ _ _ _ _ _)
    | (with_reducible exact spec_drApart.mono _ _ _ _ _ _ _ _ _)
    | (with_reducible exact spec_drClock.mono _ _ _ _ _)
    | (with_reducible exact spec_drMake.mono _ _ _)
    | (with_reducible exact LeO.refl _)
    | (with_reducible exact LeO.none _)
    | (with_reducible refine LeO.ite ?_ ?_)
    | (with_reducible refine LeO.bind ?_ (fun _ => ?_))
    | exact ih0 _ _ _ _ _ _ _ _ _
    | exact spec_drApart.mono _ _ _ _ _ _ _ _ _
    | exact spec_drClock.mono _ _ _ _ _
    | exact spec_drMake.mono _ _ _
    | exact LeO.none _
    | refine LeO.ite ?_ ?_
    | refine LeO.bind ?_ (fun _ => ?_)
theorem spec_AgreeEvery.mono : ∀ a0 a1 a2 a3 a4 a5 a6 a7 k, LeO (spec_AgreeEvery.f k a0 a1 a2 a3 a4 a5 a6 a7) (spec_AgreeEvery.f (k + 1) a0 a1 a2 a3 a4 a5 a6 a7) := by
  intro a0 a1 a2 a3 a4 a5 a6 a7 k
  have ih0 := spec_AgreeEvery.mono_l k
  unfold spec_AgreeEvery.f
  repeat' first
      | (with_reducible exact ih0 _ _ _ _ _ _ _ _ _)
      | (with_reducible exact spec_drApart.mono _ _ _ _ _ _ _ _ _)
      | (with_reducible exact spec_drClock.mono _ _ _ _ _)
      | (with_reducible exact spec_drMake.mono _ _ _)
      | (with_reducible exact LeO.refl _)
      | (with_reducible exact LeO.none _)
      | (with_reducible refine LeO.ite ?_ ?_)
      | (with_reducible refine LeO.bind ?_ (fun _ => ?_))
      | exact ih0 _ _ _ _ _ _ _ _ _
      | exact spec_drApart.mono _ _ _ _ _ _ _ _ _
      | exact spec_drClock.mono _ _ _ _ _
      | exact spec_drMake.mono _ _ _
      | exact LeO.none _
      | refine LeO.ite ?_ ?_
      | refine LeO.bind ?_ (fun _ => ?_)
set_option maxHeartbeats 8000000 in
set_option maxRecDepth 100000 in
theorem spec_AgreeEvery.calls (k : Nat) (a0_0 : Int) (a0_1 : Int) (a0_2 : Int) (a0_3 : Int) (a1_0 : Int) (a1_1 : Int) (a1_2 : Int) (a1_3 : Int) (r1 : Int) (r2 : Int) (r3 : Bool) (w : World) (h : spec_AgreeEvery.f k a0_0 a0_1 a0_2 a0_3 a1_0 a1_1 a1_2 a1_3 = some (r1, r2, r3)) :
    Calls Tryz.prog 9 #[.agg #[.int .i64 a0_0, .int .i64 a0_1, .int .i64 a0_2, .int .i64 a0_3], .agg #[.int .i64 a1_0, .int .i64 a1_1, .int .i64 a1_2, .int .i64 a1_3]] w fun e w' => e = .returned (.tuple #[.agg #[.int .i64 r1, .int .i64 r2], .bool r3]) ∧ Below w.heap.size w w' := by
  have hu27 := Tryz.underlying27
  have hu30 := Tryz.underlying30
  have hu25 := Tryz.underlying25
  have HB := Aside0.mk (Below.refl w.heap.size w)
  have H : ((spec_drClock.f k a0_0 a0_1 a0_2 a0_3).bind fun t346 => (if t346 = true then ((spec_drClock.f k a1_0 a1_1 a1_2 a1_3).bind fun t347 => (spec_AgreeEvery.j0 k (!t347) a0_0 a0_1 a0_2 a0_3 a1_0 a1_1 a1_2 a1_3)) else (spec_AgreeEvery.j0 k true a0_0 a0_1 a0_2 a0_3 a1_0 a1_1 a1_2 a1_3))) = some (r1, r2, r3) := h
  clear h
  have HC3 := Aside0.mk H
  clear H
  go_enter Tryz.func9, Tryz.ntmps9
  go_upto_region 1 with (first | ((with_reducible refine gate_dst (N := 2) rfl ?_); refine be #[.int .i64 a0_0, .int .i64 a0_1, .int .i64 a0_2, .int .i64 a0_3] 27 ?_; intro gb343 hg w4 hbox hb; have BK343 := Aside0.mk hbox; have GW343 := zs HB hg; have GE343 := zs HB hg; replace HB := zB HB hb; clear hb hbox hg) | ((with_reducible refine gate_dst (N := 3) rfl ?_); refine be #[.int .i64 a1_0, .int .i64 a1_1, .int .i64 a1_2, .int .i64 a1_3] 27 ?_; intro gb344 hg w5 hbox hb; have BK344 := Aside0.mk hbox; have GW344 := zs HB hg; have GE344 := zs HB hg; have NB343_344 := zn BK343 hg; have NB344_343 := zm BK343 hg; replace BK343 := zb BK343 hb; replace HB := zB HB hb; clear hb hbox hg) | ((with_reducible refine gate_dst (N := 4) rfl ?_); refine be #[.int .i64 0, .int .i64 0] 30 ?_; intro gb345 hg w6 hbox hb; have BK345 := Aside0.mk hbox; have GW345 := zs HB hg; have GE345 := zs HB hg; have NB343_345 := zn BK343 hg; have NB345_343 := zm BK343 hg; have NB344_345 := zn BK344 hg; have NB345_344 := zm BK344 hg; replace BK343 := zb BK343 hb; replace BK344 := zb BK344 hb; replace HB := zB HB hb; clear hb hbox hg))
  (try simp only [Act.put, List.setIfInBounds_toArray, List.set_cons_zero, List.set_cons_succ])
  go_cut [16] (fun v16 wc => ∃ (kq : Nat) (x16_2 : Bool), v16 = .bool x16_2 ∧ Aside0 (spec_AgreeEvery.j0 kq x16_2 a0_0 a0_1 a0_2 a0_3 a1_0 a1_1 a1_2 a1_3 = some (r1, r2, r3)) ∧ Aside0 (kq ≤ k) ∧ Aside0 (wc.heap[gb343]? = some (.cells #[.int .i64 a0_0, .int .i64 a0_1, .int .i64 a0_2, .int .i64 a0_3] 27 (0, 0))) ∧ Aside0 (wc.heap[gb344]? = some (.cells #[.int .i64 a1_0, .int .i64 a1_1, .int .i64 a1_2, .int .i64 a1_3] 27 (0, 0))) ∧ Aside0 (wc.heap[gb345]? = some (.cells #[.int .i64 0, .int .i64 0] 30 (0, 0))) ∧ Aside0 (Below w.heap.size w wc))
  case first =>
    have H := HC3.1
    clear HC3
    replace H := Option.bind_eq_some_iff.mp H
    obtain ⟨t346, A70, H⟩ := H
    (try dsimp only at H)
    have A7 := Aside0.mk A70
    clear A70
    by_cases c8 : t346 = true
    · subst c8
      rw [if_pos rfl] at H
      replace H := Option.bind_eq_some_iff.mp H
      obtain ⟨t347, A90, H⟩ := H
      (try dsimp only at H)
      have A9 := Aside0.mk A90
      clear A90
      have H' := Aside0.mk H
      clear H
      have hnb10 := NB343_344.1
      have hnc10 := NB344_343.1
      have hnb11 := NB343_345.1
      have hnc11 := NB345_343.1
      obtain ⟨hcz12_0, hcz12_1, hcz12_2, hcz12_3, hfz12_0, hfz12_1, hfz12_2, hfz12_3⟩ := zc4 BK343
      go_wp2_with (first | ((with_reducible refine gate_callee (f := 37) rfl ?_); refine gl (some 10) Tryz.func37 #[.agg #[.int .i64 a0_0, .int .i64 a0_1, .int .i64 a0_2, .int .i64 a0_3]] ?_; (with_reducible refine (spec_drClock.calls k a0_0 a0_1 a0_2 a0_3 true _ A7.1).mono ?_); rintro e w13 ⟨rfl, hb⟩; refine ⟨_, rfl, ?_⟩; replace BK343 := zb BK343 hb; replace BK344 := zb BK344 hb; replace BK345 := zb BK345 hb; replace HB := zB HB hb; clear hb; have hnb14 := NB344_345.1; have hnc14 := NB345_344.1; obtain ⟨hcz15_0, hcz15_1, hcz15_2, hcz15_3, hfz15_0, hfz15_1, hfz15_2, hfz15_3⟩ := zc4 BK344) | (go_at_call 37; (with_reducible refine (spec_drClock.calls k a1_0 a1_1 a1_2 a1_3 t347 _ A9.1).mono ?_); rintro e w16 ⟨rfl, hb⟩; replace BK343 := zb BK343 hb; replace BK344 := zb BK344 hb; replace BK345 := zb BK345 hb; replace HB := zB HB hb; clear hb))
      go_meet
      case rel => exact ⟨_, (!t347), ew, H', le_, ⟨bk BK343⟩, ⟨bk BK344⟩, ⟨bk BK345⟩, ⟨bq HB⟩⟩
    replace c8 := Bool.eq_false_iff.mpr c8
    subst c8
    rw [if_neg (show ¬ (false = true) by decide)] at H
    have H' := Aside0.mk H
    clear H
    have hnb17 := NB343_344.1
    have hnc17 := NB344_343.1
    have hnb18 := NB343_345.1
    have hnc18 := NB345_343.1
    obtain ⟨hcz19_0, hcz19_1, hcz19_2, hcz19_3, hfz19_0, hfz19_1, hfz19_2, hfz19_3⟩ := zc4 BK343
    go_wp2_with (first | ((with_reducible refine gate_callee (f := 37) rfl ?_); refine gl (some 10) Tryz.func37 #[.agg #[.int .i64 a0_0, .int .i64 a0_1, .int .i64 a0_2, .int .i64 a0_3]] ?_; (with_reducible refine (spec_drClock.calls k a0_0 a0_1 a0_2 a0_3 false _ A7.1).mono ?_); rintro e w20 ⟨rfl, hb⟩; refine ⟨_, rfl, ?_⟩; replace BK343 := zb BK343 hb; replace BK344 := zb BK344 hb; replace BK345 := zb BK345 hb; replace HB := zB HB hb; clear hb))
    go_meet
    case rel => exact ⟨_, (true), ew, H', le_, ⟨bk BK343⟩, ⟨bk BK344⟩, ⟨bk BK345⟩, ⟨bq HB⟩⟩
  clear HC3
  try clear c1
  try clear p2
  try clear c3
  try clear c8
  try clear c9
  try clear c10
  try clear c11
  try clear c14
  try clear c17
  try clear c18
  try clear hcz12_0
  try clear hcz12_1
  try clear hcz12_2
  try clear hcz12_3
  try clear hcz15_0
  try clear hcz15_1
  try clear hcz15_2
  try clear hcz15_3
  try clear hcz19_0
  try clear hcz19_1
  try clear hcz19_2
  try clear hcz19_3
  try clear hfz12_0
  try clear hfz12_1
  try clear hfz12_2
  try clear hfz12_3
  try clear hfz15_0
  try clear hfz15_1
  try clear hfz15_2
  try clear hfz15_3
  try clear hfz19_0
  try clear hfz19_1
  try clear hfz19_2
  try clear hfz19_3
  obtain ⟨kq, x16_2, rfl, HA, HJ2, BK343, BK344, BK345, HB⟩ := hcut
  cases kq with
  | zero => exact absurd HA.1 (by simp [spec_AgreeEvery.j0])
  | succ kj2 =>
    have H := HA.1
    clear HA
    simp only [spec_AgreeEvery.j0] at H
    by_cases c21 : x16_2 = true
    · subst c21
      rw [if_pos rfl] at H
      simp only [Option.some.injEq, Prod.mk.injEq] at H
      obtain ⟨rfl, rfl, rfl⟩ := H
      have hnb22 := NB345_343.1
      have hnc22 := NB343_345.1
      have hnb23 := NB345_344.1
      have hnc23 := NB344_345.1
      obtain ⟨hcz24_0, hcz24_1, hfz24_0, hfz24_1⟩ := zc2 BK345
      go_wp2
      refine bodyPost_ret (results_ct rfl _ _ gb345 30 #[.int .i64 0, .int .i64 0] (0, 0) _ rfl (bk BK345) Tryz.underlying30 rfl (by kernel_rfl)) rfl ?_
      exact ⟨er, bq HB⟩
    replace c21 := Bool.eq_false_iff.mpr c21
    subst c21
    rw [if_neg (show ¬ (false = true) by decide)] at H
    replace H := Option.bind_eq_some_iff.mp H
    obtain ⟨⟨t348, t349, t350, t351⟩, A250, H⟩ := H
    (try dsimp only at H)
    have A25 := Aside0.mk A250
    clear A250
    by_cases c26 : t350 = 0
    · rw [if_pos c26] at H
      have c26b0 : (t350 == 0) = true := beq_iff_eq.mpr c26
      have c26b1 : (t350 != 0) = false := bne_eq_false_iff_eq.mpr c26
      clear c26
      simp only [Option.some.injEq, Prod.mk.injEq] at H
      obtain ⟨rfl, rfl, rfl⟩ := H
      have hnb27 := NB343_344.1
      have hnc27 := NB344_343.1
      have hnb28 := NB343_345.1
      have hnc28 := NB345_343.1
      obtain ⟨hcz29_0, hcz29_1, hcz29_2, hcz29_3, hfz29_0, hfz29_1, hfz29_2, hfz29_3⟩ := zc4 BK343
      have hnb30 := NB344_345.1
      have hnc30 := NB345_344.1
      obtain ⟨hcz31_0, hcz31_1, hcz31_2, hcz31_3, hfz31_0, hfz31_1, hfz31_2, hfz31_3⟩ := zc4 BK344
      go_wp2_with (first | ((with_reducible refine gate_callee (f := 38) rfl ?_); refine gl (some 21) Tryz.func38 #[.agg #[.int .i64 a0_0, .int .i64 a0_1, .int .i64 a0_2, .int .i64 a0_3], .agg #[.int .i64 a1_0, .int .i64 a1_1, .int .i64 a1_2, .int .i64 a1_3]] ?_; (with_reducible refine (spec_drApart.calls kj2 a0_0 a0_1 a0_2 a0_3 a1_0 a1_1 a1_2 a1_3 t348 t349 t350 t351 _ A25.1).mono ?_); rintro e w32 ⟨rfl, hb⟩; refine ⟨_, rfl, ?_⟩; replace BK343 := zb BK343 hb; replace BK344 := zb BK344 hb; replace BK345 := zb BK345 hb; replace HB := zB HB hb; clear hb) | ((with_reducible refine gate_dst (N := 6) rfl ?_); refine be #[.int .i64 0, .int .i64 0] 25 ?_; intro gb352 hg w33 hbox hb; have BK352 := Aside0.mk hbox; have GW352 := zs HB hg; have GE352 := zs HB hg; have NB343_352 := zn BK343 hg; have NB352_343 := zm BK343 hg; have NB344_352 := zn BK344 hg; have NB352_344 := zm BK344 hg; have NB345_352 := zn BK345 hg; have NB352_345 := zm BK345 hg; replace BK343 := zb BK343 hb; replace BK344 := zb BK344 hb; replace BK345 := zb BK345 hb; replace HB := zB HB hb; clear hb hbox hg; have hnb34 := NB352_343.1; have hnc34 := NB343_352.1; have hnb35 := NB352_344.1; have hnc35 := NB344_352.1; have hnb36 := NB352_345.1; have hnc36 := NB345_352.1; obtain ⟨hcz37_0, hcz37_1, hfz37_0, hfz37_1⟩ := zc2 BK352; obtain ⟨hcz38_0, hcz38_1, hfz38_0, hfz38_1⟩ := zc2 BK345))
      refine bodyPost_ret (results_ct rfl _ _ gb345 30 #[.int .i64 0, .int .i64 0] (0, 0) _ rfl (bk BK345) Tryz.underlying30 rfl (by kernel_rfl)) rfl ?_
      exact ⟨er, bq HB⟩
    rw [if_neg c26] at H
    have c26b0 : (t350 == 0) = false := beq_eq_false_iff_ne.mpr c26
    have c26b1 : (t350 != 0) = true := bne_iff_ne.mpr c26
    replace H := Option.bind_eq_some_iff.mp H
    obtain ⟨t353, A390, H⟩ := H
    (try dsimp only at H)
    have A39 := Aside0.mk A390
    clear A390
    replace H := Option.bind_eq_some_iff.mp H
    obtain ⟨⟨t354, t355, t356⟩, A400, H⟩ := H
    (try dsimp only at H)
    have A40 := Aside0.mk A400
    clear A400
    simp only [Option.some.injEq, Prod.mk.injEq] at H
    obtain ⟨rfl, rfl, rfl⟩ := H
    have hnb41 := NB343_344.1
    have hnc41 := NB344_343.1
    have hnb42 := NB343_345.1
    have hnc42 := NB345_343.1
    obtain ⟨hcz43_0, hcz43_1, hcz43_2, hcz43_3, hfz43_0, hfz43_1, hfz43_2, hfz43_3⟩ := zc4 BK343
    have hnb44 := NB344_345.1
    have hnc44 := NB345_344.1
    obtain ⟨hcz45_0, hcz45_1, hcz45_2, hcz45_3, hfz45_0, hfz45_1, hfz45_2, hfz45_3⟩ := zc4 BK344
    go_wp2_with (first | ((with_reducible refine gate_callee (f := 38) rfl ?_); refine gl (some 21) Tryz.func38 #[.agg #[.int .i64 a0_0, .int .i64 a0_1, .int .i64 a0_2, .int .i64 a0_3], .agg #[.int .i64 a1_0, .int .i64 a1_1, .int .i64 a1_2, .int .i64 a1_3]] ?_; (with_reducible refine (spec_drApart.calls kj2 a0_0 a0_1 a0_2 a0_3 a1_0 a1_1 a1_2 a1_3 t348 t349 t350 t351 _ A25.1).mono ?_); rintro e w46 ⟨rfl, hb⟩; refine ⟨_, rfl, ?_⟩; replace BK343 := zb BK343 hb; replace BK344 := zb BK344 hb; replace BK345 := zb BK345 hb; replace HB := zB HB hb; clear hb) | ((with_reducible refine gate_dst (N := 6) rfl ?_); refine be #[.int .i64 0, .int .i64 0] 25 ?_; intro gb352 hg w47 hbox hb; have BK352 := Aside0.mk hbox; have GW352 := zs HB hg; have GE352 := zs HB hg; have NB343_352 := zn BK343 hg; have NB352_343 := zm BK343 hg; have NB344_352 := zn BK344 hg; have NB352_344 := zm BK344 hg; have NB345_352 := zn BK345 hg; have NB352_345 := zm BK345 hg; replace BK343 := zb BK343 hb; replace BK344 := zb BK344 hb; replace BK345 := zb BK345 hb; replace HB := zB HB hb; clear hb hbox hg; have hnb48 := NB352_343.1; have hnc48 := NB343_352.1; have hnb49 := NB352_344.1; have hnc49 := NB344_352.1; have hnb50 := NB352_345.1; have hnc50 := NB345_352.1; obtain ⟨hcz51_0, hcz51_1, hfz51_0, hfz51_1⟩ := zc2 BK352) | ((with_reducible refine gate_callee (f := 42) rfl ?_); refine gl (some 30) Tryz.func42 #[.int .i64 t350] ?_; (with_reducible refine (spec_l1Abs.calls t350 t353 _ A39.1).mono ?_); rintro e w' ⟨rfl, ⟨nd, rfl⟩⟩; refine ⟨_, rfl, ?_⟩) | ((with_reducible refine gate_callee (f := 41) rfl ?_); refine gl (some 31) Tryz.func41 #[.int .i64 t351, .int .i64 t353] ?_; (with_reducible refine (spec_drMake.calls kj2 t351 t353 t354 t355 t356 _ A40.1).mono ?_); rintro e w52 ⟨rfl, hb⟩; refine ⟨_, rfl, ?_⟩; replace BK343 := zy (o' := .cells #[.int .i64 a0_0, .int .i64 a0_1, .int .i64 a0_2, .int .i64 a0_3] 27 (0, 0)) BK343 hb; replace BK344 := zy (o' := .cells #[.int .i64 a1_0, .int .i64 a1_1, .int .i64 a1_2, .int .i64 a1_3] 27 (0, 0)) BK344 hb; replace BK345 := zy (o' := .cells #[.int .i64 0, .int .i64 0] 30 (0, 0)) BK345 hb; replace BK352 := zy (o' := .cells #[.int .i64 t348, .int .i64 t349] 25 (0, 0)) BK352 hb; replace HB := zB HB hb; clear hb; obtain ⟨hcz53_0, hcz53_1, hfz53_0, hfz53_1⟩ := zc2 BK345))
    refine bodyPost_ret (results_ct rfl _ _ gb345 30 #[.int .i64 t354, .int .i64 t355] (0, 0) _ rfl (bk BK345) Tryz.underlying30 rfl (by kernel_rfl)) rfl ?_
    exact ⟨er, bq HB⟩

/-! ### impl_ifTurn: function 43 -/
def impl_ifTurn.f (k : Nat) (a0_0 : Int) (a0_1 : Int) : Option (Int × Int × Bool) := (impl_IsTurn.f k a0_0 a0_1).bind fun t359 => (if t359 = true then (some (a0_0, a0_1, true)) else (some (0, 0, false)))
theorem impl_ifTurn.mono : ∀ a0 a1 k, LeO (impl_ifTurn.f k a0 a1) (impl_ifTurn.f (k + 1) a0 a1) := by
  intro a0 a1 k
  unfold impl_ifTurn.f
  repeat' first
      | (with_reducible exact impl_IsTurn.mono _ _ _)
      | (with_reducible exact LeO.refl _)
      | (with_reducible exact LeO.none _)
      | (with_reducible refine LeO.ite ?_ ?_)
      | (with_reducible refine LeO.bind ?_ (fun _ => ?_))
      | exact impl_IsTurn.mono _ _ _
      | exact LeO.none _
      | refine LeO.ite ?_ ?_
      | refine LeO.bind ?_ (fun _ => ?_)
set_option maxHeartbeats 8000000 in
set_option maxRecDepth 100000 in
theorem impl_ifTurn.calls (k : Nat) (a0_0 : Int) (a0_1 : Int) (r1 : Int) (r2 : Int) (r3 : Bool) (w : World) (h : impl_ifTurn.f k a0_0 a0_1 = some (r1, r2, r3)) :
    Calls Tryz.prog 43 #[.agg #[.int .i64 a0_0, .int .i64 a0_1]] w fun e w' => e = .returned (.tuple #[.agg #[.int .i64 r1, .int .i64 r2], .bool r3]) ∧ Below w.heap.size w w' := by
  have hu25 := Tryz.underlying25
  have HB := Aside0.mk (Below.refl w.heap.size w)
  have H : ((impl_IsTurn.f k a0_0 a0_1).bind fun t359 => (if t359 = true then (some (a0_0, a0_1, true)) else (some (0, 0, false)))) = some (r1, r2, r3) := h
  clear h
  replace H := Option.bind_eq_some_iff.mp H
  obtain ⟨t359, A20, H⟩ := H
  (try dsimp only at H)
  have A2 := Aside0.mk A20
  clear A20
  by_cases c3 : t359 = true
  · subst c3
    rw [if_pos rfl] at H
    simp only [Option.some.injEq, Prod.mk.injEq] at H
    obtain ⟨rfl, rfl, rfl⟩ := H
    go_enter Tryz.func43, Tryz.ntmps43
    go_wp2_with (first | ((with_reducible refine gate_dst (N := 1) rfl ?_); refine be #[.int .i64 a0_0, .int .i64 a0_1] 25 ?_; intro gb357 hg w4 hbox hb; have BK357 := Aside0.mk hbox; have GW357 := zs HB hg; have GE357 := zs HB hg; replace HB := zB HB hb; clear hb hbox hg) | ((with_reducible refine gate_dst (N := 2) rfl ?_); refine be #[.int .i64 0, .int .i64 0] 25 ?_; intro gb358 hg w5 hbox hb; have BK358 := Aside0.mk hbox; have GW358 := zs HB hg; have GE358 := zs HB hg; have NB357_358 := zn BK357 hg; have NB358_357 := zm BK357 hg; replace BK357 := zb BK357 hb; replace HB := zB HB hb; clear hb hbox hg; have hnb6 := NB357_358.1; have hnc6 := NB358_357.1; obtain ⟨hcz7_0, hcz7_1, hfz7_0, hfz7_1⟩ := zc2 BK357) | ((with_reducible refine gate_callee (f := 55) rfl ?_); refine gl (some 5) Tryz.func55 #[.agg #[.int .i64 a0_0, .int .i64 a0_1]] ?_; (with_reducible refine (impl_IsTurn.calls k a0_0 a0_1 true _ A2.1).mono ?_); rintro e w8 ⟨rfl, hb⟩; refine ⟨_, rfl, ?_⟩; replace BK357 := zb BK357 hb; replace BK358 := zb BK358 hb; replace HB := zB HB hb; clear hb; obtain ⟨hcz9_0, hcz9_1, hfz9_0, hfz9_1⟩ := zc2 BK357; obtain ⟨hcz10_0, hcz10_1, hfz10_0, hfz10_1⟩ := zc2 BK358))
    refine bodyPost_ret (results_ct rfl _ _ gb358 25 #[.int .i64 a0_0, .int .i64 a0_1] (0, 0) _ rfl (bk BK358) Tryz.underlying25 rfl (by kernel_rfl)) rfl ?_
    exact ⟨er, bq HB⟩
  replace c3 := Bool.eq_false_iff.mpr c3
  subst c3
  rw [if_neg (show ¬ (false = true) by decide)] at H
  simp only [Option.some.injEq, Prod.mk.injEq] at H
  obtain ⟨rfl, rfl, rfl⟩ := H
  go_enter Tryz.func43, Tryz.ntmps43
  go_wp2_with (first | ((with_reducible refine gate_dst (N := 1) rfl ?_); refine be #[.int .i64 a0_0, .int .i64 a0_1] 25 ?_; intro gb357 hg w11 hbox hb; have BK357 := Aside0.mk hbox; have GW357 := zs HB hg; have GE357 := zs HB hg; replace HB := zB HB hb; clear hb hbox hg) | ((with_reducible refine gate_dst (N := 2) rfl ?_); refine be #[.int .i64 0, .int .i64 0] 25 ?_; intro gb358 hg w12 hbox hb; have BK358 := Aside0.mk hbox; have GW358 := zs HB hg; have GE358 := zs HB hg; have NB357_358 := zn BK357 hg; have NB358_357 := zm BK357 hg; replace BK357 := zb BK357 hb; replace HB := zB HB hb; clear hb hbox hg; have hnb13 := NB357_358.1; have hnc13 := NB358_357.1; obtain ⟨hcz14_0, hcz14_1, hfz14_0, hfz14_1⟩ := zc2 BK357) | ((with_reducible refine gate_callee (f := 55) rfl ?_); refine gl (some 5) Tryz.func55 #[.agg #[.int .i64 a0_0, .int .i64 a0_1]] ?_; (with_reducible refine (impl_IsTurn.calls k a0_0 a0_1 false _ A2.1).mono ?_); rintro e w15 ⟨rfl, hb⟩; refine ⟨_, rfl, ?_⟩; replace BK357 := zb BK357 hb; replace BK358 := zb BK358 hb; replace HB := zB HB hb; clear hb; obtain ⟨hcz16_0, hcz16_1, hfz16_0, hfz16_1⟩ := zc2 BK358))
  refine bodyPost_ret (results_ct rfl _ _ gb358 25 #[.int .i64 0, .int .i64 0] (0, 0) _ rfl (bk BK358) Tryz.underlying25 rfl (by kernel_rfl)) rfl ?_
  exact ⟨er, bq HB⟩

/-! ### impl_Turn_plus: function 44 -/
def impl_Turn_plus.f (k : Nat) (a0_0 : Int) (a0_1 : Int) (a1_0 : Int) (a1_1 : Int) : Option (Int × Int) := (impl_part.f k (wrap64 ((wrap64 (a0_0 * a1_1)) + (wrap64 (a1_0 * a0_1)))) (wrap64 (a0_1 * a1_1))).bind fun bt363 => (some (bt363.1, bt363.2))
theorem impl_Turn_plus.mono : ∀ a0 a1 a2 a3 k, LeO (impl_Turn_plus.f k a0 a1 a2 a3) (impl_Turn_plus.f (k + 1) a0 a1 a2 a3) := by
  intro a0 a1 a2 a3 k
  unfold impl_Turn_plus.f
  repeat' first
      | (with_reducible exact impl_part.mono _ _ _)
      | (with_reducible exact LeO.refl _)
      | (with_reducible exact LeO.none _)
      | (with_reducible refine LeO.ite ?_ ?_)
      | (with_reducible refine LeO.bind ?_ (fun _ => ?_))
      | exact impl_part.mono _ _ _
      | exact LeO.none _
      | refine LeO.ite ?_ ?_
      | refine LeO.bind ?_ (fun _ => ?_)
set_option maxHeartbeats 8000000 in
set_option maxRecDepth 100000 in
theorem impl_Turn_plus.calls (k : Nat) (a0_0 : Int) (a0_1 : Int) (a1_0 : Int) (a1_1 : Int) (r1 : Int) (r2 : Int) (w : World) (h : impl_Turn_plus.f k a0_0 a0_1 a1_0 a1_1 = some (r1, r2)) :
    Calls Tryz.prog 44 #[.agg #[.int .i64 a0_0, .int .i64 a0_1], .agg #[.int .i64 a1_0, .int .i64 a1_1]] w fun e w' => e = .returned (.agg #[.int .i64 r1, .int .i64 r2]) ∧ Below w.heap.size w w' := by
  have hu25 := Tryz.underlying25
  have HB := Aside0.mk (Below.refl w.heap.size w)
  have H : ((impl_part.f k (wrap64 ((wrap64 (a0_0 * a1_1)) + (wrap64 (a1_0 * a0_1)))) (wrap64 (a0_1 * a1_1))).bind fun bt363 => (some (bt363.1, bt363.2))) = some (r1, r2) := h
  clear h
  replace H := Option.bind_eq_some_iff.mp H
  obtain ⟨⟨t363, t364⟩, A30, H⟩ := H
  (try dsimp only at H)
  have A3 := Aside0.mk A30
  clear A30
  simp only [Option.some.injEq, Prod.mk.injEq] at H
  obtain ⟨rfl, rfl⟩ := H
  go_enter Tryz.func44, Tryz.ntmps44
  go_wp2_with (first | ((with_reducible refine gate_dst (N := 2) rfl ?_); refine be #[.int .i64 a0_0, .int .i64 a0_1] 25 ?_; intro gb360 hg w4 hbox hb; have BK360 := Aside0.mk hbox; have GW360 := zs HB hg; have GE360 := zs HB hg; replace HB := zB HB hb; clear hb hbox hg) | ((with_reducible refine gate_dst (N := 3) rfl ?_); refine be #[.int .i64 a1_0, .int .i64 a1_1] 25 ?_; intro gb361 hg w5 hbox hb; have BK361 := Aside0.mk hbox; have GW361 := zs HB hg; have GE361 := zs HB hg; have NB360_361 := zn BK360 hg; have NB361_360 := zm BK360 hg; replace BK360 := zb BK360 hb; replace HB := zB HB hb; clear hb hbox hg) | ((with_reducible refine gate_dst (N := 4) rfl ?_); refine be #[.int .i64 0, .int .i64 0] 25 ?_; intro gb362 hg w6 hbox hb; have BK362 := Aside0.mk hbox; have GW362 := zs HB hg; have GE362 := zs HB hg; have NB360_362 := zn BK360 hg; have NB362_360 := zm BK360 hg; have NB361_362 := zn BK361 hg; have NB362_361 := zm BK361 hg; replace BK360 := zb BK360 hb; replace BK361 := zb BK361 hb; replace HB := zB HB hb; clear hb hbox hg; have hnb7 := NB360_361.1; have hnc7 := NB361_360.1; have hnb8 := NB360_362.1; have hnc8 := NB362_360.1; obtain ⟨hcz9_0, hcz9_1, hfz9_0, hfz9_1⟩ := zc2 BK360; have hnb10 := NB361_362.1; have hnc10 := NB362_361.1; obtain ⟨hcz11_0, hcz11_1, hfz11_0, hfz11_1⟩ := zc2 BK361) | ((with_reducible refine gate_callee (f := 79) rfl ?_); refine gl (some 21) Tryz.func79 #[.int .i64 (wrap64 ((wrap64 (a0_0 * a1_1)) + (wrap64 (a1_0 * a0_1)))), .int .i64 (wrap64 (a0_1 * a1_1))] ?_; (with_reducible refine (impl_part.calls k (wrap64 ((wrap64 (a0_0 * a1_1)) + (wrap64 (a1_0 * a0_1)))) (wrap64 (a0_1 * a1_1)) t363 t364 _ A3.1).mono ?_); rintro e w12 ⟨rfl, hb⟩; refine ⟨_, rfl, ?_⟩; replace BK360 := zb BK360 hb; replace BK361 := zb BK361 hb; replace BK362 := zb BK362 hb; replace HB := zB HB hb; clear hb; obtain ⟨hcz13_0, hcz13_1, hfz13_0, hfz13_1⟩ := zc2 BK362))
  refine bodyPost_ret (results_cell_row rfl _ _ gb362 25 #[.int .i64 t363, .int .i64 t364] (0, 0) _ rfl (bk BK362) Tryz.underlying25 rfl (by kernel_rfl)) rfl ?_
  exact ⟨er, bq HB⟩

/-! ### impl_Clock_after: function 45 -/
def impl_Clock_after.f (k : Nat) (a0_0 : Int) (a0_1 : Int) (a0_2 : Int) (a0_3 : Int) (a1_0 : Int) (a1_1 : Int) : Option (Int × Int) := (impl_part.f k (wrap64 (a1_0 * a0_2)) (wrap64 (a1_1 * a0_3))).bind fun bt368 => (some (bt368.1, bt368.2))
theorem impl_Clock_after.mono : ∀ a0 a1 a2 a3 a4 a5 k, LeO (impl_Clock_after.f k a0 a1 a2 a3 a4 a5) (impl_Clock_after.f (k + 1) a0 a1 a2 a3 a4 a5) := by
  intro a0 a1 a2 a3 a4 a5 k
  unfold impl_Clock_after.f
  repeat' first
      | (with_reducible exact impl_part.mono _ _ _)
      | (with_reducible exact LeO.refl _)
      | (with_reducible exact LeO.none _)
      | (with_reducible refine LeO.ite ?_ ?_)
      | (with_reducible refine LeO.bind ?_ (fun _ => ?_))
      | exact impl_part.mono _ _ _
      | exact LeO.none _
      | refine LeO.ite ?_ ?_
      | refine LeO.bind ?_ (fun _ => ?_)
set_option maxHeartbeats 8000000 in
set_option maxRecDepth 100000 in
theorem impl_Clock_after.calls (k : Nat) (a0_0 : Int) (a0_1 : Int) (a0_2 : Int) (a0_3 : Int) (a1_0 : Int) (a1_1 : Int) (r1 : Int) (r2 : Int) (w : World) (h : impl_Clock_after.f k a0_0 a0_1 a0_2 a0_3 a1_0 a1_1 = some (r1, r2)) :
    Calls Tryz.prog 45 #[.agg #[.int .i64 a0_0, .int .i64 a0_1, .int .i64 a0_2, .int .i64 a0_3], .agg #[.int .i64 a1_0, .int .i64 a1_1]] w fun e w' => e = .returned (.agg #[.int .i64 r1, .int .i64 r2]) ∧ Below w.heap.size w w' := by
  have hu27 := Tryz.underlying27
  have hu30 := Tryz.underlying30
  have hu25 := Tryz.underlying25
  have HB := Aside0.mk (Below.refl w.heap.size w)
  have H : ((impl_part.f k (wrap64 (a1_0 * a0_2)) (wrap64 (a1_1 * a0_3))).bind fun bt368 => (some (bt368.1, bt368.2))) = some (r1, r2) := h
  clear h
  replace H := Option.bind_eq_some_iff.mp H
  obtain ⟨⟨t368, t369⟩, A30, H⟩ := H
  (try dsimp only at H)
  have A3 := Aside0.mk A30
  clear A30
  simp only [Option.some.injEq, Prod.mk.injEq] at H
  obtain ⟨rfl, rfl⟩ := H
  go_enter Tryz.func45, Tryz.ntmps45
  go_wp2_with (first | ((with_reducible refine gate_dst (N := 2) rfl ?_); refine be #[.int .i64 a0_0, .int .i64 a0_1, .int .i64 a0_2, .int .i64 a0_3] 27 ?_; intro gb365 hg w4 hbox hb; have BK365 := Aside0.mk hbox; have GW365 := zs HB hg; have GE365 := zs HB hg; replace HB := zB HB hb; clear hb hbox hg) | ((with_reducible refine gate_dst (N := 3) rfl ?_); refine be #[.int .i64 a1_0, .int .i64 a1_1] 30 ?_; intro gb366 hg w5 hbox hb; have BK366 := Aside0.mk hbox; have GW366 := zs HB hg; have GE366 := zs HB hg; have NB365_366 := zn BK365 hg; have NB366_365 := zm BK365 hg; replace BK365 := zb BK365 hb; replace HB := zB HB hb; clear hb hbox hg) | ((with_reducible refine gate_dst (N := 4) rfl ?_); refine be #[.int .i64 0, .int .i64 0] 25 ?_; intro gb367 hg w6 hbox hb; have BK367 := Aside0.mk hbox; have GW367 := zs HB hg; have GE367 := zs HB hg; have NB365_367 := zn BK365 hg; have NB367_365 := zm BK365 hg; have NB366_367 := zn BK366 hg; have NB367_366 := zm BK366 hg; replace BK365 := zb BK365 hb; replace BK366 := zb BK366 hb; replace HB := zB HB hb; clear hb hbox hg; have hnb7 := NB366_365.1; have hnc7 := NB365_366.1; have hnb8 := NB366_367.1; have hnc8 := NB367_366.1; obtain ⟨hcz9_0, hcz9_1, hfz9_0, hfz9_1⟩ := zc2 BK366; have hnb10 := NB365_367.1; have hnc10 := NB367_365.1; obtain ⟨hcz11_0, hcz11_1, hcz11_2, hcz11_3, hfz11_0, hfz11_1, hfz11_2, hfz11_3⟩ := zc4 BK365) | ((with_reducible refine gate_callee (f := 79) rfl ?_); refine gl (some 15) Tryz.func79 #[.int .i64 (wrap64 (a1_0 * a0_2)), .int .i64 (wrap64 (a1_1 * a0_3))] ?_; (with_reducible refine (impl_part.calls k (wrap64 (a1_0 * a0_2)) (wrap64 (a1_1 * a0_3)) t368 t369 _ A3.1).mono ?_); rintro e w12 ⟨rfl, hb⟩; refine ⟨_, rfl, ?_⟩; replace BK365 := zb BK365 hb; replace BK366 := zb BK366 hb; replace BK367 := zb BK367 hb; replace HB := zB HB hb; clear hb; obtain ⟨hcz13_0, hcz13_1, hfz13_0, hfz13_1⟩ := zc2 BK367))
  refine bodyPost_ret (results_cell_row rfl _ _ gb367 25 #[.int .i64 t368, .int .i64 t369] (0, 0) _ rfl (bk BK367) Tryz.underlying25 rfl (by kernel_rfl)) rfl ?_
  exact ⟨er, bq HB⟩

end Go.Proofs.YtejlandhfnnkiaaGreatDoor.PFnClocksAgree
