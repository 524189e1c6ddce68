/- A part of the walk of FnClocksAgree: which Lean function each Go function comes to, and that the machine's call does so. Written by a program of this repo (wip/gen/xprint.py). -/
import Derived.Test.YtejlandhfnnkiaaGreatDoorPFnClocksAgreex0
import Derived.Test.YtejlandhfnnkiaaGreatDoorPFnClocksAgreex7
import Derived.Test.YtejlandhfnnkiaaGreatDoorPFnClocksAgreex8
import Derived.Test.YtejlandhfnnkiaaGreatDoorPFnClocksAgreex10
import Derived.Test.YtejlandhfnnkiaaGreatDoorPFnClocksAgreex11
import Derived.Test.YtejlandhfnnkiaaGreatDoorPFnClocksAgreex13
namespace Go.Proofs.YtejlandhfnnkiaaGreatDoor.PFnClocksAgree
open Go.RowKit Go.Proofs.YtejlandhfnnkiaaGreatDoorW.PrintWords Go.Proofs.YtejlandhfnnkiaaGreatDoorW.PrintLast Go.Proofs.YtejlandhfnnkiaaGreatDoorW.PrintMore
attribute [local go_sem] max2_int min2_int max_two min_two max_three min_three max_four min_four   -- for this text's walks alone
set_option linter.unusedVariables false
set_option linter.unusedSimpArgs false

/-! ### spec_FirstAgree: function 7 -/
def spec_FirstAgree.j0 : Nat → Bool → Int → Int → Int → Int → Int → Int → Int → Int → Option (Int × Int × Bool)
  | 0, _, _, _, _, _, _, _, _, _ => none
  | k + 1, x16, x315000, x315001, x315002, x315003, x316000, x316001, x316002, x316003 => if x16 = true then (some (0, 0, false)) else ((spec_drApart.f k x315000 x315001 x315002 x315003 x316000 x316001 x316002 x316003).bind fun bt319 => ((spec_drFirst.f k bt319.1 bt319.2.1 bt319.2.2.1 bt319.2.2.2 false).bind fun bt324 => (some (bt324.1, bt324.2.1, bt324.2.2))))
def spec_FirstAgree.f (k : Nat) (a0_0 : Int) (a0_1 : Int) (a0_2 : Int) (a0_3 : Int) (a1_0 : Int) (a1_1 : Int) (a1_2 : Int) (a1_3 : Int) : Option (Int × Int × Bool) := (spec_drClock.f k a0_0 a0_1 a0_2 a0_3).bind fun t317 => (if t317 = true then ((spec_drClock.f k a1_0 a1_1 a1_2 a1_3).bind fun t318 => (spec_FirstAgree.j0 k (!t318) a0_0 a0_1 a0_2 a0_3 a1_0 a1_1 a1_2 a1_3)) else (spec_FirstAgree.j0 k true a0_0 a0_1 a0_2 a0_3 a1_0 a1_1 a1_2 a1_3))
theorem spec_FirstAgree.mono_l : ∀ k, (∀ y0 y1 y2 y3 y4 y5 y6 y7 y8, LeO (spec_FirstAgree.j0 k y0 y1 y2 y3 y4 y5 y6 y7 y8) (spec_FirstAgree.j0 (k + 1) y0 y1 y2 y3 y4 y5 y6 y7 y8))
  | 0 => fun _ _ _ _ _ _ _ _ _ r h => by simp [spec_FirstAgree.j0] at h
  | k + 1 => by
    have ih0 := spec_FirstAgree.mono_l k
    intro y0 y1 y2 y3 y4 y5 y6 y7 y8
    unfold spec_FirstAgree.j0
    repeat' first
    | (with_reducible exact ih0 _ _ _ _ _ _ _ _ _)
    | (with_reducible exact spec_drApart.mono _ _ _ _ _ _ _ _ _)
    | (with_reducible exact spec_drClock.mono _ _ _ _ _)
    | (with_reducible exact spec_drFirst.mono _ _ _ _ _ _)
    | (with_reducible exact LeO.refl _)
    | (with_reducible exact LeO.none _)
    | (with_reducible refine LeO.ite ?_ ?_)
    | (with_reducible refine LeO.bind ?_ (fun _ => ?_))
    | exact ih0 _ _ _ _ _ _ _ _ _
    | exact spec_drApart.mono _ _ _ _ _ _ _ _ _
    | exact spec_drClock.mono _ _ _ _ _
    | exact spec_drFirst.mono _ _ _ _ _ _
    | exact LeO.none _
    | refine LeO.ite ?_ ?_
    | refine LeO.bind ?_ (fun _ => ?_)
theorem spec_FirstAgree.mono : ∀ a0 a1 a2 a3 a4 a5 a6 a7 k, LeO (spec_FirstAgree.f k a0 a1 a2 a3 a4 a5 a6 a7) (spec_FirstAgree.f (k + 1) a0 a1 a2 a3 a4 a5 a6 a7) := by
  intro a0 a1 a2 a3 a4 a5 a6 a7 k
  have ih0 := spec_FirstAgree.mono_l k
  unfold spec_FirstAgree.f
  repeat' first
      | (with_reducible exact ih0 _ _ _ _ _ _ _ _ _)
      | (with_reducible exact spec_drApart.mono _ _ _ _ _ _ _ _ _)
      | (with_reducible exact spec_drClock.mono _ _ _ _ _)
      | (with_reducible exact spec_drFirst.mono _ _ _ _ _ _)
      | (with_reducible exact LeO.refl _)
      | (with_reducible exact LeO.none _)
      | (with_reducible refine LeO.ite ?_ ?_)
      | (with_reducible refine LeO.bind ?_ (fun _ => ?_))
      | exact ih0 _ _ _ _ _ _ _ _ _
      | exact spec_drApart.mono _ _ _ _ _ _ _ _ _
      | exact spec_drClock.mono _ _ _ _ _
      | exact spec_drFirst.mono _ _ _ _ _ _
      | exact LeO.none _
      | refine LeO.ite ?_ ?_
      | refine LeO.bind ?_ (fun _ => ?_)
set_option maxHeartbeats 8000000 in
set_option maxRecDepth 100000 in
theorem spec_FirstAgree.calls (k : Nat) (a0_0 : Int) (a0_1 : Int) (a0_2 : Int) (a0_3 : Int) (a1_0 : Int) (a1_1 : Int) (a1_2 : Int) (a1_3 : Int) (r1 : Int) (r2 : Int) (r3 : Bool) (w : World) (h : spec_FirstAgree.f k a0_0 a0_1 a0_2 a0_3 a1_0 a1_1 a1_2 a1_3 = some (r1, r2, r3)) :
    Calls Tryz.prog 7 #[.agg #[.int .i64 a0_0, .int .i64 a0_1, .int .i64 a0_2, .int .i64 a0_3], .agg #[.int .i64 a1_0, .int .i64 a1_1, .int .i64 a1_2, .int .i64 a1_3]] w fun e w' => e = .returned (.tuple #[.agg #[.int .i64 r1, .int .i64 r2], .bool r3]) ∧ Below w.heap.size w w' := by
  have hu27 := Tryz.underlying27
  have hu30 := Tryz.underlying30
  have hu25 := Tryz.underlying25
  have HB := Aside0.mk (Below.refl w.heap.size w)
  have H : ((spec_drClock.f k a0_0 a0_1 a0_2 a0_3).bind fun t317 => (if t317 = true then ((spec_drClock.f k a1_0 a1_1 a1_2 a1_3).bind fun t318 => (spec_FirstAgree.j0 k (!t318) a0_0 a0_1 a0_2 a0_3 a1_0 a1_1 a1_2 a1_3)) else (spec_FirstAgree.j0 k true a0_0 a0_1 a0_2 a0_3 a1_0 a1_1 a1_2 a1_3))) = some (r1, r2, r3) := h
  clear h
  have HC3 := Aside0.mk H
  clear H
  go_enter Tryz.func7, Tryz.ntmps7
  go_upto_region 1 with (first | ((with_reducible refine gate_dst (N := 2) rfl ?_); refine be #[.int .i64 a0_0, .int .i64 a0_1, .int .i64 a0_2, .int .i64 a0_3] 27 ?_; intro gb314 hg w4 hbox hb; have BK314 := Aside0.mk hbox; have GW314 := zs HB hg; have GE314 := zs HB hg; replace HB := zB HB hb; clear hb hbox hg) | ((with_reducible refine gate_dst (N := 3) rfl ?_); refine be #[.int .i64 a1_0, .int .i64 a1_1, .int .i64 a1_2, .int .i64 a1_3] 27 ?_; intro gb315 hg w5 hbox hb; have BK315 := Aside0.mk hbox; have GW315 := zs HB hg; have GE315 := zs HB hg; have NB314_315 := zn BK314 hg; have NB315_314 := zm BK314 hg; replace BK314 := zb BK314 hb; replace HB := zB HB hb; clear hb hbox hg) | ((with_reducible refine gate_dst (N := 4) rfl ?_); refine be #[.int .i64 0, .int .i64 0] 30 ?_; intro gb316 hg w6 hbox hb; have BK316 := Aside0.mk hbox; have GW316 := zs HB hg; have GE316 := zs HB hg; have NB314_316 := zn BK314 hg; have NB316_314 := zm BK314 hg; have NB315_316 := zn BK315 hg; have NB316_315 := zm BK315 hg; replace BK314 := zb BK314 hb; replace BK315 := zb BK315 hb; replace HB := zB HB hb; clear hb hbox hg))
  (try simp only [Act.put, List.setIfInBounds_toArray, List.set_cons_zero, List.set_cons_succ])
  go_cut [16] (fun v16 wc => ∃ (kq : Nat) (x16_2 : Bool), v16 = .bool x16_2 ∧ Aside0 (spec_FirstAgree.j0 kq x16_2 a0_0 a0_1 a0_2 a0_3 a1_0 a1_1 a1_2 a1_3 = some (r1, r2, r3)) ∧ Aside0 (kq ≤ k) ∧ Aside0 (wc.heap[gb314]? = some (.cells #[.int .i64 a0_0, .int .i64 a0_1, .int .i64 a0_2, .int .i64 a0_3] 27 (0, 0))) ∧ Aside0 (wc.heap[gb315]? = some (.cells #[.int .i64 a1_0, .int .i64 a1_1, .int .i64 a1_2, .int .i64 a1_3] 27 (0, 0))) ∧ Aside0 (wc.heap[gb316]? = some (.cells #[.int .i64 0, .int .i64 0] 30 (0, 0))) ∧ Aside0 (Below w.heap.size w wc))
  case first =>
    have H := HC3.1
    clear HC3
    replace H := Option.bind_eq_some_iff.mp H
    obtain ⟨t317, A70, H⟩ := H
    (try dsimp only at H)
    have A7 := Aside0.mk A70
    clear A70
    by_cases c8 : t317 = true
    · subst c8
      rw [if_pos rfl] at H
      replace H := Option.bind_eq_some_iff.mp H
      obtain ⟨t318, A90, H⟩ := H
      (try dsimp only at H)
      have A9 := Aside0.mk A90
      clear A90
      have H' := Aside0.mk H
      clear H
      have hnb10 := NB314_315.1
      have hnc10 := NB315_314.1
      have hnb11 := NB314_316.1
      have hnc11 := NB316_314.1
      obtain ⟨hcz12_0, hcz12_1, hcz12_2, hcz12_3, hfz12_0, hfz12_1, hfz12_2, hfz12_3⟩ := zc4 BK314
      go_wp2_with (first | ((with_reducible refine gate_callee (f := 37) rfl ?_); refine gl (some 10) Tryz.func37 #[.agg #[.int .i64 a0_0, .int .i64 a0_1, .int .i64 a0_2, .int .i64 a0_3]] ?_; (with_reducible refine (spec_drClock.calls k a0_0 a0_1 a0_2 a0_3 true _ A7.1).mono ?_); rintro e w13 ⟨rfl, hb⟩; refine ⟨_, rfl, ?_⟩; replace BK314 := zb BK314 hb; replace BK315 := zb BK315 hb; replace BK316 := zb BK316 hb; replace HB := zB HB hb; clear hb; have hnb14 := NB315_316.1; have hnc14 := NB316_315.1; obtain ⟨hcz15_0, hcz15_1, hcz15_2, hcz15_3, hfz15_0, hfz15_1, hfz15_2, hfz15_3⟩ := zc4 BK315) | (go_at_call 37; (with_reducible refine (spec_drClock.calls k a1_0 a1_1 a1_2 a1_3 t318 _ A9.1).mono ?_); rintro e w16 ⟨rfl, hb⟩; replace BK314 := zb BK314 hb; replace BK315 := zb BK315 hb; replace BK316 := zb BK316 hb; replace HB := zB HB hb; clear hb))
      go_meet
      case rel => exact ⟨_, (!t318), ew, H', le_, ⟨bk BK314⟩, ⟨bk BK315⟩, ⟨bk BK316⟩, ⟨bq HB⟩⟩
    replace c8 := Bool.eq_false_iff.mpr c8
    subst c8
    rw [if_neg (show ¬ (false = true) by decide)] at H
    have H' := Aside0.mk H
    clear H
    have hnb17 := NB314_315.1
    have hnc17 := NB315_314.1
    have hnb18 := NB314_316.1
    have hnc18 := NB316_314.1
    obtain ⟨hcz19_0, hcz19_1, hcz19_2, hcz19_3, hfz19_0, hfz19_1, hfz19_2, hfz19_3⟩ := zc4 BK314
    go_wp2_with (first | ((with_reducible refine gate_callee (f := 37) rfl ?_); refine gl (some 10) Tryz.func37 #[.agg #[.int .i64 a0_0, .int .i64 a0_1, .int .i64 a0_2, .int .i64 a0_3]] ?_; (with_reducible refine (spec_drClock.calls k a0_0 a0_1 a0_2 a0_3 false _ A7.1).mono ?_); rintro e w20 ⟨rfl, hb⟩; refine ⟨_, rfl, ?_⟩; replace BK314 := zb BK314 hb; replace BK315 := zb BK315 hb; replace BK316 := zb BK316 hb; replace HB := zB HB hb; clear hb))
    go_meet
    case rel => exact ⟨_, (true), ew, H', le_, ⟨bk BK314⟩, ⟨bk BK315⟩, ⟨bk BK316⟩, ⟨bq HB⟩⟩
  clear HC3
  try clear c1
  try clear p2
  try clear c3
  try clear c7
  try clear c8
  try clear c10
  try clear c11
  try clear c14
  try clear c17
  try clear c18
  try clear hcz12_0
  try clear hcz12_1
  try clear hcz12_2
  try clear hcz12_3
  try clear hcz15_0
  try clear hcz15_1
  try clear hcz15_2
  try clear hcz15_3
  try clear hcz19_0
  try clear hcz19_1
  try clear hcz19_2
  try clear hcz19_3
  try clear hfz12_0
  try clear hfz12_1
  try clear hfz12_2
  try clear hfz12_3
  try clear hfz15_0
  try clear hfz15_1
  try clear hfz15_2
  try clear hfz15_3
  try clear hfz19_0
  try clear hfz19_1
  try clear hfz19_2
  try clear hfz19_3
  obtain ⟨kq, x16_2, rfl, HA, HJ2, BK314, BK315, BK316, HB⟩ := hcut
  cases kq with
  | zero => exact absurd HA.1 (by simp [spec_FirstAgree.j0])
  | succ kj2 =>
    have H := HA.1
    clear HA
    simp only [spec_FirstAgree.j0] at H
    by_cases c21 : x16_2 = true
    · subst c21
      rw [if_pos rfl] at H
      simp only [Option.some.injEq, Prod.mk.injEq] at H
      obtain ⟨rfl, rfl, rfl⟩ := H
      have hnb22 := NB316_314.1
      have hnc22 := NB314_316.1
      have hnb23 := NB316_315.1
      have hnc23 := NB315_316.1
      obtain ⟨hcz24_0, hcz24_1, hfz24_0, hfz24_1⟩ := zc2 BK316
      go_wp2
      refine bodyPost_ret (results_ct rfl _ _ gb316 30 #[.int .i64 0, .int .i64 0] (0, 0) _ rfl (bk BK316) Tryz.underlying30 rfl (by kernel_rfl)) rfl ?_
      exact ⟨er, bq HB⟩
    replace c21 := Bool.eq_false_iff.mpr c21
    subst c21
    rw [if_neg (show ¬ (false = true) by decide)] at H
    replace H := Option.bind_eq_some_iff.mp H
    obtain ⟨⟨t319, t320, t321, t322⟩, A250, H⟩ := H
    (try dsimp only at H)
    have A25 := Aside0.mk A250
    clear A250
    replace H := Option.bind_eq_some_iff.mp H
    obtain ⟨⟨t324, t325, t326⟩, A260, H⟩ := H
    (try dsimp only at H)
    have A26 := Aside0.mk A260
    clear A260
    simp only [Option.some.injEq, Prod.mk.injEq] at H
    obtain ⟨rfl, rfl, rfl⟩ := H
    have hnb27 := NB314_315.1
    have hnc27 := NB315_314.1
    have hnb28 := NB314_316.1
    have hnc28 := NB316_314.1
    obtain ⟨hcz29_0, hcz29_1, hcz29_2, hcz29_3, hfz29_0, hfz29_1, hfz29_2, hfz29_3⟩ := zc4 BK314
    have hnb30 := NB315_316.1
    have hnc30 := NB316_315.1
    obtain ⟨hcz31_0, hcz31_1, hcz31_2, hcz31_3, hfz31_0, hfz31_1, hfz31_2, hfz31_3⟩ := zc4 BK315
    go_wp2_with (first | ((with_reducible refine gate_callee (f := 38) rfl ?_); refine gl (some 21) Tryz.func38 #[.agg #[.int .i64 a0_0, .int .i64 a0_1, .int .i64 a0_2, .int .i64 a0_3], .agg #[.int .i64 a1_0, .int .i64 a1_1, .int .i64 a1_2, .int .i64 a1_3]] ?_; (with_reducible refine (spec_drApart.calls kj2 a0_0 a0_1 a0_2 a0_3 a1_0 a1_1 a1_2 a1_3 t319 t320 t321 t322 _ A25.1).mono ?_); rintro e w32 ⟨rfl, hb⟩; refine ⟨_, rfl, ?_⟩; replace BK314 := zb BK314 hb; replace BK315 := zb BK315 hb; replace BK316 := zb BK316 hb; replace HB := zB HB hb; clear hb) | ((with_reducible refine gate_dst (N := 6) rfl ?_); refine be #[.int .i64 0, .int .i64 0] 25 ?_; intro gb323 hg w33 hbox hb; have BK323 := Aside0.mk hbox; have GW323 := zs HB hg; have GE323 := zs HB hg; have NB314_323 := zn BK314 hg; have NB323_314 := zm BK314 hg; have NB315_323 := zn BK315 hg; have NB323_315 := zm BK315 hg; have NB316_323 := zn BK316 hg; have NB323_316 := zm BK316 hg; replace BK314 := zb BK314 hb; replace BK315 := zb BK315 hb; replace BK316 := zb BK316 hb; replace HB := zB HB hb; clear hb hbox hg; have hnb34 := NB323_314.1; have hnc34 := NB314_323.1; have hnb35 := NB323_315.1; have hnc35 := NB315_323.1; have hnb36 := NB323_316.1; have hnc36 := NB316_323.1; obtain ⟨hcz37_0, hcz37_1, hfz37_0, hfz37_1⟩ := zc2 BK323) | ((with_reducible refine gate_callee (f := 39) rfl ?_); refine gl (some 28) Tryz.func39 #[.agg #[.int .i64 t319, .int .i64 t320], .int .i64 t321, .int .i64 t322, .bool false] ?_; (with_reducible refine (spec_drFirst.calls kj2 t319 t320 t321 t322 false t324 t325 t326 _ A26.1).mono ?_); rintro e w38 ⟨rfl, hb⟩; refine ⟨_, rfl, ?_⟩; replace BK314 := zy (o' := .cells #[.int .i64 a0_0, .int .i64 a0_1, .int .i64 a0_2, .int .i64 a0_3] 27 (0, 0)) BK314 hb; replace BK315 := zy (o' := .cells #[.int .i64 a1_0, .int .i64 a1_1, .int .i64 a1_2, .int .i64 a1_3] 27 (0, 0)) BK315 hb; replace BK316 := zy (o' := .cells #[.int .i64 0, .int .i64 0] 30 (0, 0)) BK316 hb; replace BK323 := zy (o' := .cells #[.int .i64 t319, .int .i64 t320] 25 (0, 0)) BK323 hb; replace HB := zB HB hb; clear hb; obtain ⟨hcz39_0, hcz39_1, hfz39_0, hfz39_1⟩ := zc2 BK316))
    refine bodyPost_ret (results_ct rfl _ _ gb316 30 #[.int .i64 t324, .int .i64 t325] (0, 0) _ rfl (bk BK316) Tryz.underlying30 rfl (by kernel_rfl)) rfl ?_
    exact ⟨er, bq HB⟩

/-! ### impl_every: function 40 -/
def impl_every.f (k : Nat) (a0_0 : Int) (a0_1 : Int) (a0_2 : Int) (a0_3 : Int) (a1_0 : Int) (a1_1 : Int) (a1_2 : Int) (a1_3 : Int) : Option (Int × Int × Bool) := (impl_gain.f a0_0 a0_1 a0_2 a0_3 a1_0 a1_1 a1_2 a1_3).bind fun bt330 => ((impl_IsClock.f k a0_0 a0_1 a0_2 a0_3).bind fun t332 => (if t332 = true then ((impl_IsClock.f k a1_0 a1_1 a1_2 a1_3).bind fun t333 => (if t333 = true then (if bt330.1 = 0 then (some (0, 0, false)) else ((impl_spanOf.f k bt330.2 (mx bt330.1 (wrap64 (-bt330.1)))).bind fun bt334 => (some (bt334.1, bt334.2.1, bt334.2.2)))) else (some (0, 0, false)))) else (some (0, 0, false))))
theorem impl_every.mono : ∀ a0 a1 a2 a3 a4 a5 a6 a7 k, LeO (impl_every.f k a0 a1 a2 a3 a4 a5 a6 a7) (impl_every.f (k + 1) a0 a1 a2 a3 a4 a5 a6 a7) := by
  intro a0 a1 a2 a3 a4 a5 a6 a7 k
  unfold impl_every.f
  repeat' first
      | (with_reducible exact impl_IsClock.mono _ _ _ _ _)
      | (with_reducible exact impl_spanOf.mono _ _ _)
      | (with_reducible exact LeO.refl _)
      | (with_reducible exact LeO.none _)
      | (with_reducible refine LeO.ite ?_ ?_)
      | (with_reducible refine LeO.bind ?_ (fun _ => ?_))
      | exact impl_IsClock.mono _ _ _ _ _
      | exact impl_spanOf.mono _ _ _
      | exact LeO.none _
      | refine LeO.ite ?_ ?_
      | refine LeO.bind ?_ (fun _ => ?_)
set_option maxHeartbeats 8000000 in
set_option maxRecDepth 100000 in
theorem impl_every.calls (k : Nat) (a0_0 : Int) (a0_1 : Int) (a0_2 : Int) (a0_3 : Int) (a1_0 : Int) (a1_1 : Int) (a1_2 : Int) (a1_3 : Int) (r1 : Int) (r2 : Int) (r3 : Bool) (w : World) (h : impl_every.f k a0_0 a0_1 a0_2 a0_3 a1_0 a1_1 a1_2 a1_3 = some (r1, r2, r3)) :
    Calls Tryz.prog 40 #[.agg #[.int .i64 a0_0, .int .i64 a0_1, .int .i64 a0_2, .int .i64 a0_3], .agg #[.int .i64 a1_0, .int .i64 a1_1, .int .i64 a1_2, .int .i64 a1_3]] w fun e w' => e = .returned (.tuple #[.agg #[.int .i64 r1, .int .i64 r2], .bool r3]) ∧ Below w.heap.size w w' := by
  have hu27 := Tryz.underlying27
  have hu30 := Tryz.underlying30
  have HB := Aside0.mk (Below.refl w.heap.size w)
  have H : ((impl_gain.f a0_0 a0_1 a0_2 a0_3 a1_0 a1_1 a1_2 a1_3).bind fun bt330 => ((impl_IsClock.f k a0_0 a0_1 a0_2 a0_3).bind fun t332 => (if t332 = true then ((impl_IsClock.f k a1_0 a1_1 a1_2 a1_3).bind fun t333 => (if t333 = true then (if bt330.1 = 0 then (some (0, 0, false)) else ((impl_spanOf.f k bt330.2 (mx bt330.1 (wrap64 (-bt330.1)))).bind fun bt334 => (some (bt334.1, bt334.2.1, bt334.2.2)))) else (some (0, 0, false)))) else (some (0, 0, false))))) = some (r1, r2, r3) := h
  clear h
  replace H := Option.bind_eq_some_iff.mp H
  obtain ⟨⟨t330, t331⟩, A30, H⟩ := H
  (try dsimp only at H)
  have A3 := Aside0.mk A30
  clear A30
  replace H := Option.bind_eq_some_iff.mp H
  obtain ⟨t332, A40, H⟩ := H
  (try dsimp only at H)
  have A4 := Aside0.mk A40
  clear A40
  by_cases c5 : t332 = true
  · subst c5
    rw [if_pos rfl] at H
    replace H := Option.bind_eq_some_iff.mp H
    obtain ⟨t333, A60, H⟩ := H
    (try dsimp only at H)
    have A6 := Aside0.mk A60
    clear A60
    by_cases c7 : t333 = true
    · subst c7
      rw [if_pos rfl] at H
      by_cases c8 : t330 = 0
      · rw [if_pos c8] at H
        have c8b0 : (t330 == 0) = true := beq_iff_eq.mpr c8
        have c8b1 : (t330 != 0) = false := bne_eq_false_iff_eq.mpr c8
        clear c8
        simp only [Option.some.injEq, Prod.mk.injEq] at H
        obtain ⟨rfl, rfl, rfl⟩ := H
        go_enter Tryz.func40, Tryz.ntmps40
        go_wp2_with (first | ((with_reducible refine gate_dst (N := 2) rfl ?_); refine be #[.int .i64 a0_0, .int .i64 a0_1, .int .i64 a0_2, .int .i64 a0_3] 27 ?_; intro gb327 hg w9 hbox hb; have BK327 := Aside0.mk hbox; have GW327 := zs HB hg; have GE327 := zs HB hg; replace HB := zB HB hb; clear hb hbox hg) | ((with_reducible refine gate_dst (N := 3) rfl ?_); refine be #[.int .i64 a1_0, .int .i64 a1_1, .int .i64 a1_2, .int .i64 a1_3] 27 ?_; intro gb328 hg w10 hbox hb; have BK328 := Aside0.mk hbox; have GW328 := zs HB hg; have GE328 := zs HB hg; have NB327_328 := zn BK327 hg; have NB328_327 := zm BK327 hg; replace BK327 := zb BK327 hb; replace HB := zB HB hb; clear hb hbox hg) | ((with_reducible refine gate_dst (N := 4) rfl ?_); refine be #[.int .i64 0, .int .i64 0] 30 ?_; intro gb329 hg w11 hbox hb; have BK329 := Aside0.mk hbox; have GW329 := zs HB hg; have GE329 := zs HB hg; have NB327_329 := zn BK327 hg; have NB329_327 := zm BK327 hg; have NB328_329 := zn BK328 hg; have NB329_328 := zm BK328 hg; replace BK327 := zb BK327 hb; replace BK328 := zb BK328 hb; replace HB := zB HB hb; clear hb hbox hg; have hnb12 := NB327_328.1; have hnc12 := NB328_327.1; have hnb13 := NB327_329.1; have hnc13 := NB329_327.1; obtain ⟨hcz14_0, hcz14_1, hcz14_2, hcz14_3, hfz14_0, hfz14_1, hfz14_2, hfz14_3⟩ := zc4 BK327; have hnb15 := NB328_329.1; have hnc15 := NB329_328.1; obtain ⟨hcz16_0, hcz16_1, hcz16_2, hcz16_3, hfz16_0, hfz16_1, hfz16_2, hfz16_3⟩ := zc4 BK328) | ((with_reducible refine gate_callee (f := 75) rfl ?_); refine gl (some 11) Tryz.func75 #[.agg #[.int .i64 a0_0, .int .i64 a0_1, .int .i64 a0_2, .int .i64 a0_3], .agg #[.int .i64 a1_0, .int .i64 a1_1, .int .i64 a1_2, .int .i64 a1_3]] ?_; (with_reducible refine (impl_gain.calls a0_0 a0_1 a0_2 a0_3 a1_0 a1_1 a1_2 a1_3 t330 t331 _ A3.1).mono ?_); rintro e w17 ⟨rfl, hb⟩; refine ⟨_, rfl, ?_⟩; replace BK327 := zb BK327 hb; replace BK328 := zb BK328 hb; replace BK329 := zb BK329 hb; replace HB := zB HB hb; clear hb; obtain ⟨hcz18_0, hcz18_1, hcz18_2, hcz18_3, hfz18_0, hfz18_1, hfz18_2, hfz18_3⟩ := zc4 BK327) | ((with_reducible refine gate_callee (f := 14) rfl ?_); refine gl (some 15) Tryz.func14 #[.agg #[.int .i64 a0_0, .int .i64 a0_1, .int .i64 a0_2, .int .i64 a0_3]] ?_; (with_reducible refine (impl_IsClock.calls k a0_0 a0_1 a0_2 a0_3 true _ A4.1).mono ?_); rintro e w19 ⟨rfl, hb⟩; refine ⟨_, rfl, ?_⟩; replace BK327 := zb BK327 hb; replace BK328 := zb BK328 hb; replace BK329 := zb BK329 hb; replace HB := zB HB hb; clear hb; obtain ⟨hcz20_0, hcz20_1, hcz20_2, hcz20_3, hfz20_0, hfz20_1, hfz20_2, hfz20_3⟩ := zc4 BK328) | (go_at_call 14; (with_reducible refine (impl_IsClock.calls k a1_0 a1_1 a1_2 a1_3 true _ A6.1).mono ?_); rintro e w21 ⟨rfl, hb⟩; replace BK327 := zb BK327 hb; replace BK328 := zb BK328 hb; replace BK329 := zb BK329 hb; replace HB := zB HB hb; clear hb; obtain ⟨hcz22_0, hcz22_1, hfz22_0, hfz22_1⟩ := zc2 BK329))
        refine bodyPost_ret (results_ct rfl _ _ gb329 30 #[.int .i64 0, .int .i64 0] (0, 0) _ rfl (bk BK329) Tryz.underlying30 rfl (by kernel_rfl)) rfl ?_
        exact ⟨er, bq HB⟩
      rw [if_neg c8] at H
      have c8b0 : (t330 == 0) = false := beq_eq_false_iff_ne.mpr c8
      have c8b1 : (t330 != 0) = true := bne_iff_ne.mpr c8
      obtain ⟨ji23, hji23⟩ : ∃ j_ : Int, (mx t330 (wrap64 (-t330))) = j_ := ⟨_, rfl⟩
      replace H : ((impl_spanOf.f k t331 (ji23)).bind fun bt334 => (some (bt334.1, bt334.2.1, bt334.2.2))) = some (r1, r2, r3) := by first | (rw [hji23] at H; exact H) | (simp only [hji23] at H ⊢; exact H)
      (try rw [hji23] at A3)
      (try rw [hji23] at A4)
      (try rw [hji23] at A6)
      have hji23_ : (if t330 < (wrap64 (-t330)) then (wrap64 (-t330)) else t330) = ji23 := hji23
      replace H := Option.bind_eq_some_iff.mp H
      obtain ⟨⟨t334, t335, t336⟩, A240, H⟩ := H
      (try dsimp only at H)
      have A24 := Aside0.mk A240
      clear A240
      simp only [Option.some.injEq, Prod.mk.injEq] at H
      obtain ⟨rfl, rfl, rfl⟩ := H
      go_enter Tryz.func40, Tryz.ntmps40
      go_wp2_with (first | ((with_reducible refine gate_dst (N := 2) rfl ?_); refine be #[.int .i64 a0_0, .int .i64 a0_1, .int .i64 a0_2, .int .i64 a0_3] 27 ?_; intro gb327 hg w25 hbox hb; have BK327 := Aside0.mk hbox; have GW327 := zs HB hg; have GE327 := zs HB hg; replace HB := zB HB hb; clear hb hbox hg) | ((with_reducible refine gate_dst (N := 3) rfl ?_); refine be #[.int .i64 a1_0, .int .i64 a1_1, .int .i64 a1_2, .int .i64 a1_3] 27 ?_; intro gb328 hg w26 hbox hb; have BK328 := Aside0.mk hbox; have GW328 := zs HB hg; have GE328 := zs HB hg; have NB327_328 := zn BK327 hg; have NB328_327 := zm BK327 hg; replace BK327 := zb BK327 hb; replace HB := zB HB hb; clear hb hbox hg) | ((with_reducible refine gate_dst (N := 4) rfl ?_); refine be #[.int .i64 0, .int .i64 0] 30 ?_; intro gb329 hg w27 hbox hb; have BK329 := Aside0.mk hbox; have GW329 := zs HB hg; have GE329 := zs HB hg; have NB327_329 := zn BK327 hg; have NB329_327 := zm BK327 hg; have NB328_329 := zn BK328 hg; have NB329_328 := zm BK328 hg; replace BK327 := zb BK327 hb; replace BK328 := zb BK328 hb; replace HB := zB HB hb; clear hb hbox hg; have hnb28 := NB327_328.1; have hnc28 := NB328_327.1; have hnb29 := NB327_329.1; have hnc29 := NB329_327.1; obtain ⟨hcz30_0, hcz30_1, hcz30_2, hcz30_3, hfz30_0, hfz30_1, hfz30_2, hfz30_3⟩ := zc4 BK327; have hnb31 := NB328_329.1; have hnc31 := NB329_328.1; obtain ⟨hcz32_0, hcz32_1, hcz32_2, hcz32_3, hfz32_0, hfz32_1, hfz32_2, hfz32_3⟩ := zc4 BK328) | ((with_reducible refine gate_callee (f := 75) rfl ?_); refine gl (some 11) Tryz.func75 #[.agg #[.int .i64 a0_0, .int .i64 a0_1, .int .i64 a0_2, .int .i64 a0_3], .agg #[.int .i64 a1_0, .int .i64 a1_1, .int .i64 a1_2, .int .i64 a1_3]] ?_; (with_reducible refine (impl_gain.calls a0_0 a0_1 a0_2 a0_3 a1_0 a1_1 a1_2 a1_3 t330 t331 _ A3.1).mono ?_); rintro e w33 ⟨rfl, hb⟩; refine ⟨_, rfl, ?_⟩; replace BK327 := zb BK327 hb; replace BK328 := zb BK328 hb; replace BK329 := zb BK329 hb; replace HB := zB HB hb; clear hb; obtain ⟨hcz34_0, hcz34_1, hcz34_2, hcz34_3, hfz34_0, hfz34_1, hfz34_2, hfz34_3⟩ := zc4 BK327) | ((with_reducible refine gate_callee (f := 14) rfl ?_); refine gl (some 15) Tryz.func14 #[.agg #[.int .i64 a0_0, .int .i64 a0_1, .int .i64 a0_2, .int .i64 a0_3]] ?_; (with_reducible refine (impl_IsClock.calls k a0_0 a0_1 a0_2 a0_3 true _ A4.1).mono ?_); rintro e w35 ⟨rfl, hb⟩; refine ⟨_, rfl, ?_⟩; replace BK327 := zb BK327 hb; replace BK328 := zb BK328 hb; replace BK329 := zb BK329 hb; replace HB := zB HB hb; clear hb; obtain ⟨hcz36_0, hcz36_1, hcz36_2, hcz36_3, hfz36_0, hfz36_1, hfz36_2, hfz36_3⟩ := zc4 BK328) | (go_at_call 14; (with_reducible refine (impl_IsClock.calls k a1_0 a1_1 a1_2 a1_3 true _ A6.1).mono ?_); rintro e w37 ⟨rfl, hb⟩; replace BK327 := zb BK327 hb; replace BK328 := zb BK328 hb; replace BK329 := zb BK329 hb; replace HB := zB HB hb; clear hb) | ((with_reducible refine gate_callee (f := 57) rfl ?_); refine goesL_ (some 32) rfl rfl Tryz.func57 (by kernel_rfl) rfl #[.int .i64 t331, .int .i64 ji23] rfl (by (try simp only [List.map_toArray, List.map_cons, List.map_nil]); first | done | (simp only [hji23]; rfl) | rfl | (simp only [List.length_drop, List.length_take]; rfl)) ?_; (with_reducible refine (impl_spanOf.calls k t331 ji23 t334 t335 t336 _ A24.1).mono ?_); rintro e w38 ⟨rfl, hb⟩; refine ⟨_, rfl, ?_⟩; replace BK327 := zb BK327 hb; replace BK328 := zb BK328 hb; replace BK329 := zb BK329 hb; replace HB := zB HB hb; clear hb; obtain ⟨hcz39_0, hcz39_1, hfz39_0, hfz39_1⟩ := zc2 BK329))
      refine bodyPost_ret (results_ct rfl _ _ gb329 30 #[.int .i64 t334, .int .i64 t335] (0, 0) _ rfl (bk BK329) Tryz.underlying30 rfl (by kernel_rfl)) rfl ?_
      exact ⟨by first | rfl | (simp [errW_none, errW_some] <;> rfl) | (simp only [← hji23]; first | rfl | (simp [errW_none, errW_some] <;> rfl)) | (simp [*, errW_none, errW_some] <;> rfl), bq HB⟩
    replace c7 := Bool.eq_false_iff.mpr c7
    subst c7
    rw [if_neg (show ¬ (false = true) by decide)] at H
    simp only [Option.some.injEq, Prod.mk.injEq] at H
    obtain ⟨rfl, rfl, rfl⟩ := H
    go_enter Tryz.func40, Tryz.ntmps40
    go_wp2_with (first | ((with_reducible refine gate_dst (N := 2) rfl ?_); refine be #[.int .i64 a0_0, .int .i64 a0_1, .int .i64 a0_2, .int .i64 a0_3] 27 ?_; intro gb327 hg w40 hbox hb; have BK327 := Aside0.mk hbox; have GW327 := zs HB hg; have GE327 := zs HB hg; replace HB := zB HB hb; clear hb hbox hg) | ((with_reducible refine gate_dst (N := 3) rfl ?_); refine be #[.int .i64 a1_0, .int .i64 a1_1, .int .i64 a1_2, .int .i64 a1_3] 27 ?_; intro gb328 hg w41 hbox hb; have BK328 := Aside0.mk hbox; have GW328 := zs HB hg; have GE328 := zs HB hg; have NB327_328 := zn BK327 hg; have NB328_327 := zm BK327 hg; replace BK327 := zb BK327 hb; replace HB := zB HB hb; clear hb hbox hg) | ((with_reducible refine gate_dst (N := 4) rfl ?_); refine be #[.int .i64 0, .int .i64 0] 30 ?_; intro gb329 hg w42 hbox hb; have BK329 := Aside0.mk hbox; have GW329 := zs HB hg; have GE329 := zs HB hg; have NB327_329 := zn BK327 hg; have NB329_327 := zm BK327 hg; have NB328_329 := zn BK328 hg; have NB329_328 := zm BK328 hg; replace BK327 := zb BK327 hb; replace BK328 := zb BK328 hb; replace HB := zB HB hb; clear hb hbox hg; have hnb43 := NB327_328.1; have hnc43 := NB328_327.1; have hnb44 := NB327_329.1; have hnc44 := NB329_327.1; obtain ⟨hcz45_0, hcz45_1, hcz45_2, hcz45_3, hfz45_0, hfz45_1, hfz45_2, hfz45_3⟩ := zc4 BK327; have hnb46 := NB328_329.1; have hnc46 := NB329_328.1; obtain ⟨hcz47_0, hcz47_1, hcz47_2, hcz47_3, hfz47_0, hfz47_1, hfz47_2, hfz47_3⟩ := zc4 BK328) | ((with_reducible refine gate_callee (f := 75) rfl ?_); refine gl (some 11) Tryz.func75 #[.agg #[.int .i64 a0_0, .int .i64 a0_1, .int .i64 a0_2, .int .i64 a0_3], .agg #[.int .i64 a1_0, .int .i64 a1_1, .int .i64 a1_2, .int .i64 a1_3]] ?_; (with_reducible refine (impl_gain.calls a0_0 a0_1 a0_2 a0_3 a1_0 a1_1 a1_2 a1_3 t330 t331 _ A3.1).mono ?_); rintro e w48 ⟨rfl, hb⟩; refine ⟨_, rfl, ?_⟩; replace BK327 := zb BK327 hb; replace BK328 := zb BK328 hb; replace BK329 := zb BK329 hb; replace HB := zB HB hb; clear hb; obtain ⟨hcz49_0, hcz49_1, hcz49_2, hcz49_3, hfz49_0, hfz49_1, hfz49_2, hfz49_3⟩ := zc4 BK327) | ((with_reducible refine gate_callee (f := 14) rfl ?_); refine gl (some 15) Tryz.func14 #[.agg #[.int .i64 a0_0, .int .i64 a0_1, .int .i64 a0_2, .int .i64 a0_3]] ?_; (with_reducible refine (impl_IsClock.calls k a0_0 a0_1 a0_2 a0_3 true _ A4.1).mono ?_); rintro e w50 ⟨rfl, hb⟩; refine ⟨_, rfl, ?_⟩; replace BK327 := zb BK327 hb; replace BK328 := zb BK328 hb; replace BK329 := zb BK329 hb; replace HB := zB HB hb; clear hb; obtain ⟨hcz51_0, hcz51_1, hcz51_2, hcz51_3, hfz51_0, hfz51_1, hfz51_2, hfz51_3⟩ := zc4 BK328) | (go_at_call 14; (with_reducible refine (impl_IsClock.calls k a1_0 a1_1 a1_2 a1_3 false _ A6.1).mono ?_); rintro e w52 ⟨rfl, hb⟩; replace BK327 := zb BK327 hb; replace BK328 := zb BK328 hb; replace BK329 := zb BK329 hb; replace HB := zB HB hb; clear hb; obtain ⟨hcz53_0, hcz53_1, hfz53_0, hfz53_1⟩ := zc2 BK329))
    refine bodyPost_ret (results_ct rfl _ _ gb329 30 #[.int .i64 0, .int .i64 0] (0, 0) _ rfl (bk BK329) Tryz.underlying30 rfl (by kernel_rfl)) rfl ?_
    exact ⟨er, bq HB⟩
  replace c5 := Bool.eq_false_iff.mpr c5
  subst c5
  rw [if_neg (show ¬ (false = true) by decide)] at H
  simp only [Option.some.injEq, Prod.mk.injEq] at H
  obtain ⟨rfl, rfl, rfl⟩ := H
  go_enter Tryz.func40, Tryz.ntmps40
  go_wp2_with (first | ((with_reducible refine gate_dst (N := 2) rfl ?_); refine be #[.int .i64 a0_0, .int .i64 a0_1, .int .i64 a0_2, .int .i64 a0_3] 27 ?_; intro gb327 hg w54 hbox hb; have BK327 := Aside0.mk hbox; have GW327 := zs HB hg; have GE327 := zs HB hg; replace HB := zB HB hb; clear hb hbox hg) | ((with_reducible refine gate_dst (N := 3) rfl ?_); refine be #[.int .i64 a1_0, .int .i64 a1_1, .int .i64 a1_2, .int .i64 a1_3] 27 ?_; intro gb328 hg w55 hbox hb; have BK328 := Aside0.mk hbox; have GW328 := zs HB hg; have GE328 := zs HB hg; have NB327_328 := zn BK327 hg; have NB328_327 := zm BK327 hg; replace BK327 := zb BK327 hb; replace HB := zB HB hb; clear hb hbox hg) | ((with_reducible refine gate_dst (N := 4) rfl ?_); refine be #[.int .i64 0, .int .i64 0] 30 ?_; intro gb329 hg w56 hbox hb; have BK329 := Aside0.mk hbox; have GW329 := zs HB hg; have GE329 := zs HB hg; have NB327_329 := zn BK327 hg; have NB329_327 := zm BK327 hg; have NB328_329 := zn BK328 hg; have NB329_328 := zm BK328 hg; replace BK327 := zb BK327 hb; replace BK328 := zb BK328 hb; replace HB := zB HB hb; clear hb hbox hg; have hnb57 := NB327_328.1; have hnc57 := NB328_327.1; have hnb58 := NB327_329.1; have hnc58 := NB329_327.1; obtain ⟨hcz59_0, hcz59_1, hcz59_2, hcz59_3, hfz59_0, hfz59_1, hfz59_2, hfz59_3⟩ := zc4 BK327; have hnb60 := NB328_329.1; have hnc60 := NB329_328.1; obtain ⟨hcz61_0, hcz61_1, hcz61_2, hcz61_3, hfz61_0, hfz61_1, hfz61_2, hfz61_3⟩ := zc4 BK328) | ((with_reducible refine gate_callee (f := 75) rfl ?_); refine gl (some 11) Tryz.func75 #[.agg #[.int .i64 a0_0, .int .i64 a0_1, .int .i64 a0_2, .int .i64 a0_3], .agg #[.int .i64 a1_0, .int .i64 a1_1, .int .i64 a1_2, .int .i64 a1_3]] ?_; (with_reducible refine (impl_gain.calls a0_0 a0_1 a0_2 a0_3 a1_0 a1_1 a1_2 a1_3 t330 t331 _ A3.1).mono ?_); rintro e w62 ⟨rfl, hb⟩; refine ⟨_, rfl, ?_⟩; replace BK327 := zb BK327 hb; replace BK328 := zb BK328 hb; replace BK329 := zb BK329 hb; replace HB := zB HB hb; clear hb; obtain ⟨hcz63_0, hcz63_1, hcz63_2, hcz63_3, hfz63_0, hfz63_1, hfz63_2, hfz63_3⟩ := zc4 BK327) | ((with_reducible refine gate_callee (f := 14) rfl ?_); refine gl (some 15) Tryz.func14 #[.agg #[.int .i64 a0_0, .int .i64 a0_1, .int .i64 a0_2, .int .i64 a0_3]] ?_; (with_reducible refine (impl_IsClock.calls k a0_0 a0_1 a0_2 a0_3 false _ A4.1).mono ?_); rintro e w64 ⟨rfl, hb⟩; refine ⟨_, rfl, ?_⟩; replace BK327 := zb BK327 hb; replace BK328 := zb BK328 hb; replace BK329 := zb BK329 hb; replace HB := zB HB hb; clear hb; obtain ⟨hcz65_0, hcz65_1, hfz65_0, hfz65_1⟩ := zc2 BK329))
  refine bodyPost_ret (results_ct rfl _ _ gb329 30 #[.int .i64 0, .int .i64 0] (0, 0) _ rfl (bk BK329) Tryz.underlying30 rfl (by kernel_rfl)) rfl ?_
  exact ⟨er, bq HB⟩

/-! ### impl_AgreeEvery: function 8 -/
def impl_AgreeEvery.f (k : Nat) (a0_0 : Int) (a0_1 : Int) (a0_2 : Int) (a0_3 : Int) (a1_0 : Int) (a1_1 : Int) (a1_2 : Int) (a1_3 : Int) : Option (Int × Int × Bool) := (impl_every.f k a0_0 a0_1 a0_2 a0_3 a1_0 a1_1 a1_2 a1_3).bind fun bt340 => (some (bt340.1, bt340.2.1, bt340.2.2))
theorem impl_AgreeEvery.mono : ∀ a0 a1 a2 a3 a4 a5 a6 a7 k, LeO (impl_AgreeEvery.f k a0 a1 a2 a3 a4 a5 a6 a7) (impl_AgreeEvery.f (k + 1) a0 a1 a2 a3 a4 a5 a6 a7) := by
  intro a0 a1 a2 a3 a4 a5 a6 a7 k
  unfold impl_AgreeEvery.f
  repeat' first
      | (with_reducible exact impl_every.mono _ _ _ _ _ _ _ _ _)
      | (with_reducible exact LeO.refl _)
      | (with_reducible exact LeO.none _)
      | (with_reducible refine LeO.ite ?_ ?_)
      | (with_reducible refine LeO.bind ?_ (fun _ => ?_))
      | exact impl_every.mono _ _ _ _ _ _ _ _ _
      | exact LeO.none _
      | refine LeO.ite ?_ ?_
      | refine LeO.bind ?_ (fun _ => ?_)
set_option maxHeartbeats 8000000 in
set_option maxRecDepth 100000 in
theorem impl_AgreeEvery.calls (k : Nat) (a0_0 : Int) (a0_1 : Int) (a0_2 : Int) (a0_3 : Int) (a1_0 : Int) (a1_1 : Int) (a1_2 : Int) (a1_3 : Int) (r1 : Int) (r2 : Int) (r3 : Bool) (w : World) (h : impl_AgreeEvery.f k a0_0 a0_1 a0_2 a0_3 a1_0 a1_1 a1_2 a1_3 = some (r1, r2, r3)) :
    Calls Tryz.prog 8 #[.agg #[.int .i64 a0_0, .int .i64 a0_1, .int .i64 a0_2, .int .i64 a0_3], .agg #[.int .i64 a1_0, .int .i64 a1_1, .int .i64 a1_2, .int .i64 a1_3]] w fun e w' => e = .returned (.tuple #[.agg #[.int .i64 r1, .int .i64 r2], .bool r3]) ∧ Below w.heap.size w w' := by
  have hu27 := Tryz.underlying27
  have hu30 := Tryz.underlying30
  have HB := Aside0.mk (Below.refl w.heap.size w)
  have H : ((impl_every.f k a0_0 a0_1 a0_2 a0_3 a1_0 a1_1 a1_2 a1_3).bind fun bt340 => (some (bt340.1, bt340.2.1, bt340.2.2))) = some (r1, r2, r3) := h
  clear h
  replace H := Option.bind_eq_some_iff.mp H
  obtain ⟨⟨t340, t341, t342⟩, A30, H⟩ := H
  (try dsimp only at H)
  have A3 := Aside0.mk A30
  clear A30
  simp only [Option.some.injEq, Prod.mk.injEq] at H
  obtain ⟨rfl, rfl, rfl⟩ := H
  go_enter Tryz.func8, Tryz.ntmps8
  go_wp2_with (first | ((with_reducible refine gate_dst (N := 2) rfl ?_); refine be #[.int .i64 a0_0, .int .i64 a0_1, .int .i64 a0_2, .int .i64 a0_3] 27 ?_; intro gb337 hg w4 hbox hb; have BK337 := Aside0.mk hbox; have GW337 := zs HB hg; have GE337 := zs HB hg; replace HB := zB HB hb; clear hb hbox hg) | ((with_reducible refine gate_dst (N := 3) rfl ?_); refine be #[.int .i64 a1_0, .int .i64 a1_1, .int .i64 a1_2, .int .i64 a1_3] 27 ?_; intro gb338 hg w5 hbox hb; have BK338 := Aside0.mk hbox; have GW338 := zs HB hg; have GE338 := zs HB hg; have NB337_338 := zn BK337 hg; have NB338_337 := zm BK337 hg; replace BK337 := zb BK337 hb; replace HB := zB HB hb; clear hb hbox hg) | ((with_reducible refine gate_dst (N := 4) rfl ?_); refine be #[.int .i64 0, .int .i64 0] 30 ?_; intro gb339 hg w6 hbox hb; have BK339 := Aside0.mk hbox; have GW339 := zs HB hg; have GE339 := zs HB hg; have NB337_339 := zn BK337 hg; have NB339_337 := zm BK337 hg; have NB338_339 := zn BK338 hg; have NB339_338 := zm BK338 hg; replace BK337 := zb BK337 hb; replace BK338 := zb BK338 hb; replace HB := zB HB hb; clear hb hbox hg; have hnb7 := NB337_338.1; have hnc7 := NB338_337.1; have hnb8 := NB337_339.1; have hnc8 := NB339_337.1; obtain ⟨hcz9_0, hcz9_1, hcz9_2, hcz9_3, hfz9_0, hfz9_1, hfz9_2, hfz9_3⟩ := zc4 BK337; have hnb10 := NB338_339.1; have hnc10 := NB339_338.1; obtain ⟨hcz11_0, hcz11_1, hcz11_2, hcz11_3, hfz11_0, hfz11_1, hfz11_2, hfz11_3⟩ := zc4 BK338) | ((with_reducible refine gate_callee (f := 40) rfl ?_); refine gl (some 8) Tryz.func40 #[.agg #[.int .i64 a0_0, .int .i64 a0_1, .int .i64 a0_2, .int .i64 a0_3], .agg #[.int .i64 a1_0, .int .i64 a1_1, .int .i64 a1_2, .int .i64 a1_3]] ?_; (with_reducible refine (impl_every.calls k a0_0 a0_1 a0_2 a0_3 a1_0 a1_1 a1_2 a1_3 t340 t341 t342 _ A3.1).mono ?_); rintro e w12 ⟨rfl, hb⟩; refine ⟨_, rfl, ?_⟩; replace BK337 := zb BK337 hb; replace BK338 := zb BK338 hb; replace BK339 := zb BK339 hb; replace HB := zB HB hb; clear hb; obtain ⟨hcz13_0, hcz13_1, hfz13_0, hfz13_1⟩ := zc2 BK339))
  refine bodyPost_ret (results_ct rfl _ _ gb339 30 #[.int .i64 t340, .int .i64 t341] (0, 0) _ rfl (bk BK339) Tryz.underlying30 rfl (by kernel_rfl)) rfl ?_
  exact ⟨er, bq HB⟩

end Go.Proofs.YtejlandhfnnkiaaGreatDoor.PFnClocksAgree
