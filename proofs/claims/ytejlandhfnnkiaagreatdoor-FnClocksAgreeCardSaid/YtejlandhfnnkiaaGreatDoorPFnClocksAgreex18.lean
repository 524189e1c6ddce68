/- A part of the walk of FnClocksAgree: which Lean function each Go function comes to, and that the machine's call does so. Written by a program of this repo (wip/gen/xprint.py). -/
import Derived.Test.YtejlandhfnnkiaaGreatDoorPFnClocksAgreex0
import Derived.Test.YtejlandhfnnkiaaGreatDoorPFnClocksAgreex6
import Derived.Test.YtejlandhfnnkiaaGreatDoorPFnClocksAgreex7
import Derived.Test.YtejlandhfnnkiaaGreatDoorPFnClocksAgreex17
namespace Go.Proofs.YtejlandhfnnkiaaGreatDoor.PFnClocksAgree
open Go.RowKit Go.Proofs.YtejlandhfnnkiaaGreatDoorW.PrintWords Go.Proofs.YtejlandhfnnkiaaGreatDoorW.PrintLast Go.Proofs.YtejlandhfnnkiaaGreatDoorW.PrintMore
attribute [local go_sem] max2_int min2_int max_two min_two max_three min_three max_four min_four   -- for this text's walks alone
set_option linter.unusedVariables false
set_option linter.unusedSimpArgs false

/-! ### impl_ClockOfReadings: function 12 -/
def impl_ClockOfReadings.j0 : Nat → Bool → Int → Int → Int → Int → Int → Int → Option (Int × Int × Int × Int × Bool)
  | 0, _, _, _, _, _, _, _ => none
  | k + 1, x26, x414000, x414001, x415000, x415001, x416000, x416001 => if x26 = true then (some (0, 0, 0, 0, false)) else ((impl_Turn_minus.f k x416000 x416001 x414000 x414001).bind fun bt422 => ((impl_gcd.f k (wrap64 (bt422.1 * x415001)) (wrap64 (bt422.2 * x415000))).bind fun t425 => (if t425 = 0 then (none) else ((impl_ifClock.f k x414000 x414001 (wrap64 (Int.tdiv (wrap64 (bt422.1 * x415001)) t425)) (wrap64 (Int.tdiv (wrap64 (bt422.2 * x415000)) t425))).bind fun bt426 => (some (bt426.1, bt426.2.1, bt426.2.2.1, bt426.2.2.2.1, bt426.2.2.2.2))))))
def impl_ClockOfReadings.f (k : Nat) (a0_0 : Int) (a0_1 : Int) (a1_0 : Int) (a1_1 : Int) (a2_0 : Int) (a2_1 : Int) : Option (Int × Int × Int × Int × Bool) := (impl_areTurns.f (([(⟨a0_0, a0_1⟩ : S25), (⟨a2_0, a2_1⟩ : S25)] : List (S25)))).bind fun t420 => (if t420 = true then ((impl_IsSpan.f k a1_0 a1_1).bind fun t421 => (if t421 = true then (impl_ClockOfReadings.j0 k (a1_0 == 0) a0_0 a0_1 a1_0 a1_1 a2_0 a2_1) else (impl_ClockOfReadings.j0 k true a0_0 a0_1 a1_0 a1_1 a2_0 a2_1))) else (impl_ClockOfReadings.j0 k true a0_0 a0_1 a1_0 a1_1 a2_0 a2_1))
theorem impl_ClockOfReadings.mono_l : ∀ k, (∀ y0 y1 y2 y3 y4 y5 y6, LeO (impl_ClockOfReadings.j0 k y0 y1 y2 y3 y4 y5 y6) (impl_ClockOfReadings.j0 (k + 1) y0 y1 y2 y3 y4 y5 y6))
  | 0 => fun _ _ _ _ _ _ _ r h => by simp [impl_ClockOfReadings.j0] at h
  | k + 1 => by
    have ih0 := impl_ClockOfReadings.mono_l k
    intro y0 y1 y2 y3 y4 y5 y6
    unfold impl_ClockOfReadings.j0
    repeat' first
    | (with_reducible exact ih0 _ _ _ _ _ _ _)
    | (with_reducible exact impl_IsSpan.mono _ _ _)
    | (with_reducible exact impl_Turn_minus.mono _ _ _ _ _)
    | (with_reducible exact impl_gcd.mono _ _ _)
    | (with_reducible exact impl_ifClock.mono _ _ _ _ _)
    | (with_reducible exact LeO.refl _)
    | (with_reducible exact LeO.none _)
    | (with_reducible refine LeO.ite ?_ ?_)
    | (with_reducible refine LeO.bind ?_ (fun _ => ?_))
    | exact ih0 _ _ _ _ _ _ _
    | exact impl_IsSpan.mono _ _ _
    | exact impl_Turn_minus.mono _ _ _ _ _
    | exact impl_gcd.mono _ _ _
    | exact impl_ifClock.mono _ _ _ _ _
    | exact LeO.none _
    | refine LeO.ite ?_ ?_
    | refine LeO.bind ?_ (fun _ => ?_)
theorem impl_ClockOfReadings.mono : ∀ a0 a1 a2 a3 a4 a5 k, LeO (impl_ClockOfReadings.f k a0 a1 a2 a3 a4 a5) (impl_ClockOfReadings.f (k + 1) a0 a1 a2 a3 a4 a5) := by
  intro a0 a1 a2 a3 a4 a5 k
  have ih0 := impl_ClockOfReadings.mono_l k
  unfold impl_ClockOfReadings.f
  repeat' first
      | (with_reducible exact ih0 _ _ _ _ _ _ _)
      | (with_reducible exact impl_IsSpan.mono _ _ _)
      | (with_reducible exact impl_Turn_minus.mono _ _ _ _ _)
      | (with_reducible exact impl_gcd.mono _ _ _)
      | (with_reducible exact impl_ifClock.mono _ _ _ _ _)
      | (with_reducible exact LeO.refl _)
      | (with_reducible exact LeO.none _)
      | (with_reducible refine LeO.ite ?_ ?_)
      | (with_reducible refine LeO.bind ?_ (fun _ => ?_))
      | exact ih0 _ _ _ _ _ _ _
      | exact impl_IsSpan.mono _ _ _
      | exact impl_Turn_minus.mono _ _ _ _ _
      | exact impl_gcd.mono _ _ _
      | exact impl_ifClock.mono _ _ _ _ _
      | exact LeO.none _
      | refine LeO.ite ?_ ?_
      | refine LeO.bind ?_ (fun _ => ?_)
def impl_ClockOfReadings.T4 : Bool × List (List Nat × List Nat) := (true, [([], []), ([0], [0]), ([], []), ([2], [2]), ([1, 3], [1, 3]), ([], []), ([5], [5]), ([], []), ([7], [7]), ([6, 8], [6, 8]), ([4, 0, 1, 2, 3, 4], [4]), ([9, 10, 0, 1, 2, 3, 4, 5, 6, 7, 8, 9, 10], [9])])
def impl_ClockOfReadings.B4 : List Nat := [0, 1, 0, 4, 15, 0, 32, 0, 128, 480, 31, 2047]
theorem impl_ClockOfReadings.tab4 : rtab .any (opsOf Tryz.f12 4) = impl_ClockOfReadings.T4 := by kernel_rfl
theorem impl_ClockOfReadings.bits4 : waitsOk impl_ClockOfReadings.T4.2 impl_ClockOfReadings.B4 = true := by kernel_rfl
def impl_ClockOfReadings.T6 : Bool × List (List Nat × List Nat) := (true, [([], []), ([], []), ([], []), ([1, 2], [1, 2]), ([], []), ([], []), ([4, 5], [4, 5]), ([0, 3, 6], [0, 3, 6]), ([7], [7]), ([8], [8]), ([8], [8]), ([9, 8, 0, 1, 2, 3, 4, 5, 6, 7, 8, 9, 10], [9]), ([10, 11, 0, 1, 2, 3, 4, 5, 6, 7, 8, 9, 10, 11], [10])])
def impl_ClockOfReadings.B6 : List Nat := [0, 0, 0, 6, 0, 0, 48, 127, 255, 511, 511, 2047, 4095]
theorem impl_ClockOfReadings.tab6 : rtab .any (opsOf Tryz.f12 6) = impl_ClockOfReadings.T6 := by kernel_rfl
theorem impl_ClockOfReadings.bits6 : waitsOk impl_ClockOfReadings.T6.2 impl_ClockOfReadings.B6 = true := by kernel_rfl
set_option maxHeartbeats 8000000 in
set_option maxRecDepth 100000 in
theorem impl_ClockOfReadings.calls (k : Nat) (a0_0 : Int) (a0_1 : Int) (a1_0 : Int) (a1_1 : Int) (a2_0 : Int) (a2_1 : Int) (r1 : Int) (r2 : Int) (r3 : Int) (r4 : Int) (r5 : Bool) (w : World) (h : impl_ClockOfReadings.f k a0_0 a0_1 a1_0 a1_1 a2_0 a2_1 = some (r1, r2, r3, r4, r5)) :
    Calls Tryz.prog 12 #[.agg #[.int .i64 a0_0, .int .i64 a0_1], .agg #[.int .i64 a1_0, .int .i64 a1_1], .agg #[.int .i64 a2_0, .int .i64 a2_1]] w fun e w' => e = .returned (.tuple #[.agg #[.int .i64 r1, .int .i64 r2, .int .i64 r3, .int .i64 r4], .bool r5]) ∧ Below w.heap.size w w' := by
  have hu25 := Tryz.underlying25
  have hu30 := Tryz.underlying30
  have hu27 := Tryz.underlying27
  have HB := Aside0.mk (Below.refl w.heap.size w)
  have H : ((impl_areTurns.f (([(⟨a0_0, a0_1⟩ : S25), (⟨a2_0, a2_1⟩ : S25)] : List (S25)))).bind fun t420 => (if t420 = true then ((impl_IsSpan.f k a1_0 a1_1).bind fun t421 => (if t421 = true then (impl_ClockOfReadings.j0 k (a1_0 == 0) a0_0 a0_1 a1_0 a1_1 a2_0 a2_1) else (impl_ClockOfReadings.j0 k true a0_0 a0_1 a1_0 a1_1 a2_0 a2_1))) else (impl_ClockOfReadings.j0 k true a0_0 a0_1 a1_0 a1_1 a2_0 a2_1))) = some (r1, r2, r3, r4, r5) := h
  clear h
  have HC4 := Aside0.mk H
  clear H
  go_enter Tryz.func12, Tryz.ntmps12
  go_upto_region 1 with (first | ((with_reducible refine gate_dst (N := 3) rfl ?_); refine be #[.int .i64 a0_0, .int .i64 a0_1] 25 ?_; intro gb413 hg w5 hbox hb; have BK413 := Aside0.mk hbox; have GW413 := zs HB hg; have GE413 := zs HB hg; replace HB := zB HB hb; clear hb hbox hg) | ((with_reducible refine gate_dst (N := 4) rfl ?_); refine be #[.int .i64 a1_0, .int .i64 a1_1] 30 ?_; intro gb414 hg w6 hbox hb; have BK414 := Aside0.mk hbox; have GW414 := zs HB hg; have GE414 := zs HB hg; have NB413_414 := zn BK413 hg; have NB414_413 := zm BK413 hg; replace BK413 := zb BK413 hb; replace HB := zB HB hb; clear hb hbox hg) | ((with_reducible refine gate_dst (N := 5) rfl ?_); refine be #[.int .i64 a2_0, .int .i64 a2_1] 25 ?_; intro gb415 hg w7 hbox hb; have BK415 := Aside0.mk hbox; have GW415 := zs HB hg; have GE415 := zs HB hg; have NB413_415 := zn BK413 hg; have NB415_413 := zm BK413 hg; have NB414_415 := zn BK414 hg; have NB415_414 := zm BK414 hg; replace BK413 := zb BK413 hb; replace BK414 := zb BK414 hb; replace HB := zB HB hb; clear hb hbox hg) | ((with_reducible refine gate_dst (N := 6) rfl ?_); refine be #[.int .i64 0, .int .i64 0, .int .i64 0, .int .i64 0] 27 ?_; intro gb416 hg w8 hbox hb; have BK416 := Aside0.mk hbox; have GW416 := zs HB hg; have GE416 := zs HB hg; have NB413_416 := zn BK413 hg; have NB416_413 := zm BK413 hg; have NB414_416 := zn BK414 hg; have NB416_414 := zm BK414 hg; have NB415_416 := zn BK415 hg; have NB416_415 := zm BK415 hg; replace BK413 := zb BK413 hb; replace BK414 := zb BK414 hb; replace BK415 := zb BK415 hb; replace HB := zB HB hb; clear hb hbox hg))
  (try simp only [Act.put, List.setIfInBounds_toArray, List.set_cons_zero, List.set_cons_succ])
  go_cut [26] (fun v26 wc => ∃ (kq : Nat) (x26_3 : Bool), v26 = .bool x26_3 ∧ Aside0 (impl_ClockOfReadings.j0 kq x26_3 a0_0 a0_1 a1_0 a1_1 a2_0 a2_1 = some (r1, r2, r3, r4, r5)) ∧ Aside0 (kq ≤ k) ∧ Aside0 (wc.heap[gb413]? = some (.cells #[.int .i64 a0_0, .int .i64 a0_1] 25 (0, 0))) ∧ Aside0 (wc.heap[gb414]? = some (.cells #[.int .i64 a1_0, .int .i64 a1_1] 30 (0, 0))) ∧ Aside0 (wc.heap[gb415]? = some (.cells #[.int .i64 a2_0, .int .i64 a2_1] 25 (0, 0))) ∧ Aside0 (wc.heap[gb416]? = some (.cells #[.int .i64 0, .int .i64 0, .int .i64 0, .int .i64 0] 27 (0, 0))) ∧ Aside0 (Below w.heap.size w wc))
  case first =>
    have H := HC4.1
    clear HC4
    obtain ⟨y417, hy417⟩ : ∃ y_ : List (S25), y_ = (([(⟨a0_0, a0_1⟩ : S25), (⟨a2_0, a2_1⟩ : S25)] : List (S25))) := ⟨_, rfl⟩
    replace H : ((impl_areTurns.f y417).bind fun t420 => (if t420 = true then ((impl_IsSpan.f k a1_0 a1_1).bind fun t421 => (if t421 = true then (impl_ClockOfReadings.j0 k (a1_0 == 0) a0_0 a0_1 a1_0 a1_1 a2_0 a2_1) else (impl_ClockOfReadings.j0 k true a0_0 a0_1 a1_0 a1_1 a2_0 a2_1))) else (impl_ClockOfReadings.j0 k true a0_0 a0_1 a1_0 a1_1 a2_0 a2_1))) = some (r1, r2, r3, r4, r5) := by first | (rw [hy417]; with_reducible exact H) | (have H2_ := (Option.bind_some _ _).symm.trans H; rw [hy417]; with_reducible exact H2_) | (have H2_ := (Option.bind_some _ _).symm.trans H; with_reducible exact H2_) | with_reducible exact H | (rw [hy417]; exact H) | exact H
    have Ny417 := Aside0.mk hy417
    clear hy417
    replace H := Option.bind_eq_some_iff.mp H
    obtain ⟨t420, A90, H⟩ := H
    (try dsimp only at H)
    have A9 := Aside0.mk A90
    clear A90
    by_cases c10 : t420 = true
    · subst c10
      rw [if_pos rfl] at H
      replace H := Option.bind_eq_some_iff.mp H
      obtain ⟨t421, A110, H⟩ := H
      (try dsimp only at H)
      have A11 := Aside0.mk A110
      clear A110
      by_cases c12 : t421 = true
      · subst c12
        rw [if_pos rfl] at H
        have H' := Aside0.mk H
        clear H
        have hnb13 := NB413_414.1
        have hnc13 := NB414_413.1
        have hnb14 := NB413_415.1
        have hnc14 := NB415_413.1
        have hnb15 := NB413_416.1
        have hnc15 := NB416_413.1
        obtain ⟨hcz16_0, hcz16_1, hfz16_0, hfz16_1⟩ := zc2 BK413
        have hnb17 := NB415_414.1
        have hnc17 := NB414_415.1
        have hnb18 := NB415_416.1
        have hnc18 := NB416_415.1
        obtain ⟨hcz19_0, hcz19_1, hfz19_0, hfz19_1⟩ := zc2 BK415
        go_wp2_with (first | ((with_reducible refine gate_dst (N := 14) rfl ?_); refine Kd.R_lit k25 _ 25 ?hg (N := 14) ?hd (xs := ([(⟨a0_0, a0_1⟩ : S25), (⟨a2_0, a2_1⟩ : S25)] : List (S25))) (inner := [.int .i64 a0_0, .int .i64 a0_1, .int .i64 a2_0, .int .i64 a2_1]) (ok := fun _ => True) (okp := fun _ => True) ?hr ?hp (fun _ hk => hk) trivial (Below.refl _ _) (Nat.le_refl _) (by simp) ?_; (case hd => rfl); (case hg => rfl); (case hr => first | (go_simp; done) | (go_simp; rfl)); (case hp => exact (Reps.c2 (show Kd.M k25 _ _ _ (⟨a0_0, a0_1⟩ : S25) [.int .i64 a0_0, .int .i64 a0_1] from (k25_mkM _ _ _ (⟨a0_0, a0_1⟩ : S25) )) (Reps.c2 (show Kd.M k25 _ _ _ (⟨a2_0, a2_1⟩ : S25) [.int .i64 a2_0, .int .i64 a2_1] from (k25_mkM _ _ _ (⟨a2_0, a2_1⟩ : S25) )) (Reps.none _ _)))); intro v418 w20 ho21 hb hg_ hnew_; clear hg_ hnew_; (first | rw [← Ny417.1] at ho21 | (simp only [Int.reduceToNat] at ho21; rw [← Ny417.1] at ho21)); have HO419 := Aside0.mk (Kd.R_lower (Kd.R_newB (Kd.R_newB ho21 (g := gb413) (o := .cells #[.int .i64 a0_0, .int .i64 a0_1] 25 (0, 0)) (bk BK413)) (g := gb415) (o := .cells #[.int .i64 a2_0, .int .i64 a2_1] 25 (0, 0)) (bk BK415)) (below_size (bq HB))); replace BK413 := zb BK413 hb; replace BK414 := zb BK414 hb; replace BK415 := zb BK415 hb; replace BK416 := zb BK416 hb; replace HB := zB HB hb; clear hb ho21; obtain ⟨Ao22, co22, eo22⟩ := Kd.R_slice HO419.1; subst eo22) | ((with_reducible refine gate_callee (f := 48) rfl ?_); refine gl (some 15) Tryz.func48 #[.slice Ao22 y417.length co22] ?_; (with_reducible refine (impl_areTurns.calls _ _ y417 true _ ?side1 ?side2 A9.1).mono ?_); (case side1 => repeat (first | exact (Kd.R_reads' HO419.1).2.2 | (with_reducible refine Kd.C_alloc ?_ _) | (with_reducible refine Kd.C_drewN ?_ _) | (with_reducible refine Kd.C_drew ?_))); (case side2 => exact (Kd.R_reads' HO419.1).2.1); rintro e w23 ⟨rfl, hb⟩; refine ⟨_, rfl, ?_⟩; replace HO419 := rB HO419 hb; replace BK413 := zb BK413 hb; replace BK414 := zb BK414 hb; replace BK415 := zb BK415 hb; replace BK416 := zb BK416 hb; replace HB := zB HB hb; clear hb; have hnb24 := NB414_416.1; have hnc24 := NB416_414.1; obtain ⟨hcz25_0, hcz25_1, hfz25_0, hfz25_1⟩ := zc2 BK414) | (go_at_call 31; (with_reducible refine (impl_IsSpan.calls k a1_0 a1_1 true _ A11.1).mono ?_); rintro e w26 ⟨rfl, hb⟩; replace HO419 := rB HO419 hb; replace BK413 := zb BK413 hb; replace BK414 := zb BK414 hb; replace BK415 := zb BK415 hb; replace BK416 := zb BK416 hb; replace HB := zB HB hb; clear hb; obtain ⟨hcz27_0, hcz27_1, hfz27_0, hfz27_1⟩ := zc2 BK414))
        go_meet
        case rel => exact ⟨_, ((a1_0 == 0)), ew, H', le_, ⟨bk BK413⟩, ⟨bk BK414⟩, ⟨bk BK415⟩, ⟨bk BK416⟩, ⟨bq HB⟩⟩
      replace c12 := Bool.eq_false_iff.mpr c12
      subst c12
      rw [if_neg (show ¬ (false = true) by decide)] at H
      have H' := Aside0.mk H
      clear H
      have hnb28 := NB413_414.1
      have hnc28 := NB414_413.1
      have hnb29 := NB413_415.1
      have hnc29 := NB415_413.1
      have hnb30 := NB413_416.1
      have hnc30 := NB416_413.1
      obtain ⟨hcz31_0, hcz31_1, hfz31_0, hfz31_1⟩ := zc2 BK413
      have hnb32 := NB415_414.1
      have hnc32 := NB414_415.1
      have hnb33 := NB415_416.1
      have hnc33 := NB416_415.1
      obtain ⟨hcz34_0, hcz34_1, hfz34_0, hfz34_1⟩ := zc2 BK415
      go_wp2_with (first | ((with_reducible refine gate_dst (N := 14) rfl ?_); refine Kd.R_lit k25 _ 25 ?hg (N := 14) ?hd (xs := ([(⟨a0_0, a0_1⟩ : S25), (⟨a2_0, a2_1⟩ : S25)] : List (S25))) (inner := [.int .i64 a0_0, .int .i64 a0_1, .int .i64 a2_0, .int .i64 a2_1]) (ok := fun _ => True) (okp := fun _ => True) ?hr ?hp (fun _ hk => hk) trivial (Below.refl _ _) (Nat.le_refl _) (by simp) ?_; (case hd => rfl); (case hg => rfl); (case hr => first | (go_simp; done) | (go_simp; rfl)); (case hp => exact (Reps.c2 (show Kd.M k25 _ _ _ (⟨a0_0, a0_1⟩ : S25) [.int .i64 a0_0, .int .i64 a0_1] from (k25_mkM _ _ _ (⟨a0_0, a0_1⟩ : S25) )) (Reps.c2 (show Kd.M k25 _ _ _ (⟨a2_0, a2_1⟩ : S25) [.int .i64 a2_0, .int .i64 a2_1] from (k25_mkM _ _ _ (⟨a2_0, a2_1⟩ : S25) )) (Reps.none _ _)))); intro v418 w35 ho36 hb hg_ hnew_; clear hg_ hnew_; (first | rw [← Ny417.1] at ho36 | (simp only [Int.reduceToNat] at ho36; rw [← Ny417.1] at ho36)); have HO419 := Aside0.mk (Kd.R_lower (Kd.R_newB (Kd.R_newB ho36 (g := gb413) (o := .cells #[.int .i64 a0_0, .int .i64 a0_1] 25 (0, 0)) (bk BK413)) (g := gb415) (o := .cells #[.int .i64 a2_0, .int .i64 a2_1] 25 (0, 0)) (bk BK415)) (below_size (bq HB))); replace BK413 := zb BK413 hb; replace BK414 := zb BK414 hb; replace BK415 := zb BK415 hb; replace BK416 := zb BK416 hb; replace HB := zB HB hb; clear hb ho36; obtain ⟨Ao37, co37, eo37⟩ := Kd.R_slice HO419.1; subst eo37) | ((with_reducible refine gate_callee (f := 48) rfl ?_); refine gl (some 15) Tryz.func48 #[.slice Ao37 y417.length co37] ?_; (with_reducible refine (impl_areTurns.calls _ _ y417 true _ ?side1 ?side2 A9.1).mono ?_); (case side1 => repeat (first | exact (Kd.R_reads' HO419.1).2.2 | (with_reducible refine Kd.C_alloc ?_ _) | (with_reducible refine Kd.C_drewN ?_ _) | (with_reducible refine Kd.C_drew ?_))); (case side2 => exact (Kd.R_reads' HO419.1).2.1); rintro e w38 ⟨rfl, hb⟩; refine ⟨_, rfl, ?_⟩; replace HO419 := rB HO419 hb; replace BK413 := zb BK413 hb; replace BK414 := zb BK414 hb; replace BK415 := zb BK415 hb; replace BK416 := zb BK416 hb; replace HB := zB HB hb; clear hb; have hnb39 := NB414_416.1; have hnc39 := NB416_414.1; obtain ⟨hcz40_0, hcz40_1, hfz40_0, hfz40_1⟩ := zc2 BK414) | (go_at_call 31; (with_reducible refine (impl_IsSpan.calls k a1_0 a1_1 false _ A11.1).mono ?_); rintro e w41 ⟨rfl, hb⟩; replace HO419 := rB HO419 hb; replace BK413 := zb BK413 hb; replace BK414 := zb BK414 hb; replace BK415 := zb BK415 hb; replace BK416 := zb BK416 hb; replace HB := zB HB hb; clear hb))
      go_meet
      case rel => exact ⟨_, (true), ew, H', le_, ⟨bk BK413⟩, ⟨bk BK414⟩, ⟨bk BK415⟩, ⟨bk BK416⟩, ⟨bq HB⟩⟩
    replace c10 := Bool.eq_false_iff.mpr c10
    subst c10
    rw [if_neg (show ¬ (false = true) by decide)] at H
    have H' := Aside0.mk H
    clear H
    have hnb42 := NB413_414.1
    have hnc42 := NB414_413.1
    have hnb43 := NB413_415.1
    have hnc43 := NB415_413.1
    have hnb44 := NB413_416.1
    have hnc44 := NB416_413.1
    obtain ⟨hcz45_0, hcz45_1, hfz45_0, hfz45_1⟩ := zc2 BK413
    have hnb46 := NB415_414.1
    have hnc46 := NB414_415.1
    have hnb47 := NB415_416.1
    have hnc47 := NB416_415.1
    obtain ⟨hcz48_0, hcz48_1, hfz48_0, hfz48_1⟩ := zc2 BK415
    go_wp2_with (first | ((with_reducible refine gate_dst (N := 14) rfl ?_); refine Kd.R_lit k25 _ 25 ?hg (N := 14) ?hd (xs := ([(⟨a0_0, a0_1⟩ : S25), (⟨a2_0, a2_1⟩ : S25)] : List (S25))) (inner := [.int .i64 a0_0, .int .i64 a0_1, .int .i64 a2_0, .int .i64 a2_1]) (ok := fun _ => True) (okp := fun _ => True) ?hr ?hp (fun _ hk => hk) trivial (Below.refl _ _) (Nat.le_refl _) (by simp) ?_; (case hd => rfl); (case hg => rfl); (case hr => first | (go_simp; done) | (go_simp; rfl)); (case hp => exact (Reps.c2 (show Kd.M k25 _ _ _ (⟨a0_0, a0_1⟩ : S25) [.int .i64 a0_0, .int .i64 a0_1] from (k25_mkM _ _ _ (⟨a0_0, a0_1⟩ : S25) )) (Reps.c2 (show Kd.M k25 _ _ _ (⟨a2_0, a2_1⟩ : S25) [.int .i64 a2_0, .int .i64 a2_1] from (k25_mkM _ _ _ (⟨a2_0, a2_1⟩ : S25) )) (Reps.none _ _)))); intro v418 w49 ho50 hb hg_ hnew_; clear hg_ hnew_; (first | rw [← Ny417.1] at ho50 | (simp only [Int.reduceToNat] at ho50; rw [← Ny417.1] at ho50)); have HO419 := Aside0.mk (Kd.R_lower (Kd.R_newB (Kd.R_newB ho50 (g := gb413) (o := .cells #[.int .i64 a0_0, .int .i64 a0_1] 25 (0, 0)) (bk BK413)) (g := gb415) (o := .cells #[.int .i64 a2_0, .int .i64 a2_1] 25 (0, 0)) (bk BK415)) (below_size (bq HB))); replace BK413 := zb BK413 hb; replace BK414 := zb BK414 hb; replace BK415 := zb BK415 hb; replace BK416 := zb BK416 hb; replace HB := zB HB hb; clear hb ho50; obtain ⟨Ao51, co51, eo51⟩ := Kd.R_slice HO419.1; subst eo51) | ((with_reducible refine gate_callee (f := 48) rfl ?_); refine gl (some 15) Tryz.func48 #[.slice Ao51 y417.length co51] ?_; (with_reducible refine (impl_areTurns.calls _ _ y417 false _ ?side1 ?side2 A9.1).mono ?_); (case side1 => repeat (first | exact (Kd.R_reads' HO419.1).2.2 | (with_reducible refine Kd.C_alloc ?_ _) | (with_reducible refine Kd.C_drewN ?_ _) | (with_reducible refine Kd.C_drew ?_))); (case side2 => exact (Kd.R_reads' HO419.1).2.1); rintro e w52 ⟨rfl, hb⟩; refine ⟨_, rfl, ?_⟩; replace HO419 := rB HO419 hb; replace BK413 := zb BK413 hb; replace BK414 := zb BK414 hb; replace BK415 := zb BK415 hb; replace BK416 := zb BK416 hb; replace HB := zB HB hb; clear hb))
    go_meet
    case rel => exact ⟨_, (true), ew, H', le_, ⟨bk BK413⟩, ⟨bk BK414⟩, ⟨bk BK415⟩, ⟨bk BK416⟩, ⟨bq HB⟩⟩
  clear HC4
  try clear c1
  try clear c2
  try clear p2
  try clear c3
  try clear c4
  try clear c10
  try clear c12
  try clear c13
  try clear c14
  try clear c15
  try clear c17
  try clear c18
  try clear c24
  try clear c28
  try clear c29
  try clear c30
  try clear c32
  try clear c33
  try clear c39
  try clear c42
  try clear c43
  try clear c44
  try clear c46
  try clear c47
  try clear c48
  try clear hcz16_0
  try clear hcz16_1
  try clear hcz19_0
  try clear hcz19_1
  try clear hcz25_0
  try clear hcz25_1
  try clear hcz27_0
  try clear hcz27_1
  try clear hcz31_0
  try clear hcz31_1
  try clear hcz34_0
  try clear hcz34_1
  try clear hcz40_0
  try clear hcz40_1
  try clear hcz45_0
  try clear hcz45_1
  try clear hcz48_0
  try clear hcz48_1
  try clear hfz16_0
  try clear hfz16_1
  try clear hfz19_0
  try clear hfz19_1
  try clear hfz25_0
  try clear hfz25_1
  try clear hfz27_0
  try clear hfz27_1
  try clear hfz31_0
  try clear hfz31_1
  try clear hfz34_0
  try clear hfz34_1
  try clear hfz40_0
  try clear hfz40_1
  try clear hfz45_0
  try clear hfz45_1
  try clear hfz48_0
  try clear hfz48_1
  obtain ⟨kq, x26_3, rfl, HA, HJ3, BK413, BK414, BK415, BK416, HB⟩ := hcut
  cases kq with
  | zero => exact absurd HA.1 (by simp [impl_ClockOfReadings.j0])
  | succ kj3 =>
    have H := HA.1
    clear HA
    simp only [impl_ClockOfReadings.j0] at H
    by_cases c53 : x26_3 = true
    · subst c53
      rw [if_pos rfl] at H
      simp only [Option.some.injEq, Prod.mk.injEq] at H
      obtain ⟨rfl, rfl, rfl, rfl, rfl⟩ := H
      have hnb54 := NB416_413.1
      have hnc54 := NB413_416.1
      have hnb55 := NB416_414.1
      have hnc55 := NB414_416.1
      have hnb56 := NB416_415.1
      have hnc56 := NB415_416.1
      obtain ⟨hcz57_0, hcz57_1, hcz57_2, hcz57_3, hfz57_0, hfz57_1, hfz57_2, hfz57_3⟩ := zc4 BK416
      go_wp2
      refine bodyPost_ret (results_ct rfl _ _ gb416 27 #[.int .i64 0, .int .i64 0, .int .i64 0, .int .i64 0] (0, 0) _ rfl (bk BK416) Tryz.underlying27 rfl (by kernel_rfl)) rfl ?_
      exact ⟨er, bq HB⟩
    replace c53 := Bool.eq_false_iff.mpr c53
    subst c53
    rw [if_neg (show ¬ (false = true) by decide)] at H
    replace H := Option.bind_eq_some_iff.mp H
    obtain ⟨⟨t422, t423⟩, A580, H⟩ := H
    (try dsimp only at H)
    have A58 := Aside0.mk A580
    clear A580
    replace H := Option.bind_eq_some_iff.mp H
    obtain ⟨t425, A590, H⟩ := H
    (try dsimp only at H)
    have A59 := Aside0.mk A590
    clear A590
    by_cases c60 : t425 = 0
    · rw [if_pos c60] at H
      exact absurd H (by simp)
    rw [if_neg c60] at H
    have c60b0 : (t425 == 0) = false := beq_eq_false_iff_ne.mpr c60
    have c60b1 : (t425 != 0) = true := bne_iff_ne.mpr c60
    replace H := Option.bind_eq_some_iff.mp H
    obtain ⟨⟨t426, t427, t428, t429, t430⟩, A610, H⟩ := H
    (try dsimp only at H)
    have A61 := Aside0.mk A610
    clear A610
    simp only [Option.some.injEq, Prod.mk.injEq] at H
    obtain ⟨rfl, rfl, rfl, rfl, rfl⟩ := H
    have hnb62 := NB415_413.1
    have hnc62 := NB413_415.1
    have hnb63 := NB415_414.1
    have hnc63 := NB414_415.1
    have hnb64 := NB415_416.1
    have hnc64 := NB416_415.1
    obtain ⟨hcz65_0, hcz65_1, hfz65_0, hfz65_1⟩ := zc2 BK415
    have hnb66 := NB413_414.1
    have hnc66 := NB414_413.1
    have hnb67 := NB413_416.1
    have hnc67 := NB416_413.1
    obtain ⟨hcz68_0, hcz68_1, hfz68_0, hfz68_1⟩ := zc2 BK413
    try go_wp2_with (first | ((with_reducible refine gate_callee (f := 49) rfl ?_); refine gl (some 30) Tryz.func49 #[.agg #[.int .i64 a2_0, .int .i64 a2_1], .agg #[.int .i64 a0_0, .int .i64 a0_1]] ?_; (with_reducible refine (impl_Turn_minus.calls kj3 a2_0 a2_1 a0_0 a0_1 t422 t423 _ A58.1).mono ?_); rintro e w69 ⟨rfl, hb⟩; refine ⟨_, rfl, ?_⟩; replace BK413 := zb BK413 hb; replace BK414 := zb BK414 hb; replace BK415 := zb BK415 hb; replace BK416 := zb BK416 hb; replace HB := zB HB hb; clear hb) | ((with_reducible refine gate_dst (N := 8) rfl ?_); refine be #[.int .i64 0, .int .i64 0] 25 ?_; intro gb424 hg w70 hbox hb; have BK424 := Aside0.mk hbox; have GW424 := zs HB hg; have GE424 := zs HB hg; have NB413_424 := zn BK413 hg; have NB424_413 := zm BK413 hg; have NB414_424 := zn BK414 hg; have NB424_414 := zm BK414 hg; have NB415_424 := zn BK415 hg; have NB424_415 := zm BK415 hg; have NB416_424 := zn BK416 hg; have NB424_416 := zm BK416 hg; replace BK413 := zb BK413 hb; replace BK414 := zb BK414 hb; replace BK415 := zb BK415 hb; replace BK416 := zb BK416 hb; replace HB := zB HB hb; clear hb hbox hg; have hnb71 := NB424_413.1; have hnc71 := NB413_424.1; have hnb72 := NB424_414.1; have hnc72 := NB414_424.1; have hnb73 := NB424_415.1; have hnc73 := NB415_424.1; have hnb74 := NB424_416.1; have hnc74 := NB416_424.1; obtain ⟨hcz75_0, hcz75_1, hfz75_0, hfz75_1⟩ := zc2 BK424))
    have n0_ : Aside0 (((w70.setCell ⟨gb424, 0, none⟩ (.int .i64 t422)).setCell ⟨gb424, 1, none⟩ (.int .i64 t423)).heap[gb413]? = some (.cells #[.int .i64 a0_0, .int .i64 a0_1] 25 (0, 0))) := ⟨bk BK413⟩
    have n1_ : Aside0 (((w70.setCell ⟨gb424, 0, none⟩ (.int .i64 t422)).setCell ⟨gb424, 1, none⟩ (.int .i64 t423)).heap[gb414]? = some (.cells #[.int .i64 a1_0, .int .i64 a1_1] 30 (0, 0))) := ⟨bk BK414⟩
    have n2_ : Aside0 (((w70.setCell ⟨gb424, 0, none⟩ (.int .i64 t422)).setCell ⟨gb424, 1, none⟩ (.int .i64 t423)).heap[gb415]? = some (.cells #[.int .i64 a2_0, .int .i64 a2_1] 25 (0, 0))) := ⟨bk BK415⟩
    have n3_ : Aside0 (((w70.setCell ⟨gb424, 0, none⟩ (.int .i64 t422)).setCell ⟨gb424, 1, none⟩ (.int .i64 t423)).heap[gb416]? = some (.cells #[.int .i64 0, .int .i64 0, .int .i64 0, .int .i64 0] 27 (0, 0))) := ⟨bk BK416⟩
    have n4_ : Aside0 (((w70.setCell ⟨gb424, 0, none⟩ (.int .i64 t422)).setCell ⟨gb424, 1, none⟩ (.int .i64 t423)).heap[gb424]? = some (.cells #[.int .i64 t422, .int .i64 t423] 25 (0, 0))) := ⟨bk BK424⟩
    have n5_ : Aside0 (Below w.heap.size w ((w70.setCell ⟨gb424, 0, none⟩ (.int .i64 t422)).setCell ⟨gb424, 1, none⟩ (.int .i64 t423))) := ⟨bq HB⟩
    (try clear BK413)
    (try clear BK414)
    (try clear BK415)
    (try clear BK416)
    (try clear BK424)
    (try clear HB)
    generalize ((w70.setCell ⟨gb424, 0, none⟩ (.int .i64 t422)).setCell ⟨gb424, 1, none⟩ (.int .i64 t423)) = w76 at n0_ n1_ n2_ n3_ n4_ n5_ ⊢
    have BK413 := n0_
    have BK414 := n1_
    have BK415 := n2_
    have BK416 := n3_
    have BK424 := n4_
    have HB := n5_
    clear n0_ n1_ n2_ n3_ n4_ n5_
    replace BK413 := Aside0.mk (blk_drew BK413.1)
    replace BK414 := Aside0.mk (blk_drew BK414.1)
    replace BK415 := Aside0.mk (blk_drew BK415.1)
    replace BK416 := Aside0.mk (blk_drew BK416.1)
    replace BK424 := Aside0.mk (blk_drew BK424.1)
    replace HB := Aside0.mk (below_drew1 HB.1)
    refine start_ (n := 12) (S := fun w' => w'.cell? ⟨gb424, 0, none⟩ = some (.int .i64 t422) ∧ w'.cell? ⟨gb424, 1, none⟩ = some (.int .i64 t423) ∧ w'.cell? ⟨gb414, 0, none⟩ = some (.int .i64 a1_0) ∧ w'.cell? ⟨gb414, 1, none⟩ = some (.int .i64 a1_1)) (ds := []) (bs 12 0) (by kernel_rfl) rfl rfl ⟨(blk_cell BK424.1 0).trans rfl, (blk_cell BK424.1 1).trans rfl, (blk_cell BK414.1 0).trans rfl, (blk_cell BK414.1 1).trans rfl⟩ (fun hHeld => ?_); refine with_tabW impl_ClockOfReadings.tab4 impl_ClockOfReadings.bits4 (fun HT_ HW_ => ?_)
    generalize w76.drew = w77 at BK413 BK414 BK415 BK416 BK424 HB hHeld ⊢
    refine pu 0 31 HT_ rfl rfl (bs 12 1) ?_
    refine pu 2 33 HT_ rfl rfl (bs 12 5) ?_
    refine pu 5 36 HT_ rfl rfl (bs 12 37) ?_
    refine pu 7 38 HT_ rfl rfl (bs 12 165) ?_
    refine tk 1 32 HT_ HW_ hHeld rfl rfl (bs 12 167) ?_
    refine tk 3 34 HT_ HW_ hHeld rfl rfl (bs 12 175) ?_
    refine pu 4 35 HT_ rfl rfl (bs 12 191) ?_
    refine pu 10 9 HT_ rfl rfl (bs 12 1215) ?_
    refine tk 6 37 HT_ HW_ hHeld rfl rfl (bs 12 1279) ?_
    refine tk 8 39 HT_ HW_ hHeld rfl rfl (bs 12 1535) ?_
    refine pu 9 40 HT_ rfl rfl (bs 12 2047) ?_
    refine pu 11 10 HT_ rfl rfl (bs 12 4095) ?_
    refine done_ (done_of HT_.1 (by kernel_rfl)) ?_
    try go_wp2_with (first | ((with_reducible refine gate_callee (f := 50) rfl ?_); refine gl (some 43) Tryz.func50 #[.int .i64 (wrap64 (t422 * a1_1)), .int .i64 (wrap64 (t423 * a1_0))] ?_; (with_reducible refine (impl_gcd.calls kj3 (wrap64 (t422 * a1_1)) (wrap64 (t423 * a1_0)) t425 _ A59.1).mono ?_); rintro e w78 ⟨rfl, hb⟩; refine ⟨_, rfl, ?_⟩; replace BK413 := zb BK413 hb; replace BK414 := zb BK414 hb; replace BK415 := zb BK415 hb; replace BK416 := zb BK416 hb; replace BK424 := zb BK424 hb; replace HB := zB HB hb; clear hb))
    replace BK413 := Aside0.mk (blk_drew BK413.1)
    replace BK414 := Aside0.mk (blk_drew BK414.1)
    replace BK415 := Aside0.mk (blk_drew BK415.1)
    replace BK416 := Aside0.mk (blk_drew BK416.1)
    replace BK424 := Aside0.mk (blk_drew BK424.1)
    replace HB := Aside0.mk (below_drew1 HB.1)
    refine start_ (n := 13) (S := fun w' => w'.cell? ⟨gb413, 0, none⟩ = some (.int .i64 a0_0) ∧ w'.cell? ⟨gb413, 1, none⟩ = some (.int .i64 a0_1)) (ds := []) (bs 13 0) (by kernel_rfl) rfl rfl ⟨(blk_cell BK413.1 0).trans rfl, (blk_cell BK413.1 1).trans rfl⟩ (fun hHeld => ?_); refine with_tabW impl_ClockOfReadings.tab6 impl_ClockOfReadings.bits6 (fun HT_ HW_ => ?_)
    generalize w78.drew = w79 at BK413 BK414 BK415 BK416 BK424 HB hHeld ⊢
    refine pu 1 45 HT_ rfl rfl (bs 13 2) ?_
    refine pu 2 46 HT_ rfl rfl (bs 13 6) ?_
    refine pu 3 47 HT_ rfl rfl (bs 13 14) ?_
    refine pu 4 48 HT_ rfl rfl (bs 13 30) ?_
    refine pu 5 49 HT_ rfl rfl (bs 13 62) ?_
    refine pu 6 50 HT_ rfl rfl (bs 13 126) ?_
    refine tk 0 44 HT_ HW_ hHeld rfl rfl (bs 13 127) ?_
    refine pu 7 51 HT_ rfl rfl (bs 13 255) ?_
    refine one_ (i := 8) (N := some 52) (bs 13 511) rfl rfl (one_of HT_.1 (by kernel_rfl)) (by decide) (fun K hK => ?_)
    refine gs Tryz.func51 #[.agg #[.int .i64 a0_0, .int .i64 a0_1, .int .i64 (wrap64 (Int.tdiv (wrap64 (t422 * a1_1)) t425)), .int .i64 (wrap64 (Int.tdiv (wrap64 (t423 * a1_0)) t425))]] ?_
    with_reducible refine (impl_ifClock.calls kj3 a0_0 a0_1 (wrap64 (Int.tdiv (wrap64 (t422 * a1_1)) t425)) (wrap64 (Int.tdiv (wrap64 (t423 * a1_0)) t425)) t426 t427 t428 t429 t430 _ A61.1).mono ?_
    rintro e w80 ⟨rfl, hb⟩
    refine ⟨_, rfl, ?_⟩
    replace BK413 := zb BK413 hb
    replace BK414 := zb BK414 hb
    replace BK415 := zb BK415 hb
    replace BK416 := zb BK416 hb
    replace BK424 := zb BK424 hb
    replace HB := zB HB hb
    (try clear hb)
    (try clear hb2)
    (try clear hk)
    (try clear hi)
    refine hK.out _ _ ⟨(blk_cell BK413.1 0).trans rfl, (blk_cell BK413.1 1).trans rfl⟩ (fun hHeld => ?_)
    clear hK K
    refine norm_ (aq 52) ?_
    refine pu 9 53 HT_ rfl rfl (bs 13 1023) ?_
    refine pu 10 54 HT_ rfl rfl (bs 13 2047) ?_
    refine one_ (i := 11) (N := none) (bs 13 4095) rfl rfl (one_of HT_.1 (by kernel_rfl)) (by decide) (fun K hK => ?_)
    have hs81 : w80.cell? ⟨gb416, 0, none⟩ = some (.int .i64 0) := (blk_cell BK416.1 0).trans rfl
    have hfs81 := blk_frozen BK416.1 0
    have hns81_0 := NB413_416.1
    have hns81_1 := NB414_416.1
    have hns81_2 := NB415_416.1
    have hns81_4 := NB424_416.1
    have hms81_0 := NB416_413.1
    have hms81_1 := NB416_414.1
    have hms81_2 := NB416_415.1
    have hms81_4 := NB416_424.1
    have hs82 : w80.cell? ⟨gb416, 1, none⟩ = some (.int .i64 0) := (blk_cell BK416.1 1).trans rfl
    have hfs82 := blk_frozen BK416.1 1
    have hns82_0 := NB413_416.1
    have hns82_1 := NB414_416.1
    have hns82_2 := NB415_416.1
    have hns82_4 := NB424_416.1
    have hms82_0 := NB416_413.1
    have hms82_1 := NB416_414.1
    have hms82_2 := NB416_415.1
    have hms82_4 := NB416_424.1
    have hs83 : w80.cell? ⟨gb416, 2, none⟩ = some (.int .i64 0) := (blk_cell BK416.1 2).trans rfl
    have hfs83 := blk_frozen BK416.1 2
    have hns83_0 := NB413_416.1
    have hns83_1 := NB414_416.1
    have hns83_2 := NB415_416.1
    have hns83_4 := NB424_416.1
    have hms83_0 := NB416_413.1
    have hms83_1 := NB416_414.1
    have hms83_2 := NB416_415.1
    have hms83_4 := NB416_424.1
    have hs84 : w80.cell? ⟨gb416, 3, none⟩ = some (.int .i64 0) := (blk_cell BK416.1 3).trans rfl
    have hfs84 := blk_frozen BK416.1 3
    have hns84_0 := NB413_416.1
    have hns84_1 := NB414_416.1
    have hns84_2 := NB415_416.1
    have hns84_4 := NB424_416.1
    have hms84_0 := NB416_413.1
    have hms84_1 := NB416_414.1
    have hms84_2 := NB416_415.1
    have hms84_4 := NB416_424.1
    refine skip_ (w1 := ?_) (by rfl) rfl ?_ ?_
    rotate_left
    · go_simp
      rfl
    refine hK.out _ _ ⟨((cell_far (p := ⟨gb416, _, none⟩) NB413_416.1 _).trans (((cell_far (p := ⟨gb416, _, none⟩) NB413_416.1 _).trans (((cell_far (p := ⟨gb416, _, none⟩) NB413_416.1 _).trans (((cell_far (p := ⟨gb416, _, none⟩) NB413_416.1 _).trans (hHeld.1)))))))), ((cell_far (p := ⟨gb416, _, none⟩) NB413_416.1 _).trans (((cell_far (p := ⟨gb416, _, none⟩) NB413_416.1 _).trans (((cell_far (p := ⟨gb416, _, none⟩) NB413_416.1 _).trans (((cell_far (p := ⟨gb416, _, none⟩) NB413_416.1 _).trans (hHeld.2))))))))⟩ (fun hHeld => ?_)
    clear hK K
    refine pu 12 7 HT_ rfl rfl (bs 13 8191) ?_
    refine done_ (done_of HT_.1 (by kernel_rfl)) ?_
    try go_wp2
    refine bodyPost_ret (results_ct rfl _ _ gb416 27 #[.int .i64 t426, .int .i64 t427, .int .i64 t428, .int .i64 t429] (0, 0) _ rfl (bk BK416) Tryz.underlying27 rfl (by kernel_rfl)) rfl ?_
    exact ⟨er, bq HB⟩

end Go.Proofs.YtejlandhfnnkiaaGreatDoor.PFnClocksAgree
