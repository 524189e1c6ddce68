/- A part of the walk of FnHandsMeet: which Lean function each Go function comes to, and that the machine's call does so. Written by a program of this repo (wip/gen/xprint.py). -/
import Derived.Test.YtoneipoioiokcaaPFnHandsMeetx0
import Derived.Test.YtoneipoioiokcaaPFnHandsMeetx5
import Derived.Test.YtoneipoioiokcaaPFnHandsMeetx6
import Derived.Test.YtoneipoioiokcaaPFnHandsMeetx13
namespace Go.Proofs.Ytoneipoioiokcaa.PFnHandsMeet
open Go.RowKit Go.Proofs.YtoneipoioiokcaaW.PrintWords Go.Proofs.YtoneipoioiokcaaW.PrintLast Go.Proofs.YtoneipoioiokcaaW.PrintMore
attribute [local go_sem] max2_int min2_int max_two min_two max_three min_three max_four min_four   -- for this text's walks alone
set_option linter.unusedVariables false
set_option linter.unusedSimpArgs false

/-! ### laws_kRises: function 18 -/
def laws_kRises.l0 : Nat → List (S25) → Int → Option (Bool)
  | 0, _, _ => none
  | k + 1, x0, x3 => if x3 < (x0.length : Int) then (if 0 ≤ (wrap64 (x3 - 1)) then (if (wrap64 (x3 - 1)) < (x0.length : Int) then (if 0 ≤ x3 then (if (wrap64 (((rd_T25 x0 (wrap64 (x3 - 1))).f0) * ((rd_T25 x0 x3).f1))) ≥ (wrap64 (((rd_T25 x0 x3).f0) * ((rd_T25 x0 (wrap64 (x3 - 1))).f1))) then (some false) else (laws_kRises.l0 k x0 (wrap64 (x3 + 1)))) else (none)) else (none)) else (none)) else (some true)
def laws_kRises.f (k : Nat) (l0 : List (S25)) : Option (Bool) := laws_kRises.l0 k l0 1
theorem laws_kRises.mono_l : ∀ k, (∀ y0 y1, LeO (laws_kRises.l0 k y0 y1) (laws_kRises.l0 (k + 1) y0 y1))
  | 0 => fun _ _ r h => by simp [laws_kRises.l0] at h
  | k + 1 => by
    have ih0 := laws_kRises.mono_l k
    intro y0 y1
    unfold laws_kRises.l0
    repeat' first
    | (with_reducible exact ih0 _ _)
    | (with_reducible exact LeO.refl _)
    | (with_reducible exact LeO.none _)
    | (with_reducible refine LeO.ite ?_ ?_)
    | (with_reducible refine LeO.bind ?_ (fun _ => ?_))
    | exact ih0 _ _
    | exact LeO.none _
    | refine LeO.ite ?_ ?_
    | refine LeO.bind ?_ (fun _ => ?_)
theorem laws_kRises.mono : ∀ a0 k, LeO (laws_kRises.f k a0) (laws_kRises.f (k + 1) a0) := by
  intro a0 k
  have ih0 := laws_kRises.mono_l k
  unfold laws_kRises.f
  repeat' first
      | (with_reducible exact ih0 _ _)
      | (with_reducible exact LeO.refl _)
      | (with_reducible exact LeO.none _)
      | (with_reducible refine LeO.ite ?_ ?_)
      | (with_reducible refine LeO.bind ?_ (fun _ => ?_))
      | exact ih0 _ _
      | exact LeO.none _
      | refine LeO.ite ?_ ?_
      | refine LeO.bind ?_ (fun _ => ?_)
set_option maxHeartbeats 8000000 in
set_option maxRecDepth 100000 in
theorem laws_kRises.calls (k : Nat) (A0 : Option Addr) (c0 : Nat) (l0 : List (S25)) (r : Bool) (w : World) (hr0 : Kd.C k25 w A0 l0.length l0) (hc0 : l0.length ≤ c0) (h : laws_kRises.f k l0 = some r) :
    Calls Try.prog 18 #[.slice A0 l0.length c0] w fun e w' => e = .returned (.bool r) ∧ Drawn0 w w' := by
  have HR0 := Aside0.mk hr0
  have HC0 := Aside0.mk hc0
  clear hr0 hc0
  have H : (laws_kRises.l0 k l0 1) = some r := h
  clear h
  have H' := Aside0.mk H
  clear H
  go_enter Try.func18, Try.ntmps18
  go_wp2
  repeat (go_quiet (fail); try go_wp2)
  go_loopg [3] k (fun kq v3 w' => ∃ (x3_1 : Int), v3 = .int .i64 x3_1 ∧ Aside0 (laws_kRises.l0 kq l0 x3_1 = some r) ∧ Aside0 (kq ≤ k) ∧ Drawn0 w w')
  case atStart => exact ⟨(1), ew, H', ⟨Nat.le_refl _⟩, by repeat (first | exact Drawn0.refl _ | apply Drawn0.step)⟩
  case round =>
    clear H'
    obtain ⟨x3_1, rfl, HA, HK1, ⟨m1, rfl⟩⟩ := hrel
    cases gk with
    | zero => exact absurd HA.1 (by simp [laws_kRises.l0])
    | succ k1 =>
      have H := HA.1
      clear HA
      simp only [laws_kRises.l0] at H
      by_cases c2 : x3_1 < (l0.length : Int)
      · rw [if_pos c2] at H
        have c2b0 : decide (x3_1 < (l0.length : Int)) = true := decide_eq_true c2
        clear c2
        obtain ⟨ji3, hji3⟩ : ∃ j_ : Int, (wrap64 (x3_1 - 1)) = j_ := ⟨_, rfl⟩
        replace H : (if 0 ≤ (ji3) then (if (ji3) < (l0.length : Int) then (if 0 ≤ x3_1 then (if (wrap64 (((rd_T25 l0 (ji3)).f0) * ((rd_T25 l0 x3_1).f1))) ≥ (wrap64 (((rd_T25 l0 x3_1).f0) * ((rd_T25 l0 (ji3)).f1))) then (some false) else (laws_kRises.l0 k1 l0 (wrap64 (x3_1 + 1)))) else (none)) else (none)) else (none)) = some r := by first | (rw [hji3] at H; exact H) | (simp only [hji3] at H ⊢; exact H)
        have hji3w : (IntKind.i64.wrap (x3_1 - 1)) = ji3 := (i64_w _).trans hji3
        by_cases c4 : 0 ≤ (ji3)
        · rw [if_pos c4] at H
          have c4b0 : decide (0 ≤ (ji3)) = true := decide_eq_true c4
          clear c4
          by_cases c5 : (ji3) < (l0.length : Int)
          · rw [if_pos c5] at H
            have c5b0 : decide ((ji3) < (l0.length : Int)) = true := decide_eq_true c5
            clear c5
            by_cases c6 : 0 ≤ x3_1
            · rw [if_pos c6] at H
              have c6b0 : decide (0 ≤ x3_1) = true := decide_eq_true c6
              clear c6
              by_cases c7 : (wrap64 (((rd_T25 l0 (ji3)).f0) * ((rd_T25 l0 x3_1).f1))) ≥ (wrap64 (((rd_T25 l0 x3_1).f0) * ((rd_T25 l0 (ji3)).f1)))
              · rw [if_pos c7] at H
                have c7b0 : decide ((wrap64 (((rd_T25 l0 x3_1).f0) * ((rd_T25 l0 (ji3)).f1))) ≤ (wrap64 (((rd_T25 l0 (ji3)).f0) * ((rd_T25 l0 x3_1).f1)))) = true := decide_eq_true c7
                clear c7
                obtain rfl := Option.some.inj H
                have p483 : 0 ≤ ((ji3) : Int) := of_decide_eq_true (by first | (with_reducible assumption) | assumption)
                have q483 : (ji3) < (l0.length : Int) := of_decide_eq_true (by first | (with_reducible assumption) | assumption)
                obtain ⟨ad483, e483, hx483_0, hx483_1⟩ := at_T25 HR0.1 (ji3) p483 q483
                cases e483
                replace p483 := eq_true p483
                replace q483 := eq_true q483
                have p484 : 0 ≤ (x3_1 : Int) := of_decide_eq_true (by first | (with_reducible assumption) | assumption)
                have q484 : x3_1 < (l0.length : Int) := of_decide_eq_true (by first | (with_reducible assumption) | assumption)
                obtain ⟨ad484, e484, hx484_0, hx484_1⟩ := at_T25 HR0.1 x3_1 p484 q484
                obtain rfl : ad483 = ad484 := (by injection e484)
                replace p484 := eq_true p484
                replace q484 := eq_true q484
                have p485 : 0 ≤ (x3_1 : Int) := of_decide_eq_true (by first | (with_reducible assumption) | assumption)
                have q485 : x3_1 < (l0.length : Int) := of_decide_eq_true (by first | (with_reducible assumption) | assumption)
                obtain ⟨ad485, e485, hx485_0, hx485_1⟩ := at_T25 HR0.1 x3_1 p485 q485
                obtain rfl : ad483 = ad485 := (by injection e485)
                replace p485 := eq_true p485
                replace q485 := eq_true q485
                have p486 : 0 ≤ ((ji3) : Int) := of_decide_eq_true (by first | (with_reducible assumption) | assumption)
                have q486 : (ji3) < (l0.length : Int) := of_decide_eq_true (by first | (with_reducible assumption) | assumption)
                obtain ⟨ad486, e486, hx486_0, hx486_1⟩ := at_T25 HR0.1 (ji3) p486 q486
                obtain rfl : ad483 = ad486 := (by injection e486)
                replace p486 := eq_true p486
                replace q486 := eq_true q486
                go_wp2
                repeat (go_quiet (fail); try go_wp2)
                go_ret
                exact ⟨by first | rfl | (simp; done) | (simp only [← hji3] <;> (first | rfl | simp)) | (simp [*]; done), by repeat (first | exact Drawn0.refl _ | apply Drawn0.step)⟩
              rw [if_neg c7] at H
              have c7b0 : decide ((wrap64 (((rd_T25 l0 x3_1).f0) * ((rd_T25 l0 (ji3)).f1))) ≤ (wrap64 (((rd_T25 l0 (ji3)).f0) * ((rd_T25 l0 x3_1).f1)))) = false := decide_eq_false c7
              clear c7
              have H' := Aside0.mk H
              clear H
              have p483 : 0 ≤ ((ji3) : Int) := of_decide_eq_true (by first | (with_reducible assumption) | assumption)
              have q483 : (ji3) < (l0.length : Int) := of_decide_eq_true (by first | (with_reducible assumption) | assumption)
              obtain ⟨ad483, e483, hx483_0, hx483_1⟩ := at_T25 HR0.1 (ji3) p483 q483
              cases e483
              replace p483 := eq_true p483
              replace q483 := eq_true q483
              have p484 : 0 ≤ (x3_1 : Int) := of_decide_eq_true (by first | (with_reducible assumption) | assumption)
              have q484 : x3_1 < (l0.length : Int) := of_decide_eq_true (by first | (with_reducible assumption) | assumption)
              obtain ⟨ad484, e484, hx484_0, hx484_1⟩ := at_T25 HR0.1 x3_1 p484 q484
              obtain rfl : ad483 = ad484 := (by injection e484)
              replace p484 := eq_true p484
              replace q484 := eq_true q484
              have p485 : 0 ≤ (x3_1 : Int) := of_decide_eq_true (by first | (with_reducible assumption) | assumption)
              have q485 : x3_1 < (l0.length : Int) := of_decide_eq_true (by first | (with_reducible assumption) | assumption)
              obtain ⟨ad485, e485, hx485_0, hx485_1⟩ := at_T25 HR0.1 x3_1 p485 q485
              obtain rfl : ad483 = ad485 := (by injection e485)
              replace p485 := eq_true p485
              replace q485 := eq_true q485
              have p486 : 0 ≤ ((ji3) : Int) := of_decide_eq_true (by first | (with_reducible assumption) | assumption)
              have q486 : (ji3) < (l0.length : Int) := of_decide_eq_true (by first | (with_reducible assumption) | assumption)
              obtain ⟨ad486, e486, hx486_0, hx486_1⟩ := at_T25 HR0.1 (ji3) p486 q486
              obtain rfl : ad483 = ad486 := (by injection e486)
              replace p486 := eq_true p486
              replace q486 := eq_true q486
              go_wp2
              repeat (go_quiet (fail); try go_wp2)
              go_roundg k1
              case measure => have := HK1.1; omega
              case rel => exact ⟨(wrap64 (x3_1 + 1)), ew, H', ⟨by have := HK1.1; omega⟩, by repeat (first | exact Drawn0.refl _ | apply Drawn0.step)⟩
            rw [if_neg c6] at H
            exact absurd H (by simp)
          rw [if_neg c5] at H
          exact absurd H (by simp)
        rw [if_neg c4] at H
        exact absurd H (by simp)
      rw [if_neg c2] at H
      have c2b0 : decide (x3_1 < (l0.length : Int)) = false := decide_eq_false c2
      clear c2
      obtain rfl := Option.some.inj H
      go_wp2
      repeat (go_quiet (fail); try go_wp2)
      go_ret
      exact ⟨by first | rfl | (simp; done) | (simp [*]; done), by repeat (first | exact Drawn0.refl _ | apply Drawn0.step)⟩

/-! ### impl_ifTurn: function 40 -/
def impl_ifTurn.f (k : Nat) (a0_0 : Int) (a0_1 : Int) : Option (Int × Int × Bool) := (impl_IsTurn.f k a0_0 a0_1).bind fun t489 => (if t489 = true then (some (a0_0, a0_1, true)) else (some (0, 0, false)))
theorem impl_ifTurn.mono : ∀ a0 a1 k, LeO (impl_ifTurn.f k a0 a1) (impl_ifTurn.f (k + 1) a0 a1) := by
  intro a0 a1 k
  unfold impl_ifTurn.f
  repeat' first
      | (with_reducible exact impl_IsTurn.mono _ _ _)
      | (with_reducible exact LeO.refl _)
      | (with_reducible exact LeO.none _)
      | (with_reducible refine LeO.ite ?_ ?_)
      | (with_reducible refine LeO.bind ?_ (fun _ => ?_))
      | exact impl_IsTurn.mono _ _ _
      | exact LeO.none _
      | refine LeO.ite ?_ ?_
      | refine LeO.bind ?_ (fun _ => ?_)
set_option maxHeartbeats 8000000 in
set_option maxRecDepth 100000 in
theorem impl_ifTurn.calls (k : Nat) (a0_0 : Int) (a0_1 : Int) (r1 : Int) (r2 : Int) (r3 : Bool) (w : World) (h : impl_ifTurn.f k a0_0 a0_1 = some (r1, r2, r3)) :
    Calls Try.prog 40 #[.agg #[.int .i64 a0_0, .int .i64 a0_1]] w fun e w' => e = .returned (.tuple #[.agg #[.int .i64 r1, .int .i64 r2], .bool r3]) ∧ Below w.heap.size w w' := by
  have hu25 := Try.underlying25
  have HB := Aside0.mk (Below.refl w.heap.size w)
  have H : ((impl_IsTurn.f k a0_0 a0_1).bind fun t489 => (if t489 = true then (some (a0_0, a0_1, true)) else (some (0, 0, false)))) = some (r1, r2, r3) := h
  clear h
  replace H := Option.bind_eq_some_iff.mp H
  obtain ⟨t489, A20, H⟩ := H
  (try dsimp only at H)
  have A2 := Aside0.mk A20
  clear A20
  by_cases c3 : t489 = true
  · subst c3
    rw [if_pos rfl] at H
    simp only [Option.some.injEq, Prod.mk.injEq] at H
    obtain ⟨rfl, rfl, rfl⟩ := H
    go_enter Try.func40, Try.ntmps40
    go_wp2_with (first | ((with_reducible refine gate_dst (N := 1) rfl ?_); refine be #[.int .i64 a0_0, .int .i64 a0_1] 25 ?_; intro gb487 hg w4 hbox hb; have BK487 := Aside0.mk hbox; have GW487 := zs HB hg; have GE487 := zs HB hg; replace HB := zB HB hb; clear hb hbox hg) | ((with_reducible refine gate_dst (N := 2) rfl ?_); refine be #[.int .i64 0, .int .i64 0] 25 ?_; intro gb488 hg w5 hbox hb; have BK488 := Aside0.mk hbox; have GW488 := zs HB hg; have GE488 := zs HB hg; have NB487_488 := zn BK487 hg; have NB488_487 := zm BK487 hg; replace BK487 := zb BK487 hb; replace HB := zB HB hb; clear hb hbox hg; have hnb6 := NB487_488.1; have hnc6 := NB488_487.1; obtain ⟨hcz7_0, hcz7_1, hfz7_0, hfz7_1⟩ := zc2 BK487) | ((with_reducible refine gate_callee (f := 39) rfl ?_); refine gl (some 5) Try.func39 #[.agg #[.int .i64 a0_0, .int .i64 a0_1]] ?_; (with_reducible refine (impl_IsTurn.calls k a0_0 a0_1 true _ A2.1).mono ?_); rintro e w8 ⟨rfl, hb⟩; refine ⟨_, rfl, ?_⟩; replace BK487 := zb BK487 hb; replace BK488 := zb BK488 hb; replace HB := zB HB hb; clear hb; obtain ⟨hcz9_0, hcz9_1, hfz9_0, hfz9_1⟩ := zc2 BK487; obtain ⟨hcz10_0, hcz10_1, hfz10_0, hfz10_1⟩ := zc2 BK488))
    refine bodyPost_ret (results_ct rfl _ _ gb488 25 #[.int .i64 a0_0, .int .i64 a0_1] (0, 0) _ rfl (bk BK488) Try.underlying25 rfl (by kernel_rfl)) rfl ?_
    exact ⟨er, bq HB⟩
  replace c3 := Bool.eq_false_iff.mpr c3
  subst c3
  rw [if_neg (show ¬ (false = true) by decide)] at H
  simp only [Option.some.injEq, Prod.mk.injEq] at H
  obtain ⟨rfl, rfl, rfl⟩ := H
  go_enter Try.func40, Try.ntmps40
  go_wp2_with (first | ((with_reducible refine gate_dst (N := 1) rfl ?_); refine be #[.int .i64 a0_0, .int .i64 a0_1] 25 ?_; intro gb487 hg w11 hbox hb; have BK487 := Aside0.mk hbox; have GW487 := zs HB hg; have GE487 := zs HB hg; replace HB := zB HB hb; clear hb hbox hg) | ((with_reducible refine gate_dst (N := 2) rfl ?_); refine be #[.int .i64 0, .int .i64 0] 25 ?_; intro gb488 hg w12 hbox hb; have BK488 := Aside0.mk hbox; have GW488 := zs HB hg; have GE488 := zs HB hg; have NB487_488 := zn BK487 hg; have NB488_487 := zm BK487 hg; replace BK487 := zb BK487 hb; replace HB := zB HB hb; clear hb hbox hg; have hnb13 := NB487_488.1; have hnc13 := NB488_487.1; obtain ⟨hcz14_0, hcz14_1, hfz14_0, hfz14_1⟩ := zc2 BK487) | ((with_reducible refine gate_callee (f := 39) rfl ?_); refine gl (some 5) Try.func39 #[.agg #[.int .i64 a0_0, .int .i64 a0_1]] ?_; (with_reducible refine (impl_IsTurn.calls k a0_0 a0_1 false _ A2.1).mono ?_); rintro e w15 ⟨rfl, hb⟩; refine ⟨_, rfl, ?_⟩; replace BK487 := zb BK487 hb; replace BK488 := zb BK488 hb; replace HB := zB HB hb; clear hb; obtain ⟨hcz16_0, hcz16_1, hfz16_0, hfz16_1⟩ := zc2 BK488))
  refine bodyPost_ret (results_ct rfl _ _ gb488 25 #[.int .i64 0, .int .i64 0] (0, 0) _ rfl (bk BK488) Try.underlying25 rfl (by kernel_rfl)) rfl ?_
  exact ⟨er, bq HB⟩

/-! ### impl_HandAt: function 19 -/
def impl_HandAt.j0 : Nat → Bool → Int → Int → Int → Int → Int → Option (Int × Int × Bool)
  | 0, _, _, _, _, _, _ => none
  | k + 1, x13, x491000, x491001, x491002, x492000, x492001 => if x13 = true then (some (0, 0, false)) else ((impl_Hand_at.f k x491000 x491001 x491002 x492000 x492001).bind fun bt495 => ((impl_ifTurn.f k bt495.1 bt495.2).bind fun bt497 => (some (bt497.1, bt497.2.1, bt497.2.2))))
def impl_HandAt.f (k : Nat) (a0_0 : Int) (a0_1 : Int) (a0_2 : Int) (a1_0 : Int) (a1_1 : Int) : Option (Int × Int × Bool) := (impl_IsHand.f k a0_0 a0_1 a0_2).bind fun t493 => (if t493 = true then ((impl_IsTurn.f k a1_0 a1_1).bind fun t494 => (impl_HandAt.j0 k (!t494) a0_0 a0_1 a0_2 a1_0 a1_1)) else (impl_HandAt.j0 k true a0_0 a0_1 a0_2 a1_0 a1_1))
theorem impl_HandAt.mono_l : ∀ k, (∀ y0 y1 y2 y3 y4 y5, LeO (impl_HandAt.j0 k y0 y1 y2 y3 y4 y5) (impl_HandAt.j0 (k + 1) y0 y1 y2 y3 y4 y5))
  | 0 => fun _ _ _ _ _ _ r h => by simp [impl_HandAt.j0] at h
  | k + 1 => by
    have ih0 := impl_HandAt.mono_l k
    intro y0 y1 y2 y3 y4 y5
    unfold impl_HandAt.j0
    repeat' first
    | (with_reducible exact ih0 _ _ _ _ _ _)
    | (with_reducible exact impl_Hand_at.mono _ _ _ _ _ _)
    | (with_reducible exact impl_IsHand.mono _ _ _ _)
    | (with_reducible exact impl_IsTurn.mono _ _ _)
    | (with_reducible exact impl_ifTurn.mono _ _ _)
    | (with_reducible exact LeO.refl _)
    | (with_reducible exact LeO.none _)
    | (with_reducible refine LeO.ite ?_ ?_)
    | (with_reducible refine LeO.bind ?_ (fun _ => ?_))
    | exact ih0 _ _ _ _ _ _
    | exact impl_Hand_at.mono _ _ _ _ _ _
    | exact impl_IsHand.mono _ _ _ _
    | exact impl_IsTurn.mono _ _ _
    | exact impl_ifTurn.mono _ _ _
    | exact LeO.none _
    | refine LeO.ite ?_ ?_
    | refine LeO.bind ?_ (fun _ => ?_)
theorem impl_HandAt.mono : ∀ a0 a1 a2 a3 a4 k, LeO (impl_HandAt.f k a0 a1 a2 a3 a4) (impl_HandAt.f (k + 1) a0 a1 a2 a3 a4) := by
  intro a0 a1 a2 a3 a4 k
  have ih0 := impl_HandAt.mono_l k
  unfold impl_HandAt.f
  repeat' first
      | (with_reducible exact ih0 _ _ _ _ _ _)
      | (with_reducible exact impl_Hand_at.mono _ _ _ _ _ _)
      | (with_reducible exact impl_IsHand.mono _ _ _ _)
      | (with_reducible exact impl_IsTurn.mono _ _ _)
      | (with_reducible exact impl_ifTurn.mono _ _ _)
      | (with_reducible exact LeO.refl _)
      | (with_reducible exact LeO.none _)
      | (with_reducible refine LeO.ite ?_ ?_)
      | (with_reducible refine LeO.bind ?_ (fun _ => ?_))
      | exact ih0 _ _ _ _ _ _
      | exact impl_Hand_at.mono _ _ _ _ _ _
      | exact impl_IsHand.mono _ _ _ _
      | exact impl_IsTurn.mono _ _ _
      | exact impl_ifTurn.mono _ _ _
      | exact LeO.none _
      | refine LeO.ite ?_ ?_
      | refine LeO.bind ?_ (fun _ => ?_)
set_option maxHeartbeats 8000000 in
set_option maxRecDepth 100000 in
theorem impl_HandAt.calls (k : Nat) (a0_0 : Int) (a0_1 : Int) (a0_2 : Int) (a1_0 : Int) (a1_1 : Int) (r1 : Int) (r2 : Int) (r3 : Bool) (w : World) (h : impl_HandAt.f k a0_0 a0_1 a0_2 a1_0 a1_1 = some (r1, r2, r3)) :
    Calls Try.prog 19 #[.agg #[.int .i64 a0_0, .int .i64 a0_1, .int .i64 a0_2], .agg #[.int .i64 a1_0, .int .i64 a1_1]] w fun e w' => e = .returned (.tuple #[.agg #[.int .i64 r1, .int .i64 r2], .bool r3]) ∧ Below w.heap.size w w' := by
  have hu27 := Try.underlying27
  have hu25 := Try.underlying25
  have HB := Aside0.mk (Below.refl w.heap.size w)
  have H : ((impl_IsHand.f k a0_0 a0_1 a0_2).bind fun t493 => (if t493 = true then ((impl_IsTurn.f k a1_0 a1_1).bind fun t494 => (impl_HandAt.j0 k (!t494) a0_0 a0_1 a0_2 a1_0 a1_1)) else (impl_HandAt.j0 k true a0_0 a0_1 a0_2 a1_0 a1_1))) = some (r1, r2, r3) := h
  clear h
  have HC3 := Aside0.mk H
  clear H
  go_enter Try.func19, Try.ntmps19
  go_upto_region 1 with (first | ((with_reducible refine gate_dst (N := 2) rfl ?_); refine be #[.int .i64 a0_0, .int .i64 a0_1, .int .i64 a0_2] 27 ?_; intro gb490 hg w4 hbox hb; have BK490 := Aside0.mk hbox; have GW490 := zs HB hg; have GE490 := zs HB hg; replace HB := zB HB hb; clear hb hbox hg) | ((with_reducible refine gate_dst (N := 3) rfl ?_); refine be #[.int .i64 a1_0, .int .i64 a1_1] 25 ?_; intro gb491 hg w5 hbox hb; have BK491 := Aside0.mk hbox; have GW491 := zs HB hg; have GE491 := zs HB hg; have NB490_491 := zn BK490 hg; have NB491_490 := zm BK490 hg; replace BK490 := zb BK490 hb; replace HB := zB HB hb; clear hb hbox hg) | ((with_reducible refine gate_dst (N := 4) rfl ?_); refine be #[.int .i64 0, .int .i64 0] 25 ?_; intro gb492 hg w6 hbox hb; have BK492 := Aside0.mk hbox; have GW492 := zs HB hg; have GE492 := zs HB hg; have NB490_492 := zn BK490 hg; have NB492_490 := zm BK490 hg; have NB491_492 := zn BK491 hg; have NB492_491 := zm BK491 hg; replace BK490 := zb BK490 hb; replace BK491 := zb BK491 hb; replace HB := zB HB hb; clear hb hbox hg))
  (try simp only [Act.put, List.setIfInBounds_toArray, List.set_cons_zero, List.set_cons_succ])
  go_cut [13] (fun v13 wc => ∃ (kq : Nat) (x13_2 : Bool), v13 = .bool x13_2 ∧ Aside0 (impl_HandAt.j0 kq x13_2 a0_0 a0_1 a0_2 a1_0 a1_1 = some (r1, r2, r3)) ∧ Aside0 (kq ≤ k) ∧ Aside0 (wc.heap[gb490]? = some (.cells #[.int .i64 a0_0, .int .i64 a0_1, .int .i64 a0_2] 27 (0, 0))) ∧ Aside0 (wc.heap[gb491]? = some (.cells #[.int .i64 a1_0, .int .i64 a1_1] 25 (0, 0))) ∧ Aside0 (wc.heap[gb492]? = some (.cells #[.int .i64 0, .int .i64 0] 25 (0, 0))) ∧ Aside0 (Below w.heap.size w wc))
  case first =>
    have H := HC3.1
    clear HC3
    replace H := Option.bind_eq_some_iff.mp H
    obtain ⟨t493, A70, H⟩ := H
    (try dsimp only at H)
    have A7 := Aside0.mk A70
    clear A70
    by_cases c8 : t493 = true
    · subst c8
      rw [if_pos rfl] at H
      replace H := Option.bind_eq_some_iff.mp H
      obtain ⟨t494, A90, H⟩ := H
      (try dsimp only at H)
      have A9 := Aside0.mk A90
      clear A90
      have H' := Aside0.mk H
      clear H
      have hnb10 := NB490_491.1
      have hnc10 := NB491_490.1
      have hnb11 := NB490_492.1
      have hnc11 := NB492_490.1
      obtain ⟨hcz12_0, hcz12_1, hcz12_2, hfz12_0, hfz12_1, hfz12_2⟩ := zc3 BK490
      go_wp2_with (first | ((with_reducible refine gate_callee (f := 15) rfl ?_); refine gl (some 7) Try.func15 #[.agg #[.int .i64 a0_0, .int .i64 a0_1, .int .i64 a0_2]] ?_; (with_reducible refine (impl_IsHand.calls k a0_0 a0_1 a0_2 true _ A7.1).mono ?_); rintro e w13 ⟨rfl, hb⟩; refine ⟨_, rfl, ?_⟩; replace BK490 := zb BK490 hb; replace BK491 := zb BK491 hb; replace BK492 := zb BK492 hb; replace HB := zB HB hb; clear hb; have hnb14 := NB491_492.1; have hnc14 := NB492_491.1; obtain ⟨hcz15_0, hcz15_1, hfz15_0, hfz15_1⟩ := zc2 BK491) | (go_at_call 39; (with_reducible refine (impl_IsTurn.calls k a1_0 a1_1 t494 _ A9.1).mono ?_); rintro e w16 ⟨rfl, hb⟩; replace BK490 := zb BK490 hb; replace BK491 := zb BK491 hb; replace BK492 := zb BK492 hb; replace HB := zB HB hb; clear hb))
      go_meet
      case rel => exact ⟨_, (!t494), ew, H', le_, ⟨bk BK490⟩, ⟨bk BK491⟩, ⟨bk BK492⟩, ⟨bq HB⟩⟩
    replace c8 := Bool.eq_false_iff.mpr c8
    subst c8
    rw [if_neg (show ¬ (false = true) by decide)] at H
    have H' := Aside0.mk H
    clear H
    have hnb17 := NB490_491.1
    have hnc17 := NB491_490.1
    have hnb18 := NB490_492.1
    have hnc18 := NB492_490.1
    obtain ⟨hcz19_0, hcz19_1, hcz19_2, hfz19_0, hfz19_1, hfz19_2⟩ := zc3 BK490
    go_wp2_with (first | ((with_reducible refine gate_callee (f := 15) rfl ?_); refine gl (some 7) Try.func15 #[.agg #[.int .i64 a0_0, .int .i64 a0_1, .int .i64 a0_2]] ?_; (with_reducible refine (impl_IsHand.calls k a0_0 a0_1 a0_2 false _ A7.1).mono ?_); rintro e w20 ⟨rfl, hb⟩; refine ⟨_, rfl, ?_⟩; replace BK490 := zb BK490 hb; replace BK491 := zb BK491 hb; replace BK492 := zb BK492 hb; replace HB := zB HB hb; clear hb))
    go_meet
    case rel => exact ⟨_, (true), ew, H', le_, ⟨bk BK490⟩, ⟨bk BK491⟩, ⟨bk BK492⟩, ⟨bq HB⟩⟩
  clear HC3
  obtain ⟨kq, x13_2, rfl, HA, HJ2, BK490, BK491, BK492, HB⟩ := hcut
  cases kq with
  | zero => exact absurd HA.1 (by simp [impl_HandAt.j0])
  | succ kj2 =>
    have H := HA.1
    clear HA
    simp only [impl_HandAt.j0] at H
    by_cases c21 : x13_2 = true
    · subst c21
      rw [if_pos rfl] at H
      simp only [Option.some.injEq, Prod.mk.injEq] at H
      obtain ⟨rfl, rfl, rfl⟩ := H
      have hnb22 := NB492_490.1
      have hnc22 := NB490_492.1
      have hnb23 := NB492_491.1
      have hnc23 := NB491_492.1
      obtain ⟨hcz24_0, hcz24_1, hfz24_0, hfz24_1⟩ := zc2 BK492
      go_wp2
      refine bodyPost_ret (results_ct rfl _ _ gb492 25 #[.int .i64 0, .int .i64 0] (0, 0) _ rfl (bk BK492) Try.underlying25 rfl (by kernel_rfl)) rfl ?_
      exact ⟨er, bq HB⟩
    replace c21 := Bool.eq_false_iff.mpr c21
    subst c21
    rw [if_neg (show ¬ (false = true) by decide)] at H
    replace H := Option.bind_eq_some_iff.mp H
    obtain ⟨⟨t495, t496⟩, A250, H⟩ := H
    (try dsimp only at H)
    have A25 := Aside0.mk A250
    clear A250
    replace H := Option.bind_eq_some_iff.mp H
    obtain ⟨⟨t497, t498, t499⟩, A260, H⟩ := H
    (try dsimp only at H)
    have A26 := Aside0.mk A260
    clear A260
    simp only [Option.some.injEq, Prod.mk.injEq] at H
    obtain ⟨rfl, rfl, rfl⟩ := H
    have hnb27 := NB490_491.1
    have hnc27 := NB491_490.1
    have hnb28 := NB490_492.1
    have hnc28 := NB492_490.1
    obtain ⟨hcz29_0, hcz29_1, hcz29_2, hfz29_0, hfz29_1, hfz29_2⟩ := zc3 BK490
    have hnb30 := NB491_492.1
    have hnc30 := NB492_491.1
    obtain ⟨hcz31_0, hcz31_1, hfz31_0, hfz31_1⟩ := zc2 BK491
    go_wp2_with (first | ((with_reducible refine gate_callee (f := 31) rfl ?_); refine gl (some 17) Try.func31 #[.agg #[.int .i64 a0_0, .int .i64 a0_1, .int .i64 a0_2], .agg #[.int .i64 a1_0, .int .i64 a1_1]] ?_; (with_reducible refine (impl_Hand_at.calls kj2 a0_0 a0_1 a0_2 a1_0 a1_1 t495 t496 _ A25.1).mono ?_); rintro e w32 ⟨rfl, hb⟩; refine ⟨_, rfl, ?_⟩; replace BK490 := zb BK490 hb; replace BK491 := zb BK491 hb; replace BK492 := zb BK492 hb; replace HB := zB HB hb; clear hb) | ((with_reducible refine gate_callee (f := 40) rfl ?_); refine gl (some 18) Try.func40 #[.agg #[.int .i64 t495, .int .i64 t496]] ?_; (with_reducible refine (impl_ifTurn.calls kj2 t495 t496 t497 t498 t499 _ A26.1).mono ?_); rintro e w33 ⟨rfl, hb⟩; refine ⟨_, rfl, ?_⟩; replace BK490 := zb BK490 hb; replace BK491 := zb BK491 hb; replace BK492 := zb BK492 hb; replace HB := zB HB hb; clear hb; obtain ⟨hcz34_0, hcz34_1, hfz34_0, hfz34_1⟩ := zc2 BK492))
    refine bodyPost_ret (results_ct rfl _ _ gb492 25 #[.int .i64 t497, .int .i64 t498] (0, 0) _ rfl (bk BK492) Try.underlying25 rfl (by kernel_rfl)) rfl ?_
    exact ⟨er, bq HB⟩

end Go.Proofs.Ytoneipoioiokcaa.PFnHandsMeet
