/- A part of the walk of FnHandsAhead: which Lean function each Go function comes to, and that the machine's call does so. Written by a program of this repo (wip/gen/xprint.py). -/
import Derived.Test.YtoneipoioiokcabPFnHandsAheadx0
import Derived.Test.YtoneipoioiokcabPFnHandsAheadx3
import Derived.Test.YtoneipoioiokcabPFnHandsAheadx5
import Derived.Test.YtoneipoioiokcabPFnHandsAheadx6
import Derived.Test.YtoneipoioiokcabPFnHandsAheadx7
import Derived.Test.YtoneipoioiokcabPFnHandsAheadx11
import Derived.Test.YtoneipoioiokcabPFnHandsAheadx14
import Derived.Test.YtoneipoioiokcabPFnHandsAheadx15
namespace Go.Proofs.Ytoneipoioiokcab.PFnHandsAhead
open Go.RowKit Go.Proofs.YtoneipoioiokcabW.PrintWords Go.Proofs.YtoneipoioiokcabW.PrintLast Go.Proofs.YtoneipoioiokcabW.PrintMore
attribute [local go_sem] max2_int min2_int max_two min_two max_three min_three max_four min_four   -- for this text's walks alone
set_option linter.unusedVariables false
set_option linter.unusedSimpArgs false

/-! ### laws_kRises: function 16 -/
def laws_kRises.l0 : Nat → List (S25) → Int → Option (Bool)
  | 0, _, _ => none
  | k + 1, x0, x3 => if x3 < (x0.length : Int) then (if 0 ≤ (wrap64 (x3 - 1)) then (if (wrap64 (x3 - 1)) < (x0.length : Int) then (if 0 ≤ x3 then (if (wrap64 (((rd_T25 x0 (wrap64 (x3 - 1))).f0) * ((rd_T25 x0 x3).f1))) ≥ (wrap64 (((rd_T25 x0 x3).f0) * ((rd_T25 x0 (wrap64 (x3 - 1))).f1))) then (some false) else (laws_kRises.l0 k x0 (wrap64 (x3 + 1)))) else (none)) else (none)) else (none)) else (some true)
def laws_kRises.f (k : Nat) (l0 : List (S25)) : Option (Bool) := laws_kRises.l0 k l0 1
theorem laws_kRises.mono_l : ∀ k, (∀ y0 y1, LeO (laws_kRises.l0 k y0 y1) (laws_kRises.l0 (k + 1) y0 y1))
  | 0 => fun _ _ r h => by simp [laws_kRises.l0] at h
  | k + 1 => by
    have ih0 := laws_kRises.mono_l k
    intro y0 y1
    unfold laws_kRises.l0
    repeat' first
    | (with_reducible exact ih0 _ _)
    | (with_reducible exact LeO.refl _)
    | (with_reducible exact LeO.none _)
    | (with_reducible refine LeO.ite ?_ ?_)
    | (with_reducible refine LeO.bind ?_ (fun _ => ?_))
    | exact ih0 _ _
    | exact LeO.none _
    | refine LeO.ite ?_ ?_
    | refine LeO.bind ?_ (fun _ => ?_)
theorem laws_kRises.mono : ∀ a0 k, LeO (laws_kRises.f k a0) (laws_kRises.f (k + 1) a0) := by
  intro a0 k
  have ih0 := laws_kRises.mono_l k
  unfold laws_kRises.f
  repeat' first
      | (with_reducible exact ih0 _ _)
      | (with_reducible exact LeO.refl _)
      | (with_reducible exact LeO.none _)
      | (with_reducible refine LeO.ite ?_ ?_)
      | (with_reducible refine LeO.bind ?_ (fun _ => ?_))
      | exact ih0 _ _
      | exact LeO.none _
      | refine LeO.ite ?_ ?_
      | refine LeO.bind ?_ (fun _ => ?_)
set_option maxHeartbeats 8000000 in
set_option maxRecDepth 100000 in
theorem laws_kRises.calls (k : Nat) (A0 : Option Addr) (c0 : Nat) (l0 : List (S25)) (r : Bool) (w : World) (hr0 : Kd.C k25 w A0 l0.length l0) (hc0 : l0.length ≤ c0) (h : laws_kRises.f k l0 = some r) :
    Calls Try.prog 16 #[.slice A0 l0.length c0] w fun e w' => e = .returned (.bool r) ∧ Drawn0 w w' := by
  have HR0 := Aside0.mk hr0
  have HC0 := Aside0.mk hc0
  clear hr0 hc0
  have H : (laws_kRises.l0 k l0 1) = some r := h
  clear h
  have H' := Aside0.mk H
  clear H
  go_enter Try.func16, Try.ntmps16
  go_wp2
  repeat (go_quiet (fail); try go_wp2)
  go_loopg [3] k (fun kq v3 w' => ∃ (x3_1 : Int), v3 = .int .i64 x3_1 ∧ Aside0 (laws_kRises.l0 kq l0 x3_1 = some r) ∧ Aside0 (kq ≤ k) ∧ Drawn0 w w')
  case atStart => exact ⟨(1), ew, H', ⟨Nat.le_refl _⟩, by repeat (first | exact Drawn0.refl _ | apply Drawn0.step)⟩
  case round =>
    clear H'
    obtain ⟨x3_1, rfl, HA, HK1, ⟨m1, rfl⟩⟩ := hrel
    cases gk with
    | zero => exact absurd HA.1 (by simp [laws_kRises.l0])
    | succ k1 =>
      have H := HA.1
      clear HA
      simp only [laws_kRises.l0] at H
      by_cases c2 : x3_1 < (l0.length : Int)
      · rw [if_pos c2] at H
        have c2b0 : decide (x3_1 < (l0.length : Int)) = true := decide_eq_true c2
        clear c2
        obtain ⟨ji3, hji3⟩ : ∃ j_ : Int, (wrap64 (x3_1 - 1)) = j_ := ⟨_, rfl⟩
        replace H : (if 0 ≤ (ji3) then (if (ji3) < (l0.length : Int) then (if 0 ≤ x3_1 then (if (wrap64 (((rd_T25 l0 (ji3)).f0) * ((rd_T25 l0 x3_1).f1))) ≥ (wrap64 (((rd_T25 l0 x3_1).f0) * ((rd_T25 l0 (ji3)).f1))) then (some false) else (laws_kRises.l0 k1 l0 (wrap64 (x3_1 + 1)))) else (none)) else (none)) else (none)) = some r := by first | (rw [hji3] at H; exact H) | (simp only [hji3] at H ⊢; exact H)
        have hji3w : (IntKind.i64.wrap (x3_1 - 1)) = ji3 := (i64_w _).trans hji3
        by_cases c4 : 0 ≤ (ji3)
        · rw [if_pos c4] at H
          have c4b0 : decide (0 ≤ (ji3)) = true := decide_eq_true c4
          clear c4
          by_cases c5 : (ji3) < (l0.length : Int)
          · rw [if_pos c5] at H
            have c5b0 : decide ((ji3) < (l0.length : Int)) = true := decide_eq_true c5
            clear c5
            by_cases c6 : 0 ≤ x3_1
            · rw [if_pos c6] at H
              have c6b0 : decide (0 ≤ x3_1) = true := decide_eq_true c6
              clear c6
              by_cases c7 : (wrap64 (((rd_T25 l0 (ji3)).f0) * ((rd_T25 l0 x3_1).f1))) ≥ (wrap64 (((rd_T25 l0 x3_1).f0) * ((rd_T25 l0 (ji3)).f1)))
              · rw [if_pos c7] at H
                have c7b0 : decide ((wrap64 (((rd_T25 l0 x3_1).f0) * ((rd_T25 l0 (ji3)).f1))) ≤ (wrap64 (((rd_T25 l0 (ji3)).f0) * ((rd_T25 l0 x3_1).f1)))) = true := decide_eq_true c7
                clear c7
                obtain rfl := Option.some.inj H
                have p442 : 0 ≤ ((ji3) : Int) := of_decide_eq_true (by first | (with_reducible assumption) | assumption)
                have q442 : (ji3) < (l0.length : Int) := of_decide_eq_true (by first | (with_reducible assumption) | assumption)
                obtain ⟨ad442, e442, hx442_0, hx442_1⟩ := at_T25 HR0.1 (ji3) p442 q442
                cases e442
                replace p442 := eq_true p442
                replace q442 := eq_true q442
                have p443 : 0 ≤ (x3_1 : Int) := of_decide_eq_true (by first | (with_reducible assumption) | assumption)
                have q443 : x3_1 < (l0.length : Int) := of_decide_eq_true (by first | (with_reducible assumption) | assumption)
                obtain ⟨ad443, e443, hx443_0, hx443_1⟩ := at_T25 HR0.1 x3_1 p443 q443
                obtain rfl : ad442 = ad443 := (by injection e443)
                replace p443 := eq_true p443
                replace q443 := eq_true q443
                have p444 : 0 ≤ (x3_1 : Int) := of_decide_eq_true (by first | (with_reducible assumption) | assumption)
                have q444 : x3_1 < (l0.length : Int) := of_decide_eq_true (by first | (with_reducible assumption) | assumption)
                obtain ⟨ad444, e444, hx444_0, hx444_1⟩ := at_T25 HR0.1 x3_1 p444 q444
                obtain rfl : ad442 = ad444 := (by injection e444)
                replace p444 := eq_true p444
                replace q444 := eq_true q444
                have p445 : 0 ≤ ((ji3) : Int) := of_decide_eq_true (by first | (with_reducible assumption) | assumption)
                have q445 : (ji3) < (l0.length : Int) := of_decide_eq_true (by first | (with_reducible assumption) | assumption)
                obtain ⟨ad445, e445, hx445_0, hx445_1⟩ := at_T25 HR0.1 (ji3) p445 q445
                obtain rfl : ad442 = ad445 := (by injection e445)
                replace p445 := eq_true p445
                replace q445 := eq_true q445
                go_wp2
                repeat (go_quiet (fail); try go_wp2)
                go_ret
                exact ⟨by first | rfl | (simp; done) | (simp only [← hji3] <;> (first | rfl | simp)) | (simp [*]; done), by repeat (first | exact Drawn0.refl _ | apply Drawn0.step)⟩
              rw [if_neg c7] at H
              have c7b0 : decide ((wrap64 (((rd_T25 l0 x3_1).f0) * ((rd_T25 l0 (ji3)).f1))) ≤ (wrap64 (((rd_T25 l0 (ji3)).f0) * ((rd_T25 l0 x3_1).f1)))) = false := decide_eq_false c7
              clear c7
              have H' := Aside0.mk H
              clear H
              have p442 : 0 ≤ ((ji3) : Int) := of_decide_eq_true (by first | (with_reducible assumption) | assumption)
              have q442 : (ji3) < (l0.length : Int) := of_decide_eq_true (by first | (with_reducible assumption) | assumption)
              obtain ⟨ad442, e442, hx442_0, hx442_1⟩ := at_T25 HR0.1 (ji3) p442 q442
              cases e442
              replace p442 := eq_true p442
              replace q442 := eq_true q442
              have p443 : 0 ≤ (x3_1 : Int) := of_decide_eq_true (by first | (with_reducible assumption) | assumption)
              have q443 : x3_1 < (l0.length : Int) := of_decide_eq_true (by first | (with_reducible assumption) | assumption)
              obtain ⟨ad443, e443, hx443_0, hx443_1⟩ := at_T25 HR0.1 x3_1 p443 q443
              obtain rfl : ad442 = ad443 := (by injection e443)
              replace p443 := eq_true p443
              replace q443 := eq_true q443
              have p444 : 0 ≤ (x3_1 : Int) := of_decide_eq_true (by first | (with_reducible assumption) | assumption)
              have q444 : x3_1 < (l0.length : Int) := of_decide_eq_true (by first | (with_reducible assumption) | assumption)
              obtain ⟨ad444, e444, hx444_0, hx444_1⟩ := at_T25 HR0.1 x3_1 p444 q444
              obtain rfl : ad442 = ad444 := (by injection e444)
              replace p444 := eq_true p444
              replace q444 := eq_true q444
              have p445 : 0 ≤ ((ji3) : Int) := of_decide_eq_true (by first | (with_reducible assumption) | assumption)
              have q445 : (ji3) < (l0.length : Int) := of_decide_eq_true (by first | (with_reducible assumption) | assumption)
              obtain ⟨ad445, e445, hx445_0, hx445_1⟩ := at_T25 HR0.1 (ji3) p445 q445
              obtain rfl : ad442 = ad445 := (by injection e445)
              replace p445 := eq_true p445
              replace q445 := eq_true q445
              go_wp2
              repeat (go_quiet (fail); try go_wp2)
              go_roundg k1
              case measure => have := HK1.1; omega
              case rel => exact ⟨(wrap64 (x3_1 + 1)), ew, H', ⟨by have := HK1.1; omega⟩, by repeat (first | exact Drawn0.refl _ | apply Drawn0.step)⟩
            rw [if_neg c6] at H
            exact absurd H (by simp)
          rw [if_neg c5] at H
          exact absurd H (by simp)
        rw [if_neg c4] at H
        exact absurd H (by simp)
      rw [if_neg c2] at H
      have c2b0 : decide (x3_1 < (l0.length : Int)) = false := decide_eq_false c2
      clear c2
      obtain rfl := Option.some.inj H
      go_wp2
      repeat (go_quiet (fail); try go_wp2)
      go_ret
      exact ⟨by first | rfl | (simp; done) | (simp [*]; done), by repeat (first | exact Drawn0.refl _ | apply Drawn0.step)⟩

/-! ### impl_HandAt: function 17 -/
def impl_HandAt.j0 : Nat → Bool → Int → Int → Int → Int → Int → Option (Int × Int × Bool)
  | 0, _, _, _, _, _, _ => none
  | k + 1, x13, x447000, x447001, x447002, x448000, x448001 => if x13 = true then (some (0, 0, false)) else ((impl_Hand_at.f k x447000 x447001 x447002 x448000 x448001).bind fun bt451 => ((impl_ifTurn.f k bt451.1 bt451.2).bind fun bt453 => (some (bt453.1, bt453.2.1, bt453.2.2))))
def impl_HandAt.f (k : Nat) (a0_0 : Int) (a0_1 : Int) (a0_2 : Int) (a1_0 : Int) (a1_1 : Int) : Option (Int × Int × Bool) := (impl_IsHand.f k a0_0 a0_1 a0_2).bind fun t449 => (if t449 = true then ((impl_IsTurn.f k a1_0 a1_1).bind fun t450 => (impl_HandAt.j0 k (!t450) a0_0 a0_1 a0_2 a1_0 a1_1)) else (impl_HandAt.j0 k true a0_0 a0_1 a0_2 a1_0 a1_1))
theorem impl_HandAt.mono_l : ∀ k, (∀ y0 y1 y2 y3 y4 y5, LeO (impl_HandAt.j0 k y0 y1 y2 y3 y4 y5) (impl_HandAt.j0 (k + 1) y0 y1 y2 y3 y4 y5))
  | 0 => fun _ _ _ _ _ _ r h => by simp [impl_HandAt.j0] at h
  | k + 1 => by
    have ih0 := impl_HandAt.mono_l k
    intro y0 y1 y2 y3 y4 y5
    unfold impl_HandAt.j0
    repeat' first
    | (with_reducible exact ih0 _ _ _ _ _ _)
    | (with_reducible exact impl_Hand_at.mono _ _ _ _ _ _)
    | (with_reducible exact impl_IsHand.mono _ _ _ _)
    | (with_reducible exact impl_IsTurn.mono _ _ _)
    | (with_reducible exact impl_ifTurn.mono _ _ _)
    | (with_reducible exact LeO.refl _)
    | (with_reducible exact LeO.none _)
    | (with_reducible refine LeO.ite ?_ ?_)
    | (with_reducible refine LeO.bind ?_ (fun _ => ?_))
    | exact ih0 _ _ _ _ _ _
    | exact impl_Hand_at.mono _ _ _ _ _ _
    | exact impl_IsHand.mono _ _ _ _
    | exact impl_IsTurn.mono _ _ _
    | exact impl_ifTurn.mono _ _ _
    | exact LeO.none _
    | refine LeO.ite ?_ ?_
    | refine LeO.bind ?_ (fun _ => ?_)
theorem impl_HandAt.mono : ∀ a0 a1 a2 a3 a4 k, LeO (impl_HandAt.f k a0 a1 a2 a3 a4) (impl_HandAt.f (k + 1) a0 a1 a2 a3 a4) := by
  intro a0 a1 a2 a3 a4 k
  have ih0 := impl_HandAt.mono_l k
  unfold impl_HandAt.f
  repeat' first
      | (with_reducible exact ih0 _ _ _ _ _ _)
      | (with_reducible exact impl_Hand_at.mono _ _ _ _ _ _)
      | (with_reducible exact impl_IsHand.mono _ _ _ _)
      | (with_reducible exact impl_IsTurn.mono _ _ _)
      | (with_reducible exact impl_ifTurn.mono _ _ _)
      | (with_reducible exact LeO.refl _)
      | (with_reducible exact LeO.none _)
      | (with_reducible refine LeO.ite ?_ ?_)
      | (with_reducible refine LeO.bind ?_ (fun _ => ?_))
      | exact ih0 _ _ _ _ _ _
      | exact impl_Hand_at.mono _ _ _ _ _ _
      | exact impl_IsHand.mono _ _ _ _
      | exact impl_IsTurn.mono _ _ _
      | exact impl_ifTurn.mono _ _ _
      | exact LeO.none _
      | refine LeO.ite ?_ ?_
      | refine LeO.bind ?_ (fun _ => ?_)
set_option maxHeartbeats 8000000 in
set_option maxRecDepth 100000 in
theorem impl_HandAt.calls (k : Nat) (a0_0 : Int) (a0_1 : Int) (a0_2 : Int) (a1_0 : Int) (a1_1 : Int) (r1 : Int) (r2 : Int) (r3 : Bool) (w : World) (h : impl_HandAt.f k a0_0 a0_1 a0_2 a1_0 a1_1 = some (r1, r2, r3)) :
    Calls Try.prog 17 #[.agg #[.int .i64 a0_0, .int .i64 a0_1, .int .i64 a0_2], .agg #[.int .i64 a1_0, .int .i64 a1_1]] w fun e w' => e = .returned (.tuple #[.agg #[.int .i64 r1, .int .i64 r2], .bool r3]) ∧ Below w.heap.size w w' := by
  have hu27 := Try.underlying27
  have hu25 := Try.underlying25
  have HB := Aside0.mk (Below.refl w.heap.size w)
  have H : ((impl_IsHand.f k a0_0 a0_1 a0_2).bind fun t449 => (if t449 = true then ((impl_IsTurn.f k a1_0 a1_1).bind fun t450 => (impl_HandAt.j0 k (!t450) a0_0 a0_1 a0_2 a1_0 a1_1)) else (impl_HandAt.j0 k true a0_0 a0_1 a0_2 a1_0 a1_1))) = some (r1, r2, r3) := h
  clear h
  have HC3 := Aside0.mk H
  clear H
  go_enter Try.func17, Try.ntmps17
  go_upto_region 1 with (first | ((with_reducible refine gate_dst (N := 2) rfl ?_); refine be #[.int .i64 a0_0, .int .i64 a0_1, .int .i64 a0_2] 27 ?_; intro gb446 hg w4 hbox hb; have BK446 := Aside0.mk hbox; have GW446 := zs HB hg; have GE446 := zs HB hg; replace HB := zB HB hb; clear hb hbox hg) | ((with_reducible refine gate_dst (N := 3) rfl ?_); refine be #[.int .i64 a1_0, .int .i64 a1_1] 25 ?_; intro gb447 hg w5 hbox hb; have BK447 := Aside0.mk hbox; have GW447 := zs HB hg; have GE447 := zs HB hg; have NB446_447 := zn BK446 hg; have NB447_446 := zm BK446 hg; replace BK446 := zb BK446 hb; replace HB := zB HB hb; clear hb hbox hg) | ((with_reducible refine gate_dst (N := 4) rfl ?_); refine be #[.int .i64 0, .int .i64 0] 25 ?_; intro gb448 hg w6 hbox hb; have BK448 := Aside0.mk hbox; have GW448 := zs HB hg; have GE448 := zs HB hg; have NB446_448 := zn BK446 hg; have NB448_446 := zm BK446 hg; have NB447_448 := zn BK447 hg; have NB448_447 := zm BK447 hg; replace BK446 := zb BK446 hb; replace BK447 := zb BK447 hb; replace HB := zB HB hb; clear hb hbox hg))
  (try simp only [Act.put, List.setIfInBounds_toArray, List.set_cons_zero, List.set_cons_succ])
  go_cut [13] (fun v13 wc => ∃ (kq : Nat) (x13_2 : Bool), v13 = .bool x13_2 ∧ Aside0 (impl_HandAt.j0 kq x13_2 a0_0 a0_1 a0_2 a1_0 a1_1 = some (r1, r2, r3)) ∧ Aside0 (kq ≤ k) ∧ Aside0 (wc.heap[gb446]? = some (.cells #[.int .i64 a0_0, .int .i64 a0_1, .int .i64 a0_2] 27 (0, 0))) ∧ Aside0 (wc.heap[gb447]? = some (.cells #[.int .i64 a1_0, .int .i64 a1_1] 25 (0, 0))) ∧ Aside0 (wc.heap[gb448]? = some (.cells #[.int .i64 0, .int .i64 0] 25 (0, 0))) ∧ Aside0 (Below w.heap.size w wc))
  case first =>
    have H := HC3.1
    clear HC3
    replace H := Option.bind_eq_some_iff.mp H
    obtain ⟨t449, A70, H⟩ := H
    (try dsimp only at H)
    have A7 := Aside0.mk A70
    clear A70
    by_cases c8 : t449 = true
    · subst c8
      rw [if_pos rfl] at H
      replace H := Option.bind_eq_some_iff.mp H
      obtain ⟨t450, A90, H⟩ := H
      (try dsimp only at H)
      have A9 := Aside0.mk A90
      clear A90
      have H' := Aside0.mk H
      clear H
      have hnb10 := NB446_447.1
      have hnc10 := NB447_446.1
      have hnb11 := NB446_448.1
      have hnc11 := NB448_446.1
      obtain ⟨hcz12_0, hcz12_1, hcz12_2, hfz12_0, hfz12_1, hfz12_2⟩ := zc3 BK446
      go_wp2_with (first | ((with_reducible refine gate_callee (f := 42) rfl ?_); refine gl (some 7) Try.func42 #[.agg #[.int .i64 a0_0, .int .i64 a0_1, .int .i64 a0_2]] ?_; (with_reducible refine (impl_IsHand.calls k a0_0 a0_1 a0_2 true _ A7.1).mono ?_); rintro e w13 ⟨rfl, hb⟩; refine ⟨_, rfl, ?_⟩; replace BK446 := zb BK446 hb; replace BK447 := zb BK447 hb; replace BK448 := zb BK448 hb; replace HB := zB HB hb; clear hb; have hnb14 := NB447_448.1; have hnc14 := NB448_447.1; obtain ⟨hcz15_0, hcz15_1, hfz15_0, hfz15_1⟩ := zc2 BK447) | (go_at_call 35; (with_reducible refine (impl_IsTurn.calls k a1_0 a1_1 t450 _ A9.1).mono ?_); rintro e w16 ⟨rfl, hb⟩; replace BK446 := zb BK446 hb; replace BK447 := zb BK447 hb; replace BK448 := zb BK448 hb; replace HB := zB HB hb; clear hb))
      go_meet
      case rel => exact ⟨_, (!t450), ew, H', le_, ⟨bk BK446⟩, ⟨bk BK447⟩, ⟨bk BK448⟩, ⟨bq HB⟩⟩
    replace c8 := Bool.eq_false_iff.mpr c8
    subst c8
    rw [if_neg (show ¬ (false = true) by decide)] at H
    have H' := Aside0.mk H
    clear H
    have hnb17 := NB446_447.1
    have hnc17 := NB447_446.1
    have hnb18 := NB446_448.1
    have hnc18 := NB448_446.1
    obtain ⟨hcz19_0, hcz19_1, hcz19_2, hfz19_0, hfz19_1, hfz19_2⟩ := zc3 BK446
    go_wp2_with (first | ((with_reducible refine gate_callee (f := 42) rfl ?_); refine gl (some 7) Try.func42 #[.agg #[.int .i64 a0_0, .int .i64 a0_1, .int .i64 a0_2]] ?_; (with_reducible refine (impl_IsHand.calls k a0_0 a0_1 a0_2 false _ A7.1).mono ?_); rintro e w20 ⟨rfl, hb⟩; refine ⟨_, rfl, ?_⟩; replace BK446 := zb BK446 hb; replace BK447 := zb BK447 hb; replace BK448 := zb BK448 hb; replace HB := zB HB hb; clear hb))
    go_meet
    case rel => exact ⟨_, (true), ew, H', le_, ⟨bk BK446⟩, ⟨bk BK447⟩, ⟨bk BK448⟩, ⟨bq HB⟩⟩
  clear HC3
  obtain ⟨kq, x13_2, rfl, HA, HJ2, BK446, BK447, BK448, HB⟩ := hcut
  cases kq with
  | zero => exact absurd HA.1 (by simp [impl_HandAt.j0])
  | succ kj2 =>
    have H := HA.1
    clear HA
    simp only [impl_HandAt.j0] at H
    by_cases c21 : x13_2 = true
    · subst c21
      rw [if_pos rfl] at H
      simp only [Option.some.injEq, Prod.mk.injEq] at H
      obtain ⟨rfl, rfl, rfl⟩ := H
      have hnb22 := NB448_446.1
      have hnc22 := NB446_448.1
      have hnb23 := NB448_447.1
      have hnc23 := NB447_448.1
      obtain ⟨hcz24_0, hcz24_1, hfz24_0, hfz24_1⟩ := zc2 BK448
      go_wp2
      refine bodyPost_ret (results_ct rfl _ _ gb448 25 #[.int .i64 0, .int .i64 0] (0, 0) _ rfl (bk BK448) Try.underlying25 rfl (by kernel_rfl)) rfl ?_
      exact ⟨er, bq HB⟩
    replace c21 := Bool.eq_false_iff.mpr c21
    subst c21
    rw [if_neg (show ¬ (false = true) by decide)] at H
    replace H := Option.bind_eq_some_iff.mp H
    obtain ⟨⟨t451, t452⟩, A250, H⟩ := H
    (try dsimp only at H)
    have A25 := Aside0.mk A250
    clear A250
    replace H := Option.bind_eq_some_iff.mp H
    obtain ⟨⟨t453, t454, t455⟩, A260, H⟩ := H
    (try dsimp only at H)
    have A26 := Aside0.mk A260
    clear A260
    simp only [Option.some.injEq, Prod.mk.injEq] at H
    obtain ⟨rfl, rfl, rfl⟩ := H
    have hnb27 := NB446_447.1
    have hnc27 := NB447_446.1
    have hnb28 := NB446_448.1
    have hnc28 := NB448_446.1
    obtain ⟨hcz29_0, hcz29_1, hcz29_2, hfz29_0, hfz29_1, hfz29_2⟩ := zc3 BK446
    have hnb30 := NB447_448.1
    have hnc30 := NB448_447.1
    obtain ⟨hcz31_0, hcz31_1, hfz31_0, hfz31_1⟩ := zc2 BK447
    go_wp2_with (first | ((with_reducible refine gate_callee (f := 38) rfl ?_); refine gl (some 17) Try.func38 #[.agg #[.int .i64 a0_0, .int .i64 a0_1, .int .i64 a0_2], .agg #[.int .i64 a1_0, .int .i64 a1_1]] ?_; (with_reducible refine (impl_Hand_at.calls kj2 a0_0 a0_1 a0_2 a1_0 a1_1 t451 t452 _ A25.1).mono ?_); rintro e w32 ⟨rfl, hb⟩; refine ⟨_, rfl, ?_⟩; replace BK446 := zb BK446 hb; replace BK447 := zb BK447 hb; replace BK448 := zb BK448 hb; replace HB := zB HB hb; clear hb) | ((with_reducible refine gate_callee (f := 36) rfl ?_); refine gl (some 18) Try.func36 #[.agg #[.int .i64 t451, .int .i64 t452]] ?_; (with_reducible refine (impl_ifTurn.calls kj2 t451 t452 t453 t454 t455 _ A26.1).mono ?_); rintro e w33 ⟨rfl, hb⟩; refine ⟨_, rfl, ?_⟩; replace BK446 := zb BK446 hb; replace BK447 := zb BK447 hb; replace BK448 := zb BK448 hb; replace HB := zB HB hb; clear hb; obtain ⟨hcz34_0, hcz34_1, hfz34_0, hfz34_1⟩ := zc2 BK448))
    refine bodyPost_ret (results_ct rfl _ _ gb448 25 #[.int .i64 t453, .int .i64 t454] (0, 0) _ rfl (bk BK448) Try.underlying25 rfl (by kernel_rfl)) rfl ?_
    exact ⟨er, bq HB⟩

/-! ### spec_DrawThreeMeet: function 18 -/
def spec_DrawThreeMeet.f (k : Nat) (l0 : List Int) : Option (Int × Int × Int × Int × Int × Int × Int × Int × Int) := (spec_l1Cur_hand.f k l0 0 0).bind fun b => (spec_l1Cur_hand.f k l0 b.2.2.2.1 b.2.2.2.2).bind fun c => (spec_l1Cur_hand.f k l0 c.2.2.2.1 c.2.2.2.2).bind fun d => some (b.1, b.2.1, b.2.2.1, c.1, c.2.1, c.2.2.1, d.1, d.2.1, d.2.2.1)
theorem spec_DrawThreeMeet.mono : ∀ a0 k, LeO (spec_DrawThreeMeet.f k a0) (spec_DrawThreeMeet.f (k + 1) a0) := by
  intro a0 k
  unfold spec_DrawThreeMeet.f
  exact LeO.bind (spec_l1Cur_hand.mono _ _ _ _) (fun _ => LeO.bind (spec_l1Cur_hand.mono _ _ _ _) (fun _ => LeO.bind (spec_l1Cur_hand.mono _ _ _ _) (fun _ => LeO.refl _)))
set_option maxHeartbeats 8000000 in
set_option maxRecDepth 100000 in
theorem spec_DrawThreeMeet.calls (k : Nat) (A0 : Option Addr) (c0 : Nat) (l0 : List Int) (r1 r2 r3 r4 r5 r6 r7 r8 r9 : Int) (w : World) (hr0 : Kd.C (Kd.int .u8) w A0 l0.length l0) (hc0 : l0.length ≤ c0) (h : spec_DrawThreeMeet.f k l0 = some (r1, r2, r3, r4, r5, r6, r7, r8, r9)) :
    Calls Try.prog 18 #[.slice A0 l0.length c0] w fun e w' => e = .returned (.tuple #[.agg #[.int .i64 r1, .int .i64 r2, .int .i64 r3], .agg #[.int .i64 r4, .int .i64 r5, .int .i64 r6], .agg #[.int .i64 r7, .int .i64 r8, .int .i64 r9]]) ∧ Below w.heap.size w w' := by
  unfold spec_DrawThreeMeet.f at h
  obtain ⟨⟨v0a, v0b, v0c, i0, s0⟩, e0, h⟩ := Option.bind_eq_some_iff.mp h
  dsimp only at h
  obtain ⟨⟨v1a, v1b, v1c, i1, s1⟩, e1, h⟩ := Option.bind_eq_some_iff.mp h
  dsimp only at h
  obtain ⟨⟨v2a, v2b, v2c, i2, s2⟩, e2, h⟩ := Option.bind_eq_some_iff.mp h
  dsimp only at h
  simp only [Option.some.injEq, Prod.mk.injEq] at h
  obtain ⟨rfl, rfl, rfl, rfl, rfl, rfl, rfl, rfl, rfl⟩ := h
  have hu0 := Try.underlying27
  have huT := Try.underlying25
  go_enter Try.func18, Try.ntmps18
  go_upto_region 2 with (fail)
  refine Own.gen (Own.boxes4 w) ?_
  intro w1 HO
  generalize w.heap.size + 1 + 1 + 1 = gs at HO ⊢
  generalize w.heap.size + 1 + 1 = g4 at HO ⊢
  generalize w.heap.size + 1 = g3 at HO ⊢
  generalize w.heap.size = g2 at HO ⊢
  have z := HO.at_ 3 gs _ rfl
  have Z0 := Aside0.mk (HO.at_ 0 g2 _ rfl).2
  have lb0 := Aside0.mk (HO.at_ 0 g2 _ rfl).1
  have n0 : g2 ≠ gs := HO.ne (i := 0) (j := 3) rfl rfl (by decide)
  have Z1 := Aside0.mk (HO.at_ 1 g3 _ rfl).2
  have lb1 := Aside0.mk (HO.at_ 1 g3 _ rfl).1
  have n1 : g3 ≠ gs := HO.ne (i := 1) (j := 3) rfl rfl (by decide)
  have Z2 := Aside0.mk (HO.at_ 2 g4 _ rfl).2
  have lb2 := Aside0.mk (HO.at_ 2 g4 _ rfl).1
  have n2 : g4 ≠ gs := HO.ne (i := 2) (j := 3) rfl rfl (by decide)
  have n0_1 : g2 ≠ g3 := HO.ne (i := 0) (j := 1) rfl rfl (by decide)
  have n0_2 : g2 ≠ g4 := HO.ne (i := 0) (j := 2) rfl rfl (by decide)
  have n1_0 : g3 ≠ g2 := HO.ne (i := 1) (j := 0) rfl rfl (by decide)
  have n1_2 : g3 ≠ g4 := HO.ne (i := 1) (j := 2) rfl rfl (by decide)
  have n2_0 : g4 ≠ g2 := HO.ne (i := 2) (j := 0) rfl rfl (by decide)
  have n2_1 : g4 ≠ g3 := HO.ne (i := 2) (j := 1) rfl rfl (by decide)
  have hI : IsS59 w w1 gs l0 0 0 := ⟨A0, c0, z.2, z.1, hr0⟩
  have C0 := Aside0.mk (spec_l1Cur_hand.calls k gs l0 0 0 v0a v0b v0c i0 s0 w w1 hI HO.below e0)
  have C1 := fun w2 (h2 : IsS59 w w2 gs l0 i0 s0) (hb2 : Below w.heap.size w w2) => spec_l1Cur_hand.calls k gs l0 i0 s0 v1a v1b v1c i1 s1 w w2 h2 hb2 e1
  have C2 := fun w2 (h2 : IsS59 w w2 gs l0 i1 s1) (hb2 : Below w.heap.size w w2) => spec_l1Cur_hand.calls k gs l0 i1 s1 v2a v2b v2c i2 s2 w w2 h2 hb2 e2
  clear hI z HO hr0 hc0 e0 e1 e2
  go_wp2_with (first
    | (go_at_call 44; refine C0.1.mono ?_; rintro e w2 ⟨rfl, hI0, hb0, hk0⟩; have D1 := Aside0.mk (C1 w2 hI0 hb0); replace Z0 := Aside0.mk ((hk0.2 g2 (blk_lt Z0.1) n0 (by simp)).trans Z0.1); replace Z1 := Aside0.mk ((hk0.2 g3 (blk_lt Z1.1) n1 (by simp)).trans Z1.1); replace Z2 := Aside0.mk ((hk0.2 g4 (blk_lt Z2.1) n2 (by simp)).trans Z2.1); clear C0 hI0 hb0 hk0 C1)
    | (go_at_call 44; refine D1.1.mono ?_; rintro e w3 ⟨rfl, hI1, hb1, hk1⟩; have D2 := Aside0.mk (C2 w3 hI1 hb1); replace Z0 := Aside0.mk ((hk1.2 g2 (blk_lt Z0.1) n0 (by simp)).trans Z0.1); replace Z1 := Aside0.mk ((hk1.2 g3 (blk_lt Z1.1) n1 (by simp)).trans Z1.1); replace Z2 := Aside0.mk ((hk1.2 g4 (blk_lt Z2.1) n2 (by simp)).trans Z2.1); clear D1 hI1 hb1 hk1 C2)
    | (go_at_call 44; refine D2.1.mono ?_; rintro e w4 ⟨rfl, hI2, hb2, hk2⟩; replace Z0 := Aside0.mk ((hk2.2 g2 (blk_lt Z0.1) n0 (by simp)).trans Z0.1); replace Z1 := Aside0.mk ((hk2.2 g3 (blk_lt Z1.1) n1 (by simp)).trans Z1.1); replace Z2 := Aside0.mk ((hk2.2 g4 (blk_lt Z2.1) n2 (by simp)).trans Z2.1); have HB := Aside0.mk hb2; obtain ⟨p0_0, p0_1, p0_2, f0_0, f0_1, f0_2⟩ := zc3 Z0; obtain ⟨p1_0, p1_1, p1_2, f1_0, f1_1, f1_2⟩ := zc3 Z1; obtain ⟨p2_0, p2_1, p2_2, f2_0, f2_1, f2_2⟩ := zc3 Z2; clear D2 hI2 hb2 hk2))
  have G0 := (blk_far (blk_far (blk_far (blk_far (blk_far (blk_far (blk_put (cs' := #[.int .i64 v0a, .int .i64 v0b, .int .i64 v0c]) (blk_put (cs' := #[.int .i64 v0a, .int .i64 v0b, .int .i64 0]) (blk_put (cs' := #[.int .i64 v0a, .int .i64 0, .int .i64 0]) Z0.1 0 (.int .i64 v0a) rfl) 1 (.int .i64 v0b) rfl) 2 (.int .i64 v0c) rfl) (p := ⟨g3, 0, none⟩) n0_1 (.int .i64 v1a)) (p := ⟨g3, 1, none⟩) n0_1 (.int .i64 v1b)) (p := ⟨g3, 2, none⟩) n0_1 (.int .i64 v1c)) (p := ⟨g4, 0, none⟩) n0_2 (.int .i64 v2a)) (p := ⟨g4, 1, none⟩) n0_2 (.int .i64 v2b)) (p := ⟨g4, 2, none⟩) n0_2 (.int .i64 v2c))
  have G1 := (blk_far (blk_far (blk_far (blk_put (cs' := #[.int .i64 v1a, .int .i64 v1b, .int .i64 v1c]) (blk_put (cs' := #[.int .i64 v1a, .int .i64 v1b, .int .i64 0]) (blk_put (cs' := #[.int .i64 v1a, .int .i64 0, .int .i64 0]) (blk_far (blk_far (blk_far Z1.1 (p := ⟨g2, 0, none⟩) n1_0 (.int .i64 v0a)) (p := ⟨g2, 1, none⟩) n1_0 (.int .i64 v0b)) (p := ⟨g2, 2, none⟩) n1_0 (.int .i64 v0c)) 0 (.int .i64 v1a) rfl) 1 (.int .i64 v1b) rfl) 2 (.int .i64 v1c) rfl) (p := ⟨g4, 0, none⟩) n1_2 (.int .i64 v2a)) (p := ⟨g4, 1, none⟩) n1_2 (.int .i64 v2b)) (p := ⟨g4, 2, none⟩) n1_2 (.int .i64 v2c))
  have G2 := (blk_put (cs' := #[.int .i64 v2a, .int .i64 v2b, .int .i64 v2c]) (blk_put (cs' := #[.int .i64 v2a, .int .i64 v2b, .int .i64 0]) (blk_put (cs' := #[.int .i64 v2a, .int .i64 0, .int .i64 0]) (blk_far (blk_far (blk_far (blk_far (blk_far (blk_far Z2.1 (p := ⟨g2, 0, none⟩) n2_0 (.int .i64 v0a)) (p := ⟨g2, 1, none⟩) n2_0 (.int .i64 v0b)) (p := ⟨g2, 2, none⟩) n2_0 (.int .i64 v0c)) (p := ⟨g3, 0, none⟩) n2_1 (.int .i64 v1a)) (p := ⟨g3, 1, none⟩) n2_1 (.int .i64 v1b)) (p := ⟨g3, 2, none⟩) n2_1 (.int .i64 v1c)) 0 (.int .i64 v2a) rfl) 1 (.int .i64 v2b) rfl) 2 (.int .i64 v2c) rfl)
  refine bodyPost_ret (results_list (rs := [.cell 2 27, .cell 3 27, .cell 4 27]) rfl (by simp) (.cell g2 27 #[.int .i64 v0a, .int .i64 v0b, .int .i64 v0c] (0, 0) _ rfl G0 Try.underlying27 rfl (by kernel_rfl) (.cell g3 27 #[.int .i64 v1a, .int .i64 v1b, .int .i64 v1c] (0, 0) _ rfl G1 Try.underlying27 rfl (by kernel_rfl) (.cell g4 27 #[.int .i64 v2a, .int .i64 v2b, .int .i64 v2c] (0, 0) _ rfl G2 Try.underlying27 rfl (by kernel_rfl) .nil)))) rfl ?_
  exact ⟨rfl, (below_set (below_set (below_set (below_set (below_set (below_set (below_set (below_set (below_set HB.1 lb0.out) lb0.out) lb0.out) lb1.out) lb1.out) lb1.out) lb2.out) lb2.out) lb2.out)⟩

/-! ### impl_MeetTimes: function 21 -/
def impl_MeetTimes.f (k : Nat) (a0_0 : Int) (a0_1 : Int) (a0_2 : Int) (a1_0 : Int) (a1_1 : Int) (a1_2 : Int) : Option ((List (S25)) × Bool) := (impl_aheadTimes.f k a0_0 a0_1 a0_2 a1_0 a1_1 a1_2 0 1).bind fun bt458 => (some (bt458.1, bt458.2))
theorem impl_MeetTimes.mono : ∀ a0 a1 a2 a3 a4 a5 k, LeO (impl_MeetTimes.f k a0 a1 a2 a3 a4 a5) (impl_MeetTimes.f (k + 1) a0 a1 a2 a3 a4 a5) := by
  intro a0 a1 a2 a3 a4 a5 k
  unfold impl_MeetTimes.f
  repeat' first
      | (with_reducible exact impl_aheadTimes.mono _ _ _ _ _ _ _ _ _)
      | (with_reducible exact LeO.refl _)
      | (with_reducible exact LeO.none _)
      | (with_reducible refine LeO.ite ?_ ?_)
      | (with_reducible refine LeO.bind ?_ (fun _ => ?_))
      | exact impl_aheadTimes.mono _ _ _ _ _ _ _ _ _
      | exact LeO.none _
      | refine LeO.ite ?_ ?_
      | refine LeO.bind ?_ (fun _ => ?_)
set_option maxHeartbeats 8000000 in
set_option maxRecDepth 100000 in
theorem impl_MeetTimes.calls (k : Nat) (a0_0 : Int) (a0_1 : Int) (a0_2 : Int) (a1_0 : Int) (a1_1 : Int) (a1_2 : Int) (r1 : List (S25)) (r2 : Bool) (w : World) (h : impl_MeetTimes.f k a0_0 a0_1 a0_2 a1_0 a1_1 a1_2 = some (r1, r2)) :
    Calls Try.prog 21 #[.agg #[.int .i64 a0_0, .int .i64 a0_1, .int .i64 a0_2], .agg #[.int .i64 a1_0, .int .i64 a1_1, .int .i64 a1_2]] w fun e w' => ∃ v0_ : Value, e = .returned (.tuple #[v0_, .bool r2]) ∧ Kd.R k25 25 w' w.heap.size (fun _ => True) v0_ r1 ∧ Below w.heap.size w w' := by
  have hu27 := Try.underlying27
  have hu25 := Try.underlying25
  have HB := Aside0.mk (Below.refl w.heap.size w)
  have H : ((impl_aheadTimes.f k a0_0 a0_1 a0_2 a1_0 a1_1 a1_2 0 1).bind fun bt458 => (some (bt458.1, bt458.2))) = some (r1, r2) := h
  clear h
  replace H := Option.bind_eq_some_iff.mp H
  obtain ⟨⟨t458, t461⟩, A30, H⟩ := H
  (try dsimp only at H)
  have A3 := Aside0.mk A30
  clear A30
  simp only [Option.some.injEq, Prod.mk.injEq] at H
  obtain ⟨rfl, rfl⟩ := H
  go_enter Try.func21, Try.ntmps21
  go_wp2_with (first | ((with_reducible refine gate_dst (N := 2) rfl ?_); refine be #[.int .i64 a0_0, .int .i64 a0_1, .int .i64 a0_2] 27 ?_; intro gb456 hg w4 hbox hb; have BK456 := Aside0.mk hbox; have GW456 := zs HB hg; have GE456 := zs HB hg; replace HB := zB HB hb; clear hb hbox hg) | ((with_reducible refine gate_dst (N := 3) rfl ?_); refine be #[.int .i64 a1_0, .int .i64 a1_1, .int .i64 a1_2] 27 ?_; intro gb457 hg w5 hbox hb; have BK457 := Aside0.mk hbox; have GW457 := zs HB hg; have GE457 := zs HB hg; have NB456_457 := zn BK456 hg; have NB457_456 := zm BK456 hg; replace BK456 := zb BK456 hb; replace HB := zB HB hb; clear hb hbox hg; have hnb6 := NB456_457.1; have hnc6 := NB457_456.1; obtain ⟨hcz7_0, hcz7_1, hcz7_2, hfz7_0, hfz7_1, hfz7_2⟩ := zc3 BK456; obtain ⟨hcz8_0, hcz8_1, hcz8_2, hfz8_0, hfz8_1, hfz8_2⟩ := zc3 BK457) | ((with_reducible refine gate_callee (f := 29) rfl ?_); refine gl (some 9) Try.func29 #[.agg #[.int .i64 a0_0, .int .i64 a0_1, .int .i64 a0_2], .agg #[.int .i64 a1_0, .int .i64 a1_1, .int .i64 a1_2], .agg #[.int .i64 0, .int .i64 1]] ?_; (with_reducible refine (impl_aheadTimes.calls k a0_0 a0_1 a0_2 a1_0 a1_1 a1_2 0 1 t458 t461 _ A3.1).mono ?_); rintro e w9 ⟨v459, rfl, ho0, hb⟩; refine ⟨_, rfl, ?_⟩; have HO460 := Aside0.mk (Kd.R_lower ho0 (below_size (bq HB))); replace BK456 := zb BK456 hb; replace BK457 := zb BK457 hb; replace HB := zB HB hb; (try clear hb); (try clear hb2); (try clear hk); (try clear hi); (try clear ho0)))
  go_ret2
  exact ⟨_, er, rq HO460, bq HB⟩

end Go.Proofs.Ytoneipoioiokcab.PFnHandsAhead
