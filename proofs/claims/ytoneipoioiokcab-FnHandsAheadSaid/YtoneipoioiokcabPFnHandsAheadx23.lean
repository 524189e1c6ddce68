/- A part of the walk of FnHandsAhead: which Lean function each Go function comes to, and that the machine's call does so. Written by a program of this repo (wip/gen/xprint.py). -/
import Derived.Test.YtoneipoioiokcabPFnHandsAheadx0
import Derived.Test.YtoneipoioiokcabPFnHandsAheadx1
import Derived.Test.YtoneipoioiokcabPFnHandsAheadx3
import Derived.Test.YtoneipoioiokcabPFnHandsAheadx5
import Derived.Test.YtoneipoioiokcabPFnHandsAheadx6
import Derived.Test.YtoneipoioiokcabPFnHandsAheadx7
import Derived.Test.YtoneipoioiokcabPFnHandsAheadx10
import Derived.Test.YtoneipoioiokcabPFnHandsAheadx12
import Derived.Test.YtoneipoioiokcabPFnHandsAheadx13
import Derived.Test.YtoneipoioiokcabPFnHandsAheadx16
namespace Go.Proofs.Ytoneipoioiokcab.PFnHandsAhead
open Go.RowKit Go.Proofs.YtoneipoioiokcabW.PrintWords Go.Proofs.YtoneipoioiokcabW.PrintLast Go.Proofs.YtoneipoioiokcabW.PrintMore
attribute [local go_sem] max2_int min2_int max_two min_two max_three min_three max_four min_four   -- for this text's walks alone
set_option linter.unusedVariables false
set_option linter.unusedSimpArgs false

attribute [local go_sem high] eqA25
/-! ### laws_kIn: function 22 -/
def laws_kIn.l0 : Nat → List (S25) → Int → Int → Int → Int → Option (Bool)
  | 0, _, _, _, _, _ => none
  | k + 1, x7, x8, x9, x493000, x493001 => if x9 < x8 then (if 0 ≤ x9 then (if x9 < (x7.length : Int) then (if (((rd_T25 x7 x9).f0) == x493000 && (((rd_T25 x7 x9).f1) == x493001)) = true then (some true) else (laws_kIn.l0 k x7 x8 (wrap64 (x9 + 1)) x493000 x493001)) else (none)) else (none)) else (some false)
def laws_kIn.f (k : Nat) (l0 : List (S25)) (a1_0 : Int) (a1_1 : Int) : Option (Bool) := laws_kIn.l0 k l0 (l0.length : Int) 0 a1_0 a1_1
theorem laws_kIn.mono_l : ∀ k, (∀ y0 y1 y2 y3 y4, LeO (laws_kIn.l0 k y0 y1 y2 y3 y4) (laws_kIn.l0 (k + 1) y0 y1 y2 y3 y4))
  | 0 => fun _ _ _ _ _ r h => by simp [laws_kIn.l0] at h
  | k + 1 => by
    have ih0 := laws_kIn.mono_l k
    intro y0 y1 y2 y3 y4
    unfold laws_kIn.l0
    repeat' first
    | (with_reducible exact ih0 _ _ _ _ _)
    | (with_reducible exact LeO.refl _)
    | (with_reducible exact LeO.none _)
    | (with_reducible refine LeO.ite ?_ ?_)
    | (with_reducible refine LeO.bind ?_ (fun _ => ?_))
    | exact ih0 _ _ _ _ _
    | exact LeO.none _
    | refine LeO.ite ?_ ?_
    | refine LeO.bind ?_ (fun _ => ?_)
theorem laws_kIn.mono : ∀ a0 a1 a2 k, LeO (laws_kIn.f k a0 a1 a2) (laws_kIn.f (k + 1) a0 a1 a2) := by
  intro a0 a1 a2 k
  have ih0 := laws_kIn.mono_l k
  unfold laws_kIn.f
  repeat' first
      | (with_reducible exact ih0 _ _ _ _ _)
      | (with_reducible exact LeO.refl _)
      | (with_reducible exact LeO.none _)
      | (with_reducible refine LeO.ite ?_ ?_)
      | (with_reducible refine LeO.bind ?_ (fun _ => ?_))
      | exact ih0 _ _ _ _ _
      | exact LeO.none _
      | refine LeO.ite ?_ ?_
      | refine LeO.bind ?_ (fun _ => ?_)
set_option maxHeartbeats 8000000 in
set_option maxRecDepth 100000 in
theorem laws_kIn.calls (k : Nat) (A0 : Option Addr) (c0 : Nat) (l0 : List (S25)) (a1_0 : Int) (a1_1 : Int) (r : Bool) (w : World) (hr0 : Kd.C k25 w A0 l0.length l0) (hc0 : l0.length ≤ c0) (h : laws_kIn.f k l0 a1_0 a1_1 = some r) :
    Calls Try.prog 22 #[.slice A0 l0.length c0, .agg #[.int .i64 a1_0, .int .i64 a1_1]] w fun e w' => e = .returned (.bool r) ∧ Below w.heap.size w w' := by
  have hu25 := Try.underlying25
  have HR0 := Aside0.mk hr0
  have HC0 := Aside0.mk hc0
  clear hr0 hc0
  have HB := Aside0.mk (Below.refl w.heap.size w)
  have H : (laws_kIn.l0 k l0 (l0.length : Int) 0 a1_0 a1_1) = some r := h
  clear h
  have H' := Aside0.mk H
  clear H
  go_enter Try.func22, Try.ntmps22
  go_wp2_with (first | ((with_reducible refine gate_dst (N := 3) rfl ?_); refine be #[.int .i64 a1_0, .int .i64 a1_1] 25 ?_; intro gb492 hg w3 hbox hb; have BK492 := Aside0.mk hbox; have GW492 := zs HB hg; have GE492 := zs HB hg; replace HB := zB HB hb; clear hb hbox hg))
  go_loopg [9] k (fun kq v9 w' => ∃ (x9_1 : Int), v9 = .int .i64 x9_1 ∧ Aside0 (laws_kIn.l0 kq l0 (l0.length : Int) x9_1 a1_0 a1_1 = some r) ∧ Aside0 (kq ≤ k) ∧ Aside0 (w'.heap[gb492]? = some (.cells #[.int .i64 a1_0, .int .i64 a1_1] 25 (0, 0))) ∧ Aside0 (Below w.heap.size w w'))
  case atStart => exact ⟨(0), ew, H', ⟨Nat.le_refl _⟩, ⟨bk BK492⟩, ⟨bq HB⟩⟩
  case round =>
    clear H'
    obtain ⟨x9_1, rfl, HA, HK1, BK492, HB⟩ := hrel
    cases gk with
    | zero => exact absurd HA.1 (by simp [laws_kIn.l0])
    | succ k1 =>
      have H := HA.1
      clear HA
      simp only [laws_kIn.l0] at H
      by_cases c4 : x9_1 < (l0.length : Int)
      · rw [if_pos c4] at H
        have c4b0 : decide (x9_1 < (l0.length : Int)) = true := decide_eq_true c4
        clear c4
        by_cases c5 : 0 ≤ x9_1
        · rw [if_pos c5] at H
          have c5b0 : decide (0 ≤ x9_1) = true := decide_eq_true c5
          clear c5
          by_cases c6 : x9_1 < (l0.length : Int)
          · rw [if_pos c6] at H
            have c6b0 : decide (x9_1 < (l0.length : Int)) = true := decide_eq_true c6
            clear c6
            by_cases c7 : (((rd_T25 l0 x9_1).f0) == a1_0 && (((rd_T25 l0 x9_1).f1) == a1_1)) = true
            · rw [if_pos c7] at H
              have c7b0 : (((rd_T25 l0 x9_1).f0) == a1_0 && (((rd_T25 l0 x9_1).f1) == a1_1)) = true := c7
              (try (have c7b1 : decide (((rd_T25 l0 x9_1).f0) = a1_0 && (((rd_T25 l0 x9_1).f1) == a1_1)) = true := by simpa using c7))
              (try (have c7b2 : (((rd_T25 l0 x9_1).f0) == a1_0 && (((rd_T25 l0 x9_1).f1) == a1_1)) = true := by simpa using c7))
              clear c7
              obtain rfl := Option.some.inj H
              have p493 : 0 ≤ (x9_1 : Int) := of_decide_eq_true (by first | (with_reducible assumption) | assumption)
              have q493 : x9_1 < (l0.length : Int) := of_decide_eq_true (by first | (with_reducible assumption) | assumption)
              obtain ⟨ad493, e493, hx493_0, hx493_1⟩ := at_T25 HR0.1 x9_1 p493 q493
              cases e493
              replace hx493_0 := (HB.1.cell (World.block_lt_of_cell? w _ hx493_0)).trans hx493_0
              replace hx493_1 := (HB.1.cell (World.block_lt_of_cell? w _ hx493_1)).trans hx493_1
              replace p493 := eq_true p493
              replace q493 := eq_true q493
              go_wp2_with (first | ((with_reducible refine gate_dst (N := 6) rfl ?_); refine be #[.int .i64 0, .int .i64 0] 25 ?_; intro gb494 hg w8 hbox hb; have BK494 := Aside0.mk hbox; have GW494 := zs HB hg; have GE494 := zs HB hg; have NB492_494 := zn BK492 hg; have NB494_492 := zm BK492 hg; replace BK492 := zb BK492 hb; replace HB := zB HB hb; clear hb hbox hg; have hnb9 := NB494_492.1; have hnc9 := NB492_494.1; obtain ⟨hcz10_0, hcz10_1, hfz10_0, hfz10_1⟩ := zc2 BK494; obtain ⟨hcz11_0, hcz11_1, hfz11_0, hfz11_1⟩ := zc2 BK492))
              go_ret
              exact ⟨er, bq HB⟩
            rw [if_neg c7] at H
            have c7b0 : (((rd_T25 l0 x9_1).f0) == a1_0 && (((rd_T25 l0 x9_1).f1) == a1_1)) = false := by simpa using c7
            (try (have c7b1 : decide (((rd_T25 l0 x9_1).f0) = a1_0 && (((rd_T25 l0 x9_1).f1) == a1_1)) = false := by simpa using c7))
            (try (have c7b2 : (((rd_T25 l0 x9_1).f0) == a1_0 && (((rd_T25 l0 x9_1).f1) == a1_1)) = false := by simpa using c7))
            (try (have c7b3 : ¬ (((rd_T25 l0 x9_1).f0) = a1_0 && (((rd_T25 l0 x9_1).f1) == a1_1)) := by simpa using c7))
            clear c7
            have H' := Aside0.mk H
            clear H
            have p493 : 0 ≤ (x9_1 : Int) := of_decide_eq_true (by first | (with_reducible assumption) | assumption)
            have q493 : x9_1 < (l0.length : Int) := of_decide_eq_true (by first | (with_reducible assumption) | assumption)
            obtain ⟨ad493, e493, hx493_0, hx493_1⟩ := at_T25 HR0.1 x9_1 p493 q493
            cases e493
            replace hx493_0 := (HB.1.cell (World.block_lt_of_cell? w _ hx493_0)).trans hx493_0
            replace hx493_1 := (HB.1.cell (World.block_lt_of_cell? w _ hx493_1)).trans hx493_1
            replace p493 := eq_true p493
            replace q493 := eq_true q493
            go_wp2_with (first | ((with_reducible refine gate_dst (N := 6) rfl ?_); refine be #[.int .i64 0, .int .i64 0] 25 ?_; intro gb494 hg w12 hbox hb; have BK494 := Aside0.mk hbox; have GW494 := zs HB hg; have GE494 := zs HB hg; have NB492_494 := zn BK492 hg; have NB494_492 := zm BK492 hg; replace BK492 := zb BK492 hb; replace HB := zB HB hb; clear hb hbox hg; have hnb13 := NB494_492.1; have hnc13 := NB492_494.1; obtain ⟨hcz14_0, hcz14_1, hfz14_0, hfz14_1⟩ := zc2 BK494; obtain ⟨hcz15_0, hcz15_1, hfz15_0, hfz15_1⟩ := zc2 BK492))
            go_roundg k1
            case measure => have := HK1.1; omega
            case rel => exact ⟨(wrap64 (x9_1 + 1)), ew, H', ⟨by have := HK1.1; omega⟩, ⟨bk BK492⟩, ⟨bq HB⟩⟩
          rw [if_neg c6] at H
          exact absurd H (by simp)
        rw [if_neg c5] at H
        exact absurd H (by simp)
      rw [if_neg c4] at H
      have c4b0 : decide (x9_1 < (l0.length : Int)) = false := decide_eq_false c4
      clear c4
      obtain rfl := Option.some.inj H
      go_wp2
      go_ret
      exact ⟨er, bq HB⟩

/-! ### spec_DrawHandAt: function 48 -/
def spec_DrawHandAt.f (k : Nat) (l0 : List Int) : Option (Int × Int × Int × Int × Int) := (spec_l1Cur_hand.f k l0 0 0).bind fun b => (spec_l1Cur_turn.f k l0 b.2.2.2.1 b.2.2.2.2).bind fun c => some (b.1, b.2.1, b.2.2.1, c.1, c.2.1)
theorem spec_DrawHandAt.mono : ∀ a0 k, LeO (spec_DrawHandAt.f k a0) (spec_DrawHandAt.f (k + 1) a0) := by
  intro a0 k
  unfold spec_DrawHandAt.f
  exact LeO.bind (spec_l1Cur_hand.mono _ _ _ _) (fun _ => LeO.bind (spec_l1Cur_turn.mono _ _ _ _) (fun _ => LeO.refl _))
set_option maxHeartbeats 8000000 in
set_option maxRecDepth 100000 in
theorem spec_DrawHandAt.calls (k : Nat) (A0 : Option Addr) (c0 : Nat) (l0 : List Int) (r1 r2 r3 r4 r5 : Int) (w : World) (hr0 : Kd.C (Kd.int .u8) w A0 l0.length l0) (hc0 : l0.length ≤ c0) (h : spec_DrawHandAt.f k l0 = some (r1, r2, r3, r4, r5)) :
    Calls Try.prog 48 #[.slice A0 l0.length c0] w fun e w' => e = .returned (.tuple #[.agg #[.int .i64 r1, .int .i64 r2, .int .i64 r3], .agg #[.int .i64 r4, .int .i64 r5]]) ∧ Below w.heap.size w w' := by
  unfold spec_DrawHandAt.f at h
  obtain ⟨⟨v0a, v0b, v0c, i0, s0⟩, e0, h⟩ := Option.bind_eq_some_iff.mp h
  dsimp only at h
  obtain ⟨⟨v1a, v1b, i1, s1⟩, e1, h⟩ := Option.bind_eq_some_iff.mp h
  dsimp only at h
  simp only [Option.some.injEq, Prod.mk.injEq] at h
  obtain ⟨rfl, rfl, rfl, rfl, rfl⟩ := h
  have hu0 := Try.underlying27
  have hu1 := Try.underlying25
  go_enter Try.func48, Try.ntmps48
  go_upto_region 2 with (fail)
  refine Own.gen (Own.boxes3 w) ?_
  intro w1 HO
  generalize w.heap.size + 1 + 1 = gs at HO ⊢
  generalize w.heap.size + 1 = g3 at HO ⊢
  generalize w.heap.size = g2 at HO ⊢
  have z := HO.at_ 2 gs _ rfl
  have Z0 := Aside0.mk (HO.at_ 0 g2 _ rfl).2
  have lb0 := Aside0.mk (HO.at_ 0 g2 _ rfl).1
  have n0 : g2 ≠ gs := HO.ne (i := 0) (j := 2) rfl rfl (by decide)
  have Z1 := Aside0.mk (HO.at_ 1 g3 _ rfl).2
  have lb1 := Aside0.mk (HO.at_ 1 g3 _ rfl).1
  have n1 : g3 ≠ gs := HO.ne (i := 1) (j := 2) rfl rfl (by decide)
  have n0_1 : g2 ≠ g3 := HO.ne (i := 0) (j := 1) rfl rfl (by decide)
  have n1_0 : g3 ≠ g2 := HO.ne (i := 1) (j := 0) rfl rfl (by decide)
  have hI : IsS59 w w1 gs l0 0 0 := ⟨A0, c0, z.2, z.1, hr0⟩
  have C0 := Aside0.mk (spec_l1Cur_hand.calls k gs l0 0 0 v0a v0b v0c i0 s0 w w1 hI HO.below e0)
  have C1 := fun w2 (h2 : IsS59 w w2 gs l0 i0 s0) (hb2 : Below w.heap.size w w2) => spec_l1Cur_turn.calls k gs l0 i0 s0 v1a v1b i1 s1 w w2 h2 hb2 e1
  clear hI z HO hr0 hc0 e0 e1
  go_wp2_with (first
    | (go_at_call 44; refine C0.1.mono ?_; rintro e w2 ⟨rfl, hI0, hb0, hk0⟩; have D1 := Aside0.mk (C1 w2 hI0 hb0); replace Z0 := Aside0.mk ((hk0.2 g2 (blk_lt Z0.1) n0 (by simp)).trans Z0.1); replace Z1 := Aside0.mk ((hk0.2 g3 (blk_lt Z1.1) n1 (by simp)).trans Z1.1); clear C0 hI0 hb0 hk0 C1)
    | (go_at_call 50; refine D1.1.mono ?_; rintro e w3 ⟨rfl, hI1, hb1, hk1⟩; replace Z0 := Aside0.mk ((hk1.2 g2 (blk_lt Z0.1) n0 (by simp)).trans Z0.1); replace Z1 := Aside0.mk ((hk1.2 g3 (blk_lt Z1.1) n1 (by simp)).trans Z1.1); have HB := Aside0.mk hb1; obtain ⟨p0_0, p0_1, p0_2, f0_0, f0_1, f0_2⟩ := zc3 Z0; obtain ⟨p1_0, p1_1, f1_0, f1_1⟩ := zc2 Z1; clear D1 hI1 hb1 hk1))
  have G0 := (blk_far (blk_far (blk_put (cs' := #[.int .i64 v0a, .int .i64 v0b, .int .i64 v0c]) (blk_put (cs' := #[.int .i64 v0a, .int .i64 v0b, .int .i64 0]) (blk_put (cs' := #[.int .i64 v0a, .int .i64 0, .int .i64 0]) Z0.1 0 (.int .i64 v0a) rfl) 1 (.int .i64 v0b) rfl) 2 (.int .i64 v0c) rfl) (p := ⟨g3, 0, none⟩) n0_1 (.int .i64 v1a)) (p := ⟨g3, 1, none⟩) n0_1 (.int .i64 v1b))
  have G1 := (blk_put (cs' := #[.int .i64 v1a, .int .i64 v1b]) (blk_put (cs' := #[.int .i64 v1a, .int .i64 0]) (blk_far (blk_far (blk_far Z1.1 (p := ⟨g2, 0, none⟩) n1_0 (.int .i64 v0a)) (p := ⟨g2, 1, none⟩) n1_0 (.int .i64 v0b)) (p := ⟨g2, 2, none⟩) n1_0 (.int .i64 v0c)) 0 (.int .i64 v1a) rfl) 1 (.int .i64 v1b) rfl)
  refine bodyPost_ret (results_list (rs := [.cell 2 27, .cell 3 25]) rfl (by simp) (.cell g2 27 #[.int .i64 v0a, .int .i64 v0b, .int .i64 v0c] (0, 0) _ rfl G0 Try.underlying27 rfl (by kernel_rfl) (.cell g3 25 #[.int .i64 v1a, .int .i64 v1b] (0, 0) _ rfl G1 Try.underlying25 rfl (by kernel_rfl) .nil))) rfl ?_
  exact ⟨rfl, (below_set (below_set (below_set (below_set (below_set HB.1 lb0.out) lb0.out) lb0.out) lb1.out) lb1.out)⟩

/-! ### spec_DrawTimesAtPlace: function 23 -/
def spec_DrawTimesAtPlace.f (k : Nat) (l0 : List Int) : Option (Int × Int × Int × Int × Int) := (spec_DrawHandAt.f k l0).bind fun bt497 => (some (bt497.1, bt497.2.1, bt497.2.2.1, bt497.2.2.2.1, bt497.2.2.2.2))
theorem spec_DrawTimesAtPlace.mono : ∀ a0 k, LeO (spec_DrawTimesAtPlace.f k a0) (spec_DrawTimesAtPlace.f (k + 1) a0) := by
  intro a0 k
  unfold spec_DrawTimesAtPlace.f
  repeat' first
      | (with_reducible exact spec_DrawHandAt.mono _ _)
      | (with_reducible exact LeO.refl _)
      | (with_reducible exact LeO.none _)
      | (with_reducible refine LeO.ite ?_ ?_)
      | (with_reducible refine LeO.bind ?_ (fun _ => ?_))
      | exact spec_DrawHandAt.mono _ _
      | exact LeO.none _
      | refine LeO.ite ?_ ?_
      | refine LeO.bind ?_ (fun _ => ?_)
set_option maxHeartbeats 8000000 in
set_option maxRecDepth 100000 in
theorem spec_DrawTimesAtPlace.calls (k : Nat) (A0 : Option Addr) (c0 : Nat) (l0 : List Int) (r1 : Int) (r2 : Int) (r3 : Int) (r4 : Int) (r5 : Int) (w : World) (hr0 : Kd.C (Kd.int .u8) w A0 l0.length l0) (hc0 : l0.length ≤ c0) (h : spec_DrawTimesAtPlace.f k l0 = some (r1, r2, r3, r4, r5)) :
    Calls Try.prog 23 #[.slice A0 l0.length c0] w fun e w' => e = .returned (.tuple #[.agg #[.int .i64 r1, .int .i64 r2, .int .i64 r3], .agg #[.int .i64 r4, .int .i64 r5]]) ∧ Below w.heap.size w w' := by
  have hu27 := Try.underlying27
  have hu25 := Try.underlying25
  have HR0 := Aside0.mk hr0
  have HC0 := Aside0.mk hc0
  clear hr0 hc0
  have HB := Aside0.mk (Below.refl w.heap.size w)
  have H : ((spec_DrawHandAt.f k l0).bind fun bt497 => (some (bt497.1, bt497.2.1, bt497.2.2.1, bt497.2.2.2.1, bt497.2.2.2.2))) = some (r1, r2, r3, r4, r5) := h
  clear h
  replace H := Option.bind_eq_some_iff.mp H
  obtain ⟨⟨t497, t498, t499, t500, t501⟩, A20, H⟩ := H
  (try dsimp only at H)
  have A2 := Aside0.mk A20
  clear A20
  simp only [Option.some.injEq, Prod.mk.injEq] at H
  obtain ⟨rfl, rfl, rfl, rfl, rfl⟩ := H
  go_enter Try.func23, Try.ntmps23
  go_wp2_with (first | ((with_reducible refine gate_dst (N := 2) rfl ?_); refine be #[.int .i64 0, .int .i64 0, .int .i64 0] 27 ?_; intro gb495 hg w3 hbox hb; have BK495 := Aside0.mk hbox; have GW495 := zs HB hg; have GE495 := zs HB hg; replace HB := zB HB hb; clear hb hbox hg) | ((with_reducible refine gate_dst (N := 3) rfl ?_); refine be #[.int .i64 0, .int .i64 0] 25 ?_; intro gb496 hg w4 hbox hb; have BK496 := Aside0.mk hbox; have GW496 := zs HB hg; have GE496 := zs HB hg; have NB495_496 := zn BK495 hg; have NB496_495 := zm BK495 hg; replace BK495 := zb BK495 hb; replace HB := zB HB hb; clear hb hbox hg) | ((with_reducible refine gate_callee (f := 48) rfl ?_); refine gl (some 5) Try.func48 #[.slice A0 l0.length c0] ?_; (with_reducible refine (spec_DrawHandAt.calls k _ _ l0 t497 t498 t499 t500 t501 _ ?side1 ?side2 A2.1).mono ?_); (case side1 => repeat (first | exact (Kd.C_below HR0.1 HB.1) | (with_reducible refine Kd.C_alloc ?_ _) | (with_reducible refine Kd.C_drewN ?_ _) | (with_reducible refine Kd.C_drew ?_))); (case side2 => exact HC0.1); rintro e w5 ⟨rfl, hb⟩; refine ⟨_, rfl, ?_⟩; replace BK495 := zb BK495 hb; replace BK496 := zb BK496 hb; replace HB := zB HB hb; clear hb; have hnb6 := NB495_496.1; have hnc6 := NB496_495.1; obtain ⟨hcz7_0, hcz7_1, hcz7_2, hfz7_0, hfz7_1, hfz7_2⟩ := zc3 BK495; obtain ⟨hcz8_0, hcz8_1, hfz8_0, hfz8_1⟩ := zc2 BK496))
  refine bodyPost_ret (results_cc rfl _ _ gb495 gb496 27 25 #[.int .i64 t497, .int .i64 t498, .int .i64 t499] #[.int .i64 t500, .int .i64 t501] (0, 0) (0, 0) _ _ rfl (bk BK495) Try.underlying27 rfl (by kernel_rfl) rfl (bk BK496) Try.underlying25 rfl (by kernel_rfl)) rfl ?_
  exact ⟨er, bq HB⟩

/-! ### impl_TimesAtPlace: function 24 -/
def impl_TimesAtPlace.f (k : Nat) (a0_0 : Int) (a0_1 : Int) (a0_2 : Int) (a1_0 : Int) (a1_1 : Int) : Option ((List (S25)) × Bool) := (impl_IsHand.f k a0_0 a0_1 a0_2).bind fun t504 => (if t504 = true then ((impl_isCoarse.f k a1_0 a1_1).bind fun t505 => (if t505 = true then (if a0_2 = 0 then (some (([] : List (S25)), false)) else ((impl_Hand_timesAt.f k a0_0 a0_1 a0_2 a1_0 a1_1).bind fun bt506 => (some (bt506.1, bt506.2)))) else (some (([] : List (S25)), false)))) else (some (([] : List (S25)), false)))
theorem impl_TimesAtPlace.mono : ∀ a0 a1 a2 a3 a4 k, LeO (impl_TimesAtPlace.f k a0 a1 a2 a3 a4) (impl_TimesAtPlace.f (k + 1) a0 a1 a2 a3 a4) := by
  intro a0 a1 a2 a3 a4 k
  unfold impl_TimesAtPlace.f
  repeat' first
      | (with_reducible exact impl_Hand_timesAt.mono _ _ _ _ _ _)
      | (with_reducible exact impl_IsHand.mono _ _ _ _)
      | (with_reducible exact impl_isCoarse.mono _ _ _)
      | (with_reducible exact LeO.refl _)
      | (with_reducible exact LeO.none _)
      | (with_reducible refine LeO.ite ?_ ?_)
      | (with_reducible refine LeO.bind ?_ (fun _ => ?_))
      | exact impl_Hand_timesAt.mono _ _ _ _ _ _
      | exact impl_IsHand.mono _ _ _ _
      | exact impl_isCoarse.mono _ _ _
      | exact LeO.none _
      | refine LeO.ite ?_ ?_
      | refine LeO.bind ?_ (fun _ => ?_)
set_option maxHeartbeats 8000000 in
set_option maxRecDepth 100000 in
theorem impl_TimesAtPlace.calls (k : Nat) (a0_0 : Int) (a0_1 : Int) (a0_2 : Int) (a1_0 : Int) (a1_1 : Int) (r1 : List (S25)) (r2 : Bool) (w : World) (h : impl_TimesAtPlace.f k a0_0 a0_1 a0_2 a1_0 a1_1 = some (r1, r2)) :
    Calls Try.prog 24 #[.agg #[.int .i64 a0_0, .int .i64 a0_1, .int .i64 a0_2], .agg #[.int .i64 a1_0, .int .i64 a1_1]] w fun e w' => ∃ v0_ : Value, e = .returned (.tuple #[v0_, .bool r2]) ∧ Kd.R k25 25 w' w.heap.size (fun _ => True) v0_ r1 ∧ Below w.heap.size w w' := by
  have hu27 := Try.underlying27
  have hu25 := Try.underlying25
  have HB := Aside0.mk (Below.refl w.heap.size w)
  have H : ((impl_IsHand.f k a0_0 a0_1 a0_2).bind fun t504 => (if t504 = true then ((impl_isCoarse.f k a1_0 a1_1).bind fun t505 => (if t505 = true then (if a0_2 = 0 then (some (([] : List (S25)), false)) else ((impl_Hand_timesAt.f k a0_0 a0_1 a0_2 a1_0 a1_1).bind fun bt506 => (some (bt506.1, bt506.2)))) else (some (([] : List (S25)), false)))) else (some (([] : List (S25)), false)))) = some (r1, r2) := h
  clear h
  replace H := Option.bind_eq_some_iff.mp H
  obtain ⟨t504, A30, H⟩ := H
  (try dsimp only at H)
  have A3 := Aside0.mk A30
  clear A30
  by_cases c4 : t504 = true
  · subst c4
    rw [if_pos rfl] at H
    replace H := Option.bind_eq_some_iff.mp H
    obtain ⟨t505, A50, H⟩ := H
    (try dsimp only at H)
    have A5 := Aside0.mk A50
    clear A50
    by_cases c6 : t505 = true
    · subst c6
      rw [if_pos rfl] at H
      by_cases c7 : a0_2 = 0
      · rw [if_pos c7] at H
        have c7b0 : (a0_2 == 0) = true := beq_iff_eq.mpr c7
        have c7b1 : (a0_2 != 0) = false := bne_eq_false_iff_eq.mpr c7
        clear c7
        simp only [Option.some.injEq, Prod.mk.injEq] at H
        obtain ⟨rfl, rfl⟩ := H
        go_enter Try.func24, Try.ntmps24
        go_wp2_with (first | ((with_reducible refine gate_dst (N := 2) rfl ?_); refine be #[.int .i64 a0_0, .int .i64 a0_1, .int .i64 a0_2] 27 ?_; intro gb502 hg w8 hbox hb; have BK502 := Aside0.mk hbox; have GW502 := zs HB hg; have GE502 := zs HB hg; replace HB := zB HB hb; clear hb hbox hg) | ((with_reducible refine gate_dst (N := 3) rfl ?_); refine be #[.int .i64 a1_0, .int .i64 a1_1] 25 ?_; intro gb503 hg w9 hbox hb; have BK503 := Aside0.mk hbox; have GW503 := zs HB hg; have GE503 := zs HB hg; have NB502_503 := zn BK502 hg; have NB503_502 := zm BK502 hg; replace BK502 := zb BK502 hb; replace HB := zB HB hb; clear hb hbox hg; have hnb10 := NB502_503.1; have hnc10 := NB503_502.1; obtain ⟨hcz11_0, hcz11_1, hcz11_2, hfz11_0, hfz11_1, hfz11_2⟩ := zc3 BK502) | ((with_reducible refine gate_callee (f := 42) rfl ?_); refine gl (some 7) Try.func42 #[.agg #[.int .i64 a0_0, .int .i64 a0_1, .int .i64 a0_2]] ?_; (with_reducible refine (impl_IsHand.calls k a0_0 a0_1 a0_2 true _ A3.1).mono ?_); rintro e w12 ⟨rfl, hb⟩; refine ⟨_, rfl, ?_⟩; replace BK502 := zb BK502 hb; replace BK503 := zb BK503 hb; replace HB := zB HB hb; clear hb; obtain ⟨hcz13_0, hcz13_1, hfz13_0, hfz13_1⟩ := zc2 BK503) | (go_at_call 28; (with_reducible refine (impl_isCoarse.calls k a1_0 a1_1 true _ A5.1).mono ?_); rintro e w14 ⟨rfl, hb⟩; replace BK502 := zb BK502 hb; replace BK503 := zb BK503 hb; replace HB := zB HB hb; clear hb; obtain ⟨hcz15_0, hcz15_1, hcz15_2, hfz15_0, hfz15_1, hfz15_2⟩ := zc3 BK502))
        go_ret2
        exact ⟨_, er, by first | exact Kd.R_nil _ _ _ _ _ | exact Kd.N_nil _ _ _ _ _ | exact Kd.V_nil _ _ _ _ _ | exact Kd.Q_nil _ _ _ _ _ | exact Kd.S_nil _ _ _ _ _, bq HB⟩
      rw [if_neg c7] at H
      have c7b0 : (a0_2 == 0) = false := beq_eq_false_iff_ne.mpr c7
      have c7b1 : (a0_2 != 0) = true := bne_iff_ne.mpr c7
      replace H := Option.bind_eq_some_iff.mp H
      obtain ⟨⟨t506, t509⟩, A160, H⟩ := H
      (try dsimp only at H)
      have A16 := Aside0.mk A160
      clear A160
      simp only [Option.some.injEq, Prod.mk.injEq] at H
      obtain ⟨rfl, rfl⟩ := H
      go_enter Try.func24, Try.ntmps24
      go_wp2_with (first | ((with_reducible refine gate_dst (N := 2) rfl ?_); refine be #[.int .i64 a0_0, .int .i64 a0_1, .int .i64 a0_2] 27 ?_; intro gb502 hg w17 hbox hb; have BK502 := Aside0.mk hbox; have GW502 := zs HB hg; have GE502 := zs HB hg; replace HB := zB HB hb; clear hb hbox hg) | ((with_reducible refine gate_dst (N := 3) rfl ?_); refine be #[.int .i64 a1_0, .int .i64 a1_1] 25 ?_; intro gb503 hg w18 hbox hb; have BK503 := Aside0.mk hbox; have GW503 := zs HB hg; have GE503 := zs HB hg; have NB502_503 := zn BK502 hg; have NB503_502 := zm BK502 hg; replace BK502 := zb BK502 hb; replace HB := zB HB hb; clear hb hbox hg; have hnb19 := NB502_503.1; have hnc19 := NB503_502.1; obtain ⟨hcz20_0, hcz20_1, hcz20_2, hfz20_0, hfz20_1, hfz20_2⟩ := zc3 BK502) | ((with_reducible refine gate_callee (f := 42) rfl ?_); refine gl (some 7) Try.func42 #[.agg #[.int .i64 a0_0, .int .i64 a0_1, .int .i64 a0_2]] ?_; (with_reducible refine (impl_IsHand.calls k a0_0 a0_1 a0_2 true _ A3.1).mono ?_); rintro e w21 ⟨rfl, hb⟩; refine ⟨_, rfl, ?_⟩; replace BK502 := zb BK502 hb; replace BK503 := zb BK503 hb; replace HB := zB HB hb; clear hb; obtain ⟨hcz22_0, hcz22_1, hfz22_0, hfz22_1⟩ := zc2 BK503) | (go_at_call 28; (with_reducible refine (impl_isCoarse.calls k a1_0 a1_1 true _ A5.1).mono ?_); rintro e w23 ⟨rfl, hb⟩; replace BK502 := zb BK502 hb; replace BK503 := zb BK503 hb; replace HB := zB HB hb; clear hb; obtain ⟨hcz24_0, hcz24_1, hcz24_2, hfz24_0, hfz24_1, hfz24_2⟩ := zc3 BK502; obtain ⟨hcz25_0, hcz25_1, hfz25_0, hfz25_1⟩ := zc2 BK503) | ((with_reducible refine gate_callee (f := 49) rfl ?_); refine gl (some 21) Try.func49 #[.agg #[.int .i64 a0_0, .int .i64 a0_1, .int .i64 a0_2], .agg #[.int .i64 a1_0, .int .i64 a1_1]] ?_; (with_reducible refine (impl_Hand_timesAt.calls k a0_0 a0_1 a0_2 a1_0 a1_1 t506 t509 _ A16.1).mono ?_); rintro e w26 ⟨v507, rfl, ho0, hb⟩; refine ⟨_, rfl, ?_⟩; have HO508 := Aside0.mk (Kd.R_lower (Kd.R_newB ho0 (g := gb503) (o := .cells #[.int .i64 a1_0, .int .i64 a1_1] 25 (0, 0)) (bk BK503)) (below_size (bq HB))); replace BK502 := zb BK502 hb; replace BK503 := zb BK503 hb; replace HB := zB HB hb; (try clear hb); (try clear hb2); (try clear hk); (try clear hi); (try clear ho0)))
      go_ret2
      exact ⟨_, er, by (with_reducible repeat (first | apply Kd.R_alloc | apply Kd.R_drewN | apply Kd.R_drew)); exact Kd.R_mono HO508.1 (fun _ hk => trivial), bq HB⟩
    replace c6 := Bool.eq_false_iff.mpr c6
    subst c6
    rw [if_neg (show ¬ (false = true) by decide)] at H
    simp only [Option.some.injEq, Prod.mk.injEq] at H
    obtain ⟨rfl, rfl⟩ := H
    go_enter Try.func24, Try.ntmps24
    go_wp2_with (first | ((with_reducible refine gate_dst (N := 2) rfl ?_); refine be #[.int .i64 a0_0, .int .i64 a0_1, .int .i64 a0_2] 27 ?_; intro gb502 hg w27 hbox hb; have BK502 := Aside0.mk hbox; have GW502 := zs HB hg; have GE502 := zs HB hg; replace HB := zB HB hb; clear hb hbox hg) | ((with_reducible refine gate_dst (N := 3) rfl ?_); refine be #[.int .i64 a1_0, .int .i64 a1_1] 25 ?_; intro gb503 hg w28 hbox hb; have BK503 := Aside0.mk hbox; have GW503 := zs HB hg; have GE503 := zs HB hg; have NB502_503 := zn BK502 hg; have NB503_502 := zm BK502 hg; replace BK502 := zb BK502 hb; replace HB := zB HB hb; clear hb hbox hg; have hnb29 := NB502_503.1; have hnc29 := NB503_502.1; obtain ⟨hcz30_0, hcz30_1, hcz30_2, hfz30_0, hfz30_1, hfz30_2⟩ := zc3 BK502) | ((with_reducible refine gate_callee (f := 42) rfl ?_); refine gl (some 7) Try.func42 #[.agg #[.int .i64 a0_0, .int .i64 a0_1, .int .i64 a0_2]] ?_; (with_reducible refine (impl_IsHand.calls k a0_0 a0_1 a0_2 true _ A3.1).mono ?_); rintro e w31 ⟨rfl, hb⟩; refine ⟨_, rfl, ?_⟩; replace BK502 := zb BK502 hb; replace BK503 := zb BK503 hb; replace HB := zB HB hb; clear hb; obtain ⟨hcz32_0, hcz32_1, hfz32_0, hfz32_1⟩ := zc2 BK503) | (go_at_call 28; (with_reducible refine (impl_isCoarse.calls k a1_0 a1_1 false _ A5.1).mono ?_); rintro e w33 ⟨rfl, hb⟩; replace BK502 := zb BK502 hb; replace BK503 := zb BK503 hb; replace HB := zB HB hb; clear hb))
    go_ret2
    exact ⟨_, er, by first | exact Kd.R_nil _ _ _ _ _ | exact Kd.N_nil _ _ _ _ _ | exact Kd.V_nil _ _ _ _ _ | exact Kd.Q_nil _ _ _ _ _ | exact Kd.S_nil _ _ _ _ _, bq HB⟩
  replace c4 := Bool.eq_false_iff.mpr c4
  subst c4
  rw [if_neg (show ¬ (false = true) by decide)] at H
  simp only [Option.some.injEq, Prod.mk.injEq] at H
  obtain ⟨rfl, rfl⟩ := H
  go_enter Try.func24, Try.ntmps24
  go_wp2_with (first | ((with_reducible refine gate_dst (N := 2) rfl ?_); refine be #[.int .i64 a0_0, .int .i64 a0_1, .int .i64 a0_2] 27 ?_; intro gb502 hg w34 hbox hb; have BK502 := Aside0.mk hbox; have GW502 := zs HB hg; have GE502 := zs HB hg; replace HB := zB HB hb; clear hb hbox hg) | ((with_reducible refine gate_dst (N := 3) rfl ?_); refine be #[.int .i64 a1_0, .int .i64 a1_1] 25 ?_; intro gb503 hg w35 hbox hb; have BK503 := Aside0.mk hbox; have GW503 := zs HB hg; have GE503 := zs HB hg; have NB502_503 := zn BK502 hg; have NB503_502 := zm BK502 hg; replace BK502 := zb BK502 hb; replace HB := zB HB hb; clear hb hbox hg; have hnb36 := NB502_503.1; have hnc36 := NB503_502.1; obtain ⟨hcz37_0, hcz37_1, hcz37_2, hfz37_0, hfz37_1, hfz37_2⟩ := zc3 BK502) | ((with_reducible refine gate_callee (f := 42) rfl ?_); refine gl (some 7) Try.func42 #[.agg #[.int .i64 a0_0, .int .i64 a0_1, .int .i64 a0_2]] ?_; (with_reducible refine (impl_IsHand.calls k a0_0 a0_1 a0_2 false _ A3.1).mono ?_); rintro e w38 ⟨rfl, hb⟩; refine ⟨_, rfl, ?_⟩; replace BK502 := zb BK502 hb; replace BK503 := zb BK503 hb; replace HB := zB HB hb; clear hb))
  go_ret2
  exact ⟨_, er, by first | exact Kd.R_nil _ _ _ _ _ | exact Kd.N_nil _ _ _ _ _ | exact Kd.V_nil _ _ _ _ _ | exact Kd.Q_nil _ _ _ _ _ | exact Kd.S_nil _ _ _ _ _, bq HB⟩

/-! ### spec_TimesAtPlace: function 25 -/
def spec_TimesAtPlace.f (k : Nat) (a0_0 : Int) (a0_1 : Int) (a0_2 : Int) (a1_0 : Int) (a1_1 : Int) : Option ((List (S25)) × Bool) := (spec_meGood.f k a0_0 a0_1 a0_2).bind fun t512 => (if t512 = true then (if a0_2 = 0 then (some (([] : List (S25)), false)) else ((spec_mePlace.f k a1_0 a1_1).bind fun t513 => (if t513 = true then ((spec_meTimes.f k a0_0 a0_1 a0_2 a1_0 a1_1).bind fun bt514 => (some (bt514.1, bt514.2))) else (some (([] : List (S25)), false))))) else (some (([] : List (S25)), false)))
theorem spec_TimesAtPlace.mono : ∀ a0 a1 a2 a3 a4 k, LeO (spec_TimesAtPlace.f k a0 a1 a2 a3 a4) (spec_TimesAtPlace.f (k + 1) a0 a1 a2 a3 a4) := by
  intro a0 a1 a2 a3 a4 k
  unfold spec_TimesAtPlace.f
  repeat' first
      | (with_reducible exact spec_meGood.mono _ _ _ _)
      | (with_reducible exact spec_mePlace.mono _ _ _)
      | (with_reducible exact spec_meTimes.mono _ _ _ _ _ _)
      | (with_reducible exact LeO.refl _)
      | (with_reducible exact LeO.none _)
      | (with_reducible refine LeO.ite ?_ ?_)
      | (with_reducible refine LeO.bind ?_ (fun _ => ?_))
      | exact spec_meGood.mono _ _ _ _
      | exact spec_mePlace.mono _ _ _
      | exact spec_meTimes.mono _ _ _ _ _ _
      | exact LeO.none _
      | refine LeO.ite ?_ ?_
      | refine LeO.bind ?_ (fun _ => ?_)
set_option maxHeartbeats 8000000 in
set_option maxRecDepth 100000 in
theorem spec_TimesAtPlace.calls (k : Nat) (a0_0 : Int) (a0_1 : Int) (a0_2 : Int) (a1_0 : Int) (a1_1 : Int) (r1 : List (S25)) (r2 : Bool) (w : World) (h : spec_TimesAtPlace.f k a0_0 a0_1 a0_2 a1_0 a1_1 = some (r1, r2)) :
    Calls Try.prog 25 #[.agg #[.int .i64 a0_0, .int .i64 a0_1, .int .i64 a0_2], .agg #[.int .i64 a1_0, .int .i64 a1_1]] w fun e w' => ∃ v0_ : Value, e = .returned (.tuple #[v0_, .bool r2]) ∧ Kd.R k25 25 w' w.heap.size (fun _ => True) v0_ r1 ∧ Below w.heap.size w w' := by
  have hu27 := Try.underlying27
  have hu25 := Try.underlying25
  have HB := Aside0.mk (Below.refl w.heap.size w)
  have H : ((spec_meGood.f k a0_0 a0_1 a0_2).bind fun t512 => (if t512 = true then (if a0_2 = 0 then (some (([] : List (S25)), false)) else ((spec_mePlace.f k a1_0 a1_1).bind fun t513 => (if t513 = true then ((spec_meTimes.f k a0_0 a0_1 a0_2 a1_0 a1_1).bind fun bt514 => (some (bt514.1, bt514.2))) else (some (([] : List (S25)), false))))) else (some (([] : List (S25)), false)))) = some (r1, r2) := h
  clear h
  replace H := Option.bind_eq_some_iff.mp H
  obtain ⟨t512, A30, H⟩ := H
  (try dsimp only at H)
  have A3 := Aside0.mk A30
  clear A30
  by_cases c4 : t512 = true
  · subst c4
    rw [if_pos rfl] at H
    by_cases c5 : a0_2 = 0
    · rw [if_pos c5] at H
      have c5b0 : (a0_2 == 0) = true := beq_iff_eq.mpr c5
      have c5b1 : (a0_2 != 0) = false := bne_eq_false_iff_eq.mpr c5
      clear c5
      simp only [Option.some.injEq, Prod.mk.injEq] at H
      obtain ⟨rfl, rfl⟩ := H
      go_enter Try.func25, Try.ntmps25
      go_wp2_with (first | ((with_reducible refine gate_dst (N := 2) rfl ?_); refine be #[.int .i64 a0_0, .int .i64 a0_1, .int .i64 a0_2] 27 ?_; intro gb510 hg w6 hbox hb; have BK510 := Aside0.mk hbox; have GW510 := zs HB hg; have GE510 := zs HB hg; replace HB := zB HB hb; clear hb hbox hg) | ((with_reducible refine gate_dst (N := 3) rfl ?_); refine be #[.int .i64 a1_0, .int .i64 a1_1] 25 ?_; intro gb511 hg w7 hbox hb; have BK511 := Aside0.mk hbox; have GW511 := zs HB hg; have GE511 := zs HB hg; have NB510_511 := zn BK510 hg; have NB511_510 := zm BK510 hg; replace BK510 := zb BK510 hb; replace HB := zB HB hb; clear hb hbox hg; have hnb8 := NB510_511.1; have hnc8 := NB511_510.1; obtain ⟨hcz9_0, hcz9_1, hcz9_2, hfz9_0, hfz9_1, hfz9_2⟩ := zc3 BK510) | ((with_reducible refine gate_callee (f := 43) rfl ?_); refine gl (some 7) Try.func43 #[.agg #[.int .i64 a0_0, .int .i64 a0_1, .int .i64 a0_2]] ?_; (with_reducible refine (spec_meGood.calls k a0_0 a0_1 a0_2 true _ A3.1).mono ?_); rintro e w10 ⟨rfl, hb⟩; refine ⟨_, rfl, ?_⟩; replace BK510 := zb BK510 hb; replace BK511 := zb BK511 hb; replace HB := zB HB hb; clear hb; obtain ⟨hcz11_0, hcz11_1, hcz11_2, hfz11_0, hfz11_1, hfz11_2⟩ := zc3 BK510))
      go_ret2
      exact ⟨_, er, by first | exact Kd.R_nil _ _ _ _ _ | exact Kd.N_nil _ _ _ _ _ | exact Kd.V_nil _ _ _ _ _ | exact Kd.Q_nil _ _ _ _ _ | exact Kd.S_nil _ _ _ _ _, bq HB⟩
    rw [if_neg c5] at H
    have c5b0 : (a0_2 == 0) = false := beq_eq_false_iff_ne.mpr c5
    have c5b1 : (a0_2 != 0) = true := bne_iff_ne.mpr c5
    replace H := Option.bind_eq_some_iff.mp H
    obtain ⟨t513, A120, H⟩ := H
    (try dsimp only at H)
    have A12 := Aside0.mk A120
    clear A120
    by_cases c13 : t513 = true
    · subst c13
      rw [if_pos rfl] at H
      replace H := Option.bind_eq_some_iff.mp H
      obtain ⟨⟨t514, t517⟩, A140, H⟩ := H
      (try dsimp only at H)
      have A14 := Aside0.mk A140
      clear A140
      simp only [Option.some.injEq, Prod.mk.injEq] at H
      obtain ⟨rfl, rfl⟩ := H
      go_enter Try.func25, Try.ntmps25
      go_wp2_with (first | ((with_reducible refine gate_dst (N := 2) rfl ?_); refine be #[.int .i64 a0_0, .int .i64 a0_1, .int .i64 a0_2] 27 ?_; intro gb510 hg w15 hbox hb; have BK510 := Aside0.mk hbox; have GW510 := zs HB hg; have GE510 := zs HB hg; replace HB := zB HB hb; clear hb hbox hg) | ((with_reducible refine gate_dst (N := 3) rfl ?_); refine be #[.int .i64 a1_0, .int .i64 a1_1] 25 ?_; intro gb511 hg w16 hbox hb; have BK511 := Aside0.mk hbox; have GW511 := zs HB hg; have GE511 := zs HB hg; have NB510_511 := zn BK510 hg; have NB511_510 := zm BK510 hg; replace BK510 := zb BK510 hb; replace HB := zB HB hb; clear hb hbox hg; have hnb17 := NB510_511.1; have hnc17 := NB511_510.1; obtain ⟨hcz18_0, hcz18_1, hcz18_2, hfz18_0, hfz18_1, hfz18_2⟩ := zc3 BK510) | ((with_reducible refine gate_callee (f := 43) rfl ?_); refine gl (some 7) Try.func43 #[.agg #[.int .i64 a0_0, .int .i64 a0_1, .int .i64 a0_2]] ?_; (with_reducible refine (spec_meGood.calls k a0_0 a0_1 a0_2 true _ A3.1).mono ?_); rintro e w19 ⟨rfl, hb⟩; refine ⟨_, rfl, ?_⟩; replace BK510 := zb BK510 hb; replace BK511 := zb BK511 hb; replace HB := zB HB hb; clear hb; obtain ⟨hcz20_0, hcz20_1, hcz20_2, hfz20_0, hfz20_1, hfz20_2⟩ := zc3 BK510; obtain ⟨hcz21_0, hcz21_1, hfz21_0, hfz21_1⟩ := zc2 BK511) | (go_at_call 31; (with_reducible refine (spec_mePlace.calls k a1_0 a1_1 true _ A12.1).mono ?_); rintro e w22 ⟨rfl, hb⟩; replace BK510 := zb BK510 hb; replace BK511 := zb BK511 hb; replace HB := zB HB hb; clear hb; obtain ⟨hcz23_0, hcz23_1, hcz23_2, hfz23_0, hfz23_1, hfz23_2⟩ := zc3 BK510; obtain ⟨hcz24_0, hcz24_1, hfz24_0, hfz24_1⟩ := zc2 BK511) | ((with_reducible refine gate_callee (f := 32) rfl ?_); refine gl (some 21) Try.func32 #[.agg #[.int .i64 a0_0, .int .i64 a0_1, .int .i64 a0_2], .agg #[.int .i64 a1_0, .int .i64 a1_1]] ?_; (with_reducible refine (spec_meTimes.calls k a0_0 a0_1 a0_2 a1_0 a1_1 t514 t517 _ A14.1).mono ?_); rintro e w25 ⟨v515, rfl, ho0, hb⟩; refine ⟨_, rfl, ?_⟩; have HO516 := Aside0.mk (Kd.R_lower (Kd.R_newB ho0 (g := gb511) (o := .cells #[.int .i64 a1_0, .int .i64 a1_1] 25 (0, 0)) (bk BK511)) (below_size (bq HB))); replace BK510 := zb BK510 hb; replace BK511 := zb BK511 hb; replace HB := zB HB hb; (try clear hb); (try clear hb2); (try clear hk); (try clear hi); (try clear ho0)))
      go_ret2
      exact ⟨_, er, by (with_reducible repeat (first | apply Kd.R_alloc | apply Kd.R_drewN | apply Kd.R_drew)); exact Kd.R_mono HO516.1 (fun _ hk => trivial), bq HB⟩
    replace c13 := Bool.eq_false_iff.mpr c13
    subst c13
    rw [if_neg (show ¬ (false = true) by decide)] at H
    simp only [Option.some.injEq, Prod.mk.injEq] at H
    obtain ⟨rfl, rfl⟩ := H
    go_enter Try.func25, Try.ntmps25
    go_wp2_with (first | ((with_reducible refine gate_dst (N := 2) rfl ?_); refine be #[.int .i64 a0_0, .int .i64 a0_1, .int .i64 a0_2] 27 ?_; intro gb510 hg w26 hbox hb; have BK510 := Aside0.mk hbox; have GW510 := zs HB hg; have GE510 := zs HB hg; replace HB := zB HB hb; clear hb hbox hg) | ((with_reducible refine gate_dst (N := 3) rfl ?_); refine be #[.int .i64 a1_0, .int .i64 a1_1] 25 ?_; intro gb511 hg w27 hbox hb; have BK511 := Aside0.mk hbox; have GW511 := zs HB hg; have GE511 := zs HB hg; have NB510_511 := zn BK510 hg; have NB511_510 := zm BK510 hg; replace BK510 := zb BK510 hb; replace HB := zB HB hb; clear hb hbox hg; have hnb28 := NB510_511.1; have hnc28 := NB511_510.1; obtain ⟨hcz29_0, hcz29_1, hcz29_2, hfz29_0, hfz29_1, hfz29_2⟩ := zc3 BK510) | ((with_reducible refine gate_callee (f := 43) rfl ?_); refine gl (some 7) Try.func43 #[.agg #[.int .i64 a0_0, .int .i64 a0_1, .int .i64 a0_2]] ?_; (with_reducible refine (spec_meGood.calls k a0_0 a0_1 a0_2 true _ A3.1).mono ?_); rintro e w30 ⟨rfl, hb⟩; refine ⟨_, rfl, ?_⟩; replace BK510 := zb BK510 hb; replace BK511 := zb BK511 hb; replace HB := zB HB hb; clear hb; obtain ⟨hcz31_0, hcz31_1, hcz31_2, hfz31_0, hfz31_1, hfz31_2⟩ := zc3 BK510; obtain ⟨hcz32_0, hcz32_1, hfz32_0, hfz32_1⟩ := zc2 BK511) | (go_at_call 31; (with_reducible refine (spec_mePlace.calls k a1_0 a1_1 false _ A12.1).mono ?_); rintro e w33 ⟨rfl, hb⟩; replace BK510 := zb BK510 hb; replace BK511 := zb BK511 hb; replace HB := zB HB hb; clear hb))
    go_ret2
    exact ⟨_, er, by first | exact Kd.R_nil _ _ _ _ _ | exact Kd.N_nil _ _ _ _ _ | exact Kd.V_nil _ _ _ _ _ | exact Kd.Q_nil _ _ _ _ _ | exact Kd.S_nil _ _ _ _ _, bq HB⟩
  replace c4 := Bool.eq_false_iff.mpr c4
  subst c4
  rw [if_neg (show ¬ (false = true) by decide)] at H
  simp only [Option.some.injEq, Prod.mk.injEq] at H
  obtain ⟨rfl, rfl⟩ := H
  go_enter Try.func25, Try.ntmps25
  go_wp2_with (first | ((with_reducible refine gate_dst (N := 2) rfl ?_); refine be #[.int .i64 a0_0, .int .i64 a0_1, .int .i64 a0_2] 27 ?_; intro gb510 hg w34 hbox hb; have BK510 := Aside0.mk hbox; have GW510 := zs HB hg; have GE510 := zs HB hg; replace HB := zB HB hb; clear hb hbox hg) | ((with_reducible refine gate_dst (N := 3) rfl ?_); refine be #[.int .i64 a1_0, .int .i64 a1_1] 25 ?_; intro gb511 hg w35 hbox hb; have BK511 := Aside0.mk hbox; have GW511 := zs HB hg; have GE511 := zs HB hg; have NB510_511 := zn BK510 hg; have NB511_510 := zm BK510 hg; replace BK510 := zb BK510 hb; replace HB := zB HB hb; clear hb hbox hg; have hnb36 := NB510_511.1; have hnc36 := NB511_510.1; obtain ⟨hcz37_0, hcz37_1, hcz37_2, hfz37_0, hfz37_1, hfz37_2⟩ := zc3 BK510) | ((with_reducible refine gate_callee (f := 43) rfl ?_); refine gl (some 7) Try.func43 #[.agg #[.int .i64 a0_0, .int .i64 a0_1, .int .i64 a0_2]] ?_; (with_reducible refine (spec_meGood.calls k a0_0 a0_1 a0_2 false _ A3.1).mono ?_); rintro e w38 ⟨rfl, hb⟩; refine ⟨_, rfl, ?_⟩; replace BK510 := zb BK510 hb; replace BK511 := zb BK511 hb; replace HB := zB HB hb; clear hb))
  go_ret2
  exact ⟨_, er, by first | exact Kd.R_nil _ _ _ _ _ | exact Kd.N_nil _ _ _ _ _ | exact Kd.V_nil _ _ _ _ _ | exact Kd.Q_nil _ _ _ _ _ | exact Kd.S_nil _ _ _ _ _, bq HB⟩

/-! ### spec_HandAt: function 26 -/
def spec_HandAt.f (k : Nat) (a0_0 : Int) (a0_1 : Int) (a0_2 : Int) (a1_0 : Int) (a1_1 : Int) : Option (Int × Int × Bool) := (spec_meGood.f k a0_0 a0_1 a0_2).bind fun t521 => (if t521 = true then ((spec_diGood.f k a1_0 a1_1).bind fun t522 => (if t522 = true then ((spec_meAt.f k a0_0 a0_1 a0_2 a1_0 a1_1).bind fun bt523 => (some (bt523.1, bt523.2.1, bt523.2.2))) else (some (0, 0, false)))) else (some (0, 0, false)))
theorem spec_HandAt.mono : ∀ a0 a1 a2 a3 a4 k, LeO (spec_HandAt.f k a0 a1 a2 a3 a4) (spec_HandAt.f (k + 1) a0 a1 a2 a3 a4) := by
  intro a0 a1 a2 a3 a4 k
  unfold spec_HandAt.f
  repeat' first
      | (with_reducible exact spec_diGood.mono _ _ _)
      | (with_reducible exact spec_meAt.mono _ _ _ _ _ _)
      | (with_reducible exact spec_meGood.mono _ _ _ _)
      | (with_reducible exact LeO.refl _)
      | (with_reducible exact LeO.none _)
      | (with_reducible refine LeO.ite ?_ ?_)
      | (with_reducible refine LeO.bind ?_ (fun _ => ?_))
      | exact spec_diGood.mono _ _ _
      | exact spec_meAt.mono _ _ _ _ _ _
      | exact spec_meGood.mono _ _ _ _
      | exact LeO.none _
      | refine LeO.ite ?_ ?_
      | refine LeO.bind ?_ (fun _ => ?_)
set_option maxHeartbeats 8000000 in
set_option maxRecDepth 100000 in
theorem spec_HandAt.calls (k : Nat) (a0_0 : Int) (a0_1 : Int) (a0_2 : Int) (a1_0 : Int) (a1_1 : Int) (r1 : Int) (r2 : Int) (r3 : Bool) (w : World) (h : spec_HandAt.f k a0_0 a0_1 a0_2 a1_0 a1_1 = some (r1, r2, r3)) :
    Calls Try.prog 26 #[.agg #[.int .i64 a0_0, .int .i64 a0_1, .int .i64 a0_2], .agg #[.int .i64 a1_0, .int .i64 a1_1]] w fun e w' => e = .returned (.tuple #[.agg #[.int .i64 r1, .int .i64 r2], .bool r3]) ∧ Below w.heap.size w w' := by
  have hu27 := Try.underlying27
  have hu25 := Try.underlying25
  have HB := Aside0.mk (Below.refl w.heap.size w)
  have H : ((spec_meGood.f k a0_0 a0_1 a0_2).bind fun t521 => (if t521 = true then ((spec_diGood.f k a1_0 a1_1).bind fun t522 => (if t522 = true then ((spec_meAt.f k a0_0 a0_1 a0_2 a1_0 a1_1).bind fun bt523 => (some (bt523.1, bt523.2.1, bt523.2.2))) else (some (0, 0, false)))) else (some (0, 0, false)))) = some (r1, r2, r3) := h
  clear h
  replace H := Option.bind_eq_some_iff.mp H
  obtain ⟨t521, A30, H⟩ := H
  (try dsimp only at H)
  have A3 := Aside0.mk A30
  clear A30
  by_cases c4 : t521 = true
  · subst c4
    rw [if_pos rfl] at H
    replace H := Option.bind_eq_some_iff.mp H
    obtain ⟨t522, A50, H⟩ := H
    (try dsimp only at H)
    have A5 := Aside0.mk A50
    clear A50
    by_cases c6 : t522 = true
    · subst c6
      rw [if_pos rfl] at H
      replace H := Option.bind_eq_some_iff.mp H
      obtain ⟨⟨t523, t524, t525⟩, A70, H⟩ := H
      (try dsimp only at H)
      have A7 := Aside0.mk A70
      clear A70
      simp only [Option.some.injEq, Prod.mk.injEq] at H
      obtain ⟨rfl, rfl, rfl⟩ := H
      go_enter Try.func26, Try.ntmps26
      go_wp2_with (first | ((with_reducible refine gate_dst (N := 2) rfl ?_); refine be #[.int .i64 a0_0, .int .i64 a0_1, .int .i64 a0_2] 27 ?_; intro gb518 hg w8 hbox hb; have BK518 := Aside0.mk hbox; have GW518 := zs HB hg; have GE518 := zs HB hg; replace HB := zB HB hb; clear hb hbox hg) | ((with_reducible refine gate_dst (N := 3) rfl ?_); refine be #[.int .i64 a1_0, .int .i64 a1_1] 25 ?_; intro gb519 hg w9 hbox hb; have BK519 := Aside0.mk hbox; have GW519 := zs HB hg; have GE519 := zs HB hg; have NB518_519 := zn BK518 hg; have NB519_518 := zm BK518 hg; replace BK518 := zb BK518 hb; replace HB := zB HB hb; clear hb hbox hg) | ((with_reducible refine gate_dst (N := 4) rfl ?_); refine be #[.int .i64 0, .int .i64 0] 25 ?_; intro gb520 hg w10 hbox hb; have BK520 := Aside0.mk hbox; have GW520 := zs HB hg; have GE520 := zs HB hg; have NB518_520 := zn BK518 hg; have NB520_518 := zm BK518 hg; have NB519_520 := zn BK519 hg; have NB520_519 := zm BK519 hg; replace BK518 := zb BK518 hb; replace BK519 := zb BK519 hb; replace HB := zB HB hb; clear hb hbox hg; have hnb11 := NB518_519.1; have hnc11 := NB519_518.1; have hnb12 := NB518_520.1; have hnc12 := NB520_518.1; obtain ⟨hcz13_0, hcz13_1, hcz13_2, hfz13_0, hfz13_1, hfz13_2⟩ := zc3 BK518) | ((with_reducible refine gate_callee (f := 43) rfl ?_); refine gl (some 7) Try.func43 #[.agg #[.int .i64 a0_0, .int .i64 a0_1, .int .i64 a0_2]] ?_; (with_reducible refine (spec_meGood.calls k a0_0 a0_1 a0_2 true _ A3.1).mono ?_); rintro e w14 ⟨rfl, hb⟩; refine ⟨_, rfl, ?_⟩; replace BK518 := zb BK518 hb; replace BK519 := zb BK519 hb; replace BK520 := zb BK520 hb; replace HB := zB HB hb; clear hb; have hnb15 := NB519_520.1; have hnc15 := NB520_519.1; obtain ⟨hcz16_0, hcz16_1, hfz16_0, hfz16_1⟩ := zc2 BK519) | (go_at_call 40; (with_reducible refine (spec_diGood.calls k a1_0 a1_1 true _ A5.1).mono ?_); rintro e w17 ⟨rfl, hb⟩; replace BK518 := zb BK518 hb; replace BK519 := zb BK519 hb; replace BK520 := zb BK520 hb; replace HB := zB HB hb; clear hb; obtain ⟨hcz18_0, hcz18_1, hcz18_2, hfz18_0, hfz18_1, hfz18_2⟩ := zc3 BK518; obtain ⟨hcz19_0, hcz19_1, hfz19_0, hfz19_1⟩ := zc2 BK519) | ((with_reducible refine gate_callee (f := 41) rfl ?_); refine gl (some 17) Try.func41 #[.agg #[.int .i64 a0_0, .int .i64 a0_1, .int .i64 a0_2], .agg #[.int .i64 a1_0, .int .i64 a1_1]] ?_; (with_reducible refine (spec_meAt.calls k a0_0 a0_1 a0_2 a1_0 a1_1 t523 t524 t525 _ A7.1).mono ?_); rintro e w20 ⟨rfl, hb⟩; refine ⟨_, rfl, ?_⟩; replace BK518 := zb BK518 hb; replace BK519 := zb BK519 hb; replace BK520 := zb BK520 hb; replace HB := zB HB hb; clear hb; obtain ⟨hcz21_0, hcz21_1, hfz21_0, hfz21_1⟩ := zc2 BK520))
      refine bodyPost_ret (results_ct rfl _ _ gb520 25 #[.int .i64 t523, .int .i64 t524] (0, 0) _ rfl (bk BK520) Try.underlying25 rfl (by kernel_rfl)) rfl ?_
      exact ⟨er, bq HB⟩
    replace c6 := Bool.eq_false_iff.mpr c6
    subst c6
    rw [if_neg (show ¬ (false = true) by decide)] at H
    simp only [Option.some.injEq, Prod.mk.injEq] at H
    obtain ⟨rfl, rfl, rfl⟩ := H
    go_enter Try.func26, Try.ntmps26
    go_wp2_with (first | ((with_reducible refine gate_dst (N := 2) rfl ?_); refine be #[.int .i64 a0_0, .int .i64 a0_1, .int .i64 a0_2] 27 ?_; intro gb518 hg w22 hbox hb; have BK518 := Aside0.mk hbox; have GW518 := zs HB hg; have GE518 := zs HB hg; replace HB := zB HB hb; clear hb hbox hg) | ((with_reducible refine gate_dst (N := 3) rfl ?_); refine be #[.int .i64 a1_0, .int .i64 a1_1] 25 ?_; intro gb519 hg w23 hbox hb; have BK519 := Aside0.mk hbox; have GW519 := zs HB hg; have GE519 := zs HB hg; have NB518_519 := zn BK518 hg; have NB519_518 := zm BK518 hg; replace BK518 := zb BK518 hb; replace HB := zB HB hb; clear hb hbox hg) | ((with_reducible refine gate_dst (N := 4) rfl ?_); refine be #[.int .i64 0, .int .i64 0] 25 ?_; intro gb520 hg w24 hbox hb; have BK520 := Aside0.mk hbox; have GW520 := zs HB hg; have GE520 := zs HB hg; have NB518_520 := zn BK518 hg; have NB520_518 := zm BK518 hg; have NB519_520 := zn BK519 hg; have NB520_519 := zm BK519 hg; replace BK518 := zb BK518 hb; replace BK519 := zb BK519 hb; replace HB := zB HB hb; clear hb hbox hg; have hnb25 := NB518_519.1; have hnc25 := NB519_518.1; have hnb26 := NB518_520.1; have hnc26 := NB520_518.1; obtain ⟨hcz27_0, hcz27_1, hcz27_2, hfz27_0, hfz27_1, hfz27_2⟩ := zc3 BK518) | ((with_reducible refine gate_callee (f := 43) rfl ?_); refine gl (some 7) Try.func43 #[.agg #[.int .i64 a0_0, .int .i64 a0_1, .int .i64 a0_2]] ?_; (with_reducible refine (spec_meGood.calls k a0_0 a0_1 a0_2 true _ A3.1).mono ?_); rintro e w28 ⟨rfl, hb⟩; refine ⟨_, rfl, ?_⟩; replace BK518 := zb BK518 hb; replace BK519 := zb BK519 hb; replace BK520 := zb BK520 hb; replace HB := zB HB hb; clear hb; have hnb29 := NB519_520.1; have hnc29 := NB520_519.1; obtain ⟨hcz30_0, hcz30_1, hfz30_0, hfz30_1⟩ := zc2 BK519) | (go_at_call 40; (with_reducible refine (spec_diGood.calls k a1_0 a1_1 false _ A5.1).mono ?_); rintro e w31 ⟨rfl, hb⟩; replace BK518 := zb BK518 hb; replace BK519 := zb BK519 hb; replace BK520 := zb BK520 hb; replace HB := zB HB hb; clear hb; obtain ⟨hcz32_0, hcz32_1, hfz32_0, hfz32_1⟩ := zc2 BK520))
    refine bodyPost_ret (results_ct rfl _ _ gb520 25 #[.int .i64 0, .int .i64 0] (0, 0) _ rfl (bk BK520) Try.underlying25 rfl (by kernel_rfl)) rfl ?_
    exact ⟨er, bq HB⟩
  replace c4 := Bool.eq_false_iff.mpr c4
  subst c4
  rw [if_neg (show ¬ (false = true) by decide)] at H
  simp only [Option.some.injEq, Prod.mk.injEq] at H
  obtain ⟨rfl, rfl, rfl⟩ := H
  go_enter Try.func26, Try.ntmps26
  go_wp2_with (first | ((with_reducible refine gate_dst (N := 2) rfl ?_); refine be #[.int .i64 a0_0, .int .i64 a0_1, .int .i64 a0_2] 27 ?_; intro gb518 hg w33 hbox hb; have BK518 := Aside0.mk hbox; have GW518 := zs HB hg; have GE518 := zs HB hg; replace HB := zB HB hb; clear hb hbox hg) | ((with_reducible refine gate_dst (N := 3) rfl ?_); refine be #[.int .i64 a1_0, .int .i64 a1_1] 25 ?_; intro gb519 hg w34 hbox hb; have BK519 := Aside0.mk hbox; have GW519 := zs HB hg; have GE519 := zs HB hg; have NB518_519 := zn BK518 hg; have NB519_518 := zm BK518 hg; replace BK518 := zb BK518 hb; replace HB := zB HB hb; clear hb hbox hg) | ((with_reducible refine gate_dst (N := 4) rfl ?_); refine be #[.int .i64 0, .int .i64 0] 25 ?_; intro gb520 hg w35 hbox hb; have BK520 := Aside0.mk hbox; have GW520 := zs HB hg; have GE520 := zs HB hg; have NB518_520 := zn BK518 hg; have NB520_518 := zm BK518 hg; have NB519_520 := zn BK519 hg; have NB520_519 := zm BK519 hg; replace BK518 := zb BK518 hb; replace BK519 := zb BK519 hb; replace HB := zB HB hb; clear hb hbox hg; have hnb36 := NB518_519.1; have hnc36 := NB519_518.1; have hnb37 := NB518_520.1; have hnc37 := NB520_518.1; obtain ⟨hcz38_0, hcz38_1, hcz38_2, hfz38_0, hfz38_1, hfz38_2⟩ := zc3 BK518) | ((with_reducible refine gate_callee (f := 43) rfl ?_); refine gl (some 7) Try.func43 #[.agg #[.int .i64 a0_0, .int .i64 a0_1, .int .i64 a0_2]] ?_; (with_reducible refine (spec_meGood.calls k a0_0 a0_1 a0_2 false _ A3.1).mono ?_); rintro e w39 ⟨rfl, hb⟩; refine ⟨_, rfl, ?_⟩; replace BK518 := zb BK518 hb; replace BK519 := zb BK519 hb; replace BK520 := zb BK520 hb; replace HB := zB HB hb; clear hb; have hnb40 := NB520_519.1; have hnc40 := NB519_520.1; obtain ⟨hcz41_0, hcz41_1, hfz41_0, hfz41_1⟩ := zc2 BK520))
  refine bodyPost_ret (results_ct rfl _ _ gb520 25 #[.int .i64 0, .int .i64 0] (0, 0) _ rfl (bk BK520) Try.underlying25 rfl (by kernel_rfl)) rfl ?_
  exact ⟨er, bq HB⟩

end Go.Proofs.Ytoneipoioiokcab.PFnHandsAhead
