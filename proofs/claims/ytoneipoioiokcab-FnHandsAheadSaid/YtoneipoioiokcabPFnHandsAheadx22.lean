/- A part of the walk of FnHandsAhead: which Lean function each Go function comes to, and that the machine's call does so. Written by a program of this repo (wip/gen/xprint.py). -/
import Derived.Test.YtoneipoioiokcabPFnHandsAheadx0
import Derived.Test.YtoneipoioiokcabPFnHandsAheadx12
import Derived.Test.YtoneipoioiokcabPFnHandsAheadx13
import Derived.Test.YtoneipoioiokcabPFnHandsAheadx16
import Derived.Test.YtoneipoioiokcabPFnHandsAheadx21
namespace Go.Proofs.Ytoneipoioiokcab.PFnHandsAhead
open Go.RowKit Go.Proofs.YtoneipoioiokcabW.PrintWords Go.Proofs.YtoneipoioiokcabW.PrintLast Go.Proofs.YtoneipoioiokcabW.PrintMore
attribute [local go_sem] max2_int min2_int max_two min_two max_three min_three max_four min_four   -- for this text's walks alone
set_option linter.unusedVariables false
set_option linter.unusedSimpArgs false

/-! ### spec_ThreeMeet: function 20 -/
mutual
def spec_ThreeMeet.j0 : Nat → List (S25) → Bool → Int → Int → Int → Int → Int → Int → Option ((List (S25)) × Bool)
  | 0, _, _, _, _, _, _, _, _ => none
  | k + 1, x8, x27, x473000, x473001, x473002, x475000, x475001, x475002 => if x27 = true then (some (([] : List (S25)), false)) else (spec_ThreeMeet.l0 k ([] : List (S25)) x8 (x8.length : Int) 0 x473000 x473001 x473002 x475000 x475001 x475002)
def spec_ThreeMeet.l0 : Nat → List (S25) → List (S25) → Int → Int → Int → Int → Int → Int → Int → Int → Option ((List (S25)) × Bool)
  | 0, _, _, _, _, _, _, _, _, _, _ => none
  | k + 1, x10, x28, x29, x30, x473000, x473001, x473002, x475000, x475001, x475002 => if x30 < x29 then (if 0 ≤ x30 then (if x30 < (x28.length : Int) then ((spec_meRelative.f k x473000 x473001 x473002 x475000 x475001 x475002).bind fun bt482 => ((spec_meAt.f k bt482.1 bt482.2.1 bt482.2.2 ((rd_T25 x28 x30).f0) ((rd_T25 x28 x30).f1)).bind fun bt485 => (if bt485.2.2 = true then (if bt485.1 = 0 then (if x10.length < 8796093022208 then (spec_ThreeMeet.l0 k (x10 ++ [(⟨(rd_T25 x28 x30).f0, (rd_T25 x28 x30).f1⟩ : S25)]) x28 x29 (wrap64 (x30 + 1)) x473000 x473001 x473002 x475000 x475001 x475002) else (none)) else (spec_ThreeMeet.l0 k x10 x28 x29 (wrap64 (x30 + 1)) x473000 x473001 x473002 x475000 x475001 x475002)) else (spec_ThreeMeet.l0 k x10 x28 x29 (wrap64 (x30 + 1)) x473000 x473001 x473002 x475000 x475001 x475002)))) else (none)) else (none)) else (some (x10, true))
end
def spec_ThreeMeet.f (k : Nat) (a0_0 : Int) (a0_1 : Int) (a0_2 : Int) (a1_0 : Int) (a1_1 : Int) (a1_2 : Int) (a2_0 : Int) (a2_1 : Int) (a2_2 : Int) : Option ((List (S25)) × Bool) := (spec_MeetTimes.f k a0_0 a0_1 a0_2 a1_0 a1_1 a1_2).bind fun bt475 => (if bt475.2 = true then ((spec_meGood.f k a2_0 a2_1 a2_2).bind fun t479 => (spec_ThreeMeet.j0 k bt475.1 (!t479) a0_0 a0_1 a0_2 a2_0 a2_1 a2_2)) else (spec_ThreeMeet.j0 k bt475.1 true a0_0 a0_1 a0_2 a2_0 a2_1 a2_2))
theorem spec_ThreeMeet.mono_l : ∀ k, (∀ y0 y1 y2 y3 y4 y5 y6 y7, LeO (spec_ThreeMeet.j0 k y0 y1 y2 y3 y4 y5 y6 y7) (spec_ThreeMeet.j0 (k + 1) y0 y1 y2 y3 y4 y5 y6 y7)) ∧ (∀ y0 y1 y2 y3 y4 y5 y6 y7 y8 y9, LeO (spec_ThreeMeet.l0 k y0 y1 y2 y3 y4 y5 y6 y7 y8 y9) (spec_ThreeMeet.l0 (k + 1) y0 y1 y2 y3 y4 y5 y6 y7 y8 y9))
  | 0 => ⟨fun _ _ _ _ _ _ _ _ r h => by simp [spec_ThreeMeet.j0] at h, fun _ _ _ _ _ _ _ _ _ _ r h => by simp [spec_ThreeMeet.l0] at h⟩
  | k + 1 => by
    obtain ⟨ih0, ih1⟩ := spec_ThreeMeet.mono_l k
    refine ⟨?_, ?_⟩
    · intro y0 y1 y2 y3 y4 y5 y6 y7
      unfold spec_ThreeMeet.j0
      repeat' first
      | (with_reducible exact ih0 _ _ _ _ _ _ _ _)
      | (with_reducible exact ih1 _ _ _ _ _ _ _ _ _ _)
      | (with_reducible exact spec_MeetTimes.mono _ _ _ _ _ _ _)
      | (with_reducible exact spec_meAt.mono _ _ _ _ _ _)
      | (with_reducible exact spec_meGood.mono _ _ _ _)
      | (with_reducible exact spec_meRelative.mono _ _ _ _ _ _ _)
      | (with_reducible exact LeO.refl _)
      | (with_reducible exact LeO.none _)
      | (with_reducible refine LeO.ite ?_ ?_)
      | (with_reducible refine LeO.bind ?_ (fun _ => ?_))
      | exact ih0 _ _ _ _ _ _ _ _
      | exact ih1 _ _ _ _ _ _ _ _ _ _
      | exact spec_MeetTimes.mono _ _ _ _ _ _ _
      | exact spec_meAt.mono _ _ _ _ _ _
      | exact spec_meGood.mono _ _ _ _
      | exact spec_meRelative.mono _ _ _ _ _ _ _
      | exact LeO.none _
      | refine LeO.ite ?_ ?_
      | refine LeO.bind ?_ (fun _ => ?_)
    intro y0 y1 y2 y3 y4 y5 y6 y7 y8 y9
    unfold spec_ThreeMeet.l0
    repeat' first
    | (with_reducible exact ih0 _ _ _ _ _ _ _ _)
    | (with_reducible exact ih1 _ _ _ _ _ _ _ _ _ _)
    | (with_reducible exact spec_MeetTimes.mono _ _ _ _ _ _ _)
    | (with_reducible exact spec_meAt.mono _ _ _ _ _ _)
    | (with_reducible exact spec_meGood.mono _ _ _ _)
    | (with_reducible exact spec_meRelative.mono _ _ _ _ _ _ _)
    | (with_reducible exact LeO.refl _)
    | (with_reducible exact LeO.none _)
    | (with_reducible refine LeO.ite ?_ ?_)
    | (with_reducible refine LeO.bind ?_ (fun _ => ?_))
    | exact ih0 _ _ _ _ _ _ _ _
    | exact ih1 _ _ _ _ _ _ _ _ _ _
    | exact spec_MeetTimes.mono _ _ _ _ _ _ _
    | exact spec_meAt.mono _ _ _ _ _ _
    | exact spec_meGood.mono _ _ _ _
    | exact spec_meRelative.mono _ _ _ _ _ _ _
    | exact LeO.none _
    | refine LeO.ite ?_ ?_
    | refine LeO.bind ?_ (fun _ => ?_)
theorem spec_ThreeMeet.mono : ∀ a0 a1 a2 a3 a4 a5 a6 a7 a8 k, LeO (spec_ThreeMeet.f k a0 a1 a2 a3 a4 a5 a6 a7 a8) (spec_ThreeMeet.f (k + 1) a0 a1 a2 a3 a4 a5 a6 a7 a8) := by
  intro a0 a1 a2 a3 a4 a5 a6 a7 a8 k
  obtain ⟨ih0, ih1⟩ := spec_ThreeMeet.mono_l k
  unfold spec_ThreeMeet.f
  repeat' first
      | (with_reducible exact ih0 _ _ _ _ _ _ _ _)
      | (with_reducible exact ih1 _ _ _ _ _ _ _ _ _ _)
      | (with_reducible exact spec_MeetTimes.mono _ _ _ _ _ _ _)
      | (with_reducible exact spec_meAt.mono _ _ _ _ _ _)
      | (with_reducible exact spec_meGood.mono _ _ _ _)
      | (with_reducible exact spec_meRelative.mono _ _ _ _ _ _ _)
      | (with_reducible exact LeO.refl _)
      | (with_reducible exact LeO.none _)
      | (with_reducible refine LeO.ite ?_ ?_)
      | (with_reducible refine LeO.bind ?_ (fun _ => ?_))
      | exact ih0 _ _ _ _ _ _ _ _
      | exact ih1 _ _ _ _ _ _ _ _ _ _
      | exact spec_MeetTimes.mono _ _ _ _ _ _ _
      | exact spec_meAt.mono _ _ _ _ _ _
      | exact spec_meGood.mono _ _ _ _
      | exact spec_meRelative.mono _ _ _ _ _ _ _
      | exact LeO.none _
      | refine LeO.ite ?_ ?_
      | refine LeO.bind ?_ (fun _ => ?_)
def spec_ThreeMeet.T8 : Bool × List (List Nat × List Nat) := (true, [([], []), ([], []), ([0, 1], [0, 1]), ([], []), ([2, 3, 2], [2, 3]), ([4], [4]), ([5], [5]), ([5], [5]), ([], []), ([8, 6, 4, 0, 1, 2, 3, 4, 5, 6, 8], [6, 8]), ([7, 9, 0, 1, 2, 3, 4, 5, 6, 7, 8, 9], [7])])
def spec_ThreeMeet.B8 : List Nat := [0, 0, 3, 0, 15, 31, 63, 63, 0, 383, 1023]
theorem spec_ThreeMeet.tab8 : rtab .any (opsOf Try.f20 8) = spec_ThreeMeet.T8 := by kernel_rfl
theorem spec_ThreeMeet.bits8 : waitsOk spec_ThreeMeet.T8.2 spec_ThreeMeet.B8 = true := by kernel_rfl
set_option maxHeartbeats 8000000 in
set_option maxRecDepth 100000 in
theorem spec_ThreeMeet.calls (k : Nat) (a0_0 : Int) (a0_1 : Int) (a0_2 : Int) (a1_0 : Int) (a1_1 : Int) (a1_2 : Int) (a2_0 : Int) (a2_1 : Int) (a2_2 : Int) (r1 : List (S25)) (r2 : Bool) (w : World) (h : spec_ThreeMeet.f k a0_0 a0_1 a0_2 a1_0 a1_1 a1_2 a2_0 a2_1 a2_2 = some (r1, r2)) :
    Calls Try.prog 20 #[.agg #[.int .i64 a0_0, .int .i64 a0_1, .int .i64 a0_2], .agg #[.int .i64 a1_0, .int .i64 a1_1, .int .i64 a1_2], .agg #[.int .i64 a2_0, .int .i64 a2_1, .int .i64 a2_2]] w fun e w' => ∃ v0_ : Value, e = .returned (.tuple #[v0_, .bool r2]) ∧ Kd.R k25 25 w' w.heap.size (fun _ => True) v0_ r1 ∧ Below w.heap.size w w' := by
  have hu27 := Try.underlying27
  have hu25 := Try.underlying25
  have HB := Aside0.mk (Below.refl w.heap.size w)
  have H : ((spec_MeetTimes.f k a0_0 a0_1 a0_2 a1_0 a1_1 a1_2).bind fun bt475 => (if bt475.2 = true then ((spec_meGood.f k a2_0 a2_1 a2_2).bind fun t479 => (spec_ThreeMeet.j0 k bt475.1 (!t479) a0_0 a0_1 a0_2 a2_0 a2_1 a2_2)) else (spec_ThreeMeet.j0 k bt475.1 true a0_0 a0_1 a0_2 a2_0 a2_1 a2_2))) = some (r1, r2) := h
  clear h
  replace H := Option.bind_eq_some_iff.mp H
  obtain ⟨⟨t475, t478⟩, A40, H⟩ := H
  (try dsimp only at H)
  have A4 := Aside0.mk A40
  clear A40
  have HC5 := Aside0.mk H
  clear H
  go_enter Try.func20, Try.ntmps20
  go_upto_region 2 with (first | ((with_reducible refine gate_dst (N := 3) rfl ?_); refine be #[.int .i64 a0_0, .int .i64 a0_1, .int .i64 a0_2] 27 ?_; intro gb472 hg w6 hbox hb; have BK472 := Aside0.mk hbox; have GW472 := zs HB hg; have GE472 := zs HB hg; replace HB := zB HB hb; clear hb hbox hg) | ((with_reducible refine gate_dst (N := 4) rfl ?_); refine be #[.int .i64 a1_0, .int .i64 a1_1, .int .i64 a1_2] 27 ?_; intro gb473 hg w7 hbox hb; have BK473 := Aside0.mk hbox; have GW473 := zs HB hg; have GE473 := zs HB hg; have NB472_473 := zn BK472 hg; have NB473_472 := zm BK472 hg; replace BK472 := zb BK472 hb; replace HB := zB HB hb; clear hb hbox hg) | ((with_reducible refine gate_dst (N := 5) rfl ?_); refine be #[.int .i64 a2_0, .int .i64 a2_1, .int .i64 a2_2] 27 ?_; intro gb474 hg w8 hbox hb; have BK474 := Aside0.mk hbox; have GW474 := zs HB hg; have GE474 := zs HB hg; have NB472_474 := zn BK472 hg; have NB474_472 := zm BK472 hg; have NB473_474 := zn BK473 hg; have NB474_473 := zm BK473 hg; replace BK472 := zb BK472 hb; replace BK473 := zb BK473 hb; replace HB := zB HB hb; clear hb hbox hg; have hnb9 := NB472_473.1; have hnc9 := NB473_472.1; have hnb10 := NB472_474.1; have hnc10 := NB474_472.1; obtain ⟨hcz11_0, hcz11_1, hcz11_2, hfz11_0, hfz11_1, hfz11_2⟩ := zc3 BK472; have hnb12 := NB473_474.1; have hnc12 := NB474_473.1; obtain ⟨hcz13_0, hcz13_1, hcz13_2, hfz13_0, hfz13_1, hfz13_2⟩ := zc3 BK473) | ((with_reducible refine gate_callee (f := 47) rfl ?_); refine gl (some 18) Try.func47 #[.agg #[.int .i64 a0_0, .int .i64 a0_1, .int .i64 a0_2], .agg #[.int .i64 a1_0, .int .i64 a1_1, .int .i64 a1_2]] ?_; (with_reducible refine (spec_MeetTimes.calls k a0_0 a0_1 a0_2 a1_0 a1_1 a1_2 t475 t478 _ A4.1).mono ?_); rintro e w14 ⟨v476, rfl, ho0, hb⟩; refine ⟨_, rfl, ?_⟩; have HO477 := Aside0.mk (Kd.R_lower ho0 (below_size (bq HB))); replace BK472 := zb BK472 hb; replace BK473 := zb BK473 hb; replace BK474 := zb BK474 hb; replace HB := zB HB hb; (try clear hb); (try clear hb2); (try clear hk); (try clear hi); (try clear ho0)))
  (try simp only [Act.put, List.setIfInBounds_toArray, List.set_cons_zero, List.set_cons_succ])
  go_cut [27] (fun v27 wc => ∃ (kq : Nat) (x27_4 : Bool), v27 = .bool x27_4 ∧ Aside0 (spec_ThreeMeet.j0 kq t475 x27_4 a0_0 a0_1 a0_2 a2_0 a2_1 a2_2 = some (r1, r2)) ∧ Aside0 (kq ≤ k) ∧ Aside0 (Kd.R k25 25 wc w.heap.size (fun _ => True) v476 t475) ∧ Aside0 (wc.heap[gb472]? = some (.cells #[.int .i64 a0_0, .int .i64 a0_1, .int .i64 a0_2] 27 (0, 0))) ∧ Aside0 (wc.heap[gb473]? = some (.cells #[.int .i64 a1_0, .int .i64 a1_1, .int .i64 a1_2] 27 (0, 0))) ∧ Aside0 (wc.heap[gb474]? = some (.cells #[.int .i64 a2_0, .int .i64 a2_1, .int .i64 a2_2] 27 (0, 0))) ∧ Aside0 (Below w.heap.size w wc))
  case first =>
    have H := HC5.1
    clear HC5
    by_cases c15 : t478 = true
    · subst c15
      rw [if_pos rfl] at H
      replace H := Option.bind_eq_some_iff.mp H
      obtain ⟨t479, A160, H⟩ := H
      (try dsimp only at H)
      have A16 := Aside0.mk A160
      clear A160
      have H' := Aside0.mk H
      clear H
      have hnb17 := NB474_472.1
      have hnc17 := NB472_474.1
      have hnb18 := NB474_473.1
      have hnc18 := NB473_474.1
      obtain ⟨hcz19_0, hcz19_1, hcz19_2, hfz19_0, hfz19_1, hfz19_2⟩ := zc3 BK474
      go_wp2_with (first | (go_at_call 43; (with_reducible refine (spec_meGood.calls k a2_0 a2_1 a2_2 t479 _ A16.1).mono ?_); rintro e w20 ⟨rfl, hb⟩; replace HO477 := rB HO477 hb; replace BK472 := zb BK472 hb; replace BK473 := zb BK473 hb; replace BK474 := zb BK474 hb; replace HB := zB HB hb; clear hb))
      go_meet
      case rel => exact ⟨_, (!t479), ew, H', le_, ⟨rq HO477⟩, ⟨bk BK472⟩, ⟨bk BK473⟩, ⟨bk BK474⟩, ⟨bq HB⟩⟩
    replace c15 := Bool.eq_false_iff.mpr c15
    subst c15
    rw [if_neg (show ¬ (false = true) by decide)] at H
    have H' := Aside0.mk H
    clear H
    go_wp2
    go_meet
    case rel => exact ⟨_, (true), ew, H', le_, ⟨rq HO477⟩, ⟨bk BK472⟩, ⟨bk BK473⟩, ⟨bk BK474⟩, ⟨bq HB⟩⟩
  clear HC5
  try clear hcz11_0
  try clear hcz11_1
  try clear hcz11_2
  try clear hcz13_0
  try clear hcz13_1
  try clear hcz13_2
  try clear hfz11_0
  try clear hfz11_1
  try clear hfz11_2
  try clear hfz13_0
  try clear hfz13_1
  try clear hfz13_2
  obtain ⟨kq, x27_4, rfl, HA, HJ4, HO_8, BK472, BK473, BK474, HB⟩ := hcut
  cases kq with
  | zero => exact absurd HA.1 (by simp [spec_ThreeMeet.j0])
  | succ kj4 =>
    have H := HA.1
    clear HA
    simp only [spec_ThreeMeet.j0] at H
    by_cases c21 : x27_4 = true
    · subst c21
      rw [if_pos rfl] at H
      simp only [Option.some.injEq, Prod.mk.injEq] at H
      obtain ⟨rfl, rfl⟩ := H
      go_wp2
      go_ret2
      exact ⟨_, er, by first | exact Kd.R_nil _ _ _ _ _ | exact Kd.N_nil _ _ _ _ _ | exact Kd.V_nil _ _ _ _ _ | exact Kd.Q_nil _ _ _ _ _ | exact Kd.S_nil _ _ _ _ _, bq HB⟩
    replace c21 := Bool.eq_false_iff.mpr c21
    subst c21
    rw [if_neg (show ¬ (false = true) by decide)] at H
    have H' := Aside0.mk H
    clear H
    obtain ⟨Ao22, co22, eo22⟩ := Kd.R_slice HO_8.1
    subst eo22
    go_wp2
    go_loopg [10, 30] kj4 (fun kq v10 v30 w' => ∃ (x10_2 : List (S25)) (x30_2 : Int), v30 = .int .i64 x30_2 ∧ Aside0 (spec_ThreeMeet.l0 kq x10_2 t475 (t475.length : Int) x30_2 a0_0 a0_1 a0_2 a2_0 a2_1 a2_2 = some (r1, r2)) ∧ Aside0 (kq ≤ kj4) ∧ Aside0 (Kd.R k25 25 w' w.heap.size (fun k_ => some k_ ≠ ((.slice Ao22 t475.length co22) : Value).ownBlock) v10 x10_2) ∧ Aside0 (Kd.R k25 25 w' w.heap.size (fun k_ => some k_ ≠ (v10 : Value).ownBlock) (.slice Ao22 t475.length co22) t475) ∧ Aside0 (w'.heap[gb472]? = some (.cells #[.int .i64 a0_0, .int .i64 a0_1, .int .i64 a0_2] 27 (0, 0))) ∧ Aside0 (w'.heap[gb473]? = some (.cells #[.int .i64 a1_0, .int .i64 a1_1, .int .i64 a1_2] 27 (0, 0))) ∧ Aside0 (w'.heap[gb474]? = some (.cells #[.int .i64 a2_0, .int .i64 a2_1, .int .i64 a2_2] 27 (0, 0))) ∧ Aside0 (Below w.heap.size w w'))
    case atStart => exact ⟨(([] : List (S25))), (0), ew, H', ⟨Nat.le_refl _⟩, ⟨by first | exact Kd.R_nil _ _ _ _ _ | exact Kd.N_nil _ _ _ _ _ | exact Kd.V_nil _ _ _ _ _ | exact Kd.Q_nil _ _ _ _ _ | exact Kd.S_nil _ _ _ _ _⟩, ⟨by (with_reducible repeat (first | apply Kd.R_alloc | apply Kd.R_drewN | apply Kd.R_drew)); exact Kd.R_mono HO_8.1 (fun _ hk => (by simp [Value.ownBlock]))⟩, ⟨bk BK472⟩, ⟨bk BK473⟩, ⟨bk BK474⟩, ⟨bq HB⟩⟩
    case round =>
      clear H'
      try clear c21
      try clear hcz11_0
      try clear hcz11_1
      try clear hcz11_2
      try clear hcz13_0
      try clear hcz13_1
      try clear hcz13_2
      try clear hfz11_0
      try clear hfz11_1
      try clear hfz11_2
      try clear hfz13_0
      try clear hfz13_1
      try clear hfz13_2
      obtain ⟨x10_2, x30_2, rfl, HA, HK2, HO_10, HO_28, BK472, BK473, BK474, HB⟩ := hrel
      cases gk with
      | zero => exact absurd HA.1 (by simp [spec_ThreeMeet.l0])
      | succ k2 =>
        have H := HA.1
        clear HA
        simp only [spec_ThreeMeet.l0] at H
        by_cases c23 : x30_2 < (t475.length : Int)
        · rw [if_pos c23] at H
          have c23b0 : decide (x30_2 < (t475.length : Int)) = true := decide_eq_true c23
          clear c23
          by_cases c24 : 0 ≤ x30_2
          · rw [if_pos c24] at H
            have c24b0 : decide (0 ≤ x30_2) = true := decide_eq_true c24
            clear c24
            by_cases c25 : x30_2 < (t475.length : Int)
            · rw [if_pos c25] at H
              have c25b0 : decide (x30_2 < (t475.length : Int)) = true := decide_eq_true c25
              clear c25
              replace H := Option.bind_eq_some_iff.mp H
              obtain ⟨⟨t482, t483, t484⟩, A260, H⟩ := H
              (try dsimp only at H)
              have A26 := Aside0.mk A260
              clear A260
              replace H := Option.bind_eq_some_iff.mp H
              obtain ⟨⟨t485, t486, t487⟩, A270, H⟩ := H
              (try dsimp only at H)
              have A27 := Aside0.mk A270
              clear A270
              by_cases c28 : t487 = true
              · subst c28
                rw [if_pos rfl] at H
                by_cases c29 : t485 = 0
                · rw [if_pos c29] at H
                  have c29b0 : (t485 == 0) = true := beq_iff_eq.mpr c29
                  have c29b1 : (t485 != 0) = false := bne_eq_false_iff_eq.mpr c29
                  clear c29
                  by_cases c30 : x10_2.length < 8796093022208
                  · rw [if_pos c30] at H
                    have LMc30 := Aside0.mk c30
                    clear c30
                    obtain ⟨y489, hy489⟩ : ∃ y_ : List (S25), y_ = (x10_2 ++ [(⟨(rd_T25 t475 x30_2).f0, (rd_T25 t475 x30_2).f1⟩ : S25)]) := ⟨_, rfl⟩
                    replace H : (spec_ThreeMeet.l0 k2 y489 t475 (t475.length : Int) (wrap64 (x30_2 + 1)) a0_0 a0_1 a0_2 a2_0 a2_1 a2_2) = some (r1, r2) := by first | (rw [hy489]; with_reducible exact H) | (have H2_ := (Option.bind_some _ _).symm.trans H; rw [hy489]; with_reducible exact H2_) | (have H2_ := (Option.bind_some _ _).symm.trans H; with_reducible exact H2_) | with_reducible exact H | (rw [hy489]; exact H) | exact H
                    have Ny489 := Aside0.mk hy489
                    clear hy489
                    have H' := Aside0.mk H
                    clear H
                    have p480 : 0 ≤ (x30_2 : Int) := of_decide_eq_true (by first | (with_reducible assumption) | assumption)
                    have q480 : x30_2 < (t475.length : Int) := of_decide_eq_true (by first | (with_reducible assumption) | assumption)
                    obtain ⟨ad480, e480, hx480_0, hx480_1⟩ := at_T25 (Kd.R_reads' HO_28.1).2.2 x30_2 p480 q480
                    cases e480
                    replace p480 := eq_true p480
                    replace q480 := eq_true q480
                    try go_wp2_with (first | ((with_reducible refine gate_dst (N := 12) rfl ?_); refine be #[.int .i64 0, .int .i64 0] 25 ?_; intro gb481 hg w31 hbox hb; replace HO_10 := Aside0.mk (Kd.R_below (Kd.R_elderB (rq HO_10) gb481 (Nat.le_of_eq hg.symm)) hb); replace HO_28 := Aside0.mk (Kd.R_below (Kd.R_elderB (rq HO_28) gb481 (Nat.le_of_eq hg.symm)) hb); have BK481 := Aside0.mk hbox; have GW481 := zs HB hg; have GE481 := zs HB hg; have NB472_481 := zn BK472 hg; have NB481_472 := zm BK472 hg; have NB473_481 := zn BK473 hg; have NB481_473 := zm BK473 hg; have NB474_481 := zn BK474 hg; have NB481_474 := zm BK474 hg; replace BK472 := zb BK472 hb; replace BK473 := zb BK473 hb; replace BK474 := zb BK474 hb; replace HB := zB HB hb; clear hb hbox hg; have hnb32 := NB481_472.1; have hnc32 := NB472_481.1; have hnb33 := NB481_473.1; have hnc33 := NB473_481.1; have hnb34 := NB481_474.1; have hnc34 := NB474_481.1; obtain ⟨hcz35_0, hcz35_1, hfz35_0, hfz35_1⟩ := zc2 BK481))
                    have n0_ : Aside0 (Kd.R k25 25 ((w31.setCell ⟨gb481, 0, none⟩ (.int .i64 ((rd_T25 t475 x30_2).f0))).setCell ⟨gb481, 1, none⟩ (.int .i64 ((rd_T25 t475 x30_2).f1))) w.heap.size (fun k_ => some k_ ≠ (.slice (some ad480) t475.length co22 : Value).ownBlock ∧ k_ ≠ gb481) u10 x10_2) := ⟨by (with_reducible repeat (first | apply Kd.R_alloc | apply Kd.R_drewN | apply Kd.R_drew)); exact Kd.R_mono (Kd.R_far (p := ⟨gb481, 1, none⟩) (Kd.R_far (p := ⟨gb481, 0, none⟩) (Kd.R_mono HO_10.1 (fun k_ hk => (⟨hk, hk.2⟩ : _ ∧ k_ ≠ gb481))) (fun _ hk => hk.2) (.int .i64 ((rd_T25 t475 x30_2).f0))) (fun _ hk => hk.2) (.int .i64 ((rd_T25 t475 x30_2).f1))) (fun _ hk => ⟨hk.1.1, hk.1.2⟩)⟩
                    have n1_ : Aside0 (Kd.R k25 25 ((w31.setCell ⟨gb481, 0, none⟩ (.int .i64 ((rd_T25 t475 x30_2).f0))).setCell ⟨gb481, 1, none⟩ (.int .i64 ((rd_T25 t475 x30_2).f1))) w.heap.size (fun k_ => some k_ ≠ (u10 : Value).ownBlock ∧ k_ ≠ gb481) (.slice (some ad480) t475.length co22) t475) := ⟨by (with_reducible repeat (first | apply Kd.R_alloc | apply Kd.R_drewN | apply Kd.R_drew)); exact Kd.R_mono (Kd.R_far (p := ⟨gb481, 1, none⟩) (Kd.R_far (p := ⟨gb481, 0, none⟩) (Kd.R_mono HO_28.1 (fun k_ hk => (⟨hk, hk.2⟩ : _ ∧ k_ ≠ gb481))) (fun _ hk => hk.2) (.int .i64 ((rd_T25 t475 x30_2).f0))) (fun _ hk => hk.2) (.int .i64 ((rd_T25 t475 x30_2).f1))) (fun _ hk => ⟨hk.1.1, hk.1.2⟩)⟩
                    have n2_ : Aside0 (((w31.setCell ⟨gb481, 0, none⟩ (.int .i64 ((rd_T25 t475 x30_2).f0))).setCell ⟨gb481, 1, none⟩ (.int .i64 ((rd_T25 t475 x30_2).f1))).heap[gb472]? = some (.cells #[.int .i64 a0_0, .int .i64 a0_1, .int .i64 a0_2] 27 (0, 0))) := ⟨bk BK472⟩
                    have n3_ : Aside0 (((w31.setCell ⟨gb481, 0, none⟩ (.int .i64 ((rd_T25 t475 x30_2).f0))).setCell ⟨gb481, 1, none⟩ (.int .i64 ((rd_T25 t475 x30_2).f1))).heap[gb473]? = some (.cells #[.int .i64 a1_0, .int .i64 a1_1, .int .i64 a1_2] 27 (0, 0))) := ⟨bk BK473⟩
                    have n4_ : Aside0 (((w31.setCell ⟨gb481, 0, none⟩ (.int .i64 ((rd_T25 t475 x30_2).f0))).setCell ⟨gb481, 1, none⟩ (.int .i64 ((rd_T25 t475 x30_2).f1))).heap[gb474]? = some (.cells #[.int .i64 a2_0, .int .i64 a2_1, .int .i64 a2_2] 27 (0, 0))) := ⟨bk BK474⟩
                    have n5_ : Aside0 (((w31.setCell ⟨gb481, 0, none⟩ (.int .i64 ((rd_T25 t475 x30_2).f0))).setCell ⟨gb481, 1, none⟩ (.int .i64 ((rd_T25 t475 x30_2).f1))).heap[gb481]? = some (.cells #[.int .i64 ((rd_T25 t475 x30_2).f0), .int .i64 ((rd_T25 t475 x30_2).f1)] 25 (0, 0))) := ⟨bk BK481⟩
                    have n6_ : Aside0 (Below w.heap.size w ((w31.setCell ⟨gb481, 0, none⟩ (.int .i64 ((rd_T25 t475 x30_2).f0))).setCell ⟨gb481, 1, none⟩ (.int .i64 ((rd_T25 t475 x30_2).f1)))) := ⟨bq HB⟩
                    (try clear HO_10)
                    (try clear HO_28)
                    (try clear BK472)
                    (try clear BK473)
                    (try clear BK474)
                    (try clear BK481)
                    (try clear HB)
                    generalize ((w31.setCell ⟨gb481, 0, none⟩ (.int .i64 ((rd_T25 t475 x30_2).f0))).setCell ⟨gb481, 1, none⟩ (.int .i64 ((rd_T25 t475 x30_2).f1))) = w36 at n0_ n1_ n2_ n3_ n4_ n5_ n6_ ⊢
                    have HO_10 := n0_
                    have HO_28 := n1_
                    have BK472 := n2_
                    have BK473 := n3_
                    have BK474 := n4_
                    have BK481 := n5_
                    have HB := n6_
                    clear n0_ n1_ n2_ n3_ n4_ n5_ n6_
                    replace HO_10 := Aside0.mk (Kd.R_drew HO_10.1)
                    replace HO_28 := Aside0.mk (Kd.R_drew HO_28.1)
                    replace BK472 := Aside0.mk (blk_drew BK472.1)
                    replace BK473 := Aside0.mk (blk_drew BK473.1)
                    replace BK474 := Aside0.mk (blk_drew BK474.1)
                    replace BK481 := Aside0.mk (blk_drew BK481.1)
                    replace HB := Aside0.mk (below_drew1 HB.1)
                    refine start_ (n := 11) (S := fun w' => w'.cell? ⟨gb472, 0, none⟩ = some (.int .i64 a0_0) ∧ w'.cell? ⟨gb472, 1, none⟩ = some (.int .i64 a0_1) ∧ w'.cell? ⟨gb472, 2, none⟩ = some (.int .i64 a0_2) ∧ w'.cell? ⟨gb474, 0, none⟩ = some (.int .i64 a2_0) ∧ w'.cell? ⟨gb474, 1, none⟩ = some (.int .i64 a2_1) ∧ w'.cell? ⟨gb474, 2, none⟩ = some (.int .i64 a2_2) ∧ w'.cell? ⟨gb481, 0, none⟩ = some (.int .i64 ((rd_T25 t475 x30_2).f0)) ∧ w'.cell? ⟨gb481, 1, none⟩ = some (.int .i64 ((rd_T25 t475 x30_2).f1))) (ds := []) (bs 11 0) (by kernel_rfl) rfl rfl ⟨(blk_cell BK472.1 0).trans rfl, (blk_cell BK472.1 1).trans rfl, (blk_cell BK472.1 2).trans rfl, (blk_cell BK474.1 0).trans rfl, (blk_cell BK474.1 1).trans rfl, (blk_cell BK474.1 2).trans rfl, (blk_cell BK481.1 0).trans rfl, (blk_cell BK481.1 1).trans rfl⟩ (fun hHeld => ?_); refine with_tabW spec_ThreeMeet.tab8 spec_ThreeMeet.bits8 (fun HT_ HW_ => ?_)
                    generalize w36.drew = w37 at HO_10 HO_28 BK472 BK473 BK474 BK481 HB hHeld ⊢
                    refine tk 0 35 HT_ HW_ hHeld rfl rfl (bs 11 1) ?_
                    refine tk 1 36 HT_ HW_ hHeld rfl rfl (bs 11 3) ?_
                    refine tk 3 38 HT_ HW_ hHeld rfl rfl (bs 11 11) ?_
                    refine join_ (σ := Nat) 2 (bs 11 511) (fun s_ => [(37, .agg #[.int .i64 t482, .int .i64 t483, .int .i64 t484]), (39, .tuple #[.agg #[.int .i64 t485, .int .i64 t486], .bool true]), (13, .pointer (some ⟨s_, 0, none⟩)), (34, .tuple #[.agg #[.int .i64 t485, .int .i64 t486], .bool true]), (40, .agg #[.int .i64 t485, .int .i64 t486]), (41, .bool true)]) (fun s_ w' => (w'.cell? ⟨gb472, 0, none⟩ = some (.int .i64 a0_0) ∧ w'.cell? ⟨gb472, 1, none⟩ = some (.int .i64 a0_1) ∧ w'.cell? ⟨gb472, 2, none⟩ = some (.int .i64 a0_2) ∧ w'.cell? ⟨gb474, 0, none⟩ = some (.int .i64 a2_0) ∧ w'.cell? ⟨gb474, 1, none⟩ = some (.int .i64 a2_1) ∧ w'.cell? ⟨gb474, 2, none⟩ = some (.int .i64 a2_2) ∧ w'.cell? ⟨gb481, 0, none⟩ = some (.int .i64 ((rd_T25 t475 x30_2).f0)) ∧ w'.cell? ⟨gb481, 1, none⟩ = some (.int .i64 ((rd_T25 t475 x30_2).f1))) ∧ (Kd.R k25 25 w' w.heap.size (fun k_ => some k_ ≠ (.slice (some ad480) t475.length co22 : Value).ownBlock ∧ k_ ≠ gb481 ∧ k_ ≠ s_) u10 x10_2) ∧ (Kd.R k25 25 w' w.heap.size (fun k_ => some k_ ≠ (u10 : Value).ownBlock ∧ k_ ≠ gb481 ∧ k_ ≠ s_) (.slice (some ad480) t475.length co22) t475) ∧ (w'.heap[gb472]? = some (.cells #[.int .i64 a0_0, .int .i64 a0_1, .int .i64 a0_2] 27 (0, 0))) ∧ (w'.heap[gb473]? = some (.cells #[.int .i64 a1_0, .int .i64 a1_1, .int .i64 a1_2] 27 (0, 0))) ∧ (w'.heap[gb474]? = some (.cells #[.int .i64 a2_0, .int .i64 a2_1, .int .i64 a2_2] 27 (0, 0))) ∧ (w'.heap[gb481]? = some (.cells #[.int .i64 ((rd_T25 t475 x30_2).f0), .int .i64 ((rd_T25 t475 x30_2).f1)] 25 (0, 0))) ∧ (w'.heap[s_]? = some (.cells #[.int .i64 0, .int .i64 0] 25 (0, 0))) ∧ (w.heap.size ≤ s_) ∧ (w.heap.size ≤ s_) ∧ (gb472 ≠ s_) ∧ (s_ ≠ gb472) ∧ (gb473 ≠ s_) ∧ (s_ ≠ gb473) ∧ (gb474 ≠ s_) ∧ (s_ ≠ gb474) ∧ (gb481 ≠ s_) ∧ (s_ ≠ gb481) ∧ (Below w.heap.size w w')) ?_ ?_
                    rotate_left
                    · intro hCont
                      refine two_ (i := 2) (j := 8) (Ni := some 37) (Nj := some 13) (bs 11 15) (bs 11 267) rfl rfl rfl rfl (two_of HT_.1 (by kernel_rfl)) (by decide) (by decide) (fun K hK => ?_) (fun K hK => ?_)
                      · skip
                        refine gs Try.func33 #[.agg #[.int .i64 a0_0, .int .i64 a0_1, .int .i64 a0_2], .agg #[.int .i64 a2_0, .int .i64 a2_1, .int .i64 a2_2]] ?_
                        with_reducible refine (spec_meRelative.calls k2 a0_0 a0_1 a0_2 a2_0 a2_1 a2_2 t482 t483 t484 _ A26.1).mono ?_
                        rintro e w38 ⟨rfl, hb⟩
                        refine ⟨_, rfl, ?_⟩
                        replace HO_10 := rB HO_10 hb
                        replace HO_28 := rB HO_28 hb
                        replace BK472 := zb BK472 hb
                        replace BK473 := zb BK473 hb
                        replace BK474 := zb BK474 hb
                        replace BK481 := zb BK481 hb
                        replace HB := zB HB hb
                        (try clear hb)
                        (try clear hb2)
                        (try clear hk)
                        (try clear hi)
                        refine hK.out _ _ ⟨(blk_cell BK472.1 0).trans rfl, (blk_cell BK472.1 1).trans rfl, (blk_cell BK472.1 2).trans rfl, (blk_cell BK474.1 0).trans rfl, (blk_cell BK474.1 1).trans rfl, (blk_cell BK474.1 2).trans rfl, (blk_cell BK481.1 0).trans rfl, (blk_cell BK481.1 1).trans rfl⟩ (fun hHeld => ?_)
                        clear hK K
                        refine norm_ (aq 37) ?_
                        refine two_ (i := 4) (j := 8) (Ni := some 39) (Nj := some 13) (bs 11 31) (bs 11 271) rfl rfl rfl rfl (two_of HT_.1 (by kernel_rfl)) (by decide) (by decide) (fun K hK => ?_) (fun K hK => ?_)
                        · skip
                          refine gs Try.func41 #[.agg #[.int .i64 t482, .int .i64 t483, .int .i64 t484], .agg #[.int .i64 ((rd_T25 t475 x30_2).f0), .int .i64 ((rd_T25 t475 x30_2).f1)]] ?_
                          with_reducible refine (spec_meAt.calls k2 t482 t483 t484 ((rd_T25 t475 x30_2).f0) ((rd_T25 t475 x30_2).f1) t485 t486 true _ A27.1).mono ?_
                          rintro e w39 ⟨rfl, hb⟩
                          refine ⟨_, rfl, ?_⟩
                          replace HO_10 := rB HO_10 hb
                          replace HO_28 := rB HO_28 hb
                          replace BK472 := zb BK472 hb
                          replace BK473 := zb BK473 hb
                          replace BK474 := zb BK474 hb
                          replace BK481 := zb BK481 hb
                          replace HB := zB HB hb
                          (try clear hb)
                          (try clear hb2)
                          (try clear hk)
                          (try clear hi)
                          refine hK.out _ _ ⟨(blk_cell BK472.1 0).trans rfl, (blk_cell BK472.1 1).trans rfl, (blk_cell BK472.1 2).trans rfl, (blk_cell BK474.1 0).trans rfl, (blk_cell BK474.1 1).trans rfl, (blk_cell BK474.1 2).trans rfl, (blk_cell BK481.1 0).trans rfl, (blk_cell BK481.1 1).trans rfl⟩ (fun hHeld => ?_)
                          clear hK K
                          refine norm_ (aq 39) ?_
                          refine pu 5 34 HT_ rfl rfl (bs 11 63) ?_
                          refine pu 6 40 HT_ rfl rfl (bs 11 127) ?_
                          refine pu 7 41 HT_ rfl rfl (bs 11 255) ?_
                          refine one_ (i := 8) (N := some 13) (bs 11 511) rfl rfl (one_of HT_.1 (by kernel_rfl)) (by decide) (fun K hK => ?_)
                          refine bp #[.int .i64 0, .int .i64 0] 25 ?_
                          intro gb488 hg w40 hbox hb
                          replace HO_10 := Aside0.mk (Kd.R_below (Kd.R_elderB (rq HO_10) gb488 (Nat.le_of_eq hg.symm)) hb)
                          replace HO_28 := Aside0.mk (Kd.R_below (Kd.R_elderB (rq HO_28) gb488 (Nat.le_of_eq hg.symm)) hb)
                          have BK488 := Aside0.mk hbox
                          have GW488 := zs HB hg
                          have GE488 := zs HB hg
                          have NB472_488 := zn BK472 hg
                          have NB488_472 := zm BK472 hg
                          have NB473_488 := zn BK473 hg
                          have NB488_473 := zm BK473 hg
                          have NB474_488 := zn BK474 hg
                          have NB488_474 := zm BK474 hg
                          have NB481_488 := zn BK481 hg
                          have NB488_481 := zm BK481 hg
                          replace BK472 := zb BK472 hb
                          replace BK473 := zb BK473 hb
                          replace BK474 := zb BK474 hb
                          replace BK481 := zb BK481 hb
                          replace HB := zB HB hb
                          clear hb hbox hg
                          refine hK.out _ _ ⟨(blk_cell BK472.1 0).trans rfl, (blk_cell BK472.1 1).trans rfl, (blk_cell BK472.1 2).trans rfl, (blk_cell BK474.1 0).trans rfl, (blk_cell BK474.1 1).trans rfl, (blk_cell BK474.1 2).trans rfl, (blk_cell BK481.1 0).trans rfl, (blk_cell BK481.1 1).trans rfl⟩ (fun hHeld => ?_)
                          clear hK K
                          refine norm_ (aq 13) ?_
                          exact norm_ (by simp only [putAll, Act.put, List.setIfInBounds_toArray, List.set_cons_zero, List.set_cons_succ]) (hCont (gb488) _ ⟨hHeld, (by (with_reducible repeat (first | apply Kd.R_alloc | apply Kd.R_drewN | apply Kd.R_drew)); exact Kd.R_mono HO_10.1 (fun _ hk => ⟨hk.1.1, ⟨hk.1.2, hk.2⟩⟩)), (by (with_reducible repeat (first | apply Kd.R_alloc | apply Kd.R_drewN | apply Kd.R_drew)); exact Kd.R_mono HO_28.1 (fun _ hk => ⟨hk.1.1, ⟨hk.1.2, hk.2⟩⟩)), (bk BK472), (bk BK473), (bk BK474), (bk BK481), (bk BK488), GW488.1, GE488.1, NB472_488.1, NB488_472.1, NB473_488.1, NB488_473.1, NB474_488.1, NB488_474.1, NB481_488.1, NB488_481.1, (bq HB)⟩)
                        skip
                        refine bp #[.int .i64 0, .int .i64 0] 25 ?_
                        intro gb488 hg w39 hbox hb
                        replace HO_10 := Aside0.mk (Kd.R_below (Kd.R_elderB (rq HO_10) gb488 (Nat.le_of_eq hg.symm)) hb)
                        replace HO_28 := Aside0.mk (Kd.R_below (Kd.R_elderB (rq HO_28) gb488 (Nat.le_of_eq hg.symm)) hb)
                        have BK488 := Aside0.mk hbox
                        have GW488 := zs HB hg
                        have GE488 := zs HB hg
                        have NB472_488 := zn BK472 hg
                        have NB488_472 := zm BK472 hg
                        have NB473_488 := zn BK473 hg
                        have NB488_473 := zm BK473 hg
                        have NB474_488 := zn BK474 hg
                        have NB488_474 := zm BK474 hg
                        have NB481_488 := zn BK481 hg
                        have NB488_481 := zm BK481 hg
                        replace BK472 := zb BK472 hb
                        replace BK473 := zb BK473 hb
                        replace BK474 := zb BK474 hb
                        replace BK481 := zb BK481 hb
                        replace HB := zB HB hb
                        clear hb hbox hg
                        refine hK.out _ _ ⟨(blk_cell BK472.1 0).trans rfl, (blk_cell BK472.1 1).trans rfl, (blk_cell BK472.1 2).trans rfl, (blk_cell BK474.1 0).trans rfl, (blk_cell BK474.1 1).trans rfl, (blk_cell BK474.1 2).trans rfl, (blk_cell BK481.1 0).trans rfl, (blk_cell BK481.1 1).trans rfl⟩ (fun hHeld => ?_)
                        clear hK K
                        refine norm_ (aq 13) ?_
                        refine one_ (i := 4) (N := some 39) (bs 11 287) rfl rfl (one_of HT_.1 (by kernel_rfl)) (by decide) (fun K hK => ?_)
                        refine gs Try.func41 #[.agg #[.int .i64 t482, .int .i64 t483, .int .i64 t484], .agg #[.int .i64 ((rd_T25 t475 x30_2).f0), .int .i64 ((rd_T25 t475 x30_2).f1)]] ?_
                        with_reducible refine (spec_meAt.calls k2 t482 t483 t484 ((rd_T25 t475 x30_2).f0) ((rd_T25 t475 x30_2).f1) t485 t486 true _ A27.1).mono ?_
                        rintro e w40 ⟨rfl, hb⟩
                        refine ⟨_, rfl, ?_⟩
                        replace HO_10 := rB HO_10 hb
                        replace HO_28 := rB HO_28 hb
                        replace BK472 := zb BK472 hb
                        replace BK473 := zb BK473 hb
                        replace BK474 := zb BK474 hb
                        replace BK481 := zb BK481 hb
                        replace BK488 := zb BK488 hb
                        replace HB := zB HB hb
                        (try clear hb)
                        (try clear hb2)
                        (try clear hk)
                        (try clear hi)
                        refine hK.out _ _ ⟨(blk_cell BK472.1 0).trans rfl, (blk_cell BK472.1 1).trans rfl, (blk_cell BK472.1 2).trans rfl, (blk_cell BK474.1 0).trans rfl, (blk_cell BK474.1 1).trans rfl, (blk_cell BK474.1 2).trans rfl, (blk_cell BK481.1 0).trans rfl, (blk_cell BK481.1 1).trans rfl⟩ (fun hHeld => ?_)
                        clear hK K
                        refine norm_ (aq 39) ?_
                        refine pu 5 34 HT_ rfl rfl (bs 11 319) ?_
                        refine pu 6 40 HT_ rfl rfl (bs 11 383) ?_
                        refine pu 7 41 HT_ rfl rfl (bs 11 511) ?_
                        exact norm_ (by simp only [putAll, Act.put, List.setIfInBounds_toArray, List.set_cons_zero, List.set_cons_succ]) (hCont (gb488) _ ⟨hHeld, (by (with_reducible repeat (first | apply Kd.R_alloc | apply Kd.R_drewN | apply Kd.R_drew)); exact Kd.R_mono HO_10.1 (fun _ hk => ⟨hk.1.1, ⟨hk.1.2, hk.2⟩⟩)), (by (with_reducible repeat (first | apply Kd.R_alloc | apply Kd.R_drewN | apply Kd.R_drew)); exact Kd.R_mono HO_28.1 (fun _ hk => ⟨hk.1.1, ⟨hk.1.2, hk.2⟩⟩)), (bk BK472), (bk BK473), (bk BK474), (bk BK481), (bk BK488), GW488.1, GE488.1, NB472_488.1, NB488_472.1, NB473_488.1, NB488_473.1, NB474_488.1, NB488_474.1, NB481_488.1, NB488_481.1, (bq HB)⟩)
                      skip
                      refine bp #[.int .i64 0, .int .i64 0] 25 ?_
                      intro gb488 hg w38 hbox hb
                      replace HO_10 := Aside0.mk (Kd.R_below (Kd.R_elderB (rq HO_10) gb488 (Nat.le_of_eq hg.symm)) hb)
                      replace HO_28 := Aside0.mk (Kd.R_below (Kd.R_elderB (rq HO_28) gb488 (Nat.le_of_eq hg.symm)) hb)
                      have BK488 := Aside0.mk hbox
                      have GW488 := zs HB hg
                      have GE488 := zs HB hg
                      have NB472_488 := zn BK472 hg
                      have NB488_472 := zm BK472 hg
                      have NB473_488 := zn BK473 hg
                      have NB488_473 := zm BK473 hg
                      have NB474_488 := zn BK474 hg
                      have NB488_474 := zm BK474 hg
                      have NB481_488 := zn BK481 hg
                      have NB488_481 := zm BK481 hg
                      replace BK472 := zb BK472 hb
                      replace BK473 := zb BK473 hb
                      replace BK474 := zb BK474 hb
                      replace BK481 := zb BK481 hb
                      replace HB := zB HB hb
                      clear hb hbox hg
                      refine hK.out _ _ ⟨(blk_cell BK472.1 0).trans rfl, (blk_cell BK472.1 1).trans rfl, (blk_cell BK472.1 2).trans rfl, (blk_cell BK474.1 0).trans rfl, (blk_cell BK474.1 1).trans rfl, (blk_cell BK474.1 2).trans rfl, (blk_cell BK481.1 0).trans rfl, (blk_cell BK481.1 1).trans rfl⟩ (fun hHeld => ?_)
                      clear hK K
                      refine norm_ (aq 13) ?_
                      refine one_ (i := 2) (N := some 37) (bs 11 271) rfl rfl (one_of HT_.1 (by kernel_rfl)) (by decide) (fun K hK => ?_)
                      refine gs Try.func33 #[.agg #[.int .i64 a0_0, .int .i64 a0_1, .int .i64 a0_2], .agg #[.int .i64 a2_0, .int .i64 a2_1, .int .i64 a2_2]] ?_
                      with_reducible refine (spec_meRelative.calls k2 a0_0 a0_1 a0_2 a2_0 a2_1 a2_2 t482 t483 t484 _ A26.1).mono ?_
                      rintro e w39 ⟨rfl, hb⟩
                      refine ⟨_, rfl, ?_⟩
                      replace HO_10 := rB HO_10 hb
                      replace HO_28 := rB HO_28 hb
                      replace BK472 := zb BK472 hb
                      replace BK473 := zb BK473 hb
                      replace BK474 := zb BK474 hb
                      replace BK481 := zb BK481 hb
                      replace BK488 := zb BK488 hb
                      replace HB := zB HB hb
                      (try clear hb)
                      (try clear hb2)
                      (try clear hk)
                      (try clear hi)
                      refine hK.out _ _ ⟨(blk_cell BK472.1 0).trans rfl, (blk_cell BK472.1 1).trans rfl, (blk_cell BK472.1 2).trans rfl, (blk_cell BK474.1 0).trans rfl, (blk_cell BK474.1 1).trans rfl, (blk_cell BK474.1 2).trans rfl, (blk_cell BK481.1 0).trans rfl, (blk_cell BK481.1 1).trans rfl⟩ (fun hHeld => ?_)
                      clear hK K
                      refine norm_ (aq 37) ?_
                      refine one_ (i := 4) (N := some 39) (bs 11 287) rfl rfl (one_of HT_.1 (by kernel_rfl)) (by decide) (fun K hK => ?_)
                      refine gs Try.func41 #[.agg #[.int .i64 t482, .int .i64 t483, .int .i64 t484], .agg #[.int .i64 ((rd_T25 t475 x30_2).f0), .int .i64 ((rd_T25 t475 x30_2).f1)]] ?_
                      with_reducible refine (spec_meAt.calls k2 t482 t483 t484 ((rd_T25 t475 x30_2).f0) ((rd_T25 t475 x30_2).f1) t485 t486 true _ A27.1).mono ?_
                      rintro e w40 ⟨rfl, hb⟩
                      refine ⟨_, rfl, ?_⟩
                      replace HO_10 := rB HO_10 hb
                      replace HO_28 := rB HO_28 hb
                      replace BK472 := zb BK472 hb
                      replace BK473 := zb BK473 hb
                      replace BK474 := zb BK474 hb
                      replace BK481 := zb BK481 hb
                      replace BK488 := zb BK488 hb
                      replace HB := zB HB hb
                      (try clear hb)
                      (try clear hb2)
                      (try clear hk)
                      (try clear hi)
                      refine hK.out _ _ ⟨(blk_cell BK472.1 0).trans rfl, (blk_cell BK472.1 1).trans rfl, (blk_cell BK472.1 2).trans rfl, (blk_cell BK474.1 0).trans rfl, (blk_cell BK474.1 1).trans rfl, (blk_cell BK474.1 2).trans rfl, (blk_cell BK481.1 0).trans rfl, (blk_cell BK481.1 1).trans rfl⟩ (fun hHeld => ?_)
                      clear hK K
                      refine norm_ (aq 39) ?_
                      refine pu 5 34 HT_ rfl rfl (bs 11 319) ?_
                      refine pu 6 40 HT_ rfl rfl (bs 11 383) ?_
                      refine pu 7 41 HT_ rfl rfl (bs 11 511) ?_
                      exact norm_ (by simp only [putAll, Act.put, List.setIfInBounds_toArray, List.set_cons_zero, List.set_cons_succ]) (hCont (gb488) _ ⟨hHeld, (by (with_reducible repeat (first | apply Kd.R_alloc | apply Kd.R_drewN | apply Kd.R_drew)); exact Kd.R_mono HO_10.1 (fun _ hk => ⟨hk.1.1, ⟨hk.1.2, hk.2⟩⟩)), (by (with_reducible repeat (first | apply Kd.R_alloc | apply Kd.R_drewN | apply Kd.R_drew)); exact Kd.R_mono HO_28.1 (fun _ hk => ⟨hk.1.1, ⟨hk.1.2, hk.2⟩⟩)), (bk BK472), (bk BK473), (bk BK474), (bk BK481), (bk BK488), GW488.1, GE488.1, NB472_488.1, NB488_472.1, NB473_488.1, NB488_473.1, NB474_488.1, NB488_474.1, NB481_488.1, NB488_481.1, (bq HB)⟩)
                    rintro gb488 w41 ⟨hS_, h0_, h1_, h2_, h3_, h4_, h5_, h6_, h7_, h8_, h9_, h10_, h11_, h12_, h13_, h14_, h15_, h16_, h17_⟩
                    have n0_ : Aside0 (Kd.R k25 25 w41 w.heap.size (fun k_ => some k_ ≠ (.slice (some ad480) t475.length co22 : Value).ownBlock ∧ k_ ≠ gb481 ∧ k_ ≠ gb488) u10 x10_2) := ⟨h0_⟩
                    have n1_ : Aside0 (Kd.R k25 25 w41 w.heap.size (fun k_ => some k_ ≠ (u10 : Value).ownBlock ∧ k_ ≠ gb481 ∧ k_ ≠ gb488) (.slice (some ad480) t475.length co22) t475) := ⟨h1_⟩
                    have n2_ : Aside0 (w41.heap[gb472]? = some (.cells #[.int .i64 a0_0, .int .i64 a0_1, .int .i64 a0_2] 27 (0, 0))) := ⟨h2_⟩
                    have n3_ : Aside0 (w41.heap[gb473]? = some (.cells #[.int .i64 a1_0, .int .i64 a1_1, .int .i64 a1_2] 27 (0, 0))) := ⟨h3_⟩
                    have n4_ : Aside0 (w41.heap[gb474]? = some (.cells #[.int .i64 a2_0, .int .i64 a2_1, .int .i64 a2_2] 27 (0, 0))) := ⟨h4_⟩
                    have n5_ : Aside0 (w41.heap[gb481]? = some (.cells #[.int .i64 ((rd_T25 t475 x30_2).f0), .int .i64 ((rd_T25 t475 x30_2).f1)] 25 (0, 0))) := ⟨h5_⟩
                    have n6_ : Aside0 (w41.heap[gb488]? = some (.cells #[.int .i64 0, .int .i64 0] 25 (0, 0))) := ⟨h6_⟩
                    have n7_ : Aside0 (w.heap.size ≤ gb488) := ⟨h7_⟩
                    have n8_ : Aside0 (w.heap.size ≤ gb488) := ⟨h8_⟩
                    have n9_ : Aside0 (gb472 ≠ gb488) := ⟨h9_⟩
                    have n10_ : Aside0 (gb488 ≠ gb472) := ⟨h10_⟩
                    have n11_ : Aside0 (gb473 ≠ gb488) := ⟨h11_⟩
                    have n12_ : Aside0 (gb488 ≠ gb473) := ⟨h12_⟩
                    have n13_ : Aside0 (gb474 ≠ gb488) := ⟨h13_⟩
                    have n14_ : Aside0 (gb488 ≠ gb474) := ⟨h14_⟩
                    have n15_ : Aside0 (gb481 ≠ gb488) := ⟨h15_⟩
                    have n16_ : Aside0 (gb488 ≠ gb481) := ⟨h16_⟩
                    have n17_ : Aside0 (Below w.heap.size w w41) := ⟨h17_⟩
                    clear HO_10
                    clear HO_28
                    clear BK472
                    clear BK473
                    clear BK474
                    clear BK481
                    clear HB
                    clear h0_ h1_ h2_ h3_ h4_ h5_ h6_ h7_ h8_ h9_ h10_ h11_ h12_ h13_ h14_ h15_ h16_ h17_
                    have HO_10 := n0_
                    have HO_28 := n1_
                    have BK472 := n2_
                    have BK473 := n3_
                    have BK474 := n4_
                    have BK481 := n5_
                    have BK488 := n6_
                    have GW488 := n7_
                    have GE488 := n8_
                    have NB472_488 := n9_
                    have NB488_472 := n10_
                    have NB473_488 := n11_
                    have NB488_473 := n12_
                    have NB474_488 := n13_
                    have NB488_474 := n14_
                    have NB481_488 := n15_
                    have NB488_481 := n16_
                    have HB := n17_
                    clear n0_ n1_ n2_ n3_ n4_ n5_ n6_ n7_ n8_ n9_ n10_ n11_ n12_ n13_ n14_ n15_ n16_ n17_
                    have hHeld : w41.cell? ⟨gb472, 0, none⟩ = some (.int .i64 a0_0) ∧ w41.cell? ⟨gb472, 1, none⟩ = some (.int .i64 a0_1) ∧ w41.cell? ⟨gb472, 2, none⟩ = some (.int .i64 a0_2) ∧ w41.cell? ⟨gb474, 0, none⟩ = some (.int .i64 a2_0) ∧ w41.cell? ⟨gb474, 1, none⟩ = some (.int .i64 a2_1) ∧ w41.cell? ⟨gb474, 2, none⟩ = some (.int .i64 a2_2) ∧ w41.cell? ⟨gb481, 0, none⟩ = some (.int .i64 ((rd_T25 t475 x30_2).f0)) ∧ w41.cell? ⟨gb481, 1, none⟩ = some (.int .i64 ((rd_T25 t475 x30_2).f1)) := hS_
                    refine norm_ (a' := ?_) ?_ ?_
                    rotate_left
                    · simp only [putAll, Act.put, List.setIfInBounds_toArray, List.set_cons_zero, List.set_cons_succ]
                      rfl
                    refine one_ (i := 9) (N := none) (bs 11 1023) rfl rfl (one_of HT_.1 (by kernel_rfl)) (by decide) (fun K hK => ?_)
                    have hs42 : w41.cell? ⟨gb488, 0, none⟩ = some (.int .i64 0) := (blk_cell BK488.1 0).trans rfl
                    have hfs42 := blk_frozen BK488.1 0
                    have hns42_0 := NB472_488.1
                    have hns42_1 := NB473_488.1
                    have hns42_2 := NB474_488.1
                    have hns42_3 := NB481_488.1
                    have hms42_0 := NB488_472.1
                    have hms42_1 := NB488_473.1
                    have hms42_2 := NB488_474.1
                    have hms42_3 := NB488_481.1
                    have hs43 : w41.cell? ⟨gb488, 1, none⟩ = some (.int .i64 0) := (blk_cell BK488.1 1).trans rfl
                    have hfs43 := blk_frozen BK488.1 1
                    have hns43_0 := NB472_488.1
                    have hns43_1 := NB473_488.1
                    have hns43_2 := NB474_488.1
                    have hns43_3 := NB481_488.1
                    have hms43_0 := NB488_472.1
                    have hms43_1 := NB488_473.1
                    have hms43_2 := NB488_474.1
                    have hms43_3 := NB488_481.1
                    refine skip_ (w1 := ?_) (by rfl) rfl ?_ ?_
                    rotate_left
                    · go_simp
                      rfl
                    refine hK.out _ _ ⟨((cell_far (p := ⟨gb488, _, none⟩) NB472_488.1 _).trans (((cell_far (p := ⟨gb488, _, none⟩) NB472_488.1 _).trans (hHeld.1)))), ((cell_far (p := ⟨gb488, _, none⟩) NB472_488.1 _).trans (((cell_far (p := ⟨gb488, _, none⟩) NB472_488.1 _).trans (hHeld.2.1)))), ((cell_far (p := ⟨gb488, _, none⟩) NB472_488.1 _).trans (((cell_far (p := ⟨gb488, _, none⟩) NB472_488.1 _).trans (hHeld.2.2.1)))), ((cell_far (p := ⟨gb488, _, none⟩) NB474_488.1 _).trans (((cell_far (p := ⟨gb488, _, none⟩) NB474_488.1 _).trans (hHeld.2.2.2.1)))), ((cell_far (p := ⟨gb488, _, none⟩) NB474_488.1 _).trans (((cell_far (p := ⟨gb488, _, none⟩) NB474_488.1 _).trans (hHeld.2.2.2.2.1)))), ((cell_far (p := ⟨gb488, _, none⟩) NB474_488.1 _).trans (((cell_far (p := ⟨gb488, _, none⟩) NB474_488.1 _).trans (hHeld.2.2.2.2.2.1)))), ((cell_far (p := ⟨gb488, _, none⟩) NB481_488.1 _).trans (((cell_far (p := ⟨gb488, _, none⟩) NB481_488.1 _).trans (hHeld.2.2.2.2.2.2.1)))), ((cell_far (p := ⟨gb488, _, none⟩) NB481_488.1 _).trans (((cell_far (p := ⟨gb488, _, none⟩) NB481_488.1 _).trans (hHeld.2.2.2.2.2.2.2))))⟩ (fun hHeld => ?_)
                    clear hK K
                    refine pu 10 14 HT_ rfl rfl (bs 11 2047) ?_
                    refine done_ (done_of HT_.1 (by kernel_rfl)) ?_
                    have hnb44 := NB488_472.1
                    have hnc44 := NB472_488.1
                    have hnb45 := NB488_473.1
                    have hnc45 := NB473_488.1
                    have hnb46 := NB488_474.1
                    have hnc46 := NB474_488.1
                    have hnb47 := NB488_481.1
                    have hnc47 := NB481_488.1
                    obtain ⟨hcz48_0, hcz48_1, hfz48_0, hfz48_1⟩ := zc2 BK488
                    obtain ⟨hcz49_0, hcz49_1, hfz49_0, hfz49_1⟩ := zc2 BK481
                    try go_wp2_with (first | ((with_reducible refine gate_builtin (b := .append) (xs := #[.tmp 48, .tmp 50]) rfl ?_); at_builtin; refine Kd.R_append k25 (w0 := w) w.heap.size rfl (.tmp 48) (.tmp 50) 30 25 (.agg #[(.int .i64 0), (.int .i64 0)]) 16 rfl Try.underlying30 info25 rfl (by decide) (by omega) u10 x10_2 (⟨(rd_T25 t475 x30_2).f0, (rd_T25 t475 x30_2).f1⟩ : S25) [.int .i64 ((rd_T25 t475 x30_2).f0), .int .i64 ((rd_T25 t475 x30_2).f1)] (fun k_ => some k_ ≠ (.slice (some ad480) t475.length co22 : Value).ownBlock ∧ k_ ≠ gb481 ∧ k_ ≠ gb488) (fun _ => False) rfl (by first | (go_simp; done) | (go_simp; rfl)) ?aP (fun _ hk => hk.elim) ?aF ?aO ?aB ?aS ?aL ?_; (case aP => exact k25_mkM _ _ _ (⟨(rd_T25 t475 x30_2).f0, (rd_T25 t475 x30_2).f1⟩ : S25)); (case aB => exact (bq HB)); (case aF => exact (fun k_ hk => ⟨Kd.fresh' (Kd.R_lt (by (with_reducible repeat (first | apply Kd.R_alloc | apply Kd.R_drewN | apply Kd.R_drew)); exact (Kd.R_mono (Kd.R_far (p := ⟨gb488, 1, none⟩) (Kd.R_far (p := ⟨gb488, 0, none⟩) (Kd.R_mono HO_28.1 (fun k_ hk => (⟨hk, hk.2.2⟩ : _ ∧ k_ ≠ gb488))) (fun _ hk => hk.2) (.int .i64 t485)) (fun _ hk => hk.2) (.int .i64 t486)) (fun _ h_ => h_.1)))) k_ hk, Kd.freshB (g := gb481) (o := .cells #[.int .i64 ((rd_T25 t475 x30_2).f0), .int .i64 ((rd_T25 t475 x30_2).f1)] 25 (0, 0)) (bk BK481) k_ hk, Kd.freshB (g := gb488) (o := .cells #[.int .i64 t485, .int .i64 t486] 25 (0, 0)) (bk BK488) k_ hk⟩)); (case aO => exact (by (with_reducible repeat (first | apply Kd.R_alloc | apply Kd.R_drewN | apply Kd.R_drew)); exact Kd.R_mono (Kd.R_far (p := ⟨gb488, 1, none⟩) (Kd.R_far (p := ⟨gb488, 0, none⟩) (Kd.R_mono HO_10.1 (fun k_ hk => (⟨hk, hk.2.2⟩ : _ ∧ k_ ≠ gb488))) (fun _ hk => hk.2) (.int .i64 t485)) (fun _ hk => hk.2) (.int .i64 t486)) (fun _ hk => ⟨hk.1.1, ⟨hk.1.2.1, hk.1.2.2⟩⟩))); (case aS => exact (below_size (bq HB))); (case aL => have := LMc30.1; omega); intro v490 w50 ho hb hg hat; rw [← Ny489.1] at ho; have HO491 := Aside0.mk ho; replace HO_28 := Aside0.mk (Kd.R_after (ok := (fun k_ => k_ ≠ gb481 ∧ k_ ≠ gb488)) (by (with_reducible repeat (first | apply Kd.R_alloc | apply Kd.R_drewN | apply Kd.R_drew)); exact Kd.R_mono (Kd.R_far (p := ⟨gb488, 1, none⟩) (Kd.R_far (p := ⟨gb488, 0, none⟩) (Kd.R_mono HO_28.1 (fun k_ hk => (⟨hk, hk.2.2⟩ : _ ∧ k_ ≠ gb488))) (fun _ hk => hk.2) (.int .i64 t485)) (fun _ hk => hk.2) (.int .i64 t486)) (fun _ hk => ⟨⟨hk.1.2.1, hk.1.2.2⟩, hk.1.1⟩)) hg hat); replace BK472 := Aside0.mk (blk_grown (g := gb472) (o := .cells #[.int .i64 a0_0, .int .i64 a0_1, .int .i64 a0_2] 27 (0, 0)) (bk BK472) hg (Kd.R_ne HO_10.1 BK472.1 (by decide))); replace BK473 := Aside0.mk (blk_grown (g := gb473) (o := .cells #[.int .i64 a1_0, .int .i64 a1_1, .int .i64 a1_2] 27 (0, 0)) (bk BK473) hg (Kd.R_ne HO_10.1 BK473.1 (by decide))); replace BK474 := Aside0.mk (blk_grown (g := gb474) (o := .cells #[.int .i64 a2_0, .int .i64 a2_1, .int .i64 a2_2] 27 (0, 0)) (bk BK474) hg (Kd.R_ne HO_10.1 BK474.1 (by decide))); replace BK481 := Aside0.mk (blk_grown (g := gb481) (o := .cells #[.int .i64 ((rd_T25 t475 x30_2).f0), .int .i64 ((rd_T25 t475 x30_2).f1)] 25 (0, 0)) (bk BK481) hg (Kd.R_away HO_10.1 (fun _ hk => hk.2.1))); replace BK488 := Aside0.mk (blk_grown (g := gb488) (o := .cells #[.int .i64 t485, .int .i64 t486] 25 (0, 0)) (bk BK488) hg (Kd.R_away HO_10.1 (fun _ hk => hk.2.2))); replace HB := Aside0.mk hb; clear HO_10; clear ho hb hg hat))
                    go_roundg k2
                    case measure => have := HJ4.1; have := HK2.1; omega
                    case rel => exact ⟨(y489), (wrap64 (x30_2 + 1)), ew, H', ⟨by have := HJ4.1; have := HK2.1; omega⟩, ⟨by (with_reducible repeat (first | apply Kd.R_alloc | apply Kd.R_drewN | apply Kd.R_drew)); exact Kd.R_mono HO491.1 (fun _ hk => hk.1)⟩, ⟨by (with_reducible repeat (first | apply Kd.R_alloc | apply Kd.R_drewN | apply Kd.R_drew)); exact Kd.R_mono HO_28.1 (fun _ hk => hk.2)⟩, ⟨bk BK472⟩, ⟨bk BK473⟩, ⟨bk BK474⟩, ⟨bq HB⟩⟩
                  rw [if_neg c30] at H
                  exact absurd H (by simp)
                rw [if_neg c29] at H
                have c29b0 : (t485 == 0) = false := beq_eq_false_iff_ne.mpr c29
                have c29b1 : (t485 != 0) = true := bne_iff_ne.mpr c29
                have H' := Aside0.mk H
                clear H
                have p480 : 0 ≤ (x30_2 : Int) := of_decide_eq_true (by first | (with_reducible assumption) | assumption)
                have q480 : x30_2 < (t475.length : Int) := of_decide_eq_true (by first | (with_reducible assumption) | assumption)
                obtain ⟨ad480, e480, hx480_0, hx480_1⟩ := at_T25 (Kd.R_reads' HO_28.1).2.2 x30_2 p480 q480
                cases e480
                replace p480 := eq_true p480
                replace q480 := eq_true q480
                try go_wp2_with (first | ((with_reducible refine gate_dst (N := 12) rfl ?_); refine be #[.int .i64 0, .int .i64 0] 25 ?_; intro gb481 hg w51 hbox hb; replace HO_10 := Aside0.mk (Kd.R_below (Kd.R_elderB (rq HO_10) gb481 (Nat.le_of_eq hg.symm)) hb); replace HO_28 := Aside0.mk (Kd.R_below (Kd.R_elderB (rq HO_28) gb481 (Nat.le_of_eq hg.symm)) hb); have BK481 := Aside0.mk hbox; have GW481 := zs HB hg; have GE481 := zs HB hg; have NB472_481 := zn BK472 hg; have NB481_472 := zm BK472 hg; have NB473_481 := zn BK473 hg; have NB481_473 := zm BK473 hg; have NB474_481 := zn BK474 hg; have NB481_474 := zm BK474 hg; replace BK472 := zb BK472 hb; replace BK473 := zb BK473 hb; replace BK474 := zb BK474 hb; replace HB := zB HB hb; clear hb hbox hg; have hnb52 := NB481_472.1; have hnc52 := NB472_481.1; have hnb53 := NB481_473.1; have hnc53 := NB473_481.1; have hnb54 := NB481_474.1; have hnc54 := NB474_481.1; obtain ⟨hcz55_0, hcz55_1, hfz55_0, hfz55_1⟩ := zc2 BK481))
                have n0_ : Aside0 (Kd.R k25 25 ((w51.setCell ⟨gb481, 0, none⟩ (.int .i64 ((rd_T25 t475 x30_2).f0))).setCell ⟨gb481, 1, none⟩ (.int .i64 ((rd_T25 t475 x30_2).f1))) w.heap.size (fun k_ => some k_ ≠ (.slice (some ad480) t475.length co22 : Value).ownBlock ∧ k_ ≠ gb481) u10 x10_2) := ⟨by (with_reducible repeat (first | apply Kd.R_alloc | apply Kd.R_drewN | apply Kd.R_drew)); exact Kd.R_mono (Kd.R_far (p := ⟨gb481, 1, none⟩) (Kd.R_far (p := ⟨gb481, 0, none⟩) (Kd.R_mono HO_10.1 (fun k_ hk => (⟨hk, hk.2⟩ : _ ∧ k_ ≠ gb481))) (fun _ hk => hk.2) (.int .i64 ((rd_T25 t475 x30_2).f0))) (fun _ hk => hk.2) (.int .i64 ((rd_T25 t475 x30_2).f1))) (fun _ hk => ⟨hk.1.1, hk.1.2⟩)⟩
                have n1_ : Aside0 (Kd.R k25 25 ((w51.setCell ⟨gb481, 0, none⟩ (.int .i64 ((rd_T25 t475 x30_2).f0))).setCell ⟨gb481, 1, none⟩ (.int .i64 ((rd_T25 t475 x30_2).f1))) w.heap.size (fun k_ => some k_ ≠ (u10 : Value).ownBlock ∧ k_ ≠ gb481) (.slice (some ad480) t475.length co22) t475) := ⟨by (with_reducible repeat (first | apply Kd.R_alloc | apply Kd.R_drewN | apply Kd.R_drew)); exact Kd.R_mono (Kd.R_far (p := ⟨gb481, 1, none⟩) (Kd.R_far (p := ⟨gb481, 0, none⟩) (Kd.R_mono HO_28.1 (fun k_ hk => (⟨hk, hk.2⟩ : _ ∧ k_ ≠ gb481))) (fun _ hk => hk.2) (.int .i64 ((rd_T25 t475 x30_2).f0))) (fun _ hk => hk.2) (.int .i64 ((rd_T25 t475 x30_2).f1))) (fun _ hk => ⟨hk.1.1, hk.1.2⟩)⟩
                have n2_ : Aside0 (((w51.setCell ⟨gb481, 0, none⟩ (.int .i64 ((rd_T25 t475 x30_2).f0))).setCell ⟨gb481, 1, none⟩ (.int .i64 ((rd_T25 t475 x30_2).f1))).heap[gb472]? = some (.cells #[.int .i64 a0_0, .int .i64 a0_1, .int .i64 a0_2] 27 (0, 0))) := ⟨bk BK472⟩
                have n3_ : Aside0 (((w51.setCell ⟨gb481, 0, none⟩ (.int .i64 ((rd_T25 t475 x30_2).f0))).setCell ⟨gb481, 1, none⟩ (.int .i64 ((rd_T25 t475 x30_2).f1))).heap[gb473]? = some (.cells #[.int .i64 a1_0, .int .i64 a1_1, .int .i64 a1_2] 27 (0, 0))) := ⟨bk BK473⟩
                have n4_ : Aside0 (((w51.setCell ⟨gb481, 0, none⟩ (.int .i64 ((rd_T25 t475 x30_2).f0))).setCell ⟨gb481, 1, none⟩ (.int .i64 ((rd_T25 t475 x30_2).f1))).heap[gb474]? = some (.cells #[.int .i64 a2_0, .int .i64 a2_1, .int .i64 a2_2] 27 (0, 0))) := ⟨bk BK474⟩
                have n5_ : Aside0 (((w51.setCell ⟨gb481, 0, none⟩ (.int .i64 ((rd_T25 t475 x30_2).f0))).setCell ⟨gb481, 1, none⟩ (.int .i64 ((rd_T25 t475 x30_2).f1))).heap[gb481]? = some (.cells #[.int .i64 ((rd_T25 t475 x30_2).f0), .int .i64 ((rd_T25 t475 x30_2).f1)] 25 (0, 0))) := ⟨bk BK481⟩
                have n6_ : Aside0 (Below w.heap.size w ((w51.setCell ⟨gb481, 0, none⟩ (.int .i64 ((rd_T25 t475 x30_2).f0))).setCell ⟨gb481, 1, none⟩ (.int .i64 ((rd_T25 t475 x30_2).f1)))) := ⟨bq HB⟩
                (try clear HO_10)
                (try clear HO_28)
                (try clear BK472)
                (try clear BK473)
                (try clear BK474)
                (try clear BK481)
                (try clear HB)
                generalize ((w51.setCell ⟨gb481, 0, none⟩ (.int .i64 ((rd_T25 t475 x30_2).f0))).setCell ⟨gb481, 1, none⟩ (.int .i64 ((rd_T25 t475 x30_2).f1))) = w56 at n0_ n1_ n2_ n3_ n4_ n5_ n6_ ⊢
                have HO_10 := n0_
                have HO_28 := n1_
                have BK472 := n2_
                have BK473 := n3_
                have BK474 := n4_
                have BK481 := n5_
                have HB := n6_
                clear n0_ n1_ n2_ n3_ n4_ n5_ n6_
                replace HO_10 := Aside0.mk (Kd.R_drew HO_10.1)
                replace HO_28 := Aside0.mk (Kd.R_drew HO_28.1)
                replace BK472 := Aside0.mk (blk_drew BK472.1)
                replace BK473 := Aside0.mk (blk_drew BK473.1)
                replace BK474 := Aside0.mk (blk_drew BK474.1)
                replace BK481 := Aside0.mk (blk_drew BK481.1)
                replace HB := Aside0.mk (below_drew1 HB.1)
                refine start_ (n := 11) (S := fun w' => w'.cell? ⟨gb472, 0, none⟩ = some (.int .i64 a0_0) ∧ w'.cell? ⟨gb472, 1, none⟩ = some (.int .i64 a0_1) ∧ w'.cell? ⟨gb472, 2, none⟩ = some (.int .i64 a0_2) ∧ w'.cell? ⟨gb474, 0, none⟩ = some (.int .i64 a2_0) ∧ w'.cell? ⟨gb474, 1, none⟩ = some (.int .i64 a2_1) ∧ w'.cell? ⟨gb474, 2, none⟩ = some (.int .i64 a2_2) ∧ w'.cell? ⟨gb481, 0, none⟩ = some (.int .i64 ((rd_T25 t475 x30_2).f0)) ∧ w'.cell? ⟨gb481, 1, none⟩ = some (.int .i64 ((rd_T25 t475 x30_2).f1))) (ds := []) (bs 11 0) (by kernel_rfl) rfl rfl ⟨(blk_cell BK472.1 0).trans rfl, (blk_cell BK472.1 1).trans rfl, (blk_cell BK472.1 2).trans rfl, (blk_cell BK474.1 0).trans rfl, (blk_cell BK474.1 1).trans rfl, (blk_cell BK474.1 2).trans rfl, (blk_cell BK481.1 0).trans rfl, (blk_cell BK481.1 1).trans rfl⟩ (fun hHeld => ?_); refine with_tabW spec_ThreeMeet.tab8 spec_ThreeMeet.bits8 (fun HT_ HW_ => ?_)
                generalize w56.drew = w57 at HO_10 HO_28 BK472 BK473 BK474 BK481 HB hHeld ⊢
                refine tk 0 35 HT_ HW_ hHeld rfl rfl (bs 11 1) ?_
                refine tk 1 36 HT_ HW_ hHeld rfl rfl (bs 11 3) ?_
                refine tk 3 38 HT_ HW_ hHeld rfl rfl (bs 11 11) ?_
                refine join_ (σ := Nat) 2 (bs 11 511) (fun s_ => [(37, .agg #[.int .i64 t482, .int .i64 t483, .int .i64 t484]), (39, .tuple #[.agg #[.int .i64 t485, .int .i64 t486], .bool true]), (13, .pointer (some ⟨s_, 0, none⟩)), (34, .tuple #[.agg #[.int .i64 t485, .int .i64 t486], .bool true]), (40, .agg #[.int .i64 t485, .int .i64 t486]), (41, .bool true)]) (fun s_ w' => (w'.cell? ⟨gb472, 0, none⟩ = some (.int .i64 a0_0) ∧ w'.cell? ⟨gb472, 1, none⟩ = some (.int .i64 a0_1) ∧ w'.cell? ⟨gb472, 2, none⟩ = some (.int .i64 a0_2) ∧ w'.cell? ⟨gb474, 0, none⟩ = some (.int .i64 a2_0) ∧ w'.cell? ⟨gb474, 1, none⟩ = some (.int .i64 a2_1) ∧ w'.cell? ⟨gb474, 2, none⟩ = some (.int .i64 a2_2) ∧ w'.cell? ⟨gb481, 0, none⟩ = some (.int .i64 ((rd_T25 t475 x30_2).f0)) ∧ w'.cell? ⟨gb481, 1, none⟩ = some (.int .i64 ((rd_T25 t475 x30_2).f1))) ∧ (Kd.R k25 25 w' w.heap.size (fun k_ => some k_ ≠ (.slice (some ad480) t475.length co22 : Value).ownBlock ∧ k_ ≠ gb481 ∧ k_ ≠ s_) u10 x10_2) ∧ (Kd.R k25 25 w' w.heap.size (fun k_ => some k_ ≠ (u10 : Value).ownBlock ∧ k_ ≠ gb481 ∧ k_ ≠ s_) (.slice (some ad480) t475.length co22) t475) ∧ (w'.heap[gb472]? = some (.cells #[.int .i64 a0_0, .int .i64 a0_1, .int .i64 a0_2] 27 (0, 0))) ∧ (w'.heap[gb473]? = some (.cells #[.int .i64 a1_0, .int .i64 a1_1, .int .i64 a1_2] 27 (0, 0))) ∧ (w'.heap[gb474]? = some (.cells #[.int .i64 a2_0, .int .i64 a2_1, .int .i64 a2_2] 27 (0, 0))) ∧ (w'.heap[gb481]? = some (.cells #[.int .i64 ((rd_T25 t475 x30_2).f0), .int .i64 ((rd_T25 t475 x30_2).f1)] 25 (0, 0))) ∧ (w'.heap[s_]? = some (.cells #[.int .i64 0, .int .i64 0] 25 (0, 0))) ∧ (w.heap.size ≤ s_) ∧ (w.heap.size ≤ s_) ∧ (gb472 ≠ s_) ∧ (s_ ≠ gb472) ∧ (gb473 ≠ s_) ∧ (s_ ≠ gb473) ∧ (gb474 ≠ s_) ∧ (s_ ≠ gb474) ∧ (gb481 ≠ s_) ∧ (s_ ≠ gb481) ∧ (Below w.heap.size w w')) ?_ ?_
                rotate_left
                · intro hCont
                  refine two_ (i := 2) (j := 8) (Ni := some 37) (Nj := some 13) (bs 11 15) (bs 11 267) rfl rfl rfl rfl (two_of HT_.1 (by kernel_rfl)) (by decide) (by decide) (fun K hK => ?_) (fun K hK => ?_)
                  · skip
                    refine gs Try.func33 #[.agg #[.int .i64 a0_0, .int .i64 a0_1, .int .i64 a0_2], .agg #[.int .i64 a2_0, .int .i64 a2_1, .int .i64 a2_2]] ?_
                    with_reducible refine (spec_meRelative.calls k2 a0_0 a0_1 a0_2 a2_0 a2_1 a2_2 t482 t483 t484 _ A26.1).mono ?_
                    rintro e w58 ⟨rfl, hb⟩
                    refine ⟨_, rfl, ?_⟩
                    replace HO_10 := rB HO_10 hb
                    replace HO_28 := rB HO_28 hb
                    replace BK472 := zb BK472 hb
                    replace BK473 := zb BK473 hb
                    replace BK474 := zb BK474 hb
                    replace BK481 := zb BK481 hb
                    replace HB := zB HB hb
                    (try clear hb)
                    (try clear hb2)
                    (try clear hk)
                    (try clear hi)
                    refine hK.out _ _ ⟨(blk_cell BK472.1 0).trans rfl, (blk_cell BK472.1 1).trans rfl, (blk_cell BK472.1 2).trans rfl, (blk_cell BK474.1 0).trans rfl, (blk_cell BK474.1 1).trans rfl, (blk_cell BK474.1 2).trans rfl, (blk_cell BK481.1 0).trans rfl, (blk_cell BK481.1 1).trans rfl⟩ (fun hHeld => ?_)
                    clear hK K
                    refine norm_ (aq 37) ?_
                    refine two_ (i := 4) (j := 8) (Ni := some 39) (Nj := some 13) (bs 11 31) (bs 11 271) rfl rfl rfl rfl (two_of HT_.1 (by kernel_rfl)) (by decide) (by decide) (fun K hK => ?_) (fun K hK => ?_)
                    · skip
                      refine gs Try.func41 #[.agg #[.int .i64 t482, .int .i64 t483, .int .i64 t484], .agg #[.int .i64 ((rd_T25 t475 x30_2).f0), .int .i64 ((rd_T25 t475 x30_2).f1)]] ?_
                      with_reducible refine (spec_meAt.calls k2 t482 t483 t484 ((rd_T25 t475 x30_2).f0) ((rd_T25 t475 x30_2).f1) t485 t486 true _ A27.1).mono ?_
                      rintro e w59 ⟨rfl, hb⟩
                      refine ⟨_, rfl, ?_⟩
                      replace HO_10 := rB HO_10 hb
                      replace HO_28 := rB HO_28 hb
                      replace BK472 := zb BK472 hb
                      replace BK473 := zb BK473 hb
                      replace BK474 := zb BK474 hb
                      replace BK481 := zb BK481 hb
                      replace HB := zB HB hb
                      (try clear hb)
                      (try clear hb2)
                      (try clear hk)
                      (try clear hi)
                      refine hK.out _ _ ⟨(blk_cell BK472.1 0).trans rfl, (blk_cell BK472.1 1).trans rfl, (blk_cell BK472.1 2).trans rfl, (blk_cell BK474.1 0).trans rfl, (blk_cell BK474.1 1).trans rfl, (blk_cell BK474.1 2).trans rfl, (blk_cell BK481.1 0).trans rfl, (blk_cell BK481.1 1).trans rfl⟩ (fun hHeld => ?_)
                      clear hK K
                      refine norm_ (aq 39) ?_
                      refine pu 5 34 HT_ rfl rfl (bs 11 63) ?_
                      refine pu 6 40 HT_ rfl rfl (bs 11 127) ?_
                      refine pu 7 41 HT_ rfl rfl (bs 11 255) ?_
                      refine one_ (i := 8) (N := some 13) (bs 11 511) rfl rfl (one_of HT_.1 (by kernel_rfl)) (by decide) (fun K hK => ?_)
                      refine bp #[.int .i64 0, .int .i64 0] 25 ?_
                      intro gb488 hg w60 hbox hb
                      replace HO_10 := Aside0.mk (Kd.R_below (Kd.R_elderB (rq HO_10) gb488 (Nat.le_of_eq hg.symm)) hb)
                      replace HO_28 := Aside0.mk (Kd.R_below (Kd.R_elderB (rq HO_28) gb488 (Nat.le_of_eq hg.symm)) hb)
                      have BK488 := Aside0.mk hbox
                      have GW488 := zs HB hg
                      have GE488 := zs HB hg
                      have NB472_488 := zn BK472 hg
                      have NB488_472 := zm BK472 hg
                      have NB473_488 := zn BK473 hg
                      have NB488_473 := zm BK473 hg
                      have NB474_488 := zn BK474 hg
                      have NB488_474 := zm BK474 hg
                      have NB481_488 := zn BK481 hg
                      have NB488_481 := zm BK481 hg
                      replace BK472 := zb BK472 hb
                      replace BK473 := zb BK473 hb
                      replace BK474 := zb BK474 hb
                      replace BK481 := zb BK481 hb
                      replace HB := zB HB hb
                      clear hb hbox hg
                      refine hK.out _ _ ⟨(blk_cell BK472.1 0).trans rfl, (blk_cell BK472.1 1).trans rfl, (blk_cell BK472.1 2).trans rfl, (blk_cell BK474.1 0).trans rfl, (blk_cell BK474.1 1).trans rfl, (blk_cell BK474.1 2).trans rfl, (blk_cell BK481.1 0).trans rfl, (blk_cell BK481.1 1).trans rfl⟩ (fun hHeld => ?_)
                      clear hK K
                      refine norm_ (aq 13) ?_
                      exact norm_ (by simp only [putAll, Act.put, List.setIfInBounds_toArray, List.set_cons_zero, List.set_cons_succ]) (hCont (gb488) _ ⟨hHeld, (by (with_reducible repeat (first | apply Kd.R_alloc | apply Kd.R_drewN | apply Kd.R_drew)); exact Kd.R_mono HO_10.1 (fun _ hk => ⟨hk.1.1, ⟨hk.1.2, hk.2⟩⟩)), (by (with_reducible repeat (first | apply Kd.R_alloc | apply Kd.R_drewN | apply Kd.R_drew)); exact Kd.R_mono HO_28.1 (fun _ hk => ⟨hk.1.1, ⟨hk.1.2, hk.2⟩⟩)), (bk BK472), (bk BK473), (bk BK474), (bk BK481), (bk BK488), GW488.1, GE488.1, NB472_488.1, NB488_472.1, NB473_488.1, NB488_473.1, NB474_488.1, NB488_474.1, NB481_488.1, NB488_481.1, (bq HB)⟩)
                    skip
                    refine bp #[.int .i64 0, .int .i64 0] 25 ?_
                    intro gb488 hg w59 hbox hb
                    replace HO_10 := Aside0.mk (Kd.R_below (Kd.R_elderB (rq HO_10) gb488 (Nat.le_of_eq hg.symm)) hb)
                    replace HO_28 := Aside0.mk (Kd.R_below (Kd.R_elderB (rq HO_28) gb488 (Nat.le_of_eq hg.symm)) hb)
                    have BK488 := Aside0.mk hbox
                    have GW488 := zs HB hg
                    have GE488 := zs HB hg
                    have NB472_488 := zn BK472 hg
                    have NB488_472 := zm BK472 hg
                    have NB473_488 := zn BK473 hg
                    have NB488_473 := zm BK473 hg
                    have NB474_488 := zn BK474 hg
                    have NB488_474 := zm BK474 hg
                    have NB481_488 := zn BK481 hg
                    have NB488_481 := zm BK481 hg
                    replace BK472 := zb BK472 hb
                    replace BK473 := zb BK473 hb
                    replace BK474 := zb BK474 hb
                    replace BK481 := zb BK481 hb
                    replace HB := zB HB hb
                    clear hb hbox hg
                    refine hK.out _ _ ⟨(blk_cell BK472.1 0).trans rfl, (blk_cell BK472.1 1).trans rfl, (blk_cell BK472.1 2).trans rfl, (blk_cell BK474.1 0).trans rfl, (blk_cell BK474.1 1).trans rfl, (blk_cell BK474.1 2).trans rfl, (blk_cell BK481.1 0).trans rfl, (blk_cell BK481.1 1).trans rfl⟩ (fun hHeld => ?_)
                    clear hK K
                    refine norm_ (aq 13) ?_
                    refine one_ (i := 4) (N := some 39) (bs 11 287) rfl rfl (one_of HT_.1 (by kernel_rfl)) (by decide) (fun K hK => ?_)
                    refine gs Try.func41 #[.agg #[.int .i64 t482, .int .i64 t483, .int .i64 t484], .agg #[.int .i64 ((rd_T25 t475 x30_2).f0), .int .i64 ((rd_T25 t475 x30_2).f1)]] ?_
                    with_reducible refine (spec_meAt.calls k2 t482 t483 t484 ((rd_T25 t475 x30_2).f0) ((rd_T25 t475 x30_2).f1) t485 t486 true _ A27.1).mono ?_
                    rintro e w60 ⟨rfl, hb⟩
                    refine ⟨_, rfl, ?_⟩
                    replace HO_10 := rB HO_10 hb
                    replace HO_28 := rB HO_28 hb
                    replace BK472 := zb BK472 hb
                    replace BK473 := zb BK473 hb
                    replace BK474 := zb BK474 hb
                    replace BK481 := zb BK481 hb
                    replace BK488 := zb BK488 hb
                    replace HB := zB HB hb
                    (try clear hb)
                    (try clear hb2)
                    (try clear hk)
                    (try clear hi)
                    refine hK.out _ _ ⟨(blk_cell BK472.1 0).trans rfl, (blk_cell BK472.1 1).trans rfl, (blk_cell BK472.1 2).trans rfl, (blk_cell BK474.1 0).trans rfl, (blk_cell BK474.1 1).trans rfl, (blk_cell BK474.1 2).trans rfl, (blk_cell BK481.1 0).trans rfl, (blk_cell BK481.1 1).trans rfl⟩ (fun hHeld => ?_)
                    clear hK K
                    refine norm_ (aq 39) ?_
                    refine pu 5 34 HT_ rfl rfl (bs 11 319) ?_
                    refine pu 6 40 HT_ rfl rfl (bs 11 383) ?_
                    refine pu 7 41 HT_ rfl rfl (bs 11 511) ?_
                    exact norm_ (by simp only [putAll, Act.put, List.setIfInBounds_toArray, List.set_cons_zero, List.set_cons_succ]) (hCont (gb488) _ ⟨hHeld, (by (with_reducible repeat (first | apply Kd.R_alloc | apply Kd.R_drewN | apply Kd.R_drew)); exact Kd.R_mono HO_10.1 (fun _ hk => ⟨hk.1.1, ⟨hk.1.2, hk.2⟩⟩)), (by (with_reducible repeat (first | apply Kd.R_alloc | apply Kd.R_drewN | apply Kd.R_drew)); exact Kd.R_mono HO_28.1 (fun _ hk => ⟨hk.1.1, ⟨hk.1.2, hk.2⟩⟩)), (bk BK472), (bk BK473), (bk BK474), (bk BK481), (bk BK488), GW488.1, GE488.1, NB472_488.1, NB488_472.1, NB473_488.1, NB488_473.1, NB474_488.1, NB488_474.1, NB481_488.1, NB488_481.1, (bq HB)⟩)
                  skip
                  refine bp #[.int .i64 0, .int .i64 0] 25 ?_
                  intro gb488 hg w58 hbox hb
                  replace HO_10 := Aside0.mk (Kd.R_below (Kd.R_elderB (rq HO_10) gb488 (Nat.le_of_eq hg.symm)) hb)
                  replace HO_28 := Aside0.mk (Kd.R_below (Kd.R_elderB (rq HO_28) gb488 (Nat.le_of_eq hg.symm)) hb)
                  have BK488 := Aside0.mk hbox
                  have GW488 := zs HB hg
                  have GE488 := zs HB hg
                  have NB472_488 := zn BK472 hg
                  have NB488_472 := zm BK472 hg
                  have NB473_488 := zn BK473 hg
                  have NB488_473 := zm BK473 hg
                  have NB474_488 := zn BK474 hg
                  have NB488_474 := zm BK474 hg
                  have NB481_488 := zn BK481 hg
                  have NB488_481 := zm BK481 hg
                  replace BK472 := zb BK472 hb
                  replace BK473 := zb BK473 hb
                  replace BK474 := zb BK474 hb
                  replace BK481 := zb BK481 hb
                  replace HB := zB HB hb
                  clear hb hbox hg
                  refine hK.out _ _ ⟨(blk_cell BK472.1 0).trans rfl, (blk_cell BK472.1 1).trans rfl, (blk_cell BK472.1 2).trans rfl, (blk_cell BK474.1 0).trans rfl, (blk_cell BK474.1 1).trans rfl, (blk_cell BK474.1 2).trans rfl, (blk_cell BK481.1 0).trans rfl, (blk_cell BK481.1 1).trans rfl⟩ (fun hHeld => ?_)
                  clear hK K
                  refine norm_ (aq 13) ?_
                  refine one_ (i := 2) (N := some 37) (bs 11 271) rfl rfl (one_of HT_.1 (by kernel_rfl)) (by decide) (fun K hK => ?_)
                  refine gs Try.func33 #[.agg #[.int .i64 a0_0, .int .i64 a0_1, .int .i64 a0_2], .agg #[.int .i64 a2_0, .int .i64 a2_1, .int .i64 a2_2]] ?_
                  with_reducible refine (spec_meRelative.calls k2 a0_0 a0_1 a0_2 a2_0 a2_1 a2_2 t482 t483 t484 _ A26.1).mono ?_
                  rintro e w59 ⟨rfl, hb⟩
                  refine ⟨_, rfl, ?_⟩
                  replace HO_10 := rB HO_10 hb
                  replace HO_28 := rB HO_28 hb
                  replace BK472 := zb BK472 hb
                  replace BK473 := zb BK473 hb
                  replace BK474 := zb BK474 hb
                  replace BK481 := zb BK481 hb
                  replace BK488 := zb BK488 hb
                  replace HB := zB HB hb
                  (try clear hb)
                  (try clear hb2)
                  (try clear hk)
                  (try clear hi)
                  refine hK.out _ _ ⟨(blk_cell BK472.1 0).trans rfl, (blk_cell BK472.1 1).trans rfl, (blk_cell BK472.1 2).trans rfl, (blk_cell BK474.1 0).trans rfl, (blk_cell BK474.1 1).trans rfl, (blk_cell BK474.1 2).trans rfl, (blk_cell BK481.1 0).trans rfl, (blk_cell BK481.1 1).trans rfl⟩ (fun hHeld => ?_)
                  clear hK K
                  refine norm_ (aq 37) ?_
                  refine one_ (i := 4) (N := some 39) (bs 11 287) rfl rfl (one_of HT_.1 (by kernel_rfl)) (by decide) (fun K hK => ?_)
                  refine gs Try.func41 #[.agg #[.int .i64 t482, .int .i64 t483, .int .i64 t484], .agg #[.int .i64 ((rd_T25 t475 x30_2).f0), .int .i64 ((rd_T25 t475 x30_2).f1)]] ?_
                  with_reducible refine (spec_meAt.calls k2 t482 t483 t484 ((rd_T25 t475 x30_2).f0) ((rd_T25 t475 x30_2).f1) t485 t486 true _ A27.1).mono ?_
                  rintro e w60 ⟨rfl, hb⟩
                  refine ⟨_, rfl, ?_⟩
                  replace HO_10 := rB HO_10 hb
                  replace HO_28 := rB HO_28 hb
                  replace BK472 := zb BK472 hb
                  replace BK473 := zb BK473 hb
                  replace BK474 := zb BK474 hb
                  replace BK481 := zb BK481 hb
                  replace BK488 := zb BK488 hb
                  replace HB := zB HB hb
                  (try clear hb)
                  (try clear hb2)
                  (try clear hk)
                  (try clear hi)
                  refine hK.out _ _ ⟨(blk_cell BK472.1 0).trans rfl, (blk_cell BK472.1 1).trans rfl, (blk_cell BK472.1 2).trans rfl, (blk_cell BK474.1 0).trans rfl, (blk_cell BK474.1 1).trans rfl, (blk_cell BK474.1 2).trans rfl, (blk_cell BK481.1 0).trans rfl, (blk_cell BK481.1 1).trans rfl⟩ (fun hHeld => ?_)
                  clear hK K
                  refine norm_ (aq 39) ?_
                  refine pu 5 34 HT_ rfl rfl (bs 11 319) ?_
                  refine pu 6 40 HT_ rfl rfl (bs 11 383) ?_
                  refine pu 7 41 HT_ rfl rfl (bs 11 511) ?_
                  exact norm_ (by simp only [putAll, Act.put, List.setIfInBounds_toArray, List.set_cons_zero, List.set_cons_succ]) (hCont (gb488) _ ⟨hHeld, (by (with_reducible repeat (first | apply Kd.R_alloc | apply Kd.R_drewN | apply Kd.R_drew)); exact Kd.R_mono HO_10.1 (fun _ hk => ⟨hk.1.1, ⟨hk.1.2, hk.2⟩⟩)), (by (with_reducible repeat (first | apply Kd.R_alloc | apply Kd.R_drewN | apply Kd.R_drew)); exact Kd.R_mono HO_28.1 (fun _ hk => ⟨hk.1.1, ⟨hk.1.2, hk.2⟩⟩)), (bk BK472), (bk BK473), (bk BK474), (bk BK481), (bk BK488), GW488.1, GE488.1, NB472_488.1, NB488_472.1, NB473_488.1, NB488_473.1, NB474_488.1, NB488_474.1, NB481_488.1, NB488_481.1, (bq HB)⟩)
                rintro gb488 w61 ⟨hS_, h0_, h1_, h2_, h3_, h4_, h5_, h6_, h7_, h8_, h9_, h10_, h11_, h12_, h13_, h14_, h15_, h16_, h17_⟩
                have n0_ : Aside0 (Kd.R k25 25 w61 w.heap.size (fun k_ => some k_ ≠ (.slice (some ad480) t475.length co22 : Value).ownBlock ∧ k_ ≠ gb481 ∧ k_ ≠ gb488) u10 x10_2) := ⟨h0_⟩
                have n1_ : Aside0 (Kd.R k25 25 w61 w.heap.size (fun k_ => some k_ ≠ (u10 : Value).ownBlock ∧ k_ ≠ gb481 ∧ k_ ≠ gb488) (.slice (some ad480) t475.length co22) t475) := ⟨h1_⟩
                have n2_ : Aside0 (w61.heap[gb472]? = some (.cells #[.int .i64 a0_0, .int .i64 a0_1, .int .i64 a0_2] 27 (0, 0))) := ⟨h2_⟩
                have n3_ : Aside0 (w61.heap[gb473]? = some (.cells #[.int .i64 a1_0, .int .i64 a1_1, .int .i64 a1_2] 27 (0, 0))) := ⟨h3_⟩
                have n4_ : Aside0 (w61.heap[gb474]? = some (.cells #[.int .i64 a2_0, .int .i64 a2_1, .int .i64 a2_2] 27 (0, 0))) := ⟨h4_⟩
                have n5_ : Aside0 (w61.heap[gb481]? = some (.cells #[.int .i64 ((rd_T25 t475 x30_2).f0), .int .i64 ((rd_T25 t475 x30_2).f1)] 25 (0, 0))) := ⟨h5_⟩
                have n6_ : Aside0 (w61.heap[gb488]? = some (.cells #[.int .i64 0, .int .i64 0] 25 (0, 0))) := ⟨h6_⟩
                have n7_ : Aside0 (w.heap.size ≤ gb488) := ⟨h7_⟩
                have n8_ : Aside0 (w.heap.size ≤ gb488) := ⟨h8_⟩
                have n9_ : Aside0 (gb472 ≠ gb488) := ⟨h9_⟩
                have n10_ : Aside0 (gb488 ≠ gb472) := ⟨h10_⟩
                have n11_ : Aside0 (gb473 ≠ gb488) := ⟨h11_⟩
                have n12_ : Aside0 (gb488 ≠ gb473) := ⟨h12_⟩
                have n13_ : Aside0 (gb474 ≠ gb488) := ⟨h13_⟩
                have n14_ : Aside0 (gb488 ≠ gb474) := ⟨h14_⟩
                have n15_ : Aside0 (gb481 ≠ gb488) := ⟨h15_⟩
                have n16_ : Aside0 (gb488 ≠ gb481) := ⟨h16_⟩
                have n17_ : Aside0 (Below w.heap.size w w61) := ⟨h17_⟩
                clear HO_10
                clear HO_28
                clear BK472
                clear BK473
                clear BK474
                clear BK481
                clear HB
                clear h0_ h1_ h2_ h3_ h4_ h5_ h6_ h7_ h8_ h9_ h10_ h11_ h12_ h13_ h14_ h15_ h16_ h17_
                have HO_10 := n0_
                have HO_28 := n1_
                have BK472 := n2_
                have BK473 := n3_
                have BK474 := n4_
                have BK481 := n5_
                have BK488 := n6_
                have GW488 := n7_
                have GE488 := n8_
                have NB472_488 := n9_
                have NB488_472 := n10_
                have NB473_488 := n11_
                have NB488_473 := n12_
                have NB474_488 := n13_
                have NB488_474 := n14_
                have NB481_488 := n15_
                have NB488_481 := n16_
                have HB := n17_
                clear n0_ n1_ n2_ n3_ n4_ n5_ n6_ n7_ n8_ n9_ n10_ n11_ n12_ n13_ n14_ n15_ n16_ n17_
                have hHeld : w61.cell? ⟨gb472, 0, none⟩ = some (.int .i64 a0_0) ∧ w61.cell? ⟨gb472, 1, none⟩ = some (.int .i64 a0_1) ∧ w61.cell? ⟨gb472, 2, none⟩ = some (.int .i64 a0_2) ∧ w61.cell? ⟨gb474, 0, none⟩ = some (.int .i64 a2_0) ∧ w61.cell? ⟨gb474, 1, none⟩ = some (.int .i64 a2_1) ∧ w61.cell? ⟨gb474, 2, none⟩ = some (.int .i64 a2_2) ∧ w61.cell? ⟨gb481, 0, none⟩ = some (.int .i64 ((rd_T25 t475 x30_2).f0)) ∧ w61.cell? ⟨gb481, 1, none⟩ = some (.int .i64 ((rd_T25 t475 x30_2).f1)) := hS_
                refine norm_ (a' := ?_) ?_ ?_
                rotate_left
                · simp only [putAll, Act.put, List.setIfInBounds_toArray, List.set_cons_zero, List.set_cons_succ]
                  rfl
                refine one_ (i := 9) (N := none) (bs 11 1023) rfl rfl (one_of HT_.1 (by kernel_rfl)) (by decide) (fun K hK => ?_)
                have hs62 : w61.cell? ⟨gb488, 0, none⟩ = some (.int .i64 0) := (blk_cell BK488.1 0).trans rfl
                have hfs62 := blk_frozen BK488.1 0
                have hns62_0 := NB472_488.1
                have hns62_1 := NB473_488.1
                have hns62_2 := NB474_488.1
                have hns62_3 := NB481_488.1
                have hms62_0 := NB488_472.1
                have hms62_1 := NB488_473.1
                have hms62_2 := NB488_474.1
                have hms62_3 := NB488_481.1
                have hs63 : w61.cell? ⟨gb488, 1, none⟩ = some (.int .i64 0) := (blk_cell BK488.1 1).trans rfl
                have hfs63 := blk_frozen BK488.1 1
                have hns63_0 := NB472_488.1
                have hns63_1 := NB473_488.1
                have hns63_2 := NB474_488.1
                have hns63_3 := NB481_488.1
                have hms63_0 := NB488_472.1
                have hms63_1 := NB488_473.1
                have hms63_2 := NB488_474.1
                have hms63_3 := NB488_481.1
                refine skip_ (w1 := ?_) (by rfl) rfl ?_ ?_
                rotate_left
                · go_simp
                  rfl
                refine hK.out _ _ ⟨((cell_far (p := ⟨gb488, _, none⟩) NB472_488.1 _).trans (((cell_far (p := ⟨gb488, _, none⟩) NB472_488.1 _).trans (hHeld.1)))), ((cell_far (p := ⟨gb488, _, none⟩) NB472_488.1 _).trans (((cell_far (p := ⟨gb488, _, none⟩) NB472_488.1 _).trans (hHeld.2.1)))), ((cell_far (p := ⟨gb488, _, none⟩) NB472_488.1 _).trans (((cell_far (p := ⟨gb488, _, none⟩) NB472_488.1 _).trans (hHeld.2.2.1)))), ((cell_far (p := ⟨gb488, _, none⟩) NB474_488.1 _).trans (((cell_far (p := ⟨gb488, _, none⟩) NB474_488.1 _).trans (hHeld.2.2.2.1)))), ((cell_far (p := ⟨gb488, _, none⟩) NB474_488.1 _).trans (((cell_far (p := ⟨gb488, _, none⟩) NB474_488.1 _).trans (hHeld.2.2.2.2.1)))), ((cell_far (p := ⟨gb488, _, none⟩) NB474_488.1 _).trans (((cell_far (p := ⟨gb488, _, none⟩) NB474_488.1 _).trans (hHeld.2.2.2.2.2.1)))), ((cell_far (p := ⟨gb488, _, none⟩) NB481_488.1 _).trans (((cell_far (p := ⟨gb488, _, none⟩) NB481_488.1 _).trans (hHeld.2.2.2.2.2.2.1)))), ((cell_far (p := ⟨gb488, _, none⟩) NB481_488.1 _).trans (((cell_far (p := ⟨gb488, _, none⟩) NB481_488.1 _).trans (hHeld.2.2.2.2.2.2.2))))⟩ (fun hHeld => ?_)
                clear hK K
                refine pu 10 14 HT_ rfl rfl (bs 11 2047) ?_
                refine done_ (done_of HT_.1 (by kernel_rfl)) ?_
                have hnb64 := NB488_472.1
                have hnc64 := NB472_488.1
                have hnb65 := NB488_473.1
                have hnc65 := NB473_488.1
                have hnb66 := NB488_474.1
                have hnc66 := NB474_488.1
                have hnb67 := NB488_481.1
                have hnc67 := NB481_488.1
                obtain ⟨hcz68_0, hcz68_1, hfz68_0, hfz68_1⟩ := zc2 BK488
                try go_wp2
                go_roundg k2
                case measure => have := HJ4.1; have := HK2.1; omega
                case rel => exact ⟨(x10_2), (wrap64 (x30_2 + 1)), ew, H', ⟨by have := HJ4.1; have := HK2.1; omega⟩, ⟨by (with_reducible repeat (first | apply Kd.R_alloc | apply Kd.R_drewN | apply Kd.R_drew)); exact Kd.R_mono (Kd.R_far (p := ⟨gb488, 1, none⟩) (Kd.R_far (p := ⟨gb488, 0, none⟩) (Kd.R_mono HO_10.1 (fun k_ hk => (⟨hk, hk.2.2⟩ : _ ∧ k_ ≠ gb488))) (fun _ hk => hk.2) (.int .i64 t485)) (fun _ hk => hk.2) (.int .i64 t486)) (fun _ hk => hk.1.1)⟩, ⟨by (with_reducible repeat (first | apply Kd.R_alloc | apply Kd.R_drewN | apply Kd.R_drew)); exact Kd.R_mono (Kd.R_far (p := ⟨gb488, 1, none⟩) (Kd.R_far (p := ⟨gb488, 0, none⟩) (Kd.R_mono HO_28.1 (fun k_ hk => (⟨hk, hk.2.2⟩ : _ ∧ k_ ≠ gb488))) (fun _ hk => hk.2) (.int .i64 t485)) (fun _ hk => hk.2) (.int .i64 t486)) (fun _ hk => hk.1.1)⟩, ⟨bk BK472⟩, ⟨bk BK473⟩, ⟨bk BK474⟩, ⟨bq HB⟩⟩
              replace c28 := Bool.eq_false_iff.mpr c28
              subst c28
              rw [if_neg (show ¬ (false = true) by decide)] at H
              have H' := Aside0.mk H
              clear H
              have p480 : 0 ≤ (x30_2 : Int) := of_decide_eq_true (by first | (with_reducible assumption) | assumption)
              have q480 : x30_2 < (t475.length : Int) := of_decide_eq_true (by first | (with_reducible assumption) | assumption)
              obtain ⟨ad480, e480, hx480_0, hx480_1⟩ := at_T25 (Kd.R_reads' HO_28.1).2.2 x30_2 p480 q480
              cases e480
              replace p480 := eq_true p480
              replace q480 := eq_true q480
              try go_wp2_with (first | ((with_reducible refine gate_dst (N := 12) rfl ?_); refine be #[.int .i64 0, .int .i64 0] 25 ?_; intro gb481 hg w69 hbox hb; replace HO_10 := Aside0.mk (Kd.R_below (Kd.R_elderB (rq HO_10) gb481 (Nat.le_of_eq hg.symm)) hb); replace HO_28 := Aside0.mk (Kd.R_below (Kd.R_elderB (rq HO_28) gb481 (Nat.le_of_eq hg.symm)) hb); have BK481 := Aside0.mk hbox; have GW481 := zs HB hg; have GE481 := zs HB hg; have NB472_481 := zn BK472 hg; have NB481_472 := zm BK472 hg; have NB473_481 := zn BK473 hg; have NB481_473 := zm BK473 hg; have NB474_481 := zn BK474 hg; have NB481_474 := zm BK474 hg; replace BK472 := zb BK472 hb; replace BK473 := zb BK473 hb; replace BK474 := zb BK474 hb; replace HB := zB HB hb; clear hb hbox hg; have hnb70 := NB481_472.1; have hnc70 := NB472_481.1; have hnb71 := NB481_473.1; have hnc71 := NB473_481.1; have hnb72 := NB481_474.1; have hnc72 := NB474_481.1; obtain ⟨hcz73_0, hcz73_1, hfz73_0, hfz73_1⟩ := zc2 BK481))
              have n0_ : Aside0 (Kd.R k25 25 ((w69.setCell ⟨gb481, 0, none⟩ (.int .i64 ((rd_T25 t475 x30_2).f0))).setCell ⟨gb481, 1, none⟩ (.int .i64 ((rd_T25 t475 x30_2).f1))) w.heap.size (fun k_ => some k_ ≠ (.slice (some ad480) t475.length co22 : Value).ownBlock ∧ k_ ≠ gb481) u10 x10_2) := ⟨by (with_reducible repeat (first | apply Kd.R_alloc | apply Kd.R_drewN | apply Kd.R_drew)); exact Kd.R_mono (Kd.R_far (p := ⟨gb481, 1, none⟩) (Kd.R_far (p := ⟨gb481, 0, none⟩) (Kd.R_mono HO_10.1 (fun k_ hk => (⟨hk, hk.2⟩ : _ ∧ k_ ≠ gb481))) (fun _ hk => hk.2) (.int .i64 ((rd_T25 t475 x30_2).f0))) (fun _ hk => hk.2) (.int .i64 ((rd_T25 t475 x30_2).f1))) (fun _ hk => ⟨hk.1.1, hk.1.2⟩)⟩
              have n1_ : Aside0 (Kd.R k25 25 ((w69.setCell ⟨gb481, 0, none⟩ (.int .i64 ((rd_T25 t475 x30_2).f0))).setCell ⟨gb481, 1, none⟩ (.int .i64 ((rd_T25 t475 x30_2).f1))) w.heap.size (fun k_ => some k_ ≠ (u10 : Value).ownBlock ∧ k_ ≠ gb481) (.slice (some ad480) t475.length co22) t475) := ⟨by (with_reducible repeat (first | apply Kd.R_alloc | apply Kd.R_drewN | apply Kd.R_drew)); exact Kd.R_mono (Kd.R_far (p := ⟨gb481, 1, none⟩) (Kd.R_far (p := ⟨gb481, 0, none⟩) (Kd.R_mono HO_28.1 (fun k_ hk => (⟨hk, hk.2⟩ : _ ∧ k_ ≠ gb481))) (fun _ hk => hk.2) (.int .i64 ((rd_T25 t475 x30_2).f0))) (fun _ hk => hk.2) (.int .i64 ((rd_T25 t475 x30_2).f1))) (fun _ hk => ⟨hk.1.1, hk.1.2⟩)⟩
              have n2_ : Aside0 (((w69.setCell ⟨gb481, 0, none⟩ (.int .i64 ((rd_T25 t475 x30_2).f0))).setCell ⟨gb481, 1, none⟩ (.int .i64 ((rd_T25 t475 x30_2).f1))).heap[gb472]? = some (.cells #[.int .i64 a0_0, .int .i64 a0_1, .int .i64 a0_2] 27 (0, 0))) := ⟨bk BK472⟩
              have n3_ : Aside0 (((w69.setCell ⟨gb481, 0, none⟩ (.int .i64 ((rd_T25 t475 x30_2).f0))).setCell ⟨gb481, 1, none⟩ (.int .i64 ((rd_T25 t475 x30_2).f1))).heap[gb473]? = some (.cells #[.int .i64 a1_0, .int .i64 a1_1, .int .i64 a1_2] 27 (0, 0))) := ⟨bk BK473⟩
              have n4_ : Aside0 (((w69.setCell ⟨gb481, 0, none⟩ (.int .i64 ((rd_T25 t475 x30_2).f0))).setCell ⟨gb481, 1, none⟩ (.int .i64 ((rd_T25 t475 x30_2).f1))).heap[gb474]? = some (.cells #[.int .i64 a2_0, .int .i64 a2_1, .int .i64 a2_2] 27 (0, 0))) := ⟨bk BK474⟩
              have n5_ : Aside0 (((w69.setCell ⟨gb481, 0, none⟩ (.int .i64 ((rd_T25 t475 x30_2).f0))).setCell ⟨gb481, 1, none⟩ (.int .i64 ((rd_T25 t475 x30_2).f1))).heap[gb481]? = some (.cells #[.int .i64 ((rd_T25 t475 x30_2).f0), .int .i64 ((rd_T25 t475 x30_2).f1)] 25 (0, 0))) := ⟨bk BK481⟩
              have n6_ : Aside0 (Below w.heap.size w ((w69.setCell ⟨gb481, 0, none⟩ (.int .i64 ((rd_T25 t475 x30_2).f0))).setCell ⟨gb481, 1, none⟩ (.int .i64 ((rd_T25 t475 x30_2).f1)))) := ⟨bq HB⟩
              (try clear HO_10)
              (try clear HO_28)
              (try clear BK472)
              (try clear BK473)
              (try clear BK474)
              (try clear BK481)
              (try clear HB)
              generalize ((w69.setCell ⟨gb481, 0, none⟩ (.int .i64 ((rd_T25 t475 x30_2).f0))).setCell ⟨gb481, 1, none⟩ (.int .i64 ((rd_T25 t475 x30_2).f1))) = w74 at n0_ n1_ n2_ n3_ n4_ n5_ n6_ ⊢
              have HO_10 := n0_
              have HO_28 := n1_
              have BK472 := n2_
              have BK473 := n3_
              have BK474 := n4_
              have BK481 := n5_
              have HB := n6_
              clear n0_ n1_ n2_ n3_ n4_ n5_ n6_
              replace HO_10 := Aside0.mk (Kd.R_drew HO_10.1)
              replace HO_28 := Aside0.mk (Kd.R_drew HO_28.1)
              replace BK472 := Aside0.mk (blk_drew BK472.1)
              replace BK473 := Aside0.mk (blk_drew BK473.1)
              replace BK474 := Aside0.mk (blk_drew BK474.1)
              replace BK481 := Aside0.mk (blk_drew BK481.1)
              replace HB := Aside0.mk (below_drew1 HB.1)
              refine start_ (n := 11) (S := fun w' => w'.cell? ⟨gb472, 0, none⟩ = some (.int .i64 a0_0) ∧ w'.cell? ⟨gb472, 1, none⟩ = some (.int .i64 a0_1) ∧ w'.cell? ⟨gb472, 2, none⟩ = some (.int .i64 a0_2) ∧ w'.cell? ⟨gb474, 0, none⟩ = some (.int .i64 a2_0) ∧ w'.cell? ⟨gb474, 1, none⟩ = some (.int .i64 a2_1) ∧ w'.cell? ⟨gb474, 2, none⟩ = some (.int .i64 a2_2) ∧ w'.cell? ⟨gb481, 0, none⟩ = some (.int .i64 ((rd_T25 t475 x30_2).f0)) ∧ w'.cell? ⟨gb481, 1, none⟩ = some (.int .i64 ((rd_T25 t475 x30_2).f1))) (ds := []) (bs 11 0) (by kernel_rfl) rfl rfl ⟨(blk_cell BK472.1 0).trans rfl, (blk_cell BK472.1 1).trans rfl, (blk_cell BK472.1 2).trans rfl, (blk_cell BK474.1 0).trans rfl, (blk_cell BK474.1 1).trans rfl, (blk_cell BK474.1 2).trans rfl, (blk_cell BK481.1 0).trans rfl, (blk_cell BK481.1 1).trans rfl⟩ (fun hHeld => ?_); refine with_tabW spec_ThreeMeet.tab8 spec_ThreeMeet.bits8 (fun HT_ HW_ => ?_)
              generalize w74.drew = w75 at HO_10 HO_28 BK472 BK473 BK474 BK481 HB hHeld ⊢
              refine tk 0 35 HT_ HW_ hHeld rfl rfl (bs 11 1) ?_
              refine tk 1 36 HT_ HW_ hHeld rfl rfl (bs 11 3) ?_
              refine tk 3 38 HT_ HW_ hHeld rfl rfl (bs 11 11) ?_
              refine join_ (σ := Nat) 2 (bs 11 511) (fun s_ => [(37, .agg #[.int .i64 t482, .int .i64 t483, .int .i64 t484]), (39, .tuple #[.agg #[.int .i64 t485, .int .i64 t486], .bool false]), (13, .pointer (some ⟨s_, 0, none⟩)), (34, .tuple #[.agg #[.int .i64 t485, .int .i64 t486], .bool false]), (40, .agg #[.int .i64 t485, .int .i64 t486]), (41, .bool false)]) (fun s_ w' => (w'.cell? ⟨gb472, 0, none⟩ = some (.int .i64 a0_0) ∧ w'.cell? ⟨gb472, 1, none⟩ = some (.int .i64 a0_1) ∧ w'.cell? ⟨gb472, 2, none⟩ = some (.int .i64 a0_2) ∧ w'.cell? ⟨gb474, 0, none⟩ = some (.int .i64 a2_0) ∧ w'.cell? ⟨gb474, 1, none⟩ = some (.int .i64 a2_1) ∧ w'.cell? ⟨gb474, 2, none⟩ = some (.int .i64 a2_2) ∧ w'.cell? ⟨gb481, 0, none⟩ = some (.int .i64 ((rd_T25 t475 x30_2).f0)) ∧ w'.cell? ⟨gb481, 1, none⟩ = some (.int .i64 ((rd_T25 t475 x30_2).f1))) ∧ (Kd.R k25 25 w' w.heap.size (fun k_ => some k_ ≠ (.slice (some ad480) t475.length co22 : Value).ownBlock ∧ k_ ≠ gb481 ∧ k_ ≠ s_) u10 x10_2) ∧ (Kd.R k25 25 w' w.heap.size (fun k_ => some k_ ≠ (u10 : Value).ownBlock ∧ k_ ≠ gb481 ∧ k_ ≠ s_) (.slice (some ad480) t475.length co22) t475) ∧ (w'.heap[gb472]? = some (.cells #[.int .i64 a0_0, .int .i64 a0_1, .int .i64 a0_2] 27 (0, 0))) ∧ (w'.heap[gb473]? = some (.cells #[.int .i64 a1_0, .int .i64 a1_1, .int .i64 a1_2] 27 (0, 0))) ∧ (w'.heap[gb474]? = some (.cells #[.int .i64 a2_0, .int .i64 a2_1, .int .i64 a2_2] 27 (0, 0))) ∧ (w'.heap[gb481]? = some (.cells #[.int .i64 ((rd_T25 t475 x30_2).f0), .int .i64 ((rd_T25 t475 x30_2).f1)] 25 (0, 0))) ∧ (w'.heap[s_]? = some (.cells #[.int .i64 0, .int .i64 0] 25 (0, 0))) ∧ (w.heap.size ≤ s_) ∧ (w.heap.size ≤ s_) ∧ (gb472 ≠ s_) ∧ (s_ ≠ gb472) ∧ (gb473 ≠ s_) ∧ (s_ ≠ gb473) ∧ (gb474 ≠ s_) ∧ (s_ ≠ gb474) ∧ (gb481 ≠ s_) ∧ (s_ ≠ gb481) ∧ (Below w.heap.size w w')) ?_ ?_
              rotate_left
              · intro hCont
                refine two_ (i := 2) (j := 8) (Ni := some 37) (Nj := some 13) (bs 11 15) (bs 11 267) rfl rfl rfl rfl (two_of HT_.1 (by kernel_rfl)) (by decide) (by decide) (fun K hK => ?_) (fun K hK => ?_)
                · skip
                  refine gs Try.func33 #[.agg #[.int .i64 a0_0, .int .i64 a0_1, .int .i64 a0_2], .agg #[.int .i64 a2_0, .int .i64 a2_1, .int .i64 a2_2]] ?_
                  with_reducible refine (spec_meRelative.calls k2 a0_0 a0_1 a0_2 a2_0 a2_1 a2_2 t482 t483 t484 _ A26.1).mono ?_
                  rintro e w76 ⟨rfl, hb⟩
                  refine ⟨_, rfl, ?_⟩
                  replace HO_10 := rB HO_10 hb
                  replace HO_28 := rB HO_28 hb
                  replace BK472 := zb BK472 hb
                  replace BK473 := zb BK473 hb
                  replace BK474 := zb BK474 hb
                  replace BK481 := zb BK481 hb
                  replace HB := zB HB hb
                  (try clear hb)
                  (try clear hb2)
                  (try clear hk)
                  (try clear hi)
                  refine hK.out _ _ ⟨(blk_cell BK472.1 0).trans rfl, (blk_cell BK472.1 1).trans rfl, (blk_cell BK472.1 2).trans rfl, (blk_cell BK474.1 0).trans rfl, (blk_cell BK474.1 1).trans rfl, (blk_cell BK474.1 2).trans rfl, (blk_cell BK481.1 0).trans rfl, (blk_cell BK481.1 1).trans rfl⟩ (fun hHeld => ?_)
                  clear hK K
                  refine norm_ (aq 37) ?_
                  refine two_ (i := 4) (j := 8) (Ni := some 39) (Nj := some 13) (bs 11 31) (bs 11 271) rfl rfl rfl rfl (two_of HT_.1 (by kernel_rfl)) (by decide) (by decide) (fun K hK => ?_) (fun K hK => ?_)
                  · skip
                    refine gs Try.func41 #[.agg #[.int .i64 t482, .int .i64 t483, .int .i64 t484], .agg #[.int .i64 ((rd_T25 t475 x30_2).f0), .int .i64 ((rd_T25 t475 x30_2).f1)]] ?_
                    with_reducible refine (spec_meAt.calls k2 t482 t483 t484 ((rd_T25 t475 x30_2).f0) ((rd_T25 t475 x30_2).f1) t485 t486 false _ A27.1).mono ?_
                    rintro e w77 ⟨rfl, hb⟩
                    refine ⟨_, rfl, ?_⟩
                    replace HO_10 := rB HO_10 hb
                    replace HO_28 := rB HO_28 hb
                    replace BK472 := zb BK472 hb
                    replace BK473 := zb BK473 hb
                    replace BK474 := zb BK474 hb
                    replace BK481 := zb BK481 hb
                    replace HB := zB HB hb
                    (try clear hb)
                    (try clear hb2)
                    (try clear hk)
                    (try clear hi)
                    refine hK.out _ _ ⟨(blk_cell BK472.1 0).trans rfl, (blk_cell BK472.1 1).trans rfl, (blk_cell BK472.1 2).trans rfl, (blk_cell BK474.1 0).trans rfl, (blk_cell BK474.1 1).trans rfl, (blk_cell BK474.1 2).trans rfl, (blk_cell BK481.1 0).trans rfl, (blk_cell BK481.1 1).trans rfl⟩ (fun hHeld => ?_)
                    clear hK K
                    refine norm_ (aq 39) ?_
                    refine pu 5 34 HT_ rfl rfl (bs 11 63) ?_
                    refine pu 6 40 HT_ rfl rfl (bs 11 127) ?_
                    refine pu 7 41 HT_ rfl rfl (bs 11 255) ?_
                    refine one_ (i := 8) (N := some 13) (bs 11 511) rfl rfl (one_of HT_.1 (by kernel_rfl)) (by decide) (fun K hK => ?_)
                    refine bp #[.int .i64 0, .int .i64 0] 25 ?_
                    intro gb488 hg w78 hbox hb
                    replace HO_10 := Aside0.mk (Kd.R_below (Kd.R_elderB (rq HO_10) gb488 (Nat.le_of_eq hg.symm)) hb)
                    replace HO_28 := Aside0.mk (Kd.R_below (Kd.R_elderB (rq HO_28) gb488 (Nat.le_of_eq hg.symm)) hb)
                    have BK488 := Aside0.mk hbox
                    have GW488 := zs HB hg
                    have GE488 := zs HB hg
                    have NB472_488 := zn BK472 hg
                    have NB488_472 := zm BK472 hg
                    have NB473_488 := zn BK473 hg
                    have NB488_473 := zm BK473 hg
                    have NB474_488 := zn BK474 hg
                    have NB488_474 := zm BK474 hg
                    have NB481_488 := zn BK481 hg
                    have NB488_481 := zm BK481 hg
                    replace BK472 := zb BK472 hb
                    replace BK473 := zb BK473 hb
                    replace BK474 := zb BK474 hb
                    replace BK481 := zb BK481 hb
                    replace HB := zB HB hb
                    clear hb hbox hg
                    refine hK.out _ _ ⟨(blk_cell BK472.1 0).trans rfl, (blk_cell BK472.1 1).trans rfl, (blk_cell BK472.1 2).trans rfl, (blk_cell BK474.1 0).trans rfl, (blk_cell BK474.1 1).trans rfl, (blk_cell BK474.1 2).trans rfl, (blk_cell BK481.1 0).trans rfl, (blk_cell BK481.1 1).trans rfl⟩ (fun hHeld => ?_)
                    clear hK K
                    refine norm_ (aq 13) ?_
                    exact norm_ (by simp only [putAll, Act.put, List.setIfInBounds_toArray, List.set_cons_zero, List.set_cons_succ]) (hCont (gb488) _ ⟨hHeld, (by (with_reducible repeat (first | apply Kd.R_alloc | apply Kd.R_drewN | apply Kd.R_drew)); exact Kd.R_mono HO_10.1 (fun _ hk => ⟨hk.1.1, ⟨hk.1.2, hk.2⟩⟩)), (by (with_reducible repeat (first | apply Kd.R_alloc | apply Kd.R_drewN | apply Kd.R_drew)); exact Kd.R_mono HO_28.1 (fun _ hk => ⟨hk.1.1, ⟨hk.1.2, hk.2⟩⟩)), (bk BK472), (bk BK473), (bk BK474), (bk BK481), (bk BK488), GW488.1, GE488.1, NB472_488.1, NB488_472.1, NB473_488.1, NB488_473.1, NB474_488.1, NB488_474.1, NB481_488.1, NB488_481.1, (bq HB)⟩)
                  skip
                  refine bp #[.int .i64 0, .int .i64 0] 25 ?_
                  intro gb488 hg w77 hbox hb
                  replace HO_10 := Aside0.mk (Kd.R_below (Kd.R_elderB (rq HO_10) gb488 (Nat.le_of_eq hg.symm)) hb)
                  replace HO_28 := Aside0.mk (Kd.R_below (Kd.R_elderB (rq HO_28) gb488 (Nat.le_of_eq hg.symm)) hb)
                  have BK488 := Aside0.mk hbox
                  have GW488 := zs HB hg
                  have GE488 := zs HB hg
                  have NB472_488 := zn BK472 hg
                  have NB488_472 := zm BK472 hg
                  have NB473_488 := zn BK473 hg
                  have NB488_473 := zm BK473 hg
                  have NB474_488 := zn BK474 hg
                  have NB488_474 := zm BK474 hg
                  have NB481_488 := zn BK481 hg
                  have NB488_481 := zm BK481 hg
                  replace BK472 := zb BK472 hb
                  replace BK473 := zb BK473 hb
                  replace BK474 := zb BK474 hb
                  replace BK481 := zb BK481 hb
                  replace HB := zB HB hb
                  clear hb hbox hg
                  refine hK.out _ _ ⟨(blk_cell BK472.1 0).trans rfl, (blk_cell BK472.1 1).trans rfl, (blk_cell BK472.1 2).trans rfl, (blk_cell BK474.1 0).trans rfl, (blk_cell BK474.1 1).trans rfl, (blk_cell BK474.1 2).trans rfl, (blk_cell BK481.1 0).trans rfl, (blk_cell BK481.1 1).trans rfl⟩ (fun hHeld => ?_)
                  clear hK K
                  refine norm_ (aq 13) ?_
                  refine one_ (i := 4) (N := some 39) (bs 11 287) rfl rfl (one_of HT_.1 (by kernel_rfl)) (by decide) (fun K hK => ?_)
                  refine gs Try.func41 #[.agg #[.int .i64 t482, .int .i64 t483, .int .i64 t484], .agg #[.int .i64 ((rd_T25 t475 x30_2).f0), .int .i64 ((rd_T25 t475 x30_2).f1)]] ?_
                  with_reducible refine (spec_meAt.calls k2 t482 t483 t484 ((rd_T25 t475 x30_2).f0) ((rd_T25 t475 x30_2).f1) t485 t486 false _ A27.1).mono ?_
                  rintro e w78 ⟨rfl, hb⟩
                  refine ⟨_, rfl, ?_⟩
                  replace HO_10 := rB HO_10 hb
                  replace HO_28 := rB HO_28 hb
                  replace BK472 := zb BK472 hb
                  replace BK473 := zb BK473 hb
                  replace BK474 := zb BK474 hb
                  replace BK481 := zb BK481 hb
                  replace BK488 := zb BK488 hb
                  replace HB := zB HB hb
                  (try clear hb)
                  (try clear hb2)
                  (try clear hk)
                  (try clear hi)
                  refine hK.out _ _ ⟨(blk_cell BK472.1 0).trans rfl, (blk_cell BK472.1 1).trans rfl, (blk_cell BK472.1 2).trans rfl, (blk_cell BK474.1 0).trans rfl, (blk_cell BK474.1 1).trans rfl, (blk_cell BK474.1 2).trans rfl, (blk_cell BK481.1 0).trans rfl, (blk_cell BK481.1 1).trans rfl⟩ (fun hHeld => ?_)
                  clear hK K
                  refine norm_ (aq 39) ?_
                  refine pu 5 34 HT_ rfl rfl (bs 11 319) ?_
                  refine pu 6 40 HT_ rfl rfl (bs 11 383) ?_
                  refine pu 7 41 HT_ rfl rfl (bs 11 511) ?_
                  exact norm_ (by simp only [putAll, Act.put, List.setIfInBounds_toArray, List.set_cons_zero, List.set_cons_succ]) (hCont (gb488) _ ⟨hHeld, (by (with_reducible repeat (first | apply Kd.R_alloc | apply Kd.R_drewN | apply Kd.R_drew)); exact Kd.R_mono HO_10.1 (fun _ hk => ⟨hk.1.1, ⟨hk.1.2, hk.2⟩⟩)), (by (with_reducible repeat (first | apply Kd.R_alloc | apply Kd.R_drewN | apply Kd.R_drew)); exact Kd.R_mono HO_28.1 (fun _ hk => ⟨hk.1.1, ⟨hk.1.2, hk.2⟩⟩)), (bk BK472), (bk BK473), (bk BK474), (bk BK481), (bk BK488), GW488.1, GE488.1, NB472_488.1, NB488_472.1, NB473_488.1, NB488_473.1, NB474_488.1, NB488_474.1, NB481_488.1, NB488_481.1, (bq HB)⟩)
                skip
                refine bp #[.int .i64 0, .int .i64 0] 25 ?_
                intro gb488 hg w76 hbox hb
                replace HO_10 := Aside0.mk (Kd.R_below (Kd.R_elderB (rq HO_10) gb488 (Nat.le_of_eq hg.symm)) hb)
                replace HO_28 := Aside0.mk (Kd.R_below (Kd.R_elderB (rq HO_28) gb488 (Nat.le_of_eq hg.symm)) hb)
                have BK488 := Aside0.mk hbox
                have GW488 := zs HB hg
                have GE488 := zs HB hg
                have NB472_488 := zn BK472 hg
                have NB488_472 := zm BK472 hg
                have NB473_488 := zn BK473 hg
                have NB488_473 := zm BK473 hg
                have NB474_488 := zn BK474 hg
                have NB488_474 := zm BK474 hg
                have NB481_488 := zn BK481 hg
                have NB488_481 := zm BK481 hg
                replace BK472 := zb BK472 hb
                replace BK473 := zb BK473 hb
                replace BK474 := zb BK474 hb
                replace BK481 := zb BK481 hb
                replace HB := zB HB hb
                clear hb hbox hg
                refine hK.out _ _ ⟨(blk_cell BK472.1 0).trans rfl, (blk_cell BK472.1 1).trans rfl, (blk_cell BK472.1 2).trans rfl, (blk_cell BK474.1 0).trans rfl, (blk_cell BK474.1 1).trans rfl, (blk_cell BK474.1 2).trans rfl, (blk_cell BK481.1 0).trans rfl, (blk_cell BK481.1 1).trans rfl⟩ (fun hHeld => ?_)
                clear hK K
                refine norm_ (aq 13) ?_
                refine one_ (i := 2) (N := some 37) (bs 11 271) rfl rfl (one_of HT_.1 (by kernel_rfl)) (by decide) (fun K hK => ?_)
                refine gs Try.func33 #[.agg #[.int .i64 a0_0, .int .i64 a0_1, .int .i64 a0_2], .agg #[.int .i64 a2_0, .int .i64 a2_1, .int .i64 a2_2]] ?_
                with_reducible refine (spec_meRelative.calls k2 a0_0 a0_1 a0_2 a2_0 a2_1 a2_2 t482 t483 t484 _ A26.1).mono ?_
                rintro e w77 ⟨rfl, hb⟩
                refine ⟨_, rfl, ?_⟩
                replace HO_10 := rB HO_10 hb
                replace HO_28 := rB HO_28 hb
                replace BK472 := zb BK472 hb
                replace BK473 := zb BK473 hb
                replace BK474 := zb BK474 hb
                replace BK481 := zb BK481 hb
                replace BK488 := zb BK488 hb
                replace HB := zB HB hb
                (try clear hb)
                (try clear hb2)
                (try clear hk)
                (try clear hi)
                refine hK.out _ _ ⟨(blk_cell BK472.1 0).trans rfl, (blk_cell BK472.1 1).trans rfl, (blk_cell BK472.1 2).trans rfl, (blk_cell BK474.1 0).trans rfl, (blk_cell BK474.1 1).trans rfl, (blk_cell BK474.1 2).trans rfl, (blk_cell BK481.1 0).trans rfl, (blk_cell BK481.1 1).trans rfl⟩ (fun hHeld => ?_)
                clear hK K
                refine norm_ (aq 37) ?_
                refine one_ (i := 4) (N := some 39) (bs 11 287) rfl rfl (one_of HT_.1 (by kernel_rfl)) (by decide) (fun K hK => ?_)
                refine gs Try.func41 #[.agg #[.int .i64 t482, .int .i64 t483, .int .i64 t484], .agg #[.int .i64 ((rd_T25 t475 x30_2).f0), .int .i64 ((rd_T25 t475 x30_2).f1)]] ?_
                with_reducible refine (spec_meAt.calls k2 t482 t483 t484 ((rd_T25 t475 x30_2).f0) ((rd_T25 t475 x30_2).f1) t485 t486 false _ A27.1).mono ?_
                rintro e w78 ⟨rfl, hb⟩
                refine ⟨_, rfl, ?_⟩
                replace HO_10 := rB HO_10 hb
                replace HO_28 := rB HO_28 hb
                replace BK472 := zb BK472 hb
                replace BK473 := zb BK473 hb
                replace BK474 := zb BK474 hb
                replace BK481 := zb BK481 hb
                replace BK488 := zb BK488 hb
                replace HB := zB HB hb
                (try clear hb)
                (try clear hb2)
                (try clear hk)
                (try clear hi)
                refine hK.out _ _ ⟨(blk_cell BK472.1 0).trans rfl, (blk_cell BK472.1 1).trans rfl, (blk_cell BK472.1 2).trans rfl, (blk_cell BK474.1 0).trans rfl, (blk_cell BK474.1 1).trans rfl, (blk_cell BK474.1 2).trans rfl, (blk_cell BK481.1 0).trans rfl, (blk_cell BK481.1 1).trans rfl⟩ (fun hHeld => ?_)
                clear hK K
                refine norm_ (aq 39) ?_
                refine pu 5 34 HT_ rfl rfl (bs 11 319) ?_
                refine pu 6 40 HT_ rfl rfl (bs 11 383) ?_
                refine pu 7 41 HT_ rfl rfl (bs 11 511) ?_
                exact norm_ (by simp only [putAll, Act.put, List.setIfInBounds_toArray, List.set_cons_zero, List.set_cons_succ]) (hCont (gb488) _ ⟨hHeld, (by (with_reducible repeat (first | apply Kd.R_alloc | apply Kd.R_drewN | apply Kd.R_drew)); exact Kd.R_mono HO_10.1 (fun _ hk => ⟨hk.1.1, ⟨hk.1.2, hk.2⟩⟩)), (by (with_reducible repeat (first | apply Kd.R_alloc | apply Kd.R_drewN | apply Kd.R_drew)); exact Kd.R_mono HO_28.1 (fun _ hk => ⟨hk.1.1, ⟨hk.1.2, hk.2⟩⟩)), (bk BK472), (bk BK473), (bk BK474), (bk BK481), (bk BK488), GW488.1, GE488.1, NB472_488.1, NB488_472.1, NB473_488.1, NB488_473.1, NB474_488.1, NB488_474.1, NB481_488.1, NB488_481.1, (bq HB)⟩)
              rintro gb488 w79 ⟨hS_, h0_, h1_, h2_, h3_, h4_, h5_, h6_, h7_, h8_, h9_, h10_, h11_, h12_, h13_, h14_, h15_, h16_, h17_⟩
              have n0_ : Aside0 (Kd.R k25 25 w79 w.heap.size (fun k_ => some k_ ≠ (.slice (some ad480) t475.length co22 : Value).ownBlock ∧ k_ ≠ gb481 ∧ k_ ≠ gb488) u10 x10_2) := ⟨h0_⟩
              have n1_ : Aside0 (Kd.R k25 25 w79 w.heap.size (fun k_ => some k_ ≠ (u10 : Value).ownBlock ∧ k_ ≠ gb481 ∧ k_ ≠ gb488) (.slice (some ad480) t475.length co22) t475) := ⟨h1_⟩
              have n2_ : Aside0 (w79.heap[gb472]? = some (.cells #[.int .i64 a0_0, .int .i64 a0_1, .int .i64 a0_2] 27 (0, 0))) := ⟨h2_⟩
              have n3_ : Aside0 (w79.heap[gb473]? = some (.cells #[.int .i64 a1_0, .int .i64 a1_1, .int .i64 a1_2] 27 (0, 0))) := ⟨h3_⟩
              have n4_ : Aside0 (w79.heap[gb474]? = some (.cells #[.int .i64 a2_0, .int .i64 a2_1, .int .i64 a2_2] 27 (0, 0))) := ⟨h4_⟩
              have n5_ : Aside0 (w79.heap[gb481]? = some (.cells #[.int .i64 ((rd_T25 t475 x30_2).f0), .int .i64 ((rd_T25 t475 x30_2).f1)] 25 (0, 0))) := ⟨h5_⟩
              have n6_ : Aside0 (w79.heap[gb488]? = some (.cells #[.int .i64 0, .int .i64 0] 25 (0, 0))) := ⟨h6_⟩
              have n7_ : Aside0 (w.heap.size ≤ gb488) := ⟨h7_⟩
              have n8_ : Aside0 (w.heap.size ≤ gb488) := ⟨h8_⟩
              have n9_ : Aside0 (gb472 ≠ gb488) := ⟨h9_⟩
              have n10_ : Aside0 (gb488 ≠ gb472) := ⟨h10_⟩
              have n11_ : Aside0 (gb473 ≠ gb488) := ⟨h11_⟩
              have n12_ : Aside0 (gb488 ≠ gb473) := ⟨h12_⟩
              have n13_ : Aside0 (gb474 ≠ gb488) := ⟨h13_⟩
              have n14_ : Aside0 (gb488 ≠ gb474) := ⟨h14_⟩
              have n15_ : Aside0 (gb481 ≠ gb488) := ⟨h15_⟩
              have n16_ : Aside0 (gb488 ≠ gb481) := ⟨h16_⟩
              have n17_ : Aside0 (Below w.heap.size w w79) := ⟨h17_⟩
              clear HO_10
              clear HO_28
              clear BK472
              clear BK473
              clear BK474
              clear BK481
              clear HB
              clear h0_ h1_ h2_ h3_ h4_ h5_ h6_ h7_ h8_ h9_ h10_ h11_ h12_ h13_ h14_ h15_ h16_ h17_
              have HO_10 := n0_
              have HO_28 := n1_
              have BK472 := n2_
              have BK473 := n3_
              have BK474 := n4_
              have BK481 := n5_
              have BK488 := n6_
              have GW488 := n7_
              have GE488 := n8_
              have NB472_488 := n9_
              have NB488_472 := n10_
              have NB473_488 := n11_
              have NB488_473 := n12_
              have NB474_488 := n13_
              have NB488_474 := n14_
              have NB481_488 := n15_
              have NB488_481 := n16_
              have HB := n17_
              clear n0_ n1_ n2_ n3_ n4_ n5_ n6_ n7_ n8_ n9_ n10_ n11_ n12_ n13_ n14_ n15_ n16_ n17_
              have hHeld : w79.cell? ⟨gb472, 0, none⟩ = some (.int .i64 a0_0) ∧ w79.cell? ⟨gb472, 1, none⟩ = some (.int .i64 a0_1) ∧ w79.cell? ⟨gb472, 2, none⟩ = some (.int .i64 a0_2) ∧ w79.cell? ⟨gb474, 0, none⟩ = some (.int .i64 a2_0) ∧ w79.cell? ⟨gb474, 1, none⟩ = some (.int .i64 a2_1) ∧ w79.cell? ⟨gb474, 2, none⟩ = some (.int .i64 a2_2) ∧ w79.cell? ⟨gb481, 0, none⟩ = some (.int .i64 ((rd_T25 t475 x30_2).f0)) ∧ w79.cell? ⟨gb481, 1, none⟩ = some (.int .i64 ((rd_T25 t475 x30_2).f1)) := hS_
              refine norm_ (a' := ?_) ?_ ?_
              rotate_left
              · simp only [putAll, Act.put, List.setIfInBounds_toArray, List.set_cons_zero, List.set_cons_succ]
                rfl
              refine one_ (i := 9) (N := none) (bs 11 1023) rfl rfl (one_of HT_.1 (by kernel_rfl)) (by decide) (fun K hK => ?_)
              have hs80 : w79.cell? ⟨gb488, 0, none⟩ = some (.int .i64 0) := (blk_cell BK488.1 0).trans rfl
              have hfs80 := blk_frozen BK488.1 0
              have hns80_0 := NB472_488.1
              have hns80_1 := NB473_488.1
              have hns80_2 := NB474_488.1
              have hns80_3 := NB481_488.1
              have hms80_0 := NB488_472.1
              have hms80_1 := NB488_473.1
              have hms80_2 := NB488_474.1
              have hms80_3 := NB488_481.1
              have hs81 : w79.cell? ⟨gb488, 1, none⟩ = some (.int .i64 0) := (blk_cell BK488.1 1).trans rfl
              have hfs81 := blk_frozen BK488.1 1
              have hns81_0 := NB472_488.1
              have hns81_1 := NB473_488.1
              have hns81_2 := NB474_488.1
              have hns81_3 := NB481_488.1
              have hms81_0 := NB488_472.1
              have hms81_1 := NB488_473.1
              have hms81_2 := NB488_474.1
              have hms81_3 := NB488_481.1
              refine skip_ (w1 := ?_) (by rfl) rfl ?_ ?_
              rotate_left
              · go_simp
                rfl
              refine hK.out _ _ ⟨((cell_far (p := ⟨gb488, _, none⟩) NB472_488.1 _).trans (((cell_far (p := ⟨gb488, _, none⟩) NB472_488.1 _).trans (hHeld.1)))), ((cell_far (p := ⟨gb488, _, none⟩) NB472_488.1 _).trans (((cell_far (p := ⟨gb488, _, none⟩) NB472_488.1 _).trans (hHeld.2.1)))), ((cell_far (p := ⟨gb488, _, none⟩) NB472_488.1 _).trans (((cell_far (p := ⟨gb488, _, none⟩) NB472_488.1 _).trans (hHeld.2.2.1)))), ((cell_far (p := ⟨gb488, _, none⟩) NB474_488.1 _).trans (((cell_far (p := ⟨gb488, _, none⟩) NB474_488.1 _).trans (hHeld.2.2.2.1)))), ((cell_far (p := ⟨gb488, _, none⟩) NB474_488.1 _).trans (((cell_far (p := ⟨gb488, _, none⟩) NB474_488.1 _).trans (hHeld.2.2.2.2.1)))), ((cell_far (p := ⟨gb488, _, none⟩) NB474_488.1 _).trans (((cell_far (p := ⟨gb488, _, none⟩) NB474_488.1 _).trans (hHeld.2.2.2.2.2.1)))), ((cell_far (p := ⟨gb488, _, none⟩) NB481_488.1 _).trans (((cell_far (p := ⟨gb488, _, none⟩) NB481_488.1 _).trans (hHeld.2.2.2.2.2.2.1)))), ((cell_far (p := ⟨gb488, _, none⟩) NB481_488.1 _).trans (((cell_far (p := ⟨gb488, _, none⟩) NB481_488.1 _).trans (hHeld.2.2.2.2.2.2.2))))⟩ (fun hHeld => ?_)
              clear hK K
              refine pu 10 14 HT_ rfl rfl (bs 11 2047) ?_
              refine done_ (done_of HT_.1 (by kernel_rfl)) ?_
              try go_wp2
              go_roundg k2
              case measure => have := HJ4.1; have := HK2.1; omega
              case rel => exact ⟨(x10_2), (wrap64 (x30_2 + 1)), ew, H', ⟨by have := HJ4.1; have := HK2.1; omega⟩, ⟨by (with_reducible repeat (first | apply Kd.R_alloc | apply Kd.R_drewN | apply Kd.R_drew)); exact Kd.R_mono (Kd.R_far (p := ⟨gb488, 1, none⟩) (Kd.R_far (p := ⟨gb488, 0, none⟩) (Kd.R_mono HO_10.1 (fun k_ hk => (⟨hk, hk.2.2⟩ : _ ∧ k_ ≠ gb488))) (fun _ hk => hk.2) (.int .i64 t485)) (fun _ hk => hk.2) (.int .i64 t486)) (fun _ hk => hk.1.1)⟩, ⟨by (with_reducible repeat (first | apply Kd.R_alloc | apply Kd.R_drewN | apply Kd.R_drew)); exact Kd.R_mono (Kd.R_far (p := ⟨gb488, 1, none⟩) (Kd.R_far (p := ⟨gb488, 0, none⟩) (Kd.R_mono HO_28.1 (fun k_ hk => (⟨hk, hk.2.2⟩ : _ ∧ k_ ≠ gb488))) (fun _ hk => hk.2) (.int .i64 t485)) (fun _ hk => hk.2) (.int .i64 t486)) (fun _ hk => hk.1.1)⟩, ⟨bk BK472⟩, ⟨bk BK473⟩, ⟨bk BK474⟩, ⟨bq HB⟩⟩
            rw [if_neg c25] at H
            exact absurd H (by simp)
          rw [if_neg c24] at H
          exact absurd H (by simp)
        rw [if_neg c23] at H
        have c23b0 : decide (x30_2 < (t475.length : Int)) = false := decide_eq_false c23
        clear c23
        simp only [Option.some.injEq, Prod.mk.injEq] at H
        obtain ⟨rfl, rfl⟩ := H
        go_wp2
        go_ret2
        exact ⟨_, er, by (with_reducible repeat (first | apply Kd.R_alloc | apply Kd.R_drewN | apply Kd.R_drew)); exact Kd.R_mono HO_10.1 (fun _ hk => trivial), bq HB⟩

end Go.Proofs.Ytoneipoioiokcab.PFnHandsAhead
