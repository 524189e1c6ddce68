/- A part of the walk of FnHandsAhead: which Lean function each Go function comes to, and that the machine's call does so. Written by a program of this repo (wip/gen/xprint.py). -/
import Derived.Test.YtoneipoioiokcabPFnHandsAheadx0
import Derived.Test.YtoneipoioiokcabPFnHandsAheadx6
import Derived.Test.YtoneipoioiokcabPFnHandsAheadx8
import Derived.Test.YtoneipoioiokcabPFnHandsAheadx12
import Derived.Test.YtoneipoioiokcabPFnHandsAheadx13
namespace Go.Proofs.Ytoneipoioiokcab.PFnHandsAhead
open Go.RowKit Go.Proofs.YtoneipoioiokcabW.PrintWords Go.Proofs.YtoneipoioiokcabW.PrintLast Go.Proofs.YtoneipoioiokcabW.PrintMore
attribute [local go_sem] max2_int min2_int max_two min_two max_three min_three max_four min_four   -- for this text's walks alone
set_option linter.unusedVariables false
set_option linter.unusedSimpArgs false

/-! ### spec_AheadTimes: function 7 -/
def spec_AheadTimes.j0 : Nat → Bool → Int → Int → Int → Int → Int → Int → Int → Int → Option ((List (S25)) × Bool)
  | 0, _, _, _, _, _, _, _, _, _ => none
  | k + 1, x16, x344000, x344001, x344002, x345000, x345001, x345002, x346000, x346001 => if x16 = true then (some (([] : List (S25)), false)) else ((spec_meRelative.f k x344000 x344001 x344002 x345000 x345001 x345002).bind fun bt348 => ((spec_meTimes.f k bt348.1 bt348.2.1 bt348.2.2 x346000 x346001).bind fun bt351 => (some (bt351.1, bt351.2))))
def spec_AheadTimes.f (k : Nat) (a0_0 : Int) (a0_1 : Int) (a0_2 : Int) (a1_0 : Int) (a1_1 : Int) (a1_2 : Int) (a2_0 : Int) (a2_1 : Int) : Option ((List (S25)) × Bool) := (spec_meAsked.f k a0_0 a0_1 a0_2 a1_0 a1_1 a1_2).bind fun t346 => (if t346 = true then ((spec_mePlace.f k a2_0 a2_1).bind fun t347 => (spec_AheadTimes.j0 k (!t347) a0_0 a0_1 a0_2 a1_0 a1_1 a1_2 a2_0 a2_1)) else (spec_AheadTimes.j0 k true a0_0 a0_1 a0_2 a1_0 a1_1 a1_2 a2_0 a2_1))
theorem spec_AheadTimes.mono_l : ∀ k, (∀ y0 y1 y2 y3 y4 y5 y6 y7 y8, LeO (spec_AheadTimes.j0 k y0 y1 y2 y3 y4 y5 y6 y7 y8) (spec_AheadTimes.j0 (k + 1) y0 y1 y2 y3 y4 y5 y6 y7 y8))
  | 0 => fun _ _ _ _ _ _ _ _ _ r h => by simp [spec_AheadTimes.j0] at h
  | k + 1 => by
    have ih0 := spec_AheadTimes.mono_l k
    intro y0 y1 y2 y3 y4 y5 y6 y7 y8
    unfold spec_AheadTimes.j0
    repeat' first
    | (with_reducible exact ih0 _ _ _ _ _ _ _ _ _)
    | (with_reducible exact spec_meAsked.mono _ _ _ _ _ _ _)
    | (with_reducible exact spec_mePlace.mono _ _ _)
    | (with_reducible exact spec_meRelative.mono _ _ _ _ _ _ _)
    | (with_reducible exact spec_meTimes.mono _ _ _ _ _ _)
    | (with_reducible exact LeO.refl _)
    | (with_reducible exact LeO.none _)
    | (with_reducible refine LeO.ite ?_ ?_)
    | (with_reducible refine LeO.bind ?_ (fun _ => ?_))
    | exact ih0 _ _ _ _ _ _ _ _ _
    | exact spec_meAsked.mono _ _ _ _ _ _ _
    | exact spec_mePlace.mono _ _ _
    | exact spec_meRelative.mono _ _ _ _ _ _ _
    | exact spec_meTimes.mono _ _ _ _ _ _
    | exact LeO.none _
    | refine LeO.ite ?_ ?_
    | refine LeO.bind ?_ (fun _ => ?_)
theorem spec_AheadTimes.mono : ∀ a0 a1 a2 a3 a4 a5 a6 a7 k, LeO (spec_AheadTimes.f k a0 a1 a2 a3 a4 a5 a6 a7) (spec_AheadTimes.f (k + 1) a0 a1 a2 a3 a4 a5 a6 a7) := by
  intro a0 a1 a2 a3 a4 a5 a6 a7 k
  have ih0 := spec_AheadTimes.mono_l k
  unfold spec_AheadTimes.f
  repeat' first
      | (with_reducible exact ih0 _ _ _ _ _ _ _ _ _)
      | (with_reducible exact spec_meAsked.mono _ _ _ _ _ _ _)
      | (with_reducible exact spec_mePlace.mono _ _ _)
      | (with_reducible exact spec_meRelative.mono _ _ _ _ _ _ _)
      | (with_reducible exact spec_meTimes.mono _ _ _ _ _ _)
      | (with_reducible exact LeO.refl _)
      | (with_reducible exact LeO.none _)
      | (with_reducible refine LeO.ite ?_ ?_)
      | (with_reducible refine LeO.bind ?_ (fun _ => ?_))
      | exact ih0 _ _ _ _ _ _ _ _ _
      | exact spec_meAsked.mono _ _ _ _ _ _ _
      | exact spec_mePlace.mono _ _ _
      | exact spec_meRelative.mono _ _ _ _ _ _ _
      | exact spec_meTimes.mono _ _ _ _ _ _
      | exact LeO.none _
      | refine LeO.ite ?_ ?_
      | refine LeO.bind ?_ (fun _ => ?_)
def spec_AheadTimes.T3 : Bool × List (List Nat × List Nat) := (true, [([], []), ([], []), ([0, 1], [0, 1]), ([], []), ([2, 3, 2], [2, 3]), ([4], [4]), ([4], [4]), ([5, 4, 0, 1, 2, 3, 4, 5, 6], [5]), ([6, 7, 0, 1, 2, 3, 4, 5, 6, 7], [6])])
def spec_AheadTimes.B3 : List Nat := [0, 0, 3, 0, 15, 31, 31, 127, 255]
theorem spec_AheadTimes.tab3 : rtab .any (opsOf Try.f7 3) = spec_AheadTimes.T3 := by kernel_rfl
theorem spec_AheadTimes.bits3 : waitsOk spec_AheadTimes.T3.2 spec_AheadTimes.B3 = true := by kernel_rfl
set_option maxHeartbeats 8000000 in
set_option maxRecDepth 100000 in
theorem spec_AheadTimes.calls (k : Nat) (a0_0 : Int) (a0_1 : Int) (a0_2 : Int) (a1_0 : Int) (a1_1 : Int) (a1_2 : Int) (a2_0 : Int) (a2_1 : Int) (r1 : List (S25)) (r2 : Bool) (w : World) (h : spec_AheadTimes.f k a0_0 a0_1 a0_2 a1_0 a1_1 a1_2 a2_0 a2_1 = some (r1, r2)) :
    Calls Try.prog 7 #[.agg #[.int .i64 a0_0, .int .i64 a0_1, .int .i64 a0_2], .agg #[.int .i64 a1_0, .int .i64 a1_1, .int .i64 a1_2], .agg #[.int .i64 a2_0, .int .i64 a2_1]] w fun e w' => ∃ v0_ : Value, e = .returned (.tuple #[v0_, .bool r2]) ∧ Kd.R k25 25 w' w.heap.size (fun _ => True) v0_ r1 ∧ Below w.heap.size w w' := by
  have hu27 := Try.underlying27
  have hu25 := Try.underlying25
  have HB := Aside0.mk (Below.refl w.heap.size w)
  have H : ((spec_meAsked.f k a0_0 a0_1 a0_2 a1_0 a1_1 a1_2).bind fun t346 => (if t346 = true then ((spec_mePlace.f k a2_0 a2_1).bind fun t347 => (spec_AheadTimes.j0 k (!t347) a0_0 a0_1 a0_2 a1_0 a1_1 a1_2 a2_0 a2_1)) else (spec_AheadTimes.j0 k true a0_0 a0_1 a0_2 a1_0 a1_1 a1_2 a2_0 a2_1))) = some (r1, r2) := h
  clear h
  have HC4 := Aside0.mk H
  clear H
  go_enter Try.func7, Try.ntmps7
  go_upto_region 1 with (first | ((with_reducible refine gate_dst (N := 3) rfl ?_); refine be #[.int .i64 a0_0, .int .i64 a0_1, .int .i64 a0_2] 27 ?_; intro gb343 hg w5 hbox hb; have BK343 := Aside0.mk hbox; have GW343 := zs HB hg; have GE343 := zs HB hg; replace HB := zB HB hb; clear hb hbox hg) | ((with_reducible refine gate_dst (N := 4) rfl ?_); refine be #[.int .i64 a1_0, .int .i64 a1_1, .int .i64 a1_2] 27 ?_; intro gb344 hg w6 hbox hb; have BK344 := Aside0.mk hbox; have GW344 := zs HB hg; have GE344 := zs HB hg; have NB343_344 := zn BK343 hg; have NB344_343 := zm BK343 hg; replace BK343 := zb BK343 hb; replace HB := zB HB hb; clear hb hbox hg) | ((with_reducible refine gate_dst (N := 5) rfl ?_); refine be #[.int .i64 a2_0, .int .i64 a2_1] 25 ?_; intro gb345 hg w7 hbox hb; have BK345 := Aside0.mk hbox; have GW345 := zs HB hg; have GE345 := zs HB hg; have NB343_345 := zn BK343 hg; have NB345_343 := zm BK343 hg; have NB344_345 := zn BK344 hg; have NB345_344 := zm BK344 hg; replace BK343 := zb BK343 hb; replace BK344 := zb BK344 hb; replace HB := zB HB hb; clear hb hbox hg))
  (try simp only [Act.put, List.setIfInBounds_toArray, List.set_cons_zero, List.set_cons_succ])
  go_cut [16] (fun v16 wc => ∃ (kq : Nat) (x16_3 : Bool), v16 = .bool x16_3 ∧ Aside0 (spec_AheadTimes.j0 kq x16_3 a0_0 a0_1 a0_2 a1_0 a1_1 a1_2 a2_0 a2_1 = some (r1, r2)) ∧ Aside0 (kq ≤ k) ∧ Aside0 (wc.heap[gb343]? = some (.cells #[.int .i64 a0_0, .int .i64 a0_1, .int .i64 a0_2] 27 (0, 0))) ∧ Aside0 (wc.heap[gb344]? = some (.cells #[.int .i64 a1_0, .int .i64 a1_1, .int .i64 a1_2] 27 (0, 0))) ∧ Aside0 (wc.heap[gb345]? = some (.cells #[.int .i64 a2_0, .int .i64 a2_1] 25 (0, 0))) ∧ Aside0 (Below w.heap.size w wc))
  case first =>
    have H := HC4.1
    clear HC4
    replace H := Option.bind_eq_some_iff.mp H
    obtain ⟨t346, A80, H⟩ := H
    (try dsimp only at H)
    have A8 := Aside0.mk A80
    clear A80
    by_cases c9 : t346 = true
    · subst c9
      rw [if_pos rfl] at H
      replace H := Option.bind_eq_some_iff.mp H
      obtain ⟨t347, A100, H⟩ := H
      (try dsimp only at H)
      have A10 := Aside0.mk A100
      clear A100
      have H' := Aside0.mk H
      clear H
      have hnb11 := NB343_344.1
      have hnc11 := NB344_343.1
      have hnb12 := NB343_345.1
      have hnc12 := NB345_343.1
      obtain ⟨hcz13_0, hcz13_1, hcz13_2, hfz13_0, hfz13_1, hfz13_2⟩ := zc3 BK343
      have hnb14 := NB344_345.1
      have hnc14 := NB345_344.1
      obtain ⟨hcz15_0, hcz15_1, hcz15_2, hfz15_0, hfz15_1, hfz15_2⟩ := zc3 BK344
      go_wp2_with (first | ((with_reducible refine gate_callee (f := 30) rfl ?_); refine gl (some 10) Try.func30 #[.agg #[.int .i64 a0_0, .int .i64 a0_1, .int .i64 a0_2], .agg #[.int .i64 a1_0, .int .i64 a1_1, .int .i64 a1_2]] ?_; (with_reducible refine (spec_meAsked.calls k a0_0 a0_1 a0_2 a1_0 a1_1 a1_2 true _ A8.1).mono ?_); rintro e w16 ⟨rfl, hb⟩; refine ⟨_, rfl, ?_⟩; replace BK343 := zb BK343 hb; replace BK344 := zb BK344 hb; replace BK345 := zb BK345 hb; replace HB := zB HB hb; clear hb; obtain ⟨hcz17_0, hcz17_1, hfz17_0, hfz17_1⟩ := zc2 BK345) | (go_at_call 31; (with_reducible refine (spec_mePlace.calls k a2_0 a2_1 t347 _ A10.1).mono ?_); rintro e w18 ⟨rfl, hb⟩; replace BK343 := zb BK343 hb; replace BK344 := zb BK344 hb; replace BK345 := zb BK345 hb; replace HB := zB HB hb; clear hb))
      go_meet
      case rel => exact ⟨_, (!t347), ew, H', le_, ⟨bk BK343⟩, ⟨bk BK344⟩, ⟨bk BK345⟩, ⟨bq HB⟩⟩
    replace c9 := Bool.eq_false_iff.mpr c9
    subst c9
    rw [if_neg (show ¬ (false = true) by decide)] at H
    have H' := Aside0.mk H
    clear H
    have hnb19 := NB343_344.1
    have hnc19 := NB344_343.1
    have hnb20 := NB343_345.1
    have hnc20 := NB345_343.1
    obtain ⟨hcz21_0, hcz21_1, hcz21_2, hfz21_0, hfz21_1, hfz21_2⟩ := zc3 BK343
    have hnb22 := NB344_345.1
    have hnc22 := NB345_344.1
    obtain ⟨hcz23_0, hcz23_1, hcz23_2, hfz23_0, hfz23_1, hfz23_2⟩ := zc3 BK344
    go_wp2_with (first | ((with_reducible refine gate_callee (f := 30) rfl ?_); refine gl (some 10) Try.func30 #[.agg #[.int .i64 a0_0, .int .i64 a0_1, .int .i64 a0_2], .agg #[.int .i64 a1_0, .int .i64 a1_1, .int .i64 a1_2]] ?_; (with_reducible refine (spec_meAsked.calls k a0_0 a0_1 a0_2 a1_0 a1_1 a1_2 false _ A8.1).mono ?_); rintro e w24 ⟨rfl, hb⟩; refine ⟨_, rfl, ?_⟩; replace BK343 := zb BK343 hb; replace BK344 := zb BK344 hb; replace BK345 := zb BK345 hb; replace HB := zB HB hb; clear hb))
    go_meet
    case rel => exact ⟨_, (true), ew, H', le_, ⟨bk BK343⟩, ⟨bk BK344⟩, ⟨bk BK345⟩, ⟨bq HB⟩⟩
  clear HC4
  obtain ⟨kq, x16_3, rfl, HA, HJ3, BK343, BK344, BK345, HB⟩ := hcut
  cases kq with
  | zero => exact absurd HA.1 (by simp [spec_AheadTimes.j0])
  | succ kj3 =>
    have H := HA.1
    clear HA
    simp only [spec_AheadTimes.j0] at H
    by_cases c25 : x16_3 = true
    · subst c25
      rw [if_pos rfl] at H
      simp only [Option.some.injEq, Prod.mk.injEq] at H
      obtain ⟨rfl, rfl⟩ := H
      go_wp2
      go_ret2
      exact ⟨_, er, by first | exact Kd.R_nil _ _ _ _ _ | exact Kd.N_nil _ _ _ _ _ | exact Kd.V_nil _ _ _ _ _ | exact Kd.Q_nil _ _ _ _ _ | exact Kd.S_nil _ _ _ _ _, bq HB⟩
    replace c25 := Bool.eq_false_iff.mpr c25
    subst c25
    rw [if_neg (show ¬ (false = true) by decide)] at H
    replace H := Option.bind_eq_some_iff.mp H
    obtain ⟨⟨t348, t349, t350⟩, A260, H⟩ := H
    (try dsimp only at H)
    have A26 := Aside0.mk A260
    clear A260
    replace H := Option.bind_eq_some_iff.mp H
    obtain ⟨⟨t351, t354⟩, A270, H⟩ := H
    (try dsimp only at H)
    have A27 := Aside0.mk A270
    clear A270
    simp only [Option.some.injEq, Prod.mk.injEq] at H
    obtain ⟨rfl, rfl⟩ := H
    try go_wp2
    replace BK343 := Aside0.mk (blk_drew BK343.1)
    replace BK344 := Aside0.mk (blk_drew BK344.1)
    replace BK345 := Aside0.mk (blk_drew BK345.1)
    replace HB := Aside0.mk (below_drew1 HB.1)
    refine start_ (n := 9) (S := fun w' => w'.cell? ⟨gb343, 0, none⟩ = some (.int .i64 a0_0) ∧ w'.cell? ⟨gb343, 1, none⟩ = some (.int .i64 a0_1) ∧ w'.cell? ⟨gb343, 2, none⟩ = some (.int .i64 a0_2) ∧ w'.cell? ⟨gb344, 0, none⟩ = some (.int .i64 a1_0) ∧ w'.cell? ⟨gb344, 1, none⟩ = some (.int .i64 a1_1) ∧ w'.cell? ⟨gb344, 2, none⟩ = some (.int .i64 a1_2) ∧ w'.cell? ⟨gb345, 0, none⟩ = some (.int .i64 a2_0) ∧ w'.cell? ⟨gb345, 1, none⟩ = some (.int .i64 a2_1)) (ds := []) (bs 9 0) (by kernel_rfl) rfl rfl ⟨(blk_cell BK343.1 0).trans rfl, (blk_cell BK343.1 1).trans rfl, (blk_cell BK343.1 2).trans rfl, (blk_cell BK344.1 0).trans rfl, (blk_cell BK344.1 1).trans rfl, (blk_cell BK344.1 2).trans rfl, (blk_cell BK345.1 0).trans rfl, (blk_cell BK345.1 1).trans rfl⟩ (fun hHeld => ?_); refine with_tabW spec_AheadTimes.tab3 spec_AheadTimes.bits3 (fun HT_ HW_ => ?_)
    generalize wc.drew = w28 at BK343 BK344 BK345 HB hHeld ⊢
    refine tk 0 17 HT_ HW_ hHeld rfl rfl (bs 9 1) ?_
    refine tk 1 18 HT_ HW_ hHeld rfl rfl (bs 9 3) ?_
    refine tk 3 20 HT_ HW_ hHeld rfl rfl (bs 9 11) ?_
    refine one_ (i := 2) (N := some 19) (bs 9 15) rfl rfl (one_of HT_.1 (by kernel_rfl)) (by decide) (fun K hK => ?_)
    refine gs Try.func33 #[.agg #[.int .i64 a0_0, .int .i64 a0_1, .int .i64 a0_2], .agg #[.int .i64 a1_0, .int .i64 a1_1, .int .i64 a1_2]] ?_
    with_reducible refine (spec_meRelative.calls kj3 a0_0 a0_1 a0_2 a1_0 a1_1 a1_2 t348 t349 t350 _ A26.1).mono ?_
    rintro e w29 ⟨rfl, hb⟩
    refine ⟨_, rfl, ?_⟩
    replace BK343 := zb BK343 hb
    replace BK344 := zb BK344 hb
    replace BK345 := zb BK345 hb
    replace HB := zB HB hb
    (try clear hb)
    (try clear hb2)
    (try clear hk)
    (try clear hi)
    refine hK.out _ _ ⟨(blk_cell BK343.1 0).trans rfl, (blk_cell BK343.1 1).trans rfl, (blk_cell BK343.1 2).trans rfl, (blk_cell BK344.1 0).trans rfl, (blk_cell BK344.1 1).trans rfl, (blk_cell BK344.1 2).trans rfl, (blk_cell BK345.1 0).trans rfl, (blk_cell BK345.1 1).trans rfl⟩ (fun hHeld => ?_)
    clear hK K
    refine norm_ (aq 19) ?_
    refine one_ (i := 4) (N := some 21) (bs 9 31) rfl rfl (one_of HT_.1 (by kernel_rfl)) (by decide) (fun K hK => ?_)
    refine gs Try.func32 #[.agg #[.int .i64 t348, .int .i64 t349, .int .i64 t350], .agg #[.int .i64 a2_0, .int .i64 a2_1]] ?_
    with_reducible refine (spec_meTimes.calls kj3 t348 t349 t350 a2_0 a2_1 t351 t354 _ A27.1).mono ?_
    rintro e w30 ⟨v352, rfl, ho0, hb⟩
    refine ⟨_, rfl, ?_⟩
    have HO353 := Aside0.mk (Kd.R_lower (Kd.R_newB ho0 (g := gb345) (o := .cells #[.int .i64 a2_0, .int .i64 a2_1] 25 (0, 0)) (bk BK345)) (below_size (bq HB)))
    replace BK343 := zb BK343 hb
    replace BK344 := zb BK344 hb
    replace BK345 := zb BK345 hb
    replace HB := zB HB hb
    (try clear hb)
    (try clear hb2)
    (try clear hk)
    (try clear hi)
    (try clear ho0)
    refine hK.out _ _ ⟨(blk_cell BK343.1 0).trans rfl, (blk_cell BK343.1 1).trans rfl, (blk_cell BK343.1 2).trans rfl, (blk_cell BK344.1 0).trans rfl, (blk_cell BK344.1 1).trans rfl, (blk_cell BK344.1 2).trans rfl, (blk_cell BK345.1 0).trans rfl, (blk_cell BK345.1 1).trans rfl⟩ (fun hHeld => ?_)
    clear hK K
    refine norm_ (aq 21) ?_
    refine pu 5 22 HT_ rfl rfl (bs 9 63) ?_
    refine pu 6 23 HT_ rfl rfl (bs 9 127) ?_
    refine pu 7 6 HT_ rfl rfl (bs 9 255) ?_
    refine pu 8 7 HT_ rfl rfl (bs 9 511) ?_
    refine done_ (done_of HT_.1 (by kernel_rfl)) ?_
    try go_wp2
    go_ret2
    exact ⟨_, er, by (with_reducible repeat (first | apply Kd.R_alloc | apply Kd.R_drewN | apply Kd.R_drew)); exact Kd.R_mono HO353.1 (fun _ hk => trivial), bq HB⟩

/-! ### impl_ifTurn: function 36 -/
def impl_ifTurn.f (k : Nat) (a0_0 : Int) (a0_1 : Int) : Option (Int × Int × Bool) := (impl_IsTurn.f k a0_0 a0_1).bind fun t357 => (if t357 = true then (some (a0_0, a0_1, true)) else (some (0, 0, false)))
theorem impl_ifTurn.mono : ∀ a0 a1 k, LeO (impl_ifTurn.f k a0 a1) (impl_ifTurn.f (k + 1) a0 a1) := by
  intro a0 a1 k
  unfold impl_ifTurn.f
  repeat' first
      | (with_reducible exact impl_IsTurn.mono _ _ _)
      | (with_reducible exact LeO.refl _)
      | (with_reducible exact LeO.none _)
      | (with_reducible refine LeO.ite ?_ ?_)
      | (with_reducible refine LeO.bind ?_ (fun _ => ?_))
      | exact impl_IsTurn.mono _ _ _
      | exact LeO.none _
      | refine LeO.ite ?_ ?_
      | refine LeO.bind ?_ (fun _ => ?_)
set_option maxHeartbeats 8000000 in
set_option maxRecDepth 100000 in
theorem impl_ifTurn.calls (k : Nat) (a0_0 : Int) (a0_1 : Int) (r1 : Int) (r2 : Int) (r3 : Bool) (w : World) (h : impl_ifTurn.f k a0_0 a0_1 = some (r1, r2, r3)) :
    Calls Try.prog 36 #[.agg #[.int .i64 a0_0, .int .i64 a0_1]] w fun e w' => e = .returned (.tuple #[.agg #[.int .i64 r1, .int .i64 r2], .bool r3]) ∧ Below w.heap.size w w' := by
  have hu25 := Try.underlying25
  have HB := Aside0.mk (Below.refl w.heap.size w)
  have H : ((impl_IsTurn.f k a0_0 a0_1).bind fun t357 => (if t357 = true then (some (a0_0, a0_1, true)) else (some (0, 0, false)))) = some (r1, r2, r3) := h
  clear h
  replace H := Option.bind_eq_some_iff.mp H
  obtain ⟨t357, A20, H⟩ := H
  (try dsimp only at H)
  have A2 := Aside0.mk A20
  clear A20
  by_cases c3 : t357 = true
  · subst c3
    rw [if_pos rfl] at H
    simp only [Option.some.injEq, Prod.mk.injEq] at H
    obtain ⟨rfl, rfl, rfl⟩ := H
    go_enter Try.func36, Try.ntmps36
    go_wp2_with (first | ((with_reducible refine gate_dst (N := 1) rfl ?_); refine be #[.int .i64 a0_0, .int .i64 a0_1] 25 ?_; intro gb355 hg w4 hbox hb; have BK355 := Aside0.mk hbox; have GW355 := zs HB hg; have GE355 := zs HB hg; replace HB := zB HB hb; clear hb hbox hg) | ((with_reducible refine gate_dst (N := 2) rfl ?_); refine be #[.int .i64 0, .int .i64 0] 25 ?_; intro gb356 hg w5 hbox hb; have BK356 := Aside0.mk hbox; have GW356 := zs HB hg; have GE356 := zs HB hg; have NB355_356 := zn BK355 hg; have NB356_355 := zm BK355 hg; replace BK355 := zb BK355 hb; replace HB := zB HB hb; clear hb hbox hg; have hnb6 := NB355_356.1; have hnc6 := NB356_355.1; obtain ⟨hcz7_0, hcz7_1, hfz7_0, hfz7_1⟩ := zc2 BK355) | ((with_reducible refine gate_callee (f := 35) rfl ?_); refine gl (some 5) Try.func35 #[.agg #[.int .i64 a0_0, .int .i64 a0_1]] ?_; (with_reducible refine (impl_IsTurn.calls k a0_0 a0_1 true _ A2.1).mono ?_); rintro e w8 ⟨rfl, hb⟩; refine ⟨_, rfl, ?_⟩; replace BK355 := zb BK355 hb; replace BK356 := zb BK356 hb; replace HB := zB HB hb; clear hb; obtain ⟨hcz9_0, hcz9_1, hfz9_0, hfz9_1⟩ := zc2 BK355; obtain ⟨hcz10_0, hcz10_1, hfz10_0, hfz10_1⟩ := zc2 BK356))
    refine bodyPost_ret (results_ct rfl _ _ gb356 25 #[.int .i64 a0_0, .int .i64 a0_1] (0, 0) _ rfl (bk BK356) Try.underlying25 rfl (by kernel_rfl)) rfl ?_
    exact ⟨er, bq HB⟩
  replace c3 := Bool.eq_false_iff.mpr c3
  subst c3
  rw [if_neg (show ¬ (false = true) by decide)] at H
  simp only [Option.some.injEq, Prod.mk.injEq] at H
  obtain ⟨rfl, rfl, rfl⟩ := H
  go_enter Try.func36, Try.ntmps36
  go_wp2_with (first | ((with_reducible refine gate_dst (N := 1) rfl ?_); refine be #[.int .i64 a0_0, .int .i64 a0_1] 25 ?_; intro gb355 hg w11 hbox hb; have BK355 := Aside0.mk hbox; have GW355 := zs HB hg; have GE355 := zs HB hg; replace HB := zB HB hb; clear hb hbox hg) | ((with_reducible refine gate_dst (N := 2) rfl ?_); refine be #[.int .i64 0, .int .i64 0] 25 ?_; intro gb356 hg w12 hbox hb; have BK356 := Aside0.mk hbox; have GW356 := zs HB hg; have GE356 := zs HB hg; have NB355_356 := zn BK355 hg; have NB356_355 := zm BK355 hg; replace BK355 := zb BK355 hb; replace HB := zB HB hb; clear hb hbox hg; have hnb13 := NB355_356.1; have hnc13 := NB356_355.1; obtain ⟨hcz14_0, hcz14_1, hfz14_0, hfz14_1⟩ := zc2 BK355) | ((with_reducible refine gate_callee (f := 35) rfl ?_); refine gl (some 5) Try.func35 #[.agg #[.int .i64 a0_0, .int .i64 a0_1]] ?_; (with_reducible refine (impl_IsTurn.calls k a0_0 a0_1 false _ A2.1).mono ?_); rintro e w15 ⟨rfl, hb⟩; refine ⟨_, rfl, ?_⟩; replace BK355 := zb BK355 hb; replace BK356 := zb BK356 hb; replace HB := zB HB hb; clear hb; obtain ⟨hcz16_0, hcz16_1, hfz16_0, hfz16_1⟩ := zc2 BK356))
  refine bodyPost_ret (results_ct rfl _ _ gb356 25 #[.int .i64 0, .int .i64 0] (0, 0) _ rfl (bk BK356) Try.underlying25 rfl (by kernel_rfl)) rfl ?_
  exact ⟨er, bq HB⟩

/-! ### impl_Turn_plus: function 59 -/
def impl_Turn_plus.f (k : Nat) (a0_0 : Int) (a0_1 : Int) (a1_0 : Int) (a1_1 : Int) : Option (Int × Int) := (impl_part.f k (wrap64 ((wrap64 (a0_0 * a1_1)) + (wrap64 (a1_0 * a0_1)))) (wrap64 (a0_1 * a1_1))).bind fun bt361 => (some (bt361.1, bt361.2))
theorem impl_Turn_plus.mono : ∀ a0 a1 a2 a3 k, LeO (impl_Turn_plus.f k a0 a1 a2 a3) (impl_Turn_plus.f (k + 1) a0 a1 a2 a3) := by
  intro a0 a1 a2 a3 k
  unfold impl_Turn_plus.f
  repeat' first
      | (with_reducible exact impl_part.mono _ _ _)
      | (with_reducible exact LeO.refl _)
      | (with_reducible exact LeO.none _)
      | (with_reducible refine LeO.ite ?_ ?_)
      | (with_reducible refine LeO.bind ?_ (fun _ => ?_))
      | exact impl_part.mono _ _ _
      | exact LeO.none _
      | refine LeO.ite ?_ ?_
      | refine LeO.bind ?_ (fun _ => ?_)
set_option maxHeartbeats 8000000 in
set_option maxRecDepth 100000 in
theorem impl_Turn_plus.calls (k : Nat) (a0_0 : Int) (a0_1 : Int) (a1_0 : Int) (a1_1 : Int) (r1 : Int) (r2 : Int) (w : World) (h : impl_Turn_plus.f k a0_0 a0_1 a1_0 a1_1 = some (r1, r2)) :
    Calls Try.prog 59 #[.agg #[.int .i64 a0_0, .int .i64 a0_1], .agg #[.int .i64 a1_0, .int .i64 a1_1]] w fun e w' => e = .returned (.agg #[.int .i64 r1, .int .i64 r2]) ∧ Below w.heap.size w w' := by
  have hu25 := Try.underlying25
  have HB := Aside0.mk (Below.refl w.heap.size w)
  have H : ((impl_part.f k (wrap64 ((wrap64 (a0_0 * a1_1)) + (wrap64 (a1_0 * a0_1)))) (wrap64 (a0_1 * a1_1))).bind fun bt361 => (some (bt361.1, bt361.2))) = some (r1, r2) := h
  clear h
  replace H := Option.bind_eq_some_iff.mp H
  obtain ⟨⟨t361, t362⟩, A30, H⟩ := H
  (try dsimp only at H)
  have A3 := Aside0.mk A30
  clear A30
  simp only [Option.some.injEq, Prod.mk.injEq] at H
  obtain ⟨rfl, rfl⟩ := H
  go_enter Try.func59, Try.ntmps59
  go_wp2_with (first | ((with_reducible refine gate_dst (N := 2) rfl ?_); refine be #[.int .i64 a0_0, .int .i64 a0_1] 25 ?_; intro gb358 hg w4 hbox hb; have BK358 := Aside0.mk hbox; have GW358 := zs HB hg; have GE358 := zs HB hg; replace HB := zB HB hb; clear hb hbox hg) | ((with_reducible refine gate_dst (N := 3) rfl ?_); refine be #[.int .i64 a1_0, .int .i64 a1_1] 25 ?_; intro gb359 hg w5 hbox hb; have BK359 := Aside0.mk hbox; have GW359 := zs HB hg; have GE359 := zs HB hg; have NB358_359 := zn BK358 hg; have NB359_358 := zm BK358 hg; replace BK358 := zb BK358 hb; replace HB := zB HB hb; clear hb hbox hg) | ((with_reducible refine gate_dst (N := 4) rfl ?_); refine be #[.int .i64 0, .int .i64 0] 25 ?_; intro gb360 hg w6 hbox hb; have BK360 := Aside0.mk hbox; have GW360 := zs HB hg; have GE360 := zs HB hg; have NB358_360 := zn BK358 hg; have NB360_358 := zm BK358 hg; have NB359_360 := zn BK359 hg; have NB360_359 := zm BK359 hg; replace BK358 := zb BK358 hb; replace BK359 := zb BK359 hb; replace HB := zB HB hb; clear hb hbox hg; have hnb7 := NB358_359.1; have hnc7 := NB359_358.1; have hnb8 := NB358_360.1; have hnc8 := NB360_358.1; obtain ⟨hcz9_0, hcz9_1, hfz9_0, hfz9_1⟩ := zc2 BK358; have hnb10 := NB359_360.1; have hnc10 := NB360_359.1; obtain ⟨hcz11_0, hcz11_1, hfz11_0, hfz11_1⟩ := zc2 BK359) | ((with_reducible refine gate_callee (f := 73) rfl ?_); refine gl (some 21) Try.func73 #[.int .i64 (wrap64 ((wrap64 (a0_0 * a1_1)) + (wrap64 (a1_0 * a0_1)))), .int .i64 (wrap64 (a0_1 * a1_1))] ?_; (with_reducible refine (impl_part.calls k (wrap64 ((wrap64 (a0_0 * a1_1)) + (wrap64 (a1_0 * a0_1)))) (wrap64 (a0_1 * a1_1)) t361 t362 _ A3.1).mono ?_); rintro e w12 ⟨rfl, hb⟩; refine ⟨_, rfl, ?_⟩; replace BK358 := zb BK358 hb; replace BK359 := zb BK359 hb; replace BK360 := zb BK360 hb; replace HB := zB HB hb; clear hb; obtain ⟨hcz13_0, hcz13_1, hfz13_0, hfz13_1⟩ := zc2 BK360))
  refine bodyPost_ret (results_cell_row rfl _ _ gb360 25 #[.int .i64 t361, .int .i64 t362] (0, 0) _ rfl (bk BK360) Try.underlying25 rfl (by kernel_rfl)) rfl ?_
  exact ⟨er, bq HB⟩

end Go.Proofs.Ytoneipoioiokcab.PFnHandsAhead
