/- A part of the walk of FnClocksAgree: which Lean function each Go function comes to, and that the machine's call does so. Written by a program of this repo (wip/gen/xprint.py). -/
import Derived.Test.YtejlandhfnnkiaaGreatDoorPFnClocksAgreex0
import Derived.Test.YtejlandhfnnkiaaGreatDoorPFnClocksAgreex4
import Derived.Test.YtejlandhfnnkiaaGreatDoorPFnClocksAgreex11
namespace Go.Proofs.YtejlandhfnnkiaaGreatDoor.PFnClocksAgree
open Go.RowKit Go.Proofs.YtejlandhfnnkiaaGreatDoorW.PrintWords Go.Proofs.YtejlandhfnnkiaaGreatDoorW.PrintLast Go.Proofs.YtejlandhfnnkiaaGreatDoorW.PrintMore
attribute [local go_sem] max2_int min2_int max_two min_two max_three min_three max_four min_four   -- for this text's walks alone
set_option linter.unusedVariables false
set_option linter.unusedSimpArgs false

/-! ### spec_drMake: function 41 -/
def spec_drMake.f (k : Nat) (a0 : Int) (a1 : Int) : Option (Int × Int × Bool) := (spec_diCommon.f k a0 a1).bind fun t300 => (if t300 = 0 then (none) else ((spec_drGood.f k (wrap64 (Int.tdiv a0 t300)) (wrap64 (Int.tdiv a1 t300))).bind fun t302 => (if t302 = true then (some (wrap64 (Int.tdiv a0 t300), wrap64 (Int.tdiv a1 t300), true)) else (some (0, 0, false)))))
theorem spec_drMake.mono : ∀ a0 a1 k, LeO (spec_drMake.f k a0 a1) (spec_drMake.f (k + 1) a0 a1) := by
  intro a0 a1 k
  unfold spec_drMake.f
  repeat' first
      | (with_reducible exact spec_diCommon.mono _ _ _)
      | (with_reducible exact spec_drGood.mono _ _ _)
      | (with_reducible exact LeO.refl _)
      | (with_reducible exact LeO.none _)
      | (with_reducible refine LeO.ite ?_ ?_)
      | (with_reducible refine LeO.bind ?_ (fun _ => ?_))
      | exact spec_diCommon.mono _ _ _
      | exact spec_drGood.mono _ _ _
      | exact LeO.none _
      | refine LeO.ite ?_ ?_
      | refine LeO.bind ?_ (fun _ => ?_)
def spec_drMake.T2 : Bool × List (List Nat × List Nat) := (true, [([], []), ([], []), ([0, 1], [0, 1]), ([], []), ([], []), ([3, 4], [3, 4]), ([2, 5], [2, 5]), ([], []), ([7, 6, 0, 1, 2, 3, 4, 5, 6, 7], [6, 7])])
def spec_drMake.B2 : List Nat := [0, 0, 3, 0, 0, 24, 63, 0, 255]
theorem spec_drMake.tab2 : rtab .any (opsOf Tryz.f41 2) = spec_drMake.T2 := by kernel_rfl
theorem spec_drMake.bits2 : waitsOk spec_drMake.T2.2 spec_drMake.B2 = true := by kernel_rfl
set_option maxHeartbeats 8000000 in
set_option maxRecDepth 100000 in
theorem spec_drMake.calls (k : Nat) (a0 : Int) (a1 : Int) (r1 : Int) (r2 : Int) (r3 : Bool) (w : World) (h : spec_drMake.f k a0 a1 = some (r1, r2, r3)) :
    Calls Tryz.prog 41 #[.int .i64 a0, .int .i64 a1] w fun e w' => e = .returned (.tuple #[.agg #[.int .i64 r1, .int .i64 r2], .bool r3]) ∧ Below w.heap.size w w' := by
  have hu30 := Tryz.underlying30
  have HB := Aside0.mk (Below.refl w.heap.size w)
  have H : ((spec_diCommon.f k a0 a1).bind fun t300 => (if t300 = 0 then (none) else ((spec_drGood.f k (wrap64 (Int.tdiv a0 t300)) (wrap64 (Int.tdiv a1 t300))).bind fun t302 => (if t302 = true then (some (wrap64 (Int.tdiv a0 t300), wrap64 (Int.tdiv a1 t300), true)) else (some (0, 0, false)))))) = some (r1, r2, r3) := h
  clear h
  replace H := Option.bind_eq_some_iff.mp H
  obtain ⟨t300, A30, H⟩ := H
  (try dsimp only at H)
  have A3 := Aside0.mk A30
  clear A30
  by_cases c4 : t300 = 0
  · rw [if_pos c4] at H
    exact absurd H (by simp)
  rw [if_neg c4] at H
  have c4b0 : (t300 == 0) = false := beq_eq_false_iff_ne.mpr c4
  have c4b1 : (t300 != 0) = true := bne_iff_ne.mpr c4
  replace H := Option.bind_eq_some_iff.mp H
  obtain ⟨t302, A50, H⟩ := H
  (try dsimp only at H)
  have A5 := Aside0.mk A50
  clear A50
  by_cases c6 : t302 = true
  · subst c6
    rw [if_pos rfl] at H
    simp only [Option.some.injEq, Prod.mk.injEq] at H
    obtain ⟨rfl, rfl, rfl⟩ := H
    go_enter Tryz.func41, Tryz.ntmps41
    try go_wp2_with (first | ((with_reducible refine gate_dst (N := 4) rfl ?_); refine be #[.int .i64 0, .int .i64 0] 30 ?_; intro gb299 hg w7 hbox hb; have BK299 := Aside0.mk hbox; have GW299 := zs HB hg; have GE299 := zs HB hg; replace HB := zB HB hb; clear hb hbox hg) | ((with_reducible refine gate_callee (f := 54) rfl ?_); refine gl (some 10) Tryz.func54 #[.int .i64 a0, .int .i64 a1] ?_; (with_reducible refine (spec_diCommon.calls k a0 a1 t300 _ A3.1).mono ?_); rintro e w' ⟨rfl, ⟨nd, rfl⟩⟩; refine ⟨_, rfl, ?_⟩; (try (rw [drewN_self w7]; generalize hq_ : World.drewN w7 _ = w7; have n0_ : Aside0 (w7.heap[gb299]? = some (.cells #[.int .i64 0, .int .i64 0] 30 (0, 0))) := ⟨by rw [← hq_]; exact (bk BK299)⟩; have n1_ : Aside0 (Below w.heap.size w w7) := ⟨by rw [← hq_]; exact (bq HB)⟩; clear BK299 HB hq_; have BK299 := n0_; have HB := n1_; clear n0_ n1_))))
    replace BK299 := Aside0.mk (blk_drew BK299.1)
    replace HB := Aside0.mk (below_drew1 HB.1)
    refine start_ (n := 9) (S := fun w' => True) (ds := []) (bs 9 0) (by kernel_rfl) rfl rfl trivial (fun hHeld => ?_); refine with_tabW spec_drMake.tab2 spec_drMake.bits2 (fun HT_ HW_ => ?_)
    generalize w7.drew = w8 at BK299 HB hHeld ⊢
    refine pu 0 11 HT_ rfl rfl (bs 9 1) ?_
    refine pu 1 12 HT_ rfl rfl (bs 9 3) ?_
    refine pu 2 13 HT_ rfl rfl (bs 9 7) ?_
    refine pu 3 14 HT_ rfl rfl (bs 9 15) ?_
    refine pu 4 15 HT_ rfl rfl (bs 9 31) ?_
    refine pu 5 16 HT_ rfl rfl (bs 9 63) ?_
    refine pu 6 17 HT_ rfl rfl (bs 9 127) ?_
    refine one_ (i := 7) (N := some 7) (bs 9 255) rfl rfl (one_of HT_.1 (by kernel_rfl)) (by decide) (fun K hK => ?_)
    refine bp #[.int .i64 0, .int .i64 0] 30 ?_
    intro gb301 hg w9 hbox hb
    have BK301 := Aside0.mk hbox
    have GW301 := zs HB hg
    have GE301 := zs HB hg
    have NB299_301 := zn BK299 hg
    have NB301_299 := zm BK299 hg
    replace BK299 := zb BK299 hb
    replace HB := zB HB hb
    clear hb hbox hg
    refine hK.out _ _ trivial (fun hHeld => ?_)
    clear hK K
    refine norm_ (aq 7) ?_
    refine one_ (i := 8) (N := none) (bs 9 511) rfl rfl (one_of HT_.1 (by kernel_rfl)) (by decide) (fun K hK => ?_)
    have hs10 : w9.cell? ⟨gb301, 0, none⟩ = some (.int .i64 0) := (blk_cell BK301.1 0).trans rfl
    have hfs10 := blk_frozen BK301.1 0
    have hns10_0 := NB299_301.1
    have hms10_0 := NB301_299.1
    have hs11 : w9.cell? ⟨gb301, 1, none⟩ = some (.int .i64 0) := (blk_cell BK301.1 1).trans rfl
    have hfs11 := blk_frozen BK301.1 1
    have hns11_0 := NB299_301.1
    have hms11_0 := NB301_299.1
    refine skip_ (w1 := ?_) (by rfl) rfl ?_ ?_
    rotate_left
    · go_simp
      rfl
    refine hK.out _ _ trivial (fun hHeld => ?_)
    clear hK K
    refine done_ (done_of HT_.1 (by kernel_rfl)) ?_
    have hnb12 := NB301_299.1
    have hnc12 := NB299_301.1
    obtain ⟨hcz13_0, hcz13_1, hfz13_0, hfz13_1⟩ := zc2 BK301
    try go_wp2_with (first | ((with_reducible refine gate_callee (f := 53) rfl ?_); refine gl (some 19) Tryz.func53 #[.agg #[.int .i64 (wrap64 (Int.tdiv a0 t300)), .int .i64 (wrap64 (Int.tdiv a1 t300))]] ?_; (with_reducible refine (spec_drGood.calls k (wrap64 (Int.tdiv a0 t300)) (wrap64 (Int.tdiv a1 t300)) true _ A5.1).mono ?_); rintro e w14 ⟨rfl, hb⟩; refine ⟨_, rfl, ?_⟩; replace BK299 := zy (o' := .cells #[.int .i64 0, .int .i64 0] 30 (0, 0)) BK299 hb; replace BK301 := zy (o' := .cells #[.int .i64 (wrap64 (Int.tdiv a0 t300)), .int .i64 (wrap64 (Int.tdiv a1 t300))] 30 (0, 0)) BK301 hb; replace HB := zB HB hb; clear hb; obtain ⟨hcz15_0, hcz15_1, hfz15_0, hfz15_1⟩ := zc2 BK301; obtain ⟨hcz16_0, hcz16_1, hfz16_0, hfz16_1⟩ := zc2 BK299))
    refine bodyPost_ret (results_ct rfl _ _ gb299 30 #[.int .i64 (wrap64 (Int.tdiv a0 t300)), .int .i64 (wrap64 (Int.tdiv a1 t300))] (0, 0) _ rfl (bk BK299) Tryz.underlying30 rfl (by kernel_rfl)) rfl ?_
    exact ⟨er, bq HB⟩
  replace c6 := Bool.eq_false_iff.mpr c6
  subst c6
  rw [if_neg (show ¬ (false = true) by decide)] at H
  simp only [Option.some.injEq, Prod.mk.injEq] at H
  obtain ⟨rfl, rfl, rfl⟩ := H
  go_enter Tryz.func41, Tryz.ntmps41
  try go_wp2_with (first | ((with_reducible refine gate_dst (N := 4) rfl ?_); refine be #[.int .i64 0, .int .i64 0] 30 ?_; intro gb299 hg w17 hbox hb; have BK299 := Aside0.mk hbox; have GW299 := zs HB hg; have GE299 := zs HB hg; replace HB := zB HB hb; clear hb hbox hg) | ((with_reducible refine gate_callee (f := 54) rfl ?_); refine gl (some 10) Tryz.func54 #[.int .i64 a0, .int .i64 a1] ?_; (with_reducible refine (spec_diCommon.calls k a0 a1 t300 _ A3.1).mono ?_); rintro e w' ⟨rfl, ⟨nd, rfl⟩⟩; refine ⟨_, rfl, ?_⟩; (try (rw [drewN_self w17]; generalize hq_ : World.drewN w17 _ = w17; have n0_ : Aside0 (w17.heap[gb299]? = some (.cells #[.int .i64 0, .int .i64 0] 30 (0, 0))) := ⟨by rw [← hq_]; exact (bk BK299)⟩; have n1_ : Aside0 (Below w.heap.size w w17) := ⟨by rw [← hq_]; exact (bq HB)⟩; clear BK299 HB hq_; have BK299 := n0_; have HB := n1_; clear n0_ n1_))))
  replace BK299 := Aside0.mk (blk_drew BK299.1)
  replace HB := Aside0.mk (below_drew1 HB.1)
  refine start_ (n := 9) (S := fun w' => True) (ds := []) (bs 9 0) (by kernel_rfl) rfl rfl trivial (fun hHeld => ?_); refine with_tabW spec_drMake.tab2 spec_drMake.bits2 (fun HT_ HW_ => ?_)
  generalize w17.drew = w18 at BK299 HB hHeld ⊢
  refine pu 0 11 HT_ rfl rfl (bs 9 1) ?_
  refine pu 1 12 HT_ rfl rfl (bs 9 3) ?_
  refine pu 2 13 HT_ rfl rfl (bs 9 7) ?_
  refine pu 3 14 HT_ rfl rfl (bs 9 15) ?_
  refine pu 4 15 HT_ rfl rfl (bs 9 31) ?_
  refine pu 5 16 HT_ rfl rfl (bs 9 63) ?_
  refine pu 6 17 HT_ rfl rfl (bs 9 127) ?_
  refine one_ (i := 7) (N := some 7) (bs 9 255) rfl rfl (one_of HT_.1 (by kernel_rfl)) (by decide) (fun K hK => ?_)
  refine bp #[.int .i64 0, .int .i64 0] 30 ?_
  intro gb301 hg w19 hbox hb
  have BK301 := Aside0.mk hbox
  have GW301 := zs HB hg
  have GE301 := zs HB hg
  have NB299_301 := zn BK299 hg
  have NB301_299 := zm BK299 hg
  replace BK299 := zb BK299 hb
  replace HB := zB HB hb
  clear hb hbox hg
  refine hK.out _ _ trivial (fun hHeld => ?_)
  clear hK K
  refine norm_ (aq 7) ?_
  refine one_ (i := 8) (N := none) (bs 9 511) rfl rfl (one_of HT_.1 (by kernel_rfl)) (by decide) (fun K hK => ?_)
  have hs20 : w19.cell? ⟨gb301, 0, none⟩ = some (.int .i64 0) := (blk_cell BK301.1 0).trans rfl
  have hfs20 := blk_frozen BK301.1 0
  have hns20_0 := NB299_301.1
  have hms20_0 := NB301_299.1
  have hs21 : w19.cell? ⟨gb301, 1, none⟩ = some (.int .i64 0) := (blk_cell BK301.1 1).trans rfl
  have hfs21 := blk_frozen BK301.1 1
  have hns21_0 := NB299_301.1
  have hms21_0 := NB301_299.1
  refine skip_ (w1 := ?_) (by rfl) rfl ?_ ?_
  rotate_left
  · go_simp
    rfl
  refine hK.out _ _ trivial (fun hHeld => ?_)
  clear hK K
  refine done_ (done_of HT_.1 (by kernel_rfl)) ?_
  have hnb22 := NB301_299.1
  have hnc22 := NB299_301.1
  obtain ⟨hcz23_0, hcz23_1, hfz23_0, hfz23_1⟩ := zc2 BK301
  try go_wp2_with (first | ((with_reducible refine gate_callee (f := 53) rfl ?_); refine gl (some 19) Tryz.func53 #[.agg #[.int .i64 (wrap64 (Int.tdiv a0 t300)), .int .i64 (wrap64 (Int.tdiv a1 t300))]] ?_; (with_reducible refine (spec_drGood.calls k (wrap64 (Int.tdiv a0 t300)) (wrap64 (Int.tdiv a1 t300)) false _ A5.1).mono ?_); rintro e w24 ⟨rfl, hb⟩; refine ⟨_, rfl, ?_⟩; replace BK299 := zy (o' := .cells #[.int .i64 0, .int .i64 0] 30 (0, 0)) BK299 hb; replace BK301 := zy (o' := .cells #[.int .i64 (wrap64 (Int.tdiv a0 t300)), .int .i64 (wrap64 (Int.tdiv a1 t300))] 30 (0, 0)) BK301 hb; replace HB := zB HB hb; clear hb; obtain ⟨hcz25_0, hcz25_1, hfz25_0, hfz25_1⟩ := zc2 BK299))
  refine bodyPost_ret (results_ct rfl _ _ gb299 30 #[.int .i64 0, .int .i64 0] (0, 0) _ rfl (bk BK299) Tryz.underlying30 rfl (by kernel_rfl)) rfl ?_
  exact ⟨er, bq HB⟩

/-! ### spec_l1Most: function 78 -/
def spec_l1Most.f (a0 : Int) (a1 : Int) : Option (Int) := if a0 > a1 then (some a0) else (some a1)
set_option maxHeartbeats 8000000 in
set_option maxRecDepth 100000 in
theorem spec_l1Most.calls (a0 : Int) (a1 : Int) (r : Int) (w : World) (h : spec_l1Most.f a0 a1 = some r) :
    Calls Tryz.prog 78 #[.int .i64 a0, .int .i64 a1] w fun e w' => e = .returned (.int .i64 r) ∧ Drawn0 w w' := by
  have H : (if a0 > a1 then (some a0) else (some a1)) = some r := h
  clear h
  by_cases c3 : a0 > a1
  · rw [if_pos c3] at H
    have c3b0 : decide (a1 < a0) = true := decide_eq_true c3
    clear c3
    obtain rfl := Option.some.inj H
    go_enter Tryz.func78, Tryz.ntmps78
    go_wp2
    go_ret
    exact ⟨by first | rfl | (simp; done) | (simp [*]; done), by repeat (first | exact Drawn0.refl _ | apply Drawn0.step)⟩
  rw [if_neg c3] at H
  have c3b0 : decide (a1 < a0) = false := decide_eq_false c3
  clear c3
  obtain rfl := Option.some.inj H
  go_enter Tryz.func78, Tryz.ntmps78
  go_wp2
  go_ret
  exact ⟨by first | rfl | (simp; done) | (simp [*]; done), by repeat (first | exact Drawn0.refl _ | apply Drawn0.step)⟩

/-! ### spec_l1Abs: function 42 -/
def spec_l1Abs.f (a0 : Int) : Option (Int) := (spec_l1Most.f a0 (wrap64 (-a0))).bind fun t303 => (some t303)
set_option maxHeartbeats 8000000 in
set_option maxRecDepth 100000 in
theorem spec_l1Abs.calls (a0 : Int) (r : Int) (w : World) (h : spec_l1Abs.f a0 = some r) :
    Calls Tryz.prog 42 #[.int .i64 a0] w fun e w' => e = .returned (.int .i64 r) ∧ Drawn0 w w' := by
  have H : ((spec_l1Most.f a0 (wrap64 (-a0))).bind fun t303 => (some t303)) = some r := h
  clear h
  replace H := Option.bind_eq_some_iff.mp H
  obtain ⟨t303, A20, H⟩ := H
  (try dsimp only at H)
  have A2 := Aside0.mk A20
  clear A20
  obtain rfl := Option.some.inj H
  go_enter Tryz.func42, Tryz.ntmps42
  go_wp2_with (first | ((with_reducible refine gate_callee (f := 78) rfl ?_); refine gl (some 6) Tryz.func78 #[.int .i64 a0, .int .i64 (wrap64 (-a0))] ?_; (with_reducible refine (spec_l1Most.calls a0 (wrap64 (-a0)) t303 _ A2.1).mono ?_); rintro e w' ⟨rfl, ⟨nd, rfl⟩⟩; refine ⟨_, rfl, ?_⟩))
  go_ret
  exact ⟨by first | rfl | (simp; done) | (simp [*]; done), by repeat (first | exact Drawn0.refl _ | apply Drawn0.step)⟩

end Go.Proofs.YtejlandhfnnkiaaGreatDoor.PFnClocksAgree
