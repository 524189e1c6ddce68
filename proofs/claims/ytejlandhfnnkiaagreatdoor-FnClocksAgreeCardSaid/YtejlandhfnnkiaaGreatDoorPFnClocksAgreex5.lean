/- A part of the walk of FnClocksAgree: which Lean function each Go function comes to, and that the machine's call does so. Written by a program of this repo (wip/gen/xprint.py). -/
import Derived.Test.YtejlandhfnnkiaaGreatDoorPFnClocksAgreex0
import Derived.Test.YtejlandhfnnkiaaGreatDoorPFnClocksAgreex4
namespace Go.Proofs.YtejlandhfnnkiaaGreatDoor.PFnClocksAgree
open Go.RowKit Go.Proofs.YtejlandhfnnkiaaGreatDoorW.PrintWords Go.Proofs.YtejlandhfnnkiaaGreatDoorW.PrintLast Go.Proofs.YtejlandhfnnkiaaGreatDoorW.PrintMore
attribute [local go_sem] max2_int min2_int max_two min_two max_three min_three max_four min_four   -- for this text's walks alone
set_option linter.unusedVariables false
set_option linter.unusedSimpArgs false

/-! ### spec_diMake: function 89 -/
def spec_diMake.f (k : Nat) (a0 : Int) (a1 : Int) : Option (Int × Int × Bool) := if a1 = 0 then (none) else ((spec_diCommon.f k (Int.tmod (wrap64 ((Int.tmod a0 a1) + a1)) a1) a1).bind fun t113 => (if t113 = 0 then (none) else (if (wrap64 (Int.tdiv a1 t113)) > 1000000 then (some (0, 0, false)) else (some (wrap64 (Int.tdiv (Int.tmod (wrap64 ((Int.tmod a0 a1) + a1)) a1) t113), wrap64 (Int.tdiv a1 t113), true)))))
theorem spec_diMake.mono : ∀ a0 a1 k, LeO (spec_diMake.f k a0 a1) (spec_diMake.f (k + 1) a0 a1) := by
  intro a0 a1 k
  unfold spec_diMake.f
  repeat' first
      | (with_reducible exact spec_diCommon.mono _ _ _)
      | (with_reducible exact LeO.refl _)
      | (with_reducible exact LeO.none _)
      | (with_reducible refine LeO.ite ?_ ?_)
      | (with_reducible refine LeO.bind ?_ (fun _ => ?_))
      | exact spec_diCommon.mono _ _ _
      | exact LeO.none _
      | refine LeO.ite ?_ ?_
      | refine LeO.bind ?_ (fun _ => ?_)
def spec_diMake.T3 : Bool × List (List Nat × List Nat) := (true, [([], []), ([], []), ([0, 1], [0, 1]), ([], []), ([], []), ([3, 4], [3, 4]), ([2, 5], [2, 5]), ([], []), ([7, 6, 0, 1, 2, 3, 4, 5, 6, 7], [6, 7])])
def spec_diMake.B3 : List Nat := [0, 0, 3, 0, 0, 24, 63, 0, 255]
theorem spec_diMake.tab3 : rtab .any (opsOf Tryz.f89 3) = spec_diMake.T3 := by kernel_rfl
theorem spec_diMake.bits3 : waitsOk spec_diMake.T3.2 spec_diMake.B3 = true := by kernel_rfl
set_option maxHeartbeats 8000000 in
set_option maxRecDepth 100000 in
theorem spec_diMake.calls (k : Nat) (a0 : Int) (a1 : Int) (r1 : Int) (r2 : Int) (r3 : Bool) (w : World) (h : spec_diMake.f k a0 a1 = some (r1, r2, r3)) :
    Calls Tryz.prog 89 #[.int .i64 a0, .int .i64 a1] w fun e w' => e = .returned (.tuple #[.agg #[.int .i64 r1, .int .i64 r2], .bool r3]) ∧ Below w.heap.size w w' := by
  have hu25 := Tryz.underlying25
  have HB := Aside0.mk (Below.refl w.heap.size w)
  have H : (if a1 = 0 then (none) else ((spec_diCommon.f k (Int.tmod (wrap64 ((Int.tmod a0 a1) + a1)) a1) a1).bind fun t113 => (if t113 = 0 then (none) else (if (wrap64 (Int.tdiv a1 t113)) > 1000000 then (some (0, 0, false)) else (some (wrap64 (Int.tdiv (Int.tmod (wrap64 ((Int.tmod a0 a1) + a1)) a1) t113), wrap64 (Int.tdiv a1 t113), true)))))) = some (r1, r2, r3) := h
  clear h
  by_cases c3 : a1 = 0
  · rw [if_pos c3] at H
    exact absurd H (by simp)
  rw [if_neg c3] at H
  have c3b0 : (a1 == 0) = false := beq_eq_false_iff_ne.mpr c3
  have c3b1 : (a1 != 0) = true := bne_iff_ne.mpr c3
  replace H := Option.bind_eq_some_iff.mp H
  obtain ⟨t113, A40, H⟩ := H
  (try dsimp only at H)
  have A4 := Aside0.mk A40
  clear A40
  by_cases c5 : t113 = 0
  · rw [if_pos c5] at H
    exact absurd H (by simp)
  rw [if_neg c5] at H
  have c5b0 : (t113 == 0) = false := beq_eq_false_iff_ne.mpr c5
  have c5b1 : (t113 != 0) = true := bne_iff_ne.mpr c5
  by_cases c6 : (wrap64 (Int.tdiv a1 t113)) > 1000000
  · rw [if_pos c6] at H
    have c6b0 : decide (1000000 < (wrap64 (Int.tdiv a1 t113))) = true := decide_eq_true c6
    clear c6
    simp only [Option.some.injEq, Prod.mk.injEq] at H
    obtain ⟨rfl, rfl, rfl⟩ := H
    go_enter Tryz.func89, Tryz.ntmps89
    try go_wp2_with (first | ((with_reducible refine gate_dst (N := 4) rfl ?_); refine be #[.int .i64 0, .int .i64 0] 25 ?_; intro gb112 hg w7 hbox hb; have BK112 := Aside0.mk hbox; have GW112 := zs HB hg; have GE112 := zs HB hg; replace HB := zB HB hb; clear hb hbox hg) | ((with_reducible refine gate_callee (f := 54) rfl ?_); refine gl (some 17) Tryz.func54 #[.int .i64 (Int.tmod (wrap64 ((Int.tmod a0 a1) + a1)) a1), .int .i64 a1] ?_; (with_reducible refine (spec_diCommon.calls k (Int.tmod (wrap64 ((Int.tmod a0 a1) + a1)) a1) a1 t113 _ A4.1).mono ?_); rintro e w' ⟨rfl, ⟨nd, rfl⟩⟩; refine ⟨_, rfl, ?_⟩; (try (rw [drewN_self w7]; generalize hq_ : World.drewN w7 _ = w7; have n0_ : Aside0 (w7.heap[gb112]? = some (.cells #[.int .i64 0, .int .i64 0] 25 (0, 0))) := ⟨by rw [← hq_]; exact (bk BK112)⟩; have n1_ : Aside0 (Below w.heap.size w w7) := ⟨by rw [← hq_]; exact (bq HB)⟩; clear BK112 HB hq_; have BK112 := n0_; have HB := n1_; clear n0_ n1_))))
    replace BK112 := Aside0.mk (blk_drew BK112.1)
    replace HB := Aside0.mk (below_drew1 HB.1)
    refine start_ (n := 9) (S := fun w' => True) (ds := []) (bs 9 0) (by kernel_rfl) rfl rfl trivial (fun hHeld => ?_); refine with_tabW spec_diMake.tab3 spec_diMake.bits3 (fun HT_ HW_ => ?_)
    generalize w7.drew = w8 at BK112 HB hHeld ⊢
    refine pu 0 18 HT_ rfl rfl (bs 9 1) ?_
    refine pu 1 19 HT_ rfl rfl (bs 9 3) ?_
    refine pu 2 20 HT_ rfl rfl (bs 9 7) ?_
    refine pu 3 21 HT_ rfl rfl (bs 9 15) ?_
    refine pu 4 22 HT_ rfl rfl (bs 9 31) ?_
    refine pu 5 23 HT_ rfl rfl (bs 9 63) ?_
    refine pu 6 24 HT_ rfl rfl (bs 9 127) ?_
    refine one_ (i := 7) (N := some 7) (bs 9 255) rfl rfl (one_of HT_.1 (by kernel_rfl)) (by decide) (fun K hK => ?_)
    refine bp #[.int .i64 0, .int .i64 0] 25 ?_
    intro gb114 hg w9 hbox hb
    have BK114 := Aside0.mk hbox
    have GW114 := zs HB hg
    have GE114 := zs HB hg
    have NB112_114 := zn BK112 hg
    have NB114_112 := zm BK112 hg
    replace BK112 := zb BK112 hb
    replace HB := zB HB hb
    clear hb hbox hg
    refine hK.out _ _ trivial (fun hHeld => ?_)
    clear hK K
    refine norm_ (aq 7) ?_
    refine one_ (i := 8) (N := none) (bs 9 511) rfl rfl (one_of HT_.1 (by kernel_rfl)) (by decide) (fun K hK => ?_)
    have hs10 : w9.cell? ⟨gb114, 0, none⟩ = some (.int .i64 0) := (blk_cell BK114.1 0).trans rfl
    have hfs10 := blk_frozen BK114.1 0
    have hns10_0 := NB112_114.1
    have hms10_0 := NB114_112.1
    have hs11 : w9.cell? ⟨gb114, 1, none⟩ = some (.int .i64 0) := (blk_cell BK114.1 1).trans rfl
    have hfs11 := blk_frozen BK114.1 1
    have hns11_0 := NB112_114.1
    have hms11_0 := NB114_112.1
    refine skip_ (w1 := ?_) (by rfl) rfl ?_ ?_
    rotate_left
    · go_simp
      rfl
    refine hK.out _ _ trivial (fun hHeld => ?_)
    clear hK K
    refine done_ (done_of HT_.1 (by kernel_rfl)) ?_
    have hnb12 := NB114_112.1
    have hnc12 := NB112_114.1
    obtain ⟨hcz13_0, hcz13_1, hfz13_0, hfz13_1⟩ := zc2 BK114
    obtain ⟨hcz14_0, hcz14_1, hfz14_0, hfz14_1⟩ := zc2 BK112
    try go_wp2
    refine bodyPost_ret (results_ct rfl _ _ gb112 25 #[.int .i64 0, .int .i64 0] (0, 0) _ rfl (bk BK112) Tryz.underlying25 rfl (by kernel_rfl)) rfl ?_
    exact ⟨er, bq HB⟩
  rw [if_neg c6] at H
  have c6b0 : decide (1000000 < (wrap64 (Int.tdiv a1 t113))) = false := decide_eq_false c6
  clear c6
  simp only [Option.some.injEq, Prod.mk.injEq] at H
  obtain ⟨rfl, rfl, rfl⟩ := H
  go_enter Tryz.func89, Tryz.ntmps89
  try go_wp2_with (first | ((with_reducible refine gate_dst (N := 4) rfl ?_); refine be #[.int .i64 0, .int .i64 0] 25 ?_; intro gb112 hg w15 hbox hb; have BK112 := Aside0.mk hbox; have GW112 := zs HB hg; have GE112 := zs HB hg; replace HB := zB HB hb; clear hb hbox hg) | ((with_reducible refine gate_callee (f := 54) rfl ?_); refine gl (some 17) Tryz.func54 #[.int .i64 (Int.tmod (wrap64 ((Int.tmod a0 a1) + a1)) a1), .int .i64 a1] ?_; (with_reducible refine (spec_diCommon.calls k (Int.tmod (wrap64 ((Int.tmod a0 a1) + a1)) a1) a1 t113 _ A4.1).mono ?_); rintro e w' ⟨rfl, ⟨nd, rfl⟩⟩; refine ⟨_, rfl, ?_⟩; (try (rw [drewN_self w15]; generalize hq_ : World.drewN w15 _ = w15; have n0_ : Aside0 (w15.heap[gb112]? = some (.cells #[.int .i64 0, .int .i64 0] 25 (0, 0))) := ⟨by rw [← hq_]; exact (bk BK112)⟩; have n1_ : Aside0 (Below w.heap.size w w15) := ⟨by rw [← hq_]; exact (bq HB)⟩; clear BK112 HB hq_; have BK112 := n0_; have HB := n1_; clear n0_ n1_))))
  replace BK112 := Aside0.mk (blk_drew BK112.1)
  replace HB := Aside0.mk (below_drew1 HB.1)
  refine start_ (n := 9) (S := fun w' => True) (ds := []) (bs 9 0) (by kernel_rfl) rfl rfl trivial (fun hHeld => ?_); refine with_tabW spec_diMake.tab3 spec_diMake.bits3 (fun HT_ HW_ => ?_)
  generalize w15.drew = w16 at BK112 HB hHeld ⊢
  refine pu 0 18 HT_ rfl rfl (bs 9 1) ?_
  refine pu 1 19 HT_ rfl rfl (bs 9 3) ?_
  refine pu 2 20 HT_ rfl rfl (bs 9 7) ?_
  refine pu 3 21 HT_ rfl rfl (bs 9 15) ?_
  refine pu 4 22 HT_ rfl rfl (bs 9 31) ?_
  refine pu 5 23 HT_ rfl rfl (bs 9 63) ?_
  refine pu 6 24 HT_ rfl rfl (bs 9 127) ?_
  refine one_ (i := 7) (N := some 7) (bs 9 255) rfl rfl (one_of HT_.1 (by kernel_rfl)) (by decide) (fun K hK => ?_)
  refine bp #[.int .i64 0, .int .i64 0] 25 ?_
  intro gb114 hg w17 hbox hb
  have BK114 := Aside0.mk hbox
  have GW114 := zs HB hg
  have GE114 := zs HB hg
  have NB112_114 := zn BK112 hg
  have NB114_112 := zm BK112 hg
  replace BK112 := zb BK112 hb
  replace HB := zB HB hb
  clear hb hbox hg
  refine hK.out _ _ trivial (fun hHeld => ?_)
  clear hK K
  refine norm_ (aq 7) ?_
  refine one_ (i := 8) (N := none) (bs 9 511) rfl rfl (one_of HT_.1 (by kernel_rfl)) (by decide) (fun K hK => ?_)
  have hs18 : w17.cell? ⟨gb114, 0, none⟩ = some (.int .i64 0) := (blk_cell BK114.1 0).trans rfl
  have hfs18 := blk_frozen BK114.1 0
  have hns18_0 := NB112_114.1
  have hms18_0 := NB114_112.1
  have hs19 : w17.cell? ⟨gb114, 1, none⟩ = some (.int .i64 0) := (blk_cell BK114.1 1).trans rfl
  have hfs19 := blk_frozen BK114.1 1
  have hns19_0 := NB112_114.1
  have hms19_0 := NB114_112.1
  refine skip_ (w1 := ?_) (by rfl) rfl ?_ ?_
  rotate_left
  · go_simp
    rfl
  refine hK.out _ _ trivial (fun hHeld => ?_)
  clear hK K
  refine done_ (done_of HT_.1 (by kernel_rfl)) ?_
  have hnb20 := NB114_112.1
  have hnc20 := NB112_114.1
  obtain ⟨hcz21_0, hcz21_1, hfz21_0, hfz21_1⟩ := zc2 BK114
  obtain ⟨hcz22_0, hcz22_1, hfz22_0, hfz22_1⟩ := zc2 BK112
  try go_wp2
  refine bodyPost_ret (results_ct rfl _ _ gb112 25 #[.int .i64 (wrap64 (Int.tdiv (Int.tmod (wrap64 ((Int.tmod a0 a1) + a1)) a1) t113)), .int .i64 (wrap64 (Int.tdiv a1 t113))] (0, 0) _ rfl (bk BK112) Tryz.underlying25 rfl (by kernel_rfl)) rfl ?_
  exact ⟨er, bq HB⟩

/-! ### spec_l1Cur_sureTurn: function 80 -/
def spec_l1Cur_sureTurn.f (k : Nat) (s0_0 : List Int) (s0_1 : Int) (s0_2 : Int) : Option (Int × Int × Int × Int) := (some (([1, 2, 3, 4, 6, 8, 11, 12, 13, 24, 60, 143, 720, 719, 7, 5] : List Int) : List Int)).bind fun y116 => ((spec_l1Cur_pick.f s0_0 s0_1 s0_2 (y116.length : Int)).bind fun bt119 => (if 0 ≤ bt119.1 then (if bt119.1 < (y116.length : Int) then ((spec_l1Cur_pick.f s0_0 bt119.2.1 bt119.2.2 (rd y116 bt119.1)).bind fun bt123 => ((spec_diMake.f k bt123.1 (rd y116 bt119.1)).bind fun bt126 => (some (bt126.1, bt126.2.1, bt123.2.1, bt123.2.2)))) else (none)) else (none)))
theorem spec_l1Cur_sureTurn.mono : ∀ a0 a1 a2 k, LeO (spec_l1Cur_sureTurn.f k a0 a1 a2) (spec_l1Cur_sureTurn.f (k + 1) a0 a1 a2) := by
  intro a0 a1 a2 k
  unfold spec_l1Cur_sureTurn.f
  repeat' first
      | (with_reducible exact spec_diMake.mono _ _ _)
      | (with_reducible exact LeO.refl _)
      | (with_reducible exact LeO.none _)
      | (with_reducible refine LeO.ite ?_ ?_)
      | (with_reducible refine LeO.bind ?_ (fun _ => ?_))
      | exact spec_diMake.mono _ _ _
      | exact LeO.none _
      | refine LeO.ite ?_ ?_
      | refine LeO.bind ?_ (fun _ => ?_)
set_option maxHeartbeats 8000000 in
set_option maxRecDepth 100000 in
theorem spec_l1Cur_sureTurn.calls (k : Nat) (g : Nat) (s0_0 : List Int) (s0_1 : Int) (s0_2 : Int) (r1 : Int) (r2 : Int) (r3 : Int) (r4 : Int) (w0 w : World) (hI : IsS66 w0 w g s0_0 s0_1 s0_2) (hB : Below w0.heap.size w0 w) (h : spec_l1Cur_sureTurn.f k s0_0 s0_1 s0_2 = some (r1, r2, r3, r4)) :
    Calls Tryz.prog 80 #[.pointer (some ⟨g, 0, none⟩)] w fun e w' => e = .returned (.agg #[.int .i64 r1, .int .i64 r2]) ∧ IsS66 w0 w' g s0_0 r3 r4 ∧ Below w0.heap.size w0 w' ∧ KeepBut w w' g none := by
  have hu25 := Tryz.underlying25
  have HI0 := Aside0.mk hI
  have HK := Aside0.mk (KeepBut.refl w g none)
  have HL := Aside0.mk hB.size
  clear hI
  have HW0 := Aside0.mk hB.size
  have HB := Aside0.mk hB
  clear hB
  have H : ((some (([1, 2, 3, 4, 6, 8, 11, 12, 13, 24, 60, 143, 720, 719, 7, 5] : List Int) : List Int)).bind fun y116 => ((spec_l1Cur_pick.f s0_0 s0_1 s0_2 (y116.length : Int)).bind fun bt119 => (if 0 ≤ bt119.1 then (if bt119.1 < (y116.length : Int) then ((spec_l1Cur_pick.f s0_0 bt119.2.1 bt119.2.2 (rd y116 bt119.1)).bind fun bt123 => ((spec_diMake.f k bt123.1 (rd y116 bt119.1)).bind fun bt126 => (some (bt126.1, bt126.2.1, bt123.2.1, bt123.2.2)))) else (none)) else (none)))) = some (r1, r2, r3, r4) := h
  clear h
  obtain ⟨y116, hy116⟩ : ∃ y_ : List Int, y_ = (([1, 2, 3, 4, 6, 8, 11, 12, 13, 24, 60, 143, 720, 719, 7, 5] : List Int)) := ⟨_, rfl⟩
  replace H : ((spec_l1Cur_pick.f s0_0 s0_1 s0_2 (y116.length : Int)).bind fun bt119 => (if 0 ≤ bt119.1 then (if bt119.1 < (y116.length : Int) then ((spec_l1Cur_pick.f s0_0 bt119.2.1 bt119.2.2 (rd y116 bt119.1)).bind fun bt123 => ((spec_diMake.f k bt123.1 (rd y116 bt119.1)).bind fun bt126 => (some (bt126.1, bt126.2.1, bt123.2.1, bt123.2.2)))) else (none)) else (none))) = some (r1, r2, r3, r4) := by first | (rw [hy116]; with_reducible exact H) | (have H2_ := (Option.bind_some _ _).symm.trans H; rw [hy116]; with_reducible exact H2_) | (have H2_ := (Option.bind_some _ _).symm.trans H; with_reducible exact H2_) | with_reducible exact H | (rw [hy116]; exact H) | exact H
  have Ny116 := Aside0.mk hy116
  clear hy116
  replace H := Option.bind_eq_some_iff.mp H
  obtain ⟨⟨t119, t120, t121⟩, A20, H⟩ := H
  (try dsimp only at H)
  have A2 := Aside0.mk A20
  clear A20
  by_cases c3 : 0 ≤ t119
  · rw [if_pos c3] at H
    have c3b0 : decide (0 ≤ t119) = true := decide_eq_true c3
    clear c3
    by_cases c4 : t119 < (y116.length : Int)
    · rw [if_pos c4] at H
      have c4b0 : decide (t119 < (y116.length : Int)) = true := decide_eq_true c4
      clear c4
      replace H := Option.bind_eq_some_iff.mp H
      obtain ⟨⟨t123, t124, t125⟩, A50, H⟩ := H
      (try dsimp only at H)
      have A5 := Aside0.mk A50
      clear A50
      replace H := Option.bind_eq_some_iff.mp H
      obtain ⟨⟨t126, t127, t128⟩, A60, H⟩ := H
      (try dsimp only at H)
      have A6 := Aside0.mk A60
      clear A60
      simp only [Option.some.injEq, Prod.mk.injEq] at H
      obtain ⟨rfl, rfl, rfl, rfl⟩ := H
      go_enter Tryz.func80, Tryz.ntmps80
      go_wp2_with (first | ((with_reducible refine gate_dst (N := 2) rfl ?_); refine be #[.int .i64 0, .int .i64 0] 25 ?_; intro gb115 hg w7 hbox hb; have GW115 := kz HK hg; have GE115 := kv HW0 (kz HK hg); have NB0_115 := Aside0.mk ((by rw [hg]; exact Nat.ne_of_lt (IsS66.lt (show IsS66 w0 _ g s0_0 s0_1 s0_2 from iq66 HI0)) : g ≠ gb115)); have NB115_0 := Aside0.mk NB0_115.1.symm; replace HI0 := iB66 HI0 hb; replace HK := kB HK hb; replace HB := zB66 HB hb; have BK115 := Aside0.mk hbox; clear hb hbox hg) | ((with_reducible refine gate_dst (N := 7) rfl ?_); refine Kd.R_lit (Kd.int .i64) _ 3 ?hg (N := 7) ?hd (xs := ([1, 2, 3, 4, 6, 8, 11, 12, 13, 24, 60, 143, 720, 719, 7, 5] : List Int)) (inner := [.int .i64 1, .int .i64 2, .int .i64 3, .int .i64 4, .int .i64 6, .int .i64 8, .int .i64 11, .int .i64 12, .int .i64 13, .int .i64 24, .int .i64 60, .int .i64 143, .int .i64 720, .int .i64 719, .int .i64 7, .int .i64 5]) (ok := fun _ => True) (okp := fun _ => True) ?hr ?hp (fun _ hk => hk) trivial (Below.refl _ _) (Nat.le_refl _) (by simp) ?_; (case hd => rfl); (case hg => rfl); (case hr => first | (go_simp; done) | (go_simp; rfl)); (case hp => exact (Reps.one (show Kd.M (Kd.int .i64) _ _ _ 1 [.int .i64 1] from rfl) (Reps.one (show Kd.M (Kd.int .i64) _ _ _ 2 [.int .i64 2] from rfl) (Reps.one (show Kd.M (Kd.int .i64) _ _ _ 3 [.int .i64 3] from rfl) (Reps.one (show Kd.M (Kd.int .i64) _ _ _ 4 [.int .i64 4] from rfl) (Reps.one (show Kd.M (Kd.int .i64) _ _ _ 6 [.int .i64 6] from rfl) (Reps.one (show Kd.M (Kd.int .i64) _ _ _ 8 [.int .i64 8] from rfl) (Reps.one (show Kd.M (Kd.int .i64) _ _ _ 11 [.int .i64 11] from rfl) (Reps.one (show Kd.M (Kd.int .i64) _ _ _ 12 [.int .i64 12] from rfl) (Reps.one (show Kd.M (Kd.int .i64) _ _ _ 13 [.int .i64 13] from rfl) (Reps.one (show Kd.M (Kd.int .i64) _ _ _ 24 [.int .i64 24] from rfl) (Reps.one (show Kd.M (Kd.int .i64) _ _ _ 60 [.int .i64 60] from rfl) (Reps.one (show Kd.M (Kd.int .i64) _ _ _ 143 [.int .i64 143] from rfl) (Reps.one (show Kd.M (Kd.int .i64) _ _ _ 720 [.int .i64 720] from rfl) (Reps.one (show Kd.M (Kd.int .i64) _ _ _ 719 [.int .i64 719] from rfl) (Reps.one (show Kd.M (Kd.int .i64) _ _ _ 7 [.int .i64 7] from rfl) (Reps.one (show Kd.M (Kd.int .i64) _ _ _ 5 [.int .i64 5] from rfl) (Reps.none _ _)))))))))))))))))); intro v117 w8 ho9 hb hg_ hnew_; clear hg_ hnew_; (first | rw [← Ny116.1] at ho9 | (simp only [Int.reduceToNat] at ho9; rw [← Ny116.1] at ho9)); have HO118 := Aside0.mk (Kd.R_lower ho9 (keep_size (w := w) (g := g) (row := none) (kq HK))); replace HI0 := iB66 HI0 hb; replace HK := kB HK hb; replace HB := zB66 HB hb; replace BK115 := zb BK115 hb; clear hb ho9; obtain ⟨Ao10, co10, eo10⟩ := Kd.R_slice HO118.1; subst eo10) | ((with_reducible refine gate_callee (f := 62) rfl ?_); refine gl (some 12) Tryz.func62 #[.pointer (some ⟨g, 0, none⟩), .int .i64 (y116.length : Int)] ?_; (with_reducible refine (spec_l1Cur_pick.calls g s0_0 s0_1 s0_2 (y116.length : Int) t119 t120 t121 w0 _ ?side1 ?side2 A2.1).mono ?_); (case side1 => exact iq66 HI0); (case side2 => exact bq66 HB); rintro e w11 ⟨rfl, hi, hb, hk⟩; refine ⟨_, rfl, ?_⟩; replace BK115 := kb (o' := .cells #[.int .i64 0, .int .i64 0] 25 (0, 0)) BK115 hk NB115_0; replace HO118 := Aside0.mk (Kd.R_mono (Kd.R_keep (IsS66.apart (show IsS66 w0 _ g s0_0 s0_1 s0_2 from iq66 HI0) (rq HO118) (by decide)) hk (fun _ h => h.2)) (fun _ h => h.1)); replace HK := kT HK hk; replace HB := Aside0.mk hb; replace HI0 := Aside0.mk hi; clear hi hb hk; have p122 : 0 ≤ (t119 : Int) := of_decide_eq_true (by first | (with_reducible assumption) | assumption); have q122 : t119 < (y116.length : Int) := of_decide_eq_true (by first | (with_reducible assumption) | assumption); obtain ⟨ad122, e122, hx122_0⟩ := Kd.at_int (Kd.R_reads' HO118.1).2.2 t119 p122 q122; cases e122; replace p122 := eq_true p122; replace q122 := eq_true q122) | ((with_reducible refine gate_callee (f := 62) rfl ?_); refine gl (some 18) Tryz.func62 #[.pointer (some ⟨g, 0, none⟩), .int .i64 (rd y116 t119)] ?_; (with_reducible refine (spec_l1Cur_pick.calls g s0_0 t120 t121 (rd y116 t119) t123 t124 t125 w0 _ ?side1 ?side2 A5.1).mono ?_); (case side1 => exact iq66 HI0); (case side2 => exact bq66 HB); rintro e w12 ⟨rfl, hi, hb, hk⟩; refine ⟨_, rfl, ?_⟩; replace BK115 := kb (o' := .cells #[.int .i64 0, .int .i64 0] 25 (0, 0)) BK115 hk NB115_0; replace HO118 := Aside0.mk (Kd.R_mono (Kd.R_keep (IsS66.apart (show IsS66 w0 _ g s0_0 t120 t121 from iq66 HI0) (rq HO118) (by decide)) hk (fun _ h => h.2)) (fun _ h => h.1)); replace HK := kT HK hk; replace HB := Aside0.mk hb; replace HI0 := Aside0.mk hi; clear hi hb hk) | ((with_reducible refine gate_callee (f := 89) rfl ?_); refine gl (some 20) Tryz.func89 #[.int .i64 t123, .int .i64 (rd y116 t119)] ?_; (with_reducible refine (spec_diMake.calls k t123 (rd y116 t119) t126 t127 t128 _ A6.1).mono ?_); rintro e w13 ⟨rfl, hb⟩; refine ⟨_, rfl, ?_⟩; replace HO118 := rB HO118 hb; replace HI0 := iB66 HI0 hb; replace HK := kB HK hb; replace HB := zB66 HB hb; replace BK115 := zb BK115 hb; clear hb) | ((with_reducible refine gate_dst (N := 5) rfl ?_); refine be #[.int .i64 0, .int .i64 0] 25 ?_; intro gb129 hg w14 hbox hb; have GW129 := kz HK hg; have GE129 := kv HW0 (kz HK hg); have NB0_129 := Aside0.mk ((by rw [hg]; exact Nat.ne_of_lt (IsS66.lt (show IsS66 w0 _ g s0_0 t124 t125 from iq66 HI0)) : g ≠ gb129)); have NB129_0 := Aside0.mk NB0_129.1.symm; replace HO118 := rB HO118 hb; replace HI0 := iB66 HI0 hb; replace HK := kB HK hb; replace HB := zB66 HB hb; have BK129 := Aside0.mk hbox; have NB115_129 := zn BK115 hg; have NB129_115 := zm BK115 hg; replace BK115 := zb BK115 hb; clear hb hbox hg; have hnb15 := NB129_115.1; have hnc15 := NB115_129.1; have hnb16 := NB129_0.1; have hnc16 := NB0_129.1; obtain ⟨hcz17_0, hcz17_1, hfz17_0, hfz17_1⟩ := zc2 BK129; have hnb18 := NB115_0.1; have hnc18 := NB0_115.1; obtain ⟨hcz19_0, hcz19_1, hfz19_0, hfz19_1⟩ := zc2 BK115))
      refine bodyPost_ret (results_cell_row rfl _ _ gb115 25 #[.int .i64 t126, .int .i64 t127] (0, 0) _ rfl (bk BK115) Tryz.underlying25 rfl (by kernel_rfl)) rfl ?_
      exact ⟨er, iq66 HI0, bq66 HB, kq HK⟩
    rw [if_neg c4] at H
    exact absurd H (by simp)
  rw [if_neg c3] at H
  exact absurd H (by simp)

/-! ### spec_l1Cur_turn: function 46 -/
def spec_l1Cur_turn.f (k : Nat) (s0_0 : List Int) (s0_1 : Int) (s0_2 : Int) : Option (Int × Int × Int × Int) := (spec_l1Cur_pick.f s0_0 s0_1 s0_2 16).bind fun bt131 => (if bt131.1 = 0 then ((spec_l1Cur_among.f s0_0 bt131.2.1 bt131.2.2 (([(-1), 0, 2, 5, 4611686018427387904] : List Int))).bind fun bt137 => ((spec_l1Cur_among.f s0_0 bt137.2.1 bt137.2.2 (([0, 1, 2, 4, 1000000, 1000001, (-3)] : List Int))).bind fun bt143 => (some (bt137.1, bt143.1, bt143.2.1, bt143.2.2)))) else (if bt131.1 = 1 then ((spec_l1Cur_among.f s0_0 bt131.2.1 bt131.2.2 (([1, 999999, 7] : List Int))).bind fun bt149 => (some (bt149.1, 1000000, bt149.2.1, bt149.2.2))) else (if bt131.1 = 2 then ((spec_l1Cur_pick.f s0_0 bt131.2.1 bt131.2.2 900000).bind fun bt152 => (some (wrap64 (1 + bt152.1), 999983, bt152.2.1, bt152.2.2))) else ((spec_l1Cur_sureTurn.f k s0_0 bt131.2.1 bt131.2.2).bind fun bt155 => (some (bt155.1, bt155.2.1, bt155.2.2.1, bt155.2.2.2))))))
theorem spec_l1Cur_turn.mono : ∀ a0 a1 a2 k, LeO (spec_l1Cur_turn.f k a0 a1 a2) (spec_l1Cur_turn.f (k + 1) a0 a1 a2) := by
  intro a0 a1 a2 k
  unfold spec_l1Cur_turn.f
  repeat' first
      | (with_reducible exact spec_l1Cur_sureTurn.mono _ _ _ _)
      | (with_reducible exact LeO.refl _)
      | (with_reducible exact LeO.none _)
      | (with_reducible refine LeO.ite ?_ ?_)
      | (with_reducible refine LeO.bind ?_ (fun _ => ?_))
      | exact spec_l1Cur_sureTurn.mono _ _ _ _
      | exact LeO.none _
      | refine LeO.ite ?_ ?_
      | refine LeO.bind ?_ (fun _ => ?_)
set_option maxHeartbeats 8000000 in
set_option maxRecDepth 100000 in
theorem spec_l1Cur_turn.calls (k : Nat) (g : Nat) (s0_0 : List Int) (s0_1 : Int) (s0_2 : Int) (r1 : Int) (r2 : Int) (r3 : Int) (r4 : Int) (w0 w : World) (hI : IsS66 w0 w g s0_0 s0_1 s0_2) (hB : Below w0.heap.size w0 w) (h : spec_l1Cur_turn.f k s0_0 s0_1 s0_2 = some (r1, r2, r3, r4)) :
    Calls Tryz.prog 46 #[.pointer (some ⟨g, 0, none⟩)] w fun e w' => e = .returned (.agg #[.int .i64 r1, .int .i64 r2]) ∧ IsS66 w0 w' g s0_0 r3 r4 ∧ Below w0.heap.size w0 w' ∧ KeepBut w w' g none := by
  have hu25 := Tryz.underlying25
  have HI0 := Aside0.mk hI
  have HK := Aside0.mk (KeepBut.refl w g none)
  have HL := Aside0.mk hB.size
  clear hI
  have HW0 := Aside0.mk hB.size
  have HB := Aside0.mk hB
  clear hB
  have H : ((spec_l1Cur_pick.f s0_0 s0_1 s0_2 16).bind fun bt131 => (if bt131.1 = 0 then ((spec_l1Cur_among.f s0_0 bt131.2.1 bt131.2.2 (([(-1), 0, 2, 5, 4611686018427387904] : List Int))).bind fun bt137 => ((spec_l1Cur_among.f s0_0 bt137.2.1 bt137.2.2 (([0, 1, 2, 4, 1000000, 1000001, (-3)] : List Int))).bind fun bt143 => (some (bt137.1, bt143.1, bt143.2.1, bt143.2.2)))) else (if bt131.1 = 1 then ((spec_l1Cur_among.f s0_0 bt131.2.1 bt131.2.2 (([1, 999999, 7] : List Int))).bind fun bt149 => (some (bt149.1, 1000000, bt149.2.1, bt149.2.2))) else (if bt131.1 = 2 then ((spec_l1Cur_pick.f s0_0 bt131.2.1 bt131.2.2 900000).bind fun bt152 => (some (wrap64 (1 + bt152.1), 999983, bt152.2.1, bt152.2.2))) else ((spec_l1Cur_sureTurn.f k s0_0 bt131.2.1 bt131.2.2).bind fun bt155 => (some (bt155.1, bt155.2.1, bt155.2.2.1, bt155.2.2.2))))))) = some (r1, r2, r3, r4) := h
  clear h
  replace H := Option.bind_eq_some_iff.mp H
  obtain ⟨⟨t131, t132, t133⟩, A20, H⟩ := H
  (try dsimp only at H)
  have A2 := Aside0.mk A20
  clear A20
  by_cases c3 : t131 = 0
  · rw [if_pos c3] at H
    have c3b0 : (t131 == 0) = true := beq_iff_eq.mpr c3
    have c3b1 : (t131 != 0) = false := bne_eq_false_iff_eq.mpr c3
    clear c3
    obtain ⟨y134, hy134⟩ : ∃ y_ : List Int, y_ = (([(-1), 0, 2, 5, 4611686018427387904] : List Int)) := ⟨_, rfl⟩
    replace H : ((spec_l1Cur_among.f s0_0 t132 t133 y134).bind fun bt137 => ((spec_l1Cur_among.f s0_0 bt137.2.1 bt137.2.2 (([0, 1, 2, 4, 1000000, 1000001, (-3)] : List Int))).bind fun bt143 => (some (bt137.1, bt143.1, bt143.2.1, bt143.2.2)))) = some (r1, r2, r3, r4) := by first | (rw [hy134]; with_reducible exact H) | (have H2_ := (Option.bind_some _ _).symm.trans H; rw [hy134]; with_reducible exact H2_) | (have H2_ := (Option.bind_some _ _).symm.trans H; with_reducible exact H2_) | with_reducible exact H | (rw [hy134]; exact H) | exact H
    have Ny134 := Aside0.mk hy134
    clear hy134
    replace H := Option.bind_eq_some_iff.mp H
    obtain ⟨⟨t137, t138, t139⟩, A40, H⟩ := H
    (try dsimp only at H)
    have A4 := Aside0.mk A40
    clear A40
    obtain ⟨y140, hy140⟩ : ∃ y_ : List Int, y_ = (([0, 1, 2, 4, 1000000, 1000001, (-3)] : List Int)) := ⟨_, rfl⟩
    replace H : ((spec_l1Cur_among.f s0_0 t138 t139 y140).bind fun bt143 => (some (t137, bt143.1, bt143.2.1, bt143.2.2))) = some (r1, r2, r3, r4) := by first | (rw [hy140]; with_reducible exact H) | (have H2_ := (Option.bind_some _ _).symm.trans H; rw [hy140]; with_reducible exact H2_) | (have H2_ := (Option.bind_some _ _).symm.trans H; with_reducible exact H2_) | with_reducible exact H | (rw [hy140]; exact H) | exact H
    have Ny140 := Aside0.mk hy140
    clear hy140
    replace H := Option.bind_eq_some_iff.mp H
    obtain ⟨⟨t143, t144, t145⟩, A50, H⟩ := H
    (try dsimp only at H)
    have A5 := Aside0.mk A50
    clear A50
    simp only [Option.some.injEq, Prod.mk.injEq] at H
    obtain ⟨rfl, rfl, rfl, rfl⟩ := H
    go_enter Tryz.func46, Tryz.ntmps46
    go_wp2_with (first | ((with_reducible refine gate_dst (N := 2) rfl ?_); refine be #[.int .i64 0, .int .i64 0] 25 ?_; intro gb130 hg w6 hbox hb; have GW130 := kz HK hg; have GE130 := kv HW0 (kz HK hg); have NB0_130 := Aside0.mk ((by rw [hg]; exact Nat.ne_of_lt (IsS66.lt (show IsS66 w0 _ g s0_0 s0_1 s0_2 from iq66 HI0)) : g ≠ gb130)); have NB130_0 := Aside0.mk NB0_130.1.symm; replace HI0 := iB66 HI0 hb; replace HK := kB HK hb; replace HB := zB66 HB hb; have BK130 := Aside0.mk hbox; clear hb hbox hg) | ((with_reducible refine gate_callee (f := 62) rfl ?_); refine gl (some 4) Tryz.func62 #[.pointer (some ⟨g, 0, none⟩), .int .i64 16] ?_; (with_reducible refine (spec_l1Cur_pick.calls g s0_0 s0_1 s0_2 16 t131 t132 t133 w0 _ ?side1 ?side2 A2.1).mono ?_); (case side1 => exact iq66 HI0); (case side2 => exact bq66 HB); rintro e w7 ⟨rfl, hi, hb, hk⟩; refine ⟨_, rfl, ?_⟩; replace BK130 := kb (o' := .cells #[.int .i64 0, .int .i64 0] 25 (0, 0)) BK130 hk NB130_0; replace HK := kT HK hk; replace HB := Aside0.mk hb; replace HI0 := Aside0.mk hi; clear hi hb hk) | ((with_reducible refine gate_dst (N := 8) rfl ?_); refine Kd.R_lit (Kd.int .i64) _ 3 ?hg (N := 8) ?hd (xs := ([(-1), 0, 2, 5, 4611686018427387904] : List Int)) (inner := [.int .i64 (-1), .int .i64 0, .int .i64 2, .int .i64 5, .int .i64 4611686018427387904]) (ok := fun _ => True) (okp := fun _ => True) ?hr ?hp (fun _ hk => hk) trivial (Below.refl _ _) (Nat.le_refl _) (by simp) ?_; (case hd => rfl); (case hg => rfl); (case hr => first | (go_simp; done) | (go_simp; rfl)); (case hp => exact (Reps.one (show Kd.M (Kd.int .i64) _ _ _ (-1) [.int .i64 (-1)] from rfl) (Reps.one (show Kd.M (Kd.int .i64) _ _ _ 0 [.int .i64 0] from rfl) (Reps.one (show Kd.M (Kd.int .i64) _ _ _ 2 [.int .i64 2] from rfl) (Reps.one (show Kd.M (Kd.int .i64) _ _ _ 5 [.int .i64 5] from rfl) (Reps.one (show Kd.M (Kd.int .i64) _ _ _ 4611686018427387904 [.int .i64 4611686018427387904] from rfl) (Reps.none _ _))))))); intro v135 w8 ho9 hb hg_ hnew_; clear hg_ hnew_; (first | rw [← Ny134.1] at ho9 | (simp only [Int.reduceToNat] at ho9; rw [← Ny134.1] at ho9)); have HO136 := Aside0.mk (Kd.R_lower ho9 (keep_size (w := w) (g := g) (row := none) (kq HK))); replace HI0 := iB66 HI0 hb; replace HK := kB HK hb; replace HB := zB66 HB hb; replace BK130 := zb BK130 hb; clear hb ho9; obtain ⟨Ao10, co10, eo10⟩ := Kd.R_slice HO136.1; subst eo10) | ((with_reducible refine gate_callee (f := 61) rfl ?_); refine gl (some 9) Tryz.func61 #[.pointer (some ⟨g, 0, none⟩), .slice Ao10 y134.length co10] ?_; (with_reducible refine (spec_l1Cur_among.calls g s0_0 t132 t133 _ _ y134 t137 t138 t139 w0 _ ?side1 ?side2 ?side3 ?side4 ?side5 A4.1).mono ?_); (case side1 => exact iq66 HI0); (case side2 => exact bq66 HB); (case side3 => repeat (first | exact (Kd.R_reads' HO136.1).2.2 | (with_reducible refine Kd.C_alloc ?_ _) | (with_reducible refine Kd.C_drewN ?_ _) | (with_reducible refine Kd.C_drew ?_))); (case side4 => exact (Kd.R_reads' HO136.1).2.1); (case side5 => exact far_slice (IsS66.own_ne HI0.1 HO136.1 (by decide))); rintro e w11 ⟨rfl, hi, hb, hk⟩; refine ⟨_, rfl, ?_⟩; replace BK130 := kb (o' := .cells #[.int .i64 0, .int .i64 0] 25 (0, 0)) BK130 hk NB130_0; replace HO136 := Aside0.mk (Kd.R_mono (Kd.R_keep (IsS66.apart (show IsS66 w0 _ g s0_0 t132 t133 from iq66 HI0) (rq HO136) (by decide)) hk (fun _ h => h.2)) (fun _ h => h.1)); replace HK := kT HK hk; replace HB := Aside0.mk hb; replace HI0 := Aside0.mk hi; clear hi hb hk) | ((with_reducible refine gate_dst (N := 11) rfl ?_); refine Kd.R_lit (Kd.int .i64) _ 3 ?hg (N := 11) ?hd (xs := ([0, 1, 2, 4, 1000000, 1000001, (-3)] : List Int)) (inner := [.int .i64 0, .int .i64 1, .int .i64 2, .int .i64 4, .int .i64 1000000, .int .i64 1000001, .int .i64 (-3)]) (ok := fun _ => True) (okp := fun _ => True) ?hr ?hp (fun _ hk => hk) trivial (Below.refl _ _) (Nat.le_refl _) (by simp) ?_; (case hd => rfl); (case hg => rfl); (case hr => first | (go_simp; done) | (go_simp; rfl)); (case hp => exact (Reps.one (show Kd.M (Kd.int .i64) _ _ _ 0 [.int .i64 0] from rfl) (Reps.one (show Kd.M (Kd.int .i64) _ _ _ 1 [.int .i64 1] from rfl) (Reps.one (show Kd.M (Kd.int .i64) _ _ _ 2 [.int .i64 2] from rfl) (Reps.one (show Kd.M (Kd.int .i64) _ _ _ 4 [.int .i64 4] from rfl) (Reps.one (show Kd.M (Kd.int .i64) _ _ _ 1000000 [.int .i64 1000000] from rfl) (Reps.one (show Kd.M (Kd.int .i64) _ _ _ 1000001 [.int .i64 1000001] from rfl) (Reps.one (show Kd.M (Kd.int .i64) _ _ _ (-3) [.int .i64 (-3)] from rfl) (Reps.none _ _))))))))); intro v141 w12 ho13 hb hg_ hnew_; clear hg_ hnew_; (first | rw [← Ny140.1] at ho13 | (simp only [Int.reduceToNat] at ho13; rw [← Ny140.1] at ho13)); have HO142 := Aside0.mk (Kd.R_lower (Kd.R_new' ho13 (Kd.R_lt (rq HO136))) (keep_size (w := w) (g := g) (row := none) (kq HK))); replace HO136 := Aside0.mk (Kd.R_elder' (rq HO136) (Kd.R_base ho13) hb); replace HI0 := iB66 HI0 hb; replace HK := kB HK hb; replace HB := zB66 HB hb; replace BK130 := zb BK130 hb; clear hb ho13; obtain ⟨Ao14, co14, eo14⟩ := Kd.R_slice HO142.1; subst eo14) | ((with_reducible refine gate_callee (f := 61) rfl ?_); refine gl (some 12) Tryz.func61 #[.pointer (some ⟨g, 0, none⟩), .slice Ao14 y140.length co14] ?_; (with_reducible refine (spec_l1Cur_among.calls g s0_0 t138 t139 _ _ y140 t143 t144 t145 w0 _ ?side1 ?side2 ?side3 ?side4 ?side5 A5.1).mono ?_); (case side1 => exact iq66 HI0); (case side2 => exact bq66 HB); (case side3 => repeat (first | exact (Kd.R_reads' HO142.1).2.2 | (with_reducible refine Kd.C_alloc ?_ _) | (with_reducible refine Kd.C_drewN ?_ _) | (with_reducible refine Kd.C_drew ?_))); (case side4 => exact (Kd.R_reads' HO142.1).2.1); (case side5 => exact far_slice (IsS66.own_ne HI0.1 HO142.1 (by decide))); rintro e w15 ⟨rfl, hi, hb, hk⟩; refine ⟨_, rfl, ?_⟩; replace BK130 := kb (o' := .cells #[.int .i64 0, .int .i64 0] 25 (0, 0)) BK130 hk NB130_0; replace HO136 := Aside0.mk (Kd.R_mono (Kd.R_keep (IsS66.apart (show IsS66 w0 _ g s0_0 t138 t139 from iq66 HI0) (rq HO136) (by decide)) hk (fun _ h => h.2)) (fun _ h => h.1)); replace HO142 := Aside0.mk (Kd.R_mono (Kd.R_keep (IsS66.apart (show IsS66 w0 _ g s0_0 t138 t139 from iq66 HI0) (rq HO142) (by decide)) hk (fun _ h => h.2)) (fun _ h => h.1)); replace HK := kT HK hk; replace HB := Aside0.mk hb; replace HI0 := Aside0.mk hi; clear hi hb hk; have hnb16 := NB130_0.1; have hnc16 := NB0_130.1; obtain ⟨hcz17_0, hcz17_1, hfz17_0, hfz17_1⟩ := zc2 BK130))
    refine bodyPost_ret (results_cell_row rfl _ _ gb130 25 #[.int .i64 t137, .int .i64 t143] (0, 0) _ rfl (bk BK130) Tryz.underlying25 rfl (by kernel_rfl)) rfl ?_
    exact ⟨er, iq66 HI0, bq66 HB, kq HK⟩
  rw [if_neg c3] at H
  have c3b0 : (t131 == 0) = false := beq_eq_false_iff_ne.mpr c3
  have c3b1 : (t131 != 0) = true := bne_iff_ne.mpr c3
  by_cases c18 : t131 = 1
  · rw [if_pos c18] at H
    have c18b0 : (t131 == 1) = true := beq_iff_eq.mpr c18
    have c18b1 : (t131 != 1) = false := bne_eq_false_iff_eq.mpr c18
    clear c18
    obtain ⟨y146, hy146⟩ : ∃ y_ : List Int, y_ = (([1, 999999, 7] : List Int)) := ⟨_, rfl⟩
    replace H : ((spec_l1Cur_among.f s0_0 t132 t133 y146).bind fun bt149 => (some (bt149.1, 1000000, bt149.2.1, bt149.2.2))) = some (r1, r2, r3, r4) := by first | (rw [hy146]; with_reducible exact H) | (have H2_ := (Option.bind_some _ _).symm.trans H; rw [hy146]; with_reducible exact H2_) | (have H2_ := (Option.bind_some _ _).symm.trans H; with_reducible exact H2_) | with_reducible exact H | (rw [hy146]; exact H) | exact H
    have Ny146 := Aside0.mk hy146
    clear hy146
    replace H := Option.bind_eq_some_iff.mp H
    obtain ⟨⟨t149, t150, t151⟩, A190, H⟩ := H
    (try dsimp only at H)
    have A19 := Aside0.mk A190
    clear A190
    simp only [Option.some.injEq, Prod.mk.injEq] at H
    obtain ⟨rfl, rfl, rfl, rfl⟩ := H
    go_enter Tryz.func46, Tryz.ntmps46
    go_wp2_with (first | ((with_reducible refine gate_dst (N := 2) rfl ?_); refine be #[.int .i64 0, .int .i64 0] 25 ?_; intro gb130 hg w20 hbox hb; have GW130 := kz HK hg; have GE130 := kv HW0 (kz HK hg); have NB0_130 := Aside0.mk ((by rw [hg]; exact Nat.ne_of_lt (IsS66.lt (show IsS66 w0 _ g s0_0 s0_1 s0_2 from iq66 HI0)) : g ≠ gb130)); have NB130_0 := Aside0.mk NB0_130.1.symm; replace HI0 := iB66 HI0 hb; replace HK := kB HK hb; replace HB := zB66 HB hb; have BK130 := Aside0.mk hbox; clear hb hbox hg) | ((with_reducible refine gate_callee (f := 62) rfl ?_); refine gl (some 4) Tryz.func62 #[.pointer (some ⟨g, 0, none⟩), .int .i64 16] ?_; (with_reducible refine (spec_l1Cur_pick.calls g s0_0 s0_1 s0_2 16 t131 t132 t133 w0 _ ?side1 ?side2 A2.1).mono ?_); (case side1 => exact iq66 HI0); (case side2 => exact bq66 HB); rintro e w21 ⟨rfl, hi, hb, hk⟩; refine ⟨_, rfl, ?_⟩; replace BK130 := kb (o' := .cells #[.int .i64 0, .int .i64 0] 25 (0, 0)) BK130 hk NB130_0; replace HK := kT HK hk; replace HB := Aside0.mk hb; replace HI0 := Aside0.mk hi; clear hi hb hk) | ((with_reducible refine gate_dst (N := 17) rfl ?_); refine Kd.R_lit (Kd.int .i64) _ 3 ?hg (N := 17) ?hd (xs := ([1, 999999, 7] : List Int)) (inner := [.int .i64 1, .int .i64 999999, .int .i64 7]) (ok := fun _ => True) (okp := fun _ => True) ?hr ?hp (fun _ hk => hk) trivial (Below.refl _ _) (Nat.le_refl _) (by simp) ?_; (case hd => rfl); (case hg => rfl); (case hr => first | (go_simp; done) | (go_simp; rfl)); (case hp => exact (Reps.one (show Kd.M (Kd.int .i64) _ _ _ 1 [.int .i64 1] from rfl) (Reps.one (show Kd.M (Kd.int .i64) _ _ _ 999999 [.int .i64 999999] from rfl) (Reps.one (show Kd.M (Kd.int .i64) _ _ _ 7 [.int .i64 7] from rfl) (Reps.none _ _))))); intro v147 w22 ho23 hb hg_ hnew_; clear hg_ hnew_; (first | rw [← Ny146.1] at ho23 | (simp only [Int.reduceToNat] at ho23; rw [← Ny146.1] at ho23)); have HO148 := Aside0.mk (Kd.R_lower ho23 (keep_size (w := w) (g := g) (row := none) (kq HK))); replace HI0 := iB66 HI0 hb; replace HK := kB HK hb; replace HB := zB66 HB hb; replace BK130 := zb BK130 hb; clear hb ho23; obtain ⟨Ao24, co24, eo24⟩ := Kd.R_slice HO148.1; subst eo24) | ((with_reducible refine gate_callee (f := 61) rfl ?_); refine gl (some 18) Tryz.func61 #[.pointer (some ⟨g, 0, none⟩), .slice Ao24 y146.length co24] ?_; (with_reducible refine (spec_l1Cur_among.calls g s0_0 t132 t133 _ _ y146 t149 t150 t151 w0 _ ?side1 ?side2 ?side3 ?side4 ?side5 A19.1).mono ?_); (case side1 => exact iq66 HI0); (case side2 => exact bq66 HB); (case side3 => repeat (first | exact (Kd.R_reads' HO148.1).2.2 | (with_reducible refine Kd.C_alloc ?_ _) | (with_reducible refine Kd.C_drewN ?_ _) | (with_reducible refine Kd.C_drew ?_))); (case side4 => exact (Kd.R_reads' HO148.1).2.1); (case side5 => exact far_slice (IsS66.own_ne HI0.1 HO148.1 (by decide))); rintro e w25 ⟨rfl, hi, hb, hk⟩; refine ⟨_, rfl, ?_⟩; replace BK130 := kb (o' := .cells #[.int .i64 0, .int .i64 0] 25 (0, 0)) BK130 hk NB130_0; replace HO148 := Aside0.mk (Kd.R_mono (Kd.R_keep (IsS66.apart (show IsS66 w0 _ g s0_0 t132 t133 from iq66 HI0) (rq HO148) (by decide)) hk (fun _ h => h.2)) (fun _ h => h.1)); replace HK := kT HK hk; replace HB := Aside0.mk hb; replace HI0 := Aside0.mk hi; clear hi hb hk; have hnb26 := NB130_0.1; have hnc26 := NB0_130.1; obtain ⟨hcz27_0, hcz27_1, hfz27_0, hfz27_1⟩ := zc2 BK130))
    refine bodyPost_ret (results_cell_row rfl _ _ gb130 25 #[.int .i64 t149, .int .i64 1000000] (0, 0) _ rfl (bk BK130) Tryz.underlying25 rfl (by kernel_rfl)) rfl ?_
    exact ⟨er, iq66 HI0, bq66 HB, kq HK⟩
  rw [if_neg c18] at H
  have c18b0 : (t131 == 1) = false := beq_eq_false_iff_ne.mpr c18
  have c18b1 : (t131 != 1) = true := bne_iff_ne.mpr c18
  by_cases c28 : t131 = 2
  · rw [if_pos c28] at H
    have c28b0 : (t131 == 2) = true := beq_iff_eq.mpr c28
    have c28b1 : (t131 != 2) = false := bne_eq_false_iff_eq.mpr c28
    clear c28
    replace H := Option.bind_eq_some_iff.mp H
    obtain ⟨⟨t152, t153, t154⟩, A290, H⟩ := H
    (try dsimp only at H)
    have A29 := Aside0.mk A290
    clear A290
    simp only [Option.some.injEq, Prod.mk.injEq] at H
    obtain ⟨rfl, rfl, rfl, rfl⟩ := H
    go_enter Tryz.func46, Tryz.ntmps46
    go_wp2_with (first | ((with_reducible refine gate_dst (N := 2) rfl ?_); refine be #[.int .i64 0, .int .i64 0] 25 ?_; intro gb130 hg w30 hbox hb; have GW130 := kz HK hg; have GE130 := kv HW0 (kz HK hg); have NB0_130 := Aside0.mk ((by rw [hg]; exact Nat.ne_of_lt (IsS66.lt (show IsS66 w0 _ g s0_0 s0_1 s0_2 from iq66 HI0)) : g ≠ gb130)); have NB130_0 := Aside0.mk NB0_130.1.symm; replace HI0 := iB66 HI0 hb; replace HK := kB HK hb; replace HB := zB66 HB hb; have BK130 := Aside0.mk hbox; clear hb hbox hg) | ((with_reducible refine gate_callee (f := 62) rfl ?_); refine gl (some 4) Tryz.func62 #[.pointer (some ⟨g, 0, none⟩), .int .i64 16] ?_; (with_reducible refine (spec_l1Cur_pick.calls g s0_0 s0_1 s0_2 16 t131 t132 t133 w0 _ ?side1 ?side2 A2.1).mono ?_); (case side1 => exact iq66 HI0); (case side2 => exact bq66 HB); rintro e w31 ⟨rfl, hi, hb, hk⟩; refine ⟨_, rfl, ?_⟩; replace BK130 := kb (o' := .cells #[.int .i64 0, .int .i64 0] 25 (0, 0)) BK130 hk NB130_0; replace HK := kT HK hk; replace HB := Aside0.mk hb; replace HI0 := Aside0.mk hi; clear hi hb hk) | ((with_reducible refine gate_callee (f := 62) rfl ?_); refine gl (some 23) Tryz.func62 #[.pointer (some ⟨g, 0, none⟩), .int .i64 900000] ?_; (with_reducible refine (spec_l1Cur_pick.calls g s0_0 t132 t133 900000 t152 t153 t154 w0 _ ?side1 ?side2 A29.1).mono ?_); (case side1 => exact iq66 HI0); (case side2 => exact bq66 HB); rintro e w32 ⟨rfl, hi, hb, hk⟩; refine ⟨_, rfl, ?_⟩; replace BK130 := kb (o' := .cells #[.int .i64 0, .int .i64 0] 25 (0, 0)) BK130 hk NB130_0; replace HK := kT HK hk; replace HB := Aside0.mk hb; replace HI0 := Aside0.mk hi; clear hi hb hk; have hnb33 := NB130_0.1; have hnc33 := NB0_130.1; obtain ⟨hcz34_0, hcz34_1, hfz34_0, hfz34_1⟩ := zc2 BK130))
    refine bodyPost_ret (results_cell_row rfl _ _ gb130 25 #[.int .i64 (wrap64 (1 + t152)), .int .i64 999983] (0, 0) _ rfl (bk BK130) Tryz.underlying25 rfl (by kernel_rfl)) rfl ?_
    exact ⟨er, iq66 HI0, bq66 HB, kq HK⟩
  rw [if_neg c28] at H
  have c28b0 : (t131 == 2) = false := beq_eq_false_iff_ne.mpr c28
  have c28b1 : (t131 != 2) = true := bne_iff_ne.mpr c28
  replace H := Option.bind_eq_some_iff.mp H
  obtain ⟨⟨t155, t156, t157, t158⟩, A350, H⟩ := H
  (try dsimp only at H)
  have A35 := Aside0.mk A350
  clear A350
  simp only [Option.some.injEq, Prod.mk.injEq] at H
  obtain ⟨rfl, rfl, rfl, rfl⟩ := H
  go_enter Tryz.func46, Tryz.ntmps46
  go_wp2_with (first | ((with_reducible refine gate_dst (N := 2) rfl ?_); refine be #[.int .i64 0, .int .i64 0] 25 ?_; intro gb130 hg w36 hbox hb; have GW130 := kz HK hg; have GE130 := kv HW0 (kz HK hg); have NB0_130 := Aside0.mk ((by rw [hg]; exact Nat.ne_of_lt (IsS66.lt (show IsS66 w0 _ g s0_0 s0_1 s0_2 from iq66 HI0)) : g ≠ gb130)); have NB130_0 := Aside0.mk NB0_130.1.symm; replace HI0 := iB66 HI0 hb; replace HK := kB HK hb; replace HB := zB66 HB hb; have BK130 := Aside0.mk hbox; clear hb hbox hg) | ((with_reducible refine gate_callee (f := 62) rfl ?_); refine gl (some 4) Tryz.func62 #[.pointer (some ⟨g, 0, none⟩), .int .i64 16] ?_; (with_reducible refine (spec_l1Cur_pick.calls g s0_0 s0_1 s0_2 16 t131 t132 t133 w0 _ ?side1 ?side2 A2.1).mono ?_); (case side1 => exact iq66 HI0); (case side2 => exact bq66 HB); rintro e w37 ⟨rfl, hi, hb, hk⟩; refine ⟨_, rfl, ?_⟩; replace BK130 := kb (o' := .cells #[.int .i64 0, .int .i64 0] 25 (0, 0)) BK130 hk NB130_0; replace HK := kT HK hk; replace HB := Aside0.mk hb; replace HI0 := Aside0.mk hi; clear hi hb hk) | ((with_reducible refine gate_callee (f := 80) rfl ?_); refine gl (some 27) Tryz.func80 #[.pointer (some ⟨g, 0, none⟩)] ?_; (with_reducible refine (spec_l1Cur_sureTurn.calls k g s0_0 t132 t133 t155 t156 t157 t158 w0 _ ?side1 ?side2 A35.1).mono ?_); (case side1 => exact iq66 HI0); (case side2 => exact bq66 HB); rintro e w38 ⟨rfl, hi, hb, hk⟩; refine ⟨_, rfl, ?_⟩; replace BK130 := kb (o' := .cells #[.int .i64 0, .int .i64 0] 25 (0, 0)) BK130 hk NB130_0; replace HK := kT HK hk; replace HB := Aside0.mk hb; replace HI0 := Aside0.mk hi; clear hi hb hk; have hnb39 := NB130_0.1; have hnc39 := NB0_130.1; obtain ⟨hcz40_0, hcz40_1, hfz40_0, hfz40_1⟩ := zc2 BK130))
  refine bodyPost_ret (results_cell_row rfl _ _ gb130 25 #[.int .i64 t155, .int .i64 t156] (0, 0) _ rfl (bk BK130) Tryz.underlying25 rfl (by kernel_rfl)) rfl ?_
  exact ⟨er, iq66 HI0, bq66 HB, kq HK⟩

end Go.Proofs.YtejlandhfnnkiaaGreatDoor.PFnClocksAgree
