/- A part of the walk of FnClocksAgree: which Lean function each Go function comes to, and that the machine's call does so. Written by a program of this repo (wip/gen/xprint.py). -/
import Derived.Test.YtejlandhfnnkiaaGreatDoorPFnClocksAgreex0
import Derived.Test.YtejlandhfnnkiaaGreatDoorPFnClocksAgreex12
namespace Go.Proofs.YtejlandhfnnkiaaGreatDoor.PFnClocksAgree
open Go.RowKit Go.Proofs.YtejlandhfnnkiaaGreatDoorW.PrintWords Go.Proofs.YtejlandhfnnkiaaGreatDoorW.PrintLast Go.Proofs.YtejlandhfnnkiaaGreatDoorW.PrintMore
attribute [local go_sem] max2_int min2_int max_two min_two max_three min_three max_four min_four   -- for this text's walks alone
set_option linter.unusedVariables false
set_option linter.unusedSimpArgs false

/-! ### spec_drFirst: function 39 -/
mutual
def spec_drFirst.j0 : Nat → Int → Int → Bool → Int → Int → Option (Int × Int × Bool)
  | 0, _, _, _, _, _ => none
  | k + 1, x1, x2, x16, x305000, x305001 => if x16 = true then (some (0, 1, true)) else (if x1 = 0 then (some (0, 0, false)) else (if x1 > 0 then (spec_drFirst.j1 k x1 x2 x305000 true x305000 x305001) else (spec_drFirst.j1 k x1 x2 x305000 (x305000 == 0) x305000 x305001)))
def spec_drFirst.j1 : Nat → Int → Int → Int → Bool → Int → Int → Option (Int × Int × Bool)
  | 0, _, _, _, _, _, _ => none
  | k + 1, x1, x2, x10, x28, x305000, x305001 => if x28 = true then ((spec_l1Abs.f x1).bind fun t306 => ((spec_drMake.f k (wrap64 ((wrap64 (x305001 - x305000)) * x2)) (wrap64 (x305001 * t306))).bind fun bt307 => (some (bt307.1, bt307.2.1, bt307.2.2)))) else ((spec_l1Abs.f x1).bind fun t310 => ((spec_drMake.f k (wrap64 (x10 * x2)) (wrap64 (x305001 * t310))).bind fun bt311 => (some (bt311.1, bt311.2.1, bt311.2.2))))
end
def spec_drFirst.f (k : Nat) (a0_0 : Int) (a0_1 : Int) (a1 : Int) (a2 : Int) (a3 : Bool) : Option (Int × Int × Bool) := if a0_0 = 0 then (spec_drFirst.j0 k a1 a2 a3 a0_0 a0_1) else (spec_drFirst.j0 k a1 a2 false a0_0 a0_1)
theorem spec_drFirst.mono_l : ∀ k, (∀ y0 y1 y2 y3 y4, LeO (spec_drFirst.j0 k y0 y1 y2 y3 y4) (spec_drFirst.j0 (k + 1) y0 y1 y2 y3 y4)) ∧ (∀ y0 y1 y2 y3 y4 y5, LeO (spec_drFirst.j1 k y0 y1 y2 y3 y4 y5) (spec_drFirst.j1 (k + 1) y0 y1 y2 y3 y4 y5))
  | 0 => ⟨fun _ _ _ _ _ r h => by simp [spec_drFirst.j0] at h, fun _ _ _ _ _ _ r h => by simp [spec_drFirst.j1] at h⟩
  | k + 1 => by
    obtain ⟨ih0, ih1⟩ := spec_drFirst.mono_l k
    refine ⟨?_, ?_⟩
    · intro y0 y1 y2 y3 y4
      unfold spec_drFirst.j0
      repeat' first
      | (with_reducible exact ih0 _ _ _ _ _)
      | (with_reducible exact ih1 _ _ _ _ _ _)
      | (with_reducible exact spec_drMake.mono _ _ _)
      | (with_reducible exact LeO.refl _)
      | (with_reducible exact LeO.none _)
      | (with_reducible refine LeO.ite ?_ ?_)
      | (with_reducible refine LeO.bind ?_ (fun _ => ?_))
      | exact ih0 _ _ _ _ _
      | exact ih1 _ _ _ _ _ _
      | exact spec_drMake.mono _ _ _
      | exact LeO.none _
      | refine LeO.ite ?_ ?_
      | refine LeO.bind ?_ (fun _ => ?_)
    intro y0 y1 y2 y3 y4 y5
    unfold spec_drFirst.j1
    repeat' first
    | (with_reducible exact ih0 _ _ _ _ _)
    | (with_reducible exact ih1 _ _ _ _ _ _)
    | (with_reducible exact spec_drMake.mono _ _ _)
    | (with_reducible exact LeO.refl _)
    | (with_reducible exact LeO.none _)
    | (with_reducible refine LeO.ite ?_ ?_)
    | (with_reducible refine LeO.bind ?_ (fun _ => ?_))
    | exact ih0 _ _ _ _ _
    | exact ih1 _ _ _ _ _ _
    | exact spec_drMake.mono _ _ _
    | exact LeO.none _
    | refine LeO.ite ?_ ?_
    | refine LeO.bind ?_ (fun _ => ?_)
theorem spec_drFirst.mono : ∀ a0 a1 a2 a3 a4 k, LeO (spec_drFirst.f k a0 a1 a2 a3 a4) (spec_drFirst.f (k + 1) a0 a1 a2 a3 a4) := by
  intro a0 a1 a2 a3 a4 k
  obtain ⟨ih0, ih1⟩ := spec_drFirst.mono_l k
  unfold spec_drFirst.f
  repeat' first
      | (with_reducible exact ih0 _ _ _ _ _)
      | (with_reducible exact ih1 _ _ _ _ _ _)
      | (with_reducible exact spec_drMake.mono _ _ _)
      | (with_reducible exact LeO.refl _)
      | (with_reducible exact LeO.none _)
      | (with_reducible refine LeO.ite ?_ ?_)
      | (with_reducible refine LeO.bind ?_ (fun _ => ?_))
      | exact ih0 _ _ _ _ _
      | exact ih1 _ _ _ _ _ _
      | exact spec_drMake.mono _ _ _
      | exact LeO.none _
      | refine LeO.ite ?_ ?_
      | refine LeO.bind ?_ (fun _ => ?_)
def spec_drFirst.T8 : Bool × List (List Nat × List Nat) := (true, [([], []), ([], []), ([0, 1], [0, 1]), ([], []), ([3], [3]), ([], []), ([5], [5]), ([4, 6], [4, 6]), ([2, 7, 6], [2, 7]), ([8], [8]), ([8], [8]), ([9, 8, 0, 1, 2, 3, 4, 5, 6, 7, 8, 9, 10], [9]), ([10, 11, 0, 1, 2, 3, 4, 5, 6, 7, 8, 9, 10, 11], [10])])
def spec_drFirst.B8 : List Nat := [0, 0, 3, 0, 8, 0, 32, 120, 255, 511, 511, 2047, 4095]
theorem spec_drFirst.tab8 : rtab .any (opsOf Tryz.f39 8) = spec_drFirst.T8 := by kernel_rfl
theorem spec_drFirst.bits8 : waitsOk spec_drFirst.T8.2 spec_drFirst.B8 = true := by kernel_rfl
set_option maxHeartbeats 8000000 in
set_option maxRecDepth 100000 in
theorem spec_drFirst.calls (k : Nat) (a0_0 : Int) (a0_1 : Int) (a1 : Int) (a2 : Int) (a3 : Bool) (r1 : Int) (r2 : Int) (r3 : Bool) (w : World) (h : spec_drFirst.f k a0_0 a0_1 a1 a2 a3 = some (r1, r2, r3)) :
    Calls Tryz.prog 39 #[.agg #[.int .i64 a0_0, .int .i64 a0_1], .int .i64 a1, .int .i64 a2, .bool a3] w fun e w' => e = .returned (.tuple #[.agg #[.int .i64 r1, .int .i64 r2], .bool r3]) ∧ Below w.heap.size w w' := by
  have hu25 := Tryz.underlying25
  have hu30 := Tryz.underlying30
  have HB := Aside0.mk (Below.refl w.heap.size w)
  have H : (if a0_0 = 0 then (spec_drFirst.j0 k a1 a2 a3 a0_0 a0_1) else (spec_drFirst.j0 k a1 a2 false a0_0 a0_1)) = some (r1, r2, r3) := h
  clear h
  have HC5 := Aside0.mk H
  clear H
  go_enter Tryz.func39, Tryz.ntmps39
  go_upto_region 1 with (first | ((with_reducible refine gate_dst (N := 4) rfl ?_); refine be #[.int .i64 a0_0, .int .i64 a0_1] 25 ?_; intro gb304 hg w6 hbox hb; have BK304 := Aside0.mk hbox; have GW304 := zs HB hg; have GE304 := zs HB hg; replace HB := zB HB hb; clear hb hbox hg) | ((with_reducible refine gate_dst (N := 8) rfl ?_); refine be #[.int .i64 0, .int .i64 0] 30 ?_; intro gb305 hg w7 hbox hb; have BK305 := Aside0.mk hbox; have GW305 := zs HB hg; have GE305 := zs HB hg; have NB304_305 := zn BK304 hg; have NB305_304 := zm BK304 hg; replace BK304 := zb BK304 hb; replace HB := zB HB hb; clear hb hbox hg))
  (try simp only [Act.put, List.setIfInBounds_toArray, List.set_cons_zero, List.set_cons_succ])
  go_cut [16] (fun v16 wc => ∃ (kq : Nat) (x16_4 : Bool), v16 = .bool x16_4 ∧ Aside0 (spec_drFirst.j0 kq a1 a2 x16_4 a0_0 a0_1 = some (r1, r2, r3)) ∧ Aside0 (kq ≤ k) ∧ Aside0 (wc.heap[gb304]? = some (.cells #[.int .i64 a0_0, .int .i64 a0_1] 25 (0, 0))) ∧ Aside0 (wc.heap[gb305]? = some (.cells #[.int .i64 0, .int .i64 0] 30 (0, 0))) ∧ Aside0 (Below w.heap.size w wc))
  case first =>
    have H := HC5.1
    clear HC5
    by_cases c8 : a0_0 = 0
    · rw [if_pos c8] at H
      have c8b0 : (a0_0 == 0) = true := beq_iff_eq.mpr c8
      have c8b1 : (a0_0 != 0) = false := bne_eq_false_iff_eq.mpr c8
      clear c8
      (first | rw [c8b0] | (simp only [i64_w, i32_w]; rw [c8b0]) | skip)
      have H' := Aside0.mk H
      clear H
      have hnb9 := NB304_305.1
      have hnc9 := NB305_304.1
      obtain ⟨hcz10_0, hcz10_1, hfz10_0, hfz10_1⟩ := zc2 BK304
      go_wp2
      go_meet
      case rel => exact ⟨_, (a3), ew, H', le_, ⟨bk BK304⟩, ⟨bk BK305⟩, ⟨bq HB⟩⟩
    rw [if_neg c8] at H
    have c8b0 : (a0_0 == 0) = false := beq_eq_false_iff_ne.mpr c8
    have c8b1 : (a0_0 != 0) = true := bne_iff_ne.mpr c8
    (first | rw [c8b0] | (simp only [i64_w, i32_w]; rw [c8b0]) | skip)
    have H' := Aside0.mk H
    clear H
    have hnb11 := NB304_305.1
    have hnc11 := NB305_304.1
    obtain ⟨hcz12_0, hcz12_1, hfz12_0, hfz12_1⟩ := zc2 BK304
    go_wp2
    go_meet
    case rel => exact ⟨_, (false), ew, H', le_, ⟨bk BK304⟩, ⟨bk BK305⟩, ⟨bq HB⟩⟩
  clear HC5
  try clear c1
  try clear p2
  try clear c3
  try clear c8
  try clear c8b0
  try clear c8b1
  try clear c9
  try clear c11
  try clear hcz10_0
  try clear hcz10_1
  try clear hcz12_0
  try clear hcz12_1
  try clear hfz10_0
  try clear hfz10_1
  try clear hfz12_0
  try clear hfz12_1
  obtain ⟨kq, x16_4, rfl, HA, HJ4, BK304, BK305, HB⟩ := hcut
  cases kq with
  | zero => exact absurd HA.1 (by simp [spec_drFirst.j0])
  | succ kj4 =>
    have H := HA.1
    clear HA
    simp only [spec_drFirst.j0] at H
    by_cases c13 : x16_4 = true
    · subst c13
      rw [if_pos rfl] at H
      simp only [Option.some.injEq, Prod.mk.injEq] at H
      obtain ⟨rfl, rfl, rfl⟩ := H
      have hnb14 := NB305_304.1
      have hnc14 := NB304_305.1
      obtain ⟨hcz15_0, hcz15_1, hfz15_0, hfz15_1⟩ := zc2 BK305
      go_wp2
      refine bodyPost_ret (results_ct rfl _ _ gb305 30 #[.int .i64 0, .int .i64 1] (0, 0) _ rfl (bk BK305) Tryz.underlying30 rfl (by kernel_rfl)) rfl ?_
      exact ⟨er, bq HB⟩
    replace c13 := Bool.eq_false_iff.mpr c13
    subst c13
    rw [if_neg (show ¬ (false = true) by decide)] at H
    by_cases c16 : a1 = 0
    · rw [if_pos c16] at H
      have c16b0 : (a1 == 0) = true := beq_iff_eq.mpr c16
      have c16b1 : (a1 != 0) = false := bne_eq_false_iff_eq.mpr c16
      clear c16
      simp only [Option.some.injEq, Prod.mk.injEq] at H
      obtain ⟨rfl, rfl, rfl⟩ := H
      have hnb17 := NB305_304.1
      have hnc17 := NB304_305.1
      obtain ⟨hcz18_0, hcz18_1, hfz18_0, hfz18_1⟩ := zc2 BK305
      go_wp2
      refine bodyPost_ret (results_ct rfl _ _ gb305 30 #[.int .i64 0, .int .i64 0] (0, 0) _ rfl (bk BK305) Tryz.underlying30 rfl (by kernel_rfl)) rfl ?_
      exact ⟨er, bq HB⟩
    rw [if_neg c16] at H
    have c16b0 : (a1 == 0) = false := beq_eq_false_iff_ne.mpr c16
    have c16b1 : (a1 != 0) = true := bne_iff_ne.mpr c16
    have HC19 := Aside0.mk H
    clear H
    have hnb20 := NB304_305.1
    have hnc20 := NB305_304.1
    obtain ⟨hcz21_0, hcz21_1, hfz21_0, hfz21_1⟩ := zc2 BK304
    go_upto_region 6 with (fail)
    go_cut [28] (fun v28 wc => ∃ (kq : Nat) (x28_18 : Bool), v28 = .bool x28_18 ∧ Aside0 (spec_drFirst.j1 kq a1 a2 a0_0 x28_18 a0_0 a0_1 = some (r1, r2, r3)) ∧ Aside0 (kq ≤ kj4) ∧ Aside0 (wc.heap[gb304]? = some (.cells #[.int .i64 a0_0, .int .i64 a0_1] 25 (0, 0))) ∧ Aside0 (wc.heap[gb305]? = some (.cells #[.int .i64 0, .int .i64 0] 30 (0, 0))) ∧ Aside0 (Below w.heap.size w wc))
    case first =>
      have H := HC19.1
      clear HC19
      by_cases c22 : a1 > 0
      · rw [if_pos c22] at H
        have c22b0 : decide (0 < a1) = true := decide_eq_true c22
        clear c22
        (first | rw [c22b0] | (simp only [i64_w, i32_w]; rw [c22b0]) | skip)
        have H' := Aside0.mk H
        clear H
        go_wp2
        go_meet
        case rel => exact ⟨_, (true), ew, H', ⟨by have := HJ4.1; first | omega | exact Nat.le_refl _⟩, ⟨bk BK304⟩, ⟨bk BK305⟩, ⟨bq HB⟩⟩
      rw [if_neg c22] at H
      have c22b0 : decide (0 < a1) = false := decide_eq_false c22
      clear c22
      (first | rw [c22b0] | (simp only [i64_w, i32_w]; rw [c22b0]) | skip)
      have H' := Aside0.mk H
      clear H
      go_wp2
      go_meet
      case rel => exact ⟨_, ((a0_0 == 0)), ew, H', ⟨by have := HJ4.1; first | omega | exact Nat.le_refl _⟩, ⟨bk BK304⟩, ⟨bk BK305⟩, ⟨bq HB⟩⟩
    clear HC19
    try clear c1
    try clear c2
    try clear p2
    try clear c3
    try clear c8
    try clear c8b0
    try clear c8b1
    try clear c9
    try clear c11
    try clear c13
    try clear c14
    try clear c16
    try clear c16b0
    try clear c16b1
    try clear c17
    try clear c20
    try clear c22
    try clear c22b0
    try clear hcz10_0
    try clear hcz10_1
    try clear hcz12_0
    try clear hcz12_1
    try clear hcz15_0
    try clear hcz15_1
    try clear hcz18_0
    try clear hcz18_1
    try clear hcz21_0
    try clear hcz21_1
    try clear hfz10_0
    try clear hfz10_1
    try clear hfz12_0
    try clear hfz12_1
    try clear hfz15_0
    try clear hfz15_1
    try clear hfz18_0
    try clear hfz18_1
    try clear hfz21_0
    try clear hfz21_1
    try clear p2
    obtain ⟨kq, x28_18, rfl, HA, HJ18, BK304, BK305, HB⟩ := hcut
    cases kq with
    | zero => exact absurd HA.1 (by simp [spec_drFirst.j1])
    | succ kj18 =>
      have H := HA.1
      clear HA
      simp only [spec_drFirst.j1] at H
      by_cases c23 : x28_18 = true
      · subst c23
        rw [if_pos rfl] at H
        replace H := Option.bind_eq_some_iff.mp H
        obtain ⟨t306, A240, H⟩ := H
        (try dsimp only at H)
        have A24 := Aside0.mk A240
        clear A240
        replace H := Option.bind_eq_some_iff.mp H
        obtain ⟨⟨t307, t308, t309⟩, A250, H⟩ := H
        (try dsimp only at H)
        have A25 := Aside0.mk A250
        clear A250
        simp only [Option.some.injEq, Prod.mk.injEq] at H
        obtain ⟨rfl, rfl, rfl⟩ := H
        have hnb26 := NB304_305.1
        have hnc26 := NB305_304.1
        obtain ⟨hcz27_0, hcz27_1, hfz27_0, hfz27_1⟩ := zc2 BK304
        try go_wp2
        replace BK304 := Aside0.mk (blk_drew BK304.1)
        replace BK305 := Aside0.mk (blk_drew BK305.1)
        replace HB := Aside0.mk (below_drew1 HB.1)
        refine start_ (n := 13) (S := fun w' => w'.cell? ⟨gb304, 0, none⟩ = some (.int .i64 a0_0) ∧ w'.cell? ⟨gb304, 1, none⟩ = some (.int .i64 a0_1)) (ds := []) (bs 13 0) (by kernel_rfl) rfl rfl ⟨(blk_cell BK304.1 0).trans rfl, (blk_cell BK304.1 1).trans rfl⟩ (fun hHeld => ?_); refine with_tabW spec_drFirst.tab8 spec_drFirst.bits8 (fun HT_ HW_ => ?_)
        generalize wc.drew = w28 at BK304 BK305 HB hHeld ⊢
        refine pu 0 34 HT_ rfl rfl (bs 13 1) ?_
        refine pu 1 35 HT_ rfl rfl (bs 13 3) ?_
        refine pu 2 36 HT_ rfl rfl (bs 13 7) ?_
        refine pu 3 37 HT_ rfl rfl (bs 13 15) ?_
        refine pu 5 39 HT_ rfl rfl (bs 13 47) ?_
        refine tk 4 38 HT_ HW_ hHeld rfl rfl (bs 13 63) ?_
        refine one_ (i := 6) (N := some 40) (bs 13 127) rfl rfl (one_of HT_.1 (by kernel_rfl)) (by decide) (fun K hK => ?_)
        refine gs Tryz.func42 #[.int .i64 a1] ?_
        with_reducible refine (spec_l1Abs.calls a1 t306 _ A24.1).mono ?_
        rintro e w' ⟨rfl, ⟨nd, rfl⟩⟩
        refine ⟨_, rfl, ?_⟩
        refine hK.out _ _ ⟨(blk_cell BK304.1 0).trans rfl, (blk_cell BK304.1 1).trans rfl⟩ (fun hHeld => ?_)
        clear hK K
        refine norm_ (aq 40) ?_
        refine pu 7 41 HT_ rfl rfl (bs 13 255) ?_
        refine one_ (i := 8) (N := some 42) (bs 13 511) rfl rfl (one_of HT_.1 (by kernel_rfl)) (by decide) (fun K hK => ?_)
        refine gs Tryz.func41 #[.int .i64 (wrap64 ((wrap64 (a0_1 - a0_0)) * a2)), .int .i64 (wrap64 (a0_1 * t306))] ?_
        with_reducible refine (spec_drMake.calls kj18 (wrap64 ((wrap64 (a0_1 - a0_0)) * a2)) (wrap64 (a0_1 * t306)) t307 t308 t309 _ A25.1).mono ?_
        rintro e w29 ⟨rfl, hb⟩
        refine ⟨_, rfl, ?_⟩
        replace BK304 := zb BK304 hb
        replace BK305 := zb BK305 hb
        replace HB := zB HB hb
        (try clear hb)
        (try clear hb2)
        (try clear hk)
        (try clear hi)
        refine hK.out _ _ ⟨(blk_cell BK304.1 0).trans rfl, (blk_cell BK304.1 1).trans rfl⟩ (fun hHeld => ?_)
        clear hK K
        refine norm_ (aq 42) ?_
        refine pu 9 43 HT_ rfl rfl (bs 13 1023) ?_
        refine pu 10 44 HT_ rfl rfl (bs 13 2047) ?_
        refine one_ (i := 11) (N := none) (bs 13 4095) rfl rfl (one_of HT_.1 (by kernel_rfl)) (by decide) (fun K hK => ?_)
        have hs30 : w29.cell? ⟨gb305, 0, none⟩ = some (.int .i64 0) := (blk_cell BK305.1 0).trans rfl
        have hfs30 := blk_frozen BK305.1 0
        have hns30_0 := NB304_305.1
        have hms30_0 := NB305_304.1
        have hs31 : w29.cell? ⟨gb305, 1, none⟩ = some (.int .i64 0) := (blk_cell BK305.1 1).trans rfl
        have hfs31 := blk_frozen BK305.1 1
        have hns31_0 := NB304_305.1
        have hms31_0 := NB305_304.1
        refine skip_ (w1 := ?_) (by rfl) rfl ?_ ?_
        rotate_left
        · go_simp
          rfl
        refine hK.out _ _ ⟨((cell_far (p := ⟨gb305, _, none⟩) NB304_305.1 _).trans (((cell_far (p := ⟨gb305, _, none⟩) NB304_305.1 _).trans (hHeld.1)))), ((cell_far (p := ⟨gb305, _, none⟩) NB304_305.1 _).trans (((cell_far (p := ⟨gb305, _, none⟩) NB304_305.1 _).trans (hHeld.2))))⟩ (fun hHeld => ?_)
        clear hK K
        refine pu 12 9 HT_ rfl rfl (bs 13 8191) ?_
        refine done_ (done_of HT_.1 (by kernel_rfl)) ?_
        try go_wp2
        refine bodyPost_ret (results_ct rfl _ _ gb305 30 #[.int .i64 t307, .int .i64 t308] (0, 0) _ rfl (bk BK305) Tryz.underlying30 rfl (by kernel_rfl)) rfl ?_
        exact ⟨er, bq HB⟩
      replace c23 := Bool.eq_false_iff.mpr c23
      subst c23
      rw [if_neg (show ¬ (false = true) by decide)] at H
      replace H := Option.bind_eq_some_iff.mp H
      obtain ⟨t310, A320, H⟩ := H
      (try dsimp only at H)
      have A32 := Aside0.mk A320
      clear A320
      replace H := Option.bind_eq_some_iff.mp H
      obtain ⟨⟨t311, t312, t313⟩, A330, H⟩ := H
      (try dsimp only at H)
      have A33 := Aside0.mk A330
      clear A330
      simp only [Option.some.injEq, Prod.mk.injEq] at H
      obtain ⟨rfl, rfl, rfl⟩ := H
      try go_wp2
      replace BK304 := Aside0.mk (blk_drew BK304.1)
      replace BK305 := Aside0.mk (blk_drew BK305.1)
      replace HB := Aside0.mk (below_drew1 HB.1)
      refine start_ (n := 13) (S := fun w' => w'.cell? ⟨gb304, 0, none⟩ = some (.int .i64 a0_0) ∧ w'.cell? ⟨gb304, 1, none⟩ = some (.int .i64 a0_1)) (ds := []) (bs 13 0) (by kernel_rfl) rfl rfl ⟨(blk_cell BK304.1 0).trans rfl, (blk_cell BK304.1 1).trans rfl⟩ (fun hHeld => ?_); refine with_tabW spec_drFirst.tab8 spec_drFirst.bits8 (fun HT_ HW_ => ?_)
      generalize wc.drew = w34 at BK304 BK305 HB hHeld ⊢
      refine pu 0 34 HT_ rfl rfl (bs 13 1) ?_
      refine pu 1 35 HT_ rfl rfl (bs 13 3) ?_
      refine pu 2 36 HT_ rfl rfl (bs 13 7) ?_
      refine pu 3 37 HT_ rfl rfl (bs 13 15) ?_
      refine pu 5 39 HT_ rfl rfl (bs 13 47) ?_
      refine tk 4 38 HT_ HW_ hHeld rfl rfl (bs 13 63) ?_
      refine one_ (i := 6) (N := some 40) (bs 13 127) rfl rfl (one_of HT_.1 (by kernel_rfl)) (by decide) (fun K hK => ?_)
      refine gs Tryz.func42 #[.int .i64 a1] ?_
      with_reducible refine (spec_l1Abs.calls a1 t310 _ A32.1).mono ?_
      rintro e w' ⟨rfl, ⟨nd, rfl⟩⟩
      refine ⟨_, rfl, ?_⟩
      refine hK.out _ _ ⟨(blk_cell BK304.1 0).trans rfl, (blk_cell BK304.1 1).trans rfl⟩ (fun hHeld => ?_)
      clear hK K
      refine norm_ (aq 40) ?_
      refine pu 7 41 HT_ rfl rfl (bs 13 255) ?_
      refine one_ (i := 8) (N := some 42) (bs 13 511) rfl rfl (one_of HT_.1 (by kernel_rfl)) (by decide) (fun K hK => ?_)
      refine gs Tryz.func41 #[.int .i64 (wrap64 (a0_0 * a2)), .int .i64 (wrap64 (a0_1 * t310))] ?_
      with_reducible refine (spec_drMake.calls kj18 (wrap64 (a0_0 * a2)) (wrap64 (a0_1 * t310)) t311 t312 t313 _ A33.1).mono ?_
      rintro e w35 ⟨rfl, hb⟩
      refine ⟨_, rfl, ?_⟩
      replace BK304 := zb BK304 hb
      replace BK305 := zb BK305 hb
      replace HB := zB HB hb
      (try clear hb)
      (try clear hb2)
      (try clear hk)
      (try clear hi)
      refine hK.out _ _ ⟨(blk_cell BK304.1 0).trans rfl, (blk_cell BK304.1 1).trans rfl⟩ (fun hHeld => ?_)
      clear hK K
      refine norm_ (aq 42) ?_
      refine pu 9 43 HT_ rfl rfl (bs 13 1023) ?_
      refine pu 10 44 HT_ rfl rfl (bs 13 2047) ?_
      refine one_ (i := 11) (N := none) (bs 13 4095) rfl rfl (one_of HT_.1 (by kernel_rfl)) (by decide) (fun K hK => ?_)
      have hs36 : w35.cell? ⟨gb305, 0, none⟩ = some (.int .i64 0) := (blk_cell BK305.1 0).trans rfl
      have hfs36 := blk_frozen BK305.1 0
      have hns36_0 := NB304_305.1
      have hms36_0 := NB305_304.1
      have hs37 : w35.cell? ⟨gb305, 1, none⟩ = some (.int .i64 0) := (blk_cell BK305.1 1).trans rfl
      have hfs37 := blk_frozen BK305.1 1
      have hns37_0 := NB304_305.1
      have hms37_0 := NB305_304.1
      refine skip_ (w1 := ?_) (by rfl) rfl ?_ ?_
      rotate_left
      · go_simp
        rfl
      refine hK.out _ _ ⟨((cell_far (p := ⟨gb305, _, none⟩) NB304_305.1 _).trans (((cell_far (p := ⟨gb305, _, none⟩) NB304_305.1 _).trans (hHeld.1)))), ((cell_far (p := ⟨gb305, _, none⟩) NB304_305.1 _).trans (((cell_far (p := ⟨gb305, _, none⟩) NB304_305.1 _).trans (hHeld.2))))⟩ (fun hHeld => ?_)
      clear hK K
      refine pu 12 9 HT_ rfl rfl (bs 13 8191) ?_
      refine done_ (done_of HT_.1 (by kernel_rfl)) ?_
      try go_wp2
      refine bodyPost_ret (results_ct rfl _ _ gb305 30 #[.int .i64 t311, .int .i64 t312] (0, 0) _ rfl (bk BK305) Tryz.underlying30 rfl (by kernel_rfl)) rfl ?_
      exact ⟨er, bq HB⟩

end Go.Proofs.YtejlandhfnnkiaaGreatDoor.PFnClocksAgree
