/- A part of the walk of FnClocksAgree: which Lean function each Go function comes to, and that the machine's call does so. Written by a program of this repo (wip/gen/xprint.py). -/
import Derived.Test.YtejlandhfnnkiaaGreatDoorPFnClocksAgreex0
import Derived.Test.YtejlandhfnnkiaaGreatDoorPFnClocksAgreex4
import Derived.Test.YtejlandhfnnkiaaGreatDoorPFnClocksAgreex10
namespace Go.Proofs.YtejlandhfnnkiaaGreatDoor.PFnClocksAgree
open Go.RowKit Go.Proofs.YtejlandhfnnkiaaGreatDoorW.PrintWords Go.Proofs.YtejlandhfnnkiaaGreatDoorW.PrintLast Go.Proofs.YtejlandhfnnkiaaGreatDoorW.PrintMore
attribute [local go_sem] max2_int min2_int max_two min_two max_three min_three max_four min_four   -- for this text's walks alone
set_option linter.unusedVariables false
set_option linter.unusedSimpArgs false

/-! ### spec_drApart: function 38 -/
def spec_drApart.f (k : Nat) (a0_0 : Int) (a0_1 : Int) (a0_2 : Int) (a0_3 : Int) (a1_0 : Int) (a1_1 : Int) (a1_2 : Int) (a1_3 : Int) : Option (Int × Int × Int × Int) := (spec_diAdd.f k a0_0 a0_1 a1_0 a1_1 (-1)).bind fun bt291 => (some (bt291.1, bt291.2.1, wrap64 ((wrap64 (a0_2 * a1_3)) - (wrap64 (a1_2 * a0_3))), wrap64 (a0_3 * a1_3)))
theorem spec_drApart.mono : ∀ a0 a1 a2 a3 a4 a5 a6 a7 k, LeO (spec_drApart.f k a0 a1 a2 a3 a4 a5 a6 a7) (spec_drApart.f (k + 1) a0 a1 a2 a3 a4 a5 a6 a7) := by
  intro a0 a1 a2 a3 a4 a5 a6 a7 k
  unfold spec_drApart.f
  repeat' first
      | (with_reducible exact spec_diAdd.mono _ _ _ _ _ _)
      | (with_reducible exact LeO.refl _)
      | (with_reducible exact LeO.none _)
      | (with_reducible refine LeO.ite ?_ ?_)
      | (with_reducible refine LeO.bind ?_ (fun _ => ?_))
      | exact spec_diAdd.mono _ _ _ _ _ _
      | exact LeO.none _
      | refine LeO.ite ?_ ?_
      | refine LeO.bind ?_ (fun _ => ?_)
def spec_drApart.T2 : Bool × List (List Nat × List Nat) := (true, [([], []), ([], []), ([1], [1]), ([], []), ([3], [3]), ([2, 4], [2, 4]), ([], []), ([6], [6]), ([], []), ([8], [8]), ([7, 9], [7, 9]), ([5, 10], [5, 10]), ([], []), ([12], [12]), ([], []), ([14], [14]), ([13, 15], [13, 15]), ([0, 0], [0]), ([11, 17, 0, 1, 2, 3, 4, 5, 6, 7, 8, 9, 10, 11, 17], [11]), ([16, 18, 0, 1, 2, 3, 4, 5, 6, 7, 8, 9, 10, 11, 12, 13, 14, 15, 16, 17, 18], [16])])
def spec_drApart.B2 : List Nat := [0, 0, 2, 0, 8, 30, 0, 64, 0, 256, 960, 2046, 0, 4096, 0, 16384, 61440, 1, 135167, 524287]
theorem spec_drApart.tab2 : rtab .any (opsOf Tryz.f38 2) = spec_drApart.T2 := by kernel_rfl
theorem spec_drApart.bits2 : waitsOk spec_drApart.T2.2 spec_drApart.B2 = true := by kernel_rfl
set_option maxHeartbeats 8000000 in
set_option maxRecDepth 100000 in
theorem spec_drApart.calls (k : Nat) (a0_0 : Int) (a0_1 : Int) (a0_2 : Int) (a0_3 : Int) (a1_0 : Int) (a1_1 : Int) (a1_2 : Int) (a1_3 : Int) (r1 : Int) (r2 : Int) (r3 : Int) (r4 : Int) (w : World) (h : spec_drApart.f k a0_0 a0_1 a0_2 a0_3 a1_0 a1_1 a1_2 a1_3 = some (r1, r2, r3, r4)) :
    Calls Tryz.prog 38 #[.agg #[.int .i64 a0_0, .int .i64 a0_1, .int .i64 a0_2, .int .i64 a0_3], .agg #[.int .i64 a1_0, .int .i64 a1_1, .int .i64 a1_2, .int .i64 a1_3]] w fun e w' => e = .returned (.tuple #[.agg #[.int .i64 r1, .int .i64 r2], .int .i64 r3, .int .i64 r4]) ∧ Below w.heap.size w w' := by
  have hu27 := Tryz.underlying27
  have hu25 := Tryz.underlying25
  have HB := Aside0.mk (Below.refl w.heap.size w)
  have H : ((spec_diAdd.f k a0_0 a0_1 a1_0 a1_1 (-1)).bind fun bt291 => (some (bt291.1, bt291.2.1, wrap64 ((wrap64 (a0_2 * a1_3)) - (wrap64 (a1_2 * a0_3))), wrap64 (a0_3 * a1_3)))) = some (r1, r2, r3, r4) := h
  clear h
  replace H := Option.bind_eq_some_iff.mp H
  obtain ⟨⟨t291, t292, t293⟩, A30, H⟩ := H
  (try dsimp only at H)
  have A3 := Aside0.mk A30
  clear A30
  simp only [Option.some.injEq, Prod.mk.injEq] at H
  obtain ⟨rfl, rfl, rfl, rfl⟩ := H
  go_enter Tryz.func38, Tryz.ntmps38
  try go_wp2_with (first | ((with_reducible refine gate_dst (N := 2) rfl ?_); refine be #[.int .i64 a0_0, .int .i64 a0_1, .int .i64 a0_2, .int .i64 a0_3] 27 ?_; intro gb288 hg w4 hbox hb; have BK288 := Aside0.mk hbox; have GW288 := zs HB hg; have GE288 := zs HB hg; replace HB := zB HB hb; clear hb hbox hg) | ((with_reducible refine gate_dst (N := 3) rfl ?_); refine be #[.int .i64 a1_0, .int .i64 a1_1, .int .i64 a1_2, .int .i64 a1_3] 27 ?_; intro gb289 hg w5 hbox hb; have BK289 := Aside0.mk hbox; have GW289 := zs HB hg; have GE289 := zs HB hg; have NB288_289 := zn BK288 hg; have NB289_288 := zm BK288 hg; replace BK288 := zb BK288 hb; replace HB := zB HB hb; clear hb hbox hg) | ((with_reducible refine gate_dst (N := 4) rfl ?_); refine be #[.int .i64 0, .int .i64 0] 25 ?_; intro gb290 hg w6 hbox hb; have BK290 := Aside0.mk hbox; have GW290 := zs HB hg; have GE290 := zs HB hg; have NB288_290 := zn BK288 hg; have NB290_288 := zm BK288 hg; have NB289_290 := zn BK289 hg; have NB290_289 := zm BK289 hg; replace BK288 := zb BK288 hb; replace BK289 := zb BK289 hb; replace HB := zB HB hb; clear hb hbox hg; have hnb7 := NB288_289.1; have hnc7 := NB289_288.1; have hnb8 := NB288_290.1; have hnc8 := NB290_288.1; obtain ⟨hcz9_0, hcz9_1, hcz9_2, hcz9_3, hfz9_0, hfz9_1, hfz9_2, hfz9_3⟩ := zc4 BK288; have hnb10 := NB289_290.1; have hnc10 := NB290_289.1; obtain ⟨hcz11_0, hcz11_1, hcz11_2, hcz11_3, hfz11_0, hfz11_1, hfz11_2, hfz11_3⟩ := zc4 BK289) | ((with_reducible refine gate_callee (f := 77) rfl ?_); refine gl (some 14) Tryz.func77 #[.agg #[.int .i64 a0_0, .int .i64 a0_1], .agg #[.int .i64 a1_0, .int .i64 a1_1], .int .i64 (-1)] ?_; (with_reducible refine (spec_diAdd.calls k a0_0 a0_1 a1_0 a1_1 (-1) t291 t292 t293 _ A3.1).mono ?_); rintro e w12 ⟨rfl, hb⟩; refine ⟨_, rfl, ?_⟩; replace BK288 := zb BK288 hb; replace BK289 := zb BK289 hb; replace BK290 := zb BK290 hb; replace HB := zB HB hb; clear hb) | ((with_reducible refine gate_dst (N := 7) rfl ?_); refine be #[.int .i64 0, .int .i64 0] 25 ?_; intro gb294 hg w13 hbox hb; have BK294 := Aside0.mk hbox; have GW294 := zs HB hg; have GE294 := zs HB hg; have NB288_294 := zn BK288 hg; have NB294_288 := zm BK288 hg; have NB289_294 := zn BK289 hg; have NB294_289 := zm BK289 hg; have NB290_294 := zn BK290 hg; have NB294_290 := zm BK290 hg; replace BK288 := zb BK288 hb; replace BK289 := zb BK289 hb; replace BK290 := zb BK290 hb; replace HB := zB HB hb; clear hb hbox hg; have hnb14 := NB294_288.1; have hnc14 := NB288_294.1; have hnb15 := NB294_289.1; have hnc15 := NB289_294.1; have hnb16 := NB294_290.1; have hnc16 := NB290_294.1; obtain ⟨hcz17_0, hcz17_1, hfz17_0, hfz17_1⟩ := zc2 BK294))
  have n0_ : Aside0 (((w13.setCell ⟨gb294, 0, none⟩ (.int .i64 t291)).setCell ⟨gb294, 1, none⟩ (.int .i64 t292)).heap[gb288]? = some (.cells #[.int .i64 a0_0, .int .i64 a0_1, .int .i64 a0_2, .int .i64 a0_3] 27 (0, 0))) := ⟨bk BK288⟩
  have n1_ : Aside0 (((w13.setCell ⟨gb294, 0, none⟩ (.int .i64 t291)).setCell ⟨gb294, 1, none⟩ (.int .i64 t292)).heap[gb289]? = some (.cells #[.int .i64 a1_0, .int .i64 a1_1, .int .i64 a1_2, .int .i64 a1_3] 27 (0, 0))) := ⟨bk BK289⟩
  have n2_ : Aside0 (((w13.setCell ⟨gb294, 0, none⟩ (.int .i64 t291)).setCell ⟨gb294, 1, none⟩ (.int .i64 t292)).heap[gb290]? = some (.cells #[.int .i64 0, .int .i64 0] 25 (0, 0))) := ⟨bk BK290⟩
  have n3_ : Aside0 (((w13.setCell ⟨gb294, 0, none⟩ (.int .i64 t291)).setCell ⟨gb294, 1, none⟩ (.int .i64 t292)).heap[gb294]? = some (.cells #[.int .i64 t291, .int .i64 t292] 25 (0, 0))) := ⟨bk BK294⟩
  have n4_ : Aside0 (Below w.heap.size w ((w13.setCell ⟨gb294, 0, none⟩ (.int .i64 t291)).setCell ⟨gb294, 1, none⟩ (.int .i64 t292))) := ⟨bq HB⟩
  (try clear BK288)
  (try clear BK289)
  (try clear BK290)
  (try clear BK294)
  (try clear HB)
  generalize ((w13.setCell ⟨gb294, 0, none⟩ (.int .i64 t291)).setCell ⟨gb294, 1, none⟩ (.int .i64 t292)) = w18 at n0_ n1_ n2_ n3_ n4_ ⊢
  have BK288 := n0_
  have BK289 := n1_
  have BK290 := n2_
  have BK294 := n3_
  have HB := n4_
  clear n0_ n1_ n2_ n3_ n4_
  replace BK288 := Aside0.mk (blk_drew BK288.1)
  replace BK289 := Aside0.mk (blk_drew BK289.1)
  replace BK290 := Aside0.mk (blk_drew BK290.1)
  replace BK294 := Aside0.mk (blk_drew BK294.1)
  replace HB := Aside0.mk (below_drew1 HB.1)
  refine start_ (n := 20) (S := fun w' => w'.cell? ⟨gb294, 0, none⟩ = some (.int .i64 t291) ∧ w'.cell? ⟨gb294, 1, none⟩ = some (.int .i64 t292) ∧ w'.cell? ⟨gb288, 0, none⟩ = some (.int .i64 a0_0) ∧ w'.cell? ⟨gb288, 1, none⟩ = some (.int .i64 a0_1) ∧ w'.cell? ⟨gb288, 2, none⟩ = some (.int .i64 a0_2) ∧ w'.cell? ⟨gb288, 3, none⟩ = some (.int .i64 a0_3) ∧ w'.cell? ⟨gb289, 0, none⟩ = some (.int .i64 a1_0) ∧ w'.cell? ⟨gb289, 1, none⟩ = some (.int .i64 a1_1) ∧ w'.cell? ⟨gb289, 2, none⟩ = some (.int .i64 a1_2) ∧ w'.cell? ⟨gb289, 3, none⟩ = some (.int .i64 a1_3)) (ds := []) (bs 20 0) (by kernel_rfl) rfl rfl ⟨(blk_cell BK294.1 0).trans rfl, (blk_cell BK294.1 1).trans rfl, (blk_cell BK288.1 0).trans rfl, (blk_cell BK288.1 1).trans rfl, (blk_cell BK288.1 2).trans rfl, (blk_cell BK288.1 3).trans rfl, (blk_cell BK289.1 0).trans rfl, (blk_cell BK289.1 1).trans rfl, (blk_cell BK289.1 2).trans rfl, (blk_cell BK289.1 3).trans rfl⟩ (fun hHeld => ?_); refine with_tabW spec_drApart.tab2 spec_drApart.bits2 (fun HT_ HW_ => ?_)
  generalize w18.drew = w19 at BK288 BK289 BK290 BK294 HB hHeld ⊢
  refine pu 1 18 HT_ rfl rfl (bs 20 2) ?_
  refine pu 3 20 HT_ rfl rfl (bs 20 10) ?_
  refine pu 6 23 HT_ rfl rfl (bs 20 74) ?_
  refine pu 8 25 HT_ rfl rfl (bs 20 330) ?_
  refine pu 12 29 HT_ rfl rfl (bs 20 4426) ?_
  refine pu 14 31 HT_ rfl rfl (bs 20 20810) ?_
  refine tk 0 17 HT_ HW_ hHeld rfl rfl (bs 20 20811) ?_
  refine tk 2 19 HT_ HW_ hHeld rfl rfl (bs 20 20815) ?_
  refine tk 4 21 HT_ HW_ hHeld rfl rfl (bs 20 20831) ?_
  refine pu 5 22 HT_ rfl rfl (bs 20 20863) ?_
  refine tk 7 24 HT_ HW_ hHeld rfl rfl (bs 20 20991) ?_
  refine tk 9 26 HT_ HW_ hHeld rfl rfl (bs 20 21503) ?_
  refine pu 10 27 HT_ rfl rfl (bs 20 22527) ?_
  refine pu 11 28 HT_ rfl rfl (bs 20 24575) ?_
  refine tk 13 30 HT_ HW_ hHeld rfl rfl (bs 20 32767) ?_
  refine tk 15 32 HT_ HW_ hHeld rfl rfl (bs 20 65535) ?_
  refine pu 16 33 HT_ rfl rfl (bs 20 131071) ?_
  refine one_ (i := 17) (N := none) (bs 20 262143) rfl rfl (one_of HT_.1 (by kernel_rfl)) (by decide) (fun K hK => ?_)
  have hs20 : w19.cell? ⟨gb290, 0, none⟩ = some (.int .i64 0) := (blk_cell BK290.1 0).trans rfl
  have hfs20 := blk_frozen BK290.1 0
  have hns20_0 := NB288_290.1
  have hns20_1 := NB289_290.1
  have hns20_3 := NB294_290.1
  have hms20_0 := NB290_288.1
  have hms20_1 := NB290_289.1
  have hms20_3 := NB290_294.1
  have hs21 : w19.cell? ⟨gb290, 1, none⟩ = some (.int .i64 0) := (blk_cell BK290.1 1).trans rfl
  have hfs21 := blk_frozen BK290.1 1
  have hns21_0 := NB288_290.1
  have hns21_1 := NB289_290.1
  have hns21_3 := NB294_290.1
  have hms21_0 := NB290_288.1
  have hms21_1 := NB290_289.1
  have hms21_3 := NB290_294.1
  refine skip_ (w1 := ?_) (by rfl) rfl ?_ ?_
  rotate_left
  · go_simp
    rfl
  refine hK.out _ _ ⟨((cell_far (p := ⟨gb290, _, none⟩) NB294_290.1 _).trans (((cell_far (p := ⟨gb290, _, none⟩) NB294_290.1 _).trans (hHeld.1)))), ((cell_far (p := ⟨gb290, _, none⟩) NB294_290.1 _).trans (((cell_far (p := ⟨gb290, _, none⟩) NB294_290.1 _).trans (hHeld.2.1)))), ((cell_far (p := ⟨gb290, _, none⟩) NB288_290.1 _).trans (((cell_far (p := ⟨gb290, _, none⟩) NB288_290.1 _).trans (hHeld.2.2.1)))), ((cell_far (p := ⟨gb290, _, none⟩) NB288_290.1 _).trans (((cell_far (p := ⟨gb290, _, none⟩) NB288_290.1 _).trans (hHeld.2.2.2.1)))), ((cell_far (p := ⟨gb290, _, none⟩) NB288_290.1 _).trans (((cell_far (p := ⟨gb290, _, none⟩) NB288_290.1 _).trans (hHeld.2.2.2.2.1)))), ((cell_far (p := ⟨gb290, _, none⟩) NB288_290.1 _).trans (((cell_far (p := ⟨gb290, _, none⟩) NB288_290.1 _).trans (hHeld.2.2.2.2.2.1)))), ((cell_far (p := ⟨gb290, _, none⟩) NB289_290.1 _).trans (((cell_far (p := ⟨gb290, _, none⟩) NB289_290.1 _).trans (hHeld.2.2.2.2.2.2.1)))), ((cell_far (p := ⟨gb290, _, none⟩) NB289_290.1 _).trans (((cell_far (p := ⟨gb290, _, none⟩) NB289_290.1 _).trans (hHeld.2.2.2.2.2.2.2.1)))), ((cell_far (p := ⟨gb290, _, none⟩) NB289_290.1 _).trans (((cell_far (p := ⟨gb290, _, none⟩) NB289_290.1 _).trans (hHeld.2.2.2.2.2.2.2.2.1)))), ((cell_far (p := ⟨gb290, _, none⟩) NB289_290.1 _).trans (((cell_far (p := ⟨gb290, _, none⟩) NB289_290.1 _).trans (hHeld.2.2.2.2.2.2.2.2.2))))⟩ (fun hHeld => ?_)
  clear hK K
  refine pu 18 5 HT_ rfl rfl (bs 20 524287) ?_
  refine pu 19 6 HT_ rfl rfl (bs 20 1048575) ?_
  refine done_ (done_of HT_.1 (by kernel_rfl)) ?_
  try go_wp2
  refine bodyPost_ret (results_ctt rfl _ _ gb290 25 #[.int .i64 t291, .int .i64 t292] (0, 0) _ rfl (bk BK290) Tryz.underlying25 rfl (by kernel_rfl)) rfl ?_
  exact ⟨er, bq HB⟩

/-! ### spec_drGood: function 53 -/
def spec_drGood.f (k : Nat) (a0_0 : Int) (a0_1 : Int) : Option (Bool) := (spec_l1In.f a0_0 0 1000000).bind fun t296 => (if t296 = true then ((spec_l1In.f a0_1 1 10000).bind fun t297 => (if t297 = true then ((spec_diCommon.f k a0_0 a0_1).bind fun t298 => (some (t298 == 1))) else (some false))) else (some false))
theorem spec_drGood.mono : ∀ a0 a1 k, LeO (spec_drGood.f k a0 a1) (spec_drGood.f (k + 1) a0 a1) := by
  intro a0 a1 k
  unfold spec_drGood.f
  repeat' first
      | (with_reducible exact spec_diCommon.mono _ _ _)
      | (with_reducible exact LeO.refl _)
      | (with_reducible exact LeO.none _)
      | (with_reducible refine LeO.ite ?_ ?_)
      | (with_reducible refine LeO.bind ?_ (fun _ => ?_))
      | exact spec_diCommon.mono _ _ _
      | exact LeO.none _
      | refine LeO.ite ?_ ?_
      | refine LeO.bind ?_ (fun _ => ?_)
set_option maxHeartbeats 8000000 in
set_option maxRecDepth 100000 in
theorem spec_drGood.calls (k : Nat) (a0_0 : Int) (a0_1 : Int) (r : Bool) (w : World) (h : spec_drGood.f k a0_0 a0_1 = some r) :
    Calls Tryz.prog 53 #[.agg #[.int .i64 a0_0, .int .i64 a0_1]] w fun e w' => e = .returned (.bool r) ∧ Below w.heap.size w w' := by
  have hu30 := Tryz.underlying30
  have HB := Aside0.mk (Below.refl w.heap.size w)
  have H : ((spec_l1In.f a0_0 0 1000000).bind fun t296 => (if t296 = true then ((spec_l1In.f a0_1 1 10000).bind fun t297 => (if t297 = true then ((spec_diCommon.f k a0_0 a0_1).bind fun t298 => (some (t298 == 1))) else (some false))) else (some false))) = some r := h
  clear h
  replace H := Option.bind_eq_some_iff.mp H
  obtain ⟨t296, A20, H⟩ := H
  (try dsimp only at H)
  have A2 := Aside0.mk A20
  clear A20
  by_cases c3 : t296 = true
  · subst c3
    rw [if_pos rfl] at H
    replace H := Option.bind_eq_some_iff.mp H
    obtain ⟨t297, A40, H⟩ := H
    (try dsimp only at H)
    have A4 := Aside0.mk A40
    clear A40
    by_cases c5 : t297 = true
    · subst c5
      rw [if_pos rfl] at H
      replace H := Option.bind_eq_some_iff.mp H
      obtain ⟨t298, A60, H⟩ := H
      (try dsimp only at H)
      have A6 := Aside0.mk A60
      clear A60
      obtain rfl := Option.some.inj H
      go_enter Tryz.func53, Tryz.ntmps53
      go_wp2_with (first | ((with_reducible refine gate_dst (N := 1) rfl ?_); refine be #[.int .i64 a0_0, .int .i64 a0_1] 30 ?_; intro gb295 hg w7 hbox hb; have BK295 := Aside0.mk hbox; have GW295 := zs HB hg; have GE295 := zs HB hg; replace HB := zB HB hb; clear hb hbox hg; obtain ⟨hcz8_0, hcz8_1, hfz8_0, hfz8_1⟩ := zc2 BK295) | ((with_reducible refine gate_callee (f := 63) rfl ?_); refine gl (some 5) Tryz.func63 #[.int .i64 a0_0, .int .i64 0, .int .i64 1000000] ?_; (with_reducible refine (spec_l1In.calls a0_0 0 1000000 true _ A2.1).mono ?_); rintro e w' ⟨rfl, ⟨nd, rfl⟩⟩; refine ⟨_, rfl, ?_⟩) | (go_at_call 63; (with_reducible refine (spec_l1In.calls a0_1 1 10000 true _ A4.1).mono ?_); rintro e w' ⟨rfl, ⟨nd, rfl⟩⟩) | (go_at_call 54; (with_reducible refine (spec_diCommon.calls k a0_0 a0_1 t298 _ A6.1).mono ?_); rintro e w' ⟨rfl, ⟨nd, rfl⟩⟩))
      go_ret
      exact ⟨er, bq HB⟩
    replace c5 := Bool.eq_false_iff.mpr c5
    subst c5
    rw [if_neg (show ¬ (false = true) by decide)] at H
    obtain rfl := Option.some.inj H
    go_enter Tryz.func53, Tryz.ntmps53
    go_wp2_with (first | ((with_reducible refine gate_dst (N := 1) rfl ?_); refine be #[.int .i64 a0_0, .int .i64 a0_1] 30 ?_; intro gb295 hg w9 hbox hb; have BK295 := Aside0.mk hbox; have GW295 := zs HB hg; have GE295 := zs HB hg; replace HB := zB HB hb; clear hb hbox hg; obtain ⟨hcz10_0, hcz10_1, hfz10_0, hfz10_1⟩ := zc2 BK295) | ((with_reducible refine gate_callee (f := 63) rfl ?_); refine gl (some 5) Tryz.func63 #[.int .i64 a0_0, .int .i64 0, .int .i64 1000000] ?_; (with_reducible refine (spec_l1In.calls a0_0 0 1000000 true _ A2.1).mono ?_); rintro e w' ⟨rfl, ⟨nd, rfl⟩⟩; refine ⟨_, rfl, ?_⟩) | (go_at_call 63; (with_reducible refine (spec_l1In.calls a0_1 1 10000 false _ A4.1).mono ?_); rintro e w' ⟨rfl, ⟨nd, rfl⟩⟩))
    go_ret
    exact ⟨er, bq HB⟩
  replace c3 := Bool.eq_false_iff.mpr c3
  subst c3
  rw [if_neg (show ¬ (false = true) by decide)] at H
  obtain rfl := Option.some.inj H
  go_enter Tryz.func53, Tryz.ntmps53
  go_wp2_with (first | ((with_reducible refine gate_dst (N := 1) rfl ?_); refine be #[.int .i64 a0_0, .int .i64 a0_1] 30 ?_; intro gb295 hg w11 hbox hb; have BK295 := Aside0.mk hbox; have GW295 := zs HB hg; have GE295 := zs HB hg; replace HB := zB HB hb; clear hb hbox hg; obtain ⟨hcz12_0, hcz12_1, hfz12_0, hfz12_1⟩ := zc2 BK295) | ((with_reducible refine gate_callee (f := 63) rfl ?_); refine gl (some 5) Tryz.func63 #[.int .i64 a0_0, .int .i64 0, .int .i64 1000000] ?_; (with_reducible refine (spec_l1In.calls a0_0 0 1000000 false _ A2.1).mono ?_); rintro e w' ⟨rfl, ⟨nd, rfl⟩⟩; refine ⟨_, rfl, ?_⟩))
  go_ret
  exact ⟨er, bq HB⟩

end Go.Proofs.YtejlandhfnnkiaaGreatDoor.PFnClocksAgree
