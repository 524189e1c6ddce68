/- A part of the walk of FnClocksAgree: which Lean function each Go function comes to, and that the machine's call does so. Written by a program of this repo (wip/gen/xprint.py). -/
import Derived.Test.YtejlandhfnnkiaaGreatDoorPFnClocksAgreex0
import Derived.Test.YtejlandhfnnkiaaGreatDoorPFnClocksAgreex6
import Derived.Test.YtejlandhfnnkiaaGreatDoorPFnClocksAgreex7
namespace Go.Proofs.YtejlandhfnnkiaaGreatDoor.PFnClocksAgree
open Go.RowKit Go.Proofs.YtejlandhfnnkiaaGreatDoorW.PrintWords Go.Proofs.YtejlandhfnnkiaaGreatDoorW.PrintLast Go.Proofs.YtejlandhfnnkiaaGreatDoorW.PrintMore
attribute [local go_sem] max2_int min2_int max_two min_two max_three min_three max_four min_four   -- for this text's walks alone
set_option linter.unusedVariables false
set_option linter.unusedSimpArgs false

/-! ### impl_spanOf: function 57 -/
def impl_spanOf.f (k : Nat) (a0 : Int) (a1 : Int) : Option (Int × Int × Bool) := (impl_gcd.f k a0 a1).bind fun t230 => (if t230 = 0 then (none) else ((impl_IsSpan.f k (wrap64 (Int.tdiv a0 t230)) (wrap64 (Int.tdiv a1 t230))).bind fun t232 => (if t232 = true then (some (wrap64 (Int.tdiv a0 t230), wrap64 (Int.tdiv a1 t230), true)) else (some (0, 0, false)))))
theorem impl_spanOf.mono : ∀ a0 a1 k, LeO (impl_spanOf.f k a0 a1) (impl_spanOf.f (k + 1) a0 a1) := by
  intro a0 a1 k
  unfold impl_spanOf.f
  repeat' first
      | (with_reducible exact impl_IsSpan.mono _ _ _)
      | (with_reducible exact impl_gcd.mono _ _ _)
      | (with_reducible exact LeO.refl _)
      | (with_reducible exact LeO.none _)
      | (with_reducible refine LeO.ite ?_ ?_)
      | (with_reducible refine LeO.bind ?_ (fun _ => ?_))
      | exact impl_IsSpan.mono _ _ _
      | exact impl_gcd.mono _ _ _
      | exact LeO.none _
      | refine LeO.ite ?_ ?_
      | refine LeO.bind ?_ (fun _ => ?_)
def impl_spanOf.T2 : Bool × List (List Nat × List Nat) := (true, [([], []), ([], []), ([0, 1], [0, 1]), ([], []), ([], []), ([3, 4], [3, 4]), ([2, 5], [2, 5]), ([], []), ([7, 6, 0, 1, 2, 3, 4, 5, 6, 7], [6, 7])])
def impl_spanOf.B2 : List Nat := [0, 0, 3, 0, 0, 24, 63, 0, 255]
theorem impl_spanOf.tab2 : rtab .any (opsOf Tryz.f57 2) = impl_spanOf.T2 := by kernel_rfl
theorem impl_spanOf.bits2 : waitsOk impl_spanOf.T2.2 impl_spanOf.B2 = true := by kernel_rfl
set_option maxHeartbeats 8000000 in
set_option maxRecDepth 100000 in
theorem impl_spanOf.calls (k : Nat) (a0 : Int) (a1 : Int) (r1 : Int) (r2 : Int) (r3 : Bool) (w : World) (h : impl_spanOf.f k a0 a1 = some (r1, r2, r3)) :
    Calls Tryz.prog 57 #[.int .i64 a0, .int .i64 a1] w fun e w' => e = .returned (.tuple #[.agg #[.int .i64 r1, .int .i64 r2], .bool r3]) ∧ Below w.heap.size w w' := by
  have hu30 := Tryz.underlying30
  have HB := Aside0.mk (Below.refl w.heap.size w)
  have H : ((impl_gcd.f k a0 a1).bind fun t230 => (if t230 = 0 then (none) else ((impl_IsSpan.f k (wrap64 (Int.tdiv a0 t230)) (wrap64 (Int.tdiv a1 t230))).bind fun t232 => (if t232 = true then (some (wrap64 (Int.tdiv a0 t230), wrap64 (Int.tdiv a1 t230), true)) else (some (0, 0, false)))))) = some (r1, r2, r3) := h
  clear h
  replace H := Option.bind_eq_some_iff.mp H
  obtain ⟨t230, A30, H⟩ := H
  (try dsimp only at H)
  have A3 := Aside0.mk A30
  clear A30
  by_cases c4 : t230 = 0
  · rw [if_pos c4] at H
    exact absurd H (by simp)
  rw [if_neg c4] at H
  have c4b0 : (t230 == 0) = false := beq_eq_false_iff_ne.mpr c4
  have c4b1 : (t230 != 0) = true := bne_iff_ne.mpr c4
  replace H := Option.bind_eq_some_iff.mp H
  obtain ⟨t232, A50, H⟩ := H
  (try dsimp only at H)
  have A5 := Aside0.mk A50
  clear A50
  by_cases c6 : t232 = true
  · subst c6
    rw [if_pos rfl] at H
    simp only [Option.some.injEq, Prod.mk.injEq] at H
    obtain ⟨rfl, rfl, rfl⟩ := H
    go_enter Tryz.func57, Tryz.ntmps57
    try go_wp2_with (first | ((with_reducible refine gate_dst (N := 4) rfl ?_); refine be #[.int .i64 0, .int .i64 0] 30 ?_; intro gb229 hg w7 hbox hb; have BK229 := Aside0.mk hbox; have GW229 := zs HB hg; have GE229 := zs HB hg; replace HB := zB HB hb; clear hb hbox hg) | ((with_reducible refine gate_callee (f := 50) rfl ?_); refine gl (some 10) Tryz.func50 #[.int .i64 a0, .int .i64 a1] ?_; (with_reducible refine (impl_gcd.calls k a0 a1 t230 _ A3.1).mono ?_); rintro e w8 ⟨rfl, hb⟩; refine ⟨_, rfl, ?_⟩; replace BK229 := zb BK229 hb; replace HB := zB HB hb; clear hb))
    replace BK229 := Aside0.mk (blk_drew BK229.1)
    replace HB := Aside0.mk (below_drew1 HB.1)
    refine start_ (n := 9) (S := fun w' => True) (ds := []) (bs 9 0) (by kernel_rfl) rfl rfl trivial (fun hHeld => ?_); refine with_tabW impl_spanOf.tab2 impl_spanOf.bits2 (fun HT_ HW_ => ?_)
    generalize w8.drew = w9 at BK229 HB hHeld ⊢
    refine pu 0 11 HT_ rfl rfl (bs 9 1) ?_
    refine pu 1 12 HT_ rfl rfl (bs 9 3) ?_
    refine pu 2 13 HT_ rfl rfl (bs 9 7) ?_
    refine pu 3 14 HT_ rfl rfl (bs 9 15) ?_
    refine pu 4 15 HT_ rfl rfl (bs 9 31) ?_
    refine pu 5 16 HT_ rfl rfl (bs 9 63) ?_
    refine pu 6 17 HT_ rfl rfl (bs 9 127) ?_
    refine one_ (i := 7) (N := some 7) (bs 9 255) rfl rfl (one_of HT_.1 (by kernel_rfl)) (by decide) (fun K hK => ?_)
    refine bp #[.int .i64 0, .int .i64 0] 30 ?_
    intro gb231 hg w10 hbox hb
    have BK231 := Aside0.mk hbox
    have GW231 := zs HB hg
    have GE231 := zs HB hg
    have NB229_231 := zn BK229 hg
    have NB231_229 := zm BK229 hg
    replace BK229 := zb BK229 hb
    replace HB := zB HB hb
    clear hb hbox hg
    refine hK.out _ _ trivial (fun hHeld => ?_)
    clear hK K
    refine norm_ (aq 7) ?_
    refine one_ (i := 8) (N := none) (bs 9 511) rfl rfl (one_of HT_.1 (by kernel_rfl)) (by decide) (fun K hK => ?_)
    have hs11 : w10.cell? ⟨gb231, 0, none⟩ = some (.int .i64 0) := (blk_cell BK231.1 0).trans rfl
    have hfs11 := blk_frozen BK231.1 0
    have hns11_0 := NB229_231.1
    have hms11_0 := NB231_229.1
    have hs12 : w10.cell? ⟨gb231, 1, none⟩ = some (.int .i64 0) := (blk_cell BK231.1 1).trans rfl
    have hfs12 := blk_frozen BK231.1 1
    have hns12_0 := NB229_231.1
    have hms12_0 := NB231_229.1
    refine skip_ (w1 := ?_) (by rfl) rfl ?_ ?_
    rotate_left
    · go_simp
      rfl
    refine hK.out _ _ trivial (fun hHeld => ?_)
    clear hK K
    refine done_ (done_of HT_.1 (by kernel_rfl)) ?_
    have hnb13 := NB231_229.1
    have hnc13 := NB229_231.1
    obtain ⟨hcz14_0, hcz14_1, hfz14_0, hfz14_1⟩ := zc2 BK231
    try go_wp2_with (first | ((with_reducible refine gate_callee (f := 31) rfl ?_); refine gl (some 19) Tryz.func31 #[.agg #[.int .i64 (wrap64 (Int.tdiv a0 t230)), .int .i64 (wrap64 (Int.tdiv a1 t230))]] ?_; (with_reducible refine (impl_IsSpan.calls k (wrap64 (Int.tdiv a0 t230)) (wrap64 (Int.tdiv a1 t230)) true _ A5.1).mono ?_); rintro e w15 ⟨rfl, hb⟩; refine ⟨_, rfl, ?_⟩; replace BK229 := zy (o' := .cells #[.int .i64 0, .int .i64 0] 30 (0, 0)) BK229 hb; replace BK231 := zy (o' := .cells #[.int .i64 (wrap64 (Int.tdiv a0 t230)), .int .i64 (wrap64 (Int.tdiv a1 t230))] 30 (0, 0)) BK231 hb; replace HB := zB HB hb; clear hb; obtain ⟨hcz16_0, hcz16_1, hfz16_0, hfz16_1⟩ := zc2 BK231; obtain ⟨hcz17_0, hcz17_1, hfz17_0, hfz17_1⟩ := zc2 BK229))
    refine bodyPost_ret (results_ct rfl _ _ gb229 30 #[.int .i64 (wrap64 (Int.tdiv a0 t230)), .int .i64 (wrap64 (Int.tdiv a1 t230))] (0, 0) _ rfl (bk BK229) Tryz.underlying30 rfl (by kernel_rfl)) rfl ?_
    exact ⟨er, bq HB⟩
  replace c6 := Bool.eq_false_iff.mpr c6
  subst c6
  rw [if_neg (show ¬ (false = true) by decide)] at H
  simp only [Option.some.injEq, Prod.mk.injEq] at H
  obtain ⟨rfl, rfl, rfl⟩ := H
  go_enter Tryz.func57, Tryz.ntmps57
  try go_wp2_with (first | ((with_reducible refine gate_dst (N := 4) rfl ?_); refine be #[.int .i64 0, .int .i64 0] 30 ?_; intro gb229 hg w18 hbox hb; have BK229 := Aside0.mk hbox; have GW229 := zs HB hg; have GE229 := zs HB hg; replace HB := zB HB hb; clear hb hbox hg) | ((with_reducible refine gate_callee (f := 50) rfl ?_); refine gl (some 10) Tryz.func50 #[.int .i64 a0, .int .i64 a1] ?_; (with_reducible refine (impl_gcd.calls k a0 a1 t230 _ A3.1).mono ?_); rintro e w19 ⟨rfl, hb⟩; refine ⟨_, rfl, ?_⟩; replace BK229 := zb BK229 hb; replace HB := zB HB hb; clear hb))
  replace BK229 := Aside0.mk (blk_drew BK229.1)
  replace HB := Aside0.mk (below_drew1 HB.1)
  refine start_ (n := 9) (S := fun w' => True) (ds := []) (bs 9 0) (by kernel_rfl) rfl rfl trivial (fun hHeld => ?_); refine with_tabW impl_spanOf.tab2 impl_spanOf.bits2 (fun HT_ HW_ => ?_)
  generalize w19.drew = w20 at BK229 HB hHeld ⊢
  refine pu 0 11 HT_ rfl rfl (bs 9 1) ?_
  refine pu 1 12 HT_ rfl rfl (bs 9 3) ?_
  refine pu 2 13 HT_ rfl rfl (bs 9 7) ?_
  refine pu 3 14 HT_ rfl rfl (bs 9 15) ?_
  refine pu 4 15 HT_ rfl rfl (bs 9 31) ?_
  refine pu 5 16 HT_ rfl rfl (bs 9 63) ?_
  refine pu 6 17 HT_ rfl rfl (bs 9 127) ?_
  refine one_ (i := 7) (N := some 7) (bs 9 255) rfl rfl (one_of HT_.1 (by kernel_rfl)) (by decide) (fun K hK => ?_)
  refine bp #[.int .i64 0, .int .i64 0] 30 ?_
  intro gb231 hg w21 hbox hb
  have BK231 := Aside0.mk hbox
  have GW231 := zs HB hg
  have GE231 := zs HB hg
  have NB229_231 := zn BK229 hg
  have NB231_229 := zm BK229 hg
  replace BK229 := zb BK229 hb
  replace HB := zB HB hb
  clear hb hbox hg
  refine hK.out _ _ trivial (fun hHeld => ?_)
  clear hK K
  refine norm_ (aq 7) ?_
  refine one_ (i := 8) (N := none) (bs 9 511) rfl rfl (one_of HT_.1 (by kernel_rfl)) (by decide) (fun K hK => ?_)
  have hs22 : w21.cell? ⟨gb231, 0, none⟩ = some (.int .i64 0) := (blk_cell BK231.1 0).trans rfl
  have hfs22 := blk_frozen BK231.1 0
  have hns22_0 := NB229_231.1
  have hms22_0 := NB231_229.1
  have hs23 : w21.cell? ⟨gb231, 1, none⟩ = some (.int .i64 0) := (blk_cell BK231.1 1).trans rfl
  have hfs23 := blk_frozen BK231.1 1
  have hns23_0 := NB229_231.1
  have hms23_0 := NB231_229.1
  refine skip_ (w1 := ?_) (by rfl) rfl ?_ ?_
  rotate_left
  · go_simp
    rfl
  refine hK.out _ _ trivial (fun hHeld => ?_)
  clear hK K
  refine done_ (done_of HT_.1 (by kernel_rfl)) ?_
  have hnb24 := NB231_229.1
  have hnc24 := NB229_231.1
  obtain ⟨hcz25_0, hcz25_1, hfz25_0, hfz25_1⟩ := zc2 BK231
  try go_wp2_with (first | ((with_reducible refine gate_callee (f := 31) rfl ?_); refine gl (some 19) Tryz.func31 #[.agg #[.int .i64 (wrap64 (Int.tdiv a0 t230)), .int .i64 (wrap64 (Int.tdiv a1 t230))]] ?_; (with_reducible refine (impl_IsSpan.calls k (wrap64 (Int.tdiv a0 t230)) (wrap64 (Int.tdiv a1 t230)) false _ A5.1).mono ?_); rintro e w26 ⟨rfl, hb⟩; refine ⟨_, rfl, ?_⟩; replace BK229 := zy (o' := .cells #[.int .i64 0, .int .i64 0] 30 (0, 0)) BK229 hb; replace BK231 := zy (o' := .cells #[.int .i64 (wrap64 (Int.tdiv a0 t230)), .int .i64 (wrap64 (Int.tdiv a1 t230))] 30 (0, 0)) BK231 hb; replace HB := zB HB hb; clear hb; obtain ⟨hcz27_0, hcz27_1, hfz27_0, hfz27_1⟩ := zc2 BK229))
  refine bodyPost_ret (results_ct rfl _ _ gb229 30 #[.int .i64 0, .int .i64 0] (0, 0) _ rfl (bk BK229) Tryz.underlying30 rfl (by kernel_rfl)) rfl ?_
  exact ⟨er, bq HB⟩

/-! ### impl_gain: function 75 -/
def impl_gain.f (a0_0 : Int) (a0_1 : Int) (a0_2 : Int) (a0_3 : Int) (a1_0 : Int) (a1_1 : Int) (a1_2 : Int) (a1_3 : Int) : Option (Int × Int) := some (wrap64 ((wrap64 (a0_2 * a1_3)) - (wrap64 (a1_2 * a0_3))), wrap64 (a0_3 * a1_3))
set_option maxHeartbeats 8000000 in
set_option maxRecDepth 100000 in
theorem impl_gain.calls (a0_0 : Int) (a0_1 : Int) (a0_2 : Int) (a0_3 : Int) (a1_0 : Int) (a1_1 : Int) (a1_2 : Int) (a1_3 : Int) (r1 : Int) (r2 : Int) (w : World) (h : impl_gain.f a0_0 a0_1 a0_2 a0_3 a1_0 a1_1 a1_2 a1_3 = some (r1, r2)) :
    Calls Tryz.prog 75 #[.agg #[.int .i64 a0_0, .int .i64 a0_1, .int .i64 a0_2, .int .i64 a0_3], .agg #[.int .i64 a1_0, .int .i64 a1_1, .int .i64 a1_2, .int .i64 a1_3]] w fun e w' => e = .returned (.tuple #[.int .i64 r1, .int .i64 r2]) ∧ Below w.heap.size w w' := by
  have hu27 := Tryz.underlying27
  have HB := Aside0.mk (Below.refl w.heap.size w)
  have H : (some (wrap64 ((wrap64 (a0_2 * a1_3)) - (wrap64 (a1_2 * a0_3))), wrap64 (a0_3 * a1_3))) = some (r1, r2) := h
  clear h
  simp only [Option.some.injEq, Prod.mk.injEq] at H
  obtain ⟨rfl, rfl⟩ := H
  go_enter Tryz.func75, Tryz.ntmps75
  go_wp2_with (first | ((with_reducible refine gate_dst (N := 2) rfl ?_); refine be #[.int .i64 a0_0, .int .i64 a0_1, .int .i64 a0_2, .int .i64 a0_3] 27 ?_; intro gb233 hg w3 hbox hb; have BK233 := Aside0.mk hbox; have GW233 := zs HB hg; have GE233 := zs HB hg; replace HB := zB HB hb; clear hb hbox hg) | ((with_reducible refine gate_dst (N := 3) rfl ?_); refine be #[.int .i64 a1_0, .int .i64 a1_1, .int .i64 a1_2, .int .i64 a1_3] 27 ?_; intro gb234 hg w4 hbox hb; have BK234 := Aside0.mk hbox; have GW234 := zs HB hg; have GE234 := zs HB hg; have NB233_234 := zn BK233 hg; have NB234_233 := zm BK233 hg; replace BK233 := zb BK233 hb; replace HB := zB HB hb; clear hb hbox hg; have hnb5 := NB233_234.1; have hnc5 := NB234_233.1; obtain ⟨hcz6_0, hcz6_1, hcz6_2, hcz6_3, hfz6_0, hfz6_1, hfz6_2, hfz6_3⟩ := zc4 BK233; obtain ⟨hcz7_0, hcz7_1, hcz7_2, hcz7_3, hfz7_0, hfz7_1, hfz7_2, hfz7_3⟩ := zc4 BK234))
  repeat (go_quiet (first | ((with_reducible refine gate_dst (N := 2) rfl ?_); refine be #[.int .i64 a0_0, .int .i64 a0_1, .int .i64 a0_2, .int .i64 a0_3] 27 ?_; intro gb233 hg w3 hbox hb; have BK233 := Aside0.mk hbox; have GW233 := zs HB hg; have GE233 := zs HB hg; replace HB := zB HB hb; clear hb hbox hg) | ((with_reducible refine gate_dst (N := 3) rfl ?_); refine be #[.int .i64 a1_0, .int .i64 a1_1, .int .i64 a1_2, .int .i64 a1_3] 27 ?_; intro gb234 hg w4 hbox hb; have BK234 := Aside0.mk hbox; have GW234 := zs HB hg; have GE234 := zs HB hg; have NB233_234 := zn BK233 hg; have NB234_233 := zm BK233 hg; replace BK233 := zb BK233 hb; replace HB := zB HB hb; clear hb hbox hg; have hnb5 := NB233_234.1; have hnc5 := NB234_233.1; obtain ⟨hcz6_0, hcz6_1, hcz6_2, hcz6_3, hfz6_0, hfz6_1, hfz6_2, hfz6_3⟩ := zc4 BK233; obtain ⟨hcz7_0, hcz7_1, hcz7_2, hcz7_3, hfz7_0, hfz7_1, hfz7_2, hfz7_3⟩ := zc4 BK234)); try go_wp2_with (first | ((with_reducible refine gate_dst (N := 2) rfl ?_); refine be #[.int .i64 a0_0, .int .i64 a0_1, .int .i64 a0_2, .int .i64 a0_3] 27 ?_; intro gb233 hg w3 hbox hb; have BK233 := Aside0.mk hbox; have GW233 := zs HB hg; have GE233 := zs HB hg; replace HB := zB HB hb; clear hb hbox hg) | ((with_reducible refine gate_dst (N := 3) rfl ?_); refine be #[.int .i64 a1_0, .int .i64 a1_1, .int .i64 a1_2, .int .i64 a1_3] 27 ?_; intro gb234 hg w4 hbox hb; have BK234 := Aside0.mk hbox; have GW234 := zs HB hg; have GE234 := zs HB hg; have NB233_234 := zn BK233 hg; have NB234_233 := zm BK233 hg; replace BK233 := zb BK233 hb; replace HB := zB HB hb; clear hb hbox hg; have hnb5 := NB233_234.1; have hnc5 := NB234_233.1; obtain ⟨hcz6_0, hcz6_1, hcz6_2, hcz6_3, hfz6_0, hfz6_1, hfz6_2, hfz6_3⟩ := zc4 BK233; obtain ⟨hcz7_0, hcz7_1, hcz7_2, hcz7_3, hfz7_0, hfz7_1, hfz7_2, hfz7_3⟩ := zc4 BK234)))
  go_ret2
  exact ⟨er, bq HB⟩

/-! ### impl_Turn_times: function 88 -/
def impl_Turn_times.f (k : Nat) (a0_0 : Int) (a0_1 : Int) (a1 : Int) : Option (Int × Int) := (impl_part.f k (wrap64 (a0_0 * a1)) a0_1).bind fun bt237 => (some (bt237.1, bt237.2))
theorem impl_Turn_times.mono : ∀ a0 a1 a2 k, LeO (impl_Turn_times.f k a0 a1 a2) (impl_Turn_times.f (k + 1) a0 a1 a2) := by
  intro a0 a1 a2 k
  unfold impl_Turn_times.f
  repeat' first
      | (with_reducible exact impl_part.mono _ _ _)
      | (with_reducible exact LeO.refl _)
      | (with_reducible exact LeO.none _)
      | (with_reducible refine LeO.ite ?_ ?_)
      | (with_reducible refine LeO.bind ?_ (fun _ => ?_))
      | exact impl_part.mono _ _ _
      | exact LeO.none _
      | refine LeO.ite ?_ ?_
      | refine LeO.bind ?_ (fun _ => ?_)
set_option maxHeartbeats 8000000 in
set_option maxRecDepth 100000 in
theorem impl_Turn_times.calls (k : Nat) (a0_0 : Int) (a0_1 : Int) (a1 : Int) (r1 : Int) (r2 : Int) (w : World) (h : impl_Turn_times.f k a0_0 a0_1 a1 = some (r1, r2)) :
    Calls Tryz.prog 88 #[.agg #[.int .i64 a0_0, .int .i64 a0_1], .int .i64 a1] w fun e w' => e = .returned (.agg #[.int .i64 r1, .int .i64 r2]) ∧ Below w.heap.size w w' := by
  have hu25 := Tryz.underlying25
  have HB := Aside0.mk (Below.refl w.heap.size w)
  have H : ((impl_part.f k (wrap64 (a0_0 * a1)) a0_1).bind fun bt237 => (some (bt237.1, bt237.2))) = some (r1, r2) := h
  clear h
  replace H := Option.bind_eq_some_iff.mp H
  obtain ⟨⟨t237, t238⟩, A30, H⟩ := H
  (try dsimp only at H)
  have A3 := Aside0.mk A30
  clear A30
  simp only [Option.some.injEq, Prod.mk.injEq] at H
  obtain ⟨rfl, rfl⟩ := H
  go_enter Tryz.func88, Tryz.ntmps88
  go_wp2_with (first | ((with_reducible refine gate_dst (N := 2) rfl ?_); refine be #[.int .i64 a0_0, .int .i64 a0_1] 25 ?_; intro gb235 hg w4 hbox hb; have BK235 := Aside0.mk hbox; have GW235 := zs HB hg; have GE235 := zs HB hg; replace HB := zB HB hb; clear hb hbox hg) | ((with_reducible refine gate_dst (N := 4) rfl ?_); refine be #[.int .i64 0, .int .i64 0] 25 ?_; intro gb236 hg w5 hbox hb; have BK236 := Aside0.mk hbox; have GW236 := zs HB hg; have GE236 := zs HB hg; have NB235_236 := zn BK235 hg; have NB236_235 := zm BK235 hg; replace BK235 := zb BK235 hb; replace HB := zB HB hb; clear hb hbox hg; have hnb6 := NB235_236.1; have hnc6 := NB236_235.1; obtain ⟨hcz7_0, hcz7_1, hfz7_0, hfz7_1⟩ := zc2 BK235) | ((with_reducible refine gate_callee (f := 79) rfl ?_); refine gl (some 11) Tryz.func79 #[.int .i64 (wrap64 (a0_0 * a1)), .int .i64 a0_1] ?_; (with_reducible refine (impl_part.calls k (wrap64 (a0_0 * a1)) a0_1 t237 t238 _ A3.1).mono ?_); rintro e w8 ⟨rfl, hb⟩; refine ⟨_, rfl, ?_⟩; replace BK235 := zb BK235 hb; replace BK236 := zb BK236 hb; replace HB := zB HB hb; clear hb; obtain ⟨hcz9_0, hcz9_1, hfz9_0, hfz9_1⟩ := zc2 BK236))
  refine bodyPost_ret (results_cell_row rfl _ _ gb236 25 #[.int .i64 t237, .int .i64 t238] (0, 0) _ rfl (bk BK236) Tryz.underlying25 rfl (by kernel_rfl)) rfl ?_
  exact ⟨er, bq HB⟩

/-! ### impl_Turn_mirror: function 76 -/
def impl_Turn_mirror.f (k : Nat) (a0_0 : Int) (a0_1 : Int) : Option (Int × Int) := (impl_Turn_times.f k a0_0 a0_1 (-1)).bind fun bt241 => (some (bt241.1, bt241.2))
theorem impl_Turn_mirror.mono : ∀ a0 a1 k, LeO (impl_Turn_mirror.f k a0 a1) (impl_Turn_mirror.f (k + 1) a0 a1) := by
  intro a0 a1 k
  unfold impl_Turn_mirror.f
  repeat' first
      | (with_reducible exact impl_Turn_times.mono _ _ _ _)
      | (with_reducible exact LeO.refl _)
      | (with_reducible exact LeO.none _)
      | (with_reducible refine LeO.ite ?_ ?_)
      | (with_reducible refine LeO.bind ?_ (fun _ => ?_))
      | exact impl_Turn_times.mono _ _ _ _
      | exact LeO.none _
      | refine LeO.ite ?_ ?_
      | refine LeO.bind ?_ (fun _ => ?_)
set_option maxHeartbeats 8000000 in
set_option maxRecDepth 100000 in
theorem impl_Turn_mirror.calls (k : Nat) (a0_0 : Int) (a0_1 : Int) (r1 : Int) (r2 : Int) (w : World) (h : impl_Turn_mirror.f k a0_0 a0_1 = some (r1, r2)) :
    Calls Tryz.prog 76 #[.agg #[.int .i64 a0_0, .int .i64 a0_1]] w fun e w' => e = .returned (.agg #[.int .i64 r1, .int .i64 r2]) ∧ Below w.heap.size w w' := by
  have hu25 := Tryz.underlying25
  have HB := Aside0.mk (Below.refl w.heap.size w)
  have H : ((impl_Turn_times.f k a0_0 a0_1 (-1)).bind fun bt241 => (some (bt241.1, bt241.2))) = some (r1, r2) := h
  clear h
  replace H := Option.bind_eq_some_iff.mp H
  obtain ⟨⟨t241, t242⟩, A20, H⟩ := H
  (try dsimp only at H)
  have A2 := Aside0.mk A20
  clear A20
  simp only [Option.some.injEq, Prod.mk.injEq] at H
  obtain ⟨rfl, rfl⟩ := H
  go_enter Tryz.func76, Tryz.ntmps76
  go_wp2_with (first | ((with_reducible refine gate_dst (N := 1) rfl ?_); refine be #[.int .i64 a0_0, .int .i64 a0_1] 25 ?_; intro gb239 hg w3 hbox hb; have BK239 := Aside0.mk hbox; have GW239 := zs HB hg; have GE239 := zs HB hg; replace HB := zB HB hb; clear hb hbox hg) | ((with_reducible refine gate_dst (N := 2) rfl ?_); refine be #[.int .i64 0, .int .i64 0] 25 ?_; intro gb240 hg w4 hbox hb; have BK240 := Aside0.mk hbox; have GW240 := zs HB hg; have GE240 := zs HB hg; have NB239_240 := zn BK239 hg; have NB240_239 := zm BK239 hg; replace BK239 := zb BK239 hb; replace HB := zB HB hb; clear hb hbox hg; have hnb5 := NB239_240.1; have hnc5 := NB240_239.1; obtain ⟨hcz6_0, hcz6_1, hfz6_0, hfz6_1⟩ := zc2 BK239) | ((with_reducible refine gate_callee (f := 88) rfl ?_); refine gl (some 4) Tryz.func88 #[.agg #[.int .i64 a0_0, .int .i64 a0_1], .int .i64 (-1)] ?_; (with_reducible refine (impl_Turn_times.calls k a0_0 a0_1 (-1) t241 t242 _ A2.1).mono ?_); rintro e w7 ⟨rfl, hb⟩; refine ⟨_, rfl, ?_⟩; replace BK239 := zb BK239 hb; replace BK240 := zb BK240 hb; replace HB := zB HB hb; clear hb; obtain ⟨hcz8_0, hcz8_1, hfz8_0, hfz8_1⟩ := zc2 BK240))
  refine bodyPost_ret (results_cell_row rfl _ _ gb240 25 #[.int .i64 t241, .int .i64 t242] (0, 0) _ rfl (bk BK240) Tryz.underlying25 rfl (by kernel_rfl)) rfl ?_
  exact ⟨er, bq HB⟩

end Go.Proofs.YtejlandhfnnkiaaGreatDoor.PFnClocksAgree
