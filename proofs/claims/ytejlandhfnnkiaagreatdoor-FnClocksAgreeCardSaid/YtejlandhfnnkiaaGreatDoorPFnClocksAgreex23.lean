/- A part of the walk of FnClocksAgree: which Lean function each Go function comes to, and that the machine's call does so. Written by a program of this repo (wip/gen/xprint.py). -/
import Derived.Test.YtejlandhfnnkiaaGreatDoorPFnClocksAgreex0
import Derived.Test.YtejlandhfnnkiaaGreatDoorPFnClocksAgreex4
import Derived.Test.YtejlandhfnnkiaaGreatDoorPFnClocksAgreex11
import Derived.Test.YtejlandhfnnkiaaGreatDoorPFnClocksAgreex12
namespace Go.Proofs.YtejlandhfnnkiaaGreatDoor.PFnClocksAgree
open Go.RowKit Go.Proofs.YtejlandhfnnkiaaGreatDoorW.PrintWords Go.Proofs.YtejlandhfnnkiaaGreatDoorW.PrintLast Go.Proofs.YtejlandhfnnkiaaGreatDoorW.PrintMore
attribute [local go_sem] max2_int min2_int max_two min_two max_three min_three max_four min_four   -- for this text's walks alone
set_option linter.unusedVariables false
set_option linter.unusedSimpArgs false

/-! ### spec_CommonSpan: function 21 -/
def spec_CommonSpan.j0 : Nat → Bool → Int → Int → Int → Int → Option (Int × Int × Bool)
  | 0, _, _, _, _, _ => none
  | k + 1, x23, x483000, x483001, x484000, x484001 => if x23 = true then (some (0, 0, false)) else ((spec_diCommon.f k x483000 x484000).bind fun t487 => (if t487 = 0 then (none) else ((spec_diCommon.f k x483001 x484001).bind fun t488 => ((spec_drMake.f k (wrap64 ((wrap64 (Int.tdiv x483000 t487)) * x484000)) t488).bind fun bt489 => (some (bt489.1, bt489.2.1, bt489.2.2))))))
def spec_CommonSpan.f (k : Nat) (a0_0 : Int) (a0_1 : Int) (a1_0 : Int) (a1_1 : Int) : Option (Int × Int × Bool) := (spec_drGood.f k a0_0 a0_1).bind fun t485 => (if t485 = true then ((spec_drGood.f k a1_0 a1_1).bind fun t486 => (if t486 = true then (if a0_0 = 0 then (spec_CommonSpan.j0 k true a0_0 a0_1 a1_0 a1_1) else (spec_CommonSpan.j0 k (a1_0 == 0) a0_0 a0_1 a1_0 a1_1)) else (spec_CommonSpan.j0 k true a0_0 a0_1 a1_0 a1_1))) else (spec_CommonSpan.j0 k true a0_0 a0_1 a1_0 a1_1))
theorem spec_CommonSpan.mono_l : ∀ k, (∀ y0 y1 y2 y3 y4, LeO (spec_CommonSpan.j0 k y0 y1 y2 y3 y4) (spec_CommonSpan.j0 (k + 1) y0 y1 y2 y3 y4))
  | 0 => fun _ _ _ _ _ r h => by simp [spec_CommonSpan.j0] at h
  | k + 1 => by
    have ih0 := spec_CommonSpan.mono_l k
    intro y0 y1 y2 y3 y4
    unfold spec_CommonSpan.j0
    repeat' first
    | (with_reducible exact ih0 _ _ _ _ _)
    | (with_reducible exact spec_diCommon.mono _ _ _)
    | (with_reducible exact spec_drGood.mono _ _ _)
    | (with_reducible exact spec_drMake.mono _ _ _)
    | (with_reducible exact LeO.refl _)
    | (with_reducible exact LeO.none _)
    | (with_reducible refine LeO.ite ?_ ?_)
    | (with_reducible refine LeO.bind ?_ (fun _ => ?_))
    | exact ih0 _ _ _ _ _
    | exact spec_diCommon.mono _ _ _
    | exact spec_drGood.mono _ _ _
    | exact spec_drMake.mono _ _ _
    | exact LeO.none _
    | refine LeO.ite ?_ ?_
    | refine LeO.bind ?_ (fun _ => ?_)
theorem spec_CommonSpan.mono : ∀ a0 a1 a2 a3 k, LeO (spec_CommonSpan.f k a0 a1 a2 a3) (spec_CommonSpan.f (k + 1) a0 a1 a2 a3) := by
  intro a0 a1 a2 a3 k
  have ih0 := spec_CommonSpan.mono_l k
  unfold spec_CommonSpan.f
  repeat' first
      | (with_reducible exact ih0 _ _ _ _ _)
      | (with_reducible exact spec_diCommon.mono _ _ _)
      | (with_reducible exact spec_drGood.mono _ _ _)
      | (with_reducible exact spec_drMake.mono _ _ _)
      | (with_reducible exact LeO.refl _)
      | (with_reducible exact LeO.none _)
      | (with_reducible refine LeO.ite ?_ ?_)
      | (with_reducible refine LeO.bind ?_ (fun _ => ?_))
      | exact ih0 _ _ _ _ _
      | exact spec_diCommon.mono _ _ _
      | exact spec_drGood.mono _ _ _
      | exact spec_drMake.mono _ _ _
      | exact LeO.none _
      | refine LeO.ite ?_ ?_
      | refine LeO.bind ?_ (fun _ => ?_)
def spec_CommonSpan.T3 : Bool × List (List Nat × List Nat) := (true, [([], []), ([0], [0]), ([], []), ([2], [2]), ([], []), ([4], [4]), ([3, 5], [3, 5]), ([1, 6], [1, 6]), ([], []), ([8], [8]), ([7, 9], [7, 9]), ([], []), ([11], [11]), ([], []), ([13], [13]), ([12, 14, 6], [12, 14]), ([10, 15, 15], [10, 15]), ([16], [16]), ([16], [16]), ([17, 16, 0, 1, 2, 3, 4, 5, 6, 7, 8, 9, 10, 11, 12, 13, 14, 15, 16, 17, 18], [17]), ([18, 19, 0, 1, 2, 3, 4, 5, 6, 7, 8, 9, 10, 11, 12, 13, 14, 15, 16, 17, 18, 19], [18])])
def spec_CommonSpan.B3 : List Nat := [0, 1, 0, 4, 0, 16, 60, 127, 0, 256, 1023, 0, 2048, 0, 8192, 30844, 65535, 131071, 131071, 524287, 1048575]
theorem spec_CommonSpan.tab3 : rtab .any (opsOf Tryz.f21 3) = spec_CommonSpan.T3 := by kernel_rfl
theorem spec_CommonSpan.bits3 : waitsOk spec_CommonSpan.T3.2 spec_CommonSpan.B3 = true := by kernel_rfl
set_option maxHeartbeats 8000000 in
set_option maxRecDepth 100000 in
theorem spec_CommonSpan.calls (k : Nat) (a0_0 : Int) (a0_1 : Int) (a1_0 : Int) (a1_1 : Int) (r1 : Int) (r2 : Int) (r3 : Bool) (w : World) (h : spec_CommonSpan.f k a0_0 a0_1 a1_0 a1_1 = some (r1, r2, r3)) :
    Calls Tryz.prog 21 #[.agg #[.int .i64 a0_0, .int .i64 a0_1], .agg #[.int .i64 a1_0, .int .i64 a1_1]] w fun e w' => e = .returned (.tuple #[.agg #[.int .i64 r1, .int .i64 r2], .bool r3]) ∧ Below w.heap.size w w' := by
  have hu30 := Tryz.underlying30
  have HB := Aside0.mk (Below.refl w.heap.size w)
  have H : ((spec_drGood.f k a0_0 a0_1).bind fun t485 => (if t485 = true then ((spec_drGood.f k a1_0 a1_1).bind fun t486 => (if t486 = true then (if a0_0 = 0 then (spec_CommonSpan.j0 k true a0_0 a0_1 a1_0 a1_1) else (spec_CommonSpan.j0 k (a1_0 == 0) a0_0 a0_1 a1_0 a1_1)) else (spec_CommonSpan.j0 k true a0_0 a0_1 a1_0 a1_1))) else (spec_CommonSpan.j0 k true a0_0 a0_1 a1_0 a1_1))) = some (r1, r2, r3) := h
  clear h
  have HC3 := Aside0.mk H
  clear H
  go_enter Tryz.func21, Tryz.ntmps21
  go_upto_region 1 with (first | ((with_reducible refine gate_dst (N := 2) rfl ?_); refine be #[.int .i64 a0_0, .int .i64 a0_1] 30 ?_; intro gb482 hg w4 hbox hb; have BK482 := Aside0.mk hbox; have GW482 := zs HB hg; have GE482 := zs HB hg; replace HB := zB HB hb; clear hb hbox hg) | ((with_reducible refine gate_dst (N := 3) rfl ?_); refine be #[.int .i64 a1_0, .int .i64 a1_1] 30 ?_; intro gb483 hg w5 hbox hb; have BK483 := Aside0.mk hbox; have GW483 := zs HB hg; have GE483 := zs HB hg; have NB482_483 := zn BK482 hg; have NB483_482 := zm BK482 hg; replace BK482 := zb BK482 hb; replace HB := zB HB hb; clear hb hbox hg) | ((with_reducible refine gate_dst (N := 4) rfl ?_); refine be #[.int .i64 0, .int .i64 0] 30 ?_; intro gb484 hg w6 hbox hb; have BK484 := Aside0.mk hbox; have GW484 := zs HB hg; have GE484 := zs HB hg; have NB482_484 := zn BK482 hg; have NB484_482 := zm BK482 hg; have NB483_484 := zn BK483 hg; have NB484_483 := zm BK483 hg; replace BK482 := zb BK482 hb; replace BK483 := zb BK483 hb; replace HB := zB HB hb; clear hb hbox hg))
  (try simp only [Act.put, List.setIfInBounds_toArray, List.set_cons_zero, List.set_cons_succ])
  go_cut [23] (fun v23 wc => ∃ (kq : Nat) (x23_2 : Bool), v23 = .bool x23_2 ∧ Aside0 (spec_CommonSpan.j0 kq x23_2 a0_0 a0_1 a1_0 a1_1 = some (r1, r2, r3)) ∧ Aside0 (kq ≤ k) ∧ Aside0 (wc.heap[gb482]? = some (.cells #[.int .i64 a0_0, .int .i64 a0_1] 30 (0, 0))) ∧ Aside0 (wc.heap[gb483]? = some (.cells #[.int .i64 a1_0, .int .i64 a1_1] 30 (0, 0))) ∧ Aside0 (wc.heap[gb484]? = some (.cells #[.int .i64 0, .int .i64 0] 30 (0, 0))) ∧ Aside0 (Below w.heap.size w wc))
  case first =>
    have H := HC3.1
    clear HC3
    replace H := Option.bind_eq_some_iff.mp H
    obtain ⟨t485, A70, H⟩ := H
    (try dsimp only at H)
    have A7 := Aside0.mk A70
    clear A70
    by_cases c8 : t485 = true
    · subst c8
      rw [if_pos rfl] at H
      replace H := Option.bind_eq_some_iff.mp H
      obtain ⟨t486, A90, H⟩ := H
      (try dsimp only at H)
      have A9 := Aside0.mk A90
      clear A90
      by_cases c10 : t486 = true
      · subst c10
        rw [if_pos rfl] at H
        by_cases c11 : a0_0 = 0
        · rw [if_pos c11] at H
          have c11b0 : (a0_0 == 0) = true := beq_iff_eq.mpr c11
          have c11b1 : (a0_0 != 0) = false := bne_eq_false_iff_eq.mpr c11
          clear c11
          (first | rw [c11b0] | (simp only [i64_w, i32_w]; rw [c11b0]) | skip)
          have H' := Aside0.mk H
          clear H
          have hnb12 := NB482_483.1
          have hnc12 := NB483_482.1
          have hnb13 := NB482_484.1
          have hnc13 := NB484_482.1
          obtain ⟨hcz14_0, hcz14_1, hfz14_0, hfz14_1⟩ := zc2 BK482
          go_wp2_with (first | ((with_reducible refine gate_callee (f := 53) rfl ?_); refine gl (some 7) Tryz.func53 #[.agg #[.int .i64 a0_0, .int .i64 a0_1]] ?_; (with_reducible refine (spec_drGood.calls k a0_0 a0_1 true _ A7.1).mono ?_); rintro e w15 ⟨rfl, hb⟩; refine ⟨_, rfl, ?_⟩; replace BK482 := zb BK482 hb; replace BK483 := zb BK483 hb; replace BK484 := zb BK484 hb; replace HB := zB HB hb; clear hb; have hnb16 := NB483_484.1; have hnc16 := NB484_483.1; obtain ⟨hcz17_0, hcz17_1, hfz17_0, hfz17_1⟩ := zc2 BK483) | (go_at_call 53; (with_reducible refine (spec_drGood.calls k a1_0 a1_1 true _ A9.1).mono ?_); rintro e w18 ⟨rfl, hb⟩; replace BK482 := zb BK482 hb; replace BK483 := zb BK483 hb; replace BK484 := zb BK484 hb; replace HB := zB HB hb; clear hb; obtain ⟨hcz19_0, hcz19_1, hfz19_0, hfz19_1⟩ := zc2 BK482))
          go_meet
          case rel => exact ⟨_, (true), ew, H', le_, ⟨bk BK482⟩, ⟨bk BK483⟩, ⟨bk BK484⟩, ⟨bq HB⟩⟩
        rw [if_neg c11] at H
        have c11b0 : (a0_0 == 0) = false := beq_eq_false_iff_ne.mpr c11
        have c11b1 : (a0_0 != 0) = true := bne_iff_ne.mpr c11
        (first | rw [c11b0] | (simp only [i64_w, i32_w]; rw [c11b0]) | skip)
        have H' := Aside0.mk H
        clear H
        have hnb20 := NB482_483.1
        have hnc20 := NB483_482.1
        have hnb21 := NB482_484.1
        have hnc21 := NB484_482.1
        obtain ⟨hcz22_0, hcz22_1, hfz22_0, hfz22_1⟩ := zc2 BK482
        go_wp2_with (first | ((with_reducible refine gate_callee (f := 53) rfl ?_); refine gl (some 7) Tryz.func53 #[.agg #[.int .i64 a0_0, .int .i64 a0_1]] ?_; (with_reducible refine (spec_drGood.calls k a0_0 a0_1 true _ A7.1).mono ?_); rintro e w23 ⟨rfl, hb⟩; refine ⟨_, rfl, ?_⟩; replace BK482 := zb BK482 hb; replace BK483 := zb BK483 hb; replace BK484 := zb BK484 hb; replace HB := zB HB hb; clear hb; have hnb24 := NB483_484.1; have hnc24 := NB484_483.1; obtain ⟨hcz25_0, hcz25_1, hfz25_0, hfz25_1⟩ := zc2 BK483) | (go_at_call 53; (with_reducible refine (spec_drGood.calls k a1_0 a1_1 true _ A9.1).mono ?_); rintro e w26 ⟨rfl, hb⟩; replace BK482 := zb BK482 hb; replace BK483 := zb BK483 hb; replace BK484 := zb BK484 hb; replace HB := zB HB hb; clear hb; obtain ⟨hcz27_0, hcz27_1, hfz27_0, hfz27_1⟩ := zc2 BK482; obtain ⟨hcz28_0, hcz28_1, hfz28_0, hfz28_1⟩ := zc2 BK483))
        go_meet
        case rel => exact ⟨_, ((a1_0 == 0)), ew, H', le_, ⟨bk BK482⟩, ⟨bk BK483⟩, ⟨bk BK484⟩, ⟨bq HB⟩⟩
      replace c10 := Bool.eq_false_iff.mpr c10
      subst c10
      rw [if_neg (show ¬ (false = true) by decide)] at H
      have H' := Aside0.mk H
      clear H
      have hnb29 := NB482_483.1
      have hnc29 := NB483_482.1
      have hnb30 := NB482_484.1
      have hnc30 := NB484_482.1
      obtain ⟨hcz31_0, hcz31_1, hfz31_0, hfz31_1⟩ := zc2 BK482
      go_wp2_with (first | ((with_reducible refine gate_callee (f := 53) rfl ?_); refine gl (some 7) Tryz.func53 #[.agg #[.int .i64 a0_0, .int .i64 a0_1]] ?_; (with_reducible refine (spec_drGood.calls k a0_0 a0_1 true _ A7.1).mono ?_); rintro e w32 ⟨rfl, hb⟩; refine ⟨_, rfl, ?_⟩; replace BK482 := zb BK482 hb; replace BK483 := zb BK483 hb; replace BK484 := zb BK484 hb; replace HB := zB HB hb; clear hb; have hnb33 := NB483_484.1; have hnc33 := NB484_483.1; obtain ⟨hcz34_0, hcz34_1, hfz34_0, hfz34_1⟩ := zc2 BK483) | (go_at_call 53; (with_reducible refine (spec_drGood.calls k a1_0 a1_1 false _ A9.1).mono ?_); rintro e w35 ⟨rfl, hb⟩; replace BK482 := zb BK482 hb; replace BK483 := zb BK483 hb; replace BK484 := zb BK484 hb; replace HB := zB HB hb; clear hb))
      go_meet
      case rel => exact ⟨_, (true), ew, H', le_, ⟨bk BK482⟩, ⟨bk BK483⟩, ⟨bk BK484⟩, ⟨bq HB⟩⟩
    replace c8 := Bool.eq_false_iff.mpr c8
    subst c8
    rw [if_neg (show ¬ (false = true) by decide)] at H
    have H' := Aside0.mk H
    clear H
    have hnb36 := NB482_483.1
    have hnc36 := NB483_482.1
    have hnb37 := NB482_484.1
    have hnc37 := NB484_482.1
    obtain ⟨hcz38_0, hcz38_1, hfz38_0, hfz38_1⟩ := zc2 BK482
    go_wp2_with (first | ((with_reducible refine gate_callee (f := 53) rfl ?_); refine gl (some 7) Tryz.func53 #[.agg #[.int .i64 a0_0, .int .i64 a0_1]] ?_; (with_reducible refine (spec_drGood.calls k a0_0 a0_1 false _ A7.1).mono ?_); rintro e w39 ⟨rfl, hb⟩; refine ⟨_, rfl, ?_⟩; replace BK482 := zb BK482 hb; replace BK483 := zb BK483 hb; replace BK484 := zb BK484 hb; replace HB := zB HB hb; clear hb))
    go_meet
    case rel => exact ⟨_, (true), ew, H', le_, ⟨bk BK482⟩, ⟨bk BK483⟩, ⟨bk BK484⟩, ⟨bq HB⟩⟩
  clear HC3
  try clear c1
  try clear c2
  try clear p2
  try clear c3
  try clear c5
  try clear c8
  try clear c10
  try clear c11
  try clear c11b0
  try clear c11b1
  try clear c12
  try clear c13
  try clear c16
  try clear c20
  try clear c21
  try clear c24
  try clear c29
  try clear c30
  try clear c33
  try clear c36
  try clear c37
  try clear hcz14_0
  try clear hcz14_1
  try clear hcz17_0
  try clear hcz17_1
  try clear hcz19_0
  try clear hcz19_1
  try clear hcz22_0
  try clear hcz22_1
  try clear hcz25_0
  try clear hcz25_1
  try clear hcz27_0
  try clear hcz27_1
  try clear hcz28_0
  try clear hcz28_1
  try clear hcz31_0
  try clear hcz31_1
  try clear hcz34_0
  try clear hcz34_1
  try clear hcz38_0
  try clear hcz38_1
  try clear hfz14_0
  try clear hfz14_1
  try clear hfz17_0
  try clear hfz17_1
  try clear hfz19_0
  try clear hfz19_1
  try clear hfz22_0
  try clear hfz22_1
  try clear hfz25_0
  try clear hfz25_1
  try clear hfz27_0
  try clear hfz27_1
  try clear hfz28_0
  try clear hfz28_1
  try clear hfz31_0
  try clear hfz31_1
  try clear hfz34_0
  try clear hfz34_1
  try clear hfz38_0
  try clear hfz38_1
  obtain ⟨kq, x23_2, rfl, HA, HJ2, BK482, BK483, BK484, HB⟩ := hcut
  cases kq with
  | zero => exact absurd HA.1 (by simp [spec_CommonSpan.j0])
  | succ kj2 =>
    have H := HA.1
    clear HA
    simp only [spec_CommonSpan.j0] at H
    by_cases c40 : x23_2 = true
    · subst c40
      rw [if_pos rfl] at H
      simp only [Option.some.injEq, Prod.mk.injEq] at H
      obtain ⟨rfl, rfl, rfl⟩ := H
      have hnb41 := NB484_482.1
      have hnc41 := NB482_484.1
      have hnb42 := NB484_483.1
      have hnc42 := NB483_484.1
      obtain ⟨hcz43_0, hcz43_1, hfz43_0, hfz43_1⟩ := zc2 BK484
      go_wp2
      refine bodyPost_ret (results_ct rfl _ _ gb484 30 #[.int .i64 0, .int .i64 0] (0, 0) _ rfl (bk BK484) Tryz.underlying30 rfl (by kernel_rfl)) rfl ?_
      exact ⟨er, bq HB⟩
    replace c40 := Bool.eq_false_iff.mpr c40
    subst c40
    rw [if_neg (show ¬ (false = true) by decide)] at H
    replace H := Option.bind_eq_some_iff.mp H
    obtain ⟨t487, A440, H⟩ := H
    (try dsimp only at H)
    have A44 := Aside0.mk A440
    clear A440
    by_cases c45 : t487 = 0
    · rw [if_pos c45] at H
      exact absurd H (by simp)
    rw [if_neg c45] at H
    have c45b0 : (t487 == 0) = false := beq_eq_false_iff_ne.mpr c45
    have c45b1 : (t487 != 0) = true := bne_iff_ne.mpr c45
    replace H := Option.bind_eq_some_iff.mp H
    obtain ⟨t488, A460, H⟩ := H
    (try dsimp only at H)
    have A46 := Aside0.mk A460
    clear A460
    replace H := Option.bind_eq_some_iff.mp H
    obtain ⟨⟨t489, t490, t491⟩, A470, H⟩ := H
    (try dsimp only at H)
    have A47 := Aside0.mk A470
    clear A470
    simp only [Option.some.injEq, Prod.mk.injEq] at H
    obtain ⟨rfl, rfl, rfl⟩ := H
    try go_wp2
    replace BK482 := Aside0.mk (blk_drew BK482.1)
    replace BK483 := Aside0.mk (blk_drew BK483.1)
    replace BK484 := Aside0.mk (blk_drew BK484.1)
    replace HB := Aside0.mk (below_drew1 HB.1)
    refine start_ (n := 21) (S := fun w' => w'.cell? ⟨gb482, 0, none⟩ = some (.int .i64 a0_0) ∧ w'.cell? ⟨gb482, 1, none⟩ = some (.int .i64 a0_1) ∧ w'.cell? ⟨gb483, 0, none⟩ = some (.int .i64 a1_0) ∧ w'.cell? ⟨gb483, 1, none⟩ = some (.int .i64 a1_1)) (ds := []) (bs 21 0) (by kernel_rfl) rfl rfl ⟨(blk_cell BK482.1 0).trans rfl, (blk_cell BK482.1 1).trans rfl, (blk_cell BK483.1 0).trans rfl, (blk_cell BK483.1 1).trans rfl⟩ (fun hHeld => ?_); refine with_tabW spec_CommonSpan.tab3 spec_CommonSpan.bits3 (fun HT_ HW_ => ?_)
    generalize wc.drew = w48 at BK482 BK483 BK484 HB hHeld ⊢
    refine pu 0 25 HT_ rfl rfl (bs 21 1) ?_
    refine pu 2 27 HT_ rfl rfl (bs 21 5) ?_
    refine pu 4 29 HT_ rfl rfl (bs 21 21) ?_
    refine pu 8 33 HT_ rfl rfl (bs 21 277) ?_
    refine pu 11 36 HT_ rfl rfl (bs 21 2325) ?_
    refine pu 13 38 HT_ rfl rfl (bs 21 10517) ?_
    refine tk 1 26 HT_ HW_ hHeld rfl rfl (bs 21 10519) ?_
    refine tk 3 28 HT_ HW_ hHeld rfl rfl (bs 21 10527) ?_
    refine tk 5 30 HT_ HW_ hHeld rfl rfl (bs 21 10559) ?_
    refine tk 9 34 HT_ HW_ hHeld rfl rfl (bs 21 11071) ?_
    refine tk 12 37 HT_ HW_ hHeld rfl rfl (bs 21 15167) ?_
    refine tk 14 39 HT_ HW_ hHeld rfl rfl (bs 21 31551) ?_
    refine one_ (i := 6) (N := some 31) (bs 21 31615) rfl rfl (one_of HT_.1 (by kernel_rfl)) (by decide) (fun K hK => ?_)
    refine gs Tryz.func54 #[.int .i64 a0_0, .int .i64 a1_0] ?_
    with_reducible refine (spec_diCommon.calls kj2 a0_0 a1_0 t487 _ A44.1).mono ?_
    rintro e w' ⟨rfl, ⟨nd, rfl⟩⟩
    refine ⟨_, rfl, ?_⟩
    refine hK.out _ _ ⟨(blk_cell BK482.1 0).trans rfl, (blk_cell BK482.1 1).trans rfl, (blk_cell BK483.1 0).trans rfl, (blk_cell BK483.1 1).trans rfl⟩ (fun hHeld => ?_)
    clear hK K
    refine norm_ (aq 31) ?_
    refine pu 7 32 HT_ rfl rfl (bs 21 31743) ?_
    refine pu 10 35 HT_ rfl rfl (bs 21 32767) ?_
    refine one_ (i := 15) (N := some 40) (bs 21 65535) rfl rfl (one_of HT_.1 (by kernel_rfl)) (by decide) (fun K hK => ?_)
    refine gs Tryz.func54 #[.int .i64 a0_1, .int .i64 a1_1] ?_
    with_reducible refine (spec_diCommon.calls kj2 a0_1 a1_1 t488 _ A46.1).mono ?_
    rintro e w' ⟨rfl, ⟨nd, rfl⟩⟩
    refine ⟨_, rfl, ?_⟩
    refine hK.out _ _ ⟨(blk_cell BK482.1 0).trans rfl, (blk_cell BK482.1 1).trans rfl, (blk_cell BK483.1 0).trans rfl, (blk_cell BK483.1 1).trans rfl⟩ (fun hHeld => ?_)
    clear hK K
    refine norm_ (aq 40) ?_
    refine one_ (i := 16) (N := some 41) (bs 21 131071) rfl rfl (one_of HT_.1 (by kernel_rfl)) (by decide) (fun K hK => ?_)
    refine gs Tryz.func41 #[.int .i64 (wrap64 ((wrap64 (Int.tdiv a0_0 t487)) * a1_0)), .int .i64 t488] ?_
    with_reducible refine (spec_drMake.calls kj2 (wrap64 ((wrap64 (Int.tdiv a0_0 t487)) * a1_0)) t488 t489 t490 t491 _ A47.1).mono ?_
    rintro e w49 ⟨rfl, hb⟩
    refine ⟨_, rfl, ?_⟩
    replace BK482 := zb BK482 hb
    replace BK483 := zb BK483 hb
    replace BK484 := zb BK484 hb
    replace HB := zB HB hb
    (try clear hb)
    (try clear hb2)
    (try clear hk)
    (try clear hi)
    refine hK.out _ _ ⟨(blk_cell BK482.1 0).trans rfl, (blk_cell BK482.1 1).trans rfl, (blk_cell BK483.1 0).trans rfl, (blk_cell BK483.1 1).trans rfl⟩ (fun hHeld => ?_)
    clear hK K
    refine norm_ (aq 41) ?_
    refine pu 17 42 HT_ rfl rfl (bs 21 262143) ?_
    refine pu 18 43 HT_ rfl rfl (bs 21 524287) ?_
    refine one_ (i := 19) (N := none) (bs 21 1048575) rfl rfl (one_of HT_.1 (by kernel_rfl)) (by decide) (fun K hK => ?_)
    have hs50 : w49.cell? ⟨gb484, 0, none⟩ = some (.int .i64 0) := (blk_cell BK484.1 0).trans rfl
    have hfs50 := blk_frozen BK484.1 0
    have hns50_0 := NB482_484.1
    have hns50_1 := NB483_484.1
    have hms50_0 := NB484_482.1
    have hms50_1 := NB484_483.1
    have hs51 : w49.cell? ⟨gb484, 1, none⟩ = some (.int .i64 0) := (blk_cell BK484.1 1).trans rfl
    have hfs51 := blk_frozen BK484.1 1
    have hns51_0 := NB482_484.1
    have hns51_1 := NB483_484.1
    have hms51_0 := NB484_482.1
    have hms51_1 := NB484_483.1
    refine skip_ (w1 := ?_) (by rfl) rfl ?_ ?_
    rotate_left
    · go_simp
      rfl
    refine hK.out _ _ ⟨((cell_far (p := ⟨gb484, _, none⟩) NB482_484.1 _).trans (((cell_far (p := ⟨gb484, _, none⟩) NB482_484.1 _).trans (hHeld.1)))), ((cell_far (p := ⟨gb484, _, none⟩) NB482_484.1 _).trans (((cell_far (p := ⟨gb484, _, none⟩) NB482_484.1 _).trans (hHeld.2.1)))), ((cell_far (p := ⟨gb484, _, none⟩) NB483_484.1 _).trans (((cell_far (p := ⟨gb484, _, none⟩) NB483_484.1 _).trans (hHeld.2.2.1)))), ((cell_far (p := ⟨gb484, _, none⟩) NB483_484.1 _).trans (((cell_far (p := ⟨gb484, _, none⟩) NB483_484.1 _).trans (hHeld.2.2.2))))⟩ (fun hHeld => ?_)
    clear hK K
    refine pu 20 5 HT_ rfl rfl (bs 21 2097151) ?_
    refine done_ (done_of HT_.1 (by kernel_rfl)) ?_
    try go_wp2
    refine bodyPost_ret (results_ct rfl _ _ gb484 30 #[.int .i64 t489, .int .i64 t490] (0, 0) _ rfl (bk BK484) Tryz.underlying30 rfl (by kernel_rfl)) rfl ?_
    exact ⟨er, bq HB⟩

end Go.Proofs.YtejlandhfnnkiaaGreatDoor.PFnClocksAgree
