/- A part of the walk of FnClocksAgree: which Lean function each Go function comes to, and that the machine's call does so. Written by a program of this repo (wip/gen/xprint.py). -/
import Derived.Test.YtejlandhfnnkiaaGreatDoorPFnClocksAgreex0
import Derived.Test.YtejlandhfnnkiaaGreatDoorPFnClocksAgreex6
import Derived.Test.YtejlandhfnnkiaaGreatDoorPFnClocksAgreex7
import Derived.Test.YtejlandhfnnkiaaGreatDoorPFnClocksAgreex8
import Derived.Test.YtejlandhfnnkiaaGreatDoorPFnClocksAgreex21
namespace Go.Proofs.YtejlandhfnnkiaaGreatDoor.PFnClocksAgree
open Go.RowKit Go.Proofs.YtejlandhfnnkiaaGreatDoorW.PrintWords Go.Proofs.YtejlandhfnnkiaaGreatDoorW.PrintLast Go.Proofs.YtejlandhfnnkiaaGreatDoorW.PrintMore
attribute [local go_sem] max2_int min2_int max_two min_two max_three min_three max_four min_four   -- for this text's walks alone
set_option linter.unusedVariables false
set_option linter.unusedSimpArgs false

/-! ### impl_CommonSpan: function 20 -/
def impl_CommonSpan.j0 : Nat → Bool → Int → Int → Int → Int → Option (Int × Int × Bool)
  | 0, _, _, _, _, _ => none
  | k + 1, x23, x473000, x473001, x474000, x474001 => if x23 = true then (some (0, 0, false)) else ((impl_lcm.f k x473000 x474000).bind fun t477 => ((impl_gcd.f k x473001 x474001).bind fun t478 => ((impl_spanOf.f k t477 t478).bind fun bt479 => (some (bt479.1, bt479.2.1, bt479.2.2)))))
def impl_CommonSpan.f (k : Nat) (a0_0 : Int) (a0_1 : Int) (a1_0 : Int) (a1_1 : Int) : Option (Int × Int × Bool) := (impl_IsSpan.f k a0_0 a0_1).bind fun t475 => (if t475 = true then ((impl_IsSpan.f k a1_0 a1_1).bind fun t476 => (if t476 = true then (if a0_0 = 0 then (impl_CommonSpan.j0 k true a0_0 a0_1 a1_0 a1_1) else (impl_CommonSpan.j0 k (a1_0 == 0) a0_0 a0_1 a1_0 a1_1)) else (impl_CommonSpan.j0 k true a0_0 a0_1 a1_0 a1_1))) else (impl_CommonSpan.j0 k true a0_0 a0_1 a1_0 a1_1))
theorem impl_CommonSpan.mono_l : ∀ k, (∀ y0 y1 y2 y3 y4, LeO (impl_CommonSpan.j0 k y0 y1 y2 y3 y4) (impl_CommonSpan.j0 (k + 1) y0 y1 y2 y3 y4))
  | 0 => fun _ _ _ _ _ r h => by simp [impl_CommonSpan.j0] at h
  | k + 1 => by
    have ih0 := impl_CommonSpan.mono_l k
    intro y0 y1 y2 y3 y4
    unfold impl_CommonSpan.j0
    repeat' first
    | (with_reducible exact ih0 _ _ _ _ _)
    | (with_reducible exact impl_IsSpan.mono _ _ _)
    | (with_reducible exact impl_gcd.mono _ _ _)
    | (with_reducible exact impl_lcm.mono _ _ _)
    | (with_reducible exact impl_spanOf.mono _ _ _)
    | (with_reducible exact LeO.refl _)
    | (with_reducible exact LeO.none _)
    | (with_reducible refine LeO.ite ?_ ?_)
    | (with_reducible refine LeO.bind ?_ (fun _ => ?_))
    | exact ih0 _ _ _ _ _
    | exact impl_IsSpan.mono _ _ _
    | exact impl_gcd.mono _ _ _
    | exact impl_lcm.mono _ _ _
    | exact impl_spanOf.mono _ _ _
    | exact LeO.none _
    | refine LeO.ite ?_ ?_
    | refine LeO.bind ?_ (fun _ => ?_)
theorem impl_CommonSpan.mono : ∀ a0 a1 a2 a3 k, LeO (impl_CommonSpan.f k a0 a1 a2 a3) (impl_CommonSpan.f (k + 1) a0 a1 a2 a3) := by
  intro a0 a1 a2 a3 k
  have ih0 := impl_CommonSpan.mono_l k
  unfold impl_CommonSpan.f
  repeat' first
      | (with_reducible exact ih0 _ _ _ _ _)
      | (with_reducible exact impl_IsSpan.mono _ _ _)
      | (with_reducible exact impl_gcd.mono _ _ _)
      | (with_reducible exact impl_lcm.mono _ _ _)
      | (with_reducible exact impl_spanOf.mono _ _ _)
      | (with_reducible exact LeO.refl _)
      | (with_reducible exact LeO.none _)
      | (with_reducible refine LeO.ite ?_ ?_)
      | (with_reducible refine LeO.bind ?_ (fun _ => ?_))
      | exact ih0 _ _ _ _ _
      | exact impl_IsSpan.mono _ _ _
      | exact impl_gcd.mono _ _ _
      | exact impl_lcm.mono _ _ _
      | exact impl_spanOf.mono _ _ _
      | exact LeO.none _
      | refine LeO.ite ?_ ?_
      | refine LeO.bind ?_ (fun _ => ?_)
def impl_CommonSpan.T3 : Bool × List (List Nat × List Nat) := (true, [([], []), ([0], [0]), ([], []), ([2], [2]), ([1, 3], [1, 3]), ([], []), ([5], [5]), ([], []), ([7], [7]), ([6, 8, 4], [6, 8]), ([4, 9, 9], [4, 9]), ([10], [10]), ([10], [10]), ([11, 10, 0, 1, 2, 3, 4, 5, 6, 7, 8, 9, 10, 11, 12], [11]), ([12, 13, 0, 1, 2, 3, 4, 5, 6, 7, 8, 9, 10, 11, 12, 13], [12])])
def impl_CommonSpan.B3 : List Nat := [0, 1, 0, 4, 15, 0, 32, 0, 128, 511, 1023, 2047, 2047, 8191, 16383]
theorem impl_CommonSpan.tab3 : rtab .any (opsOf Tryz.f20 3) = impl_CommonSpan.T3 := by kernel_rfl
theorem impl_CommonSpan.bits3 : waitsOk impl_CommonSpan.T3.2 impl_CommonSpan.B3 = true := by kernel_rfl
set_option maxHeartbeats 8000000 in
set_option maxRecDepth 100000 in
theorem impl_CommonSpan.calls (k : Nat) (a0_0 : Int) (a0_1 : Int) (a1_0 : Int) (a1_1 : Int) (r1 : Int) (r2 : Int) (r3 : Bool) (w : World) (h : impl_CommonSpan.f k a0_0 a0_1 a1_0 a1_1 = some (r1, r2, r3)) :
    Calls Tryz.prog 20 #[.agg #[.int .i64 a0_0, .int .i64 a0_1], .agg #[.int .i64 a1_0, .int .i64 a1_1]] w fun e w' => e = .returned (.tuple #[.agg #[.int .i64 r1, .int .i64 r2], .bool r3]) ∧ Below w.heap.size w w' := by
  have hu30 := Tryz.underlying30
  have HB := Aside0.mk (Below.refl w.heap.size w)
  have H : ((impl_IsSpan.f k a0_0 a0_1).bind fun t475 => (if t475 = true then ((impl_IsSpan.f k a1_0 a1_1).bind fun t476 => (if t476 = true then (if a0_0 = 0 then (impl_CommonSpan.j0 k true a0_0 a0_1 a1_0 a1_1) else (impl_CommonSpan.j0 k (a1_0 == 0) a0_0 a0_1 a1_0 a1_1)) else (impl_CommonSpan.j0 k true a0_0 a0_1 a1_0 a1_1))) else (impl_CommonSpan.j0 k true a0_0 a0_1 a1_0 a1_1))) = some (r1, r2, r3) := h
  clear h
  have HC3 := Aside0.mk H
  clear H
  go_enter Tryz.func20, Tryz.ntmps20
  go_upto_region 1 with (first | ((with_reducible refine gate_dst (N := 2) rfl ?_); refine be #[.int .i64 a0_0, .int .i64 a0_1] 30 ?_; intro gb472 hg w4 hbox hb; have BK472 := Aside0.mk hbox; have GW472 := zs HB hg; have GE472 := zs HB hg; replace HB := zB HB hb; clear hb hbox hg) | ((with_reducible refine gate_dst (N := 3) rfl ?_); refine be #[.int .i64 a1_0, .int .i64 a1_1] 30 ?_; intro gb473 hg w5 hbox hb; have BK473 := Aside0.mk hbox; have GW473 := zs HB hg; have GE473 := zs HB hg; have NB472_473 := zn BK472 hg; have NB473_472 := zm BK472 hg; replace BK472 := zb BK472 hb; replace HB := zB HB hb; clear hb hbox hg) | ((with_reducible refine gate_dst (N := 4) rfl ?_); refine be #[.int .i64 0, .int .i64 0] 30 ?_; intro gb474 hg w6 hbox hb; have BK474 := Aside0.mk hbox; have GW474 := zs HB hg; have GE474 := zs HB hg; have NB472_474 := zn BK472 hg; have NB474_472 := zm BK472 hg; have NB473_474 := zn BK473 hg; have NB474_473 := zm BK473 hg; replace BK472 := zb BK472 hb; replace BK473 := zb BK473 hb; replace HB := zB HB hb; clear hb hbox hg))
  (try simp only [Act.put, List.setIfInBounds_toArray, List.set_cons_zero, List.set_cons_succ])
  go_cut [23] (fun v23 wc => ∃ (kq : Nat) (x23_2 : Bool), v23 = .bool x23_2 ∧ Aside0 (impl_CommonSpan.j0 kq x23_2 a0_0 a0_1 a1_0 a1_1 = some (r1, r2, r3)) ∧ Aside0 (kq ≤ k) ∧ Aside0 (wc.heap[gb472]? = some (.cells #[.int .i64 a0_0, .int .i64 a0_1] 30 (0, 0))) ∧ Aside0 (wc.heap[gb473]? = some (.cells #[.int .i64 a1_0, .int .i64 a1_1] 30 (0, 0))) ∧ Aside0 (wc.heap[gb474]? = some (.cells #[.int .i64 0, .int .i64 0] 30 (0, 0))) ∧ Aside0 (Below w.heap.size w wc))
  case first =>
    have H := HC3.1
    clear HC3
    replace H := Option.bind_eq_some_iff.mp H
    obtain ⟨t475, A70, H⟩ := H
    (try dsimp only at H)
    have A7 := Aside0.mk A70
    clear A70
    by_cases c8 : t475 = true
    · subst c8
      rw [if_pos rfl] at H
      replace H := Option.bind_eq_some_iff.mp H
      obtain ⟨t476, A90, H⟩ := H
      (try dsimp only at H)
      have A9 := Aside0.mk A90
      clear A90
      by_cases c10 : t476 = true
      · subst c10
        rw [if_pos rfl] at H
        by_cases c11 : a0_0 = 0
        · rw [if_pos c11] at H
          have c11b0 : (a0_0 == 0) = true := beq_iff_eq.mpr c11
          have c11b1 : (a0_0 != 0) = false := bne_eq_false_iff_eq.mpr c11
          clear c11
          (first | rw [c11b0] | (simp only [i64_w, i32_w]; rw [c11b0]) | skip)
          have H' := Aside0.mk H
          clear H
          have hnb12 := NB472_473.1
          have hnc12 := NB473_472.1
          have hnb13 := NB472_474.1
          have hnc13 := NB474_472.1
          obtain ⟨hcz14_0, hcz14_1, hfz14_0, hfz14_1⟩ := zc2 BK472
          go_wp2_with (first | ((with_reducible refine gate_callee (f := 31) rfl ?_); refine gl (some 7) Tryz.func31 #[.agg #[.int .i64 a0_0, .int .i64 a0_1]] ?_; (with_reducible refine (impl_IsSpan.calls k a0_0 a0_1 true _ A7.1).mono ?_); rintro e w15 ⟨rfl, hb⟩; refine ⟨_, rfl, ?_⟩; replace BK472 := zb BK472 hb; replace BK473 := zb BK473 hb; replace BK474 := zb BK474 hb; replace HB := zB HB hb; clear hb; have hnb16 := NB473_474.1; have hnc16 := NB474_473.1; obtain ⟨hcz17_0, hcz17_1, hfz17_0, hfz17_1⟩ := zc2 BK473) | (go_at_call 31; (with_reducible refine (impl_IsSpan.calls k a1_0 a1_1 true _ A9.1).mono ?_); rintro e w18 ⟨rfl, hb⟩; replace BK472 := zb BK472 hb; replace BK473 := zb BK473 hb; replace BK474 := zb BK474 hb; replace HB := zB HB hb; clear hb; obtain ⟨hcz19_0, hcz19_1, hfz19_0, hfz19_1⟩ := zc2 BK472))
          go_meet
          case rel => exact ⟨_, (true), ew, H', le_, ⟨bk BK472⟩, ⟨bk BK473⟩, ⟨bk BK474⟩, ⟨bq HB⟩⟩
        rw [if_neg c11] at H
        have c11b0 : (a0_0 == 0) = false := beq_eq_false_iff_ne.mpr c11
        have c11b1 : (a0_0 != 0) = true := bne_iff_ne.mpr c11
        (first | rw [c11b0] | (simp only [i64_w, i32_w]; rw [c11b0]) | skip)
        have H' := Aside0.mk H
        clear H
        have hnb20 := NB472_473.1
        have hnc20 := NB473_472.1
        have hnb21 := NB472_474.1
        have hnc21 := NB474_472.1
        obtain ⟨hcz22_0, hcz22_1, hfz22_0, hfz22_1⟩ := zc2 BK472
        go_wp2_with (first | ((with_reducible refine gate_callee (f := 31) rfl ?_); refine gl (some 7) Tryz.func31 #[.agg #[.int .i64 a0_0, .int .i64 a0_1]] ?_; (with_reducible refine (impl_IsSpan.calls k a0_0 a0_1 true _ A7.1).mono ?_); rintro e w23 ⟨rfl, hb⟩; refine ⟨_, rfl, ?_⟩; replace BK472 := zb BK472 hb; replace BK473 := zb BK473 hb; replace BK474 := zb BK474 hb; replace HB := zB HB hb; clear hb; have hnb24 := NB473_474.1; have hnc24 := NB474_473.1; obtain ⟨hcz25_0, hcz25_1, hfz25_0, hfz25_1⟩ := zc2 BK473) | (go_at_call 31; (with_reducible refine (impl_IsSpan.calls k a1_0 a1_1 true _ A9.1).mono ?_); rintro e w26 ⟨rfl, hb⟩; replace BK472 := zb BK472 hb; replace BK473 := zb BK473 hb; replace BK474 := zb BK474 hb; replace HB := zB HB hb; clear hb; obtain ⟨hcz27_0, hcz27_1, hfz27_0, hfz27_1⟩ := zc2 BK472; obtain ⟨hcz28_0, hcz28_1, hfz28_0, hfz28_1⟩ := zc2 BK473))
        go_meet
        case rel => exact ⟨_, ((a1_0 == 0)), ew, H', le_, ⟨bk BK472⟩, ⟨bk BK473⟩, ⟨bk BK474⟩, ⟨bq HB⟩⟩
      replace c10 := Bool.eq_false_iff.mpr c10
      subst c10
      rw [if_neg (show ¬ (false = true) by decide)] at H
      have H' := Aside0.mk H
      clear H
      have hnb29 := NB472_473.1
      have hnc29 := NB473_472.1
      have hnb30 := NB472_474.1
      have hnc30 := NB474_472.1
      obtain ⟨hcz31_0, hcz31_1, hfz31_0, hfz31_1⟩ := zc2 BK472
      go_wp2_with (first | ((with_reducible refine gate_callee (f := 31) rfl ?_); refine gl (some 7) Tryz.func31 #[.agg #[.int .i64 a0_0, .int .i64 a0_1]] ?_; (with_reducible refine (impl_IsSpan.calls k a0_0 a0_1 true _ A7.1).mono ?_); rintro e w32 ⟨rfl, hb⟩; refine ⟨_, rfl, ?_⟩; replace BK472 := zb BK472 hb; replace BK473 := zb BK473 hb; replace BK474 := zb BK474 hb; replace HB := zB HB hb; clear hb; have hnb33 := NB473_474.1; have hnc33 := NB474_473.1; obtain ⟨hcz34_0, hcz34_1, hfz34_0, hfz34_1⟩ := zc2 BK473) | (go_at_call 31; (with_reducible refine (impl_IsSpan.calls k a1_0 a1_1 false _ A9.1).mono ?_); rintro e w35 ⟨rfl, hb⟩; replace BK472 := zb BK472 hb; replace BK473 := zb BK473 hb; replace BK474 := zb BK474 hb; replace HB := zB HB hb; clear hb))
      go_meet
      case rel => exact ⟨_, (true), ew, H', le_, ⟨bk BK472⟩, ⟨bk BK473⟩, ⟨bk BK474⟩, ⟨bq HB⟩⟩
    replace c8 := Bool.eq_false_iff.mpr c8
    subst c8
    rw [if_neg (show ¬ (false = true) by decide)] at H
    have H' := Aside0.mk H
    clear H
    have hnb36 := NB472_473.1
    have hnc36 := NB473_472.1
    have hnb37 := NB472_474.1
    have hnc37 := NB474_472.1
    obtain ⟨hcz38_0, hcz38_1, hfz38_0, hfz38_1⟩ := zc2 BK472
    go_wp2_with (first | ((with_reducible refine gate_callee (f := 31) rfl ?_); refine gl (some 7) Tryz.func31 #[.agg #[.int .i64 a0_0, .int .i64 a0_1]] ?_; (with_reducible refine (impl_IsSpan.calls k a0_0 a0_1 false _ A7.1).mono ?_); rintro e w39 ⟨rfl, hb⟩; refine ⟨_, rfl, ?_⟩; replace BK472 := zb BK472 hb; replace BK473 := zb BK473 hb; replace BK474 := zb BK474 hb; replace HB := zB HB hb; clear hb))
    go_meet
    case rel => exact ⟨_, (true), ew, H', le_, ⟨bk BK472⟩, ⟨bk BK473⟩, ⟨bk BK474⟩, ⟨bq HB⟩⟩
  clear HC3
  try clear c1
  try clear c2
  try clear p2
  try clear c3
  try clear c8
  try clear c10
  try clear c11
  try clear c11b0
  try clear c11b1
  try clear c12
  try clear c13
  try clear c16
  try clear c20
  try clear c21
  try clear c24
  try clear c29
  try clear c30
  try clear c31
  try clear c33
  try clear c36
  try clear c37
  try clear hcz14_0
  try clear hcz14_1
  try clear hcz17_0
  try clear hcz17_1
  try clear hcz19_0
  try clear hcz19_1
  try clear hcz22_0
  try clear hcz22_1
  try clear hcz25_0
  try clear hcz25_1
  try clear hcz27_0
  try clear hcz27_1
  try clear hcz28_0
  try clear hcz28_1
  try clear hcz31_0
  try clear hcz31_1
  try clear hcz34_0
  try clear hcz34_1
  try clear hcz38_0
  try clear hcz38_1
  try clear hfz14_0
  try clear hfz14_1
  try clear hfz17_0
  try clear hfz17_1
  try clear hfz19_0
  try clear hfz19_1
  try clear hfz22_0
  try clear hfz22_1
  try clear hfz25_0
  try clear hfz25_1
  try clear hfz27_0
  try clear hfz27_1
  try clear hfz28_0
  try clear hfz28_1
  try clear hfz31_0
  try clear hfz31_1
  try clear hfz34_0
  try clear hfz34_1
  try clear hfz38_0
  try clear hfz38_1
  obtain ⟨kq, x23_2, rfl, HA, HJ2, BK472, BK473, BK474, HB⟩ := hcut
  cases kq with
  | zero => exact absurd HA.1 (by simp [impl_CommonSpan.j0])
  | succ kj2 =>
    have H := HA.1
    clear HA
    simp only [impl_CommonSpan.j0] at H
    by_cases c40 : x23_2 = true
    · subst c40
      rw [if_pos rfl] at H
      simp only [Option.some.injEq, Prod.mk.injEq] at H
      obtain ⟨rfl, rfl, rfl⟩ := H
      have hnb41 := NB474_472.1
      have hnc41 := NB472_474.1
      have hnb42 := NB474_473.1
      have hnc42 := NB473_474.1
      obtain ⟨hcz43_0, hcz43_1, hfz43_0, hfz43_1⟩ := zc2 BK474
      go_wp2
      refine bodyPost_ret (results_ct rfl _ _ gb474 30 #[.int .i64 0, .int .i64 0] (0, 0) _ rfl (bk BK474) Tryz.underlying30 rfl (by kernel_rfl)) rfl ?_
      exact ⟨er, bq HB⟩
    replace c40 := Bool.eq_false_iff.mpr c40
    subst c40
    rw [if_neg (show ¬ (false = true) by decide)] at H
    replace H := Option.bind_eq_some_iff.mp H
    obtain ⟨t477, A440, H⟩ := H
    (try dsimp only at H)
    have A44 := Aside0.mk A440
    clear A440
    replace H := Option.bind_eq_some_iff.mp H
    obtain ⟨t478, A450, H⟩ := H
    (try dsimp only at H)
    have A45 := Aside0.mk A450
    clear A450
    replace H := Option.bind_eq_some_iff.mp H
    obtain ⟨⟨t479, t480, t481⟩, A460, H⟩ := H
    (try dsimp only at H)
    have A46 := Aside0.mk A460
    clear A460
    simp only [Option.some.injEq, Prod.mk.injEq] at H
    obtain ⟨rfl, rfl, rfl⟩ := H
    try go_wp2
    replace BK472 := Aside0.mk (blk_drew BK472.1)
    replace BK473 := Aside0.mk (blk_drew BK473.1)
    replace BK474 := Aside0.mk (blk_drew BK474.1)
    replace HB := Aside0.mk (below_drew1 HB.1)
    refine start_ (n := 15) (S := fun w' => w'.cell? ⟨gb472, 0, none⟩ = some (.int .i64 a0_0) ∧ w'.cell? ⟨gb472, 1, none⟩ = some (.int .i64 a0_1) ∧ w'.cell? ⟨gb473, 0, none⟩ = some (.int .i64 a1_0) ∧ w'.cell? ⟨gb473, 1, none⟩ = some (.int .i64 a1_1)) (ds := []) (bs 15 0) (by kernel_rfl) rfl rfl ⟨(blk_cell BK472.1 0).trans rfl, (blk_cell BK472.1 1).trans rfl, (blk_cell BK473.1 0).trans rfl, (blk_cell BK473.1 1).trans rfl⟩ (fun hHeld => ?_); refine with_tabW impl_CommonSpan.tab3 impl_CommonSpan.bits3 (fun HT_ HW_ => ?_)
    generalize wc.drew = w47 at BK472 BK473 BK474 HB hHeld ⊢
    refine pu 0 25 HT_ rfl rfl (bs 15 1) ?_
    refine pu 2 27 HT_ rfl rfl (bs 15 5) ?_
    refine pu 5 30 HT_ rfl rfl (bs 15 37) ?_
    refine pu 7 32 HT_ rfl rfl (bs 15 165) ?_
    refine tk 1 26 HT_ HW_ hHeld rfl rfl (bs 15 167) ?_
    refine tk 3 28 HT_ HW_ hHeld rfl rfl (bs 15 175) ?_
    refine tk 6 31 HT_ HW_ hHeld rfl rfl (bs 15 239) ?_
    refine tk 8 33 HT_ HW_ hHeld rfl rfl (bs 15 495) ?_
    refine one_ (i := 4) (N := some 29) (bs 15 511) rfl rfl (one_of HT_.1 (by kernel_rfl)) (by decide) (fun K hK => ?_)
    refine gs Tryz.func60 #[.int .i64 a0_0, .int .i64 a1_0] ?_
    with_reducible refine (impl_lcm.calls kj2 a0_0 a1_0 t477 _ A44.1).mono ?_
    rintro e w48 ⟨rfl, hb⟩
    refine ⟨_, rfl, ?_⟩
    replace BK472 := zb BK472 hb
    replace BK473 := zb BK473 hb
    replace BK474 := zb BK474 hb
    replace HB := zB HB hb
    (try clear hb)
    (try clear hb2)
    (try clear hk)
    (try clear hi)
    refine hK.out _ _ ⟨(blk_cell BK472.1 0).trans rfl, (blk_cell BK472.1 1).trans rfl, (blk_cell BK473.1 0).trans rfl, (blk_cell BK473.1 1).trans rfl⟩ (fun hHeld => ?_)
    clear hK K
    refine norm_ (aq 29) ?_
    refine one_ (i := 9) (N := some 34) (bs 15 1023) rfl rfl (one_of HT_.1 (by kernel_rfl)) (by decide) (fun K hK => ?_)
    refine gs Tryz.func50 #[.int .i64 a0_1, .int .i64 a1_1] ?_
    with_reducible refine (impl_gcd.calls kj2 a0_1 a1_1 t478 _ A45.1).mono ?_
    rintro e w49 ⟨rfl, hb⟩
    refine ⟨_, rfl, ?_⟩
    replace BK472 := zb BK472 hb
    replace BK473 := zb BK473 hb
    replace BK474 := zb BK474 hb
    replace HB := zB HB hb
    (try clear hb)
    (try clear hb2)
    (try clear hk)
    (try clear hi)
    refine hK.out _ _ ⟨(blk_cell BK472.1 0).trans rfl, (blk_cell BK472.1 1).trans rfl, (blk_cell BK473.1 0).trans rfl, (blk_cell BK473.1 1).trans rfl⟩ (fun hHeld => ?_)
    clear hK K
    refine norm_ (aq 34) ?_
    refine one_ (i := 10) (N := some 35) (bs 15 2047) rfl rfl (one_of HT_.1 (by kernel_rfl)) (by decide) (fun K hK => ?_)
    refine gs Tryz.func57 #[.int .i64 t477, .int .i64 t478] ?_
    with_reducible refine (impl_spanOf.calls kj2 t477 t478 t479 t480 t481 _ A46.1).mono ?_
    rintro e w50 ⟨rfl, hb⟩
    refine ⟨_, rfl, ?_⟩
    replace BK472 := zb BK472 hb
    replace BK473 := zb BK473 hb
    replace BK474 := zb BK474 hb
    replace HB := zB HB hb
    (try clear hb)
    (try clear hb2)
    (try clear hk)
    (try clear hi)
    refine hK.out _ _ ⟨(blk_cell BK472.1 0).trans rfl, (blk_cell BK472.1 1).trans rfl, (blk_cell BK473.1 0).trans rfl, (blk_cell BK473.1 1).trans rfl⟩ (fun hHeld => ?_)
    clear hK K
    refine norm_ (aq 35) ?_
    refine pu 11 36 HT_ rfl rfl (bs 15 4095) ?_
    refine pu 12 37 HT_ rfl rfl (bs 15 8191) ?_
    refine one_ (i := 13) (N := none) (bs 15 16383) rfl rfl (one_of HT_.1 (by kernel_rfl)) (by decide) (fun K hK => ?_)
    have hs51 : w50.cell? ⟨gb474, 0, none⟩ = some (.int .i64 0) := (blk_cell BK474.1 0).trans rfl
    have hfs51 := blk_frozen BK474.1 0
    have hns51_0 := NB472_474.1
    have hns51_1 := NB473_474.1
    have hms51_0 := NB474_472.1
    have hms51_1 := NB474_473.1
    have hs52 : w50.cell? ⟨gb474, 1, none⟩ = some (.int .i64 0) := (blk_cell BK474.1 1).trans rfl
    have hfs52 := blk_frozen BK474.1 1
    have hns52_0 := NB472_474.1
    have hns52_1 := NB473_474.1
    have hms52_0 := NB474_472.1
    have hms52_1 := NB474_473.1
    refine skip_ (w1 := ?_) (by rfl) rfl ?_ ?_
    rotate_left
    · go_simp
      rfl
    refine hK.out _ _ ⟨((cell_far (p := ⟨gb474, _, none⟩) NB472_474.1 _).trans (((cell_far (p := ⟨gb474, _, none⟩) NB472_474.1 _).trans (hHeld.1)))), ((cell_far (p := ⟨gb474, _, none⟩) NB472_474.1 _).trans (((cell_far (p := ⟨gb474, _, none⟩) NB472_474.1 _).trans (hHeld.2.1)))), ((cell_far (p := ⟨gb474, _, none⟩) NB473_474.1 _).trans (((cell_far (p := ⟨gb474, _, none⟩) NB473_474.1 _).trans (hHeld.2.2.1)))), ((cell_far (p := ⟨gb474, _, none⟩) NB473_474.1 _).trans (((cell_far (p := ⟨gb474, _, none⟩) NB473_474.1 _).trans (hHeld.2.2.2))))⟩ (fun hHeld => ?_)
    clear hK K
    refine pu 14 5 HT_ rfl rfl (bs 15 32767) ?_
    refine done_ (done_of HT_.1 (by kernel_rfl)) ?_
    try go_wp2
    refine bodyPost_ret (results_ct rfl _ _ gb474 30 #[.int .i64 t479, .int .i64 t480] (0, 0) _ rfl (bk BK474) Tryz.underlying30 rfl (by kernel_rfl)) rfl ?_
    exact ⟨er, bq HB⟩

end Go.Proofs.YtejlandhfnnkiaaGreatDoor.PFnClocksAgree
