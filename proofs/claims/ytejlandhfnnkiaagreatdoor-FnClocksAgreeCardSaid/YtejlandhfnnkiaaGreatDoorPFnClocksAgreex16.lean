/- A part of the walk of FnClocksAgree: which Lean function each Go function comes to, and that the machine's call does so. Written by a program of this repo (wip/gen/xprint.py). -/
import Derived.Test.YtejlandhfnnkiaaGreatDoorPFnClocksAgreex0
import Derived.Test.YtejlandhfnnkiaaGreatDoorPFnClocksAgreex4
import Derived.Test.YtejlandhfnnkiaaGreatDoorPFnClocksAgreex7
import Derived.Test.YtejlandhfnnkiaaGreatDoorPFnClocksAgreex12
import Derived.Test.YtejlandhfnnkiaaGreatDoorPFnClocksAgreex15
namespace Go.Proofs.YtejlandhfnnkiaaGreatDoor.PFnClocksAgree
open Go.RowKit Go.Proofs.YtejlandhfnnkiaaGreatDoorW.PrintWords Go.Proofs.YtejlandhfnnkiaaGreatDoorW.PrintLast Go.Proofs.YtejlandhfnnkiaaGreatDoorW.PrintMore
attribute [local go_sem] max2_int min2_int max_two min_two max_three min_three max_four min_four   -- for this text's walks alone
set_option linter.unusedVariables false
set_option linter.unusedSimpArgs false

/-! ### impl_ShownAfter: function 10 -/
def impl_ShownAfter.j0 : Nat → Bool → Int → Int → Int → Int → Int → Int → Option (Int × Int × Bool)
  | 0, _, _, _, _, _, _, _ => none
  | k + 1, x13, x371000, x371001, x371002, x371003, x372000, x372001 => if x13 = true then (some (0, 0, false)) else ((impl_Clock_after.f k x371000 x371001 x371002 x371003 x372000 x372001).bind fun bt375 => ((impl_Turn_plus.f k x371000 x371001 bt375.1 bt375.2).bind fun bt377 => ((impl_ifTurn.f k bt377.1 bt377.2).bind fun bt379 => (some (bt379.1, bt379.2.1, bt379.2.2)))))
def impl_ShownAfter.f (k : Nat) (a0_0 : Int) (a0_1 : Int) (a0_2 : Int) (a0_3 : Int) (a1_0 : Int) (a1_1 : Int) : Option (Int × Int × Bool) := (impl_IsClock.f k a0_0 a0_1 a0_2 a0_3).bind fun t373 => (if t373 = true then ((impl_IsSpan.f k a1_0 a1_1).bind fun t374 => (impl_ShownAfter.j0 k (!t374) a0_0 a0_1 a0_2 a0_3 a1_0 a1_1)) else (impl_ShownAfter.j0 k true a0_0 a0_1 a0_2 a0_3 a1_0 a1_1))
theorem impl_ShownAfter.mono_l : ∀ k, (∀ y0 y1 y2 y3 y4 y5 y6, LeO (impl_ShownAfter.j0 k y0 y1 y2 y3 y4 y5 y6) (impl_ShownAfter.j0 (k + 1) y0 y1 y2 y3 y4 y5 y6))
  | 0 => fun _ _ _ _ _ _ _ r h => by simp [impl_ShownAfter.j0] at h
  | k + 1 => by
    have ih0 := impl_ShownAfter.mono_l k
    intro y0 y1 y2 y3 y4 y5 y6
    unfold impl_ShownAfter.j0
    repeat' first
    | (with_reducible exact ih0 _ _ _ _ _ _ _)
    | (with_reducible exact impl_Clock_after.mono _ _ _ _ _ _ _)
    | (with_reducible exact impl_IsClock.mono _ _ _ _ _)
    | (with_reducible exact impl_IsSpan.mono _ _ _)
    | (with_reducible exact impl_Turn_plus.mono _ _ _ _ _)
    | (with_reducible exact impl_ifTurn.mono _ _ _)
    | (with_reducible exact LeO.refl _)
    | (with_reducible exact LeO.none _)
    | (with_reducible refine LeO.ite ?_ ?_)
    | (with_reducible refine LeO.bind ?_ (fun _ => ?_))
    | exact ih0 _ _ _ _ _ _ _
    | exact impl_Clock_after.mono _ _ _ _ _ _ _
    | exact impl_IsClock.mono _ _ _ _ _
    | exact impl_IsSpan.mono _ _ _
    | exact impl_Turn_plus.mono _ _ _ _ _
    | exact impl_ifTurn.mono _ _ _
    | exact LeO.none _
    | refine LeO.ite ?_ ?_
    | refine LeO.bind ?_ (fun _ => ?_)
theorem impl_ShownAfter.mono : ∀ a0 a1 a2 a3 a4 a5 k, LeO (impl_ShownAfter.f k a0 a1 a2 a3 a4 a5) (impl_ShownAfter.f (k + 1) a0 a1 a2 a3 a4 a5) := by
  intro a0 a1 a2 a3 a4 a5 k
  have ih0 := impl_ShownAfter.mono_l k
  unfold impl_ShownAfter.f
  repeat' first
      | (with_reducible exact ih0 _ _ _ _ _ _ _)
      | (with_reducible exact impl_Clock_after.mono _ _ _ _ _ _ _)
      | (with_reducible exact impl_IsClock.mono _ _ _ _ _)
      | (with_reducible exact impl_IsSpan.mono _ _ _)
      | (with_reducible exact impl_Turn_plus.mono _ _ _ _ _)
      | (with_reducible exact impl_ifTurn.mono _ _ _)
      | (with_reducible exact LeO.refl _)
      | (with_reducible exact LeO.none _)
      | (with_reducible refine LeO.ite ?_ ?_)
      | (with_reducible refine LeO.bind ?_ (fun _ => ?_))
      | exact ih0 _ _ _ _ _ _ _
      | exact impl_Clock_after.mono _ _ _ _ _ _ _
      | exact impl_IsClock.mono _ _ _ _ _
      | exact impl_IsSpan.mono _ _ _
      | exact impl_Turn_plus.mono _ _ _ _ _
      | exact impl_ifTurn.mono _ _ _
      | exact LeO.none _
      | refine LeO.ite ?_ ?_
      | refine LeO.bind ?_ (fun _ => ?_)
def impl_ShownAfter.T3 : Bool × List (List Nat × List Nat) := (true, [([], []), ([0], [0]), ([], []), ([], []), ([2, 3], [2, 3]), ([1, 4, 4], [1, 4]), ([5, 5], [5]), ([6], [6]), ([6], [6]), ([7, 6, 0, 1, 2, 3, 4, 5, 6, 7, 8], [7]), ([8, 9, 0, 1, 2, 3, 4, 5, 6, 7, 8, 9], [8])])
def impl_ShownAfter.B3 : List Nat := [0, 1, 0, 0, 12, 31, 63, 127, 127, 511, 1023]
theorem impl_ShownAfter.tab3 : rtab .any (opsOf Tryz.f10 3) = impl_ShownAfter.T3 := by kernel_rfl
theorem impl_ShownAfter.bits3 : waitsOk impl_ShownAfter.T3.2 impl_ShownAfter.B3 = true := by kernel_rfl
set_option maxHeartbeats 8000000 in
set_option maxRecDepth 100000 in
theorem impl_ShownAfter.calls (k : Nat) (a0_0 : Int) (a0_1 : Int) (a0_2 : Int) (a0_3 : Int) (a1_0 : Int) (a1_1 : Int) (r1 : Int) (r2 : Int) (r3 : Bool) (w : World) (h : impl_ShownAfter.f k a0_0 a0_1 a0_2 a0_3 a1_0 a1_1 = some (r1, r2, r3)) :
    Calls Tryz.prog 10 #[.agg #[.int .i64 a0_0, .int .i64 a0_1, .int .i64 a0_2, .int .i64 a0_3], .agg #[.int .i64 a1_0, .int .i64 a1_1]] w fun e w' => e = .returned (.tuple #[.agg #[.int .i64 r1, .int .i64 r2], .bool r3]) ∧ Below w.heap.size w w' := by
  have hu27 := Tryz.underlying27
  have hu30 := Tryz.underlying30
  have hu25 := Tryz.underlying25
  have HB := Aside0.mk (Below.refl w.heap.size w)
  have H : ((impl_IsClock.f k a0_0 a0_1 a0_2 a0_3).bind fun t373 => (if t373 = true then ((impl_IsSpan.f k a1_0 a1_1).bind fun t374 => (impl_ShownAfter.j0 k (!t374) a0_0 a0_1 a0_2 a0_3 a1_0 a1_1)) else (impl_ShownAfter.j0 k true a0_0 a0_1 a0_2 a0_3 a1_0 a1_1))) = some (r1, r2, r3) := h
  clear h
  have HC3 := Aside0.mk H
  clear H
  go_enter Tryz.func10, Tryz.ntmps10
  go_upto_region 1 with (first | ((with_reducible refine gate_dst (N := 2) rfl ?_); refine be #[.int .i64 a0_0, .int .i64 a0_1, .int .i64 a0_2, .int .i64 a0_3] 27 ?_; intro gb370 hg w4 hbox hb; have BK370 := Aside0.mk hbox; have GW370 := zs HB hg; have GE370 := zs HB hg; replace HB := zB HB hb; clear hb hbox hg) | ((with_reducible refine gate_dst (N := 3) rfl ?_); refine be #[.int .i64 a1_0, .int .i64 a1_1] 30 ?_; intro gb371 hg w5 hbox hb; have BK371 := Aside0.mk hbox; have GW371 := zs HB hg; have GE371 := zs HB hg; have NB370_371 := zn BK370 hg; have NB371_370 := zm BK370 hg; replace BK370 := zb BK370 hb; replace HB := zB HB hb; clear hb hbox hg) | ((with_reducible refine gate_dst (N := 4) rfl ?_); refine be #[.int .i64 0, .int .i64 0] 25 ?_; intro gb372 hg w6 hbox hb; have BK372 := Aside0.mk hbox; have GW372 := zs HB hg; have GE372 := zs HB hg; have NB370_372 := zn BK370 hg; have NB372_370 := zm BK370 hg; have NB371_372 := zn BK371 hg; have NB372_371 := zm BK371 hg; replace BK370 := zb BK370 hb; replace BK371 := zb BK371 hb; replace HB := zB HB hb; clear hb hbox hg))
  (try simp only [Act.put, List.setIfInBounds_toArray, List.set_cons_zero, List.set_cons_succ])
  go_cut [13] (fun v13 wc => ∃ (kq : Nat) (x13_2 : Bool), v13 = .bool x13_2 ∧ Aside0 (impl_ShownAfter.j0 kq x13_2 a0_0 a0_1 a0_2 a0_3 a1_0 a1_1 = some (r1, r2, r3)) ∧ Aside0 (kq ≤ k) ∧ Aside0 (wc.heap[gb370]? = some (.cells #[.int .i64 a0_0, .int .i64 a0_1, .int .i64 a0_2, .int .i64 a0_3] 27 (0, 0))) ∧ Aside0 (wc.heap[gb371]? = some (.cells #[.int .i64 a1_0, .int .i64 a1_1] 30 (0, 0))) ∧ Aside0 (wc.heap[gb372]? = some (.cells #[.int .i64 0, .int .i64 0] 25 (0, 0))) ∧ Aside0 (Below w.heap.size w wc))
  case first =>
    have H := HC3.1
    clear HC3
    replace H := Option.bind_eq_some_iff.mp H
    obtain ⟨t373, A70, H⟩ := H
    (try dsimp only at H)
    have A7 := Aside0.mk A70
    clear A70
    by_cases c8 : t373 = true
    · subst c8
      rw [if_pos rfl] at H
      replace H := Option.bind_eq_some_iff.mp H
      obtain ⟨t374, A90, H⟩ := H
      (try dsimp only at H)
      have A9 := Aside0.mk A90
      clear A90
      have H' := Aside0.mk H
      clear H
      have hnb10 := NB370_371.1
      have hnc10 := NB371_370.1
      have hnb11 := NB370_372.1
      have hnc11 := NB372_370.1
      obtain ⟨hcz12_0, hcz12_1, hcz12_2, hcz12_3, hfz12_0, hfz12_1, hfz12_2, hfz12_3⟩ := zc4 BK370
      go_wp2_with (first | ((with_reducible refine gate_callee (f := 14) rfl ?_); refine gl (some 7) Tryz.func14 #[.agg #[.int .i64 a0_0, .int .i64 a0_1, .int .i64 a0_2, .int .i64 a0_3]] ?_; (with_reducible refine (impl_IsClock.calls k a0_0 a0_1 a0_2 a0_3 true _ A7.1).mono ?_); rintro e w13 ⟨rfl, hb⟩; refine ⟨_, rfl, ?_⟩; replace BK370 := zb BK370 hb; replace BK371 := zb BK371 hb; replace BK372 := zb BK372 hb; replace HB := zB HB hb; clear hb; have hnb14 := NB371_372.1; have hnc14 := NB372_371.1; obtain ⟨hcz15_0, hcz15_1, hfz15_0, hfz15_1⟩ := zc2 BK371) | (go_at_call 31; (with_reducible refine (impl_IsSpan.calls k a1_0 a1_1 t374 _ A9.1).mono ?_); rintro e w16 ⟨rfl, hb⟩; replace BK370 := zb BK370 hb; replace BK371 := zb BK371 hb; replace BK372 := zb BK372 hb; replace HB := zB HB hb; clear hb))
      go_meet
      case rel => exact ⟨_, (!t374), ew, H', le_, ⟨bk BK370⟩, ⟨bk BK371⟩, ⟨bk BK372⟩, ⟨bq HB⟩⟩
    replace c8 := Bool.eq_false_iff.mpr c8
    subst c8
    rw [if_neg (show ¬ (false = true) by decide)] at H
    have H' := Aside0.mk H
    clear H
    have hnb17 := NB370_371.1
    have hnc17 := NB371_370.1
    have hnb18 := NB370_372.1
    have hnc18 := NB372_370.1
    obtain ⟨hcz19_0, hcz19_1, hcz19_2, hcz19_3, hfz19_0, hfz19_1, hfz19_2, hfz19_3⟩ := zc4 BK370
    go_wp2_with (first | ((with_reducible refine gate_callee (f := 14) rfl ?_); refine gl (some 7) Tryz.func14 #[.agg #[.int .i64 a0_0, .int .i64 a0_1, .int .i64 a0_2, .int .i64 a0_3]] ?_; (with_reducible refine (impl_IsClock.calls k a0_0 a0_1 a0_2 a0_3 false _ A7.1).mono ?_); rintro e w20 ⟨rfl, hb⟩; refine ⟨_, rfl, ?_⟩; replace BK370 := zb BK370 hb; replace BK371 := zb BK371 hb; replace BK372 := zb BK372 hb; replace HB := zB HB hb; clear hb))
    go_meet
    case rel => exact ⟨_, (true), ew, H', le_, ⟨bk BK370⟩, ⟨bk BK371⟩, ⟨bk BK372⟩, ⟨bq HB⟩⟩
  clear HC3
  try clear c1
  try clear p2
  try clear c8
  try clear c10
  try clear c11
  try clear c14
  try clear c17
  try clear c18
  try clear hcz12_0
  try clear hcz12_1
  try clear hcz12_2
  try clear hcz12_3
  try clear hcz15_0
  try clear hcz15_1
  try clear hcz19_0
  try clear hcz19_1
  try clear hcz19_2
  try clear hcz19_3
  try clear hfz12_0
  try clear hfz12_1
  try clear hfz12_2
  try clear hfz12_3
  try clear hfz15_0
  try clear hfz15_1
  try clear hfz19_0
  try clear hfz19_1
  try clear hfz19_2
  try clear hfz19_3
  obtain ⟨kq, x13_2, rfl, HA, HJ2, BK370, BK371, BK372, HB⟩ := hcut
  cases kq with
  | zero => exact absurd HA.1 (by simp [impl_ShownAfter.j0])
  | succ kj2 =>
    have H := HA.1
    clear HA
    simp only [impl_ShownAfter.j0] at H
    by_cases c21 : x13_2 = true
    · subst c21
      rw [if_pos rfl] at H
      simp only [Option.some.injEq, Prod.mk.injEq] at H
      obtain ⟨rfl, rfl, rfl⟩ := H
      have hnb22 := NB372_370.1
      have hnc22 := NB370_372.1
      have hnb23 := NB372_371.1
      have hnc23 := NB371_372.1
      obtain ⟨hcz24_0, hcz24_1, hfz24_0, hfz24_1⟩ := zc2 BK372
      go_wp2
      refine bodyPost_ret (results_ct rfl _ _ gb372 25 #[.int .i64 0, .int .i64 0] (0, 0) _ rfl (bk BK372) Tryz.underlying25 rfl (by kernel_rfl)) rfl ?_
      exact ⟨er, bq HB⟩
    replace c21 := Bool.eq_false_iff.mpr c21
    subst c21
    rw [if_neg (show ¬ (false = true) by decide)] at H
    replace H := Option.bind_eq_some_iff.mp H
    obtain ⟨⟨t375, t376⟩, A250, H⟩ := H
    (try dsimp only at H)
    have A25 := Aside0.mk A250
    clear A250
    replace H := Option.bind_eq_some_iff.mp H
    obtain ⟨⟨t377, t378⟩, A260, H⟩ := H
    (try dsimp only at H)
    have A26 := Aside0.mk A260
    clear A260
    replace H := Option.bind_eq_some_iff.mp H
    obtain ⟨⟨t379, t380, t381⟩, A270, H⟩ := H
    (try dsimp only at H)
    have A27 := Aside0.mk A270
    clear A270
    simp only [Option.some.injEq, Prod.mk.injEq] at H
    obtain ⟨rfl, rfl, rfl⟩ := H
    try go_wp2
    replace BK370 := Aside0.mk (blk_drew BK370.1)
    replace BK371 := Aside0.mk (blk_drew BK371.1)
    replace BK372 := Aside0.mk (blk_drew BK372.1)
    replace HB := Aside0.mk (below_drew1 HB.1)
    refine start_ (n := 11) (S := fun w' => w'.cell? ⟨gb370, 0, none⟩ = some (.int .i64 a0_0) ∧ w'.cell? ⟨gb370, 1, none⟩ = some (.int .i64 a0_1) ∧ w'.cell? ⟨gb370, 2, none⟩ = some (.int .i64 a0_2) ∧ w'.cell? ⟨gb370, 3, none⟩ = some (.int .i64 a0_3) ∧ w'.cell? ⟨gb371, 0, none⟩ = some (.int .i64 a1_0) ∧ w'.cell? ⟨gb371, 1, none⟩ = some (.int .i64 a1_1)) (ds := []) (bs 11 0) (by kernel_rfl) rfl rfl ⟨(blk_cell BK370.1 0).trans rfl, (blk_cell BK370.1 1).trans rfl, (blk_cell BK370.1 2).trans rfl, (blk_cell BK370.1 3).trans rfl, (blk_cell BK371.1 0).trans rfl, (blk_cell BK371.1 1).trans rfl⟩ (fun hHeld => ?_); refine with_tabW impl_ShownAfter.tab3 impl_ShownAfter.bits3 (fun HT_ HW_ => ?_)
    generalize wc.drew = w28 at BK370 BK371 BK372 HB hHeld ⊢
    refine pu 0 15 HT_ rfl rfl (bs 11 1) ?_
    refine tk 1 16 HT_ HW_ hHeld rfl rfl (bs 11 3) ?_
    refine tk 2 17 HT_ HW_ hHeld rfl rfl (bs 11 7) ?_
    refine tk 3 18 HT_ HW_ hHeld rfl rfl (bs 11 15) ?_
    refine one_ (i := 4) (N := some 19) (bs 11 31) rfl rfl (one_of HT_.1 (by kernel_rfl)) (by decide) (fun K hK => ?_)
    refine gs Tryz.func45 #[.agg #[.int .i64 a0_0, .int .i64 a0_1, .int .i64 a0_2, .int .i64 a0_3], .agg #[.int .i64 a1_0, .int .i64 a1_1]] ?_
    with_reducible refine (impl_Clock_after.calls kj2 a0_0 a0_1 a0_2 a0_3 a1_0 a1_1 t375 t376 _ A25.1).mono ?_
    rintro e w29 ⟨rfl, hb⟩
    refine ⟨_, rfl, ?_⟩
    replace BK370 := zb BK370 hb
    replace BK371 := zb BK371 hb
    replace BK372 := zb BK372 hb
    replace HB := zB HB hb
    (try clear hb)
    (try clear hb2)
    (try clear hk)
    (try clear hi)
    refine hK.out _ _ ⟨(blk_cell BK370.1 0).trans rfl, (blk_cell BK370.1 1).trans rfl, (blk_cell BK370.1 2).trans rfl, (blk_cell BK370.1 3).trans rfl, (blk_cell BK371.1 0).trans rfl, (blk_cell BK371.1 1).trans rfl⟩ (fun hHeld => ?_)
    clear hK K
    refine norm_ (aq 19) ?_
    refine one_ (i := 5) (N := some 20) (bs 11 63) rfl rfl (one_of HT_.1 (by kernel_rfl)) (by decide) (fun K hK => ?_)
    refine gs Tryz.func44 #[.agg #[.int .i64 a0_0, .int .i64 a0_1], .agg #[.int .i64 t375, .int .i64 t376]] ?_
    with_reducible refine (impl_Turn_plus.calls kj2 a0_0 a0_1 t375 t376 t377 t378 _ A26.1).mono ?_
    rintro e w30 ⟨rfl, hb⟩
    refine ⟨_, rfl, ?_⟩
    replace BK370 := zb BK370 hb
    replace BK371 := zb BK371 hb
    replace BK372 := zb BK372 hb
    replace HB := zB HB hb
    (try clear hb)
    (try clear hb2)
    (try clear hk)
    (try clear hi)
    refine hK.out _ _ ⟨(blk_cell BK370.1 0).trans rfl, (blk_cell BK370.1 1).trans rfl, (blk_cell BK370.1 2).trans rfl, (blk_cell BK370.1 3).trans rfl, (blk_cell BK371.1 0).trans rfl, (blk_cell BK371.1 1).trans rfl⟩ (fun hHeld => ?_)
    clear hK K
    refine norm_ (aq 20) ?_
    refine one_ (i := 6) (N := some 21) (bs 11 127) rfl rfl (one_of HT_.1 (by kernel_rfl)) (by decide) (fun K hK => ?_)
    refine gs Tryz.func43 #[.agg #[.int .i64 t377, .int .i64 t378]] ?_
    with_reducible refine (impl_ifTurn.calls kj2 t377 t378 t379 t380 t381 _ A27.1).mono ?_
    rintro e w31 ⟨rfl, hb⟩
    refine ⟨_, rfl, ?_⟩
    replace BK370 := zb BK370 hb
    replace BK371 := zb BK371 hb
    replace BK372 := zb BK372 hb
    replace HB := zB HB hb
    (try clear hb)
    (try clear hb2)
    (try clear hk)
    (try clear hi)
    refine hK.out _ _ ⟨(blk_cell BK370.1 0).trans rfl, (blk_cell BK370.1 1).trans rfl, (blk_cell BK370.1 2).trans rfl, (blk_cell BK370.1 3).trans rfl, (blk_cell BK371.1 0).trans rfl, (blk_cell BK371.1 1).trans rfl⟩ (fun hHeld => ?_)
    clear hK K
    refine norm_ (aq 21) ?_
    refine pu 7 22 HT_ rfl rfl (bs 11 255) ?_
    refine pu 8 23 HT_ rfl rfl (bs 11 511) ?_
    refine one_ (i := 9) (N := none) (bs 11 1023) rfl rfl (one_of HT_.1 (by kernel_rfl)) (by decide) (fun K hK => ?_)
    have hs32 : w31.cell? ⟨gb372, 0, none⟩ = some (.int .i64 0) := (blk_cell BK372.1 0).trans rfl
    have hfs32 := blk_frozen BK372.1 0
    have hns32_0 := NB370_372.1
    have hns32_1 := NB371_372.1
    have hms32_0 := NB372_370.1
    have hms32_1 := NB372_371.1
    have hs33 : w31.cell? ⟨gb372, 1, none⟩ = some (.int .i64 0) := (blk_cell BK372.1 1).trans rfl
    have hfs33 := blk_frozen BK372.1 1
    have hns33_0 := NB370_372.1
    have hns33_1 := NB371_372.1
    have hms33_0 := NB372_370.1
    have hms33_1 := NB372_371.1
    refine skip_ (w1 := ?_) (by rfl) rfl ?_ ?_
    rotate_left
    · go_simp
      rfl
    refine hK.out _ _ ⟨((cell_far (p := ⟨gb372, _, none⟩) NB370_372.1 _).trans (((cell_far (p := ⟨gb372, _, none⟩) NB370_372.1 _).trans (hHeld.1)))), ((cell_far (p := ⟨gb372, _, none⟩) NB370_372.1 _).trans (((cell_far (p := ⟨gb372, _, none⟩) NB370_372.1 _).trans (hHeld.2.1)))), ((cell_far (p := ⟨gb372, _, none⟩) NB370_372.1 _).trans (((cell_far (p := ⟨gb372, _, none⟩) NB370_372.1 _).trans (hHeld.2.2.1)))), ((cell_far (p := ⟨gb372, _, none⟩) NB370_372.1 _).trans (((cell_far (p := ⟨gb372, _, none⟩) NB370_372.1 _).trans (hHeld.2.2.2.1)))), ((cell_far (p := ⟨gb372, _, none⟩) NB371_372.1 _).trans (((cell_far (p := ⟨gb372, _, none⟩) NB371_372.1 _).trans (hHeld.2.2.2.2.1)))), ((cell_far (p := ⟨gb372, _, none⟩) NB371_372.1 _).trans (((cell_far (p := ⟨gb372, _, none⟩) NB371_372.1 _).trans (hHeld.2.2.2.2.2))))⟩ (fun hHeld => ?_)
    clear hK K
    refine pu 10 5 HT_ rfl rfl (bs 11 2047) ?_
    refine done_ (done_of HT_.1 (by kernel_rfl)) ?_
    try go_wp2
    refine bodyPost_ret (results_ct rfl _ _ gb372 25 #[.int .i64 t379, .int .i64 t380] (0, 0) _ rfl (bk BK372) Tryz.underlying25 rfl (by kernel_rfl)) rfl ?_
    exact ⟨er, bq HB⟩

/-! ### spec_l1Cur_span: function 47 -/
def spec_l1Cur_span.f (k : Nat) (s0_0 : List Int) (s0_1 : Int) (s0_2 : Int) : Option (Int × Int × Int × Int) := (spec_l1Cur_pick.f s0_0 s0_1 s0_2 14).bind fun bt383 => (if bt383.1 = 0 then ((spec_l1Cur_among.f s0_0 bt383.2.1 bt383.2.2 (([(-1), 0, 2, 1000000, 1000001, 4611686018427387904] : List Int))).bind fun bt389 => ((spec_l1Cur_among.f s0_0 bt389.2.1 bt389.2.2 (([0, 1, 2, 10000, 10001, (-1)] : List Int))).bind fun bt395 => (some (bt389.1, bt395.1, bt395.2.1, bt395.2.2)))) else (if bt383.1 = 1 then (some (0, 1, bt383.2.1, bt383.2.2)) else ((spec_l1Cur_pick.f s0_0 bt383.2.1 bt383.2.2 200).bind fun bt398 => ((spec_l1Cur_pick.f s0_0 bt398.2.1 bt398.2.2 24).bind fun bt401 => ((spec_drMake.f k bt398.1 (wrap64 (1 + bt401.1))).bind fun bt404 => (some (bt404.1, bt404.2.1, bt401.2.1, bt401.2.2)))))))
theorem spec_l1Cur_span.mono : ∀ a0 a1 a2 k, LeO (spec_l1Cur_span.f k a0 a1 a2) (spec_l1Cur_span.f (k + 1) a0 a1 a2) := by
  intro a0 a1 a2 k
  unfold spec_l1Cur_span.f
  repeat' first
      | (with_reducible exact spec_drMake.mono _ _ _)
      | (with_reducible exact LeO.refl _)
      | (with_reducible exact LeO.none _)
      | (with_reducible refine LeO.ite ?_ ?_)
      | (with_reducible refine LeO.bind ?_ (fun _ => ?_))
      | exact spec_drMake.mono _ _ _
      | exact LeO.none _
      | refine LeO.ite ?_ ?_
      | refine LeO.bind ?_ (fun _ => ?_)
set_option maxHeartbeats 8000000 in
set_option maxRecDepth 100000 in
theorem spec_l1Cur_span.calls (k : Nat) (g : Nat) (s0_0 : List Int) (s0_1 : Int) (s0_2 : Int) (r1 : Int) (r2 : Int) (r3 : Int) (r4 : Int) (w0 w : World) (hI : IsS66 w0 w g s0_0 s0_1 s0_2) (hB : Below w0.heap.size w0 w) (h : spec_l1Cur_span.f k s0_0 s0_1 s0_2 = some (r1, r2, r3, r4)) :
    Calls Tryz.prog 47 #[.pointer (some ⟨g, 0, none⟩)] w fun e w' => e = .returned (.agg #[.int .i64 r1, .int .i64 r2]) ∧ IsS66 w0 w' g s0_0 r3 r4 ∧ Below w0.heap.size w0 w' ∧ KeepBut w w' g none := by
  have hu30 := Tryz.underlying30
  have HI0 := Aside0.mk hI
  have HK := Aside0.mk (KeepBut.refl w g none)
  have HL := Aside0.mk hB.size
  clear hI
  have HW0 := Aside0.mk hB.size
  have HB := Aside0.mk hB
  clear hB
  have H : ((spec_l1Cur_pick.f s0_0 s0_1 s0_2 14).bind fun bt383 => (if bt383.1 = 0 then ((spec_l1Cur_among.f s0_0 bt383.2.1 bt383.2.2 (([(-1), 0, 2, 1000000, 1000001, 4611686018427387904] : List Int))).bind fun bt389 => ((spec_l1Cur_among.f s0_0 bt389.2.1 bt389.2.2 (([0, 1, 2, 10000, 10001, (-1)] : List Int))).bind fun bt395 => (some (bt389.1, bt395.1, bt395.2.1, bt395.2.2)))) else (if bt383.1 = 1 then (some (0, 1, bt383.2.1, bt383.2.2)) else ((spec_l1Cur_pick.f s0_0 bt383.2.1 bt383.2.2 200).bind fun bt398 => ((spec_l1Cur_pick.f s0_0 bt398.2.1 bt398.2.2 24).bind fun bt401 => ((spec_drMake.f k bt398.1 (wrap64 (1 + bt401.1))).bind fun bt404 => (some (bt404.1, bt404.2.1, bt401.2.1, bt401.2.2)))))))) = some (r1, r2, r3, r4) := h
  clear h
  replace H := Option.bind_eq_some_iff.mp H
  obtain ⟨⟨t383, t384, t385⟩, A20, H⟩ := H
  (try dsimp only at H)
  have A2 := Aside0.mk A20
  clear A20
  by_cases c3 : t383 = 0
  · rw [if_pos c3] at H
    have c3b0 : (t383 == 0) = true := beq_iff_eq.mpr c3
    have c3b1 : (t383 != 0) = false := bne_eq_false_iff_eq.mpr c3
    clear c3
    obtain ⟨y386, hy386⟩ : ∃ y_ : List Int, y_ = (([(-1), 0, 2, 1000000, 1000001, 4611686018427387904] : List Int)) := ⟨_, rfl⟩
    replace H : ((spec_l1Cur_among.f s0_0 t384 t385 y386).bind fun bt389 => ((spec_l1Cur_among.f s0_0 bt389.2.1 bt389.2.2 (([0, 1, 2, 10000, 10001, (-1)] : List Int))).bind fun bt395 => (some (bt389.1, bt395.1, bt395.2.1, bt395.2.2)))) = some (r1, r2, r3, r4) := by first | (rw [hy386]; with_reducible exact H) | (have H2_ := (Option.bind_some _ _).symm.trans H; rw [hy386]; with_reducible exact H2_) | (have H2_ := (Option.bind_some _ _).symm.trans H; with_reducible exact H2_) | with_reducible exact H | (rw [hy386]; exact H) | exact H
    have Ny386 := Aside0.mk hy386
    clear hy386
    replace H := Option.bind_eq_some_iff.mp H
    obtain ⟨⟨t389, t390, t391⟩, A40, H⟩ := H
    (try dsimp only at H)
    have A4 := Aside0.mk A40
    clear A40
    obtain ⟨y392, hy392⟩ : ∃ y_ : List Int, y_ = (([0, 1, 2, 10000, 10001, (-1)] : List Int)) := ⟨_, rfl⟩
    replace H : ((spec_l1Cur_among.f s0_0 t390 t391 y392).bind fun bt395 => (some (t389, bt395.1, bt395.2.1, bt395.2.2))) = some (r1, r2, r3, r4) := by first | (rw [hy392]; with_reducible exact H) | (have H2_ := (Option.bind_some _ _).symm.trans H; rw [hy392]; with_reducible exact H2_) | (have H2_ := (Option.bind_some _ _).symm.trans H; with_reducible exact H2_) | with_reducible exact H | (rw [hy392]; exact H) | exact H
    have Ny392 := Aside0.mk hy392
    clear hy392
    replace H := Option.bind_eq_some_iff.mp H
    obtain ⟨⟨t395, t396, t397⟩, A50, H⟩ := H
    (try dsimp only at H)
    have A5 := Aside0.mk A50
    clear A50
    simp only [Option.some.injEq, Prod.mk.injEq] at H
    obtain ⟨rfl, rfl, rfl, rfl⟩ := H
    go_enter Tryz.func47, Tryz.ntmps47
    go_wp2_with (first | ((with_reducible refine gate_dst (N := 2) rfl ?_); refine be #[.int .i64 0, .int .i64 0] 30 ?_; intro gb382 hg w6 hbox hb; have GW382 := kz HK hg; have GE382 := kv HW0 (kz HK hg); have NB0_382 := Aside0.mk ((by rw [hg]; exact Nat.ne_of_lt (IsS66.lt (show IsS66 w0 _ g s0_0 s0_1 s0_2 from iq66 HI0)) : g ≠ gb382)); have NB382_0 := Aside0.mk NB0_382.1.symm; replace HI0 := iB66 HI0 hb; replace HK := kB HK hb; replace HB := zB66 HB hb; have BK382 := Aside0.mk hbox; clear hb hbox hg) | ((with_reducible refine gate_callee (f := 62) rfl ?_); refine gl (some 6) Tryz.func62 #[.pointer (some ⟨g, 0, none⟩), .int .i64 14] ?_; (with_reducible refine (spec_l1Cur_pick.calls g s0_0 s0_1 s0_2 14 t383 t384 t385 w0 _ ?side1 ?side2 A2.1).mono ?_); (case side1 => exact iq66 HI0); (case side2 => exact bq66 HB); rintro e w7 ⟨rfl, hi, hb, hk⟩; refine ⟨_, rfl, ?_⟩; replace BK382 := kb (o' := .cells #[.int .i64 0, .int .i64 0] 30 (0, 0)) BK382 hk NB382_0; replace HK := kT HK hk; replace HB := Aside0.mk hb; replace HI0 := Aside0.mk hi; clear hi hb hk) | ((with_reducible refine gate_dst (N := 10) rfl ?_); refine Kd.R_lit (Kd.int .i64) _ 3 ?hg (N := 10) ?hd (xs := ([(-1), 0, 2, 1000000, 1000001, 4611686018427387904] : List Int)) (inner := [.int .i64 (-1), .int .i64 0, .int .i64 2, .int .i64 1000000, .int .i64 1000001, .int .i64 4611686018427387904]) (ok := fun _ => True) (okp := fun _ => True) ?hr ?hp (fun _ hk => hk) trivial (Below.refl _ _) (Nat.le_refl _) (by simp) ?_; (case hd => rfl); (case hg => rfl); (case hr => first | (go_simp; done) | (go_simp; rfl)); (case hp => exact (Reps.one (show Kd.M (Kd.int .i64) _ _ _ (-1) [.int .i64 (-1)] from rfl) (Reps.one (show Kd.M (Kd.int .i64) _ _ _ 0 [.int .i64 0] from rfl) (Reps.one (show Kd.M (Kd.int .i64) _ _ _ 2 [.int .i64 2] from rfl) (Reps.one (show Kd.M (Kd.int .i64) _ _ _ 1000000 [.int .i64 1000000] from rfl) (Reps.one (show Kd.M (Kd.int .i64) _ _ _ 1000001 [.int .i64 1000001] from rfl) (Reps.one (show Kd.M (Kd.int .i64) _ _ _ 4611686018427387904 [.int .i64 4611686018427387904] from rfl) (Reps.none _ _)))))))); intro v387 w8 ho9 hb hg_ hnew_; clear hg_ hnew_; (first | rw [← Ny386.1] at ho9 | (simp only [Int.reduceToNat] at ho9; rw [← Ny386.1] at ho9)); have HO388 := Aside0.mk (Kd.R_lower ho9 (keep_size (w := w) (g := g) (row := none) (kq HK))); replace HI0 := iB66 HI0 hb; replace HK := kB HK hb; replace HB := zB66 HB hb; replace BK382 := zb BK382 hb; clear hb ho9; obtain ⟨Ao10, co10, eo10⟩ := Kd.R_slice HO388.1; subst eo10) | ((with_reducible refine gate_callee (f := 61) rfl ?_); refine gl (some 11) Tryz.func61 #[.pointer (some ⟨g, 0, none⟩), .slice Ao10 y386.length co10] ?_; (with_reducible refine (spec_l1Cur_among.calls g s0_0 t384 t385 _ _ y386 t389 t390 t391 w0 _ ?side1 ?side2 ?side3 ?side4 ?side5 A4.1).mono ?_); (case side1 => exact iq66 HI0); (case side2 => exact bq66 HB); (case side3 => repeat (first | exact (Kd.R_reads' HO388.1).2.2 | (with_reducible refine Kd.C_alloc ?_ _) | (with_reducible refine Kd.C_drewN ?_ _) | (with_reducible refine Kd.C_drew ?_))); (case side4 => exact (Kd.R_reads' HO388.1).2.1); (case side5 => exact far_slice (IsS66.own_ne HI0.1 HO388.1 (by decide))); rintro e w11 ⟨rfl, hi, hb, hk⟩; refine ⟨_, rfl, ?_⟩; replace BK382 := kb (o' := .cells #[.int .i64 0, .int .i64 0] 30 (0, 0)) BK382 hk NB382_0; replace HO388 := Aside0.mk (Kd.R_mono (Kd.R_keep (IsS66.apart (show IsS66 w0 _ g s0_0 t384 t385 from iq66 HI0) (rq HO388) (by decide)) hk (fun _ h => h.2)) (fun _ h => h.1)); replace HK := kT HK hk; replace HB := Aside0.mk hb; replace HI0 := Aside0.mk hi; clear hi hb hk) | ((with_reducible refine gate_dst (N := 13) rfl ?_); refine Kd.R_lit (Kd.int .i64) _ 3 ?hg (N := 13) ?hd (xs := ([0, 1, 2, 10000, 10001, (-1)] : List Int)) (inner := [.int .i64 0, .int .i64 1, .int .i64 2, .int .i64 10000, .int .i64 10001, .int .i64 (-1)]) (ok := fun _ => True) (okp := fun _ => True) ?hr ?hp (fun _ hk => hk) trivial (Below.refl _ _) (Nat.le_refl _) (by simp) ?_; (case hd => rfl); (case hg => rfl); (case hr => first | (go_simp; done) | (go_simp; rfl)); (case hp => exact (Reps.one (show Kd.M (Kd.int .i64) _ _ _ 0 [.int .i64 0] from rfl) (Reps.one (show Kd.M (Kd.int .i64) _ _ _ 1 [.int .i64 1] from rfl) (Reps.one (show Kd.M (Kd.int .i64) _ _ _ 2 [.int .i64 2] from rfl) (Reps.one (show Kd.M (Kd.int .i64) _ _ _ 10000 [.int .i64 10000] from rfl) (Reps.one (show Kd.M (Kd.int .i64) _ _ _ 10001 [.int .i64 10001] from rfl) (Reps.one (show Kd.M (Kd.int .i64) _ _ _ (-1) [.int .i64 (-1)] from rfl) (Reps.none _ _)))))))); intro v393 w12 ho13 hb hg_ hnew_; clear hg_ hnew_; (first | rw [← Ny392.1] at ho13 | (simp only [Int.reduceToNat] at ho13; rw [← Ny392.1] at ho13)); have HO394 := Aside0.mk (Kd.R_lower (Kd.R_new' ho13 (Kd.R_lt (rq HO388))) (keep_size (w := w) (g := g) (row := none) (kq HK))); replace HO388 := Aside0.mk (Kd.R_elder' (rq HO388) (Kd.R_base ho13) hb); replace HI0 := iB66 HI0 hb; replace HK := kB HK hb; replace HB := zB66 HB hb; replace BK382 := zb BK382 hb; clear hb ho13; obtain ⟨Ao14, co14, eo14⟩ := Kd.R_slice HO394.1; subst eo14) | ((with_reducible refine gate_callee (f := 61) rfl ?_); refine gl (some 14) Tryz.func61 #[.pointer (some ⟨g, 0, none⟩), .slice Ao14 y392.length co14] ?_; (with_reducible refine (spec_l1Cur_among.calls g s0_0 t390 t391 _ _ y392 t395 t396 t397 w0 _ ?side1 ?side2 ?side3 ?side4 ?side5 A5.1).mono ?_); (case side1 => exact iq66 HI0); (case side2 => exact bq66 HB); (case side3 => repeat (first | exact (Kd.R_reads' HO394.1).2.2 | (with_reducible refine Kd.C_alloc ?_ _) | (with_reducible refine Kd.C_drewN ?_ _) | (with_reducible refine Kd.C_drew ?_))); (case side4 => exact (Kd.R_reads' HO394.1).2.1); (case side5 => exact far_slice (IsS66.own_ne HI0.1 HO394.1 (by decide))); rintro e w15 ⟨rfl, hi, hb, hk⟩; refine ⟨_, rfl, ?_⟩; replace BK382 := kb (o' := .cells #[.int .i64 0, .int .i64 0] 30 (0, 0)) BK382 hk NB382_0; replace HO388 := Aside0.mk (Kd.R_mono (Kd.R_keep (IsS66.apart (show IsS66 w0 _ g s0_0 t390 t391 from iq66 HI0) (rq HO388) (by decide)) hk (fun _ h => h.2)) (fun _ h => h.1)); replace HO394 := Aside0.mk (Kd.R_mono (Kd.R_keep (IsS66.apart (show IsS66 w0 _ g s0_0 t390 t391 from iq66 HI0) (rq HO394) (by decide)) hk (fun _ h => h.2)) (fun _ h => h.1)); replace HK := kT HK hk; replace HB := Aside0.mk hb; replace HI0 := Aside0.mk hi; clear hi hb hk; have hnb16 := NB382_0.1; have hnc16 := NB0_382.1; obtain ⟨hcz17_0, hcz17_1, hfz17_0, hfz17_1⟩ := zc2 BK382))
    refine bodyPost_ret (results_cell_row rfl _ _ gb382 30 #[.int .i64 t389, .int .i64 t395] (0, 0) _ rfl (bk BK382) Tryz.underlying30 rfl (by kernel_rfl)) rfl ?_
    exact ⟨er, iq66 HI0, bq66 HB, kq HK⟩
  rw [if_neg c3] at H
  have c3b0 : (t383 == 0) = false := beq_eq_false_iff_ne.mpr c3
  have c3b1 : (t383 != 0) = true := bne_iff_ne.mpr c3
  by_cases c18 : t383 = 1
  · rw [if_pos c18] at H
    have c18b0 : (t383 == 1) = true := beq_iff_eq.mpr c18
    have c18b1 : (t383 != 1) = false := bne_eq_false_iff_eq.mpr c18
    clear c18
    simp only [Option.some.injEq, Prod.mk.injEq] at H
    obtain ⟨rfl, rfl, rfl, rfl⟩ := H
    go_enter Tryz.func47, Tryz.ntmps47
    go_wp2_with (first | ((with_reducible refine gate_dst (N := 2) rfl ?_); refine be #[.int .i64 0, .int .i64 0] 30 ?_; intro gb382 hg w19 hbox hb; have GW382 := kz HK hg; have GE382 := kv HW0 (kz HK hg); have NB0_382 := Aside0.mk ((by rw [hg]; exact Nat.ne_of_lt (IsS66.lt (show IsS66 w0 _ g s0_0 s0_1 s0_2 from iq66 HI0)) : g ≠ gb382)); have NB382_0 := Aside0.mk NB0_382.1.symm; replace HI0 := iB66 HI0 hb; replace HK := kB HK hb; replace HB := zB66 HB hb; have BK382 := Aside0.mk hbox; clear hb hbox hg) | ((with_reducible refine gate_callee (f := 62) rfl ?_); refine gl (some 6) Tryz.func62 #[.pointer (some ⟨g, 0, none⟩), .int .i64 14] ?_; (with_reducible refine (spec_l1Cur_pick.calls g s0_0 s0_1 s0_2 14 t383 t384 t385 w0 _ ?side1 ?side2 A2.1).mono ?_); (case side1 => exact iq66 HI0); (case side2 => exact bq66 HB); rintro e w20 ⟨rfl, hi, hb, hk⟩; refine ⟨_, rfl, ?_⟩; replace BK382 := kb (o' := .cells #[.int .i64 0, .int .i64 0] 30 (0, 0)) BK382 hk NB382_0; replace HK := kT HK hk; replace HB := Aside0.mk hb; replace HI0 := Aside0.mk hi; clear hi hb hk; have hnb21 := NB382_0.1; have hnc21 := NB0_382.1; obtain ⟨hcz22_0, hcz22_1, hfz22_0, hfz22_1⟩ := zc2 BK382))
    refine bodyPost_ret (results_cell_row rfl _ _ gb382 30 #[.int .i64 0, .int .i64 1] (0, 0) _ rfl (bk BK382) Tryz.underlying30 rfl (by kernel_rfl)) rfl ?_
    exact ⟨er, iq66 HI0, bq66 HB, kq HK⟩
  rw [if_neg c18] at H
  have c18b0 : (t383 == 1) = false := beq_eq_false_iff_ne.mpr c18
  have c18b1 : (t383 != 1) = true := bne_iff_ne.mpr c18
  replace H := Option.bind_eq_some_iff.mp H
  obtain ⟨⟨t398, t399, t400⟩, A230, H⟩ := H
  (try dsimp only at H)
  have A23 := Aside0.mk A230
  clear A230
  replace H := Option.bind_eq_some_iff.mp H
  obtain ⟨⟨t401, t402, t403⟩, A240, H⟩ := H
  (try dsimp only at H)
  have A24 := Aside0.mk A240
  clear A240
  replace H := Option.bind_eq_some_iff.mp H
  obtain ⟨⟨t404, t405, t406⟩, A250, H⟩ := H
  (try dsimp only at H)
  have A25 := Aside0.mk A250
  clear A250
  simp only [Option.some.injEq, Prod.mk.injEq] at H
  obtain ⟨rfl, rfl, rfl, rfl⟩ := H
  go_enter Tryz.func47, Tryz.ntmps47
  go_wp2_with (first | ((with_reducible refine gate_dst (N := 2) rfl ?_); refine be #[.int .i64 0, .int .i64 0] 30 ?_; intro gb382 hg w26 hbox hb; have GW382 := kz HK hg; have GE382 := kv HW0 (kz HK hg); have NB0_382 := Aside0.mk ((by rw [hg]; exact Nat.ne_of_lt (IsS66.lt (show IsS66 w0 _ g s0_0 s0_1 s0_2 from iq66 HI0)) : g ≠ gb382)); have NB382_0 := Aside0.mk NB0_382.1.symm; replace HI0 := iB66 HI0 hb; replace HK := kB HK hb; replace HB := zB66 HB hb; have BK382 := Aside0.mk hbox; clear hb hbox hg) | ((with_reducible refine gate_callee (f := 62) rfl ?_); refine gl (some 6) Tryz.func62 #[.pointer (some ⟨g, 0, none⟩), .int .i64 14] ?_; (with_reducible refine (spec_l1Cur_pick.calls g s0_0 s0_1 s0_2 14 t383 t384 t385 w0 _ ?side1 ?side2 A2.1).mono ?_); (case side1 => exact iq66 HI0); (case side2 => exact bq66 HB); rintro e w27 ⟨rfl, hi, hb, hk⟩; refine ⟨_, rfl, ?_⟩; replace BK382 := kb (o' := .cells #[.int .i64 0, .int .i64 0] 30 (0, 0)) BK382 hk NB382_0; replace HK := kT HK hk; replace HB := Aside0.mk hb; replace HI0 := Aside0.mk hi; clear hi hb hk) | ((with_reducible refine gate_callee (f := 62) rfl ?_); refine gl (some 21) Tryz.func62 #[.pointer (some ⟨g, 0, none⟩), .int .i64 200] ?_; (with_reducible refine (spec_l1Cur_pick.calls g s0_0 t384 t385 200 t398 t399 t400 w0 _ ?side1 ?side2 A23.1).mono ?_); (case side1 => exact iq66 HI0); (case side2 => exact bq66 HB); rintro e w28 ⟨rfl, hi, hb, hk⟩; refine ⟨_, rfl, ?_⟩; replace BK382 := kb (o' := .cells #[.int .i64 0, .int .i64 0] 30 (0, 0)) BK382 hk NB382_0; replace HK := kT HK hk; replace HB := Aside0.mk hb; replace HI0 := Aside0.mk hi; clear hi hb hk) | ((with_reducible refine gate_callee (f := 62) rfl ?_); refine gl (some 23) Tryz.func62 #[.pointer (some ⟨g, 0, none⟩), .int .i64 24] ?_; (with_reducible refine (spec_l1Cur_pick.calls g s0_0 t399 t400 24 t401 t402 t403 w0 _ ?side1 ?side2 A24.1).mono ?_); (case side1 => exact iq66 HI0); (case side2 => exact bq66 HB); rintro e w29 ⟨rfl, hi, hb, hk⟩; refine ⟨_, rfl, ?_⟩; replace BK382 := kb (o' := .cells #[.int .i64 0, .int .i64 0] 30 (0, 0)) BK382 hk NB382_0; replace HK := kT HK hk; replace HB := Aside0.mk hb; replace HI0 := Aside0.mk hi; clear hi hb hk) | ((with_reducible refine gate_callee (f := 41) rfl ?_); refine gl (some 25) Tryz.func41 #[.int .i64 t398, .int .i64 (wrap64 (1 + t401))] ?_; (with_reducible refine (spec_drMake.calls k t398 (wrap64 (1 + t401)) t404 t405 t406 _ A25.1).mono ?_); rintro e w30 ⟨rfl, hb⟩; refine ⟨_, rfl, ?_⟩; replace HI0 := iB66 HI0 hb; replace HK := kB HK hb; replace HB := zB66 HB hb; replace BK382 := zb BK382 hb; clear hb) | ((with_reducible refine gate_dst (N := 3) rfl ?_); refine be #[.int .i64 0, .int .i64 0] 30 ?_; intro gb407 hg w31 hbox hb; have GW407 := kz HK hg; have GE407 := kv HW0 (kz HK hg); have NB0_407 := Aside0.mk ((by rw [hg]; exact Nat.ne_of_lt (IsS66.lt (show IsS66 w0 _ g s0_0 t402 t403 from iq66 HI0)) : g ≠ gb407)); have NB407_0 := Aside0.mk NB0_407.1.symm; replace HI0 := iB66 HI0 hb; replace HK := kB HK hb; replace HB := zB66 HB hb; have BK407 := Aside0.mk hbox; have NB382_407 := zn BK382 hg; have NB407_382 := zm BK382 hg; replace BK382 := zb BK382 hb; clear hb hbox hg; have hnb32 := NB407_382.1; have hnc32 := NB382_407.1; have hnb33 := NB407_0.1; have hnc33 := NB0_407.1; obtain ⟨hcz34_0, hcz34_1, hfz34_0, hfz34_1⟩ := zc2 BK407; have hnb35 := NB382_0.1; have hnc35 := NB0_382.1; obtain ⟨hcz36_0, hcz36_1, hfz36_0, hfz36_1⟩ := zc2 BK382))
  refine bodyPost_ret (results_cell_row rfl _ _ gb382 30 #[.int .i64 t404, .int .i64 t405] (0, 0) _ rfl (bk BK382) Tryz.underlying30 rfl (by kernel_rfl)) rfl ?_
  exact ⟨er, iq66 HI0, bq66 HB, kq HK⟩

end Go.Proofs.YtejlandhfnnkiaaGreatDoor.PFnClocksAgree
