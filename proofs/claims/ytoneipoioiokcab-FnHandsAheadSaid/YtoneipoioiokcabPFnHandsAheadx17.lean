/- A part of the walk of FnHandsAhead: which Lean function each Go function comes to, and that the machine's call does so. Written by a program of this repo (wip/gen/xprint.py). -/
import Derived.Test.YtoneipoioiokcabPFnHandsAheadx0
import Derived.Test.YtoneipoioiokcabPFnHandsAheadx7
import Derived.Test.YtoneipoioiokcabPFnHandsAheadx8
import Derived.Test.YtoneipoioiokcabPFnHandsAheadx12
import Derived.Test.YtoneipoioiokcabPFnHandsAheadx13
import Derived.Test.YtoneipoioiokcabPFnHandsAheadx16
namespace Go.Proofs.Ytoneipoioiokcab.PFnHandsAhead
open Go.RowKit Go.Proofs.YtoneipoioiokcabW.PrintWords Go.Proofs.YtoneipoioiokcabW.PrintLast Go.Proofs.YtoneipoioiokcabW.PrintMore
attribute [local go_sem] max2_int min2_int max_two min_two max_three min_three max_four min_four   -- for this text's walks alone
set_option linter.unusedVariables false
set_option linter.unusedSimpArgs false

/-! ### spec_AheadAt: function 9 -/
def spec_AheadAt.j0 : Nat → Bool → Int → Int → Int → Int → Int → Int → Int → Int → Option (Int × Int × Bool)
  | 0, _, _, _, _, _, _, _, _, _ => none
  | k + 1, x16, x394000, x394001, x394002, x395000, x395001, x395002, x396000, x396001 => if x16 = true then (some (0, 0, false)) else ((spec_meRelative.f k x394000 x394001 x394002 x395000 x395001 x395002).bind fun bt399 => ((spec_meAt.f k bt399.1 bt399.2.1 bt399.2.2 x396000 x396001).bind fun bt402 => (some (bt402.1, bt402.2.1, bt402.2.2))))
def spec_AheadAt.f (k : Nat) (a0_0 : Int) (a0_1 : Int) (a0_2 : Int) (a1_0 : Int) (a1_1 : Int) (a1_2 : Int) (a2_0 : Int) (a2_1 : Int) : Option (Int × Int × Bool) := (spec_meTwo.f k a0_0 a0_1 a0_2 a1_0 a1_1 a1_2).bind fun t397 => (if t397 = true then ((spec_diGood.f k a2_0 a2_1).bind fun t398 => (spec_AheadAt.j0 k (!t398) a0_0 a0_1 a0_2 a1_0 a1_1 a1_2 a2_0 a2_1)) else (spec_AheadAt.j0 k true a0_0 a0_1 a0_2 a1_0 a1_1 a1_2 a2_0 a2_1))
theorem spec_AheadAt.mono_l : ∀ k, (∀ y0 y1 y2 y3 y4 y5 y6 y7 y8, LeO (spec_AheadAt.j0 k y0 y1 y2 y3 y4 y5 y6 y7 y8) (spec_AheadAt.j0 (k + 1) y0 y1 y2 y3 y4 y5 y6 y7 y8))
  | 0 => fun _ _ _ _ _ _ _ _ _ r h => by simp [spec_AheadAt.j0] at h
  | k + 1 => by
    have ih0 := spec_AheadAt.mono_l k
    intro y0 y1 y2 y3 y4 y5 y6 y7 y8
    unfold spec_AheadAt.j0
    repeat' first
    | (with_reducible exact ih0 _ _ _ _ _ _ _ _ _)
    | (with_reducible exact spec_diGood.mono _ _ _)
    | (with_reducible exact spec_meAt.mono _ _ _ _ _ _)
    | (with_reducible exact spec_meRelative.mono _ _ _ _ _ _ _)
    | (with_reducible exact spec_meTwo.mono _ _ _ _ _ _ _)
    | (with_reducible exact LeO.refl _)
    | (with_reducible exact LeO.none _)
    | (with_reducible refine LeO.ite ?_ ?_)
    | (with_reducible refine LeO.bind ?_ (fun _ => ?_))
    | exact ih0 _ _ _ _ _ _ _ _ _
    | exact spec_diGood.mono _ _ _
    | exact spec_meAt.mono _ _ _ _ _ _
    | exact spec_meRelative.mono _ _ _ _ _ _ _
    | exact spec_meTwo.mono _ _ _ _ _ _ _
    | exact LeO.none _
    | refine LeO.ite ?_ ?_
    | refine LeO.bind ?_ (fun _ => ?_)
theorem spec_AheadAt.mono : ∀ a0 a1 a2 a3 a4 a5 a6 a7 k, LeO (spec_AheadAt.f k a0 a1 a2 a3 a4 a5 a6 a7) (spec_AheadAt.f (k + 1) a0 a1 a2 a3 a4 a5 a6 a7) := by
  intro a0 a1 a2 a3 a4 a5 a6 a7 k
  have ih0 := spec_AheadAt.mono_l k
  unfold spec_AheadAt.f
  repeat' first
      | (with_reducible exact ih0 _ _ _ _ _ _ _ _ _)
      | (with_reducible exact spec_diGood.mono _ _ _)
      | (with_reducible exact spec_meAt.mono _ _ _ _ _ _)
      | (with_reducible exact spec_meRelative.mono _ _ _ _ _ _ _)
      | (with_reducible exact spec_meTwo.mono _ _ _ _ _ _ _)
      | (with_reducible exact LeO.refl _)
      | (with_reducible exact LeO.none _)
      | (with_reducible refine LeO.ite ?_ ?_)
      | (with_reducible refine LeO.bind ?_ (fun _ => ?_))
      | exact ih0 _ _ _ _ _ _ _ _ _
      | exact spec_diGood.mono _ _ _
      | exact spec_meAt.mono _ _ _ _ _ _
      | exact spec_meRelative.mono _ _ _ _ _ _ _
      | exact spec_meTwo.mono _ _ _ _ _ _ _
      | exact LeO.none _
      | refine LeO.ite ?_ ?_
      | refine LeO.bind ?_ (fun _ => ?_)
def spec_AheadAt.T3 : Bool × List (List Nat × List Nat) := (true, [([], []), ([], []), ([0, 1], [0, 1]), ([], []), ([2, 3, 2], [2, 3]), ([4], [4]), ([4], [4]), ([5, 4, 0, 1, 2, 3, 4, 5, 6], [5]), ([6, 7, 0, 1, 2, 3, 4, 5, 6, 7], [6])])
def spec_AheadAt.B3 : List Nat := [0, 0, 3, 0, 15, 31, 31, 127, 255]
theorem spec_AheadAt.tab3 : rtab .any (opsOf Try.f9 3) = spec_AheadAt.T3 := by kernel_rfl
theorem spec_AheadAt.bits3 : waitsOk spec_AheadAt.T3.2 spec_AheadAt.B3 = true := by kernel_rfl
set_option maxHeartbeats 8000000 in
set_option maxRecDepth 100000 in
theorem spec_AheadAt.calls (k : Nat) (a0_0 : Int) (a0_1 : Int) (a0_2 : Int) (a1_0 : Int) (a1_1 : Int) (a1_2 : Int) (a2_0 : Int) (a2_1 : Int) (r1 : Int) (r2 : Int) (r3 : Bool) (w : World) (h : spec_AheadAt.f k a0_0 a0_1 a0_2 a1_0 a1_1 a1_2 a2_0 a2_1 = some (r1, r2, r3)) :
    Calls Try.prog 9 #[.agg #[.int .i64 a0_0, .int .i64 a0_1, .int .i64 a0_2], .agg #[.int .i64 a1_0, .int .i64 a1_1, .int .i64 a1_2], .agg #[.int .i64 a2_0, .int .i64 a2_1]] w fun e w' => e = .returned (.tuple #[.agg #[.int .i64 r1, .int .i64 r2], .bool r3]) ∧ Below w.heap.size w w' := by
  have hu27 := Try.underlying27
  have hu25 := Try.underlying25
  have HB := Aside0.mk (Below.refl w.heap.size w)
  have H : ((spec_meTwo.f k a0_0 a0_1 a0_2 a1_0 a1_1 a1_2).bind fun t397 => (if t397 = true then ((spec_diGood.f k a2_0 a2_1).bind fun t398 => (spec_AheadAt.j0 k (!t398) a0_0 a0_1 a0_2 a1_0 a1_1 a1_2 a2_0 a2_1)) else (spec_AheadAt.j0 k true a0_0 a0_1 a0_2 a1_0 a1_1 a1_2 a2_0 a2_1))) = some (r1, r2, r3) := h
  clear h
  have HC4 := Aside0.mk H
  clear H
  go_enter Try.func9, Try.ntmps9
  go_upto_region 1 with (first | ((with_reducible refine gate_dst (N := 3) rfl ?_); refine be #[.int .i64 a0_0, .int .i64 a0_1, .int .i64 a0_2] 27 ?_; intro gb393 hg w5 hbox hb; have BK393 := Aside0.mk hbox; have GW393 := zs HB hg; have GE393 := zs HB hg; replace HB := zB HB hb; clear hb hbox hg) | ((with_reducible refine gate_dst (N := 4) rfl ?_); refine be #[.int .i64 a1_0, .int .i64 a1_1, .int .i64 a1_2] 27 ?_; intro gb394 hg w6 hbox hb; have BK394 := Aside0.mk hbox; have GW394 := zs HB hg; have GE394 := zs HB hg; have NB393_394 := zn BK393 hg; have NB394_393 := zm BK393 hg; replace BK393 := zb BK393 hb; replace HB := zB HB hb; clear hb hbox hg) | ((with_reducible refine gate_dst (N := 5) rfl ?_); refine be #[.int .i64 a2_0, .int .i64 a2_1] 25 ?_; intro gb395 hg w7 hbox hb; have BK395 := Aside0.mk hbox; have GW395 := zs HB hg; have GE395 := zs HB hg; have NB393_395 := zn BK393 hg; have NB395_393 := zm BK393 hg; have NB394_395 := zn BK394 hg; have NB395_394 := zm BK394 hg; replace BK393 := zb BK393 hb; replace BK394 := zb BK394 hb; replace HB := zB HB hb; clear hb hbox hg) | ((with_reducible refine gate_dst (N := 6) rfl ?_); refine be #[.int .i64 0, .int .i64 0] 25 ?_; intro gb396 hg w8 hbox hb; have BK396 := Aside0.mk hbox; have GW396 := zs HB hg; have GE396 := zs HB hg; have NB393_396 := zn BK393 hg; have NB396_393 := zm BK393 hg; have NB394_396 := zn BK394 hg; have NB396_394 := zm BK394 hg; have NB395_396 := zn BK395 hg; have NB396_395 := zm BK395 hg; replace BK393 := zb BK393 hb; replace BK394 := zb BK394 hb; replace BK395 := zb BK395 hb; replace HB := zB HB hb; clear hb hbox hg))
  (try simp only [Act.put, List.setIfInBounds_toArray, List.set_cons_zero, List.set_cons_succ])
  go_cut [16] (fun v16 wc => ∃ (kq : Nat) (x16_3 : Bool), v16 = .bool x16_3 ∧ Aside0 (spec_AheadAt.j0 kq x16_3 a0_0 a0_1 a0_2 a1_0 a1_1 a1_2 a2_0 a2_1 = some (r1, r2, r3)) ∧ Aside0 (kq ≤ k) ∧ Aside0 (wc.heap[gb393]? = some (.cells #[.int .i64 a0_0, .int .i64 a0_1, .int .i64 a0_2] 27 (0, 0))) ∧ Aside0 (wc.heap[gb394]? = some (.cells #[.int .i64 a1_0, .int .i64 a1_1, .int .i64 a1_2] 27 (0, 0))) ∧ Aside0 (wc.heap[gb395]? = some (.cells #[.int .i64 a2_0, .int .i64 a2_1] 25 (0, 0))) ∧ Aside0 (wc.heap[gb396]? = some (.cells #[.int .i64 0, .int .i64 0] 25 (0, 0))) ∧ Aside0 (Below w.heap.size w wc))
  case first =>
    have H := HC4.1
    clear HC4
    replace H := Option.bind_eq_some_iff.mp H
    obtain ⟨t397, A90, H⟩ := H
    (try dsimp only at H)
    have A9 := Aside0.mk A90
    clear A90
    by_cases c10 : t397 = true
    · subst c10
      rw [if_pos rfl] at H
      replace H := Option.bind_eq_some_iff.mp H
      obtain ⟨t398, A110, H⟩ := H
      (try dsimp only at H)
      have A11 := Aside0.mk A110
      clear A110
      have H' := Aside0.mk H
      clear H
      have hnb12 := NB393_394.1
      have hnc12 := NB394_393.1
      have hnb13 := NB393_395.1
      have hnc13 := NB395_393.1
      have hnb14 := NB393_396.1
      have hnc14 := NB396_393.1
      obtain ⟨hcz15_0, hcz15_1, hcz15_2, hfz15_0, hfz15_1, hfz15_2⟩ := zc3 BK393
      have hnb16 := NB394_395.1
      have hnc16 := NB395_394.1
      have hnb17 := NB394_396.1
      have hnc17 := NB396_394.1
      obtain ⟨hcz18_0, hcz18_1, hcz18_2, hfz18_0, hfz18_1, hfz18_2⟩ := zc3 BK394
      go_wp2_with (first | ((with_reducible refine gate_callee (f := 39) rfl ?_); refine gl (some 10) Try.func39 #[.agg #[.int .i64 a0_0, .int .i64 a0_1, .int .i64 a0_2], .agg #[.int .i64 a1_0, .int .i64 a1_1, .int .i64 a1_2]] ?_; (with_reducible refine (spec_meTwo.calls k a0_0 a0_1 a0_2 a1_0 a1_1 a1_2 true _ A9.1).mono ?_); rintro e w19 ⟨rfl, hb⟩; refine ⟨_, rfl, ?_⟩; replace BK393 := zb BK393 hb; replace BK394 := zb BK394 hb; replace BK395 := zb BK395 hb; replace BK396 := zb BK396 hb; replace HB := zB HB hb; clear hb; have hnb20 := NB395_396.1; have hnc20 := NB396_395.1; obtain ⟨hcz21_0, hcz21_1, hfz21_0, hfz21_1⟩ := zc2 BK395) | (go_at_call 40; (with_reducible refine (spec_diGood.calls k a2_0 a2_1 t398 _ A11.1).mono ?_); rintro e w22 ⟨rfl, hb⟩; replace BK393 := zb BK393 hb; replace BK394 := zb BK394 hb; replace BK395 := zb BK395 hb; replace BK396 := zb BK396 hb; replace HB := zB HB hb; clear hb))
      go_meet
      case rel => exact ⟨_, (!t398), ew, H', le_, ⟨bk BK393⟩, ⟨bk BK394⟩, ⟨bk BK395⟩, ⟨bk BK396⟩, ⟨bq HB⟩⟩
    replace c10 := Bool.eq_false_iff.mpr c10
    subst c10
    rw [if_neg (show ¬ (false = true) by decide)] at H
    have H' := Aside0.mk H
    clear H
    have hnb23 := NB393_394.1
    have hnc23 := NB394_393.1
    have hnb24 := NB393_395.1
    have hnc24 := NB395_393.1
    have hnb25 := NB393_396.1
    have hnc25 := NB396_393.1
    obtain ⟨hcz26_0, hcz26_1, hcz26_2, hfz26_0, hfz26_1, hfz26_2⟩ := zc3 BK393
    have hnb27 := NB394_395.1
    have hnc27 := NB395_394.1
    have hnb28 := NB394_396.1
    have hnc28 := NB396_394.1
    obtain ⟨hcz29_0, hcz29_1, hcz29_2, hfz29_0, hfz29_1, hfz29_2⟩ := zc3 BK394
    go_wp2_with (first | ((with_reducible refine gate_callee (f := 39) rfl ?_); refine gl (some 10) Try.func39 #[.agg #[.int .i64 a0_0, .int .i64 a0_1, .int .i64 a0_2], .agg #[.int .i64 a1_0, .int .i64 a1_1, .int .i64 a1_2]] ?_; (with_reducible refine (spec_meTwo.calls k a0_0 a0_1 a0_2 a1_0 a1_1 a1_2 false _ A9.1).mono ?_); rintro e w30 ⟨rfl, hb⟩; refine ⟨_, rfl, ?_⟩; replace BK393 := zb BK393 hb; replace BK394 := zb BK394 hb; replace BK395 := zb BK395 hb; replace BK396 := zb BK396 hb; replace HB := zB HB hb; clear hb))
    go_meet
    case rel => exact ⟨_, (true), ew, H', le_, ⟨bk BK393⟩, ⟨bk BK394⟩, ⟨bk BK395⟩, ⟨bk BK396⟩, ⟨bq HB⟩⟩
  clear HC4
  obtain ⟨kq, x16_3, rfl, HA, HJ3, BK393, BK394, BK395, BK396, HB⟩ := hcut
  cases kq with
  | zero => exact absurd HA.1 (by simp [spec_AheadAt.j0])
  | succ kj3 =>
    have H := HA.1
    clear HA
    simp only [spec_AheadAt.j0] at H
    by_cases c31 : x16_3 = true
    · subst c31
      rw [if_pos rfl] at H
      simp only [Option.some.injEq, Prod.mk.injEq] at H
      obtain ⟨rfl, rfl, rfl⟩ := H
      have hnb32 := NB396_393.1
      have hnc32 := NB393_396.1
      have hnb33 := NB396_394.1
      have hnc33 := NB394_396.1
      have hnb34 := NB396_395.1
      have hnc34 := NB395_396.1
      obtain ⟨hcz35_0, hcz35_1, hfz35_0, hfz35_1⟩ := zc2 BK396
      go_wp2
      refine bodyPost_ret (results_ct rfl _ _ gb396 25 #[.int .i64 0, .int .i64 0] (0, 0) _ rfl (bk BK396) Try.underlying25 rfl (by kernel_rfl)) rfl ?_
      exact ⟨er, bq HB⟩
    replace c31 := Bool.eq_false_iff.mpr c31
    subst c31
    rw [if_neg (show ¬ (false = true) by decide)] at H
    replace H := Option.bind_eq_some_iff.mp H
    obtain ⟨⟨t399, t400, t401⟩, A360, H⟩ := H
    (try dsimp only at H)
    have A36 := Aside0.mk A360
    clear A360
    replace H := Option.bind_eq_some_iff.mp H
    obtain ⟨⟨t402, t403, t404⟩, A370, H⟩ := H
    (try dsimp only at H)
    have A37 := Aside0.mk A370
    clear A370
    simp only [Option.some.injEq, Prod.mk.injEq] at H
    obtain ⟨rfl, rfl, rfl⟩ := H
    try go_wp2
    replace BK393 := Aside0.mk (blk_drew BK393.1)
    replace BK394 := Aside0.mk (blk_drew BK394.1)
    replace BK395 := Aside0.mk (blk_drew BK395.1)
    replace BK396 := Aside0.mk (blk_drew BK396.1)
    replace HB := Aside0.mk (below_drew1 HB.1)
    refine start_ (n := 9) (S := fun w' => w'.cell? ⟨gb393, 0, none⟩ = some (.int .i64 a0_0) ∧ w'.cell? ⟨gb393, 1, none⟩ = some (.int .i64 a0_1) ∧ w'.cell? ⟨gb393, 2, none⟩ = some (.int .i64 a0_2) ∧ w'.cell? ⟨gb394, 0, none⟩ = some (.int .i64 a1_0) ∧ w'.cell? ⟨gb394, 1, none⟩ = some (.int .i64 a1_1) ∧ w'.cell? ⟨gb394, 2, none⟩ = some (.int .i64 a1_2) ∧ w'.cell? ⟨gb395, 0, none⟩ = some (.int .i64 a2_0) ∧ w'.cell? ⟨gb395, 1, none⟩ = some (.int .i64 a2_1)) (ds := []) (bs 9 0) (by kernel_rfl) rfl rfl ⟨(blk_cell BK393.1 0).trans rfl, (blk_cell BK393.1 1).trans rfl, (blk_cell BK393.1 2).trans rfl, (blk_cell BK394.1 0).trans rfl, (blk_cell BK394.1 1).trans rfl, (blk_cell BK394.1 2).trans rfl, (blk_cell BK395.1 0).trans rfl, (blk_cell BK395.1 1).trans rfl⟩ (fun hHeld => ?_); refine with_tabW spec_AheadAt.tab3 spec_AheadAt.bits3 (fun HT_ HW_ => ?_)
    generalize wc.drew = w38 at BK393 BK394 BK395 BK396 HB hHeld ⊢
    refine tk 0 18 HT_ HW_ hHeld rfl rfl (bs 9 1) ?_
    refine tk 1 19 HT_ HW_ hHeld rfl rfl (bs 9 3) ?_
    refine tk 3 21 HT_ HW_ hHeld rfl rfl (bs 9 11) ?_
    refine one_ (i := 2) (N := some 20) (bs 9 15) rfl rfl (one_of HT_.1 (by kernel_rfl)) (by decide) (fun K hK => ?_)
    refine gs Try.func33 #[.agg #[.int .i64 a0_0, .int .i64 a0_1, .int .i64 a0_2], .agg #[.int .i64 a1_0, .int .i64 a1_1, .int .i64 a1_2]] ?_
    with_reducible refine (spec_meRelative.calls kj3 a0_0 a0_1 a0_2 a1_0 a1_1 a1_2 t399 t400 t401 _ A36.1).mono ?_
    rintro e w39 ⟨rfl, hb⟩
    refine ⟨_, rfl, ?_⟩
    replace BK393 := zb BK393 hb
    replace BK394 := zb BK394 hb
    replace BK395 := zb BK395 hb
    replace BK396 := zb BK396 hb
    replace HB := zB HB hb
    (try clear hb)
    (try clear hb2)
    (try clear hk)
    (try clear hi)
    refine hK.out _ _ ⟨(blk_cell BK393.1 0).trans rfl, (blk_cell BK393.1 1).trans rfl, (blk_cell BK393.1 2).trans rfl, (blk_cell BK394.1 0).trans rfl, (blk_cell BK394.1 1).trans rfl, (blk_cell BK394.1 2).trans rfl, (blk_cell BK395.1 0).trans rfl, (blk_cell BK395.1 1).trans rfl⟩ (fun hHeld => ?_)
    clear hK K
    refine norm_ (aq 20) ?_
    refine one_ (i := 4) (N := some 22) (bs 9 31) rfl rfl (one_of HT_.1 (by kernel_rfl)) (by decide) (fun K hK => ?_)
    refine gs Try.func41 #[.agg #[.int .i64 t399, .int .i64 t400, .int .i64 t401], .agg #[.int .i64 a2_0, .int .i64 a2_1]] ?_
    with_reducible refine (spec_meAt.calls kj3 t399 t400 t401 a2_0 a2_1 t402 t403 t404 _ A37.1).mono ?_
    rintro e w40 ⟨rfl, hb⟩
    refine ⟨_, rfl, ?_⟩
    replace BK393 := zb BK393 hb
    replace BK394 := zb BK394 hb
    replace BK395 := zb BK395 hb
    replace BK396 := zb BK396 hb
    replace HB := zB HB hb
    (try clear hb)
    (try clear hb2)
    (try clear hk)
    (try clear hi)
    refine hK.out _ _ ⟨(blk_cell BK393.1 0).trans rfl, (blk_cell BK393.1 1).trans rfl, (blk_cell BK393.1 2).trans rfl, (blk_cell BK394.1 0).trans rfl, (blk_cell BK394.1 1).trans rfl, (blk_cell BK394.1 2).trans rfl, (blk_cell BK395.1 0).trans rfl, (blk_cell BK395.1 1).trans rfl⟩ (fun hHeld => ?_)
    clear hK K
    refine norm_ (aq 22) ?_
    refine pu 5 23 HT_ rfl rfl (bs 9 63) ?_
    refine pu 6 24 HT_ rfl rfl (bs 9 127) ?_
    refine one_ (i := 7) (N := none) (bs 9 255) rfl rfl (one_of HT_.1 (by kernel_rfl)) (by decide) (fun K hK => ?_)
    have hs41 : w40.cell? ⟨gb396, 0, none⟩ = some (.int .i64 0) := (blk_cell BK396.1 0).trans rfl
    have hfs41 := blk_frozen BK396.1 0
    have hns41_0 := NB393_396.1
    have hns41_1 := NB394_396.1
    have hns41_2 := NB395_396.1
    have hms41_0 := NB396_393.1
    have hms41_1 := NB396_394.1
    have hms41_2 := NB396_395.1
    have hs42 : w40.cell? ⟨gb396, 1, none⟩ = some (.int .i64 0) := (blk_cell BK396.1 1).trans rfl
    have hfs42 := blk_frozen BK396.1 1
    have hns42_0 := NB393_396.1
    have hns42_1 := NB394_396.1
    have hns42_2 := NB395_396.1
    have hms42_0 := NB396_393.1
    have hms42_1 := NB396_394.1
    have hms42_2 := NB396_395.1
    refine skip_ (w1 := ?_) (by rfl) rfl ?_ ?_
    rotate_left
    · go_simp
      rfl
    refine hK.out _ _ ⟨((cell_far (p := ⟨gb396, _, none⟩) NB393_396.1 _).trans (((cell_far (p := ⟨gb396, _, none⟩) NB393_396.1 _).trans (hHeld.1)))), ((cell_far (p := ⟨gb396, _, none⟩) NB393_396.1 _).trans (((cell_far (p := ⟨gb396, _, none⟩) NB393_396.1 _).trans (hHeld.2.1)))), ((cell_far (p := ⟨gb396, _, none⟩) NB393_396.1 _).trans (((cell_far (p := ⟨gb396, _, none⟩) NB393_396.1 _).trans (hHeld.2.2.1)))), ((cell_far (p := ⟨gb396, _, none⟩) NB394_396.1 _).trans (((cell_far (p := ⟨gb396, _, none⟩) NB394_396.1 _).trans (hHeld.2.2.2.1)))), ((cell_far (p := ⟨gb396, _, none⟩) NB394_396.1 _).trans (((cell_far (p := ⟨gb396, _, none⟩) NB394_396.1 _).trans (hHeld.2.2.2.2.1)))), ((cell_far (p := ⟨gb396, _, none⟩) NB394_396.1 _).trans (((cell_far (p := ⟨gb396, _, none⟩) NB394_396.1 _).trans (hHeld.2.2.2.2.2.1)))), ((cell_far (p := ⟨gb396, _, none⟩) NB395_396.1 _).trans (((cell_far (p := ⟨gb396, _, none⟩) NB395_396.1 _).trans (hHeld.2.2.2.2.2.2.1)))), ((cell_far (p := ⟨gb396, _, none⟩) NB395_396.1 _).trans (((cell_far (p := ⟨gb396, _, none⟩) NB395_396.1 _).trans (hHeld.2.2.2.2.2.2.2))))⟩ (fun hHeld => ?_)
    clear hK K
    refine pu 8 7 HT_ rfl rfl (bs 9 511) ?_
    refine done_ (done_of HT_.1 (by kernel_rfl)) ?_
    try go_wp2
    refine bodyPost_ret (results_ct rfl _ _ gb396 25 #[.int .i64 t402, .int .i64 t403] (0, 0) _ rfl (bk BK396) Try.underlying25 rfl (by kernel_rfl)) rfl ?_
    exact ⟨er, bq HB⟩

/-! ### impl_RelativeHand: function 10 -/
def impl_RelativeHand.f (k : Nat) (a0_0 : Int) (a0_1 : Int) (a0_2 : Int) (a1_0 : Int) (a1_1 : Int) (a1_2 : Int) : Option (Int × Int × Int × Bool) := (impl_areHands.f (([(⟨(⟨a0_0, a0_1⟩ : S25), a0_2⟩ : S27), (⟨(⟨a1_0, a1_1⟩ : S25), a1_2⟩ : S27)] : List (S27)))).bind fun t411 => (if t411 = true then ((impl_relative.f k a0_0 a0_1 a0_2 a1_0 a1_1 a1_2).bind fun bt412 => ((impl_IsHand.f k bt412.1 bt412.2.1 bt412.2.2).bind fun t416 => (if t416 = true then (some (bt412.1, bt412.2.1, bt412.2.2, true)) else (some (0, 0, 0, false))))) else (some (0, 0, 0, false)))
theorem impl_RelativeHand.mono : ∀ a0 a1 a2 a3 a4 a5 k, LeO (impl_RelativeHand.f k a0 a1 a2 a3 a4 a5) (impl_RelativeHand.f (k + 1) a0 a1 a2 a3 a4 a5) := by
  intro a0 a1 a2 a3 a4 a5 k
  unfold impl_RelativeHand.f
  repeat' first
      | (with_reducible exact impl_IsHand.mono _ _ _ _)
      | (with_reducible exact impl_relative.mono _ _ _ _ _ _ _)
      | (with_reducible exact LeO.refl _)
      | (with_reducible exact LeO.none _)
      | (with_reducible refine LeO.ite ?_ ?_)
      | (with_reducible refine LeO.bind ?_ (fun _ => ?_))
      | exact impl_IsHand.mono _ _ _ _
      | exact impl_relative.mono _ _ _ _ _ _ _
      | exact LeO.none _
      | refine LeO.ite ?_ ?_
      | refine LeO.bind ?_ (fun _ => ?_)
set_option maxHeartbeats 8000000 in
set_option maxRecDepth 100000 in
theorem impl_RelativeHand.calls (k : Nat) (a0_0 : Int) (a0_1 : Int) (a0_2 : Int) (a1_0 : Int) (a1_1 : Int) (a1_2 : Int) (r1 : Int) (r2 : Int) (r3 : Int) (r4 : Bool) (w : World) (h : impl_RelativeHand.f k a0_0 a0_1 a0_2 a1_0 a1_1 a1_2 = some (r1, r2, r3, r4)) :
    Calls Try.prog 10 #[.agg #[.int .i64 a0_0, .int .i64 a0_1, .int .i64 a0_2], .agg #[.int .i64 a1_0, .int .i64 a1_1, .int .i64 a1_2]] w fun e w' => e = .returned (.tuple #[.agg #[.int .i64 r1, .int .i64 r2, .int .i64 r3], .bool r4]) ∧ Below w.heap.size w w' := by
  have hu27 := Try.underlying27
  have HB := Aside0.mk (Below.refl w.heap.size w)
  have H : ((impl_areHands.f (([(⟨(⟨a0_0, a0_1⟩ : S25), a0_2⟩ : S27), (⟨(⟨a1_0, a1_1⟩ : S25), a1_2⟩ : S27)] : List (S27)))).bind fun t411 => (if t411 = true then ((impl_relative.f k a0_0 a0_1 a0_2 a1_0 a1_1 a1_2).bind fun bt412 => ((impl_IsHand.f k bt412.1 bt412.2.1 bt412.2.2).bind fun t416 => (if t416 = true then (some (bt412.1, bt412.2.1, bt412.2.2, true)) else (some (0, 0, 0, false))))) else (some (0, 0, 0, false)))) = some (r1, r2, r3, r4) := h
  clear h
  obtain ⟨y408, hy408⟩ : ∃ y_ : List (S27), y_ = (([(⟨(⟨a0_0, a0_1⟩ : S25), a0_2⟩ : S27), (⟨(⟨a1_0, a1_1⟩ : S25), a1_2⟩ : S27)] : List (S27))) := ⟨_, rfl⟩
  replace H : ((impl_areHands.f y408).bind fun t411 => (if t411 = true then ((impl_relative.f k a0_0 a0_1 a0_2 a1_0 a1_1 a1_2).bind fun bt412 => ((impl_IsHand.f k bt412.1 bt412.2.1 bt412.2.2).bind fun t416 => (if t416 = true then (some (bt412.1, bt412.2.1, bt412.2.2, true)) else (some (0, 0, 0, false))))) else (some (0, 0, 0, false)))) = some (r1, r2, r3, r4) := by first | (rw [hy408]; with_reducible exact H) | (have H2_ := (Option.bind_some _ _).symm.trans H; rw [hy408]; with_reducible exact H2_) | (have H2_ := (Option.bind_some _ _).symm.trans H; with_reducible exact H2_) | with_reducible exact H | (rw [hy408]; exact H) | exact H
  have Ny408 := Aside0.mk hy408
  clear hy408
  replace H := Option.bind_eq_some_iff.mp H
  obtain ⟨t411, A30, H⟩ := H
  (try dsimp only at H)
  have A3 := Aside0.mk A30
  clear A30
  by_cases c4 : t411 = true
  · subst c4
    rw [if_pos rfl] at H
    replace H := Option.bind_eq_some_iff.mp H
    obtain ⟨⟨t412, t413, t414⟩, A50, H⟩ := H
    (try dsimp only at H)
    have A5 := Aside0.mk A50
    clear A50
    replace H := Option.bind_eq_some_iff.mp H
    obtain ⟨t416, A60, H⟩ := H
    (try dsimp only at H)
    have A6 := Aside0.mk A60
    clear A60
    by_cases c7 : t416 = true
    · subst c7
      rw [if_pos rfl] at H
      simp only [Option.some.injEq, Prod.mk.injEq] at H
      obtain ⟨rfl, rfl, rfl, rfl⟩ := H
      go_enter Try.func10, Try.ntmps10
      go_wp2_with (first | ((with_reducible refine gate_dst (N := 2) rfl ?_); refine be #[.int .i64 a0_0, .int .i64 a0_1, .int .i64 a0_2] 27 ?_; intro gb405 hg w8 hbox hb; have BK405 := Aside0.mk hbox; have GW405 := zs HB hg; have GE405 := zs HB hg; replace HB := zB HB hb; clear hb hbox hg) | ((with_reducible refine gate_dst (N := 3) rfl ?_); refine be #[.int .i64 a1_0, .int .i64 a1_1, .int .i64 a1_2] 27 ?_; intro gb406 hg w9 hbox hb; have BK406 := Aside0.mk hbox; have GW406 := zs HB hg; have GE406 := zs HB hg; have NB405_406 := zn BK405 hg; have NB406_405 := zm BK405 hg; replace BK405 := zb BK405 hb; replace HB := zB HB hb; clear hb hbox hg) | ((with_reducible refine gate_dst (N := 4) rfl ?_); refine be #[.int .i64 0, .int .i64 0, .int .i64 0] 27 ?_; intro gb407 hg w10 hbox hb; have BK407 := Aside0.mk hbox; have GW407 := zs HB hg; have GE407 := zs HB hg; have NB405_407 := zn BK405 hg; have NB407_405 := zm BK405 hg; have NB406_407 := zn BK406 hg; have NB407_406 := zm BK406 hg; replace BK405 := zb BK405 hb; replace BK406 := zb BK406 hb; replace HB := zB HB hb; clear hb hbox hg; have hnb11 := NB405_406.1; have hnc11 := NB406_405.1; have hnb12 := NB405_407.1; have hnc12 := NB407_405.1; obtain ⟨hcz13_0, hcz13_1, hcz13_2, hfz13_0, hfz13_1, hfz13_2⟩ := zc3 BK405; have hnb14 := NB406_407.1; have hnc14 := NB407_406.1; obtain ⟨hcz15_0, hcz15_1, hcz15_2, hfz15_0, hfz15_1, hfz15_2⟩ := zc3 BK406) | ((with_reducible refine gate_dst (N := 9) rfl ?_); refine Kd.R_lit k27 _ 27 ?hg (N := 9) ?hd (xs := ([(⟨(⟨a0_0, a0_1⟩ : S25), a0_2⟩ : S27), (⟨(⟨a1_0, a1_1⟩ : S25), a1_2⟩ : S27)] : List (S27))) (inner := [.int .i64 a0_0, .int .i64 a0_1, .int .i64 a0_2, .int .i64 a1_0, .int .i64 a1_1, .int .i64 a1_2]) (ok := fun _ => True) (okp := fun _ => True) ?hr ?hp (fun _ hk => hk) trivial (Below.refl _ _) (Nat.le_refl _) (by simp) ?_; (case hd => rfl); (case hg => rfl); (case hr => first | (go_simp; done) | (go_simp; rfl)); (case hp => exact (Reps.c3 (show Kd.M k27 _ _ _ (⟨(⟨a0_0, a0_1⟩ : S25), a0_2⟩ : S27) [.int .i64 a0_0, .int .i64 a0_1, .int .i64 a0_2] from (k27_mkM _ _ _ (⟨(⟨a0_0, a0_1⟩ : S25), a0_2⟩ : S27) )) (Reps.c3 (show Kd.M k27 _ _ _ (⟨(⟨a1_0, a1_1⟩ : S25), a1_2⟩ : S27) [.int .i64 a1_0, .int .i64 a1_1, .int .i64 a1_2] from (k27_mkM _ _ _ (⟨(⟨a1_0, a1_1⟩ : S25), a1_2⟩ : S27) )) (Reps.none _ _)))); intro v409 w16 ho17 hb hg_ hnew_; clear hg_ hnew_; (first | rw [← Ny408.1] at ho17 | (simp only [Int.reduceToNat] at ho17; rw [← Ny408.1] at ho17)); have HO410 := Aside0.mk (Kd.R_lower (Kd.R_newB (Kd.R_newB (Kd.R_newB ho17 (g := gb405) (o := .cells #[.int .i64 a0_0, .int .i64 a0_1, .int .i64 a0_2] 27 (0, 0)) (bk BK405)) (g := gb406) (o := .cells #[.int .i64 a1_0, .int .i64 a1_1, .int .i64 a1_2] 27 (0, 0)) (bk BK406)) (g := gb407) (o := .cells #[.int .i64 0, .int .i64 0, .int .i64 0] 27 (0, 0)) (bk BK407)) (below_size (bq HB))); replace BK405 := zb BK405 hb; replace BK406 := zb BK406 hb; replace BK407 := zb BK407 hb; replace HB := zB HB hb; clear hb ho17; obtain ⟨Ao18, co18, eo18⟩ := Kd.R_slice HO410.1; subst eo18) | ((with_reducible refine gate_callee (f := 34) rfl ?_); refine gl (some 10) Try.func34 #[.slice Ao18 y408.length co18] ?_; (with_reducible refine (impl_areHands.calls _ _ y408 true _ ?side1 ?side2 A3.1).mono ?_); (case side1 => repeat (first | exact (Kd.R_reads' HO410.1).2.2 | (with_reducible refine Kd.C_alloc ?_ _) | (with_reducible refine Kd.C_drewN ?_ _) | (with_reducible refine Kd.C_drew ?_))); (case side2 => exact (Kd.R_reads' HO410.1).2.1); rintro e w19 ⟨rfl, hb⟩; refine ⟨_, rfl, ?_⟩; replace HO410 := rB HO410 hb; replace BK405 := zb BK405 hb; replace BK406 := zb BK406 hb; replace BK407 := zb BK407 hb; replace HB := zB HB hb; clear hb; obtain ⟨hcz20_0, hcz20_1, hcz20_2, hfz20_0, hfz20_1, hfz20_2⟩ := zc3 BK405; obtain ⟨hcz21_0, hcz21_1, hcz21_2, hfz21_0, hfz21_1, hfz21_2⟩ := zc3 BK406) | ((with_reducible refine gate_callee (f := 37) rfl ?_); refine gl (some 15) Try.func37 #[.agg #[.int .i64 a0_0, .int .i64 a0_1, .int .i64 a0_2], .agg #[.int .i64 a1_0, .int .i64 a1_1, .int .i64 a1_2]] ?_; (with_reducible refine (impl_relative.calls k a0_0 a0_1 a0_2 a1_0 a1_1 a1_2 t412 t413 t414 _ A5.1).mono ?_); rintro e w22 ⟨rfl, hb⟩; refine ⟨_, rfl, ?_⟩; replace HO410 := rB HO410 hb; replace BK405 := zb BK405 hb; replace BK406 := zb BK406 hb; replace BK407 := zb BK407 hb; replace HB := zB HB hb; clear hb) | ((with_reducible refine gate_dst (N := 6) rfl ?_); refine be #[.int .i64 0, .int .i64 0, .int .i64 0] 27 ?_; intro gb415 hg w23 hbox hb; replace HO410 := Aside0.mk (Kd.R_below (Kd.R_elderB (rq HO410) gb415 (Nat.le_of_eq hg.symm)) hb); have BK415 := Aside0.mk hbox; have GW415 := zs HB hg; have GE415 := zs HB hg; have NB405_415 := zn BK405 hg; have NB415_405 := zm BK405 hg; have NB406_415 := zn BK406 hg; have NB415_406 := zm BK406 hg; have NB407_415 := zn BK407 hg; have NB415_407 := zm BK407 hg; replace BK405 := zb BK405 hb; replace BK406 := zb BK406 hb; replace BK407 := zb BK407 hb; replace HB := zB HB hb; clear hb hbox hg; have hnb24 := NB415_405.1; have hnc24 := NB405_415.1; have hnb25 := NB415_406.1; have hnc25 := NB406_415.1; have hnb26 := NB415_407.1; have hnc26 := NB407_415.1; obtain ⟨hcz27_0, hcz27_1, hcz27_2, hfz27_0, hfz27_1, hfz27_2⟩ := zc3 BK415) | ((with_reducible refine gate_callee (f := 42) rfl ?_); refine gl (some 17) Try.func42 #[.agg #[.int .i64 t412, .int .i64 t413, .int .i64 t414]] ?_; (with_reducible refine (impl_IsHand.calls k t412 t413 t414 true _ A6.1).mono ?_); rintro e w28 ⟨rfl, hb⟩; refine ⟨_, rfl, ?_⟩; replace HO410 := Aside0.mk (Kd.R_below (by (with_reducible repeat (first | apply Kd.R_alloc | apply Kd.R_drewN | apply Kd.R_drew)); exact (Kd.R_mono (Kd.R_far (p := ⟨gb415, 2, none⟩) (Kd.R_far (p := ⟨gb415, 1, none⟩) (Kd.R_far (p := ⟨gb415, 0, none⟩) (Kd.R_mono HO410.1 (fun k_ hk => (⟨hk, hk.2⟩ : _ ∧ k_ ≠ gb415))) (fun _ hk => hk.2) (.int .i64 t412)) (fun _ hk => hk.2) (.int .i64 t413)) (fun _ hk => hk.2) (.int .i64 t414)) (fun _ h_ => h_.1))) hb); replace BK405 := zy (o' := .cells #[.int .i64 a0_0, .int .i64 a0_1, .int .i64 a0_2] 27 (0, 0)) BK405 hb; replace BK406 := zy (o' := .cells #[.int .i64 a1_0, .int .i64 a1_1, .int .i64 a1_2] 27 (0, 0)) BK406 hb; replace BK407 := zy (o' := .cells #[.int .i64 0, .int .i64 0, .int .i64 0] 27 (0, 0)) BK407 hb; replace BK415 := zy (o' := .cells #[.int .i64 t412, .int .i64 t413, .int .i64 t414] 27 (0, 0)) BK415 hb; replace HB := zB HB hb; clear hb; obtain ⟨hcz29_0, hcz29_1, hcz29_2, hfz29_0, hfz29_1, hfz29_2⟩ := zc3 BK415; obtain ⟨hcz30_0, hcz30_1, hcz30_2, hfz30_0, hfz30_1, hfz30_2⟩ := zc3 BK407))
      refine bodyPost_ret (results_ct rfl _ _ gb407 27 #[.int .i64 t412, .int .i64 t413, .int .i64 t414] (0, 0) _ rfl (bk BK407) Try.underlying27 rfl (by kernel_rfl)) rfl ?_
      exact ⟨er, bq HB⟩
    replace c7 := Bool.eq_false_iff.mpr c7
    subst c7
    rw [if_neg (show ¬ (false = true) by decide)] at H
    simp only [Option.some.injEq, Prod.mk.injEq] at H
    obtain ⟨rfl, rfl, rfl, rfl⟩ := H
    go_enter Try.func10, Try.ntmps10
    go_wp2_with (first | ((with_reducible refine gate_dst (N := 2) rfl ?_); refine be #[.int .i64 a0_0, .int .i64 a0_1, .int .i64 a0_2] 27 ?_; intro gb405 hg w31 hbox hb; have BK405 := Aside0.mk hbox; have GW405 := zs HB hg; have GE405 := zs HB hg; replace HB := zB HB hb; clear hb hbox hg) | ((with_reducible refine gate_dst (N := 3) rfl ?_); refine be #[.int .i64 a1_0, .int .i64 a1_1, .int .i64 a1_2] 27 ?_; intro gb406 hg w32 hbox hb; have BK406 := Aside0.mk hbox; have GW406 := zs HB hg; have GE406 := zs HB hg; have NB405_406 := zn BK405 hg; have NB406_405 := zm BK405 hg; replace BK405 := zb BK405 hb; replace HB := zB HB hb; clear hb hbox hg) | ((with_reducible refine gate_dst (N := 4) rfl ?_); refine be #[.int .i64 0, .int .i64 0, .int .i64 0] 27 ?_; intro gb407 hg w33 hbox hb; have BK407 := Aside0.mk hbox; have GW407 := zs HB hg; have GE407 := zs HB hg; have NB405_407 := zn BK405 hg; have NB407_405 := zm BK405 hg; have NB406_407 := zn BK406 hg; have NB407_406 := zm BK406 hg; replace BK405 := zb BK405 hb; replace BK406 := zb BK406 hb; replace HB := zB HB hb; clear hb hbox hg; have hnb34 := NB405_406.1; have hnc34 := NB406_405.1; have hnb35 := NB405_407.1; have hnc35 := NB407_405.1; obtain ⟨hcz36_0, hcz36_1, hcz36_2, hfz36_0, hfz36_1, hfz36_2⟩ := zc3 BK405; have hnb37 := NB406_407.1; have hnc37 := NB407_406.1; obtain ⟨hcz38_0, hcz38_1, hcz38_2, hfz38_0, hfz38_1, hfz38_2⟩ := zc3 BK406) | ((with_reducible refine gate_dst (N := 9) rfl ?_); refine Kd.R_lit k27 _ 27 ?hg (N := 9) ?hd (xs := ([(⟨(⟨a0_0, a0_1⟩ : S25), a0_2⟩ : S27), (⟨(⟨a1_0, a1_1⟩ : S25), a1_2⟩ : S27)] : List (S27))) (inner := [.int .i64 a0_0, .int .i64 a0_1, .int .i64 a0_2, .int .i64 a1_0, .int .i64 a1_1, .int .i64 a1_2]) (ok := fun _ => True) (okp := fun _ => True) ?hr ?hp (fun _ hk => hk) trivial (Below.refl _ _) (Nat.le_refl _) (by simp) ?_; (case hd => rfl); (case hg => rfl); (case hr => first | (go_simp; done) | (go_simp; rfl)); (case hp => exact (Reps.c3 (show Kd.M k27 _ _ _ (⟨(⟨a0_0, a0_1⟩ : S25), a0_2⟩ : S27) [.int .i64 a0_0, .int .i64 a0_1, .int .i64 a0_2] from (k27_mkM _ _ _ (⟨(⟨a0_0, a0_1⟩ : S25), a0_2⟩ : S27) )) (Reps.c3 (show Kd.M k27 _ _ _ (⟨(⟨a1_0, a1_1⟩ : S25), a1_2⟩ : S27) [.int .i64 a1_0, .int .i64 a1_1, .int .i64 a1_2] from (k27_mkM _ _ _ (⟨(⟨a1_0, a1_1⟩ : S25), a1_2⟩ : S27) )) (Reps.none _ _)))); intro v409 w39 ho40 hb hg_ hnew_; clear hg_ hnew_; (first | rw [← Ny408.1] at ho40 | (simp only [Int.reduceToNat] at ho40; rw [← Ny408.1] at ho40)); have HO410 := Aside0.mk (Kd.R_lower (Kd.R_newB (Kd.R_newB (Kd.R_newB ho40 (g := gb405) (o := .cells #[.int .i64 a0_0, .int .i64 a0_1, .int .i64 a0_2] 27 (0, 0)) (bk BK405)) (g := gb406) (o := .cells #[.int .i64 a1_0, .int .i64 a1_1, .int .i64 a1_2] 27 (0, 0)) (bk BK406)) (g := gb407) (o := .cells #[.int .i64 0, .int .i64 0, .int .i64 0] 27 (0, 0)) (bk BK407)) (below_size (bq HB))); replace BK405 := zb BK405 hb; replace BK406 := zb BK406 hb; replace BK407 := zb BK407 hb; replace HB := zB HB hb; clear hb ho40; obtain ⟨Ao41, co41, eo41⟩ := Kd.R_slice HO410.1; subst eo41) | ((with_reducible refine gate_callee (f := 34) rfl ?_); refine gl (some 10) Try.func34 #[.slice Ao41 y408.length co41] ?_; (with_reducible refine (impl_areHands.calls _ _ y408 true _ ?side1 ?side2 A3.1).mono ?_); (case side1 => repeat (first | exact (Kd.R_reads' HO410.1).2.2 | (with_reducible refine Kd.C_alloc ?_ _) | (with_reducible refine Kd.C_drewN ?_ _) | (with_reducible refine Kd.C_drew ?_))); (case side2 => exact (Kd.R_reads' HO410.1).2.1); rintro e w42 ⟨rfl, hb⟩; refine ⟨_, rfl, ?_⟩; replace HO410 := rB HO410 hb; replace BK405 := zb BK405 hb; replace BK406 := zb BK406 hb; replace BK407 := zb BK407 hb; replace HB := zB HB hb; clear hb; obtain ⟨hcz43_0, hcz43_1, hcz43_2, hfz43_0, hfz43_1, hfz43_2⟩ := zc3 BK405; obtain ⟨hcz44_0, hcz44_1, hcz44_2, hfz44_0, hfz44_1, hfz44_2⟩ := zc3 BK406) | ((with_reducible refine gate_callee (f := 37) rfl ?_); refine gl (some 15) Try.func37 #[.agg #[.int .i64 a0_0, .int .i64 a0_1, .int .i64 a0_2], .agg #[.int .i64 a1_0, .int .i64 a1_1, .int .i64 a1_2]] ?_; (with_reducible refine (impl_relative.calls k a0_0 a0_1 a0_2 a1_0 a1_1 a1_2 t412 t413 t414 _ A5.1).mono ?_); rintro e w45 ⟨rfl, hb⟩; refine ⟨_, rfl, ?_⟩; replace HO410 := rB HO410 hb; replace BK405 := zb BK405 hb; replace BK406 := zb BK406 hb; replace BK407 := zb BK407 hb; replace HB := zB HB hb; clear hb) | ((with_reducible refine gate_dst (N := 6) rfl ?_); refine be #[.int .i64 0, .int .i64 0, .int .i64 0] 27 ?_; intro gb415 hg w46 hbox hb; replace HO410 := Aside0.mk (Kd.R_below (Kd.R_elderB (rq HO410) gb415 (Nat.le_of_eq hg.symm)) hb); have BK415 := Aside0.mk hbox; have GW415 := zs HB hg; have GE415 := zs HB hg; have NB405_415 := zn BK405 hg; have NB415_405 := zm BK405 hg; have NB406_415 := zn BK406 hg; have NB415_406 := zm BK406 hg; have NB407_415 := zn BK407 hg; have NB415_407 := zm BK407 hg; replace BK405 := zb BK405 hb; replace BK406 := zb BK406 hb; replace BK407 := zb BK407 hb; replace HB := zB HB hb; clear hb hbox hg; have hnb47 := NB415_405.1; have hnc47 := NB405_415.1; have hnb48 := NB415_406.1; have hnc48 := NB406_415.1; have hnb49 := NB415_407.1; have hnc49 := NB407_415.1; obtain ⟨hcz50_0, hcz50_1, hcz50_2, hfz50_0, hfz50_1, hfz50_2⟩ := zc3 BK415) | ((with_reducible refine gate_callee (f := 42) rfl ?_); refine gl (some 17) Try.func42 #[.agg #[.int .i64 t412, .int .i64 t413, .int .i64 t414]] ?_; (with_reducible refine (impl_IsHand.calls k t412 t413 t414 false _ A6.1).mono ?_); rintro e w51 ⟨rfl, hb⟩; refine ⟨_, rfl, ?_⟩; replace HO410 := Aside0.mk (Kd.R_below (by (with_reducible repeat (first | apply Kd.R_alloc | apply Kd.R_drewN | apply Kd.R_drew)); exact (Kd.R_mono (Kd.R_far (p := ⟨gb415, 2, none⟩) (Kd.R_far (p := ⟨gb415, 1, none⟩) (Kd.R_far (p := ⟨gb415, 0, none⟩) (Kd.R_mono HO410.1 (fun k_ hk => (⟨hk, hk.2⟩ : _ ∧ k_ ≠ gb415))) (fun _ hk => hk.2) (.int .i64 t412)) (fun _ hk => hk.2) (.int .i64 t413)) (fun _ hk => hk.2) (.int .i64 t414)) (fun _ h_ => h_.1))) hb); replace BK405 := zy (o' := .cells #[.int .i64 a0_0, .int .i64 a0_1, .int .i64 a0_2] 27 (0, 0)) BK405 hb; replace BK406 := zy (o' := .cells #[.int .i64 a1_0, .int .i64 a1_1, .int .i64 a1_2] 27 (0, 0)) BK406 hb; replace BK407 := zy (o' := .cells #[.int .i64 0, .int .i64 0, .int .i64 0] 27 (0, 0)) BK407 hb; replace BK415 := zy (o' := .cells #[.int .i64 t412, .int .i64 t413, .int .i64 t414] 27 (0, 0)) BK415 hb; replace HB := zB HB hb; clear hb; obtain ⟨hcz52_0, hcz52_1, hcz52_2, hfz52_0, hfz52_1, hfz52_2⟩ := zc3 BK407))
    refine bodyPost_ret (results_ct rfl _ _ gb407 27 #[.int .i64 0, .int .i64 0, .int .i64 0] (0, 0) _ rfl (bk BK407) Try.underlying27 rfl (by kernel_rfl)) rfl ?_
    exact ⟨er, bq HB⟩
  replace c4 := Bool.eq_false_iff.mpr c4
  subst c4
  rw [if_neg (show ¬ (false = true) by decide)] at H
  simp only [Option.some.injEq, Prod.mk.injEq] at H
  obtain ⟨rfl, rfl, rfl, rfl⟩ := H
  go_enter Try.func10, Try.ntmps10
  go_wp2_with (first | ((with_reducible refine gate_dst (N := 2) rfl ?_); refine be #[.int .i64 a0_0, .int .i64 a0_1, .int .i64 a0_2] 27 ?_; intro gb405 hg w53 hbox hb; have BK405 := Aside0.mk hbox; have GW405 := zs HB hg; have GE405 := zs HB hg; replace HB := zB HB hb; clear hb hbox hg) | ((with_reducible refine gate_dst (N := 3) rfl ?_); refine be #[.int .i64 a1_0, .int .i64 a1_1, .int .i64 a1_2] 27 ?_; intro gb406 hg w54 hbox hb; have BK406 := Aside0.mk hbox; have GW406 := zs HB hg; have GE406 := zs HB hg; have NB405_406 := zn BK405 hg; have NB406_405 := zm BK405 hg; replace BK405 := zb BK405 hb; replace HB := zB HB hb; clear hb hbox hg) | ((with_reducible refine gate_dst (N := 4) rfl ?_); refine be #[.int .i64 0, .int .i64 0, .int .i64 0] 27 ?_; intro gb407 hg w55 hbox hb; have BK407 := Aside0.mk hbox; have GW407 := zs HB hg; have GE407 := zs HB hg; have NB405_407 := zn BK405 hg; have NB407_405 := zm BK405 hg; have NB406_407 := zn BK406 hg; have NB407_406 := zm BK406 hg; replace BK405 := zb BK405 hb; replace BK406 := zb BK406 hb; replace HB := zB HB hb; clear hb hbox hg; have hnb56 := NB405_406.1; have hnc56 := NB406_405.1; have hnb57 := NB405_407.1; have hnc57 := NB407_405.1; obtain ⟨hcz58_0, hcz58_1, hcz58_2, hfz58_0, hfz58_1, hfz58_2⟩ := zc3 BK405; have hnb59 := NB406_407.1; have hnc59 := NB407_406.1; obtain ⟨hcz60_0, hcz60_1, hcz60_2, hfz60_0, hfz60_1, hfz60_2⟩ := zc3 BK406) | ((with_reducible refine gate_dst (N := 9) rfl ?_); refine Kd.R_lit k27 _ 27 ?hg (N := 9) ?hd (xs := ([(⟨(⟨a0_0, a0_1⟩ : S25), a0_2⟩ : S27), (⟨(⟨a1_0, a1_1⟩ : S25), a1_2⟩ : S27)] : List (S27))) (inner := [.int .i64 a0_0, .int .i64 a0_1, .int .i64 a0_2, .int .i64 a1_0, .int .i64 a1_1, .int .i64 a1_2]) (ok := fun _ => True) (okp := fun _ => True) ?hr ?hp (fun _ hk => hk) trivial (Below.refl _ _) (Nat.le_refl _) (by simp) ?_; (case hd => rfl); (case hg => rfl); (case hr => first | (go_simp; done) | (go_simp; rfl)); (case hp => exact (Reps.c3 (show Kd.M k27 _ _ _ (⟨(⟨a0_0, a0_1⟩ : S25), a0_2⟩ : S27) [.int .i64 a0_0, .int .i64 a0_1, .int .i64 a0_2] from (k27_mkM _ _ _ (⟨(⟨a0_0, a0_1⟩ : S25), a0_2⟩ : S27) )) (Reps.c3 (show Kd.M k27 _ _ _ (⟨(⟨a1_0, a1_1⟩ : S25), a1_2⟩ : S27) [.int .i64 a1_0, .int .i64 a1_1, .int .i64 a1_2] from (k27_mkM _ _ _ (⟨(⟨a1_0, a1_1⟩ : S25), a1_2⟩ : S27) )) (Reps.none _ _)))); intro v409 w61 ho62 hb hg_ hnew_; clear hg_ hnew_; (first | rw [← Ny408.1] at ho62 | (simp only [Int.reduceToNat] at ho62; rw [← Ny408.1] at ho62)); have HO410 := Aside0.mk (Kd.R_lower (Kd.R_newB (Kd.R_newB (Kd.R_newB ho62 (g := gb405) (o := .cells #[.int .i64 a0_0, .int .i64 a0_1, .int .i64 a0_2] 27 (0, 0)) (bk BK405)) (g := gb406) (o := .cells #[.int .i64 a1_0, .int .i64 a1_1, .int .i64 a1_2] 27 (0, 0)) (bk BK406)) (g := gb407) (o := .cells #[.int .i64 0, .int .i64 0, .int .i64 0] 27 (0, 0)) (bk BK407)) (below_size (bq HB))); replace BK405 := zb BK405 hb; replace BK406 := zb BK406 hb; replace BK407 := zb BK407 hb; replace HB := zB HB hb; clear hb ho62; obtain ⟨Ao63, co63, eo63⟩ := Kd.R_slice HO410.1; subst eo63) | ((with_reducible refine gate_callee (f := 34) rfl ?_); refine gl (some 10) Try.func34 #[.slice Ao63 y408.length co63] ?_; (with_reducible refine (impl_areHands.calls _ _ y408 false _ ?side1 ?side2 A3.1).mono ?_); (case side1 => repeat (first | exact (Kd.R_reads' HO410.1).2.2 | (with_reducible refine Kd.C_alloc ?_ _) | (with_reducible refine Kd.C_drewN ?_ _) | (with_reducible refine Kd.C_drew ?_))); (case side2 => exact (Kd.R_reads' HO410.1).2.1); rintro e w64 ⟨rfl, hb⟩; refine ⟨_, rfl, ?_⟩; replace HO410 := rB HO410 hb; replace BK405 := zb BK405 hb; replace BK406 := zb BK406 hb; replace BK407 := zb BK407 hb; replace HB := zB HB hb; clear hb; obtain ⟨hcz65_0, hcz65_1, hcz65_2, hfz65_0, hfz65_1, hfz65_2⟩ := zc3 BK407))
  refine bodyPost_ret (results_ct rfl _ _ gb407 27 #[.int .i64 0, .int .i64 0, .int .i64 0] (0, 0) _ rfl (bk BK407) Try.underlying27 rfl (by kernel_rfl)) rfl ?_
  exact ⟨er, bq HB⟩

end Go.Proofs.Ytoneipoioiokcab.PFnHandsAhead
