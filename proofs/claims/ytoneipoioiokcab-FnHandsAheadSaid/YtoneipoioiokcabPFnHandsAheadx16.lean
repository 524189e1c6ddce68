/- A part of the walk of FnHandsAhead: which Lean function each Go function comes to, and that the machine's call does so. Written by a program of this repo (wip/gen/xprint.py). -/
import Derived.Test.YtoneipoioiokcabPFnHandsAheadx0
import Derived.Test.YtoneipoioiokcabPFnHandsAheadx6
import Derived.Test.YtoneipoioiokcabPFnHandsAheadx7
import Derived.Test.YtoneipoioiokcabPFnHandsAheadx8
import Derived.Test.YtoneipoioiokcabPFnHandsAheadx12
import Derived.Test.YtoneipoioiokcabPFnHandsAheadx14
import Derived.Test.YtoneipoioiokcabPFnHandsAheadx15
namespace Go.Proofs.Ytoneipoioiokcab.PFnHandsAhead
open Go.RowKit Go.Proofs.YtoneipoioiokcabW.PrintWords Go.Proofs.YtoneipoioiokcabW.PrintLast Go.Proofs.YtoneipoioiokcabW.PrintMore
attribute [local go_sem] max2_int min2_int max_two min_two max_three min_three max_four min_four   -- for this text's walks alone
set_option linter.unusedVariables false
set_option linter.unusedSimpArgs false

/-! ### impl_AheadAt: function 8 -/
def impl_AheadAt.j0 : Nat → Bool → Int → Int → Int → Int → Int → Int → Int → Int → Option (Int × Int × Bool)
  | 0, _, _, _, _, _, _, _, _, _ => none
  | k + 1, x17, x371000, x371001, x371002, x372000, x372001, x372002, x373000, x373001 => if x17 = true then (some (0, 0, false)) else ((impl_relative.f k x371000 x371001 x371002 x372000 x372001 x372002).bind fun bt379 => ((impl_Hand_at.f k bt379.1 bt379.2.1 bt379.2.2 x373000 x373001).bind fun bt382 => ((impl_ifTurn.f k bt382.1 bt382.2).bind fun bt384 => (some (bt384.1, bt384.2.1, bt384.2.2)))))
def impl_AheadAt.f (k : Nat) (a0_0 : Int) (a0_1 : Int) (a0_2 : Int) (a1_0 : Int) (a1_1 : Int) (a1_2 : Int) (a2_0 : Int) (a2_1 : Int) : Option (Int × Int × Bool) := (impl_areHands.f (([(⟨(⟨a0_0, a0_1⟩ : S25), a0_2⟩ : S27), (⟨(⟨a1_0, a1_1⟩ : S25), a1_2⟩ : S27)] : List (S27)))).bind fun t377 => (if t377 = true then ((impl_IsTurn.f k a2_0 a2_1).bind fun t378 => (impl_AheadAt.j0 k (!t378) a0_0 a0_1 a0_2 a1_0 a1_1 a1_2 a2_0 a2_1)) else (impl_AheadAt.j0 k true a0_0 a0_1 a0_2 a1_0 a1_1 a1_2 a2_0 a2_1))
theorem impl_AheadAt.mono_l : ∀ k, (∀ y0 y1 y2 y3 y4 y5 y6 y7 y8, LeO (impl_AheadAt.j0 k y0 y1 y2 y3 y4 y5 y6 y7 y8) (impl_AheadAt.j0 (k + 1) y0 y1 y2 y3 y4 y5 y6 y7 y8))
  | 0 => fun _ _ _ _ _ _ _ _ _ r h => by simp [impl_AheadAt.j0] at h
  | k + 1 => by
    have ih0 := impl_AheadAt.mono_l k
    intro y0 y1 y2 y3 y4 y5 y6 y7 y8
    unfold impl_AheadAt.j0
    repeat' first
    | (with_reducible exact ih0 _ _ _ _ _ _ _ _ _)
    | (with_reducible exact impl_Hand_at.mono _ _ _ _ _ _)
    | (with_reducible exact impl_IsTurn.mono _ _ _)
    | (with_reducible exact impl_ifTurn.mono _ _ _)
    | (with_reducible exact impl_relative.mono _ _ _ _ _ _ _)
    | (with_reducible exact LeO.refl _)
    | (with_reducible exact LeO.none _)
    | (with_reducible refine LeO.ite ?_ ?_)
    | (with_reducible refine LeO.bind ?_ (fun _ => ?_))
    | exact ih0 _ _ _ _ _ _ _ _ _
    | exact impl_Hand_at.mono _ _ _ _ _ _
    | exact impl_IsTurn.mono _ _ _
    | exact impl_ifTurn.mono _ _ _
    | exact impl_relative.mono _ _ _ _ _ _ _
    | exact LeO.none _
    | refine LeO.ite ?_ ?_
    | refine LeO.bind ?_ (fun _ => ?_)
theorem impl_AheadAt.mono : ∀ a0 a1 a2 a3 a4 a5 a6 a7 k, LeO (impl_AheadAt.f k a0 a1 a2 a3 a4 a5 a6 a7) (impl_AheadAt.f (k + 1) a0 a1 a2 a3 a4 a5 a6 a7) := by
  intro a0 a1 a2 a3 a4 a5 a6 a7 k
  have ih0 := impl_AheadAt.mono_l k
  unfold impl_AheadAt.f
  repeat' first
      | (with_reducible exact ih0 _ _ _ _ _ _ _ _ _)
      | (with_reducible exact impl_Hand_at.mono _ _ _ _ _ _)
      | (with_reducible exact impl_IsTurn.mono _ _ _)
      | (with_reducible exact impl_ifTurn.mono _ _ _)
      | (with_reducible exact impl_relative.mono _ _ _ _ _ _ _)
      | (with_reducible exact LeO.refl _)
      | (with_reducible exact LeO.none _)
      | (with_reducible refine LeO.ite ?_ ?_)
      | (with_reducible refine LeO.bind ?_ (fun _ => ?_))
      | exact ih0 _ _ _ _ _ _ _ _ _
      | exact impl_Hand_at.mono _ _ _ _ _ _
      | exact impl_IsTurn.mono _ _ _
      | exact impl_ifTurn.mono _ _ _
      | exact impl_relative.mono _ _ _ _ _ _ _
      | exact LeO.none _
      | refine LeO.ite ?_ ?_
      | refine LeO.bind ?_ (fun _ => ?_)
def impl_AheadAt.T3 : Bool × List (List Nat × List Nat) := (true, [([], []), ([], []), ([0, 1], [0, 1]), ([], []), ([2, 3, 2], [2, 3]), ([4, 4], [4]), ([5], [5]), ([5], [5]), ([6, 5, 0, 1, 2, 3, 4, 5, 6, 7], [6]), ([7, 8, 0, 1, 2, 3, 4, 5, 6, 7, 8], [7])])
def impl_AheadAt.B3 : List Nat := [0, 0, 3, 0, 15, 31, 63, 63, 255, 511]
theorem impl_AheadAt.tab3 : rtab .any (opsOf Try.f8 3) = impl_AheadAt.T3 := by kernel_rfl
theorem impl_AheadAt.bits3 : waitsOk impl_AheadAt.T3.2 impl_AheadAt.B3 = true := by kernel_rfl
set_option maxHeartbeats 8000000 in
set_option maxRecDepth 100000 in
theorem impl_AheadAt.calls (k : Nat) (a0_0 : Int) (a0_1 : Int) (a0_2 : Int) (a1_0 : Int) (a1_1 : Int) (a1_2 : Int) (a2_0 : Int) (a2_1 : Int) (r1 : Int) (r2 : Int) (r3 : Bool) (w : World) (h : impl_AheadAt.f k a0_0 a0_1 a0_2 a1_0 a1_1 a1_2 a2_0 a2_1 = some (r1, r2, r3)) :
    Calls Try.prog 8 #[.agg #[.int .i64 a0_0, .int .i64 a0_1, .int .i64 a0_2], .agg #[.int .i64 a1_0, .int .i64 a1_1, .int .i64 a1_2], .agg #[.int .i64 a2_0, .int .i64 a2_1]] w fun e w' => e = .returned (.tuple #[.agg #[.int .i64 r1, .int .i64 r2], .bool r3]) ∧ Below w.heap.size w w' := by
  have hu27 := Try.underlying27
  have hu25 := Try.underlying25
  have HB := Aside0.mk (Below.refl w.heap.size w)
  have H : ((impl_areHands.f (([(⟨(⟨a0_0, a0_1⟩ : S25), a0_2⟩ : S27), (⟨(⟨a1_0, a1_1⟩ : S25), a1_2⟩ : S27)] : List (S27)))).bind fun t377 => (if t377 = true then ((impl_IsTurn.f k a2_0 a2_1).bind fun t378 => (impl_AheadAt.j0 k (!t378) a0_0 a0_1 a0_2 a1_0 a1_1 a1_2 a2_0 a2_1)) else (impl_AheadAt.j0 k true a0_0 a0_1 a0_2 a1_0 a1_1 a1_2 a2_0 a2_1))) = some (r1, r2, r3) := h
  clear h
  have HC4 := Aside0.mk H
  clear H
  go_enter Try.func8, Try.ntmps8
  go_upto_region 1 with (first | ((with_reducible refine gate_dst (N := 3) rfl ?_); refine be #[.int .i64 a0_0, .int .i64 a0_1, .int .i64 a0_2] 27 ?_; intro gb370 hg w5 hbox hb; have BK370 := Aside0.mk hbox; have GW370 := zs HB hg; have GE370 := zs HB hg; replace HB := zB HB hb; clear hb hbox hg) | ((with_reducible refine gate_dst (N := 4) rfl ?_); refine be #[.int .i64 a1_0, .int .i64 a1_1, .int .i64 a1_2] 27 ?_; intro gb371 hg w6 hbox hb; have BK371 := Aside0.mk hbox; have GW371 := zs HB hg; have GE371 := zs HB hg; have NB370_371 := zn BK370 hg; have NB371_370 := zm BK370 hg; replace BK370 := zb BK370 hb; replace HB := zB HB hb; clear hb hbox hg) | ((with_reducible refine gate_dst (N := 5) rfl ?_); refine be #[.int .i64 a2_0, .int .i64 a2_1] 25 ?_; intro gb372 hg w7 hbox hb; have BK372 := Aside0.mk hbox; have GW372 := zs HB hg; have GE372 := zs HB hg; have NB370_372 := zn BK370 hg; have NB372_370 := zm BK370 hg; have NB371_372 := zn BK371 hg; have NB372_371 := zm BK371 hg; replace BK370 := zb BK370 hb; replace BK371 := zb BK371 hb; replace HB := zB HB hb; clear hb hbox hg) | ((with_reducible refine gate_dst (N := 6) rfl ?_); refine be #[.int .i64 0, .int .i64 0] 25 ?_; intro gb373 hg w8 hbox hb; have BK373 := Aside0.mk hbox; have GW373 := zs HB hg; have GE373 := zs HB hg; have NB370_373 := zn BK370 hg; have NB373_370 := zm BK370 hg; have NB371_373 := zn BK371 hg; have NB373_371 := zm BK371 hg; have NB372_373 := zn BK372 hg; have NB373_372 := zm BK372 hg; replace BK370 := zb BK370 hb; replace BK371 := zb BK371 hb; replace BK372 := zb BK372 hb; replace HB := zB HB hb; clear hb hbox hg))
  (try simp only [Act.put, List.setIfInBounds_toArray, List.set_cons_zero, List.set_cons_succ])
  go_cut [17] (fun v17 wc => ∃ (kq : Nat) (x17_3 : Bool), v17 = .bool x17_3 ∧ Aside0 (impl_AheadAt.j0 kq x17_3 a0_0 a0_1 a0_2 a1_0 a1_1 a1_2 a2_0 a2_1 = some (r1, r2, r3)) ∧ Aside0 (kq ≤ k) ∧ Aside0 (wc.heap[gb370]? = some (.cells #[.int .i64 a0_0, .int .i64 a0_1, .int .i64 a0_2] 27 (0, 0))) ∧ Aside0 (wc.heap[gb371]? = some (.cells #[.int .i64 a1_0, .int .i64 a1_1, .int .i64 a1_2] 27 (0, 0))) ∧ Aside0 (wc.heap[gb372]? = some (.cells #[.int .i64 a2_0, .int .i64 a2_1] 25 (0, 0))) ∧ Aside0 (wc.heap[gb373]? = some (.cells #[.int .i64 0, .int .i64 0] 25 (0, 0))) ∧ Aside0 (Below w.heap.size w wc))
  case first =>
    have H := HC4.1
    clear HC4
    obtain ⟨y374, hy374⟩ : ∃ y_ : List (S27), y_ = (([(⟨(⟨a0_0, a0_1⟩ : S25), a0_2⟩ : S27), (⟨(⟨a1_0, a1_1⟩ : S25), a1_2⟩ : S27)] : List (S27))) := ⟨_, rfl⟩
    replace H : ((impl_areHands.f y374).bind fun t377 => (if t377 = true then ((impl_IsTurn.f k a2_0 a2_1).bind fun t378 => (impl_AheadAt.j0 k (!t378) a0_0 a0_1 a0_2 a1_0 a1_1 a1_2 a2_0 a2_1)) else (impl_AheadAt.j0 k true a0_0 a0_1 a0_2 a1_0 a1_1 a1_2 a2_0 a2_1))) = some (r1, r2, r3) := by first | (rw [hy374]; with_reducible exact H) | (have H2_ := (Option.bind_some _ _).symm.trans H; rw [hy374]; with_reducible exact H2_) | (have H2_ := (Option.bind_some _ _).symm.trans H; with_reducible exact H2_) | with_reducible exact H | (rw [hy374]; exact H) | exact H
    have Ny374 := Aside0.mk hy374
    clear hy374
    replace H := Option.bind_eq_some_iff.mp H
    obtain ⟨t377, A90, H⟩ := H
    (try dsimp only at H)
    have A9 := Aside0.mk A90
    clear A90
    by_cases c10 : t377 = true
    · subst c10
      rw [if_pos rfl] at H
      replace H := Option.bind_eq_some_iff.mp H
      obtain ⟨t378, A110, H⟩ := H
      (try dsimp only at H)
      have A11 := Aside0.mk A110
      clear A110
      have H' := Aside0.mk H
      clear H
      have hnb12 := NB370_371.1
      have hnc12 := NB371_370.1
      have hnb13 := NB370_372.1
      have hnc13 := NB372_370.1
      have hnb14 := NB370_373.1
      have hnc14 := NB373_370.1
      obtain ⟨hcz15_0, hcz15_1, hcz15_2, hfz15_0, hfz15_1, hfz15_2⟩ := zc3 BK370
      have hnb16 := NB371_372.1
      have hnc16 := NB372_371.1
      have hnb17 := NB371_373.1
      have hnc17 := NB373_371.1
      obtain ⟨hcz18_0, hcz18_1, hcz18_2, hfz18_0, hfz18_1, hfz18_2⟩ := zc3 BK371
      go_wp2_with (first | ((with_reducible refine gate_dst (N := 10) rfl ?_); refine Kd.R_lit k27 _ 27 ?hg (N := 10) ?hd (xs := ([(⟨(⟨a0_0, a0_1⟩ : S25), a0_2⟩ : S27), (⟨(⟨a1_0, a1_1⟩ : S25), a1_2⟩ : S27)] : List (S27))) (inner := [.int .i64 a0_0, .int .i64 a0_1, .int .i64 a0_2, .int .i64 a1_0, .int .i64 a1_1, .int .i64 a1_2]) (ok := fun _ => True) (okp := fun _ => True) ?hr ?hp (fun _ hk => hk) trivial (Below.refl _ _) (Nat.le_refl _) (by simp) ?_; (case hd => rfl); (case hg => rfl); (case hr => first | (go_simp; done) | (go_simp; rfl)); (case hp => exact (Reps.c3 (show Kd.M k27 _ _ _ (⟨(⟨a0_0, a0_1⟩ : S25), a0_2⟩ : S27) [.int .i64 a0_0, .int .i64 a0_1, .int .i64 a0_2] from (k27_mkM _ _ _ (⟨(⟨a0_0, a0_1⟩ : S25), a0_2⟩ : S27) )) (Reps.c3 (show Kd.M k27 _ _ _ (⟨(⟨a1_0, a1_1⟩ : S25), a1_2⟩ : S27) [.int .i64 a1_0, .int .i64 a1_1, .int .i64 a1_2] from (k27_mkM _ _ _ (⟨(⟨a1_0, a1_1⟩ : S25), a1_2⟩ : S27) )) (Reps.none _ _)))); intro v375 w19 ho20 hb hg_ hnew_; clear hg_ hnew_; (first | rw [← Ny374.1] at ho20 | (simp only [Int.reduceToNat] at ho20; rw [← Ny374.1] at ho20)); have HO376 := Aside0.mk (Kd.R_lower (Kd.R_newB (Kd.R_newB ho20 (g := gb370) (o := .cells #[.int .i64 a0_0, .int .i64 a0_1, .int .i64 a0_2] 27 (0, 0)) (bk BK370)) (g := gb371) (o := .cells #[.int .i64 a1_0, .int .i64 a1_1, .int .i64 a1_2] 27 (0, 0)) (bk BK371)) (below_size (bq HB))); replace BK370 := zb BK370 hb; replace BK371 := zb BK371 hb; replace BK372 := zb BK372 hb; replace BK373 := zb BK373 hb; replace HB := zB HB hb; clear hb ho20; obtain ⟨Ao21, co21, eo21⟩ := Kd.R_slice HO376.1; subst eo21) | ((with_reducible refine gate_callee (f := 34) rfl ?_); refine gl (some 11) Try.func34 #[.slice Ao21 y374.length co21] ?_; (with_reducible refine (impl_areHands.calls _ _ y374 true _ ?side1 ?side2 A9.1).mono ?_); (case side1 => repeat (first | exact (Kd.R_reads' HO376.1).2.2 | (with_reducible refine Kd.C_alloc ?_ _) | (with_reducible refine Kd.C_drewN ?_ _) | (with_reducible refine Kd.C_drew ?_))); (case side2 => exact (Kd.R_reads' HO376.1).2.1); rintro e w22 ⟨rfl, hb⟩; refine ⟨_, rfl, ?_⟩; replace HO376 := rB HO376 hb; replace BK370 := zb BK370 hb; replace BK371 := zb BK371 hb; replace BK372 := zb BK372 hb; replace BK373 := zb BK373 hb; replace HB := zB HB hb; clear hb; have hnb23 := NB372_373.1; have hnc23 := NB373_372.1; obtain ⟨hcz24_0, hcz24_1, hfz24_0, hfz24_1⟩ := zc2 BK372) | (go_at_call 35; (with_reducible refine (impl_IsTurn.calls k a2_0 a2_1 t378 _ A11.1).mono ?_); rintro e w25 ⟨rfl, hb⟩; replace HO376 := rB HO376 hb; replace BK370 := zb BK370 hb; replace BK371 := zb BK371 hb; replace BK372 := zb BK372 hb; replace BK373 := zb BK373 hb; replace HB := zB HB hb; clear hb))
      go_meet
      case rel => exact ⟨_, (!t378), ew, H', le_, ⟨bk BK370⟩, ⟨bk BK371⟩, ⟨bk BK372⟩, ⟨bk BK373⟩, ⟨bq HB⟩⟩
    replace c10 := Bool.eq_false_iff.mpr c10
    subst c10
    rw [if_neg (show ¬ (false = true) by decide)] at H
    have H' := Aside0.mk H
    clear H
    have hnb26 := NB370_371.1
    have hnc26 := NB371_370.1
    have hnb27 := NB370_372.1
    have hnc27 := NB372_370.1
    have hnb28 := NB370_373.1
    have hnc28 := NB373_370.1
    obtain ⟨hcz29_0, hcz29_1, hcz29_2, hfz29_0, hfz29_1, hfz29_2⟩ := zc3 BK370
    have hnb30 := NB371_372.1
    have hnc30 := NB372_371.1
    have hnb31 := NB371_373.1
    have hnc31 := NB373_371.1
    obtain ⟨hcz32_0, hcz32_1, hcz32_2, hfz32_0, hfz32_1, hfz32_2⟩ := zc3 BK371
    go_wp2_with (first | ((with_reducible refine gate_dst (N := 10) rfl ?_); refine Kd.R_lit k27 _ 27 ?hg (N := 10) ?hd (xs := ([(⟨(⟨a0_0, a0_1⟩ : S25), a0_2⟩ : S27), (⟨(⟨a1_0, a1_1⟩ : S25), a1_2⟩ : S27)] : List (S27))) (inner := [.int .i64 a0_0, .int .i64 a0_1, .int .i64 a0_2, .int .i64 a1_0, .int .i64 a1_1, .int .i64 a1_2]) (ok := fun _ => True) (okp := fun _ => True) ?hr ?hp (fun _ hk => hk) trivial (Below.refl _ _) (Nat.le_refl _) (by simp) ?_; (case hd => rfl); (case hg => rfl); (case hr => first | (go_simp; done) | (go_simp; rfl)); (case hp => exact (Reps.c3 (show Kd.M k27 _ _ _ (⟨(⟨a0_0, a0_1⟩ : S25), a0_2⟩ : S27) [.int .i64 a0_0, .int .i64 a0_1, .int .i64 a0_2] from (k27_mkM _ _ _ (⟨(⟨a0_0, a0_1⟩ : S25), a0_2⟩ : S27) )) (Reps.c3 (show Kd.M k27 _ _ _ (⟨(⟨a1_0, a1_1⟩ : S25), a1_2⟩ : S27) [.int .i64 a1_0, .int .i64 a1_1, .int .i64 a1_2] from (k27_mkM _ _ _ (⟨(⟨a1_0, a1_1⟩ : S25), a1_2⟩ : S27) )) (Reps.none _ _)))); intro v375 w33 ho34 hb hg_ hnew_; clear hg_ hnew_; (first | rw [← Ny374.1] at ho34 | (simp only [Int.reduceToNat] at ho34; rw [← Ny374.1] at ho34)); have HO376 := Aside0.mk (Kd.R_lower (Kd.R_newB (Kd.R_newB ho34 (g := gb370) (o := .cells #[.int .i64 a0_0, .int .i64 a0_1, .int .i64 a0_2] 27 (0, 0)) (bk BK370)) (g := gb371) (o := .cells #[.int .i64 a1_0, .int .i64 a1_1, .int .i64 a1_2] 27 (0, 0)) (bk BK371)) (below_size (bq HB))); replace BK370 := zb BK370 hb; replace BK371 := zb BK371 hb; replace BK372 := zb BK372 hb; replace BK373 := zb BK373 hb; replace HB := zB HB hb; clear hb ho34; obtain ⟨Ao35, co35, eo35⟩ := Kd.R_slice HO376.1; subst eo35) | ((with_reducible refine gate_callee (f := 34) rfl ?_); refine gl (some 11) Try.func34 #[.slice Ao35 y374.length co35] ?_; (with_reducible refine (impl_areHands.calls _ _ y374 false _ ?side1 ?side2 A9.1).mono ?_); (case side1 => repeat (first | exact (Kd.R_reads' HO376.1).2.2 | (with_reducible refine Kd.C_alloc ?_ _) | (with_reducible refine Kd.C_drewN ?_ _) | (with_reducible refine Kd.C_drew ?_))); (case side2 => exact (Kd.R_reads' HO376.1).2.1); rintro e w36 ⟨rfl, hb⟩; refine ⟨_, rfl, ?_⟩; replace HO376 := rB HO376 hb; replace BK370 := zb BK370 hb; replace BK371 := zb BK371 hb; replace BK372 := zb BK372 hb; replace BK373 := zb BK373 hb; replace HB := zB HB hb; clear hb))
    go_meet
    case rel => exact ⟨_, (true), ew, H', le_, ⟨bk BK370⟩, ⟨bk BK371⟩, ⟨bk BK372⟩, ⟨bk BK373⟩, ⟨bq HB⟩⟩
  clear HC4
  obtain ⟨kq, x17_3, rfl, HA, HJ3, BK370, BK371, BK372, BK373, HB⟩ := hcut
  cases kq with
  | zero => exact absurd HA.1 (by simp [impl_AheadAt.j0])
  | succ kj3 =>
    have H := HA.1
    clear HA
    simp only [impl_AheadAt.j0] at H
    by_cases c37 : x17_3 = true
    · subst c37
      rw [if_pos rfl] at H
      simp only [Option.some.injEq, Prod.mk.injEq] at H
      obtain ⟨rfl, rfl, rfl⟩ := H
      have hnb38 := NB373_370.1
      have hnc38 := NB370_373.1
      have hnb39 := NB373_371.1
      have hnc39 := NB371_373.1
      have hnb40 := NB373_372.1
      have hnc40 := NB372_373.1
      obtain ⟨hcz41_0, hcz41_1, hfz41_0, hfz41_1⟩ := zc2 BK373
      go_wp2
      refine bodyPost_ret (results_ct rfl _ _ gb373 25 #[.int .i64 0, .int .i64 0] (0, 0) _ rfl (bk BK373) Try.underlying25 rfl (by kernel_rfl)) rfl ?_
      exact ⟨er, bq HB⟩
    replace c37 := Bool.eq_false_iff.mpr c37
    subst c37
    rw [if_neg (show ¬ (false = true) by decide)] at H
    replace H := Option.bind_eq_some_iff.mp H
    obtain ⟨⟨t379, t380, t381⟩, A420, H⟩ := H
    (try dsimp only at H)
    have A42 := Aside0.mk A420
    clear A420
    replace H := Option.bind_eq_some_iff.mp H
    obtain ⟨⟨t382, t383⟩, A430, H⟩ := H
    (try dsimp only at H)
    have A43 := Aside0.mk A430
    clear A430
    replace H := Option.bind_eq_some_iff.mp H
    obtain ⟨⟨t384, t385, t386⟩, A440, H⟩ := H
    (try dsimp only at H)
    have A44 := Aside0.mk A440
    clear A440
    simp only [Option.some.injEq, Prod.mk.injEq] at H
    obtain ⟨rfl, rfl, rfl⟩ := H
    try go_wp2
    replace BK370 := Aside0.mk (blk_drew BK370.1)
    replace BK371 := Aside0.mk (blk_drew BK371.1)
    replace BK372 := Aside0.mk (blk_drew BK372.1)
    replace BK373 := Aside0.mk (blk_drew BK373.1)
    replace HB := Aside0.mk (below_drew1 HB.1)
    refine start_ (n := 10) (S := fun w' => w'.cell? ⟨gb370, 0, none⟩ = some (.int .i64 a0_0) ∧ w'.cell? ⟨gb370, 1, none⟩ = some (.int .i64 a0_1) ∧ w'.cell? ⟨gb370, 2, none⟩ = some (.int .i64 a0_2) ∧ w'.cell? ⟨gb371, 0, none⟩ = some (.int .i64 a1_0) ∧ w'.cell? ⟨gb371, 1, none⟩ = some (.int .i64 a1_1) ∧ w'.cell? ⟨gb371, 2, none⟩ = some (.int .i64 a1_2) ∧ w'.cell? ⟨gb372, 0, none⟩ = some (.int .i64 a2_0) ∧ w'.cell? ⟨gb372, 1, none⟩ = some (.int .i64 a2_1)) (ds := []) (bs 10 0) (by kernel_rfl) rfl rfl ⟨(blk_cell BK370.1 0).trans rfl, (blk_cell BK370.1 1).trans rfl, (blk_cell BK370.1 2).trans rfl, (blk_cell BK371.1 0).trans rfl, (blk_cell BK371.1 1).trans rfl, (blk_cell BK371.1 2).trans rfl, (blk_cell BK372.1 0).trans rfl, (blk_cell BK372.1 1).trans rfl⟩ (fun hHeld => ?_); refine with_tabW impl_AheadAt.tab3 impl_AheadAt.bits3 (fun HT_ HW_ => ?_)
    generalize wc.drew = w45 at BK370 BK371 BK372 BK373 HB hHeld ⊢
    refine tk 0 19 HT_ HW_ hHeld rfl rfl (bs 10 1) ?_
    refine tk 1 20 HT_ HW_ hHeld rfl rfl (bs 10 3) ?_
    refine tk 3 22 HT_ HW_ hHeld rfl rfl (bs 10 11) ?_
    refine one_ (i := 2) (N := some 21) (bs 10 15) rfl rfl (one_of HT_.1 (by kernel_rfl)) (by decide) (fun K hK => ?_)
    refine gs Try.func37 #[.agg #[.int .i64 a0_0, .int .i64 a0_1, .int .i64 a0_2], .agg #[.int .i64 a1_0, .int .i64 a1_1, .int .i64 a1_2]] ?_
    with_reducible refine (impl_relative.calls kj3 a0_0 a0_1 a0_2 a1_0 a1_1 a1_2 t379 t380 t381 _ A42.1).mono ?_
    rintro e w46 ⟨rfl, hb⟩
    refine ⟨_, rfl, ?_⟩
    replace BK370 := zb BK370 hb
    replace BK371 := zb BK371 hb
    replace BK372 := zb BK372 hb
    replace BK373 := zb BK373 hb
    replace HB := zB HB hb
    (try clear hb)
    (try clear hb2)
    (try clear hk)
    (try clear hi)
    refine hK.out _ _ ⟨(blk_cell BK370.1 0).trans rfl, (blk_cell BK370.1 1).trans rfl, (blk_cell BK370.1 2).trans rfl, (blk_cell BK371.1 0).trans rfl, (blk_cell BK371.1 1).trans rfl, (blk_cell BK371.1 2).trans rfl, (blk_cell BK372.1 0).trans rfl, (blk_cell BK372.1 1).trans rfl⟩ (fun hHeld => ?_)
    clear hK K
    refine norm_ (aq 21) ?_
    refine one_ (i := 4) (N := some 23) (bs 10 31) rfl rfl (one_of HT_.1 (by kernel_rfl)) (by decide) (fun K hK => ?_)
    refine gs Try.func38 #[.agg #[.int .i64 t379, .int .i64 t380, .int .i64 t381], .agg #[.int .i64 a2_0, .int .i64 a2_1]] ?_
    with_reducible refine (impl_Hand_at.calls kj3 t379 t380 t381 a2_0 a2_1 t382 t383 _ A43.1).mono ?_
    rintro e w47 ⟨rfl, hb⟩
    refine ⟨_, rfl, ?_⟩
    replace BK370 := zb BK370 hb
    replace BK371 := zb BK371 hb
    replace BK372 := zb BK372 hb
    replace BK373 := zb BK373 hb
    replace HB := zB HB hb
    (try clear hb)
    (try clear hb2)
    (try clear hk)
    (try clear hi)
    refine hK.out _ _ ⟨(blk_cell BK370.1 0).trans rfl, (blk_cell BK370.1 1).trans rfl, (blk_cell BK370.1 2).trans rfl, (blk_cell BK371.1 0).trans rfl, (blk_cell BK371.1 1).trans rfl, (blk_cell BK371.1 2).trans rfl, (blk_cell BK372.1 0).trans rfl, (blk_cell BK372.1 1).trans rfl⟩ (fun hHeld => ?_)
    clear hK K
    refine norm_ (aq 23) ?_
    refine one_ (i := 5) (N := some 24) (bs 10 63) rfl rfl (one_of HT_.1 (by kernel_rfl)) (by decide) (fun K hK => ?_)
    refine gs Try.func36 #[.agg #[.int .i64 t382, .int .i64 t383]] ?_
    with_reducible refine (impl_ifTurn.calls kj3 t382 t383 t384 t385 t386 _ A44.1).mono ?_
    rintro e w48 ⟨rfl, hb⟩
    refine ⟨_, rfl, ?_⟩
    replace BK370 := zb BK370 hb
    replace BK371 := zb BK371 hb
    replace BK372 := zb BK372 hb
    replace BK373 := zb BK373 hb
    replace HB := zB HB hb
    (try clear hb)
    (try clear hb2)
    (try clear hk)
    (try clear hi)
    refine hK.out _ _ ⟨(blk_cell BK370.1 0).trans rfl, (blk_cell BK370.1 1).trans rfl, (blk_cell BK370.1 2).trans rfl, (blk_cell BK371.1 0).trans rfl, (blk_cell BK371.1 1).trans rfl, (blk_cell BK371.1 2).trans rfl, (blk_cell BK372.1 0).trans rfl, (blk_cell BK372.1 1).trans rfl⟩ (fun hHeld => ?_)
    clear hK K
    refine norm_ (aq 24) ?_
    refine pu 6 25 HT_ rfl rfl (bs 10 127) ?_
    refine pu 7 26 HT_ rfl rfl (bs 10 255) ?_
    refine one_ (i := 8) (N := none) (bs 10 511) rfl rfl (one_of HT_.1 (by kernel_rfl)) (by decide) (fun K hK => ?_)
    have hs49 : w48.cell? ⟨gb373, 0, none⟩ = some (.int .i64 0) := (blk_cell BK373.1 0).trans rfl
    have hfs49 := blk_frozen BK373.1 0
    have hns49_0 := NB370_373.1
    have hns49_1 := NB371_373.1
    have hns49_2 := NB372_373.1
    have hms49_0 := NB373_370.1
    have hms49_1 := NB373_371.1
    have hms49_2 := NB373_372.1
    have hs50 : w48.cell? ⟨gb373, 1, none⟩ = some (.int .i64 0) := (blk_cell BK373.1 1).trans rfl
    have hfs50 := blk_frozen BK373.1 1
    have hns50_0 := NB370_373.1
    have hns50_1 := NB371_373.1
    have hns50_2 := NB372_373.1
    have hms50_0 := NB373_370.1
    have hms50_1 := NB373_371.1
    have hms50_2 := NB373_372.1
    refine skip_ (w1 := ?_) (by rfl) rfl ?_ ?_
    rotate_left
    · go_simp
      rfl
    refine hK.out _ _ ⟨((cell_far (p := ⟨gb373, _, none⟩) NB370_373.1 _).trans (((cell_far (p := ⟨gb373, _, none⟩) NB370_373.1 _).trans (hHeld.1)))), ((cell_far (p := ⟨gb373, _, none⟩) NB370_373.1 _).trans (((cell_far (p := ⟨gb373, _, none⟩) NB370_373.1 _).trans (hHeld.2.1)))), ((cell_far (p := ⟨gb373, _, none⟩) NB370_373.1 _).trans (((cell_far (p := ⟨gb373, _, none⟩) NB370_373.1 _).trans (hHeld.2.2.1)))), ((cell_far (p := ⟨gb373, _, none⟩) NB371_373.1 _).trans (((cell_far (p := ⟨gb373, _, none⟩) NB371_373.1 _).trans (hHeld.2.2.2.1)))), ((cell_far (p := ⟨gb373, _, none⟩) NB371_373.1 _).trans (((cell_far (p := ⟨gb373, _, none⟩) NB371_373.1 _).trans (hHeld.2.2.2.2.1)))), ((cell_far (p := ⟨gb373, _, none⟩) NB371_373.1 _).trans (((cell_far (p := ⟨gb373, _, none⟩) NB371_373.1 _).trans (hHeld.2.2.2.2.2.1)))), ((cell_far (p := ⟨gb373, _, none⟩) NB372_373.1 _).trans (((cell_far (p := ⟨gb373, _, none⟩) NB372_373.1 _).trans (hHeld.2.2.2.2.2.2.1)))), ((cell_far (p := ⟨gb373, _, none⟩) NB372_373.1 _).trans (((cell_far (p := ⟨gb373, _, none⟩) NB372_373.1 _).trans (hHeld.2.2.2.2.2.2.2))))⟩ (fun hHeld => ?_)
    clear hK K
    refine pu 9 7 HT_ rfl rfl (bs 10 1023) ?_
    refine done_ (done_of HT_.1 (by kernel_rfl)) ?_
    try go_wp2
    refine bodyPost_ret (results_ct rfl _ _ gb373 25 #[.int .i64 t384, .int .i64 t385] (0, 0) _ rfl (bk BK373) Try.underlying25 rfl (by kernel_rfl)) rfl ?_
    exact ⟨er, bq HB⟩

/-! ### spec_meAt: function 41 -/
def spec_meAt.f (k : Nat) (a0_0 : Int) (a0_1 : Int) (a0_2 : Int) (a1_0 : Int) (a1_1 : Int) : Option (Int × Int × Bool) := (spec_diAdd.f k a0_0 a0_1 a1_0 a1_1 a0_2).bind fun bt390 => (some (bt390.1, bt390.2.1, bt390.2.2))
theorem spec_meAt.mono : ∀ a0 a1 a2 a3 a4 k, LeO (spec_meAt.f k a0 a1 a2 a3 a4) (spec_meAt.f (k + 1) a0 a1 a2 a3 a4) := by
  intro a0 a1 a2 a3 a4 k
  unfold spec_meAt.f
  repeat' first
      | (with_reducible exact spec_diAdd.mono _ _ _ _ _ _)
      | (with_reducible exact LeO.refl _)
      | (with_reducible exact LeO.none _)
      | (with_reducible refine LeO.ite ?_ ?_)
      | (with_reducible refine LeO.bind ?_ (fun _ => ?_))
      | exact spec_diAdd.mono _ _ _ _ _ _
      | exact LeO.none _
      | refine LeO.ite ?_ ?_
      | refine LeO.bind ?_ (fun _ => ?_)
set_option maxHeartbeats 8000000 in
set_option maxRecDepth 100000 in
theorem spec_meAt.calls (k : Nat) (a0_0 : Int) (a0_1 : Int) (a0_2 : Int) (a1_0 : Int) (a1_1 : Int) (r1 : Int) (r2 : Int) (r3 : Bool) (w : World) (h : spec_meAt.f k a0_0 a0_1 a0_2 a1_0 a1_1 = some (r1, r2, r3)) :
    Calls Try.prog 41 #[.agg #[.int .i64 a0_0, .int .i64 a0_1, .int .i64 a0_2], .agg #[.int .i64 a1_0, .int .i64 a1_1]] w fun e w' => e = .returned (.tuple #[.agg #[.int .i64 r1, .int .i64 r2], .bool r3]) ∧ Below w.heap.size w w' := by
  have hu27 := Try.underlying27
  have hu25 := Try.underlying25
  have HB := Aside0.mk (Below.refl w.heap.size w)
  have H : ((spec_diAdd.f k a0_0 a0_1 a1_0 a1_1 a0_2).bind fun bt390 => (some (bt390.1, bt390.2.1, bt390.2.2))) = some (r1, r2, r3) := h
  clear h
  replace H := Option.bind_eq_some_iff.mp H
  obtain ⟨⟨t390, t391, t392⟩, A30, H⟩ := H
  (try dsimp only at H)
  have A3 := Aside0.mk A30
  clear A30
  simp only [Option.some.injEq, Prod.mk.injEq] at H
  obtain ⟨rfl, rfl, rfl⟩ := H
  go_enter Try.func41, Try.ntmps41
  go_wp2_with (first | ((with_reducible refine gate_dst (N := 2) rfl ?_); refine be #[.int .i64 a0_0, .int .i64 a0_1, .int .i64 a0_2] 27 ?_; intro gb387 hg w4 hbox hb; have BK387 := Aside0.mk hbox; have GW387 := zs HB hg; have GE387 := zs HB hg; replace HB := zB HB hb; clear hb hbox hg) | ((with_reducible refine gate_dst (N := 3) rfl ?_); refine be #[.int .i64 a1_0, .int .i64 a1_1] 25 ?_; intro gb388 hg w5 hbox hb; have BK388 := Aside0.mk hbox; have GW388 := zs HB hg; have GE388 := zs HB hg; have NB387_388 := zn BK387 hg; have NB388_387 := zm BK387 hg; replace BK387 := zb BK387 hb; replace HB := zB HB hb; clear hb hbox hg) | ((with_reducible refine gate_dst (N := 4) rfl ?_); refine be #[.int .i64 0, .int .i64 0] 25 ?_; intro gb389 hg w6 hbox hb; have BK389 := Aside0.mk hbox; have GW389 := zs HB hg; have GE389 := zs HB hg; have NB387_389 := zn BK387 hg; have NB389_387 := zm BK387 hg; have NB388_389 := zn BK388 hg; have NB389_388 := zm BK388 hg; replace BK387 := zb BK387 hb; replace BK388 := zb BK388 hb; replace HB := zB HB hb; clear hb hbox hg; have hnb7 := NB387_388.1; have hnc7 := NB388_387.1; have hnb8 := NB387_389.1; have hnc8 := NB389_387.1; obtain ⟨hcz9_0, hcz9_1, hcz9_2, hfz9_0, hfz9_1, hfz9_2⟩ := zc3 BK387; have hnb10 := NB388_389.1; have hnc10 := NB389_388.1; obtain ⟨hcz11_0, hcz11_1, hfz11_0, hfz11_1⟩ := zc2 BK388) | ((with_reducible refine gate_callee (f := 51) rfl ?_); refine gl (some 11) Try.func51 #[.agg #[.int .i64 a0_0, .int .i64 a0_1], .agg #[.int .i64 a1_0, .int .i64 a1_1], .int .i64 a0_2] ?_; (with_reducible refine (spec_diAdd.calls k a0_0 a0_1 a1_0 a1_1 a0_2 t390 t391 t392 _ A3.1).mono ?_); rintro e w12 ⟨rfl, hb⟩; refine ⟨_, rfl, ?_⟩; replace BK387 := zb BK387 hb; replace BK388 := zb BK388 hb; replace BK389 := zb BK389 hb; replace HB := zB HB hb; clear hb; obtain ⟨hcz13_0, hcz13_1, hfz13_0, hfz13_1⟩ := zc2 BK389))
  refine bodyPost_ret (results_ct rfl _ _ gb389 25 #[.int .i64 t390, .int .i64 t391] (0, 0) _ rfl (bk BK389) Try.underlying25 rfl (by kernel_rfl)) rfl ?_
  exact ⟨er, bq HB⟩

end Go.Proofs.Ytoneipoioiokcab.PFnHandsAhead
