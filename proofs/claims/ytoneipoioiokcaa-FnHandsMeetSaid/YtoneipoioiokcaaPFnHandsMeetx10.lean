/- A part of the walk of FnHandsMeet: which Lean function each Go function comes to, and that the machine's call does so. Written by a program of this repo (wip/gen/xprint.py). -/
import Derived.Test.YtoneipoioiokcaaPFnHandsMeetx0
import Derived.Test.YtoneipoioiokcaaPFnHandsMeetx2
import Derived.Test.YtoneipoioiokcaaPFnHandsMeetx6
import Derived.Test.YtoneipoioiokcaaPFnHandsMeetx7
import Derived.Test.YtoneipoioiokcaaPFnHandsMeetx9
namespace Go.Proofs.Ytoneipoioiokcaa.PFnHandsMeet
open Go.RowKit Go.Proofs.YtoneipoioiokcaaW.PrintWords Go.Proofs.YtoneipoioiokcaaW.PrintLast Go.Proofs.YtoneipoioiokcaaW.PrintMore
attribute [local go_sem] max2_int min2_int max_two min_two max_three min_three max_four min_four   -- for this text's walks alone
set_option linter.unusedVariables false
set_option linter.unusedSimpArgs false

/-! ### impl_aheadTimes: function 25 -/
def impl_aheadTimes.j0 : Nat → Bool → Int → Int → Int → Int → Int → Int → Int → Int → Option ((List (S25)) × Bool)
  | 0, _, _, _, _, _, _, _, _, _ => none
  | k + 1, x19, x265000, x265001, x265002, x266000, x266001, x266002, x267000, x267001 => if x19 = true then (some (([] : List (S25)), false)) else ((impl_relative.f k x265000 x265001 x265002 x266000 x266001 x266002).bind fun bt271 => ((impl_Hand_timesAt.f k bt271.1 bt271.2.1 bt271.2.2 x267000 x267001).bind fun bt274 => (some (bt274.1, bt274.2))))
def impl_aheadTimes.f (k : Nat) (a0_0 : Int) (a0_1 : Int) (a0_2 : Int) (a1_0 : Int) (a1_1 : Int) (a1_2 : Int) (a2_0 : Int) (a2_1 : Int) : Option ((List (S25)) × Bool) := (impl_areHands.f (([(⟨(⟨a0_0, a0_1⟩ : S25), a0_2⟩ : S27), (⟨(⟨a1_0, a1_1⟩ : S25), a1_2⟩ : S27)] : List (S27)))).bind fun t270 => (if t270 = true then (impl_aheadTimes.j0 k (a0_2 == a1_2) a0_0 a0_1 a0_2 a1_0 a1_1 a1_2 a2_0 a2_1) else (impl_aheadTimes.j0 k true a0_0 a0_1 a0_2 a1_0 a1_1 a1_2 a2_0 a2_1))
theorem impl_aheadTimes.mono_l : ∀ k, (∀ y0 y1 y2 y3 y4 y5 y6 y7 y8, LeO (impl_aheadTimes.j0 k y0 y1 y2 y3 y4 y5 y6 y7 y8) (impl_aheadTimes.j0 (k + 1) y0 y1 y2 y3 y4 y5 y6 y7 y8))
  | 0 => fun _ _ _ _ _ _ _ _ _ r h => by simp [impl_aheadTimes.j0] at h
  | k + 1 => by
    have ih0 := impl_aheadTimes.mono_l k
    intro y0 y1 y2 y3 y4 y5 y6 y7 y8
    unfold impl_aheadTimes.j0
    repeat' first
    | (with_reducible exact ih0 _ _ _ _ _ _ _ _ _)
    | (with_reducible exact impl_Hand_timesAt.mono _ _ _ _ _ _)
    | (with_reducible exact impl_relative.mono _ _ _ _ _ _ _)
    | (with_reducible exact LeO.refl _)
    | (with_reducible exact LeO.none _)
    | (with_reducible refine LeO.ite ?_ ?_)
    | (with_reducible refine LeO.bind ?_ (fun _ => ?_))
    | exact ih0 _ _ _ _ _ _ _ _ _
    | exact impl_Hand_timesAt.mono _ _ _ _ _ _
    | exact impl_relative.mono _ _ _ _ _ _ _
    | exact LeO.none _
    | refine LeO.ite ?_ ?_
    | refine LeO.bind ?_ (fun _ => ?_)
theorem impl_aheadTimes.mono : ∀ a0 a1 a2 a3 a4 a5 a6 a7 k, LeO (impl_aheadTimes.f k a0 a1 a2 a3 a4 a5 a6 a7) (impl_aheadTimes.f (k + 1) a0 a1 a2 a3 a4 a5 a6 a7) := by
  intro a0 a1 a2 a3 a4 a5 a6 a7 k
  have ih0 := impl_aheadTimes.mono_l k
  unfold impl_aheadTimes.f
  repeat' first
      | (with_reducible exact ih0 _ _ _ _ _ _ _ _ _)
      | (with_reducible exact impl_Hand_timesAt.mono _ _ _ _ _ _)
      | (with_reducible exact impl_relative.mono _ _ _ _ _ _ _)
      | (with_reducible exact LeO.refl _)
      | (with_reducible exact LeO.none _)
      | (with_reducible refine LeO.ite ?_ ?_)
      | (with_reducible refine LeO.bind ?_ (fun _ => ?_))
      | exact ih0 _ _ _ _ _ _ _ _ _
      | exact impl_Hand_timesAt.mono _ _ _ _ _ _
      | exact impl_relative.mono _ _ _ _ _ _ _
      | exact LeO.none _
      | refine LeO.ite ?_ ?_
      | refine LeO.bind ?_ (fun _ => ?_)
def impl_aheadTimes.T3 : Bool × List (List Nat × List Nat) := (true, [([], []), ([], []), ([0, 1], [0, 1]), ([], []), ([2, 3, 2], [2, 3]), ([4], [4]), ([4], [4]), ([5, 4, 0, 1, 2, 3, 4, 5, 6], [5]), ([6, 7, 0, 1, 2, 3, 4, 5, 6, 7], [6])])
def impl_aheadTimes.B3 : List Nat := [0, 0, 3, 0, 15, 31, 31, 127, 255]
theorem impl_aheadTimes.tab3 : rtab .any (opsOf Try.f25 3) = impl_aheadTimes.T3 := by kernel_rfl
theorem impl_aheadTimes.bits3 : waitsOk impl_aheadTimes.T3.2 impl_aheadTimes.B3 = true := by kernel_rfl
set_option maxHeartbeats 8000000 in
set_option maxRecDepth 100000 in
theorem impl_aheadTimes.calls (k : Nat) (a0_0 : Int) (a0_1 : Int) (a0_2 : Int) (a1_0 : Int) (a1_1 : Int) (a1_2 : Int) (a2_0 : Int) (a2_1 : Int) (r1 : List (S25)) (r2 : Bool) (w : World) (h : impl_aheadTimes.f k a0_0 a0_1 a0_2 a1_0 a1_1 a1_2 a2_0 a2_1 = some (r1, r2)) :
    Calls Try.prog 25 #[.agg #[.int .i64 a0_0, .int .i64 a0_1, .int .i64 a0_2], .agg #[.int .i64 a1_0, .int .i64 a1_1, .int .i64 a1_2], .agg #[.int .i64 a2_0, .int .i64 a2_1]] w fun e w' => ∃ v0_ : Value, e = .returned (.tuple #[v0_, .bool r2]) ∧ Kd.R k25 25 w' w.heap.size (fun _ => True) v0_ r1 ∧ Below w.heap.size w w' := by
  have hu27 := Try.underlying27
  have hu25 := Try.underlying25
  have HB := Aside0.mk (Below.refl w.heap.size w)
  have H : ((impl_areHands.f (([(⟨(⟨a0_0, a0_1⟩ : S25), a0_2⟩ : S27), (⟨(⟨a1_0, a1_1⟩ : S25), a1_2⟩ : S27)] : List (S27)))).bind fun t270 => (if t270 = true then (impl_aheadTimes.j0 k (a0_2 == a1_2) a0_0 a0_1 a0_2 a1_0 a1_1 a1_2 a2_0 a2_1) else (impl_aheadTimes.j0 k true a0_0 a0_1 a0_2 a1_0 a1_1 a1_2 a2_0 a2_1))) = some (r1, r2) := h
  clear h
  have HC4 := Aside0.mk H
  clear H
  go_enter Try.func25, Try.ntmps25
  go_upto_region 1 with (first | ((with_reducible refine gate_dst (N := 3) rfl ?_); refine be #[.int .i64 a0_0, .int .i64 a0_1, .int .i64 a0_2] 27 ?_; intro gb264 hg w5 hbox hb; have BK264 := Aside0.mk hbox; have GW264 := zs HB hg; have GE264 := zs HB hg; replace HB := zB HB hb; clear hb hbox hg) | ((with_reducible refine gate_dst (N := 4) rfl ?_); refine be #[.int .i64 a1_0, .int .i64 a1_1, .int .i64 a1_2] 27 ?_; intro gb265 hg w6 hbox hb; have BK265 := Aside0.mk hbox; have GW265 := zs HB hg; have GE265 := zs HB hg; have NB264_265 := zn BK264 hg; have NB265_264 := zm BK264 hg; replace BK264 := zb BK264 hb; replace HB := zB HB hb; clear hb hbox hg) | ((with_reducible refine gate_dst (N := 5) rfl ?_); refine be #[.int .i64 a2_0, .int .i64 a2_1] 25 ?_; intro gb266 hg w7 hbox hb; have BK266 := Aside0.mk hbox; have GW266 := zs HB hg; have GE266 := zs HB hg; have NB264_266 := zn BK264 hg; have NB266_264 := zm BK264 hg; have NB265_266 := zn BK265 hg; have NB266_265 := zm BK265 hg; replace BK264 := zb BK264 hb; replace BK265 := zb BK265 hb; replace HB := zB HB hb; clear hb hbox hg))
  (try simp only [Act.put, List.setIfInBounds_toArray, List.set_cons_zero, List.set_cons_succ])
  go_cut [19] (fun v19 wc => ∃ (kq : Nat) (x19_3 : Bool), v19 = .bool x19_3 ∧ Aside0 (impl_aheadTimes.j0 kq x19_3 a0_0 a0_1 a0_2 a1_0 a1_1 a1_2 a2_0 a2_1 = some (r1, r2)) ∧ Aside0 (kq ≤ k) ∧ Aside0 (wc.heap[gb264]? = some (.cells #[.int .i64 a0_0, .int .i64 a0_1, .int .i64 a0_2] 27 (0, 0))) ∧ Aside0 (wc.heap[gb265]? = some (.cells #[.int .i64 a1_0, .int .i64 a1_1, .int .i64 a1_2] 27 (0, 0))) ∧ Aside0 (wc.heap[gb266]? = some (.cells #[.int .i64 a2_0, .int .i64 a2_1] 25 (0, 0))) ∧ Aside0 (Below w.heap.size w wc))
  case first =>
    have H := HC4.1
    clear HC4
    obtain ⟨y267, hy267⟩ : ∃ y_ : List (S27), y_ = (([(⟨(⟨a0_0, a0_1⟩ : S25), a0_2⟩ : S27), (⟨(⟨a1_0, a1_1⟩ : S25), a1_2⟩ : S27)] : List (S27))) := ⟨_, rfl⟩
    replace H : ((impl_areHands.f y267).bind fun t270 => (if t270 = true then (impl_aheadTimes.j0 k (a0_2 == a1_2) a0_0 a0_1 a0_2 a1_0 a1_1 a1_2 a2_0 a2_1) else (impl_aheadTimes.j0 k true a0_0 a0_1 a0_2 a1_0 a1_1 a1_2 a2_0 a2_1))) = some (r1, r2) := by first | (rw [hy267]; with_reducible exact H) | (have H2_ := (Option.bind_some _ _).symm.trans H; rw [hy267]; with_reducible exact H2_) | (have H2_ := (Option.bind_some _ _).symm.trans H; with_reducible exact H2_) | with_reducible exact H | (rw [hy267]; exact H) | exact H
    have Ny267 := Aside0.mk hy267
    clear hy267
    replace H := Option.bind_eq_some_iff.mp H
    obtain ⟨t270, A80, H⟩ := H
    (try dsimp only at H)
    have A8 := Aside0.mk A80
    clear A80
    by_cases c9 : t270 = true
    · subst c9
      rw [if_pos rfl] at H
      have H' := Aside0.mk H
      clear H
      have hnb10 := NB264_265.1
      have hnc10 := NB265_264.1
      have hnb11 := NB264_266.1
      have hnc11 := NB266_264.1
      obtain ⟨hcz12_0, hcz12_1, hcz12_2, hfz12_0, hfz12_1, hfz12_2⟩ := zc3 BK264
      have hnb13 := NB265_266.1
      have hnc13 := NB266_265.1
      obtain ⟨hcz14_0, hcz14_1, hcz14_2, hfz14_0, hfz14_1, hfz14_2⟩ := zc3 BK265
      go_wp2_with (first | ((with_reducible refine gate_dst (N := 10) rfl ?_); refine Kd.R_lit k27 _ 27 ?hg (N := 10) ?hd (xs := ([(⟨(⟨a0_0, a0_1⟩ : S25), a0_2⟩ : S27), (⟨(⟨a1_0, a1_1⟩ : S25), a1_2⟩ : S27)] : List (S27))) (inner := [.int .i64 a0_0, .int .i64 a0_1, .int .i64 a0_2, .int .i64 a1_0, .int .i64 a1_1, .int .i64 a1_2]) (ok := fun _ => True) (okp := fun _ => True) ?hr ?hp (fun _ hk => hk) trivial (Below.refl _ _) (Nat.le_refl _) (by simp) ?_; (case hd => rfl); (case hg => rfl); (case hr => first | (go_simp; done) | (go_simp; rfl)); (case hp => exact (Reps.c3 (show Kd.M k27 _ _ _ (⟨(⟨a0_0, a0_1⟩ : S25), a0_2⟩ : S27) [.int .i64 a0_0, .int .i64 a0_1, .int .i64 a0_2] from (k27_mkM _ _ _ (⟨(⟨a0_0, a0_1⟩ : S25), a0_2⟩ : S27) )) (Reps.c3 (show Kd.M k27 _ _ _ (⟨(⟨a1_0, a1_1⟩ : S25), a1_2⟩ : S27) [.int .i64 a1_0, .int .i64 a1_1, .int .i64 a1_2] from (k27_mkM _ _ _ (⟨(⟨a1_0, a1_1⟩ : S25), a1_2⟩ : S27) )) (Reps.none _ _)))); intro v268 w15 ho16 hb hg_ hnew_; clear hg_ hnew_; (first | rw [← Ny267.1] at ho16 | (simp only [Int.reduceToNat] at ho16; rw [← Ny267.1] at ho16)); have HO269 := Aside0.mk (Kd.R_lower (Kd.R_newB (Kd.R_newB ho16 (g := gb264) (o := .cells #[.int .i64 a0_0, .int .i64 a0_1, .int .i64 a0_2] 27 (0, 0)) (bk BK264)) (g := gb265) (o := .cells #[.int .i64 a1_0, .int .i64 a1_1, .int .i64 a1_2] 27 (0, 0)) (bk BK265)) (below_size (bq HB))); replace BK264 := zb BK264 hb; replace BK265 := zb BK265 hb; replace BK266 := zb BK266 hb; replace HB := zB HB hb; clear hb ho16; obtain ⟨Ao17, co17, eo17⟩ := Kd.R_slice HO269.1; subst eo17) | ((with_reducible refine gate_callee (f := 29) rfl ?_); refine gl (some 11) Try.func29 #[.slice Ao17 y267.length co17] ?_; (with_reducible refine (impl_areHands.calls _ _ y267 true _ ?side1 ?side2 A8.1).mono ?_); (case side1 => repeat (first | exact (Kd.R_reads' HO269.1).2.2 | (with_reducible refine Kd.C_alloc ?_ _) | (with_reducible refine Kd.C_drewN ?_ _) | (with_reducible refine Kd.C_drew ?_))); (case side2 => exact (Kd.R_reads' HO269.1).2.1); rintro e w18 ⟨rfl, hb⟩; refine ⟨_, rfl, ?_⟩; replace HO269 := rB HO269 hb; replace BK264 := zb BK264 hb; replace BK265 := zb BK265 hb; replace BK266 := zb BK266 hb; replace HB := zB HB hb; clear hb; obtain ⟨hcz19_0, hcz19_1, hcz19_2, hfz19_0, hfz19_1, hfz19_2⟩ := zc3 BK264; obtain ⟨hcz20_0, hcz20_1, hcz20_2, hfz20_0, hfz20_1, hfz20_2⟩ := zc3 BK265))
      go_meet
      case rel => exact ⟨_, ((a0_2 == a1_2)), ew, H', le_, ⟨bk BK264⟩, ⟨bk BK265⟩, ⟨bk BK266⟩, ⟨bq HB⟩⟩
    replace c9 := Bool.eq_false_iff.mpr c9
    subst c9
    rw [if_neg (show ¬ (false = true) by decide)] at H
    have H' := Aside0.mk H
    clear H
    have hnb21 := NB264_265.1
    have hnc21 := NB265_264.1
    have hnb22 := NB264_266.1
    have hnc22 := NB266_264.1
    obtain ⟨hcz23_0, hcz23_1, hcz23_2, hfz23_0, hfz23_1, hfz23_2⟩ := zc3 BK264
    have hnb24 := NB265_266.1
    have hnc24 := NB266_265.1
    obtain ⟨hcz25_0, hcz25_1, hcz25_2, hfz25_0, hfz25_1, hfz25_2⟩ := zc3 BK265
    go_wp2_with (first | ((with_reducible refine gate_dst (N := 10) rfl ?_); refine Kd.R_lit k27 _ 27 ?hg (N := 10) ?hd (xs := ([(⟨(⟨a0_0, a0_1⟩ : S25), a0_2⟩ : S27), (⟨(⟨a1_0, a1_1⟩ : S25), a1_2⟩ : S27)] : List (S27))) (inner := [.int .i64 a0_0, .int .i64 a0_1, .int .i64 a0_2, .int .i64 a1_0, .int .i64 a1_1, .int .i64 a1_2]) (ok := fun _ => True) (okp := fun _ => True) ?hr ?hp (fun _ hk => hk) trivial (Below.refl _ _) (Nat.le_refl _) (by simp) ?_; (case hd => rfl); (case hg => rfl); (case hr => first | (go_simp; done) | (go_simp; rfl)); (case hp => exact (Reps.c3 (show Kd.M k27 _ _ _ (⟨(⟨a0_0, a0_1⟩ : S25), a0_2⟩ : S27) [.int .i64 a0_0, .int .i64 a0_1, .int .i64 a0_2] from (k27_mkM _ _ _ (⟨(⟨a0_0, a0_1⟩ : S25), a0_2⟩ : S27) )) (Reps.c3 (show Kd.M k27 _ _ _ (⟨(⟨a1_0, a1_1⟩ : S25), a1_2⟩ : S27) [.int .i64 a1_0, .int .i64 a1_1, .int .i64 a1_2] from (k27_mkM _ _ _ (⟨(⟨a1_0, a1_1⟩ : S25), a1_2⟩ : S27) )) (Reps.none _ _)))); intro v268 w26 ho27 hb hg_ hnew_; clear hg_ hnew_; (first | rw [← Ny267.1] at ho27 | (simp only [Int.reduceToNat] at ho27; rw [← Ny267.1] at ho27)); have HO269 := Aside0.mk (Kd.R_lower (Kd.R_newB (Kd.R_newB ho27 (g := gb264) (o := .cells #[.int .i64 a0_0, .int .i64 a0_1, .int .i64 a0_2] 27 (0, 0)) (bk BK264)) (g := gb265) (o := .cells #[.int .i64 a1_0, .int .i64 a1_1, .int .i64 a1_2] 27 (0, 0)) (bk BK265)) (below_size (bq HB))); replace BK264 := zb BK264 hb; replace BK265 := zb BK265 hb; replace BK266 := zb BK266 hb; replace HB := zB HB hb; clear hb ho27; obtain ⟨Ao28, co28, eo28⟩ := Kd.R_slice HO269.1; subst eo28) | ((with_reducible refine gate_callee (f := 29) rfl ?_); refine gl (some 11) Try.func29 #[.slice Ao28 y267.length co28] ?_; (with_reducible refine (impl_areHands.calls _ _ y267 false _ ?side1 ?side2 A8.1).mono ?_); (case side1 => repeat (first | exact (Kd.R_reads' HO269.1).2.2 | (with_reducible refine Kd.C_alloc ?_ _) | (with_reducible refine Kd.C_drewN ?_ _) | (with_reducible refine Kd.C_drew ?_))); (case side2 => exact (Kd.R_reads' HO269.1).2.1); rintro e w29 ⟨rfl, hb⟩; refine ⟨_, rfl, ?_⟩; replace HO269 := rB HO269 hb; replace BK264 := zb BK264 hb; replace BK265 := zb BK265 hb; replace BK266 := zb BK266 hb; replace HB := zB HB hb; clear hb))
    go_meet
    case rel => exact ⟨_, (true), ew, H', le_, ⟨bk BK264⟩, ⟨bk BK265⟩, ⟨bk BK266⟩, ⟨bq HB⟩⟩
  clear HC4
  obtain ⟨kq, x19_3, rfl, HA, HJ3, BK264, BK265, BK266, HB⟩ := hcut
  cases kq with
  | zero => exact absurd HA.1 (by simp [impl_aheadTimes.j0])
  | succ kj3 =>
    have H := HA.1
    clear HA
    simp only [impl_aheadTimes.j0] at H
    by_cases c30 : x19_3 = true
    · subst c30
      rw [if_pos rfl] at H
      simp only [Option.some.injEq, Prod.mk.injEq] at H
      obtain ⟨rfl, rfl⟩ := H
      go_wp2
      go_ret2
      exact ⟨_, er, by first | exact Kd.R_nil _ _ _ _ _ | exact Kd.N_nil _ _ _ _ _ | exact Kd.V_nil _ _ _ _ _ | exact Kd.Q_nil _ _ _ _ _ | exact Kd.S_nil _ _ _ _ _, bq HB⟩
    replace c30 := Bool.eq_false_iff.mpr c30
    subst c30
    rw [if_neg (show ¬ (false = true) by decide)] at H
    replace H := Option.bind_eq_some_iff.mp H
    obtain ⟨⟨t271, t272, t273⟩, A310, H⟩ := H
    (try dsimp only at H)
    have A31 := Aside0.mk A310
    clear A310
    replace H := Option.bind_eq_some_iff.mp H
    obtain ⟨⟨t274, t277⟩, A320, H⟩ := H
    (try dsimp only at H)
    have A32 := Aside0.mk A320
    clear A320
    simp only [Option.some.injEq, Prod.mk.injEq] at H
    obtain ⟨rfl, rfl⟩ := H
    try go_wp2
    replace BK264 := Aside0.mk (blk_drew BK264.1)
    replace BK265 := Aside0.mk (blk_drew BK265.1)
    replace BK266 := Aside0.mk (blk_drew BK266.1)
    replace HB := Aside0.mk (below_drew1 HB.1)
    refine start_ (n := 9) (S := fun w' => w'.cell? ⟨gb264, 0, none⟩ = some (.int .i64 a0_0) ∧ w'.cell? ⟨gb264, 1, none⟩ = some (.int .i64 a0_1) ∧ w'.cell? ⟨gb264, 2, none⟩ = some (.int .i64 a0_2) ∧ w'.cell? ⟨gb265, 0, none⟩ = some (.int .i64 a1_0) ∧ w'.cell? ⟨gb265, 1, none⟩ = some (.int .i64 a1_1) ∧ w'.cell? ⟨gb265, 2, none⟩ = some (.int .i64 a1_2) ∧ w'.cell? ⟨gb266, 0, none⟩ = some (.int .i64 a2_0) ∧ w'.cell? ⟨gb266, 1, none⟩ = some (.int .i64 a2_1)) (ds := []) (bs 9 0) (by kernel_rfl) rfl rfl ⟨(blk_cell BK264.1 0).trans rfl, (blk_cell BK264.1 1).trans rfl, (blk_cell BK264.1 2).trans rfl, (blk_cell BK265.1 0).trans rfl, (blk_cell BK265.1 1).trans rfl, (blk_cell BK265.1 2).trans rfl, (blk_cell BK266.1 0).trans rfl, (blk_cell BK266.1 1).trans rfl⟩ (fun hHeld => ?_); refine with_tabW impl_aheadTimes.tab3 impl_aheadTimes.bits3 (fun HT_ HW_ => ?_)
    generalize wc.drew = w33 at BK264 BK265 BK266 HB hHeld ⊢
    refine tk 0 20 HT_ HW_ hHeld rfl rfl (bs 9 1) ?_
    refine tk 1 21 HT_ HW_ hHeld rfl rfl (bs 9 3) ?_
    refine tk 3 23 HT_ HW_ hHeld rfl rfl (bs 9 11) ?_
    refine one_ (i := 2) (N := some 22) (bs 9 15) rfl rfl (one_of HT_.1 (by kernel_rfl)) (by decide) (fun K hK => ?_)
    refine gs Try.func50 #[.agg #[.int .i64 a0_0, .int .i64 a0_1, .int .i64 a0_2], .agg #[.int .i64 a1_0, .int .i64 a1_1, .int .i64 a1_2]] ?_
    with_reducible refine (impl_relative.calls kj3 a0_0 a0_1 a0_2 a1_0 a1_1 a1_2 t271 t272 t273 _ A31.1).mono ?_
    rintro e w34 ⟨rfl, hb⟩
    refine ⟨_, rfl, ?_⟩
    replace BK264 := zb BK264 hb
    replace BK265 := zb BK265 hb
    replace BK266 := zb BK266 hb
    replace HB := zB HB hb
    (try clear hb)
    (try clear hb2)
    (try clear hk)
    (try clear hi)
    refine hK.out _ _ ⟨(blk_cell BK264.1 0).trans rfl, (blk_cell BK264.1 1).trans rfl, (blk_cell BK264.1 2).trans rfl, (blk_cell BK265.1 0).trans rfl, (blk_cell BK265.1 1).trans rfl, (blk_cell BK265.1 2).trans rfl, (blk_cell BK266.1 0).trans rfl, (blk_cell BK266.1 1).trans rfl⟩ (fun hHeld => ?_)
    clear hK K
    refine norm_ (aq 22) ?_
    refine one_ (i := 4) (N := some 24) (bs 9 31) rfl rfl (one_of HT_.1 (by kernel_rfl)) (by decide) (fun K hK => ?_)
    refine gs Try.func51 #[.agg #[.int .i64 t271, .int .i64 t272, .int .i64 t273], .agg #[.int .i64 a2_0, .int .i64 a2_1]] ?_
    with_reducible refine (impl_Hand_timesAt.calls kj3 t271 t272 t273 a2_0 a2_1 t274 t277 _ A32.1).mono ?_
    rintro e w35 ⟨v275, rfl, ho0, hb⟩
    refine ⟨_, rfl, ?_⟩
    have HO276 := Aside0.mk (Kd.R_lower (Kd.R_newB ho0 (g := gb266) (o := .cells #[.int .i64 a2_0, .int .i64 a2_1] 25 (0, 0)) (bk BK266)) (below_size (bq HB)))
    replace BK264 := zb BK264 hb
    replace BK265 := zb BK265 hb
    replace BK266 := zb BK266 hb
    replace HB := zB HB hb
    (try clear hb)
    (try clear hb2)
    (try clear hk)
    (try clear hi)
    (try clear ho0)
    refine hK.out _ _ ⟨(blk_cell BK264.1 0).trans rfl, (blk_cell BK264.1 1).trans rfl, (blk_cell BK264.1 2).trans rfl, (blk_cell BK265.1 0).trans rfl, (blk_cell BK265.1 1).trans rfl, (blk_cell BK265.1 2).trans rfl, (blk_cell BK266.1 0).trans rfl, (blk_cell BK266.1 1).trans rfl⟩ (fun hHeld => ?_)
    clear hK K
    refine norm_ (aq 24) ?_
    refine pu 5 25 HT_ rfl rfl (bs 9 63) ?_
    refine pu 6 26 HT_ rfl rfl (bs 9 127) ?_
    refine pu 7 6 HT_ rfl rfl (bs 9 255) ?_
    refine pu 8 7 HT_ rfl rfl (bs 9 511) ?_
    refine done_ (done_of HT_.1 (by kernel_rfl)) ?_
    try go_wp2
    go_ret2
    exact ⟨_, er, by (with_reducible repeat (first | apply Kd.R_alloc | apply Kd.R_drewN | apply Kd.R_drew)); exact Kd.R_mono HO276.1 (fun _ hk => trivial), bq HB⟩

/-! ### impl_MeetTimes: function 6 -/
def impl_MeetTimes.f (k : Nat) (a0_0 : Int) (a0_1 : Int) (a0_2 : Int) (a1_0 : Int) (a1_1 : Int) (a1_2 : Int) : Option ((List (S25)) × Bool) := (impl_aheadTimes.f k a0_0 a0_1 a0_2 a1_0 a1_1 a1_2 0 1).bind fun bt280 => (some (bt280.1, bt280.2))
theorem impl_MeetTimes.mono : ∀ a0 a1 a2 a3 a4 a5 k, LeO (impl_MeetTimes.f k a0 a1 a2 a3 a4 a5) (impl_MeetTimes.f (k + 1) a0 a1 a2 a3 a4 a5) := by
  intro a0 a1 a2 a3 a4 a5 k
  unfold impl_MeetTimes.f
  repeat' first
      | (with_reducible exact impl_aheadTimes.mono _ _ _ _ _ _ _ _ _)
      | (with_reducible exact LeO.refl _)
      | (with_reducible exact LeO.none _)
      | (with_reducible refine LeO.ite ?_ ?_)
      | (with_reducible refine LeO.bind ?_ (fun _ => ?_))
      | exact impl_aheadTimes.mono _ _ _ _ _ _ _ _ _
      | exact LeO.none _
      | refine LeO.ite ?_ ?_
      | refine LeO.bind ?_ (fun _ => ?_)
set_option maxHeartbeats 8000000 in
set_option maxRecDepth 100000 in
theorem impl_MeetTimes.calls (k : Nat) (a0_0 : Int) (a0_1 : Int) (a0_2 : Int) (a1_0 : Int) (a1_1 : Int) (a1_2 : Int) (r1 : List (S25)) (r2 : Bool) (w : World) (h : impl_MeetTimes.f k a0_0 a0_1 a0_2 a1_0 a1_1 a1_2 = some (r1, r2)) :
    Calls Try.prog 6 #[.agg #[.int .i64 a0_0, .int .i64 a0_1, .int .i64 a0_2], .agg #[.int .i64 a1_0, .int .i64 a1_1, .int .i64 a1_2]] w fun e w' => ∃ v0_ : Value, e = .returned (.tuple #[v0_, .bool r2]) ∧ Kd.R k25 25 w' w.heap.size (fun _ => True) v0_ r1 ∧ Below w.heap.size w w' := by
  have hu27 := Try.underlying27
  have hu25 := Try.underlying25
  have HB := Aside0.mk (Below.refl w.heap.size w)
  have H : ((impl_aheadTimes.f k a0_0 a0_1 a0_2 a1_0 a1_1 a1_2 0 1).bind fun bt280 => (some (bt280.1, bt280.2))) = some (r1, r2) := h
  clear h
  replace H := Option.bind_eq_some_iff.mp H
  obtain ⟨⟨t280, t283⟩, A30, H⟩ := H
  (try dsimp only at H)
  have A3 := Aside0.mk A30
  clear A30
  simp only [Option.some.injEq, Prod.mk.injEq] at H
  obtain ⟨rfl, rfl⟩ := H
  go_enter Try.func6, Try.ntmps6
  go_wp2_with (first | ((with_reducible refine gate_dst (N := 2) rfl ?_); refine be #[.int .i64 a0_0, .int .i64 a0_1, .int .i64 a0_2] 27 ?_; intro gb278 hg w4 hbox hb; have BK278 := Aside0.mk hbox; have GW278 := zs HB hg; have GE278 := zs HB hg; replace HB := zB HB hb; clear hb hbox hg) | ((with_reducible refine gate_dst (N := 3) rfl ?_); refine be #[.int .i64 a1_0, .int .i64 a1_1, .int .i64 a1_2] 27 ?_; intro gb279 hg w5 hbox hb; have BK279 := Aside0.mk hbox; have GW279 := zs HB hg; have GE279 := zs HB hg; have NB278_279 := zn BK278 hg; have NB279_278 := zm BK278 hg; replace BK278 := zb BK278 hb; replace HB := zB HB hb; clear hb hbox hg; have hnb6 := NB278_279.1; have hnc6 := NB279_278.1; obtain ⟨hcz7_0, hcz7_1, hcz7_2, hfz7_0, hfz7_1, hfz7_2⟩ := zc3 BK278; obtain ⟨hcz8_0, hcz8_1, hcz8_2, hfz8_0, hfz8_1, hfz8_2⟩ := zc3 BK279) | ((with_reducible refine gate_callee (f := 25) rfl ?_); refine gl (some 9) Try.func25 #[.agg #[.int .i64 a0_0, .int .i64 a0_1, .int .i64 a0_2], .agg #[.int .i64 a1_0, .int .i64 a1_1, .int .i64 a1_2], .agg #[.int .i64 0, .int .i64 1]] ?_; (with_reducible refine (impl_aheadTimes.calls k a0_0 a0_1 a0_2 a1_0 a1_1 a1_2 0 1 t280 t283 _ A3.1).mono ?_); rintro e w9 ⟨v281, rfl, ho0, hb⟩; refine ⟨_, rfl, ?_⟩; have HO282 := Aside0.mk (Kd.R_lower ho0 (below_size (bq HB))); replace BK278 := zb BK278 hb; replace BK279 := zb BK279 hb; replace HB := zB HB hb; (try clear hb); (try clear hb2); (try clear hk); (try clear hi); (try clear ho0)))
  go_ret2
  exact ⟨_, er, rq HO282, bq HB⟩

/-! ### spec_l1In: function 66 -/
def spec_l1In.f (a0 : Int) (a1 : Int) (a2 : Int) : Option (Bool) := if a0 ≥ a1 then (some (decide (a0 ≤ a2))) else (some false)
set_option maxHeartbeats 8000000 in
set_option maxRecDepth 100000 in
theorem spec_l1In.calls (a0 : Int) (a1 : Int) (a2 : Int) (r : Bool) (w : World) (h : spec_l1In.f a0 a1 a2 = some r) :
    Calls Try.prog 66 #[.int .i64 a0, .int .i64 a1, .int .i64 a2] w fun e w' => e = .returned (.bool r) ∧ Drawn0 w w' := by
  have H : (if a0 ≥ a1 then (some (decide (a0 ≤ a2))) else (some false)) = some r := h
  clear h
  by_cases c4 : a0 ≥ a1
  · rw [if_pos c4] at H
    have c4b0 : decide (a1 ≤ a0) = true := decide_eq_true c4
    clear c4
    obtain rfl := Option.some.inj H
    go_enter Try.func66, Try.ntmps66
    go_wp2
    go_ret
    exact ⟨by first | rfl | (simp; done) | (simp [*]; done), by repeat (first | exact Drawn0.refl _ | apply Drawn0.step)⟩
  rw [if_neg c4] at H
  have c4b0 : decide (a1 ≤ a0) = false := decide_eq_false c4
  clear c4
  obtain rfl := Option.some.inj H
  go_enter Try.func66, Try.ntmps66
  go_wp2
  go_ret
  exact ⟨by first | rfl | (simp; done) | (simp [*]; done), by repeat (first | exact Drawn0.refl _ | apply Drawn0.step)⟩

/-! ### spec_diGood: function 48 -/
def spec_diGood.f (k : Nat) (a0_0 : Int) (a0_1 : Int) : Option (Bool) := (spec_l1In.f a0_1 1 1000000).bind fun t285 => (if t285 = true then ((spec_l1In.f a0_0 0 (wrap64 (a0_1 - 1))).bind fun t286 => (if t286 = true then ((spec_diCommon.f k a0_0 a0_1).bind fun t287 => (some (t287 == 1))) else (some false))) else (some false))
theorem spec_diGood.mono : ∀ a0 a1 k, LeO (spec_diGood.f k a0 a1) (spec_diGood.f (k + 1) a0 a1) := by
  intro a0 a1 k
  unfold spec_diGood.f
  repeat' first
      | (with_reducible exact spec_diCommon.mono _ _ _)
      | (with_reducible exact LeO.refl _)
      | (with_reducible exact LeO.none _)
      | (with_reducible refine LeO.ite ?_ ?_)
      | (with_reducible refine LeO.bind ?_ (fun _ => ?_))
      | exact spec_diCommon.mono _ _ _
      | exact LeO.none _
      | refine LeO.ite ?_ ?_
      | refine LeO.bind ?_ (fun _ => ?_)
set_option maxHeartbeats 8000000 in
set_option maxRecDepth 100000 in
theorem spec_diGood.calls (k : Nat) (a0_0 : Int) (a0_1 : Int) (r : Bool) (w : World) (h : spec_diGood.f k a0_0 a0_1 = some r) :
    Calls Try.prog 48 #[.agg #[.int .i64 a0_0, .int .i64 a0_1]] w fun e w' => e = .returned (.bool r) ∧ Below w.heap.size w w' := by
  have hu25 := Try.underlying25
  have HB := Aside0.mk (Below.refl w.heap.size w)
  have H : ((spec_l1In.f a0_1 1 1000000).bind fun t285 => (if t285 = true then ((spec_l1In.f a0_0 0 (wrap64 (a0_1 - 1))).bind fun t286 => (if t286 = true then ((spec_diCommon.f k a0_0 a0_1).bind fun t287 => (some (t287 == 1))) else (some false))) else (some false))) = some r := h
  clear h
  replace H := Option.bind_eq_some_iff.mp H
  obtain ⟨t285, A20, H⟩ := H
  (try dsimp only at H)
  have A2 := Aside0.mk A20
  clear A20
  by_cases c3 : t285 = true
  · subst c3
    rw [if_pos rfl] at H
    replace H := Option.bind_eq_some_iff.mp H
    obtain ⟨t286, A40, H⟩ := H
    (try dsimp only at H)
    have A4 := Aside0.mk A40
    clear A40
    by_cases c5 : t286 = true
    · subst c5
      rw [if_pos rfl] at H
      replace H := Option.bind_eq_some_iff.mp H
      obtain ⟨t287, A60, H⟩ := H
      (try dsimp only at H)
      have A6 := Aside0.mk A60
      clear A60
      obtain rfl := Option.some.inj H
      go_enter Try.func48, Try.ntmps48
      go_wp2_with (first | ((with_reducible refine gate_dst (N := 1) rfl ?_); refine be #[.int .i64 a0_0, .int .i64 a0_1] 25 ?_; intro gb284 hg w7 hbox hb; have BK284 := Aside0.mk hbox; have GW284 := zs HB hg; have GE284 := zs HB hg; replace HB := zB HB hb; clear hb hbox hg; obtain ⟨hcz8_0, hcz8_1, hfz8_0, hfz8_1⟩ := zc2 BK284) | ((with_reducible refine gate_callee (f := 66) rfl ?_); refine gl (some 5) Try.func66 #[.int .i64 a0_1, .int .i64 1, .int .i64 1000000] ?_; (with_reducible refine (spec_l1In.calls a0_1 1 1000000 true _ A2.1).mono ?_); rintro e w' ⟨rfl, ⟨nd, rfl⟩⟩; refine ⟨_, rfl, ?_⟩) | (go_at_call 66; (with_reducible refine (spec_l1In.calls a0_0 0 (wrap64 (a0_1 - 1)) true _ A4.1).mono ?_); rintro e w' ⟨rfl, ⟨nd, rfl⟩⟩) | (go_at_call 72; (with_reducible refine (spec_diCommon.calls k a0_0 a0_1 t287 _ A6.1).mono ?_); rintro e w' ⟨rfl, ⟨nd, rfl⟩⟩))
      go_ret
      exact ⟨er, bq HB⟩
    replace c5 := Bool.eq_false_iff.mpr c5
    subst c5
    rw [if_neg (show ¬ (false = true) by decide)] at H
    obtain rfl := Option.some.inj H
    go_enter Try.func48, Try.ntmps48
    go_wp2_with (first | ((with_reducible refine gate_dst (N := 1) rfl ?_); refine be #[.int .i64 a0_0, .int .i64 a0_1] 25 ?_; intro gb284 hg w9 hbox hb; have BK284 := Aside0.mk hbox; have GW284 := zs HB hg; have GE284 := zs HB hg; replace HB := zB HB hb; clear hb hbox hg; obtain ⟨hcz10_0, hcz10_1, hfz10_0, hfz10_1⟩ := zc2 BK284) | ((with_reducible refine gate_callee (f := 66) rfl ?_); refine gl (some 5) Try.func66 #[.int .i64 a0_1, .int .i64 1, .int .i64 1000000] ?_; (with_reducible refine (spec_l1In.calls a0_1 1 1000000 true _ A2.1).mono ?_); rintro e w' ⟨rfl, ⟨nd, rfl⟩⟩; refine ⟨_, rfl, ?_⟩) | (go_at_call 66; (with_reducible refine (spec_l1In.calls a0_0 0 (wrap64 (a0_1 - 1)) false _ A4.1).mono ?_); rintro e w' ⟨rfl, ⟨nd, rfl⟩⟩))
    go_ret
    exact ⟨er, bq HB⟩
  replace c3 := Bool.eq_false_iff.mpr c3
  subst c3
  rw [if_neg (show ¬ (false = true) by decide)] at H
  obtain rfl := Option.some.inj H
  go_enter Try.func48, Try.ntmps48
  go_wp2_with (first | ((with_reducible refine gate_dst (N := 1) rfl ?_); refine be #[.int .i64 a0_0, .int .i64 a0_1] 25 ?_; intro gb284 hg w11 hbox hb; have BK284 := Aside0.mk hbox; have GW284 := zs HB hg; have GE284 := zs HB hg; replace HB := zB HB hb; clear hb hbox hg; obtain ⟨hcz12_0, hcz12_1, hfz12_0, hfz12_1⟩ := zc2 BK284) | ((with_reducible refine gate_callee (f := 66) rfl ?_); refine gl (some 5) Try.func66 #[.int .i64 a0_1, .int .i64 1, .int .i64 1000000] ?_; (with_reducible refine (spec_l1In.calls a0_1 1 1000000 false _ A2.1).mono ?_); rintro e w' ⟨rfl, ⟨nd, rfl⟩⟩; refine ⟨_, rfl, ?_⟩))
  go_ret
  exact ⟨er, bq HB⟩

end Go.Proofs.Ytoneipoioiokcaa.PFnHandsMeet
