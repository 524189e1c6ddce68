/- A part of the walk of FnHandsAhead: which Lean function each Go function comes to, and that the machine's call does so. Written by a program of this repo (wip/gen/xprint.py). -/
import Derived.Test.YtoneipoioiokcabPFnHandsAheadx0
import Derived.Test.YtoneipoioiokcabPFnHandsAheadx7
import Derived.Test.YtoneipoioiokcabPFnHandsAheadx8
import Derived.Test.YtoneipoioiokcabPFnHandsAheadx10
namespace Go.Proofs.Ytoneipoioiokcab.PFnHandsAhead
open Go.RowKit Go.Proofs.YtoneipoioiokcabW.PrintWords Go.Proofs.YtoneipoioiokcabW.PrintLast Go.Proofs.YtoneipoioiokcabW.PrintMore
attribute [local go_sem] max2_int min2_int max_two min_two max_three min_three max_four min_four   -- for this text's walks alone
set_option linter.unusedVariables false
set_option linter.unusedSimpArgs false

/-! ### impl_aheadTimes: function 29 -/
def impl_aheadTimes.j0 : Nat → Bool → Int → Int → Int → Int → Int → Int → Int → Int → Option ((List (S25)) × Bool)
  | 0, _, _, _, _, _, _, _, _, _ => none
  | k + 1, x19, x268000, x268001, x268002, x269000, x269001, x269002, x270000, x270001 => if x19 = true then (some (([] : List (S25)), false)) else ((impl_relative.f k x268000 x268001 x268002 x269000 x269001 x269002).bind fun bt274 => ((impl_Hand_timesAt.f k bt274.1 bt274.2.1 bt274.2.2 x270000 x270001).bind fun bt277 => (some (bt277.1, bt277.2))))
def impl_aheadTimes.f (k : Nat) (a0_0 : Int) (a0_1 : Int) (a0_2 : Int) (a1_0 : Int) (a1_1 : Int) (a1_2 : Int) (a2_0 : Int) (a2_1 : Int) : Option ((List (S25)) × Bool) := (impl_areHands.f (([(⟨(⟨a0_0, a0_1⟩ : S25), a0_2⟩ : S27), (⟨(⟨a1_0, a1_1⟩ : S25), a1_2⟩ : S27)] : List (S27)))).bind fun t273 => (if t273 = true then (impl_aheadTimes.j0 k (a0_2 == a1_2) a0_0 a0_1 a0_2 a1_0 a1_1 a1_2 a2_0 a2_1) else (impl_aheadTimes.j0 k true a0_0 a0_1 a0_2 a1_0 a1_1 a1_2 a2_0 a2_1))
theorem impl_aheadTimes.mono_l : ∀ k, (∀ y0 y1 y2 y3 y4 y5 y6 y7 y8, LeO (impl_aheadTimes.j0 k y0 y1 y2 y3 y4 y5 y6 y7 y8) (impl_aheadTimes.j0 (k + 1) y0 y1 y2 y3 y4 y5 y6 y7 y8))
  | 0 => fun _ _ _ _ _ _ _ _ _ r h => by simp [impl_aheadTimes.j0] at h
  | k + 1 => by
    have ih0 := impl_aheadTimes.mono_l k
    intro y0 y1 y2 y3 y4 y5 y6 y7 y8
    unfold impl_aheadTimes.j0
    repeat' first
    | (with_reducible exact ih0 _ _ _ _ _ _ _ _ _)
    | (with_reducible exact impl_Hand_timesAt.mono _ _ _ _ _ _)
    | (with_reducible exact impl_relative.mono _ _ _ _ _ _ _)
    | (with_reducible exact LeO.refl _)
    | (with_reducible exact LeO.none _)
    | (with_reducible refine LeO.ite ?_ ?_)
    | (with_reducible refine LeO.bind ?_ (fun _ => ?_))
    | exact ih0 _ _ _ _ _ _ _ _ _
    | exact impl_Hand_timesAt.mono _ _ _ _ _ _
    | exact impl_relative.mono _ _ _ _ _ _ _
    | exact LeO.none _
    | refine LeO.ite ?_ ?_
    | refine LeO.bind ?_ (fun _ => ?_)
theorem impl_aheadTimes.mono : ∀ a0 a1 a2 a3 a4 a5 a6 a7 k, LeO (impl_aheadTimes.f k a0 a1 a2 a3 a4 a5 a6 a7) (impl_aheadTimes.f (k + 1) a0 a1 a2 a3 a4 a5 a6 a7) := by
  intro a0 a1 a2 a3 a4 a5 a6 a7 k
  have ih0 := impl_aheadTimes.mono_l k
  unfold impl_aheadTimes.f
  repeat' first
      | (with_reducible exact ih0 _ _ _ _ _ _ _ _ _)
      | (with_reducible exact impl_Hand_timesAt.mono _ _ _ _ _ _)
      | (with_reducible exact impl_relative.mono _ _ _ _ _ _ _)
      | (with_reducible exact LeO.refl _)
      | (with_reducible exact LeO.none _)
      | (with_reducible refine LeO.ite ?_ ?_)
      | (with_reducible refine LeO.bind ?_ (fun _ => ?_))
      | exact ih0 _ _ _ _ _ _ _ _ _
      | exact impl_Hand_timesAt.mono _ _ _ _ _ _
      | exact impl_relative.mono _ _ _ _ _ _ _
      | exact LeO.none _
      | refine LeO.ite ?_ ?_
      | refine LeO.bind ?_ (fun _ => ?_)
def impl_aheadTimes.T3 : Bool × List (List Nat × List Nat) := (true, [([], []), ([], []), ([0, 1], [0, 1]), ([], []), ([2, 3, 2], [2, 3]), ([4], [4]), ([4], [4]), ([5, 4, 0, 1, 2, 3, 4, 5, 6], [5]), ([6, 7, 0, 1, 2, 3, 4, 5, 6, 7], [6])])
def impl_aheadTimes.B3 : List Nat := [0, 0, 3, 0, 15, 31, 31, 127, 255]
theorem impl_aheadTimes.tab3 : rtab .any (opsOf Try.f29 3) = impl_aheadTimes.T3 := by kernel_rfl
theorem impl_aheadTimes.bits3 : waitsOk impl_aheadTimes.T3.2 impl_aheadTimes.B3 = true := by kernel_rfl
set_option maxHeartbeats 8000000 in
set_option maxRecDepth 100000 in
theorem impl_aheadTimes.calls (k : Nat) (a0_0 : Int) (a0_1 : Int) (a0_2 : Int) (a1_0 : Int) (a1_1 : Int) (a1_2 : Int) (a2_0 : Int) (a2_1 : Int) (r1 : List (S25)) (r2 : Bool) (w : World) (h : impl_aheadTimes.f k a0_0 a0_1 a0_2 a1_0 a1_1 a1_2 a2_0 a2_1 = some (r1, r2)) :
    Calls Try.prog 29 #[.agg #[.int .i64 a0_0, .int .i64 a0_1, .int .i64 a0_2], .agg #[.int .i64 a1_0, .int .i64 a1_1, .int .i64 a1_2], .agg #[.int .i64 a2_0, .int .i64 a2_1]] w fun e w' => ∃ v0_ : Value, e = .returned (.tuple #[v0_, .bool r2]) ∧ Kd.R k25 25 w' w.heap.size (fun _ => True) v0_ r1 ∧ Below w.heap.size w w' := by
  have hu27 := Try.underlying27
  have hu25 := Try.underlying25
  have HB := Aside0.mk (Below.refl w.heap.size w)
  have H : ((impl_areHands.f (([(⟨(⟨a0_0, a0_1⟩ : S25), a0_2⟩ : S27), (⟨(⟨a1_0, a1_1⟩ : S25), a1_2⟩ : S27)] : List (S27)))).bind fun t273 => (if t273 = true then (impl_aheadTimes.j0 k (a0_2 == a1_2) a0_0 a0_1 a0_2 a1_0 a1_1 a1_2 a2_0 a2_1) else (impl_aheadTimes.j0 k true a0_0 a0_1 a0_2 a1_0 a1_1 a1_2 a2_0 a2_1))) = some (r1, r2) := h
  clear h
  have HC4 := Aside0.mk H
  clear H
  go_enter Try.func29, Try.ntmps29
  go_upto_region 1 with (first | ((with_reducible refine gate_dst (N := 3) rfl ?_); refine be #[.int .i64 a0_0, .int .i64 a0_1, .int .i64 a0_2] 27 ?_; intro gb267 hg w5 hbox hb; have BK267 := Aside0.mk hbox; have GW267 := zs HB hg; have GE267 := zs HB hg; replace HB := zB HB hb; clear hb hbox hg) | ((with_reducible refine gate_dst (N := 4) rfl ?_); refine be #[.int .i64 a1_0, .int .i64 a1_1, .int .i64 a1_2] 27 ?_; intro gb268 hg w6 hbox hb; have BK268 := Aside0.mk hbox; have GW268 := zs HB hg; have GE268 := zs HB hg; have NB267_268 := zn BK267 hg; have NB268_267 := zm BK267 hg; replace BK267 := zb BK267 hb; replace HB := zB HB hb; clear hb hbox hg) | ((with_reducible refine gate_dst (N := 5) rfl ?_); refine be #[.int .i64 a2_0, .int .i64 a2_1] 25 ?_; intro gb269 hg w7 hbox hb; have BK269 := Aside0.mk hbox; have GW269 := zs HB hg; have GE269 := zs HB hg; have NB267_269 := zn BK267 hg; have NB269_267 := zm BK267 hg; have NB268_269 := zn BK268 hg; have NB269_268 := zm BK268 hg; replace BK267 := zb BK267 hb; replace BK268 := zb BK268 hb; replace HB := zB HB hb; clear hb hbox hg))
  (try simp only [Act.put, List.setIfInBounds_toArray, List.set_cons_zero, List.set_cons_succ])
  go_cut [19] (fun v19 wc => ∃ (kq : Nat) (x19_3 : Bool), v19 = .bool x19_3 ∧ Aside0 (impl_aheadTimes.j0 kq x19_3 a0_0 a0_1 a0_2 a1_0 a1_1 a1_2 a2_0 a2_1 = some (r1, r2)) ∧ Aside0 (kq ≤ k) ∧ Aside0 (wc.heap[gb267]? = some (.cells #[.int .i64 a0_0, .int .i64 a0_1, .int .i64 a0_2] 27 (0, 0))) ∧ Aside0 (wc.heap[gb268]? = some (.cells #[.int .i64 a1_0, .int .i64 a1_1, .int .i64 a1_2] 27 (0, 0))) ∧ Aside0 (wc.heap[gb269]? = some (.cells #[.int .i64 a2_0, .int .i64 a2_1] 25 (0, 0))) ∧ Aside0 (Below w.heap.size w wc))
  case first =>
    have H := HC4.1
    clear HC4
    obtain ⟨y270, hy270⟩ : ∃ y_ : List (S27), y_ = (([(⟨(⟨a0_0, a0_1⟩ : S25), a0_2⟩ : S27), (⟨(⟨a1_0, a1_1⟩ : S25), a1_2⟩ : S27)] : List (S27))) := ⟨_, rfl⟩
    replace H : ((impl_areHands.f y270).bind fun t273 => (if t273 = true then (impl_aheadTimes.j0 k (a0_2 == a1_2) a0_0 a0_1 a0_2 a1_0 a1_1 a1_2 a2_0 a2_1) else (impl_aheadTimes.j0 k true a0_0 a0_1 a0_2 a1_0 a1_1 a1_2 a2_0 a2_1))) = some (r1, r2) := by first | (rw [hy270]; with_reducible exact H) | (have H2_ := (Option.bind_some _ _).symm.trans H; rw [hy270]; with_reducible exact H2_) | (have H2_ := (Option.bind_some _ _).symm.trans H; with_reducible exact H2_) | with_reducible exact H | (rw [hy270]; exact H) | exact H
    have Ny270 := Aside0.mk hy270
    clear hy270
    replace H := Option.bind_eq_some_iff.mp H
    obtain ⟨t273, A80, H⟩ := H
    (try dsimp only at H)
    have A8 := Aside0.mk A80
    clear A80
    by_cases c9 : t273 = true
    · subst c9
      rw [if_pos rfl] at H
      have H' := Aside0.mk H
      clear H
      have hnb10 := NB267_268.1
      have hnc10 := NB268_267.1
      have hnb11 := NB267_269.1
      have hnc11 := NB269_267.1
      obtain ⟨hcz12_0, hcz12_1, hcz12_2, hfz12_0, hfz12_1, hfz12_2⟩ := zc3 BK267
      have hnb13 := NB268_269.1
      have hnc13 := NB269_268.1
      obtain ⟨hcz14_0, hcz14_1, hcz14_2, hfz14_0, hfz14_1, hfz14_2⟩ := zc3 BK268
      go_wp2_with (first | ((with_reducible refine gate_dst (N := 10) rfl ?_); refine Kd.R_lit k27 _ 27 ?hg (N := 10) ?hd (xs := ([(⟨(⟨a0_0, a0_1⟩ : S25), a0_2⟩ : S27), (⟨(⟨a1_0, a1_1⟩ : S25), a1_2⟩ : S27)] : List (S27))) (inner := [.int .i64 a0_0, .int .i64 a0_1, .int .i64 a0_2, .int .i64 a1_0, .int .i64 a1_1, .int .i64 a1_2]) (ok := fun _ => True) (okp := fun _ => True) ?hr ?hp (fun _ hk => hk) trivial (Below.refl _ _) (Nat.le_refl _) (by simp) ?_; (case hd => rfl); (case hg => rfl); (case hr => first | (go_simp; done) | (go_simp; rfl)); (case hp => exact (Reps.c3 (show Kd.M k27 _ _ _ (⟨(⟨a0_0, a0_1⟩ : S25), a0_2⟩ : S27) [.int .i64 a0_0, .int .i64 a0_1, .int .i64 a0_2] from (k27_mkM _ _ _ (⟨(⟨a0_0, a0_1⟩ : S25), a0_2⟩ : S27) )) (Reps.c3 (show Kd.M k27 _ _ _ (⟨(⟨a1_0, a1_1⟩ : S25), a1_2⟩ : S27) [.int .i64 a1_0, .int .i64 a1_1, .int .i64 a1_2] from (k27_mkM _ _ _ (⟨(⟨a1_0, a1_1⟩ : S25), a1_2⟩ : S27) )) (Reps.none _ _)))); intro v271 w15 ho16 hb hg_ hnew_; clear hg_ hnew_; (first | rw [← Ny270.1] at ho16 | (simp only [Int.reduceToNat] at ho16; rw [← Ny270.1] at ho16)); have HO272 := Aside0.mk (Kd.R_lower (Kd.R_newB (Kd.R_newB ho16 (g := gb267) (o := .cells #[.int .i64 a0_0, .int .i64 a0_1, .int .i64 a0_2] 27 (0, 0)) (bk BK267)) (g := gb268) (o := .cells #[.int .i64 a1_0, .int .i64 a1_1, .int .i64 a1_2] 27 (0, 0)) (bk BK268)) (below_size (bq HB))); replace BK267 := zb BK267 hb; replace BK268 := zb BK268 hb; replace BK269 := zb BK269 hb; replace HB := zB HB hb; clear hb ho16; obtain ⟨Ao17, co17, eo17⟩ := Kd.R_slice HO272.1; subst eo17) | ((with_reducible refine gate_callee (f := 34) rfl ?_); refine gl (some 11) Try.func34 #[.slice Ao17 y270.length co17] ?_; (with_reducible refine (impl_areHands.calls _ _ y270 true _ ?side1 ?side2 A8.1).mono ?_); (case side1 => repeat (first | exact (Kd.R_reads' HO272.1).2.2 | (with_reducible refine Kd.C_alloc ?_ _) | (with_reducible refine Kd.C_drewN ?_ _) | (with_reducible refine Kd.C_drew ?_))); (case side2 => exact (Kd.R_reads' HO272.1).2.1); rintro e w18 ⟨rfl, hb⟩; refine ⟨_, rfl, ?_⟩; replace HO272 := rB HO272 hb; replace BK267 := zb BK267 hb; replace BK268 := zb BK268 hb; replace BK269 := zb BK269 hb; replace HB := zB HB hb; clear hb; obtain ⟨hcz19_0, hcz19_1, hcz19_2, hfz19_0, hfz19_1, hfz19_2⟩ := zc3 BK267; obtain ⟨hcz20_0, hcz20_1, hcz20_2, hfz20_0, hfz20_1, hfz20_2⟩ := zc3 BK268))
      go_meet
      case rel => exact ⟨_, ((a0_2 == a1_2)), ew, H', le_, ⟨bk BK267⟩, ⟨bk BK268⟩, ⟨bk BK269⟩, ⟨bq HB⟩⟩
    replace c9 := Bool.eq_false_iff.mpr c9
    subst c9
    rw [if_neg (show ¬ (false = true) by decide)] at H
    have H' := Aside0.mk H
    clear H
    have hnb21 := NB267_268.1
    have hnc21 := NB268_267.1
    have hnb22 := NB267_269.1
    have hnc22 := NB269_267.1
    obtain ⟨hcz23_0, hcz23_1, hcz23_2, hfz23_0, hfz23_1, hfz23_2⟩ := zc3 BK267
    have hnb24 := NB268_269.1
    have hnc24 := NB269_268.1
    obtain ⟨hcz25_0, hcz25_1, hcz25_2, hfz25_0, hfz25_1, hfz25_2⟩ := zc3 BK268
    go_wp2_with (first | ((with_reducible refine gate_dst (N := 10) rfl ?_); refine Kd.R_lit k27 _ 27 ?hg (N := 10) ?hd (xs := ([(⟨(⟨a0_0, a0_1⟩ : S25), a0_2⟩ : S27), (⟨(⟨a1_0, a1_1⟩ : S25), a1_2⟩ : S27)] : List (S27))) (inner := [.int .i64 a0_0, .int .i64 a0_1, .int .i64 a0_2, .int .i64 a1_0, .int .i64 a1_1, .int .i64 a1_2]) (ok := fun _ => True) (okp := fun _ => True) ?hr ?hp (fun _ hk => hk) trivial (Below.refl _ _) (Nat.le_refl _) (by simp) ?_; (case hd => rfl); (case hg => rfl); (case hr => first | (go_simp; done) | (go_simp; rfl)); (case hp => exact (Reps.c3 (show Kd.M k27 _ _ _ (⟨(⟨a0_0, a0_1⟩ : S25), a0_2⟩ : S27) [.int .i64 a0_0, .int .i64 a0_1, .int .i64 a0_2] from (k27_mkM _ _ _ (⟨(⟨a0_0, a0_1⟩ : S25), a0_2⟩ : S27) )) (Reps.c3 (show Kd.M k27 _ _ _ (⟨(⟨a1_0, a1_1⟩ : S25), a1_2⟩ : S27) [.int .i64 a1_0, .int .i64 a1_1, .int .i64 a1_2] from (k27_mkM _ _ _ (⟨(⟨a1_0, a1_1⟩ : S25), a1_2⟩ : S27) )) (Reps.none _ _)))); intro v271 w26 ho27 hb hg_ hnew_; clear hg_ hnew_; (first | rw [← Ny270.1] at ho27 | (simp only [Int.reduceToNat] at ho27; rw [← Ny270.1] at ho27)); have HO272 := Aside0.mk (Kd.R_lower (Kd.R_newB (Kd.R_newB ho27 (g := gb267) (o := .cells #[.int .i64 a0_0, .int .i64 a0_1, .int .i64 a0_2] 27 (0, 0)) (bk BK267)) (g := gb268) (o := .cells #[.int .i64 a1_0, .int .i64 a1_1, .int .i64 a1_2] 27 (0, 0)) (bk BK268)) (below_size (bq HB))); replace BK267 := zb BK267 hb; replace BK268 := zb BK268 hb; replace BK269 := zb BK269 hb; replace HB := zB HB hb; clear hb ho27; obtain ⟨Ao28, co28, eo28⟩ := Kd.R_slice HO272.1; subst eo28) | ((with_reducible refine gate_callee (f := 34) rfl ?_); refine gl (some 11) Try.func34 #[.slice Ao28 y270.length co28] ?_; (with_reducible refine (impl_areHands.calls _ _ y270 false _ ?side1 ?side2 A8.1).mono ?_); (case side1 => repeat (first | exact (Kd.R_reads' HO272.1).2.2 | (with_reducible refine Kd.C_alloc ?_ _) | (with_reducible refine Kd.C_drewN ?_ _) | (with_reducible refine Kd.C_drew ?_))); (case side2 => exact (Kd.R_reads' HO272.1).2.1); rintro e w29 ⟨rfl, hb⟩; refine ⟨_, rfl, ?_⟩; replace HO272 := rB HO272 hb; replace BK267 := zb BK267 hb; replace BK268 := zb BK268 hb; replace BK269 := zb BK269 hb; replace HB := zB HB hb; clear hb))
    go_meet
    case rel => exact ⟨_, (true), ew, H', le_, ⟨bk BK267⟩, ⟨bk BK268⟩, ⟨bk BK269⟩, ⟨bq HB⟩⟩
  clear HC4
  obtain ⟨kq, x19_3, rfl, HA, HJ3, BK267, BK268, BK269, HB⟩ := hcut
  cases kq with
  | zero => exact absurd HA.1 (by simp [impl_aheadTimes.j0])
  | succ kj3 =>
    have H := HA.1
    clear HA
    simp only [impl_aheadTimes.j0] at H
    by_cases c30 : x19_3 = true
    · subst c30
      rw [if_pos rfl] at H
      simp only [Option.some.injEq, Prod.mk.injEq] at H
      obtain ⟨rfl, rfl⟩ := H
      go_wp2
      go_ret2
      exact ⟨_, er, by first | exact Kd.R_nil _ _ _ _ _ | exact Kd.N_nil _ _ _ _ _ | exact Kd.V_nil _ _ _ _ _ | exact Kd.Q_nil _ _ _ _ _ | exact Kd.S_nil _ _ _ _ _, bq HB⟩
    replace c30 := Bool.eq_false_iff.mpr c30
    subst c30
    rw [if_neg (show ¬ (false = true) by decide)] at H
    replace H := Option.bind_eq_some_iff.mp H
    obtain ⟨⟨t274, t275, t276⟩, A310, H⟩ := H
    (try dsimp only at H)
    have A31 := Aside0.mk A310
    clear A310
    replace H := Option.bind_eq_some_iff.mp H
    obtain ⟨⟨t277, t280⟩, A320, H⟩ := H
    (try dsimp only at H)
    have A32 := Aside0.mk A320
    clear A320
    simp only [Option.some.injEq, Prod.mk.injEq] at H
    obtain ⟨rfl, rfl⟩ := H
    try go_wp2
    replace BK267 := Aside0.mk (blk_drew BK267.1)
    replace BK268 := Aside0.mk (blk_drew BK268.1)
    replace BK269 := Aside0.mk (blk_drew BK269.1)
    replace HB := Aside0.mk (below_drew1 HB.1)
    refine start_ (n := 9) (S := fun w' => w'.cell? ⟨gb267, 0, none⟩ = some (.int .i64 a0_0) ∧ w'.cell? ⟨gb267, 1, none⟩ = some (.int .i64 a0_1) ∧ w'.cell? ⟨gb267, 2, none⟩ = some (.int .i64 a0_2) ∧ w'.cell? ⟨gb268, 0, none⟩ = some (.int .i64 a1_0) ∧ w'.cell? ⟨gb268, 1, none⟩ = some (.int .i64 a1_1) ∧ w'.cell? ⟨gb268, 2, none⟩ = some (.int .i64 a1_2) ∧ w'.cell? ⟨gb269, 0, none⟩ = some (.int .i64 a2_0) ∧ w'.cell? ⟨gb269, 1, none⟩ = some (.int .i64 a2_1)) (ds := []) (bs 9 0) (by kernel_rfl) rfl rfl ⟨(blk_cell BK267.1 0).trans rfl, (blk_cell BK267.1 1).trans rfl, (blk_cell BK267.1 2).trans rfl, (blk_cell BK268.1 0).trans rfl, (blk_cell BK268.1 1).trans rfl, (blk_cell BK268.1 2).trans rfl, (blk_cell BK269.1 0).trans rfl, (blk_cell BK269.1 1).trans rfl⟩ (fun hHeld => ?_); refine with_tabW impl_aheadTimes.tab3 impl_aheadTimes.bits3 (fun HT_ HW_ => ?_)
    generalize wc.drew = w33 at BK267 BK268 BK269 HB hHeld ⊢
    refine tk 0 20 HT_ HW_ hHeld rfl rfl (bs 9 1) ?_
    refine tk 1 21 HT_ HW_ hHeld rfl rfl (bs 9 3) ?_
    refine tk 3 23 HT_ HW_ hHeld rfl rfl (bs 9 11) ?_
    refine one_ (i := 2) (N := some 22) (bs 9 15) rfl rfl (one_of HT_.1 (by kernel_rfl)) (by decide) (fun K hK => ?_)
    refine gs Try.func37 #[.agg #[.int .i64 a0_0, .int .i64 a0_1, .int .i64 a0_2], .agg #[.int .i64 a1_0, .int .i64 a1_1, .int .i64 a1_2]] ?_
    with_reducible refine (impl_relative.calls kj3 a0_0 a0_1 a0_2 a1_0 a1_1 a1_2 t274 t275 t276 _ A31.1).mono ?_
    rintro e w34 ⟨rfl, hb⟩
    refine ⟨_, rfl, ?_⟩
    replace BK267 := zb BK267 hb
    replace BK268 := zb BK268 hb
    replace BK269 := zb BK269 hb
    replace HB := zB HB hb
    (try clear hb)
    (try clear hb2)
    (try clear hk)
    (try clear hi)
    refine hK.out _ _ ⟨(blk_cell BK267.1 0).trans rfl, (blk_cell BK267.1 1).trans rfl, (blk_cell BK267.1 2).trans rfl, (blk_cell BK268.1 0).trans rfl, (blk_cell BK268.1 1).trans rfl, (blk_cell BK268.1 2).trans rfl, (blk_cell BK269.1 0).trans rfl, (blk_cell BK269.1 1).trans rfl⟩ (fun hHeld => ?_)
    clear hK K
    refine norm_ (aq 22) ?_
    refine one_ (i := 4) (N := some 24) (bs 9 31) rfl rfl (one_of HT_.1 (by kernel_rfl)) (by decide) (fun K hK => ?_)
    refine gs Try.func49 #[.agg #[.int .i64 t274, .int .i64 t275, .int .i64 t276], .agg #[.int .i64 a2_0, .int .i64 a2_1]] ?_
    with_reducible refine (impl_Hand_timesAt.calls kj3 t274 t275 t276 a2_0 a2_1 t277 t280 _ A32.1).mono ?_
    rintro e w35 ⟨v278, rfl, ho0, hb⟩
    refine ⟨_, rfl, ?_⟩
    have HO279 := Aside0.mk (Kd.R_lower (Kd.R_newB ho0 (g := gb269) (o := .cells #[.int .i64 a2_0, .int .i64 a2_1] 25 (0, 0)) (bk BK269)) (below_size (bq HB)))
    replace BK267 := zb BK267 hb
    replace BK268 := zb BK268 hb
    replace BK269 := zb BK269 hb
    replace HB := zB HB hb
    (try clear hb)
    (try clear hb2)
    (try clear hk)
    (try clear hi)
    (try clear ho0)
    refine hK.out _ _ ⟨(blk_cell BK267.1 0).trans rfl, (blk_cell BK267.1 1).trans rfl, (blk_cell BK267.1 2).trans rfl, (blk_cell BK268.1 0).trans rfl, (blk_cell BK268.1 1).trans rfl, (blk_cell BK268.1 2).trans rfl, (blk_cell BK269.1 0).trans rfl, (blk_cell BK269.1 1).trans rfl⟩ (fun hHeld => ?_)
    clear hK K
    refine norm_ (aq 24) ?_
    refine pu 5 25 HT_ rfl rfl (bs 9 63) ?_
    refine pu 6 26 HT_ rfl rfl (bs 9 127) ?_
    refine pu 7 6 HT_ rfl rfl (bs 9 255) ?_
    refine pu 8 7 HT_ rfl rfl (bs 9 511) ?_
    refine done_ (done_of HT_.1 (by kernel_rfl)) ?_
    try go_wp2
    go_ret2
    exact ⟨_, er, by (with_reducible repeat (first | apply Kd.R_alloc | apply Kd.R_drewN | apply Kd.R_drew)); exact Kd.R_mono HO279.1 (fun _ hk => trivial), bq HB⟩

/-! ### impl_AheadTimes: function 6 -/
def impl_AheadTimes.f (k : Nat) (a0_0 : Int) (a0_1 : Int) (a0_2 : Int) (a1_0 : Int) (a1_1 : Int) (a1_2 : Int) (a2_0 : Int) (a2_1 : Int) : Option ((List (S25)) × Bool) := (impl_isCoarse.f k a2_0 a2_1).bind fun t284 => (if t284 = true then ((impl_aheadTimes.f k a0_0 a0_1 a0_2 a1_0 a1_1 a1_2 a2_0 a2_1).bind fun bt285 => (some (bt285.1, bt285.2))) else (some (([] : List (S25)), false)))
theorem impl_AheadTimes.mono : ∀ a0 a1 a2 a3 a4 a5 a6 a7 k, LeO (impl_AheadTimes.f k a0 a1 a2 a3 a4 a5 a6 a7) (impl_AheadTimes.f (k + 1) a0 a1 a2 a3 a4 a5 a6 a7) := by
  intro a0 a1 a2 a3 a4 a5 a6 a7 k
  unfold impl_AheadTimes.f
  repeat' first
      | (with_reducible exact impl_aheadTimes.mono _ _ _ _ _ _ _ _ _)
      | (with_reducible exact impl_isCoarse.mono _ _ _)
      | (with_reducible exact LeO.refl _)
      | (with_reducible exact LeO.none _)
      | (with_reducible refine LeO.ite ?_ ?_)
      | (with_reducible refine LeO.bind ?_ (fun _ => ?_))
      | exact impl_aheadTimes.mono _ _ _ _ _ _ _ _ _
      | exact impl_isCoarse.mono _ _ _
      | exact LeO.none _
      | refine LeO.ite ?_ ?_
      | refine LeO.bind ?_ (fun _ => ?_)
set_option maxHeartbeats 8000000 in
set_option maxRecDepth 100000 in
theorem impl_AheadTimes.calls (k : Nat) (a0_0 : Int) (a0_1 : Int) (a0_2 : Int) (a1_0 : Int) (a1_1 : Int) (a1_2 : Int) (a2_0 : Int) (a2_1 : Int) (r1 : List (S25)) (r2 : Bool) (w : World) (h : impl_AheadTimes.f k a0_0 a0_1 a0_2 a1_0 a1_1 a1_2 a2_0 a2_1 = some (r1, r2)) :
    Calls Try.prog 6 #[.agg #[.int .i64 a0_0, .int .i64 a0_1, .int .i64 a0_2], .agg #[.int .i64 a1_0, .int .i64 a1_1, .int .i64 a1_2], .agg #[.int .i64 a2_0, .int .i64 a2_1]] w fun e w' => ∃ v0_ : Value, e = .returned (.tuple #[v0_, .bool r2]) ∧ Kd.R k25 25 w' w.heap.size (fun _ => True) v0_ r1 ∧ Below w.heap.size w w' := by
  have hu27 := Try.underlying27
  have hu25 := Try.underlying25
  have HB := Aside0.mk (Below.refl w.heap.size w)
  have H : ((impl_isCoarse.f k a2_0 a2_1).bind fun t284 => (if t284 = true then ((impl_aheadTimes.f k a0_0 a0_1 a0_2 a1_0 a1_1 a1_2 a2_0 a2_1).bind fun bt285 => (some (bt285.1, bt285.2))) else (some (([] : List (S25)), false)))) = some (r1, r2) := h
  clear h
  replace H := Option.bind_eq_some_iff.mp H
  obtain ⟨t284, A40, H⟩ := H
  (try dsimp only at H)
  have A4 := Aside0.mk A40
  clear A40
  by_cases c5 : t284 = true
  · subst c5
    rw [if_pos rfl] at H
    replace H := Option.bind_eq_some_iff.mp H
    obtain ⟨⟨t285, t288⟩, A60, H⟩ := H
    (try dsimp only at H)
    have A6 := Aside0.mk A60
    clear A60
    simp only [Option.some.injEq, Prod.mk.injEq] at H
    obtain ⟨rfl, rfl⟩ := H
    go_enter Try.func6, Try.ntmps6
    go_wp2_with (first | ((with_reducible refine gate_dst (N := 3) rfl ?_); refine be #[.int .i64 a0_0, .int .i64 a0_1, .int .i64 a0_2] 27 ?_; intro gb281 hg w7 hbox hb; have BK281 := Aside0.mk hbox; have GW281 := zs HB hg; have GE281 := zs HB hg; replace HB := zB HB hb; clear hb hbox hg) | ((with_reducible refine gate_dst (N := 4) rfl ?_); refine be #[.int .i64 a1_0, .int .i64 a1_1, .int .i64 a1_2] 27 ?_; intro gb282 hg w8 hbox hb; have BK282 := Aside0.mk hbox; have GW282 := zs HB hg; have GE282 := zs HB hg; have NB281_282 := zn BK281 hg; have NB282_281 := zm BK281 hg; replace BK281 := zb BK281 hb; replace HB := zB HB hb; clear hb hbox hg) | ((with_reducible refine gate_dst (N := 5) rfl ?_); refine be #[.int .i64 a2_0, .int .i64 a2_1] 25 ?_; intro gb283 hg w9 hbox hb; have BK283 := Aside0.mk hbox; have GW283 := zs HB hg; have GE283 := zs HB hg; have NB281_283 := zn BK281 hg; have NB283_281 := zm BK281 hg; have NB282_283 := zn BK282 hg; have NB283_282 := zm BK282 hg; replace BK281 := zb BK281 hb; replace BK282 := zb BK282 hb; replace HB := zB HB hb; clear hb hbox hg; have hnb10 := NB283_281.1; have hnc10 := NB281_283.1; have hnb11 := NB283_282.1; have hnc11 := NB282_283.1; obtain ⟨hcz12_0, hcz12_1, hfz12_0, hfz12_1⟩ := zc2 BK283) | ((with_reducible refine gate_callee (f := 28) rfl ?_); refine gl (some 9) Try.func28 #[.agg #[.int .i64 a2_0, .int .i64 a2_1]] ?_; (with_reducible refine (impl_isCoarse.calls k a2_0 a2_1 true _ A4.1).mono ?_); rintro e w13 ⟨rfl, hb⟩; refine ⟨_, rfl, ?_⟩; replace BK281 := zb BK281 hb; replace BK282 := zb BK282 hb; replace BK283 := zb BK283 hb; replace HB := zB HB hb; clear hb; have hnb14 := NB281_282.1; have hnc14 := NB282_281.1; obtain ⟨hcz15_0, hcz15_1, hcz15_2, hfz15_0, hfz15_1, hfz15_2⟩ := zc3 BK281; obtain ⟨hcz16_0, hcz16_1, hcz16_2, hfz16_0, hfz16_1, hfz16_2⟩ := zc3 BK282; obtain ⟨hcz17_0, hcz17_1, hfz17_0, hfz17_1⟩ := zc2 BK283) | ((with_reducible refine gate_callee (f := 29) rfl ?_); refine gl (some 14) Try.func29 #[.agg #[.int .i64 a0_0, .int .i64 a0_1, .int .i64 a0_2], .agg #[.int .i64 a1_0, .int .i64 a1_1, .int .i64 a1_2], .agg #[.int .i64 a2_0, .int .i64 a2_1]] ?_; (with_reducible refine (impl_aheadTimes.calls k a0_0 a0_1 a0_2 a1_0 a1_1 a1_2 a2_0 a2_1 t285 t288 _ A6.1).mono ?_); rintro e w18 ⟨v286, rfl, ho0, hb⟩; refine ⟨_, rfl, ?_⟩; have HO287 := Aside0.mk (Kd.R_lower (Kd.R_newB ho0 (g := gb283) (o := .cells #[.int .i64 a2_0, .int .i64 a2_1] 25 (0, 0)) (bk BK283)) (below_size (bq HB))); replace BK281 := zb BK281 hb; replace BK282 := zb BK282 hb; replace BK283 := zb BK283 hb; replace HB := zB HB hb; (try clear hb); (try clear hb2); (try clear hk); (try clear hi); (try clear ho0)))
    go_ret2
    exact ⟨_, er, by (with_reducible repeat (first | apply Kd.R_alloc | apply Kd.R_drewN | apply Kd.R_drew)); exact Kd.R_mono HO287.1 (fun _ hk => trivial), bq HB⟩
  replace c5 := Bool.eq_false_iff.mpr c5
  subst c5
  rw [if_neg (show ¬ (false = true) by decide)] at H
  simp only [Option.some.injEq, Prod.mk.injEq] at H
  obtain ⟨rfl, rfl⟩ := H
  go_enter Try.func6, Try.ntmps6
  go_wp2_with (first | ((with_reducible refine gate_dst (N := 3) rfl ?_); refine be #[.int .i64 a0_0, .int .i64 a0_1, .int .i64 a0_2] 27 ?_; intro gb281 hg w19 hbox hb; have BK281 := Aside0.mk hbox; have GW281 := zs HB hg; have GE281 := zs HB hg; replace HB := zB HB hb; clear hb hbox hg) | ((with_reducible refine gate_dst (N := 4) rfl ?_); refine be #[.int .i64 a1_0, .int .i64 a1_1, .int .i64 a1_2] 27 ?_; intro gb282 hg w20 hbox hb; have BK282 := Aside0.mk hbox; have GW282 := zs HB hg; have GE282 := zs HB hg; have NB281_282 := zn BK281 hg; have NB282_281 := zm BK281 hg; replace BK281 := zb BK281 hb; replace HB := zB HB hb; clear hb hbox hg) | ((with_reducible refine gate_dst (N := 5) rfl ?_); refine be #[.int .i64 a2_0, .int .i64 a2_1] 25 ?_; intro gb283 hg w21 hbox hb; have BK283 := Aside0.mk hbox; have GW283 := zs HB hg; have GE283 := zs HB hg; have NB281_283 := zn BK281 hg; have NB283_281 := zm BK281 hg; have NB282_283 := zn BK282 hg; have NB283_282 := zm BK282 hg; replace BK281 := zb BK281 hb; replace BK282 := zb BK282 hb; replace HB := zB HB hb; clear hb hbox hg; have hnb22 := NB283_281.1; have hnc22 := NB281_283.1; have hnb23 := NB283_282.1; have hnc23 := NB282_283.1; obtain ⟨hcz24_0, hcz24_1, hfz24_0, hfz24_1⟩ := zc2 BK283) | ((with_reducible refine gate_callee (f := 28) rfl ?_); refine gl (some 9) Try.func28 #[.agg #[.int .i64 a2_0, .int .i64 a2_1]] ?_; (with_reducible refine (impl_isCoarse.calls k a2_0 a2_1 false _ A4.1).mono ?_); rintro e w25 ⟨rfl, hb⟩; refine ⟨_, rfl, ?_⟩; replace BK281 := zb BK281 hb; replace BK282 := zb BK282 hb; replace BK283 := zb BK283 hb; replace HB := zB HB hb; clear hb))
  go_ret2
  exact ⟨_, er, by first | exact Kd.R_nil _ _ _ _ _ | exact Kd.N_nil _ _ _ _ _ | exact Kd.V_nil _ _ _ _ _ | exact Kd.Q_nil _ _ _ _ _ | exact Kd.S_nil _ _ _ _ _, bq HB⟩

/-! ### spec_l1In: function 61 -/
def spec_l1In.f (a0 : Int) (a1 : Int) (a2 : Int) : Option (Bool) := if a0 ≥ a1 then (some (decide (a0 ≤ a2))) else (some false)
set_option maxHeartbeats 8000000 in
set_option maxRecDepth 100000 in
theorem spec_l1In.calls (a0 : Int) (a1 : Int) (a2 : Int) (r : Bool) (w : World) (h : spec_l1In.f a0 a1 a2 = some r) :
    Calls Try.prog 61 #[.int .i64 a0, .int .i64 a1, .int .i64 a2] w fun e w' => e = .returned (.bool r) ∧ Drawn0 w w' := by
  have H : (if a0 ≥ a1 then (some (decide (a0 ≤ a2))) else (some false)) = some r := h
  clear h
  by_cases c4 : a0 ≥ a1
  · rw [if_pos c4] at H
    have c4b0 : decide (a1 ≤ a0) = true := decide_eq_true c4
    clear c4
    obtain rfl := Option.some.inj H
    go_enter Try.func61, Try.ntmps61
    go_wp2
    go_ret
    exact ⟨by first | rfl | (simp; done) | (simp [*]; done), by repeat (first | exact Drawn0.refl _ | apply Drawn0.step)⟩
  rw [if_neg c4] at H
  have c4b0 : decide (a1 ≤ a0) = false := decide_eq_false c4
  clear c4
  obtain rfl := Option.some.inj H
  go_enter Try.func61, Try.ntmps61
  go_wp2
  go_ret
  exact ⟨by first | rfl | (simp; done) | (simp [*]; done), by repeat (first | exact Drawn0.refl _ | apply Drawn0.step)⟩

end Go.Proofs.Ytoneipoioiokcab.PFnHandsAhead
