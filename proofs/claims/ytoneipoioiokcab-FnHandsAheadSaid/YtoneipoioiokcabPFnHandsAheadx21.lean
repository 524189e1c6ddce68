/- A part of the walk of FnHandsAhead: which Lean function each Go function comes to, and that the machine's call does so. Written by a program of this repo (wip/gen/xprint.py). -/
import Derived.Test.YtoneipoioiokcabPFnHandsAheadx0
import Derived.Test.YtoneipoioiokcabPFnHandsAheadx12
import Derived.Test.YtoneipoioiokcabPFnHandsAheadx13
namespace Go.Proofs.Ytoneipoioiokcab.PFnHandsAhead
open Go.RowKit Go.Proofs.YtoneipoioiokcabW.PrintWords Go.Proofs.YtoneipoioiokcabW.PrintLast Go.Proofs.YtoneipoioiokcabW.PrintMore
attribute [local go_sem] max2_int min2_int max_two min_two max_three min_three max_four min_four   -- for this text's walks alone
set_option linter.unusedVariables false
set_option linter.unusedSimpArgs false

/-! ### spec_MeetTimes: function 47 -/
def spec_MeetTimes.f (k : Nat) (a0_0 : Int) (a0_1 : Int) (a0_2 : Int) (a1_0 : Int) (a1_1 : Int) (a1_2 : Int) : Option ((List (S25)) × Bool) := (spec_meAsked.f k a0_0 a0_1 a0_2 a1_0 a1_1 a1_2).bind fun t464 => (if t464 = true then ((spec_meRelative.f k a0_0 a0_1 a0_2 a1_0 a1_1 a1_2).bind fun bt465 => ((spec_meTimes.f k bt465.1 bt465.2.1 bt465.2.2 0 1).bind fun bt468 => (some (bt468.1, bt468.2)))) else (some (([] : List (S25)), false)))
theorem spec_MeetTimes.mono : ∀ a0 a1 a2 a3 a4 a5 k, LeO (spec_MeetTimes.f k a0 a1 a2 a3 a4 a5) (spec_MeetTimes.f (k + 1) a0 a1 a2 a3 a4 a5) := by
  intro a0 a1 a2 a3 a4 a5 k
  unfold spec_MeetTimes.f
  repeat' first
      | (with_reducible exact spec_meAsked.mono _ _ _ _ _ _ _)
      | (with_reducible exact spec_meRelative.mono _ _ _ _ _ _ _)
      | (with_reducible exact spec_meTimes.mono _ _ _ _ _ _)
      | (with_reducible exact LeO.refl _)
      | (with_reducible exact LeO.none _)
      | (with_reducible refine LeO.ite ?_ ?_)
      | (with_reducible refine LeO.bind ?_ (fun _ => ?_))
      | exact spec_meAsked.mono _ _ _ _ _ _ _
      | exact spec_meRelative.mono _ _ _ _ _ _ _
      | exact spec_meTimes.mono _ _ _ _ _ _
      | exact LeO.none _
      | refine LeO.ite ?_ ?_
      | refine LeO.bind ?_ (fun _ => ?_)
set_option maxHeartbeats 8000000 in
set_option maxRecDepth 100000 in
theorem spec_MeetTimes.calls (k : Nat) (a0_0 : Int) (a0_1 : Int) (a0_2 : Int) (a1_0 : Int) (a1_1 : Int) (a1_2 : Int) (r1 : List (S25)) (r2 : Bool) (w : World) (h : spec_MeetTimes.f k a0_0 a0_1 a0_2 a1_0 a1_1 a1_2 = some (r1, r2)) :
    Calls Try.prog 47 #[.agg #[.int .i64 a0_0, .int .i64 a0_1, .int .i64 a0_2], .agg #[.int .i64 a1_0, .int .i64 a1_1, .int .i64 a1_2]] w fun e w' => ∃ v0_ : Value, e = .returned (.tuple #[v0_, .bool r2]) ∧ Kd.R k25 25 w' w.heap.size (fun _ => True) v0_ r1 ∧ Below w.heap.size w w' := by
  have hu27 := Try.underlying27
  have hu25 := Try.underlying25
  have HB := Aside0.mk (Below.refl w.heap.size w)
  have H : ((spec_meAsked.f k a0_0 a0_1 a0_2 a1_0 a1_1 a1_2).bind fun t464 => (if t464 = true then ((spec_meRelative.f k a0_0 a0_1 a0_2 a1_0 a1_1 a1_2).bind fun bt465 => ((spec_meTimes.f k bt465.1 bt465.2.1 bt465.2.2 0 1).bind fun bt468 => (some (bt468.1, bt468.2)))) else (some (([] : List (S25)), false)))) = some (r1, r2) := h
  clear h
  replace H := Option.bind_eq_some_iff.mp H
  obtain ⟨t464, A30, H⟩ := H
  (try dsimp only at H)
  have A3 := Aside0.mk A30
  clear A30
  by_cases c4 : t464 = true
  · subst c4
    rw [if_pos rfl] at H
    replace H := Option.bind_eq_some_iff.mp H
    obtain ⟨⟨t465, t466, t467⟩, A50, H⟩ := H
    (try dsimp only at H)
    have A5 := Aside0.mk A50
    clear A50
    replace H := Option.bind_eq_some_iff.mp H
    obtain ⟨⟨t468, t471⟩, A60, H⟩ := H
    (try dsimp only at H)
    have A6 := Aside0.mk A60
    clear A60
    simp only [Option.some.injEq, Prod.mk.injEq] at H
    obtain ⟨rfl, rfl⟩ := H
    go_enter Try.func47, Try.ntmps47
    go_wp2_with (first | ((with_reducible refine gate_dst (N := 2) rfl ?_); refine be #[.int .i64 a0_0, .int .i64 a0_1, .int .i64 a0_2] 27 ?_; intro gb462 hg w7 hbox hb; have BK462 := Aside0.mk hbox; have GW462 := zs HB hg; have GE462 := zs HB hg; replace HB := zB HB hb; clear hb hbox hg) | ((with_reducible refine gate_dst (N := 3) rfl ?_); refine be #[.int .i64 a1_0, .int .i64 a1_1, .int .i64 a1_2] 27 ?_; intro gb463 hg w8 hbox hb; have BK463 := Aside0.mk hbox; have GW463 := zs HB hg; have GE463 := zs HB hg; have NB462_463 := zn BK462 hg; have NB463_462 := zm BK462 hg; replace BK462 := zb BK462 hb; replace HB := zB HB hb; clear hb hbox hg; have hnb9 := NB462_463.1; have hnc9 := NB463_462.1; obtain ⟨hcz10_0, hcz10_1, hcz10_2, hfz10_0, hfz10_1, hfz10_2⟩ := zc3 BK462; obtain ⟨hcz11_0, hcz11_1, hcz11_2, hfz11_0, hfz11_1, hfz11_2⟩ := zc3 BK463) | ((with_reducible refine gate_callee (f := 30) rfl ?_); refine gl (some 8) Try.func30 #[.agg #[.int .i64 a0_0, .int .i64 a0_1, .int .i64 a0_2], .agg #[.int .i64 a1_0, .int .i64 a1_1, .int .i64 a1_2]] ?_; (with_reducible refine (spec_meAsked.calls k a0_0 a0_1 a0_2 a1_0 a1_1 a1_2 true _ A3.1).mono ?_); rintro e w12 ⟨rfl, hb⟩; refine ⟨_, rfl, ?_⟩; replace BK462 := zb BK462 hb; replace BK463 := zb BK463 hb; replace HB := zB HB hb; clear hb; obtain ⟨hcz13_0, hcz13_1, hcz13_2, hfz13_0, hfz13_1, hfz13_2⟩ := zc3 BK462; obtain ⟨hcz14_0, hcz14_1, hcz14_2, hfz14_0, hfz14_1, hfz14_2⟩ := zc3 BK463) | ((with_reducible refine gate_callee (f := 33) rfl ?_); refine gl (some 12) Try.func33 #[.agg #[.int .i64 a0_0, .int .i64 a0_1, .int .i64 a0_2], .agg #[.int .i64 a1_0, .int .i64 a1_1, .int .i64 a1_2]] ?_; (with_reducible refine (spec_meRelative.calls k a0_0 a0_1 a0_2 a1_0 a1_1 a1_2 t465 t466 t467 _ A5.1).mono ?_); rintro e w15 ⟨rfl, hb⟩; refine ⟨_, rfl, ?_⟩; replace BK462 := zb BK462 hb; replace BK463 := zb BK463 hb; replace HB := zB HB hb; clear hb) | ((with_reducible refine gate_callee (f := 32) rfl ?_); refine gl (some 14) Try.func32 #[.agg #[.int .i64 t465, .int .i64 t466, .int .i64 t467], .agg #[.int .i64 0, .int .i64 1]] ?_; (with_reducible refine (spec_meTimes.calls k t465 t466 t467 0 1 t468 t471 _ A6.1).mono ?_); rintro e w16 ⟨v469, rfl, ho0, hb⟩; refine ⟨_, rfl, ?_⟩; have HO470 := Aside0.mk (Kd.R_lower ho0 (below_size (bq HB))); replace BK462 := zb BK462 hb; replace BK463 := zb BK463 hb; replace HB := zB HB hb; (try clear hb); (try clear hb2); (try clear hk); (try clear hi); (try clear ho0)))
    go_ret2
    exact ⟨_, er, rq HO470, bq HB⟩
  replace c4 := Bool.eq_false_iff.mpr c4
  subst c4
  rw [if_neg (show ¬ (false = true) by decide)] at H
  simp only [Option.some.injEq, Prod.mk.injEq] at H
  obtain ⟨rfl, rfl⟩ := H
  go_enter Try.func47, Try.ntmps47
  go_wp2_with (first | ((with_reducible refine gate_dst (N := 2) rfl ?_); refine be #[.int .i64 a0_0, .int .i64 a0_1, .int .i64 a0_2] 27 ?_; intro gb462 hg w17 hbox hb; have BK462 := Aside0.mk hbox; have GW462 := zs HB hg; have GE462 := zs HB hg; replace HB := zB HB hb; clear hb hbox hg) | ((with_reducible refine gate_dst (N := 3) rfl ?_); refine be #[.int .i64 a1_0, .int .i64 a1_1, .int .i64 a1_2] 27 ?_; intro gb463 hg w18 hbox hb; have BK463 := Aside0.mk hbox; have GW463 := zs HB hg; have GE463 := zs HB hg; have NB462_463 := zn BK462 hg; have NB463_462 := zm BK462 hg; replace BK462 := zb BK462 hb; replace HB := zB HB hb; clear hb hbox hg; have hnb19 := NB462_463.1; have hnc19 := NB463_462.1; obtain ⟨hcz20_0, hcz20_1, hcz20_2, hfz20_0, hfz20_1, hfz20_2⟩ := zc3 BK462; obtain ⟨hcz21_0, hcz21_1, hcz21_2, hfz21_0, hfz21_1, hfz21_2⟩ := zc3 BK463) | ((with_reducible refine gate_callee (f := 30) rfl ?_); refine gl (some 8) Try.func30 #[.agg #[.int .i64 a0_0, .int .i64 a0_1, .int .i64 a0_2], .agg #[.int .i64 a1_0, .int .i64 a1_1, .int .i64 a1_2]] ?_; (with_reducible refine (spec_meAsked.calls k a0_0 a0_1 a0_2 a1_0 a1_1 a1_2 false _ A3.1).mono ?_); rintro e w22 ⟨rfl, hb⟩; refine ⟨_, rfl, ?_⟩; replace BK462 := zb BK462 hb; replace BK463 := zb BK463 hb; replace HB := zB HB hb; clear hb))
  go_ret2
  exact ⟨_, er, by first | exact Kd.R_nil _ _ _ _ _ | exact Kd.N_nil _ _ _ _ _ | exact Kd.V_nil _ _ _ _ _ | exact Kd.Q_nil _ _ _ _ _ | exact Kd.S_nil _ _ _ _ _, bq HB⟩

end Go.Proofs.Ytoneipoioiokcab.PFnHandsAhead
