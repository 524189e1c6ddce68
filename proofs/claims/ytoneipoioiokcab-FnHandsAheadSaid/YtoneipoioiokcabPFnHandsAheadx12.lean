/- A part of the walk of FnHandsAhead: which Lean function each Go function comes to, and that the machine's call does so. Written by a program of this repo (wip/gen/xprint.py). -/
import Derived.Test.YtoneipoioiokcabPFnHandsAheadx0
import Derived.Test.YtoneipoioiokcabPFnHandsAheadx3
import Derived.Test.YtoneipoioiokcabPFnHandsAheadx4
import Derived.Test.YtoneipoioiokcabPFnHandsAheadx11
namespace Go.Proofs.Ytoneipoioiokcab.PFnHandsAhead
open Go.RowKit Go.Proofs.YtoneipoioiokcabW.PrintWords Go.Proofs.YtoneipoioiokcabW.PrintLast Go.Proofs.YtoneipoioiokcabW.PrintMore
attribute [local go_sem] max2_int min2_int max_two min_two max_three min_three max_four min_four   -- for this text's walks alone
set_option linter.unusedVariables false
set_option linter.unusedSimpArgs false

/-! ### spec_diGood: function 40 -/
def spec_diGood.f (k : Nat) (a0_0 : Int) (a0_1 : Int) : Option (Bool) := (spec_l1In.f a0_1 1 1000000).bind fun t290 => (if t290 = true then ((spec_l1In.f a0_0 0 (wrap64 (a0_1 - 1))).bind fun t291 => (if t291 = true then ((spec_diCommon.f k a0_0 a0_1).bind fun t292 => (some (t292 == 1))) else (some false))) else (some false))
theorem spec_diGood.mono : ∀ a0 a1 k, LeO (spec_diGood.f k a0 a1) (spec_diGood.f (k + 1) a0 a1) := by
  intro a0 a1 k
  unfold spec_diGood.f
  repeat' first
      | (with_reducible exact spec_diCommon.mono _ _ _)
      | (with_reducible exact LeO.refl _)
      | (with_reducible exact LeO.none _)
      | (with_reducible refine LeO.ite ?_ ?_)
      | (with_reducible refine LeO.bind ?_ (fun _ => ?_))
      | exact spec_diCommon.mono _ _ _
      | exact LeO.none _
      | refine LeO.ite ?_ ?_
      | refine LeO.bind ?_ (fun _ => ?_)
set_option maxHeartbeats 8000000 in
set_option maxRecDepth 100000 in
theorem spec_diGood.calls (k : Nat) (a0_0 : Int) (a0_1 : Int) (r : Bool) (w : World) (h : spec_diGood.f k a0_0 a0_1 = some r) :
    Calls Try.prog 40 #[.agg #[.int .i64 a0_0, .int .i64 a0_1]] w fun e w' => e = .returned (.bool r) ∧ Below w.heap.size w w' := by
  have hu25 := Try.underlying25
  have HB := Aside0.mk (Below.refl w.heap.size w)
  have H : ((spec_l1In.f a0_1 1 1000000).bind fun t290 => (if t290 = true then ((spec_l1In.f a0_0 0 (wrap64 (a0_1 - 1))).bind fun t291 => (if t291 = true then ((spec_diCommon.f k a0_0 a0_1).bind fun t292 => (some (t292 == 1))) else (some false))) else (some false))) = some r := h
  clear h
  replace H := Option.bind_eq_some_iff.mp H
  obtain ⟨t290, A20, H⟩ := H
  (try dsimp only at H)
  have A2 := Aside0.mk A20
  clear A20
  by_cases c3 : t290 = true
  · subst c3
    rw [if_pos rfl] at H
    replace H := Option.bind_eq_some_iff.mp H
    obtain ⟨t291, A40, H⟩ := H
    (try dsimp only at H)
    have A4 := Aside0.mk A40
    clear A40
    by_cases c5 : t291 = true
    · subst c5
      rw [if_pos rfl] at H
      replace H := Option.bind_eq_some_iff.mp H
      obtain ⟨t292, A60, H⟩ := H
      (try dsimp only at H)
      have A6 := Aside0.mk A60
      clear A60
      obtain rfl := Option.some.inj H
      go_enter Try.func40, Try.ntmps40
      go_wp2_with (first | ((with_reducible refine gate_dst (N := 1) rfl ?_); refine be #[.int .i64 a0_0, .int .i64 a0_1] 25 ?_; intro gb289 hg w7 hbox hb; have BK289 := Aside0.mk hbox; have GW289 := zs HB hg; have GE289 := zs HB hg; replace HB := zB HB hb; clear hb hbox hg; obtain ⟨hcz8_0, hcz8_1, hfz8_0, hfz8_1⟩ := zc2 BK289) | ((with_reducible refine gate_callee (f := 61) rfl ?_); refine gl (some 5) Try.func61 #[.int .i64 a0_1, .int .i64 1, .int .i64 1000000] ?_; (with_reducible refine (spec_l1In.calls a0_1 1 1000000 true _ A2.1).mono ?_); rintro e w' ⟨rfl, ⟨nd, rfl⟩⟩; refine ⟨_, rfl, ?_⟩) | (go_at_call 61; (with_reducible refine (spec_l1In.calls a0_0 0 (wrap64 (a0_1 - 1)) true _ A4.1).mono ?_); rintro e w' ⟨rfl, ⟨nd, rfl⟩⟩) | (go_at_call 62; (with_reducible refine (spec_diCommon.calls k a0_0 a0_1 t292 _ A6.1).mono ?_); rintro e w' ⟨rfl, ⟨nd, rfl⟩⟩))
      go_ret
      exact ⟨er, bq HB⟩
    replace c5 := Bool.eq_false_iff.mpr c5
    subst c5
    rw [if_neg (show ¬ (false = true) by decide)] at H
    obtain rfl := Option.some.inj H
    go_enter Try.func40, Try.ntmps40
    go_wp2_with (first | ((with_reducible refine gate_dst (N := 1) rfl ?_); refine be #[.int .i64 a0_0, .int .i64 a0_1] 25 ?_; intro gb289 hg w9 hbox hb; have BK289 := Aside0.mk hbox; have GW289 := zs HB hg; have GE289 := zs HB hg; replace HB := zB HB hb; clear hb hbox hg; obtain ⟨hcz10_0, hcz10_1, hfz10_0, hfz10_1⟩ := zc2 BK289) | ((with_reducible refine gate_callee (f := 61) rfl ?_); refine gl (some 5) Try.func61 #[.int .i64 a0_1, .int .i64 1, .int .i64 1000000] ?_; (with_reducible refine (spec_l1In.calls a0_1 1 1000000 true _ A2.1).mono ?_); rintro e w' ⟨rfl, ⟨nd, rfl⟩⟩; refine ⟨_, rfl, ?_⟩) | (go_at_call 61; (with_reducible refine (spec_l1In.calls a0_0 0 (wrap64 (a0_1 - 1)) false _ A4.1).mono ?_); rintro e w' ⟨rfl, ⟨nd, rfl⟩⟩))
    go_ret
    exact ⟨er, bq HB⟩
  replace c3 := Bool.eq_false_iff.mpr c3
  subst c3
  rw [if_neg (show ¬ (false = true) by decide)] at H
  obtain rfl := Option.some.inj H
  go_enter Try.func40, Try.ntmps40
  go_wp2_with (first | ((with_reducible refine gate_dst (N := 1) rfl ?_); refine be #[.int .i64 a0_0, .int .i64 a0_1] 25 ?_; intro gb289 hg w11 hbox hb; have BK289 := Aside0.mk hbox; have GW289 := zs HB hg; have GE289 := zs HB hg; replace HB := zB HB hb; clear hb hbox hg; obtain ⟨hcz12_0, hcz12_1, hfz12_0, hfz12_1⟩ := zc2 BK289) | ((with_reducible refine gate_callee (f := 61) rfl ?_); refine gl (some 5) Try.func61 #[.int .i64 a0_1, .int .i64 1, .int .i64 1000000] ?_; (with_reducible refine (spec_l1In.calls a0_1 1 1000000 false _ A2.1).mono ?_); rintro e w' ⟨rfl, ⟨nd, rfl⟩⟩; refine ⟨_, rfl, ?_⟩))
  go_ret
  exact ⟨er, bq HB⟩

/-! ### spec_meGood: function 43 -/
def spec_meGood.f (k : Nat) (a0_0 : Int) (a0_1 : Int) (a0_2 : Int) : Option (Bool) := (spec_diGood.f k a0_0 a0_1).bind fun t294 => (if t294 = true then (if a0_1 ≤ 1000 then ((spec_l1In.f a0_2 (-400) 400).bind fun t295 => (some t295)) else (some false)) else (some false))
theorem spec_meGood.mono : ∀ a0 a1 a2 k, LeO (spec_meGood.f k a0 a1 a2) (spec_meGood.f (k + 1) a0 a1 a2) := by
  intro a0 a1 a2 k
  unfold spec_meGood.f
  repeat' first
      | (with_reducible exact spec_diGood.mono _ _ _)
      | (with_reducible exact LeO.refl _)
      | (with_reducible exact LeO.none _)
      | (with_reducible refine LeO.ite ?_ ?_)
      | (with_reducible refine LeO.bind ?_ (fun _ => ?_))
      | exact spec_diGood.mono _ _ _
      | exact LeO.none _
      | refine LeO.ite ?_ ?_
      | refine LeO.bind ?_ (fun _ => ?_)
set_option maxHeartbeats 8000000 in
set_option maxRecDepth 100000 in
theorem spec_meGood.calls (k : Nat) (a0_0 : Int) (a0_1 : Int) (a0_2 : Int) (r : Bool) (w : World) (h : spec_meGood.f k a0_0 a0_1 a0_2 = some r) :
    Calls Try.prog 43 #[.agg #[.int .i64 a0_0, .int .i64 a0_1, .int .i64 a0_2]] w fun e w' => e = .returned (.bool r) ∧ Below w.heap.size w w' := by
  have hu27 := Try.underlying27
  have hu25 := Try.underlying25
  have HB := Aside0.mk (Below.refl w.heap.size w)
  have H : ((spec_diGood.f k a0_0 a0_1).bind fun t294 => (if t294 = true then (if a0_1 ≤ 1000 then ((spec_l1In.f a0_2 (-400) 400).bind fun t295 => (some t295)) else (some false)) else (some false))) = some r := h
  clear h
  replace H := Option.bind_eq_some_iff.mp H
  obtain ⟨t294, A20, H⟩ := H
  (try dsimp only at H)
  have A2 := Aside0.mk A20
  clear A20
  by_cases c3 : t294 = true
  · subst c3
    rw [if_pos rfl] at H
    by_cases c4 : a0_1 ≤ 1000
    · rw [if_pos c4] at H
      have c4b0 : decide (a0_1 ≤ 1000) = true := decide_eq_true c4
      clear c4
      replace H := Option.bind_eq_some_iff.mp H
      obtain ⟨t295, A50, H⟩ := H
      (try dsimp only at H)
      have A5 := Aside0.mk A50
      clear A50
      obtain rfl := Option.some.inj H
      go_enter Try.func43, Try.ntmps43
      go_wp2_with (first | ((with_reducible refine gate_dst (N := 1) rfl ?_); refine be #[.int .i64 a0_0, .int .i64 a0_1, .int .i64 a0_2] 27 ?_; intro gb293 hg w6 hbox hb; have BK293 := Aside0.mk hbox; have GW293 := zs HB hg; have GE293 := zs HB hg; replace HB := zB HB hb; clear hb hbox hg; obtain ⟨hcz7_0, hcz7_1, hcz7_2, hfz7_0, hfz7_1, hfz7_2⟩ := zc3 BK293) | ((with_reducible refine gate_callee (f := 40) rfl ?_); refine gl (some 5) Try.func40 #[.agg #[.int .i64 a0_0, .int .i64 a0_1]] ?_; (with_reducible refine (spec_diGood.calls k a0_0 a0_1 true _ A2.1).mono ?_); rintro e w8 ⟨rfl, hb⟩; refine ⟨_, rfl, ?_⟩; replace BK293 := zb BK293 hb; replace HB := zB HB hb; clear hb; obtain ⟨hcz9_0, hcz9_1, hcz9_2, hfz9_0, hfz9_1, hfz9_2⟩ := zc3 BK293) | (go_at_call 61; (with_reducible refine (spec_l1In.calls a0_2 (-400) 400 t295 _ A5.1).mono ?_); rintro e w' ⟨rfl, ⟨nd, rfl⟩⟩))
      go_ret
      exact ⟨er, bq HB⟩
    rw [if_neg c4] at H
    have c4b0 : decide (a0_1 ≤ 1000) = false := decide_eq_false c4
    clear c4
    obtain rfl := Option.some.inj H
    go_enter Try.func43, Try.ntmps43
    go_wp2_with (first | ((with_reducible refine gate_dst (N := 1) rfl ?_); refine be #[.int .i64 a0_0, .int .i64 a0_1, .int .i64 a0_2] 27 ?_; intro gb293 hg w10 hbox hb; have BK293 := Aside0.mk hbox; have GW293 := zs HB hg; have GE293 := zs HB hg; replace HB := zB HB hb; clear hb hbox hg; obtain ⟨hcz11_0, hcz11_1, hcz11_2, hfz11_0, hfz11_1, hfz11_2⟩ := zc3 BK293) | ((with_reducible refine gate_callee (f := 40) rfl ?_); refine gl (some 5) Try.func40 #[.agg #[.int .i64 a0_0, .int .i64 a0_1]] ?_; (with_reducible refine (spec_diGood.calls k a0_0 a0_1 true _ A2.1).mono ?_); rintro e w12 ⟨rfl, hb⟩; refine ⟨_, rfl, ?_⟩; replace BK293 := zb BK293 hb; replace HB := zB HB hb; clear hb; obtain ⟨hcz13_0, hcz13_1, hcz13_2, hfz13_0, hfz13_1, hfz13_2⟩ := zc3 BK293))
    go_ret
    exact ⟨er, bq HB⟩
  replace c3 := Bool.eq_false_iff.mpr c3
  subst c3
  rw [if_neg (show ¬ (false = true) by decide)] at H
  obtain rfl := Option.some.inj H
  go_enter Try.func43, Try.ntmps43
  go_wp2_with (first | ((with_reducible refine gate_dst (N := 1) rfl ?_); refine be #[.int .i64 a0_0, .int .i64 a0_1, .int .i64 a0_2] 27 ?_; intro gb293 hg w14 hbox hb; have BK293 := Aside0.mk hbox; have GW293 := zs HB hg; have GE293 := zs HB hg; replace HB := zB HB hb; clear hb hbox hg; obtain ⟨hcz15_0, hcz15_1, hcz15_2, hfz15_0, hfz15_1, hfz15_2⟩ := zc3 BK293) | ((with_reducible refine gate_callee (f := 40) rfl ?_); refine gl (some 5) Try.func40 #[.agg #[.int .i64 a0_0, .int .i64 a0_1]] ?_; (with_reducible refine (spec_diGood.calls k a0_0 a0_1 false _ A2.1).mono ?_); rintro e w16 ⟨rfl, hb⟩; refine ⟨_, rfl, ?_⟩; replace BK293 := zb BK293 hb; replace HB := zB HB hb; clear hb))
  go_ret
  exact ⟨er, bq HB⟩

/-! ### spec_meTwo: function 39 -/
def spec_meTwo.f (k : Nat) (a0_0 : Int) (a0_1 : Int) (a0_2 : Int) (a1_0 : Int) (a1_1 : Int) (a1_2 : Int) : Option (Bool) := (spec_meGood.f k a0_0 a0_1 a0_2).bind fun t298 => (if t298 = true then ((spec_meGood.f k a1_0 a1_1 a1_2).bind fun t299 => (some t299)) else (some false))
theorem spec_meTwo.mono : ∀ a0 a1 a2 a3 a4 a5 k, LeO (spec_meTwo.f k a0 a1 a2 a3 a4 a5) (spec_meTwo.f (k + 1) a0 a1 a2 a3 a4 a5) := by
  intro a0 a1 a2 a3 a4 a5 k
  unfold spec_meTwo.f
  repeat' first
      | (with_reducible exact spec_meGood.mono _ _ _ _)
      | (with_reducible exact LeO.refl _)
      | (with_reducible exact LeO.none _)
      | (with_reducible refine LeO.ite ?_ ?_)
      | (with_reducible refine LeO.bind ?_ (fun _ => ?_))
      | exact spec_meGood.mono _ _ _ _
      | exact LeO.none _
      | refine LeO.ite ?_ ?_
      | refine LeO.bind ?_ (fun _ => ?_)
set_option maxHeartbeats 8000000 in
set_option maxRecDepth 100000 in
theorem spec_meTwo.calls (k : Nat) (a0_0 : Int) (a0_1 : Int) (a0_2 : Int) (a1_0 : Int) (a1_1 : Int) (a1_2 : Int) (r : Bool) (w : World) (h : spec_meTwo.f k a0_0 a0_1 a0_2 a1_0 a1_1 a1_2 = some r) :
    Calls Try.prog 39 #[.agg #[.int .i64 a0_0, .int .i64 a0_1, .int .i64 a0_2], .agg #[.int .i64 a1_0, .int .i64 a1_1, .int .i64 a1_2]] w fun e w' => e = .returned (.bool r) ∧ Below w.heap.size w w' := by
  have hu27 := Try.underlying27
  have HB := Aside0.mk (Below.refl w.heap.size w)
  have H : ((spec_meGood.f k a0_0 a0_1 a0_2).bind fun t298 => (if t298 = true then ((spec_meGood.f k a1_0 a1_1 a1_2).bind fun t299 => (some t299)) else (some false))) = some r := h
  clear h
  replace H := Option.bind_eq_some_iff.mp H
  obtain ⟨t298, A30, H⟩ := H
  (try dsimp only at H)
  have A3 := Aside0.mk A30
  clear A30
  by_cases c4 : t298 = true
  · subst c4
    rw [if_pos rfl] at H
    replace H := Option.bind_eq_some_iff.mp H
    obtain ⟨t299, A50, H⟩ := H
    (try dsimp only at H)
    have A5 := Aside0.mk A50
    clear A50
    obtain rfl := Option.some.inj H
    go_enter Try.func39, Try.ntmps39
    go_wp2_with (first | ((with_reducible refine gate_dst (N := 2) rfl ?_); refine be #[.int .i64 a0_0, .int .i64 a0_1, .int .i64 a0_2] 27 ?_; intro gb296 hg w6 hbox hb; have BK296 := Aside0.mk hbox; have GW296 := zs HB hg; have GE296 := zs HB hg; replace HB := zB HB hb; clear hb hbox hg) | ((with_reducible refine gate_dst (N := 3) rfl ?_); refine be #[.int .i64 a1_0, .int .i64 a1_1, .int .i64 a1_2] 27 ?_; intro gb297 hg w7 hbox hb; have BK297 := Aside0.mk hbox; have GW297 := zs HB hg; have GE297 := zs HB hg; have NB296_297 := zn BK296 hg; have NB297_296 := zm BK296 hg; replace BK296 := zb BK296 hb; replace HB := zB HB hb; clear hb hbox hg; have hnb8 := NB296_297.1; have hnc8 := NB297_296.1; obtain ⟨hcz9_0, hcz9_1, hcz9_2, hfz9_0, hfz9_1, hfz9_2⟩ := zc3 BK296) | ((with_reducible refine gate_callee (f := 43) rfl ?_); refine gl (some 6) Try.func43 #[.agg #[.int .i64 a0_0, .int .i64 a0_1, .int .i64 a0_2]] ?_; (with_reducible refine (spec_meGood.calls k a0_0 a0_1 a0_2 true _ A3.1).mono ?_); rintro e w10 ⟨rfl, hb⟩; refine ⟨_, rfl, ?_⟩; replace BK296 := zb BK296 hb; replace BK297 := zb BK297 hb; replace HB := zB HB hb; clear hb; obtain ⟨hcz11_0, hcz11_1, hcz11_2, hfz11_0, hfz11_1, hfz11_2⟩ := zc3 BK297) | (go_at_call 43; (with_reducible refine (spec_meGood.calls k a1_0 a1_1 a1_2 t299 _ A5.1).mono ?_); rintro e w12 ⟨rfl, hb⟩; replace BK296 := zb BK296 hb; replace BK297 := zb BK297 hb; replace HB := zB HB hb; clear hb))
    go_ret
    exact ⟨er, bq HB⟩
  replace c4 := Bool.eq_false_iff.mpr c4
  subst c4
  rw [if_neg (show ¬ (false = true) by decide)] at H
  obtain rfl := Option.some.inj H
  go_enter Try.func39, Try.ntmps39
  go_wp2_with (first | ((with_reducible refine gate_dst (N := 2) rfl ?_); refine be #[.int .i64 a0_0, .int .i64 a0_1, .int .i64 a0_2] 27 ?_; intro gb296 hg w13 hbox hb; have BK296 := Aside0.mk hbox; have GW296 := zs HB hg; have GE296 := zs HB hg; replace HB := zB HB hb; clear hb hbox hg) | ((with_reducible refine gate_dst (N := 3) rfl ?_); refine be #[.int .i64 a1_0, .int .i64 a1_1, .int .i64 a1_2] 27 ?_; intro gb297 hg w14 hbox hb; have BK297 := Aside0.mk hbox; have GW297 := zs HB hg; have GE297 := zs HB hg; have NB296_297 := zn BK296 hg; have NB297_296 := zm BK296 hg; replace BK296 := zb BK296 hb; replace HB := zB HB hb; clear hb hbox hg; have hnb15 := NB296_297.1; have hnc15 := NB297_296.1; obtain ⟨hcz16_0, hcz16_1, hcz16_2, hfz16_0, hfz16_1, hfz16_2⟩ := zc3 BK296) | ((with_reducible refine gate_callee (f := 43) rfl ?_); refine gl (some 6) Try.func43 #[.agg #[.int .i64 a0_0, .int .i64 a0_1, .int .i64 a0_2]] ?_; (with_reducible refine (spec_meGood.calls k a0_0 a0_1 a0_2 false _ A3.1).mono ?_); rintro e w17 ⟨rfl, hb⟩; refine ⟨_, rfl, ?_⟩; replace BK296 := zb BK296 hb; replace BK297 := zb BK297 hb; replace HB := zB HB hb; clear hb))
  go_ret
  exact ⟨er, bq HB⟩

/-! ### spec_meAsked: function 30 -/
def spec_meAsked.f (k : Nat) (a0_0 : Int) (a0_1 : Int) (a0_2 : Int) (a1_0 : Int) (a1_1 : Int) (a1_2 : Int) : Option (Bool) := (spec_meTwo.f k a0_0 a0_1 a0_2 a1_0 a1_1 a1_2).bind fun t302 => (if t302 = true then (some (a0_2 != a1_2)) else (some false))
theorem spec_meAsked.mono : ∀ a0 a1 a2 a3 a4 a5 k, LeO (spec_meAsked.f k a0 a1 a2 a3 a4 a5) (spec_meAsked.f (k + 1) a0 a1 a2 a3 a4 a5) := by
  intro a0 a1 a2 a3 a4 a5 k
  unfold spec_meAsked.f
  repeat' first
      | (with_reducible exact spec_meTwo.mono _ _ _ _ _ _ _)
      | (with_reducible exact LeO.refl _)
      | (with_reducible exact LeO.none _)
      | (with_reducible refine LeO.ite ?_ ?_)
      | (with_reducible refine LeO.bind ?_ (fun _ => ?_))
      | exact spec_meTwo.mono _ _ _ _ _ _ _
      | exact LeO.none _
      | refine LeO.ite ?_ ?_
      | refine LeO.bind ?_ (fun _ => ?_)
set_option maxHeartbeats 8000000 in
set_option maxRecDepth 100000 in
theorem spec_meAsked.calls (k : Nat) (a0_0 : Int) (a0_1 : Int) (a0_2 : Int) (a1_0 : Int) (a1_1 : Int) (a1_2 : Int) (r : Bool) (w : World) (h : spec_meAsked.f k a0_0 a0_1 a0_2 a1_0 a1_1 a1_2 = some r) :
    Calls Try.prog 30 #[.agg #[.int .i64 a0_0, .int .i64 a0_1, .int .i64 a0_2], .agg #[.int .i64 a1_0, .int .i64 a1_1, .int .i64 a1_2]] w fun e w' => e = .returned (.bool r) ∧ Below w.heap.size w w' := by
  have hu27 := Try.underlying27
  have HB := Aside0.mk (Below.refl w.heap.size w)
  have H : ((spec_meTwo.f k a0_0 a0_1 a0_2 a1_0 a1_1 a1_2).bind fun t302 => (if t302 = true then (some (a0_2 != a1_2)) else (some false))) = some r := h
  clear h
  replace H := Option.bind_eq_some_iff.mp H
  obtain ⟨t302, A30, H⟩ := H
  (try dsimp only at H)
  have A3 := Aside0.mk A30
  clear A30
  by_cases c4 : t302 = true
  · subst c4
    rw [if_pos rfl] at H
    obtain rfl := Option.some.inj H
    go_enter Try.func30, Try.ntmps30
    go_wp2_with (first | ((with_reducible refine gate_dst (N := 2) rfl ?_); refine be #[.int .i64 a0_0, .int .i64 a0_1, .int .i64 a0_2] 27 ?_; intro gb300 hg w5 hbox hb; have BK300 := Aside0.mk hbox; have GW300 := zs HB hg; have GE300 := zs HB hg; replace HB := zB HB hb; clear hb hbox hg) | ((with_reducible refine gate_dst (N := 3) rfl ?_); refine be #[.int .i64 a1_0, .int .i64 a1_1, .int .i64 a1_2] 27 ?_; intro gb301 hg w6 hbox hb; have BK301 := Aside0.mk hbox; have GW301 := zs HB hg; have GE301 := zs HB hg; have NB300_301 := zn BK300 hg; have NB301_300 := zm BK300 hg; replace BK300 := zb BK300 hb; replace HB := zB HB hb; clear hb hbox hg; have hnb7 := NB300_301.1; have hnc7 := NB301_300.1; obtain ⟨hcz8_0, hcz8_1, hcz8_2, hfz8_0, hfz8_1, hfz8_2⟩ := zc3 BK300; obtain ⟨hcz9_0, hcz9_1, hcz9_2, hfz9_0, hfz9_1, hfz9_2⟩ := zc3 BK301) | ((with_reducible refine gate_callee (f := 39) rfl ?_); refine gl (some 7) Try.func39 #[.agg #[.int .i64 a0_0, .int .i64 a0_1, .int .i64 a0_2], .agg #[.int .i64 a1_0, .int .i64 a1_1, .int .i64 a1_2]] ?_; (with_reducible refine (spec_meTwo.calls k a0_0 a0_1 a0_2 a1_0 a1_1 a1_2 true _ A3.1).mono ?_); rintro e w10 ⟨rfl, hb⟩; refine ⟨_, rfl, ?_⟩; replace BK300 := zb BK300 hb; replace BK301 := zb BK301 hb; replace HB := zB HB hb; clear hb; obtain ⟨hcz11_0, hcz11_1, hcz11_2, hfz11_0, hfz11_1, hfz11_2⟩ := zc3 BK300; obtain ⟨hcz12_0, hcz12_1, hcz12_2, hfz12_0, hfz12_1, hfz12_2⟩ := zc3 BK301))
    go_ret
    exact ⟨er, bq HB⟩
  replace c4 := Bool.eq_false_iff.mpr c4
  subst c4
  rw [if_neg (show ¬ (false = true) by decide)] at H
  obtain rfl := Option.some.inj H
  go_enter Try.func30, Try.ntmps30
  go_wp2_with (first | ((with_reducible refine gate_dst (N := 2) rfl ?_); refine be #[.int .i64 a0_0, .int .i64 a0_1, .int .i64 a0_2] 27 ?_; intro gb300 hg w13 hbox hb; have BK300 := Aside0.mk hbox; have GW300 := zs HB hg; have GE300 := zs HB hg; replace HB := zB HB hb; clear hb hbox hg) | ((with_reducible refine gate_dst (N := 3) rfl ?_); refine be #[.int .i64 a1_0, .int .i64 a1_1, .int .i64 a1_2] 27 ?_; intro gb301 hg w14 hbox hb; have BK301 := Aside0.mk hbox; have GW301 := zs HB hg; have GE301 := zs HB hg; have NB300_301 := zn BK300 hg; have NB301_300 := zm BK300 hg; replace BK300 := zb BK300 hb; replace HB := zB HB hb; clear hb hbox hg; have hnb15 := NB300_301.1; have hnc15 := NB301_300.1; obtain ⟨hcz16_0, hcz16_1, hcz16_2, hfz16_0, hfz16_1, hfz16_2⟩ := zc3 BK300; obtain ⟨hcz17_0, hcz17_1, hcz17_2, hfz17_0, hfz17_1, hfz17_2⟩ := zc3 BK301) | ((with_reducible refine gate_callee (f := 39) rfl ?_); refine gl (some 7) Try.func39 #[.agg #[.int .i64 a0_0, .int .i64 a0_1, .int .i64 a0_2], .agg #[.int .i64 a1_0, .int .i64 a1_1, .int .i64 a1_2]] ?_; (with_reducible refine (spec_meTwo.calls k a0_0 a0_1 a0_2 a1_0 a1_1 a1_2 false _ A3.1).mono ?_); rintro e w18 ⟨rfl, hb⟩; refine ⟨_, rfl, ?_⟩; replace BK300 := zb BK300 hb; replace BK301 := zb BK301 hb; replace HB := zB HB hb; clear hb))
  go_ret
  exact ⟨er, bq HB⟩

/-! ### spec_mePlace: function 31 -/
def spec_mePlace.f (k : Nat) (a0_0 : Int) (a0_1 : Int) : Option (Bool) := (spec_diGood.f k a0_0 a0_1).bind fun t304 => (if t304 = true then (some (decide (a0_1 ≤ 1000))) else (some false))
theorem spec_mePlace.mono : ∀ a0 a1 k, LeO (spec_mePlace.f k a0 a1) (spec_mePlace.f (k + 1) a0 a1) := by
  intro a0 a1 k
  unfold spec_mePlace.f
  repeat' first
      | (with_reducible exact spec_diGood.mono _ _ _)
      | (with_reducible exact LeO.refl _)
      | (with_reducible exact LeO.none _)
      | (with_reducible refine LeO.ite ?_ ?_)
      | (with_reducible refine LeO.bind ?_ (fun _ => ?_))
      | exact spec_diGood.mono _ _ _
      | exact LeO.none _
      | refine LeO.ite ?_ ?_
      | refine LeO.bind ?_ (fun _ => ?_)
set_option maxHeartbeats 8000000 in
set_option maxRecDepth 100000 in
theorem spec_mePlace.calls (k : Nat) (a0_0 : Int) (a0_1 : Int) (r : Bool) (w : World) (h : spec_mePlace.f k a0_0 a0_1 = some r) :
    Calls Try.prog 31 #[.agg #[.int .i64 a0_0, .int .i64 a0_1]] w fun e w' => e = .returned (.bool r) ∧ Below w.heap.size w w' := by
  have hu25 := Try.underlying25
  have HB := Aside0.mk (Below.refl w.heap.size w)
  have H : ((spec_diGood.f k a0_0 a0_1).bind fun t304 => (if t304 = true then (some (decide (a0_1 ≤ 1000))) else (some false))) = some r := h
  clear h
  replace H := Option.bind_eq_some_iff.mp H
  obtain ⟨t304, A20, H⟩ := H
  (try dsimp only at H)
  have A2 := Aside0.mk A20
  clear A20
  by_cases c3 : t304 = true
  · subst c3
    rw [if_pos rfl] at H
    obtain rfl := Option.some.inj H
    go_enter Try.func31, Try.ntmps31
    go_wp2_with (first | ((with_reducible refine gate_dst (N := 1) rfl ?_); refine be #[.int .i64 a0_0, .int .i64 a0_1] 25 ?_; intro gb303 hg w4 hbox hb; have BK303 := Aside0.mk hbox; have GW303 := zs HB hg; have GE303 := zs HB hg; replace HB := zB HB hb; clear hb hbox hg; obtain ⟨hcz5_0, hcz5_1, hfz5_0, hfz5_1⟩ := zc2 BK303) | ((with_reducible refine gate_callee (f := 40) rfl ?_); refine gl (some 4) Try.func40 #[.agg #[.int .i64 a0_0, .int .i64 a0_1]] ?_; (with_reducible refine (spec_diGood.calls k a0_0 a0_1 true _ A2.1).mono ?_); rintro e w6 ⟨rfl, hb⟩; refine ⟨_, rfl, ?_⟩; replace BK303 := zb BK303 hb; replace HB := zB HB hb; clear hb; obtain ⟨hcz7_0, hcz7_1, hfz7_0, hfz7_1⟩ := zc2 BK303))
    go_ret
    exact ⟨er, bq HB⟩
  replace c3 := Bool.eq_false_iff.mpr c3
  subst c3
  rw [if_neg (show ¬ (false = true) by decide)] at H
  obtain rfl := Option.some.inj H
  go_enter Try.func31, Try.ntmps31
  go_wp2_with (first | ((with_reducible refine gate_dst (N := 1) rfl ?_); refine be #[.int .i64 a0_0, .int .i64 a0_1] 25 ?_; intro gb303 hg w8 hbox hb; have BK303 := Aside0.mk hbox; have GW303 := zs HB hg; have GE303 := zs HB hg; replace HB := zB HB hb; clear hb hbox hg; obtain ⟨hcz9_0, hcz9_1, hfz9_0, hfz9_1⟩ := zc2 BK303) | ((with_reducible refine gate_callee (f := 40) rfl ?_); refine gl (some 4) Try.func40 #[.agg #[.int .i64 a0_0, .int .i64 a0_1]] ?_; (with_reducible refine (spec_diGood.calls k a0_0 a0_1 false _ A2.1).mono ?_); rintro e w10 ⟨rfl, hb⟩; refine ⟨_, rfl, ?_⟩; replace BK303 := zb BK303 hb; replace HB := zB HB hb; clear hb))
  go_ret
  exact ⟨er, bq HB⟩

/-! ### spec_diAdd: function 51 -/
def spec_diAdd.f (k : Nat) (a0_0 : Int) (a0_1 : Int) (a1_0 : Int) (a1_1 : Int) (a2 : Int) : Option (Int × Int × Bool) := (spec_diMake.f k (wrap64 ((wrap64 (a0_0 * a1_1)) + (wrap64 ((wrap64 (a2 * a1_0)) * a0_1)))) (wrap64 (a0_1 * a1_1))).bind fun bt308 => (some (bt308.1, bt308.2.1, bt308.2.2))
theorem spec_diAdd.mono : ∀ a0 a1 a2 a3 a4 k, LeO (spec_diAdd.f k a0 a1 a2 a3 a4) (spec_diAdd.f (k + 1) a0 a1 a2 a3 a4) := by
  intro a0 a1 a2 a3 a4 k
  unfold spec_diAdd.f
  repeat' first
      | (with_reducible exact spec_diMake.mono _ _ _)
      | (with_reducible exact LeO.refl _)
      | (with_reducible exact LeO.none _)
      | (with_reducible refine LeO.ite ?_ ?_)
      | (with_reducible refine LeO.bind ?_ (fun _ => ?_))
      | exact spec_diMake.mono _ _ _
      | exact LeO.none _
      | refine LeO.ite ?_ ?_
      | refine LeO.bind ?_ (fun _ => ?_)
set_option maxHeartbeats 8000000 in
set_option maxRecDepth 100000 in
theorem spec_diAdd.calls (k : Nat) (a0_0 : Int) (a0_1 : Int) (a1_0 : Int) (a1_1 : Int) (a2 : Int) (r1 : Int) (r2 : Int) (r3 : Bool) (w : World) (h : spec_diAdd.f k a0_0 a0_1 a1_0 a1_1 a2 = some (r1, r2, r3)) :
    Calls Try.prog 51 #[.agg #[.int .i64 a0_0, .int .i64 a0_1], .agg #[.int .i64 a1_0, .int .i64 a1_1], .int .i64 a2] w fun e w' => e = .returned (.tuple #[.agg #[.int .i64 r1, .int .i64 r2], .bool r3]) ∧ Below w.heap.size w w' := by
  have hu25 := Try.underlying25
  have HB := Aside0.mk (Below.refl w.heap.size w)
  have H : ((spec_diMake.f k (wrap64 ((wrap64 (a0_0 * a1_1)) + (wrap64 ((wrap64 (a2 * a1_0)) * a0_1)))) (wrap64 (a0_1 * a1_1))).bind fun bt308 => (some (bt308.1, bt308.2.1, bt308.2.2))) = some (r1, r2, r3) := h
  clear h
  replace H := Option.bind_eq_some_iff.mp H
  obtain ⟨⟨t308, t309, t310⟩, A40, H⟩ := H
  (try dsimp only at H)
  have A4 := Aside0.mk A40
  clear A40
  simp only [Option.some.injEq, Prod.mk.injEq] at H
  obtain ⟨rfl, rfl, rfl⟩ := H
  go_enter Try.func51, Try.ntmps51
  go_wp2_with (first | ((with_reducible refine gate_dst (N := 3) rfl ?_); refine be #[.int .i64 a0_0, .int .i64 a0_1] 25 ?_; intro gb305 hg w5 hbox hb; have BK305 := Aside0.mk hbox; have GW305 := zs HB hg; have GE305 := zs HB hg; replace HB := zB HB hb; clear hb hbox hg) | ((with_reducible refine gate_dst (N := 4) rfl ?_); refine be #[.int .i64 a1_0, .int .i64 a1_1] 25 ?_; intro gb306 hg w6 hbox hb; have BK306 := Aside0.mk hbox; have GW306 := zs HB hg; have GE306 := zs HB hg; have NB305_306 := zn BK305 hg; have NB306_305 := zm BK305 hg; replace BK305 := zb BK305 hb; replace HB := zB HB hb; clear hb hbox hg) | ((with_reducible refine gate_dst (N := 6) rfl ?_); refine be #[.int .i64 0, .int .i64 0] 25 ?_; intro gb307 hg w7 hbox hb; have BK307 := Aside0.mk hbox; have GW307 := zs HB hg; have GE307 := zs HB hg; have NB305_307 := zn BK305 hg; have NB307_305 := zm BK305 hg; have NB306_307 := zn BK306 hg; have NB307_306 := zm BK306 hg; replace BK305 := zb BK305 hb; replace BK306 := zb BK306 hb; replace HB := zB HB hb; clear hb hbox hg; have hnb8 := NB305_306.1; have hnc8 := NB306_305.1; have hnb9 := NB305_307.1; have hnc9 := NB307_305.1; obtain ⟨hcz10_0, hcz10_1, hfz10_0, hfz10_1⟩ := zc2 BK305; have hnb11 := NB306_307.1; have hnc11 := NB307_306.1; obtain ⟨hcz12_0, hcz12_1, hfz12_0, hfz12_1⟩ := zc2 BK306) | ((with_reducible refine gate_callee (f := 53) rfl ?_); refine gl (some 26) Try.func53 #[.int .i64 (wrap64 ((wrap64 (a0_0 * a1_1)) + (wrap64 ((wrap64 (a2 * a1_0)) * a0_1)))), .int .i64 (wrap64 (a0_1 * a1_1))] ?_; (with_reducible refine (spec_diMake.calls k (wrap64 ((wrap64 (a0_0 * a1_1)) + (wrap64 ((wrap64 (a2 * a1_0)) * a0_1)))) (wrap64 (a0_1 * a1_1)) t308 t309 t310 _ A4.1).mono ?_); rintro e w13 ⟨rfl, hb⟩; refine ⟨_, rfl, ?_⟩; replace BK305 := zb BK305 hb; replace BK306 := zb BK306 hb; replace BK307 := zb BK307 hb; replace HB := zB HB hb; clear hb; obtain ⟨hcz14_0, hcz14_1, hfz14_0, hfz14_1⟩ := zc2 BK307))
  refine bodyPost_ret (results_ct rfl _ _ gb307 25 #[.int .i64 t308, .int .i64 t309] (0, 0) _ rfl (bk BK307) Try.underlying25 rfl (by kernel_rfl)) rfl ?_
  exact ⟨er, bq HB⟩

/-! ### spec_diTimes: function 71 -/
def spec_diTimes.f (k : Nat) (a0_0 : Int) (a0_1 : Int) (a1 : Int) : Option (Int × Int) := (spec_diMake.f k (wrap64 (a0_0 * a1)) a0_1).bind fun bt313 => (some (bt313.1, bt313.2.1))
theorem spec_diTimes.mono : ∀ a0 a1 a2 k, LeO (spec_diTimes.f k a0 a1 a2) (spec_diTimes.f (k + 1) a0 a1 a2) := by
  intro a0 a1 a2 k
  unfold spec_diTimes.f
  repeat' first
      | (with_reducible exact spec_diMake.mono _ _ _)
      | (with_reducible exact LeO.refl _)
      | (with_reducible exact LeO.none _)
      | (with_reducible refine LeO.ite ?_ ?_)
      | (with_reducible refine LeO.bind ?_ (fun _ => ?_))
      | exact spec_diMake.mono _ _ _
      | exact LeO.none _
      | refine LeO.ite ?_ ?_
      | refine LeO.bind ?_ (fun _ => ?_)
set_option maxHeartbeats 8000000 in
set_option maxRecDepth 100000 in
theorem spec_diTimes.calls (k : Nat) (a0_0 : Int) (a0_1 : Int) (a1 : Int) (r1 : Int) (r2 : Int) (w : World) (h : spec_diTimes.f k a0_0 a0_1 a1 = some (r1, r2)) :
    Calls Try.prog 71 #[.agg #[.int .i64 a0_0, .int .i64 a0_1], .int .i64 a1] w fun e w' => e = .returned (.agg #[.int .i64 r1, .int .i64 r2]) ∧ Below w.heap.size w w' := by
  have hu25 := Try.underlying25
  have HB := Aside0.mk (Below.refl w.heap.size w)
  have H : ((spec_diMake.f k (wrap64 (a0_0 * a1)) a0_1).bind fun bt313 => (some (bt313.1, bt313.2.1))) = some (r1, r2) := h
  clear h
  replace H := Option.bind_eq_some_iff.mp H
  obtain ⟨⟨t313, t314, t315⟩, A30, H⟩ := H
  (try dsimp only at H)
  have A3 := Aside0.mk A30
  clear A30
  simp only [Option.some.injEq, Prod.mk.injEq] at H
  obtain ⟨rfl, rfl⟩ := H
  go_enter Try.func71, Try.ntmps71
  go_wp2_with (first | ((with_reducible refine gate_dst (N := 2) rfl ?_); refine be #[.int .i64 a0_0, .int .i64 a0_1] 25 ?_; intro gb311 hg w4 hbox hb; have BK311 := Aside0.mk hbox; have GW311 := zs HB hg; have GE311 := zs HB hg; replace HB := zB HB hb; clear hb hbox hg) | ((with_reducible refine gate_dst (N := 4) rfl ?_); refine be #[.int .i64 0, .int .i64 0] 25 ?_; intro gb312 hg w5 hbox hb; have BK312 := Aside0.mk hbox; have GW312 := zs HB hg; have GE312 := zs HB hg; have NB311_312 := zn BK311 hg; have NB312_311 := zm BK311 hg; replace BK311 := zb BK311 hb; replace HB := zB HB hb; clear hb hbox hg; have hnb6 := NB311_312.1; have hnc6 := NB312_311.1; obtain ⟨hcz7_0, hcz7_1, hfz7_0, hfz7_1⟩ := zc2 BK311) | ((with_reducible refine gate_callee (f := 53) rfl ?_); refine gl (some 14) Try.func53 #[.int .i64 (wrap64 (a0_0 * a1)), .int .i64 a0_1] ?_; (with_reducible refine (spec_diMake.calls k (wrap64 (a0_0 * a1)) a0_1 t313 t314 t315 _ A3.1).mono ?_); rintro e w8 ⟨rfl, hb⟩; refine ⟨_, rfl, ?_⟩; replace BK311 := zb BK311 hb; replace BK312 := zb BK312 hb; replace HB := zB HB hb; clear hb) | ((with_reducible refine gate_dst (N := 5) rfl ?_); refine be #[.int .i64 0, .int .i64 0] 25 ?_; intro gb316 hg w9 hbox hb; have BK316 := Aside0.mk hbox; have GW316 := zs HB hg; have GE316 := zs HB hg; have NB311_316 := zn BK311 hg; have NB316_311 := zm BK311 hg; have NB312_316 := zn BK312 hg; have NB316_312 := zm BK312 hg; replace BK311 := zb BK311 hb; replace BK312 := zb BK312 hb; replace HB := zB HB hb; clear hb hbox hg; have hnb10 := NB316_311.1; have hnc10 := NB311_316.1; have hnb11 := NB316_312.1; have hnc11 := NB312_316.1; obtain ⟨hcz12_0, hcz12_1, hfz12_0, hfz12_1⟩ := zc2 BK316; obtain ⟨hcz13_0, hcz13_1, hfz13_0, hfz13_1⟩ := zc2 BK312))
  refine bodyPost_ret (results_cell_row rfl _ _ gb312 25 #[.int .i64 t313, .int .i64 t314] (0, 0) _ rfl (bk BK312) Try.underlying25 rfl (by kernel_rfl)) rfl ?_
  exact ⟨er, bq HB⟩

/-! ### spec_diMirror: function 52 -/
def spec_diMirror.f (k : Nat) (a0_0 : Int) (a0_1 : Int) : Option (Int × Int) := (spec_diTimes.f k a0_0 a0_1 (-1)).bind fun bt319 => (some (bt319.1, bt319.2))
theorem spec_diMirror.mono : ∀ a0 a1 k, LeO (spec_diMirror.f k a0 a1) (spec_diMirror.f (k + 1) a0 a1) := by
  intro a0 a1 k
  unfold spec_diMirror.f
  repeat' first
      | (with_reducible exact spec_diTimes.mono _ _ _ _)
      | (with_reducible exact LeO.refl _)
      | (with_reducible exact LeO.none _)
      | (with_reducible refine LeO.ite ?_ ?_)
      | (with_reducible refine LeO.bind ?_ (fun _ => ?_))
      | exact spec_diTimes.mono _ _ _ _
      | exact LeO.none _
      | refine LeO.ite ?_ ?_
      | refine LeO.bind ?_ (fun _ => ?_)
set_option maxHeartbeats 8000000 in
set_option maxRecDepth 100000 in
theorem spec_diMirror.calls (k : Nat) (a0_0 : Int) (a0_1 : Int) (r1 : Int) (r2 : Int) (w : World) (h : spec_diMirror.f k a0_0 a0_1 = some (r1, r2)) :
    Calls Try.prog 52 #[.agg #[.int .i64 a0_0, .int .i64 a0_1]] w fun e w' => e = .returned (.agg #[.int .i64 r1, .int .i64 r2]) ∧ Below w.heap.size w w' := by
  have hu25 := Try.underlying25
  have HB := Aside0.mk (Below.refl w.heap.size w)
  have H : ((spec_diTimes.f k a0_0 a0_1 (-1)).bind fun bt319 => (some (bt319.1, bt319.2))) = some (r1, r2) := h
  clear h
  replace H := Option.bind_eq_some_iff.mp H
  obtain ⟨⟨t319, t320⟩, A20, H⟩ := H
  (try dsimp only at H)
  have A2 := Aside0.mk A20
  clear A20
  simp only [Option.some.injEq, Prod.mk.injEq] at H
  obtain ⟨rfl, rfl⟩ := H
  go_enter Try.func52, Try.ntmps52
  go_wp2_with (first | ((with_reducible refine gate_dst (N := 1) rfl ?_); refine be #[.int .i64 a0_0, .int .i64 a0_1] 25 ?_; intro gb317 hg w3 hbox hb; have BK317 := Aside0.mk hbox; have GW317 := zs HB hg; have GE317 := zs HB hg; replace HB := zB HB hb; clear hb hbox hg) | ((with_reducible refine gate_dst (N := 2) rfl ?_); refine be #[.int .i64 0, .int .i64 0] 25 ?_; intro gb318 hg w4 hbox hb; have BK318 := Aside0.mk hbox; have GW318 := zs HB hg; have GE318 := zs HB hg; have NB317_318 := zn BK317 hg; have NB318_317 := zm BK317 hg; replace BK317 := zb BK317 hb; replace HB := zB HB hb; clear hb hbox hg; have hnb5 := NB317_318.1; have hnc5 := NB318_317.1; obtain ⟨hcz6_0, hcz6_1, hfz6_0, hfz6_1⟩ := zc2 BK317) | ((with_reducible refine gate_callee (f := 71) rfl ?_); refine gl (some 4) Try.func71 #[.agg #[.int .i64 a0_0, .int .i64 a0_1], .int .i64 (-1)] ?_; (with_reducible refine (spec_diTimes.calls k a0_0 a0_1 (-1) t319 t320 _ A2.1).mono ?_); rintro e w7 ⟨rfl, hb⟩; refine ⟨_, rfl, ?_⟩; replace BK317 := zb BK317 hb; replace BK318 := zb BK318 hb; replace HB := zB HB hb; clear hb; obtain ⟨hcz8_0, hcz8_1, hfz8_0, hfz8_1⟩ := zc2 BK318))
  refine bodyPost_ret (results_cell_row rfl _ _ gb318 25 #[.int .i64 t319, .int .i64 t320] (0, 0) _ rfl (bk BK318) Try.underlying25 rfl (by kernel_rfl)) rfl ?_
  exact ⟨er, bq HB⟩

end Go.Proofs.Ytoneipoioiokcab.PFnHandsAhead
