/- A part of the walk of FnHandsMeet: which Lean function each Go function comes to, and that the machine's call does so. Written by a program of this repo (wip/gen/xprint.py). -/
import Derived.Test.YtoneipoioiokcaaPFnHandsMeetx0
import Derived.Test.YtoneipoioiokcaaPFnHandsMeetx7
import Derived.Test.YtoneipoioiokcaaPFnHandsMeetx10
import Derived.Test.YtoneipoioiokcaaPFnHandsMeetx11
import Derived.Test.YtoneipoioiokcaaPFnHandsMeetx12
namespace Go.Proofs.Ytoneipoioiokcaa.PFnHandsMeet
open Go.RowKit Go.Proofs.YtoneipoioiokcaaW.PrintWords Go.Proofs.YtoneipoioiokcaaW.PrintLast Go.Proofs.YtoneipoioiokcaaW.PrintMore
attribute [local go_sem] max2_int min2_int max_two min_two max_three min_three max_four min_four   -- for this text's walks alone
set_option linter.unusedVariables false
set_option linter.unusedSimpArgs false

/-! ### spec_l1Most: function 58 -/
def spec_l1Most.f (a0 : Int) (a1 : Int) : Option (Int) := if a0 > a1 then (some a0) else (some a1)
set_option maxHeartbeats 8000000 in
set_option maxRecDepth 100000 in
theorem spec_l1Most.calls (a0 : Int) (a1 : Int) (r : Int) (w : World) (h : spec_l1Most.f a0 a1 = some r) :
    Calls Try.prog 58 #[.int .i64 a0, .int .i64 a1] w fun e w' => e = .returned (.int .i64 r) ∧ Drawn0 w w' := by
  have H : (if a0 > a1 then (some a0) else (some a1)) = some r := h
  clear h
  by_cases c3 : a0 > a1
  · rw [if_pos c3] at H
    have c3b0 : decide (a1 < a0) = true := decide_eq_true c3
    clear c3
    obtain rfl := Option.some.inj H
    go_enter Try.func58, Try.ntmps58
    go_wp2
    go_ret
    exact ⟨by first | rfl | (simp; done) | (simp [*]; done), by repeat (first | exact Drawn0.refl _ | apply Drawn0.step)⟩
  rw [if_neg c3] at H
  have c3b0 : decide (a1 < a0) = false := decide_eq_false c3
  clear c3
  obtain rfl := Option.some.inj H
  go_enter Try.func58, Try.ntmps58
  go_wp2
  go_ret
  exact ⟨by first | rfl | (simp; done) | (simp [*]; done), by repeat (first | exact Drawn0.refl _ | apply Drawn0.step)⟩

/-! ### spec_l1Abs: function 30 -/
def spec_l1Abs.f (a0 : Int) : Option (Int) := (spec_l1Most.f a0 (wrap64 (-a0))).bind fun t352 => (some t352)
set_option maxHeartbeats 8000000 in
set_option maxRecDepth 100000 in
theorem spec_l1Abs.calls (a0 : Int) (r : Int) (w : World) (h : spec_l1Abs.f a0 = some r) :
    Calls Try.prog 30 #[.int .i64 a0] w fun e w' => e = .returned (.int .i64 r) ∧ Drawn0 w w' := by
  have H : ((spec_l1Most.f a0 (wrap64 (-a0))).bind fun t352 => (some t352)) = some r := h
  clear h
  replace H := Option.bind_eq_some_iff.mp H
  obtain ⟨t352, A20, H⟩ := H
  (try dsimp only at H)
  have A2 := Aside0.mk A20
  clear A20
  obtain rfl := Option.some.inj H
  go_enter Try.func30, Try.ntmps30
  go_wp2_with (first | ((with_reducible refine gate_callee (f := 58) rfl ?_); refine gl (some 6) Try.func58 #[.int .i64 a0, .int .i64 (wrap64 (-a0))] ?_; (with_reducible refine (spec_l1Most.calls a0 (wrap64 (-a0)) t352 _ A2.1).mono ?_); rintro e w' ⟨rfl, ⟨nd, rfl⟩⟩; refine ⟨_, rfl, ?_⟩))
  go_ret
  exact ⟨by first | rfl | (simp; done) | (simp [*]; done), by repeat (first | exact Drawn0.refl _ | apply Drawn0.step)⟩

/-! ### spec_CountMeets: function 9 -/
def spec_CountMeets.f (k : Nat) (a0_0 : Int) (a0_1 : Int) (a0_2 : Int) (a1_0 : Int) (a1_1 : Int) (a1_2 : Int) : Option (Int × Bool) := (spec_meAsked.f k a0_0 a0_1 a0_2 a1_0 a1_1 a1_2).bind fun t355 => (if t355 = true then ((spec_l1Abs.f (wrap64 (a0_2 - a1_2))).bind fun t356 => (some (t356, true))) else (some (0, false)))
theorem spec_CountMeets.mono : ∀ a0 a1 a2 a3 a4 a5 k, LeO (spec_CountMeets.f k a0 a1 a2 a3 a4 a5) (spec_CountMeets.f (k + 1) a0 a1 a2 a3 a4 a5) := by
  intro a0 a1 a2 a3 a4 a5 k
  unfold spec_CountMeets.f
  repeat' first
      | (with_reducible exact spec_meAsked.mono _ _ _ _ _ _ _)
      | (with_reducible exact LeO.refl _)
      | (with_reducible exact LeO.none _)
      | (with_reducible refine LeO.ite ?_ ?_)
      | (with_reducible refine LeO.bind ?_ (fun _ => ?_))
      | exact spec_meAsked.mono _ _ _ _ _ _ _
      | exact LeO.none _
      | refine LeO.ite ?_ ?_
      | refine LeO.bind ?_ (fun _ => ?_)
set_option maxHeartbeats 8000000 in
set_option maxRecDepth 100000 in
theorem spec_CountMeets.calls (k : Nat) (a0_0 : Int) (a0_1 : Int) (a0_2 : Int) (a1_0 : Int) (a1_1 : Int) (a1_2 : Int) (r1 : Int) (r2 : Bool) (w : World) (h : spec_CountMeets.f k a0_0 a0_1 a0_2 a1_0 a1_1 a1_2 = some (r1, r2)) :
    Calls Try.prog 9 #[.agg #[.int .i64 a0_0, .int .i64 a0_1, .int .i64 a0_2], .agg #[.int .i64 a1_0, .int .i64 a1_1, .int .i64 a1_2]] w fun e w' => e = .returned (.tuple #[.int .i64 r1, .bool r2]) ∧ Below w.heap.size w w' := by
  have hu27 := Try.underlying27
  have HB := Aside0.mk (Below.refl w.heap.size w)
  have H : ((spec_meAsked.f k a0_0 a0_1 a0_2 a1_0 a1_1 a1_2).bind fun t355 => (if t355 = true then ((spec_l1Abs.f (wrap64 (a0_2 - a1_2))).bind fun t356 => (some (t356, true))) else (some (0, false)))) = some (r1, r2) := h
  clear h
  replace H := Option.bind_eq_some_iff.mp H
  obtain ⟨t355, A30, H⟩ := H
  (try dsimp only at H)
  have A3 := Aside0.mk A30
  clear A30
  by_cases c4 : t355 = true
  · subst c4
    rw [if_pos rfl] at H
    replace H := Option.bind_eq_some_iff.mp H
    obtain ⟨t356, A50, H⟩ := H
    (try dsimp only at H)
    have A5 := Aside0.mk A50
    clear A50
    simp only [Option.some.injEq, Prod.mk.injEq] at H
    obtain ⟨rfl, rfl⟩ := H
    go_enter Try.func9, Try.ntmps9
    go_wp2_with (first | ((with_reducible refine gate_dst (N := 2) rfl ?_); refine be #[.int .i64 a0_0, .int .i64 a0_1, .int .i64 a0_2] 27 ?_; intro gb353 hg w6 hbox hb; have BK353 := Aside0.mk hbox; have GW353 := zs HB hg; have GE353 := zs HB hg; replace HB := zB HB hb; clear hb hbox hg) | ((with_reducible refine gate_dst (N := 3) rfl ?_); refine be #[.int .i64 a1_0, .int .i64 a1_1, .int .i64 a1_2] 27 ?_; intro gb354 hg w7 hbox hb; have BK354 := Aside0.mk hbox; have GW354 := zs HB hg; have GE354 := zs HB hg; have NB353_354 := zn BK353 hg; have NB354_353 := zm BK353 hg; replace BK353 := zb BK353 hb; replace HB := zB HB hb; clear hb hbox hg; have hnb8 := NB353_354.1; have hnc8 := NB354_353.1; obtain ⟨hcz9_0, hcz9_1, hcz9_2, hfz9_0, hfz9_1, hfz9_2⟩ := zc3 BK353; obtain ⟨hcz10_0, hcz10_1, hcz10_2, hfz10_0, hfz10_1, hfz10_2⟩ := zc3 BK354) | ((with_reducible refine gate_callee (f := 26) rfl ?_); refine gl (some 8) Try.func26 #[.agg #[.int .i64 a0_0, .int .i64 a0_1, .int .i64 a0_2], .agg #[.int .i64 a1_0, .int .i64 a1_1, .int .i64 a1_2]] ?_; (with_reducible refine (spec_meAsked.calls k a0_0 a0_1 a0_2 a1_0 a1_1 a1_2 true _ A3.1).mono ?_); rintro e w11 ⟨rfl, hb⟩; refine ⟨_, rfl, ?_⟩; replace BK353 := zb BK353 hb; replace BK354 := zb BK354 hb; replace HB := zB HB hb; clear hb; obtain ⟨hcz12_0, hcz12_1, hcz12_2, hfz12_0, hfz12_1, hfz12_2⟩ := zc3 BK353; obtain ⟨hcz13_0, hcz13_1, hcz13_2, hfz13_0, hfz13_1, hfz13_2⟩ := zc3 BK354) | ((with_reducible refine gate_callee (f := 30) rfl ?_); refine gl (some 15) Try.func30 #[.int .i64 (wrap64 (a0_2 - a1_2))] ?_; (with_reducible refine (spec_l1Abs.calls (wrap64 (a0_2 - a1_2)) t356 _ A5.1).mono ?_); rintro e w' ⟨rfl, ⟨nd, rfl⟩⟩; refine ⟨_, rfl, ?_⟩))
    go_ret2
    exact ⟨er, bq HB⟩
  replace c4 := Bool.eq_false_iff.mpr c4
  subst c4
  rw [if_neg (show ¬ (false = true) by decide)] at H
  simp only [Option.some.injEq, Prod.mk.injEq] at H
  obtain ⟨rfl, rfl⟩ := H
  go_enter Try.func9, Try.ntmps9
  go_wp2_with (first | ((with_reducible refine gate_dst (N := 2) rfl ?_); refine be #[.int .i64 a0_0, .int .i64 a0_1, .int .i64 a0_2] 27 ?_; intro gb353 hg w14 hbox hb; have BK353 := Aside0.mk hbox; have GW353 := zs HB hg; have GE353 := zs HB hg; replace HB := zB HB hb; clear hb hbox hg) | ((with_reducible refine gate_dst (N := 3) rfl ?_); refine be #[.int .i64 a1_0, .int .i64 a1_1, .int .i64 a1_2] 27 ?_; intro gb354 hg w15 hbox hb; have BK354 := Aside0.mk hbox; have GW354 := zs HB hg; have GE354 := zs HB hg; have NB353_354 := zn BK353 hg; have NB354_353 := zm BK353 hg; replace BK353 := zb BK353 hb; replace HB := zB HB hb; clear hb hbox hg; have hnb16 := NB353_354.1; have hnc16 := NB354_353.1; obtain ⟨hcz17_0, hcz17_1, hcz17_2, hfz17_0, hfz17_1, hfz17_2⟩ := zc3 BK353; obtain ⟨hcz18_0, hcz18_1, hcz18_2, hfz18_0, hfz18_1, hfz18_2⟩ := zc3 BK354) | ((with_reducible refine gate_callee (f := 26) rfl ?_); refine gl (some 8) Try.func26 #[.agg #[.int .i64 a0_0, .int .i64 a0_1, .int .i64 a0_2], .agg #[.int .i64 a1_0, .int .i64 a1_1, .int .i64 a1_2]] ?_; (with_reducible refine (spec_meAsked.calls k a0_0 a0_1 a0_2 a1_0 a1_1 a1_2 false _ A3.1).mono ?_); rintro e w19 ⟨rfl, hb⟩; refine ⟨_, rfl, ?_⟩; replace BK353 := zb BK353 hb; replace BK354 := zb BK354 hb; replace HB := zB HB hb; clear hb))
  go_ret2
  exact ⟨er, bq HB⟩

/-! ### impl_FirstMeet: function 10 -/
def impl_FirstMeet.f (k : Nat) (a0_0 : Int) (a0_1 : Int) (a0_2 : Int) (a1_0 : Int) (a1_1 : Int) (a1_2 : Int) : Option (Int × Int × Bool) := (impl_MeetTimes.f k a0_0 a0_1 a0_2 a1_0 a1_1 a1_2).bind fun bt360 => (if bt360.2 = true then (if 0 < (bt360.1.length : Int) then (some ((rd_T25 bt360.1 0).f0, (rd_T25 bt360.1 0).f1, true)) else (none)) else (some (0, 0, false)))
theorem impl_FirstMeet.mono : ∀ a0 a1 a2 a3 a4 a5 k, LeO (impl_FirstMeet.f k a0 a1 a2 a3 a4 a5) (impl_FirstMeet.f (k + 1) a0 a1 a2 a3 a4 a5) := by
  intro a0 a1 a2 a3 a4 a5 k
  unfold impl_FirstMeet.f
  repeat' first
      | (with_reducible exact impl_MeetTimes.mono _ _ _ _ _ _ _)
      | (with_reducible exact LeO.refl _)
      | (with_reducible exact LeO.none _)
      | (with_reducible refine LeO.ite ?_ ?_)
      | (with_reducible refine LeO.bind ?_ (fun _ => ?_))
      | exact impl_MeetTimes.mono _ _ _ _ _ _ _
      | exact LeO.none _
      | refine LeO.ite ?_ ?_
      | refine LeO.bind ?_ (fun _ => ?_)
set_option maxHeartbeats 8000000 in
set_option maxRecDepth 100000 in
theorem impl_FirstMeet.calls (k : Nat) (a0_0 : Int) (a0_1 : Int) (a0_2 : Int) (a1_0 : Int) (a1_1 : Int) (a1_2 : Int) (r1 : Int) (r2 : Int) (r3 : Bool) (w : World) (h : impl_FirstMeet.f k a0_0 a0_1 a0_2 a1_0 a1_1 a1_2 = some (r1, r2, r3)) :
    Calls Try.prog 10 #[.agg #[.int .i64 a0_0, .int .i64 a0_1, .int .i64 a0_2], .agg #[.int .i64 a1_0, .int .i64 a1_1, .int .i64 a1_2]] w fun e w' => e = .returned (.tuple #[.agg #[.int .i64 r1, .int .i64 r2], .bool r3]) ∧ Below w.heap.size w w' := by
  have hu27 := Try.underlying27
  have hu25 := Try.underlying25
  have HB := Aside0.mk (Below.refl w.heap.size w)
  have H : ((impl_MeetTimes.f k a0_0 a0_1 a0_2 a1_0 a1_1 a1_2).bind fun bt360 => (if bt360.2 = true then (if 0 < (bt360.1.length : Int) then (some ((rd_T25 bt360.1 0).f0, (rd_T25 bt360.1 0).f1, true)) else (none)) else (some (0, 0, false)))) = some (r1, r2, r3) := h
  clear h
  replace H := Option.bind_eq_some_iff.mp H
  obtain ⟨⟨t360, t363⟩, A30, H⟩ := H
  (try dsimp only at H)
  have A3 := Aside0.mk A30
  clear A30
  by_cases c4 : t363 = true
  · subst c4
    rw [if_pos rfl] at H
    by_cases c5 : 0 < (t360.length : Int)
    · rw [if_pos c5] at H
      have c5b0 : decide (0 < (t360.length : Int)) = true := decide_eq_true c5
      have c5b1 : decide (0 < t360.length) = true := decide_eq_true (by omega)
      clear c5
      simp only [Option.some.injEq, Prod.mk.injEq] at H
      obtain ⟨rfl, rfl, rfl⟩ := H
      go_enter Try.func10, Try.ntmps10
      go_wp2_with (first | ((with_reducible refine gate_dst (N := 2) rfl ?_); refine be #[.int .i64 a0_0, .int .i64 a0_1, .int .i64 a0_2] 27 ?_; intro gb357 hg w6 hbox hb; have BK357 := Aside0.mk hbox; have GW357 := zs HB hg; have GE357 := zs HB hg; replace HB := zB HB hb; clear hb hbox hg) | ((with_reducible refine gate_dst (N := 3) rfl ?_); refine be #[.int .i64 a1_0, .int .i64 a1_1, .int .i64 a1_2] 27 ?_; intro gb358 hg w7 hbox hb; have BK358 := Aside0.mk hbox; have GW358 := zs HB hg; have GE358 := zs HB hg; have NB357_358 := zn BK357 hg; have NB358_357 := zm BK357 hg; replace BK357 := zb BK357 hb; replace HB := zB HB hb; clear hb hbox hg) | ((with_reducible refine gate_dst (N := 4) rfl ?_); refine be #[.int .i64 0, .int .i64 0] 25 ?_; intro gb359 hg w8 hbox hb; have BK359 := Aside0.mk hbox; have GW359 := zs HB hg; have GE359 := zs HB hg; have NB357_359 := zn BK357 hg; have NB359_357 := zm BK357 hg; have NB358_359 := zn BK358 hg; have NB359_358 := zm BK358 hg; replace BK357 := zb BK357 hb; replace BK358 := zb BK358 hb; replace HB := zB HB hb; clear hb hbox hg; have hnb9 := NB357_358.1; have hnc9 := NB358_357.1; have hnb10 := NB357_359.1; have hnc10 := NB359_357.1; obtain ⟨hcz11_0, hcz11_1, hcz11_2, hfz11_0, hfz11_1, hfz11_2⟩ := zc3 BK357; have hnb12 := NB358_359.1; have hnc12 := NB359_358.1; obtain ⟨hcz13_0, hcz13_1, hcz13_2, hfz13_0, hfz13_1, hfz13_2⟩ := zc3 BK358) | ((with_reducible refine gate_callee (f := 6) rfl ?_); refine gl (some 11) Try.func6 #[.agg #[.int .i64 a0_0, .int .i64 a0_1, .int .i64 a0_2], .agg #[.int .i64 a1_0, .int .i64 a1_1, .int .i64 a1_2]] ?_; (with_reducible refine (impl_MeetTimes.calls k a0_0 a0_1 a0_2 a1_0 a1_1 a1_2 t360 true _ A3.1).mono ?_); rintro e w14 ⟨v361, rfl, ho0, hb⟩; refine ⟨_, rfl, ?_⟩; have HO362 := Aside0.mk (Kd.R_lower (Kd.R_newB ho0 (g := gb359) (o := .cells #[.int .i64 0, .int .i64 0] 25 (0, 0)) (bk BK359)) (below_size (bq HB))); replace BK357 := zb BK357 hb; replace BK358 := zb BK358 hb; replace BK359 := zb BK359 hb; replace HB := zB HB hb; (try clear hb); (try clear hb2); (try clear hk); (try clear hi); (try clear ho0); obtain ⟨Ao15, co15, eo15⟩ := Kd.R_slice HO362.1; subst eo15; have p364 : 0 ≤ (0 : Int) := (by omega); have q364 : 0 < (t360.length : Int) := of_decide_eq_true (by first | (with_reducible assumption) | assumption); obtain ⟨ad364, e364, hx364_0, hx364_1⟩ := at_T25 (Kd.R_reads' HO362.1).2.2 0 p364 q364; cases e364; have qi364 : (0 < t360.length) = True := eq_true (by omega); (try rw [show ((0 : Int)).toNat = 0 from rfl] at hx364_0); (try rw [show 0 * 2 = 0 from rfl] at hx364_0); (try rw [Addr.add_zero'] at hx364_0); (try rw [show ((0 : Int)).toNat = 0 from rfl] at hx364_1); (try rw [show 0 * 2 = 0 from rfl] at hx364_1); (try rw [Addr.add_zero'] at hx364_1); replace p364 := eq_true p364; replace q364 := eq_true q364; obtain ⟨hcz16_0, hcz16_1, hfz16_0, hfz16_1⟩ := zc2 BK359))
      refine bodyPost_ret (results_ct rfl _ _ gb359 25 #[.int .i64 ((rd_T25 t360 0).f0), .int .i64 ((rd_T25 t360 0).f1)] (0, 0) _ rfl (bk BK359) Try.underlying25 rfl (by kernel_rfl)) rfl ?_
      exact ⟨er, bq HB⟩
    rw [if_neg c5] at H
    exact absurd H (by simp)
  replace c4 := Bool.eq_false_iff.mpr c4
  subst c4
  rw [if_neg (show ¬ (false = true) by decide)] at H
  simp only [Option.some.injEq, Prod.mk.injEq] at H
  obtain ⟨rfl, rfl, rfl⟩ := H
  go_enter Try.func10, Try.ntmps10
  go_wp2_with (first | ((with_reducible refine gate_dst (N := 2) rfl ?_); refine be #[.int .i64 a0_0, .int .i64 a0_1, .int .i64 a0_2] 27 ?_; intro gb357 hg w17 hbox hb; have BK357 := Aside0.mk hbox; have GW357 := zs HB hg; have GE357 := zs HB hg; replace HB := zB HB hb; clear hb hbox hg) | ((with_reducible refine gate_dst (N := 3) rfl ?_); refine be #[.int .i64 a1_0, .int .i64 a1_1, .int .i64 a1_2] 27 ?_; intro gb358 hg w18 hbox hb; have BK358 := Aside0.mk hbox; have GW358 := zs HB hg; have GE358 := zs HB hg; have NB357_358 := zn BK357 hg; have NB358_357 := zm BK357 hg; replace BK357 := zb BK357 hb; replace HB := zB HB hb; clear hb hbox hg) | ((with_reducible refine gate_dst (N := 4) rfl ?_); refine be #[.int .i64 0, .int .i64 0] 25 ?_; intro gb359 hg w19 hbox hb; have BK359 := Aside0.mk hbox; have GW359 := zs HB hg; have GE359 := zs HB hg; have NB357_359 := zn BK357 hg; have NB359_357 := zm BK357 hg; have NB358_359 := zn BK358 hg; have NB359_358 := zm BK358 hg; replace BK357 := zb BK357 hb; replace BK358 := zb BK358 hb; replace HB := zB HB hb; clear hb hbox hg; have hnb20 := NB357_358.1; have hnc20 := NB358_357.1; have hnb21 := NB357_359.1; have hnc21 := NB359_357.1; obtain ⟨hcz22_0, hcz22_1, hcz22_2, hfz22_0, hfz22_1, hfz22_2⟩ := zc3 BK357; have hnb23 := NB358_359.1; have hnc23 := NB359_358.1; obtain ⟨hcz24_0, hcz24_1, hcz24_2, hfz24_0, hfz24_1, hfz24_2⟩ := zc3 BK358) | ((with_reducible refine gate_callee (f := 6) rfl ?_); refine gl (some 11) Try.func6 #[.agg #[.int .i64 a0_0, .int .i64 a0_1, .int .i64 a0_2], .agg #[.int .i64 a1_0, .int .i64 a1_1, .int .i64 a1_2]] ?_; (with_reducible refine (impl_MeetTimes.calls k a0_0 a0_1 a0_2 a1_0 a1_1 a1_2 t360 false _ A3.1).mono ?_); rintro e w25 ⟨v361, rfl, ho0, hb⟩; refine ⟨_, rfl, ?_⟩; have HO362 := Aside0.mk (Kd.R_lower (Kd.R_newB ho0 (g := gb359) (o := .cells #[.int .i64 0, .int .i64 0] 25 (0, 0)) (bk BK359)) (below_size (bq HB))); replace BK357 := zb BK357 hb; replace BK358 := zb BK358 hb; replace BK359 := zb BK359 hb; replace HB := zB HB hb; (try clear hb); (try clear hb2); (try clear hk); (try clear hi); (try clear ho0); obtain ⟨hcz26_0, hcz26_1, hfz26_0, hfz26_1⟩ := zc2 BK359))
  refine bodyPost_ret (results_ct rfl _ _ gb359 25 #[.int .i64 0, .int .i64 0] (0, 0) _ rfl (bk BK359) Try.underlying25 rfl (by kernel_rfl)) rfl ?_
  exact ⟨er, bq HB⟩

/-! ### spec_FirstMeet: function 11 -/
def spec_FirstMeet.f (k : Nat) (a0_0 : Int) (a0_1 : Int) (a0_2 : Int) (a1_0 : Int) (a1_1 : Int) (a1_2 : Int) : Option (Int × Int × Bool) := (spec_MeetTimes.f k a0_0 a0_1 a0_2 a1_0 a1_1 a1_2).bind fun bt368 => (if bt368.2 = true then (if 0 < (bt368.1.length : Int) then (some ((rd_T25 bt368.1 0).f0, (rd_T25 bt368.1 0).f1, true)) else (none)) else (some (0, 0, false)))
theorem spec_FirstMeet.mono : ∀ a0 a1 a2 a3 a4 a5 k, LeO (spec_FirstMeet.f k a0 a1 a2 a3 a4 a5) (spec_FirstMeet.f (k + 1) a0 a1 a2 a3 a4 a5) := by
  intro a0 a1 a2 a3 a4 a5 k
  unfold spec_FirstMeet.f
  repeat' first
      | (with_reducible exact spec_MeetTimes.mono _ _ _ _ _ _ _)
      | (with_reducible exact LeO.refl _)
      | (with_reducible exact LeO.none _)
      | (with_reducible refine LeO.ite ?_ ?_)
      | (with_reducible refine LeO.bind ?_ (fun _ => ?_))
      | exact spec_MeetTimes.mono _ _ _ _ _ _ _
      | exact LeO.none _
      | refine LeO.ite ?_ ?_
      | refine LeO.bind ?_ (fun _ => ?_)
set_option maxHeartbeats 8000000 in
set_option maxRecDepth 100000 in
theorem spec_FirstMeet.calls (k : Nat) (a0_0 : Int) (a0_1 : Int) (a0_2 : Int) (a1_0 : Int) (a1_1 : Int) (a1_2 : Int) (r1 : Int) (r2 : Int) (r3 : Bool) (w : World) (h : spec_FirstMeet.f k a0_0 a0_1 a0_2 a1_0 a1_1 a1_2 = some (r1, r2, r3)) :
    Calls Try.prog 11 #[.agg #[.int .i64 a0_0, .int .i64 a0_1, .int .i64 a0_2], .agg #[.int .i64 a1_0, .int .i64 a1_1, .int .i64 a1_2]] w fun e w' => e = .returned (.tuple #[.agg #[.int .i64 r1, .int .i64 r2], .bool r3]) ∧ Below w.heap.size w w' := by
  have hu27 := Try.underlying27
  have hu25 := Try.underlying25
  have HB := Aside0.mk (Below.refl w.heap.size w)
  have H : ((spec_MeetTimes.f k a0_0 a0_1 a0_2 a1_0 a1_1 a1_2).bind fun bt368 => (if bt368.2 = true then (if 0 < (bt368.1.length : Int) then (some ((rd_T25 bt368.1 0).f0, (rd_T25 bt368.1 0).f1, true)) else (none)) else (some (0, 0, false)))) = some (r1, r2, r3) := h
  clear h
  replace H := Option.bind_eq_some_iff.mp H
  obtain ⟨⟨t368, t371⟩, A30, H⟩ := H
  (try dsimp only at H)
  have A3 := Aside0.mk A30
  clear A30
  by_cases c4 : t371 = true
  · subst c4
    rw [if_pos rfl] at H
    by_cases c5 : 0 < (t368.length : Int)
    · rw [if_pos c5] at H
      have c5b0 : decide (0 < (t368.length : Int)) = true := decide_eq_true c5
      have c5b1 : decide (0 < t368.length) = true := decide_eq_true (by omega)
      clear c5
      simp only [Option.some.injEq, Prod.mk.injEq] at H
      obtain ⟨rfl, rfl, rfl⟩ := H
      go_enter Try.func11, Try.ntmps11
      go_wp2_with (first | ((with_reducible refine gate_dst (N := 2) rfl ?_); refine be #[.int .i64 a0_0, .int .i64 a0_1, .int .i64 a0_2] 27 ?_; intro gb365 hg w6 hbox hb; have BK365 := Aside0.mk hbox; have GW365 := zs HB hg; have GE365 := zs HB hg; replace HB := zB HB hb; clear hb hbox hg) | ((with_reducible refine gate_dst (N := 3) rfl ?_); refine be #[.int .i64 a1_0, .int .i64 a1_1, .int .i64 a1_2] 27 ?_; intro gb366 hg w7 hbox hb; have BK366 := Aside0.mk hbox; have GW366 := zs HB hg; have GE366 := zs HB hg; have NB365_366 := zn BK365 hg; have NB366_365 := zm BK365 hg; replace BK365 := zb BK365 hb; replace HB := zB HB hb; clear hb hbox hg) | ((with_reducible refine gate_dst (N := 4) rfl ?_); refine be #[.int .i64 0, .int .i64 0] 25 ?_; intro gb367 hg w8 hbox hb; have BK367 := Aside0.mk hbox; have GW367 := zs HB hg; have GE367 := zs HB hg; have NB365_367 := zn BK365 hg; have NB367_365 := zm BK365 hg; have NB366_367 := zn BK366 hg; have NB367_366 := zm BK366 hg; replace BK365 := zb BK365 hb; replace BK366 := zb BK366 hb; replace HB := zB HB hb; clear hb hbox hg; have hnb9 := NB365_366.1; have hnc9 := NB366_365.1; have hnb10 := NB365_367.1; have hnc10 := NB367_365.1; obtain ⟨hcz11_0, hcz11_1, hcz11_2, hfz11_0, hfz11_1, hfz11_2⟩ := zc3 BK365; have hnb12 := NB366_367.1; have hnc12 := NB367_366.1; obtain ⟨hcz13_0, hcz13_1, hcz13_2, hfz13_0, hfz13_1, hfz13_2⟩ := zc3 BK366) | ((with_reducible refine gate_callee (f := 7) rfl ?_); refine gl (some 11) Try.func7 #[.agg #[.int .i64 a0_0, .int .i64 a0_1, .int .i64 a0_2], .agg #[.int .i64 a1_0, .int .i64 a1_1, .int .i64 a1_2]] ?_; (with_reducible refine (spec_MeetTimes.calls k a0_0 a0_1 a0_2 a1_0 a1_1 a1_2 t368 true _ A3.1).mono ?_); rintro e w14 ⟨v369, rfl, ho0, hb⟩; refine ⟨_, rfl, ?_⟩; have HO370 := Aside0.mk (Kd.R_lower (Kd.R_newB ho0 (g := gb367) (o := .cells #[.int .i64 0, .int .i64 0] 25 (0, 0)) (bk BK367)) (below_size (bq HB))); replace BK365 := zb BK365 hb; replace BK366 := zb BK366 hb; replace BK367 := zb BK367 hb; replace HB := zB HB hb; (try clear hb); (try clear hb2); (try clear hk); (try clear hi); (try clear ho0); obtain ⟨Ao15, co15, eo15⟩ := Kd.R_slice HO370.1; subst eo15; have p372 : 0 ≤ (0 : Int) := (by omega); have q372 : 0 < (t368.length : Int) := of_decide_eq_true (by first | (with_reducible assumption) | assumption); obtain ⟨ad372, e372, hx372_0, hx372_1⟩ := at_T25 (Kd.R_reads' HO370.1).2.2 0 p372 q372; cases e372; have qi372 : (0 < t368.length) = True := eq_true (by omega); (try rw [show ((0 : Int)).toNat = 0 from rfl] at hx372_0); (try rw [show 0 * 2 = 0 from rfl] at hx372_0); (try rw [Addr.add_zero'] at hx372_0); (try rw [show ((0 : Int)).toNat = 0 from rfl] at hx372_1); (try rw [show 0 * 2 = 0 from rfl] at hx372_1); (try rw [Addr.add_zero'] at hx372_1); replace p372 := eq_true p372; replace q372 := eq_true q372; obtain ⟨hcz16_0, hcz16_1, hfz16_0, hfz16_1⟩ := zc2 BK367))
      refine bodyPost_ret (results_ct rfl _ _ gb367 25 #[.int .i64 ((rd_T25 t368 0).f0), .int .i64 ((rd_T25 t368 0).f1)] (0, 0) _ rfl (bk BK367) Try.underlying25 rfl (by kernel_rfl)) rfl ?_
      exact ⟨er, bq HB⟩
    rw [if_neg c5] at H
    exact absurd H (by simp)
  replace c4 := Bool.eq_false_iff.mpr c4
  subst c4
  rw [if_neg (show ¬ (false = true) by decide)] at H
  simp only [Option.some.injEq, Prod.mk.injEq] at H
  obtain ⟨rfl, rfl, rfl⟩ := H
  go_enter Try.func11, Try.ntmps11
  go_wp2_with (first | ((with_reducible refine gate_dst (N := 2) rfl ?_); refine be #[.int .i64 a0_0, .int .i64 a0_1, .int .i64 a0_2] 27 ?_; intro gb365 hg w17 hbox hb; have BK365 := Aside0.mk hbox; have GW365 := zs HB hg; have GE365 := zs HB hg; replace HB := zB HB hb; clear hb hbox hg) | ((with_reducible refine gate_dst (N := 3) rfl ?_); refine be #[.int .i64 a1_0, .int .i64 a1_1, .int .i64 a1_2] 27 ?_; intro gb366 hg w18 hbox hb; have BK366 := Aside0.mk hbox; have GW366 := zs HB hg; have GE366 := zs HB hg; have NB365_366 := zn BK365 hg; have NB366_365 := zm BK365 hg; replace BK365 := zb BK365 hb; replace HB := zB HB hb; clear hb hbox hg) | ((with_reducible refine gate_dst (N := 4) rfl ?_); refine be #[.int .i64 0, .int .i64 0] 25 ?_; intro gb367 hg w19 hbox hb; have BK367 := Aside0.mk hbox; have GW367 := zs HB hg; have GE367 := zs HB hg; have NB365_367 := zn BK365 hg; have NB367_365 := zm BK365 hg; have NB366_367 := zn BK366 hg; have NB367_366 := zm BK366 hg; replace BK365 := zb BK365 hb; replace BK366 := zb BK366 hb; replace HB := zB HB hb; clear hb hbox hg; have hnb20 := NB365_366.1; have hnc20 := NB366_365.1; have hnb21 := NB365_367.1; have hnc21 := NB367_365.1; obtain ⟨hcz22_0, hcz22_1, hcz22_2, hfz22_0, hfz22_1, hfz22_2⟩ := zc3 BK365; have hnb23 := NB366_367.1; have hnc23 := NB367_366.1; obtain ⟨hcz24_0, hcz24_1, hcz24_2, hfz24_0, hfz24_1, hfz24_2⟩ := zc3 BK366) | ((with_reducible refine gate_callee (f := 7) rfl ?_); refine gl (some 11) Try.func7 #[.agg #[.int .i64 a0_0, .int .i64 a0_1, .int .i64 a0_2], .agg #[.int .i64 a1_0, .int .i64 a1_1, .int .i64 a1_2]] ?_; (with_reducible refine (spec_MeetTimes.calls k a0_0 a0_1 a0_2 a1_0 a1_1 a1_2 t368 false _ A3.1).mono ?_); rintro e w25 ⟨v369, rfl, ho0, hb⟩; refine ⟨_, rfl, ?_⟩; have HO370 := Aside0.mk (Kd.R_lower (Kd.R_newB ho0 (g := gb367) (o := .cells #[.int .i64 0, .int .i64 0] 25 (0, 0)) (bk BK367)) (below_size (bq HB))); replace BK365 := zb BK365 hb; replace BK366 := zb BK366 hb; replace BK367 := zb BK367 hb; replace HB := zB HB hb; (try clear hb); (try clear hb2); (try clear hk); (try clear hi); (try clear ho0); obtain ⟨hcz26_0, hcz26_1, hfz26_0, hfz26_1⟩ := zc2 BK367))
  refine bodyPost_ret (results_ct rfl _ _ gb367 25 #[.int .i64 0, .int .i64 0] (0, 0) _ rfl (bk BK367) Try.underlying25 rfl (by kernel_rfl)) rfl ?_
  exact ⟨er, bq HB⟩

/-! ### impl_Turn_plus: function 59 -/
def impl_Turn_plus.f (k : Nat) (a0_0 : Int) (a0_1 : Int) (a1_0 : Int) (a1_1 : Int) : Option (Int × Int) := (impl_part.f k (wrap64 ((wrap64 (a0_0 * a1_1)) + (wrap64 (a1_0 * a0_1)))) (wrap64 (a0_1 * a1_1))).bind fun bt376 => (some (bt376.1, bt376.2))
theorem impl_Turn_plus.mono : ∀ a0 a1 a2 a3 k, LeO (impl_Turn_plus.f k a0 a1 a2 a3) (impl_Turn_plus.f (k + 1) a0 a1 a2 a3) := by
  intro a0 a1 a2 a3 k
  unfold impl_Turn_plus.f
  repeat' first
      | (with_reducible exact impl_part.mono _ _ _)
      | (with_reducible exact LeO.refl _)
      | (with_reducible exact LeO.none _)
      | (with_reducible refine LeO.ite ?_ ?_)
      | (with_reducible refine LeO.bind ?_ (fun _ => ?_))
      | exact impl_part.mono _ _ _
      | exact LeO.none _
      | refine LeO.ite ?_ ?_
      | refine LeO.bind ?_ (fun _ => ?_)
set_option maxHeartbeats 8000000 in
set_option maxRecDepth 100000 in
theorem impl_Turn_plus.calls (k : Nat) (a0_0 : Int) (a0_1 : Int) (a1_0 : Int) (a1_1 : Int) (r1 : Int) (r2 : Int) (w : World) (h : impl_Turn_plus.f k a0_0 a0_1 a1_0 a1_1 = some (r1, r2)) :
    Calls Try.prog 59 #[.agg #[.int .i64 a0_0, .int .i64 a0_1], .agg #[.int .i64 a1_0, .int .i64 a1_1]] w fun e w' => e = .returned (.agg #[.int .i64 r1, .int .i64 r2]) ∧ Below w.heap.size w w' := by
  have hu25 := Try.underlying25
  have HB := Aside0.mk (Below.refl w.heap.size w)
  have H : ((impl_part.f k (wrap64 ((wrap64 (a0_0 * a1_1)) + (wrap64 (a1_0 * a0_1)))) (wrap64 (a0_1 * a1_1))).bind fun bt376 => (some (bt376.1, bt376.2))) = some (r1, r2) := h
  clear h
  replace H := Option.bind_eq_some_iff.mp H
  obtain ⟨⟨t376, t377⟩, A30, H⟩ := H
  (try dsimp only at H)
  have A3 := Aside0.mk A30
  clear A30
  simp only [Option.some.injEq, Prod.mk.injEq] at H
  obtain ⟨rfl, rfl⟩ := H
  go_enter Try.func59, Try.ntmps59
  go_wp2_with (first | ((with_reducible refine gate_dst (N := 2) rfl ?_); refine be #[.int .i64 a0_0, .int .i64 a0_1] 25 ?_; intro gb373 hg w4 hbox hb; have BK373 := Aside0.mk hbox; have GW373 := zs HB hg; have GE373 := zs HB hg; replace HB := zB HB hb; clear hb hbox hg) | ((with_reducible refine gate_dst (N := 3) rfl ?_); refine be #[.int .i64 a1_0, .int .i64 a1_1] 25 ?_; intro gb374 hg w5 hbox hb; have BK374 := Aside0.mk hbox; have GW374 := zs HB hg; have GE374 := zs HB hg; have NB373_374 := zn BK373 hg; have NB374_373 := zm BK373 hg; replace BK373 := zb BK373 hb; replace HB := zB HB hb; clear hb hbox hg) | ((with_reducible refine gate_dst (N := 4) rfl ?_); refine be #[.int .i64 0, .int .i64 0] 25 ?_; intro gb375 hg w6 hbox hb; have BK375 := Aside0.mk hbox; have GW375 := zs HB hg; have GE375 := zs HB hg; have NB373_375 := zn BK373 hg; have NB375_373 := zm BK373 hg; have NB374_375 := zn BK374 hg; have NB375_374 := zm BK374 hg; replace BK373 := zb BK373 hb; replace BK374 := zb BK374 hb; replace HB := zB HB hb; clear hb hbox hg; have hnb7 := NB373_374.1; have hnc7 := NB374_373.1; have hnb8 := NB373_375.1; have hnc8 := NB375_373.1; obtain ⟨hcz9_0, hcz9_1, hfz9_0, hfz9_1⟩ := zc2 BK373; have hnb10 := NB374_375.1; have hnc10 := NB375_374.1; obtain ⟨hcz11_0, hcz11_1, hfz11_0, hfz11_1⟩ := zc2 BK374) | ((with_reducible refine gate_callee (f := 80) rfl ?_); refine gl (some 21) Try.func80 #[.int .i64 (wrap64 ((wrap64 (a0_0 * a1_1)) + (wrap64 (a1_0 * a0_1)))), .int .i64 (wrap64 (a0_1 * a1_1))] ?_; (with_reducible refine (impl_part.calls k (wrap64 ((wrap64 (a0_0 * a1_1)) + (wrap64 (a1_0 * a0_1)))) (wrap64 (a0_1 * a1_1)) t376 t377 _ A3.1).mono ?_); rintro e w12 ⟨rfl, hb⟩; refine ⟨_, rfl, ?_⟩; replace BK373 := zb BK373 hb; replace BK374 := zb BK374 hb; replace BK375 := zb BK375 hb; replace HB := zB HB hb; clear hb; obtain ⟨hcz13_0, hcz13_1, hfz13_0, hfz13_1⟩ := zc2 BK375))
  refine bodyPost_ret (results_cell_row rfl _ _ gb375 25 #[.int .i64 t376, .int .i64 t377] (0, 0) _ rfl (bk BK375) Try.underlying25 rfl (by kernel_rfl)) rfl ?_
  exact ⟨er, bq HB⟩

/-! ### impl_Hand_at: function 31 -/
def impl_Hand_at.f (k : Nat) (a0_0 : Int) (a0_1 : Int) (a0_2 : Int) (a1_0 : Int) (a1_1 : Int) : Option (Int × Int) := (impl_Turn_times.f k a1_0 a1_1 a0_2).bind fun bt381 => ((impl_Turn_plus.f k a0_0 a0_1 bt381.1 bt381.2).bind fun bt383 => (some (bt383.1, bt383.2)))
theorem impl_Hand_at.mono : ∀ a0 a1 a2 a3 a4 k, LeO (impl_Hand_at.f k a0 a1 a2 a3 a4) (impl_Hand_at.f (k + 1) a0 a1 a2 a3 a4) := by
  intro a0 a1 a2 a3 a4 k
  unfold impl_Hand_at.f
  repeat' first
      | (with_reducible exact impl_Turn_plus.mono _ _ _ _ _)
      | (with_reducible exact impl_Turn_times.mono _ _ _ _)
      | (with_reducible exact LeO.refl _)
      | (with_reducible exact LeO.none _)
      | (with_reducible refine LeO.ite ?_ ?_)
      | (with_reducible refine LeO.bind ?_ (fun _ => ?_))
      | exact impl_Turn_plus.mono _ _ _ _ _
      | exact impl_Turn_times.mono _ _ _ _
      | exact LeO.none _
      | refine LeO.ite ?_ ?_
      | refine LeO.bind ?_ (fun _ => ?_)
def impl_Hand_at.T1 : Bool × List (List Nat × List Nat) := (true, [([], []), ([0], [0]), ([], []), ([], []), ([3], [3]), ([2, 4], [2, 4]), ([1, 5, 5], [1, 5]), ([6, 6, 0, 1, 2, 3, 4, 5, 6], [6])])
def impl_Hand_at.B1 : List Nat := [0, 1, 0, 0, 8, 28, 63, 127]
theorem impl_Hand_at.tab1 : rtab .any (opsOf Try.f31 1) = impl_Hand_at.T1 := by kernel_rfl
theorem impl_Hand_at.bits1 : waitsOk impl_Hand_at.T1.2 impl_Hand_at.B1 = true := by kernel_rfl
set_option maxHeartbeats 8000000 in
set_option maxRecDepth 100000 in
theorem impl_Hand_at.calls (k : Nat) (a0_0 : Int) (a0_1 : Int) (a0_2 : Int) (a1_0 : Int) (a1_1 : Int) (r1 : Int) (r2 : Int) (w : World) (h : impl_Hand_at.f k a0_0 a0_1 a0_2 a1_0 a1_1 = some (r1, r2)) :
    Calls Try.prog 31 #[.agg #[.int .i64 a0_0, .int .i64 a0_1, .int .i64 a0_2], .agg #[.int .i64 a1_0, .int .i64 a1_1]] w fun e w' => e = .returned (.agg #[.int .i64 r1, .int .i64 r2]) ∧ Below w.heap.size w w' := by
  have hu27 := Try.underlying27
  have hu25 := Try.underlying25
  have HB := Aside0.mk (Below.refl w.heap.size w)
  have H : ((impl_Turn_times.f k a1_0 a1_1 a0_2).bind fun bt381 => ((impl_Turn_plus.f k a0_0 a0_1 bt381.1 bt381.2).bind fun bt383 => (some (bt383.1, bt383.2)))) = some (r1, r2) := h
  clear h
  replace H := Option.bind_eq_some_iff.mp H
  obtain ⟨⟨t381, t382⟩, A30, H⟩ := H
  (try dsimp only at H)
  have A3 := Aside0.mk A30
  clear A30
  replace H := Option.bind_eq_some_iff.mp H
  obtain ⟨⟨t383, t384⟩, A40, H⟩ := H
  (try dsimp only at H)
  have A4 := Aside0.mk A40
  clear A40
  simp only [Option.some.injEq, Prod.mk.injEq] at H
  obtain ⟨rfl, rfl⟩ := H
  go_enter Try.func31, Try.ntmps31
  try go_wp2_with (first | ((with_reducible refine gate_dst (N := 2) rfl ?_); refine be #[.int .i64 a0_0, .int .i64 a0_1, .int .i64 a0_2] 27 ?_; intro gb378 hg w5 hbox hb; have BK378 := Aside0.mk hbox; have GW378 := zs HB hg; have GE378 := zs HB hg; replace HB := zB HB hb; clear hb hbox hg) | ((with_reducible refine gate_dst (N := 3) rfl ?_); refine be #[.int .i64 a1_0, .int .i64 a1_1] 25 ?_; intro gb379 hg w6 hbox hb; have BK379 := Aside0.mk hbox; have GW379 := zs HB hg; have GE379 := zs HB hg; have NB378_379 := zn BK378 hg; have NB379_378 := zm BK378 hg; replace BK378 := zb BK378 hb; replace HB := zB HB hb; clear hb hbox hg) | ((with_reducible refine gate_dst (N := 4) rfl ?_); refine be #[.int .i64 0, .int .i64 0] 25 ?_; intro gb380 hg w7 hbox hb; have BK380 := Aside0.mk hbox; have GW380 := zs HB hg; have GE380 := zs HB hg; have NB378_380 := zn BK378 hg; have NB380_378 := zm BK378 hg; have NB379_380 := zn BK379 hg; have NB380_379 := zm BK379 hg; replace BK378 := zb BK378 hb; replace BK379 := zb BK379 hb; replace HB := zB HB hb; clear hb hbox hg))
  replace BK378 := Aside0.mk (blk_drew BK378.1)
  replace BK379 := Aside0.mk (blk_drew BK379.1)
  replace BK380 := Aside0.mk (blk_drew BK380.1)
  replace HB := Aside0.mk (below_drew1 HB.1)
  refine start_ (n := 8) (S := fun w' => w'.cell? ⟨gb378, 0, none⟩ = some (.int .i64 a0_0) ∧ w'.cell? ⟨gb378, 1, none⟩ = some (.int .i64 a0_1) ∧ w'.cell? ⟨gb378, 2, none⟩ = some (.int .i64 a0_2) ∧ w'.cell? ⟨gb379, 0, none⟩ = some (.int .i64 a1_0) ∧ w'.cell? ⟨gb379, 1, none⟩ = some (.int .i64 a1_1)) (ds := []) (bs 8 0) (by kernel_rfl) rfl rfl ⟨(blk_cell BK378.1 0).trans rfl, (blk_cell BK378.1 1).trans rfl, (blk_cell BK378.1 2).trans rfl, (blk_cell BK379.1 0).trans rfl, (blk_cell BK379.1 1).trans rfl⟩ (fun hHeld => ?_); refine with_tabW impl_Hand_at.tab1 impl_Hand_at.bits1 (fun HT_ HW_ => ?_)
  generalize w7.drew = w8 at BK378 BK379 BK380 HB hHeld ⊢
  refine pu 0 5 HT_ rfl rfl (bs 8 1) ?_
  refine pu 3 8 HT_ rfl rfl (bs 8 9) ?_
  refine tk 1 6 HT_ HW_ hHeld rfl rfl (bs 8 11) ?_
  refine tk 2 7 HT_ HW_ hHeld rfl rfl (bs 8 15) ?_
  refine tk 4 9 HT_ HW_ hHeld rfl rfl (bs 8 31) ?_
  refine one_ (i := 5) (N := some 10) (bs 8 63) rfl rfl (one_of HT_.1 (by kernel_rfl)) (by decide) (fun K hK => ?_)
  refine gs Try.func60 #[.agg #[.int .i64 a1_0, .int .i64 a1_1], .int .i64 a0_2] ?_
  with_reducible refine (impl_Turn_times.calls k a1_0 a1_1 a0_2 t381 t382 _ A3.1).mono ?_
  rintro e w9 ⟨rfl, hb⟩
  refine ⟨_, rfl, ?_⟩
  replace BK378 := zb BK378 hb
  replace BK379 := zb BK379 hb
  replace BK380 := zb BK380 hb
  replace HB := zB HB hb
  (try clear hb)
  (try clear hb2)
  (try clear hk)
  (try clear hi)
  refine hK.out _ _ ⟨(blk_cell BK378.1 0).trans rfl, (blk_cell BK378.1 1).trans rfl, (blk_cell BK378.1 2).trans rfl, (blk_cell BK379.1 0).trans rfl, (blk_cell BK379.1 1).trans rfl⟩ (fun hHeld => ?_)
  clear hK K
  refine norm_ (aq 10) ?_
  refine one_ (i := 6) (N := some 11) (bs 8 127) rfl rfl (one_of HT_.1 (by kernel_rfl)) (by decide) (fun K hK => ?_)
  refine gs Try.func59 #[.agg #[.int .i64 a0_0, .int .i64 a0_1], .agg #[.int .i64 t381, .int .i64 t382]] ?_
  with_reducible refine (impl_Turn_plus.calls k a0_0 a0_1 t381 t382 t383 t384 _ A4.1).mono ?_
  rintro e w10 ⟨rfl, hb⟩
  refine ⟨_, rfl, ?_⟩
  replace BK378 := zb BK378 hb
  replace BK379 := zb BK379 hb
  replace BK380 := zb BK380 hb
  replace HB := zB HB hb
  (try clear hb)
  (try clear hb2)
  (try clear hk)
  (try clear hi)
  refine hK.out _ _ ⟨(blk_cell BK378.1 0).trans rfl, (blk_cell BK378.1 1).trans rfl, (blk_cell BK378.1 2).trans rfl, (blk_cell BK379.1 0).trans rfl, (blk_cell BK379.1 1).trans rfl⟩ (fun hHeld => ?_)
  clear hK K
  refine norm_ (aq 11) ?_
  refine one_ (i := 7) (N := none) (bs 8 255) rfl rfl (one_of HT_.1 (by kernel_rfl)) (by decide) (fun K hK => ?_)
  have hs11 : w10.cell? ⟨gb380, 0, none⟩ = some (.int .i64 0) := (blk_cell BK380.1 0).trans rfl
  have hfs11 := blk_frozen BK380.1 0
  have hns11_0 := NB378_380.1
  have hns11_1 := NB379_380.1
  have hms11_0 := NB380_378.1
  have hms11_1 := NB380_379.1
  have hs12 : w10.cell? ⟨gb380, 1, none⟩ = some (.int .i64 0) := (blk_cell BK380.1 1).trans rfl
  have hfs12 := blk_frozen BK380.1 1
  have hns12_0 := NB378_380.1
  have hns12_1 := NB379_380.1
  have hms12_0 := NB380_378.1
  have hms12_1 := NB380_379.1
  refine skip_ (w1 := ?_) (by rfl) rfl ?_ ?_
  rotate_left
  · go_simp
    rfl
  refine hK.out _ _ ⟨((cell_far (p := ⟨gb380, _, none⟩) NB378_380.1 _).trans (((cell_far (p := ⟨gb380, _, none⟩) NB378_380.1 _).trans (hHeld.1)))), ((cell_far (p := ⟨gb380, _, none⟩) NB378_380.1 _).trans (((cell_far (p := ⟨gb380, _, none⟩) NB378_380.1 _).trans (hHeld.2.1)))), ((cell_far (p := ⟨gb380, _, none⟩) NB378_380.1 _).trans (((cell_far (p := ⟨gb380, _, none⟩) NB378_380.1 _).trans (hHeld.2.2.1)))), ((cell_far (p := ⟨gb380, _, none⟩) NB379_380.1 _).trans (((cell_far (p := ⟨gb380, _, none⟩) NB379_380.1 _).trans (hHeld.2.2.2.1)))), ((cell_far (p := ⟨gb380, _, none⟩) NB379_380.1 _).trans (((cell_far (p := ⟨gb380, _, none⟩) NB379_380.1 _).trans (hHeld.2.2.2.2))))⟩ (fun hHeld => ?_)
  clear hK K
  refine done_ (done_of HT_.1 (by kernel_rfl)) ?_
  try go_wp2
  refine bodyPost_ret (results_cell_row rfl _ _ gb380 25 #[.int .i64 t383, .int .i64 t384] (0, 0) _ rfl (bk BK380) Try.underlying25 rfl (by kernel_rfl)) rfl ?_
  exact ⟨er, bq HB⟩

end Go.Proofs.Ytoneipoioiokcaa.PFnHandsMeet
