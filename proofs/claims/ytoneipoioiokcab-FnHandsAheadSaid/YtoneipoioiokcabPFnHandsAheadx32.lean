/- A part of the walk of FnHandsAhead: which Lean function each Go function comes to, and that the machine's call does so. Written by a program of this repo (wip/gen/xprint.py). -/
import Derived.Test.YtoneipoioiokcabPFnHandsAheadx24
import Derived.Test.YtoneipoioiokcabPFnHandsAheadx25
import Derived.Test.YtoneipoioiokcabPFnHandsAheadx26
import Derived.Test.YtoneipoioiokcabPFnHandsAheadx27
import Derived.Test.YtoneipoioiokcabPFnHandsAheadx28
import Derived.Test.YtoneipoioiokcabPFnHandsAheadx29
import Derived.Test.YtoneipoioiokcabPFnHandsAheadx30
import Derived.Test.YtoneipoioiokcabPFnHandsAheadx31
namespace Go.Proofs.Ytoneipoioiokcab.PFnHandsAhead
open Go.RowKit Go.Proofs.YtoneipoioiokcabW.PrintWords Go.Proofs.YtoneipoioiokcabW.PrintLast Go.Proofs.YtoneipoioiokcabW.PrintMore
attribute [local go_sem] max2_int min2_int max_two min_two max_three min_three max_four min_four   -- for this text's walks alone
set_option linter.unusedVariables false
set_option linter.unusedSimpArgs false
attribute [local go_sem high] eqA25 eqA27
set_option maxHeartbeats 8000000 in
set_option maxRecDepth 100000 in
theorem laws_FnHandsAhead.calls (k : Nat) (A0 : Option Addr) (c0 : Nat) (l0 : List Int) (A1 : Option Addr) (c1 : Nat) (l1 : List Int) (w : World) (hr0 : Kd.C (Kd.int .u8) w A0 l0.length l0) (hc0 : l0.length ≤ c0) (hr1 : Kd.C (Kd.int .u8) w A1 l1.length l1) (hc1 : l1.length ≤ c1) (h : laws_FnHandsAhead.f k l0 l1 = some true) :
    Calls Try.prog 3 #[.slice A0 l0.length c0, .slice A1 l1.length c1] w fun e w' => e = .returned (.bool true) ∧ Below w.heap.size w w' := by
  have hu27 := Try.underlying27
  have hu25 := Try.underlying25
  have HR0 := Aside0.mk hr0
  have HC0 := Aside0.mk hc0
  clear hr0 hc0
  have HR1 := Aside0.mk hr1
  have HC1 := Aside0.mk hc1
  clear hr1 hc1
  have HB := Aside0.mk (Below.refl w.heap.size w)
  have H : ((laws_big.f l0 l1).bind fun t526 => (if t526 = true then (some true) else ((spec_DrawAheadTimes.f k l0).bind fun bt527 => ((impl_AheadTimes.f k bt527.1 bt527.2.1 bt527.2.2.1 bt527.2.2.2.1 bt527.2.2.2.2.1 bt527.2.2.2.2.2.1 bt527.2.2.2.2.2.2.1 bt527.2.2.2.2.2.2.2).bind fun bt538 => ((spec_AheadTimes.f k bt527.1 bt527.2.1 bt527.2.2.1 bt527.2.2.2.1 bt527.2.2.2.2.1 bt527.2.2.2.2.2.1 bt527.2.2.2.2.2.2.1 bt527.2.2.2.2.2.2.2).bind fun bt542 => ((impl_AheadAt.f k bt527.1 bt527.2.1 bt527.2.2.1 bt527.2.2.2.1 bt527.2.2.2.2.1 bt527.2.2.2.2.2.1 bt527.2.2.2.2.2.2.1 bt527.2.2.2.2.2.2.2).bind fun bt546 => ((spec_AheadAt.f k bt527.1 bt527.2.1 bt527.2.2.1 bt527.2.2.2.1 bt527.2.2.2.2.1 bt527.2.2.2.2.2.1 bt527.2.2.2.2.2.2.1 bt527.2.2.2.2.2.2.2).bind fun bt550 => ((impl_RelativeHand.f k bt527.1 bt527.2.1 bt527.2.2.1 bt527.2.2.2.1 bt527.2.2.2.2.1 bt527.2.2.2.2.2.1).bind fun bt554 => ((spec_RelativeHand.f k bt527.1 bt527.2.1 bt527.2.2.1 bt527.2.2.2.1 bt527.2.2.2.2.1 bt527.2.2.2.2.2.1).bind fun bt559 => ((impl_OppositeTimes.f k bt527.1 bt527.2.1 bt527.2.2.1 bt527.2.2.2.1 bt527.2.2.2.2.1 bt527.2.2.2.2.2.1).bind fun bt564 => ((spec_OppositeTimes.f k bt527.1 bt527.2.1 bt527.2.2.1 bt527.2.2.2.1 bt527.2.2.2.2.1 bt527.2.2.2.2.2.1).bind fun bt568 => (if (bt538.2 != bt542.2) = true then (laws_FnHandsAhead.j0 k l1 bt538.1 bt538.2 bt546.2.2 bt554.2.2.2 bt564.1 bt564.2 true bt527.1 bt527.2.1 bt527.2.2.1 bt527.2.2.2.1 bt527.2.2.2.2.1 bt527.2.2.2.2.2.1 bt527.2.2.2.2.2.2.1 bt527.2.2.2.2.2.2.2 bt546.1 bt546.2.1 bt554.1 bt554.2.1 bt554.2.2.1) else ((laws_kTurns.f k bt538.1 bt542.1).bind fun t572 => (if t572 = true then (if (bt546.2.2 != bt550.2.2) = true then (laws_FnHandsAhead.j0 k l1 bt538.1 bt538.2 bt546.2.2 bt554.2.2.2 bt564.1 bt564.2 true bt527.1 bt527.2.1 bt527.2.2.1 bt527.2.2.2.1 bt527.2.2.2.2.1 bt527.2.2.2.2.2.1 bt527.2.2.2.2.2.2.1 bt527.2.2.2.2.2.2.2 bt546.1 bt546.2.1 bt554.1 bt554.2.1 bt554.2.2.1) else (if (!(bt546.1 == bt550.1) || (!(bt546.2.1 == bt550.2.1))) = true then (laws_FnHandsAhead.j0 k l1 bt538.1 bt538.2 bt546.2.2 bt554.2.2.2 bt564.1 bt564.2 true bt527.1 bt527.2.1 bt527.2.2.1 bt527.2.2.2.1 bt527.2.2.2.2.1 bt527.2.2.2.2.2.1 bt527.2.2.2.2.2.2.1 bt527.2.2.2.2.2.2.2 bt546.1 bt546.2.1 bt554.1 bt554.2.1 bt554.2.2.1) else (if (bt554.2.2.2 != bt559.2.2.2) = true then (laws_FnHandsAhead.j0 k l1 bt538.1 bt538.2 bt546.2.2 bt554.2.2.2 bt564.1 bt564.2 true bt527.1 bt527.2.1 bt527.2.2.1 bt527.2.2.2.1 bt527.2.2.2.2.1 bt527.2.2.2.2.2.1 bt527.2.2.2.2.2.2.1 bt527.2.2.2.2.2.2.2 bt546.1 bt546.2.1 bt554.1 bt554.2.1 bt554.2.2.1) else (if ((!(bt554.1 == bt559.1) || (!(bt554.2.1 == bt559.2.1))) || (!(bt554.2.2.1 == bt559.2.2.1))) = true then (laws_FnHandsAhead.j0 k l1 bt538.1 bt538.2 bt546.2.2 bt554.2.2.2 bt564.1 bt564.2 true bt527.1 bt527.2.1 bt527.2.2.1 bt527.2.2.2.1 bt527.2.2.2.2.1 bt527.2.2.2.2.2.1 bt527.2.2.2.2.2.2.1 bt527.2.2.2.2.2.2.2 bt546.1 bt546.2.1 bt554.1 bt554.2.1 bt554.2.2.1) else (if (bt564.2 != bt568.2) = true then (laws_FnHandsAhead.j0 k l1 bt538.1 bt538.2 bt546.2.2 bt554.2.2.2 bt564.1 bt564.2 true bt527.1 bt527.2.1 bt527.2.2.1 bt527.2.2.2.1 bt527.2.2.2.2.1 bt527.2.2.2.2.2.1 bt527.2.2.2.2.2.2.1 bt527.2.2.2.2.2.2.2 bt546.1 bt546.2.1 bt554.1 bt554.2.1 bt554.2.2.1) else ((laws_kTurns.f k bt564.1 bt568.1).bind fun t573 => (laws_FnHandsAhead.j0 k l1 bt538.1 bt538.2 bt546.2.2 bt554.2.2.2 bt564.1 bt564.2 (!t573) bt527.1 bt527.2.1 bt527.2.2.1 bt527.2.2.2.1 bt527.2.2.2.2.1 bt527.2.2.2.2.2.1 bt527.2.2.2.2.2.2.1 bt527.2.2.2.2.2.2.2 bt546.1 bt546.2.1 bt554.1 bt554.2.1 bt554.2.2.1))))))) else (laws_FnHandsAhead.j0 k l1 bt538.1 bt538.2 bt546.2.2 bt554.2.2.2 bt564.1 bt564.2 true bt527.1 bt527.2.1 bt527.2.2.1 bt527.2.2.2.1 bt527.2.2.2.2.1 bt527.2.2.2.2.2.1 bt527.2.2.2.2.2.2.1 bt527.2.2.2.2.2.2.2 bt546.1 bt546.2.1 bt554.1 bt554.2.1 bt554.2.2.1))))))))))))))) = some true := h
  clear h
  replace H := Option.bind_eq_some_iff.mp H
  obtain ⟨t526, A30, H⟩ := H
  (try dsimp only at H)
  have A3 := Aside0.mk A30
  clear A30
  by_cases c4 : t526 = true
  · subst c4
    have H1 : (some true) = some true := rfl
    clear H
    have H := H1
    clear H1
    clear H
    go_enter Try.func3, Try.ntmps3
    go_wp2_with (first | ((with_reducible refine gate_callee (f := 4) rfl ?_); refine gl (some 65) Try.func4 #[.slice A0 l0.length c0, .slice A1 l1.length c1] ?_; (with_reducible refine (laws_big.calls _ _ l0 _ _ l1 true _ ?side1 ?side2 ?side3 ?side4 A3.1).mono ?_); (case side1 => repeat (first | exact HR0.1 | (with_reducible refine Kd.C_alloc ?_ _) | (with_reducible refine Kd.C_drewN ?_ _) | (with_reducible refine Kd.C_drew ?_))); (case side2 => exact HC0.1); (case side3 => repeat (first | exact HR1.1 | (with_reducible refine Kd.C_alloc ?_ _) | (with_reducible refine Kd.C_drewN ?_ _) | (with_reducible refine Kd.C_drew ?_))); (case side4 => exact HC1.1); rintro e w' ⟨rfl, ⟨nd, rfl⟩⟩; refine ⟨_, rfl, ?_⟩))
    go_ret
    exact ⟨er, bq HB⟩
  replace c4 := Bool.eq_false_iff.mpr c4
  subst c4
  rw [if_neg (show ¬ (false = true) by decide)] at H
  replace H := Option.bind_eq_some_iff.mp H
  obtain ⟨⟨t527, t528, t529, t530, t531, t532, t533, t534⟩, A50, H⟩ := H
  (try dsimp only at H)
  have A5 := Aside0.mk A50
  clear A50
  replace H := Option.bind_eq_some_iff.mp H
  obtain ⟨⟨t538, t541⟩, A60, H⟩ := H
  (try dsimp only at H)
  have A6 := Aside0.mk A60
  clear A60
  replace H := Option.bind_eq_some_iff.mp H
  obtain ⟨⟨t542, t545⟩, A70, H⟩ := H
  (try dsimp only at H)
  have A7 := Aside0.mk A70
  clear A70
  replace H := Option.bind_eq_some_iff.mp H
  obtain ⟨⟨t546, t547, t548⟩, A80, H⟩ := H
  (try dsimp only at H)
  have A8 := Aside0.mk A80
  clear A80
  replace H := Option.bind_eq_some_iff.mp H
  obtain ⟨⟨t550, t551, t552⟩, A90, H⟩ := H
  (try dsimp only at H)
  have A9 := Aside0.mk A90
  clear A90
  replace H := Option.bind_eq_some_iff.mp H
  obtain ⟨⟨t554, t555, t556, t557⟩, A100, H⟩ := H
  (try dsimp only at H)
  have A10 := Aside0.mk A100
  clear A100
  replace H := Option.bind_eq_some_iff.mp H
  obtain ⟨⟨t559, t560, t561, t562⟩, A110, H⟩ := H
  (try dsimp only at H)
  have A11 := Aside0.mk A110
  clear A110
  replace H := Option.bind_eq_some_iff.mp H
  obtain ⟨⟨t564, t567⟩, A120, H⟩ := H
  (try dsimp only at H)
  have A12 := Aside0.mk A120
  clear A120
  replace H := Option.bind_eq_some_iff.mp H
  obtain ⟨⟨t568, t571⟩, A130, H⟩ := H
  (try dsimp only at H)
  have A13 := Aside0.mk A130
  clear A130
  have HC14 := Aside0.mk H
  clear H
  go_enter Try.func3, Try.ntmps3
  go_upto_region 12 with (first | ((with_reducible refine gate_callee (f := 4) rfl ?_); refine gl (some 65) Try.func4 #[.slice A0 l0.length c0, .slice A1 l1.length c1] ?_; (with_reducible refine (laws_big.calls _ _ l0 _ _ l1 false _ ?side1 ?side2 ?side3 ?side4 A3.1).mono ?_); (case side1 => repeat (first | exact HR0.1 | (with_reducible refine Kd.C_alloc ?_ _) | (with_reducible refine Kd.C_drewN ?_ _) | (with_reducible refine Kd.C_drew ?_))); (case side2 => exact HC0.1); (case side3 => repeat (first | exact HR1.1 | (with_reducible refine Kd.C_alloc ?_ _) | (with_reducible refine Kd.C_drewN ?_ _) | (with_reducible refine Kd.C_drew ?_))); (case side4 => exact HC1.1); rintro e w' ⟨rfl, ⟨nd, rfl⟩⟩; refine ⟨_, rfl, ?_⟩) | ((with_reducible refine gate_callee (f := 5) rfl ?_); refine gl (some 68) Try.func5 #[.slice A0 l0.length c0] ?_; (with_reducible refine (spec_DrawAheadTimes.calls k _ _ l0 t527 t528 t529 t530 t531 t532 t533 t534 _ ?side1 ?side2 A5.1).mono ?_); (case side1 => repeat (first | exact HR0.1 | (with_reducible refine Kd.C_alloc ?_ _) | (with_reducible refine Kd.C_drewN ?_ _) | (with_reducible refine Kd.C_drew ?_))); (case side2 => exact HC0.1); rintro e w15 ⟨rfl, hb⟩; refine ⟨_, rfl, ?_⟩; replace HB := zB HB hb; clear hb) | ((with_reducible refine gate_dst (N := 5) rfl ?_); (try (refine gate_guard (by rfl) ?_; dsimp only)); refine be #[.int .i64 0, .int .i64 0, .int .i64 0] 27 ?_; intro gb535 hg w16 hbox hb; have BK535 := Aside0.mk hbox; have GW535 := zs HB hg; have GE535 := zs HB hg; replace HB := zB HB hb; clear hb hbox hg) | ((with_reducible refine gate_dst (N := 6) rfl ?_); (try (refine gate_guard (by rfl) ?_; dsimp only)); refine be #[.int .i64 0, .int .i64 0, .int .i64 0] 27 ?_; intro gb536 hg w17 hbox hb; have BK536 := Aside0.mk hbox; have GW536 := zs HB hg; have GE536 := zs HB hg; have NB535_536 := zn BK535 hg; have LT535_536 := zo BK535 hg; have NB536_535 := zm BK535 hg; replace BK535 := zb BK535 hb; replace HB := zB HB hb; clear hb hbox hg) | ((with_reducible refine gate_dst (N := 7) rfl ?_); (try (refine gate_guard (by rfl) ?_; dsimp only)); refine be #[.int .i64 0, .int .i64 0] 25 ?_; intro gb537 hg w18 hbox hb; have BK537 := Aside0.mk hbox; have GW537 := zs HB hg; have GE537 := zs HB hg; have NB535_537 := zn BK535 hg; have LT535_537 := zo BK535 hg; have NB537_535 := zm BK535 hg; have NB536_537 := zn BK536 hg; have LT536_537 := zo BK536 hg; have NB537_536 := zm BK536 hg; replace BK535 := zb BK535 hb; replace BK536 := zb BK536 hb; replace HB := zB HB hb; clear hb hbox hg; have hnb19 := LT535_536.1; have hnb20 := LT535_537.1; obtain ⟨hcz21_0, hcz21_1, hcz21_2, hfz21_0, hfz21_1, hfz21_2⟩ := zc3 BK535; have hnb22 := LT536_537.1; obtain ⟨hcz23_0, hcz23_1, hcz23_2, hfz23_0, hfz23_1, hfz23_2⟩ := zc3 BK536; obtain ⟨hcz24_0, hcz24_1, hfz24_0, hfz24_1⟩ := zc2 BK537) | ((with_reducible refine gate_callee (f := 6) rfl ?_); refine gl (some 76) Try.func6 #[.agg #[.int .i64 t527, .int .i64 t528, .int .i64 t529], .agg #[.int .i64 t530, .int .i64 t531, .int .i64 t532], .agg #[.int .i64 t533, .int .i64 t534]] ?_; (with_reducible refine (impl_AheadTimes.calls k t527 t528 t529 t530 t531 t532 t533 t534 t538 t541 _ A6.1).mono ?_); rintro e w25 ⟨v539, rfl, ho0, hb⟩; refine ⟨_, rfl, ?_⟩; have HO540 := Aside0.mk (Kd.R_lower (Kd.R_newB ho0 (g := gb537) (o := .cells #[.int .i64 t533, .int .i64 t534] 25 (0, 0)) (bk BK537)) (below_size (bq HB))); replace BK535 := zy (o' := .cells #[.int .i64 t527, .int .i64 t528, .int .i64 t529] 27 (0, 0)) BK535 hb; replace BK536 := zy (o' := .cells #[.int .i64 t530, .int .i64 t531, .int .i64 t532] 27 (0, 0)) BK536 hb; replace BK537 := zy (o' := .cells #[.int .i64 t533, .int .i64 t534] 25 (0, 0)) BK537 hb; replace HB := zB HB hb; (try clear hb); (try clear hb2); (try clear hk); (try clear hi); (try clear ho0); obtain ⟨hcz26_0, hcz26_1, hcz26_2, hfz26_0, hfz26_1, hfz26_2⟩ := zc3 BK535; obtain ⟨hcz27_0, hcz27_1, hcz27_2, hfz27_0, hfz27_1, hfz27_2⟩ := zc3 BK536; obtain ⟨hcz28_0, hcz28_1, hfz28_0, hfz28_1⟩ := zc2 BK537) | ((with_reducible refine gate_callee (f := 7) rfl ?_); refine gl (some 83) Try.func7 #[.agg #[.int .i64 t527, .int .i64 t528, .int .i64 t529], .agg #[.int .i64 t530, .int .i64 t531, .int .i64 t532], .agg #[.int .i64 t533, .int .i64 t534]] ?_; (with_reducible refine (spec_AheadTimes.calls k t527 t528 t529 t530 t531 t532 t533 t534 t542 t545 _ A7.1).mono ?_); rintro e w29 ⟨v543, rfl, ho0, hb⟩; refine ⟨_, rfl, ?_⟩; have HO544 := Aside0.mk (Kd.R_lower (Kd.R_newB (Kd.R_new' ho0 (Kd.R_lt (rq HO540))) (g := gb537) (o := .cells #[.int .i64 t533, .int .i64 t534] 25 (0, 0)) (bk BK537)) (below_size (bq HB))); replace HO540 := Aside0.mk (Kd.R_elder' (rq HO540) (Kd.R_base ho0) hb); replace BK535 := zb BK535 hb; replace BK536 := zb BK536 hb; replace BK537 := zb BK537 hb; replace HB := zB HB hb; (try clear hb); (try clear hb2); (try clear hk); (try clear hi); (try clear ho0); obtain ⟨hcz30_0, hcz30_1, hcz30_2, hfz30_0, hfz30_1, hfz30_2⟩ := zc3 BK535; obtain ⟨hcz31_0, hcz31_1, hcz31_2, hfz31_0, hfz31_1, hfz31_2⟩ := zc3 BK536; obtain ⟨hcz32_0, hcz32_1, hfz32_0, hfz32_1⟩ := zc2 BK537) | ((with_reducible refine gate_callee (f := 8) rfl ?_); refine gl (some 90) Try.func8 #[.agg #[.int .i64 t527, .int .i64 t528, .int .i64 t529], .agg #[.int .i64 t530, .int .i64 t531, .int .i64 t532], .agg #[.int .i64 t533, .int .i64 t534]] ?_; (with_reducible refine (impl_AheadAt.calls k t527 t528 t529 t530 t531 t532 t533 t534 t546 t547 t548 _ A8.1).mono ?_); rintro e w33 ⟨rfl, hb⟩; refine ⟨_, rfl, ?_⟩; replace HO540 := rB HO540 hb; replace HO544 := rB HO544 hb; replace BK535 := zb BK535 hb; replace BK536 := zb BK536 hb; replace BK537 := zb BK537 hb; replace HB := zB HB hb; clear hb) | ((with_reducible refine gate_dst (N := 12) rfl ?_); (try (refine gate_guard (by rfl) ?_; dsimp only)); refine be #[.int .i64 0, .int .i64 0] 25 ?_; intro gb549 hg w34 hbox hb; replace HO540 := Aside0.mk (Kd.R_below (Kd.R_elderB (rq HO540) gb549 (Nat.le_of_eq hg.symm)) hb); replace HO544 := Aside0.mk (Kd.R_below (Kd.R_elderB (rq HO544) gb549 (Nat.le_of_eq hg.symm)) hb); have BK549 := Aside0.mk hbox; have GW549 := zs HB hg; have GE549 := zs HB hg; have NB535_549 := zn BK535 hg; have LT535_549 := zo BK535 hg; have NB549_535 := zm BK535 hg; have NB536_549 := zn BK536 hg; have LT536_549 := zo BK536 hg; have NB549_536 := zm BK536 hg; have NB537_549 := zn BK537 hg; have LT537_549 := zo BK537 hg; have NB549_537 := zm BK537 hg; replace BK535 := zb BK535 hb; replace BK536 := zb BK536 hb; replace BK537 := zb BK537 hb; replace HB := zB HB hb; clear hb hbox hg; have hnc35 := LT535_549.1; have hnc36 := LT536_549.1; have hnc37 := LT537_549.1; obtain ⟨hcz38_0, hcz38_1, hfz38_0, hfz38_1⟩ := zc2 BK549; obtain ⟨hcz39_0, hcz39_1, hcz39_2, hfz39_0, hfz39_1, hfz39_2⟩ := zc3 BK535; obtain ⟨hcz40_0, hcz40_1, hcz40_2, hfz40_0, hfz40_1, hfz40_2⟩ := zc3 BK536; obtain ⟨hcz41_0, hcz41_1, hfz41_0, hfz41_1⟩ := zc2 BK537) | ((with_reducible refine gate_callee (f := 9) rfl ?_); refine gl (some 97) Try.func9 #[.agg #[.int .i64 t527, .int .i64 t528, .int .i64 t529], .agg #[.int .i64 t530, .int .i64 t531, .int .i64 t532], .agg #[.int .i64 t533, .int .i64 t534]] ?_; (with_reducible refine (spec_AheadAt.calls k t527 t528 t529 t530 t531 t532 t533 t534 t550 t551 t552 _ A9.1).mono ?_); rintro e w42 ⟨rfl, hb⟩; refine ⟨_, rfl, ?_⟩; replace HO540 := Aside0.mk (Kd.R_below (by (with_reducible repeat (first | apply Kd.R_alloc | apply Kd.R_drewN | apply Kd.R_drew)); exact (Kd.R_mono (Kd.R_far (p := ⟨gb549, 1, none⟩) (Kd.R_far (p := ⟨gb549, 0, none⟩) (Kd.R_mono HO540.1 (fun k_ hk => (⟨hk, hk.2⟩ : _ ∧ k_ ≠ gb549))) (fun _ hk => hk.2) (.int .i64 t546)) (fun _ hk => hk.2) (.int .i64 t547)) (fun _ h_ => h_.1))) hb); replace HO544 := Aside0.mk (Kd.R_below (by (with_reducible repeat (first | apply Kd.R_alloc | apply Kd.R_drewN | apply Kd.R_drew)); exact (Kd.R_mono (Kd.R_far (p := ⟨gb549, 1, none⟩) (Kd.R_far (p := ⟨gb549, 0, none⟩) (Kd.R_mono HO544.1 (fun k_ hk => (⟨hk, hk.2⟩ : _ ∧ k_ ≠ gb549))) (fun _ hk => hk.2) (.int .i64 t546)) (fun _ hk => hk.2) (.int .i64 t547)) (fun _ h_ => h_.1))) hb); replace BK535 := zy (o' := .cells #[.int .i64 t527, .int .i64 t528, .int .i64 t529] 27 (0, 0)) BK535 hb; replace BK536 := zy (o' := .cells #[.int .i64 t530, .int .i64 t531, .int .i64 t532] 27 (0, 0)) BK536 hb; replace BK537 := zy (o' := .cells #[.int .i64 t533, .int .i64 t534] 25 (0, 0)) BK537 hb; replace BK549 := zy (o' := .cells #[.int .i64 t546, .int .i64 t547] 25 (0, 0)) BK549 hb; replace HB := zB HB hb; clear hb) | ((with_reducible refine gate_dst (N := 14) rfl ?_); (try (refine gate_guard (by rfl) ?_; dsimp only)); refine be #[.int .i64 0, .int .i64 0] 25 ?_; intro gb553 hg w43 hbox hb; replace HO540 := Aside0.mk (Kd.R_below (Kd.R_elderB (rq HO540) gb553 (Nat.le_of_eq hg.symm)) hb); replace HO544 := Aside0.mk (Kd.R_below (Kd.R_elderB (rq HO544) gb553 (Nat.le_of_eq hg.symm)) hb); have BK553 := Aside0.mk hbox; have GW553 := zs HB hg; have GE553 := zs HB hg; have NB535_553 := zn BK535 hg; have LT535_553 := zo BK535 hg; have NB553_535 := zm BK535 hg; have NB536_553 := zn BK536 hg; have LT536_553 := zo BK536 hg; have NB553_536 := zm BK536 hg; have NB537_553 := zn BK537 hg; have LT537_553 := zo BK537 hg; have NB553_537 := zm BK537 hg; have NB549_553 := zn BK549 hg; have LT549_553 := zo BK549 hg; have NB553_549 := zm BK549 hg; replace BK535 := zb BK535 hb; replace BK536 := zb BK536 hb; replace BK537 := zb BK537 hb; replace BK549 := zb BK549 hb; replace HB := zB HB hb; clear hb hbox hg; have hnc44 := LT535_553.1; have hnc45 := LT536_553.1; have hnc46 := LT537_553.1; have hnc47 := LT549_553.1; obtain ⟨hcz48_0, hcz48_1, hfz48_0, hfz48_1⟩ := zc2 BK553; obtain ⟨hcz49_0, hcz49_1, hcz49_2, hfz49_0, hfz49_1, hfz49_2⟩ := zc3 BK535; obtain ⟨hcz50_0, hcz50_1, hcz50_2, hfz50_0, hfz50_1, hfz50_2⟩ := zc3 BK536) | ((with_reducible refine gate_callee (f := 10) rfl ?_); refine gl (some 103) Try.func10 #[.agg #[.int .i64 t527, .int .i64 t528, .int .i64 t529], .agg #[.int .i64 t530, .int .i64 t531, .int .i64 t532]] ?_; (with_reducible refine (impl_RelativeHand.calls k t527 t528 t529 t530 t531 t532 t554 t555 t556 t557 _ A10.1).mono ?_); rintro e w51 ⟨rfl, hb⟩; refine ⟨_, rfl, ?_⟩; replace HO540 := Aside0.mk (Kd.R_below (by (with_reducible repeat (first | apply Kd.R_alloc | apply Kd.R_drewN | apply Kd.R_drew)); exact (Kd.R_mono (Kd.R_far (p := ⟨gb553, 1, none⟩) (Kd.R_far (p := ⟨gb553, 0, none⟩) (Kd.R_mono HO540.1 (fun k_ hk => (⟨hk, hk.2⟩ : _ ∧ k_ ≠ gb553))) (fun _ hk => hk.2) (.int .i64 t550)) (fun _ hk => hk.2) (.int .i64 t551)) (fun _ h_ => h_.1))) hb); replace HO544 := Aside0.mk (Kd.R_below (by (with_reducible repeat (first | apply Kd.R_alloc | apply Kd.R_drewN | apply Kd.R_drew)); exact (Kd.R_mono (Kd.R_far (p := ⟨gb553, 1, none⟩) (Kd.R_far (p := ⟨gb553, 0, none⟩) (Kd.R_mono HO544.1 (fun k_ hk => (⟨hk, hk.2⟩ : _ ∧ k_ ≠ gb553))) (fun _ hk => hk.2) (.int .i64 t550)) (fun _ hk => hk.2) (.int .i64 t551)) (fun _ h_ => h_.1))) hb); replace BK535 := zy (o' := .cells #[.int .i64 t527, .int .i64 t528, .int .i64 t529] 27 (0, 0)) BK535 hb; replace BK536 := zy (o' := .cells #[.int .i64 t530, .int .i64 t531, .int .i64 t532] 27 (0, 0)) BK536 hb; replace BK537 := zy (o' := .cells #[.int .i64 t533, .int .i64 t534] 25 (0, 0)) BK537 hb; replace BK549 := zy (o' := .cells #[.int .i64 t546, .int .i64 t547] 25 (0, 0)) BK549 hb; replace BK553 := zy (o' := .cells #[.int .i64 t550, .int .i64 t551] 25 (0, 0)) BK553 hb; replace HB := zB HB hb; clear hb) | ((with_reducible refine gate_dst (N := 16) rfl ?_); (try (refine gate_guard (by rfl) ?_; dsimp only)); refine be #[.int .i64 0, .int .i64 0, .int .i64 0] 27 ?_; intro gb558 hg w52 hbox hb; replace HO540 := rB HO540 hb; replace HO544 := rB HO544 hb; have BK558 := Aside0.mk hbox; have GW558 := zs HB hg; have GE558 := zs HB hg; have NB535_558 := zn BK535 hg; have LT535_558 := zo BK535 hg; have NB558_535 := zm BK535 hg; have NB536_558 := zn BK536 hg; have LT536_558 := zo BK536 hg; have NB558_536 := zm BK536 hg; have NB537_558 := zn BK537 hg; have LT537_558 := zo BK537 hg; have NB558_537 := zm BK537 hg; have NB549_558 := zn BK549 hg; have LT549_558 := zo BK549 hg; have NB558_549 := zm BK549 hg; have NB553_558 := zn BK553 hg; have LT553_558 := zo BK553 hg; have NB558_553 := zm BK553 hg; replace BK535 := zb BK535 hb; replace BK536 := zb BK536 hb; replace BK537 := zb BK537 hb; replace BK549 := zb BK549 hb; replace BK553 := zb BK553 hb; replace HB := zB HB hb; clear hb hbox hg; have hnc53 := LT535_558.1; have hnc54 := LT536_558.1; have hnc55 := LT537_558.1; have hnc56 := LT549_558.1; have hnc57 := LT553_558.1; obtain ⟨hcz58_0, hcz58_1, hcz58_2, hfz58_0, hfz58_1, hfz58_2⟩ := zc3 BK558; obtain ⟨hcz59_0, hcz59_1, hcz59_2, hfz59_0, hfz59_1, hfz59_2⟩ := zc3 BK535; obtain ⟨hcz60_0, hcz60_1, hcz60_2, hfz60_0, hfz60_1, hfz60_2⟩ := zc3 BK536) | ((with_reducible refine gate_callee (f := 11) rfl ?_); refine gl (some 109) Try.func11 #[.agg #[.int .i64 t527, .int .i64 t528, .int .i64 t529], .agg #[.int .i64 t530, .int .i64 t531, .int .i64 t532]] ?_; (with_reducible refine (spec_RelativeHand.calls k t527 t528 t529 t530 t531 t532 t559 t560 t561 t562 _ A11.1).mono ?_); rintro e w61 ⟨rfl, hb⟩; refine ⟨_, rfl, ?_⟩; replace HO540 := Aside0.mk (Kd.R_below (by (with_reducible repeat (first | apply Kd.R_alloc | apply Kd.R_drewN | apply Kd.R_drew)); exact (Kd.R_mono (Kd.R_far (p := ⟨gb558, 2, none⟩) (Kd.R_far (p := ⟨gb558, 1, none⟩) (Kd.R_far (p := ⟨gb558, 0, none⟩) (Kd.R_types HO540.1 BK558.1 (by decide)) (fun _ hk => hk.2) (.int .i64 t554)) (fun _ hk => hk.2) (.int .i64 t555)) (fun _ hk => hk.2) (.int .i64 t556)) (fun _ h_ => h_.1))) hb); replace HO544 := Aside0.mk (Kd.R_below (by (with_reducible repeat (first | apply Kd.R_alloc | apply Kd.R_drewN | apply Kd.R_drew)); exact (Kd.R_mono (Kd.R_far (p := ⟨gb558, 2, none⟩) (Kd.R_far (p := ⟨gb558, 1, none⟩) (Kd.R_far (p := ⟨gb558, 0, none⟩) (Kd.R_types HO544.1 BK558.1 (by decide)) (fun _ hk => hk.2) (.int .i64 t554)) (fun _ hk => hk.2) (.int .i64 t555)) (fun _ hk => hk.2) (.int .i64 t556)) (fun _ h_ => h_.1))) hb); replace BK535 := zy (o' := .cells #[.int .i64 t527, .int .i64 t528, .int .i64 t529] 27 (0, 0)) BK535 hb; replace BK536 := zy (o' := .cells #[.int .i64 t530, .int .i64 t531, .int .i64 t532] 27 (0, 0)) BK536 hb; replace BK537 := zy (o' := .cells #[.int .i64 t533, .int .i64 t534] 25 (0, 0)) BK537 hb; replace BK549 := zy (o' := .cells #[.int .i64 t546, .int .i64 t547] 25 (0, 0)) BK549 hb; replace BK553 := zy (o' := .cells #[.int .i64 t550, .int .i64 t551] 25 (0, 0)) BK553 hb; replace BK558 := zy (o' := .cells #[.int .i64 t554, .int .i64 t555, .int .i64 t556] 27 (0, 0)) BK558 hb; replace HB := zB HB hb; clear hb) | ((with_reducible refine gate_dst (N := 18) rfl ?_); (try (refine gate_guard (by rfl) ?_; dsimp only)); refine be #[.int .i64 0, .int .i64 0, .int .i64 0] 27 ?_; intro gb563 hg w62 hbox hb; replace HO540 := rB HO540 hb; replace HO544 := rB HO544 hb; have BK563 := Aside0.mk hbox; have GW563 := zs HB hg; have GE563 := zs HB hg; have NB535_563 := zn BK535 hg; have LT535_563 := zo BK535 hg; have NB563_535 := zm BK535 hg; have NB536_563 := zn BK536 hg; have LT536_563 := zo BK536 hg; have NB563_536 := zm BK536 hg; have NB537_563 := zn BK537 hg; have LT537_563 := zo BK537 hg; have NB563_537 := zm BK537 hg; have NB549_563 := zn BK549 hg; have LT549_563 := zo BK549 hg; have NB563_549 := zm BK549 hg; have NB553_563 := zn BK553 hg; have LT553_563 := zo BK553 hg; have NB563_553 := zm BK553 hg; have NB558_563 := zn BK558 hg; have LT558_563 := zo BK558 hg; have NB563_558 := zm BK558 hg; replace BK535 := zb BK535 hb; replace BK536 := zb BK536 hb; replace BK537 := zb BK537 hb; replace BK549 := zb BK549 hb; replace BK553 := zb BK553 hb; replace BK558 := zb BK558 hb; replace HB := zB HB hb; clear hb hbox hg; have hnc63 := LT535_563.1; have hnc64 := LT536_563.1; have hnc65 := LT537_563.1; have hnc66 := LT549_563.1; have hnc67 := LT553_563.1; have hnc68 := LT558_563.1; obtain ⟨hcz69_0, hcz69_1, hcz69_2, hfz69_0, hfz69_1, hfz69_2⟩ := zc3 BK563; obtain ⟨hcz70_0, hcz70_1, hcz70_2, hfz70_0, hfz70_1, hfz70_2⟩ := zc3 BK535; obtain ⟨hcz71_0, hcz71_1, hcz71_2, hfz71_0, hfz71_1, hfz71_2⟩ := zc3 BK536) | ((with_reducible refine gate_callee (f := 12) rfl ?_); refine gl (some 115) Try.func12 #[.agg #[.int .i64 t527, .int .i64 t528, .int .i64 t529], .agg #[.int .i64 t530, .int .i64 t531, .int .i64 t532]] ?_; (with_reducible refine (impl_OppositeTimes.calls k t527 t528 t529 t530 t531 t532 t564 t567 _ A12.1).mono ?_); rintro e w72 ⟨v565, rfl, ho0, hb⟩; refine ⟨_, rfl, ?_⟩; have HO566 := Aside0.mk (Kd.R_lower (Kd.R_newB (Kd.R_newB (Kd.R_newB (Kd.R_new' (Kd.R_new' ho0 (Kd.R_lt (by (with_reducible repeat (first | apply Kd.R_alloc | apply Kd.R_drewN | apply Kd.R_drew)); exact (Kd.R_mono (Kd.R_far (p := ⟨gb563, 2, none⟩) (Kd.R_far (p := ⟨gb563, 1, none⟩) (Kd.R_far (p := ⟨gb563, 0, none⟩) (Kd.R_types HO540.1 BK563.1 (by decide)) (fun _ hk => hk.2) (.int .i64 t559)) (fun _ hk => hk.2) (.int .i64 t560)) (fun _ hk => hk.2) (.int .i64 t561)) (fun _ h_ => h_.1))))) (Kd.R_lt (by (with_reducible repeat (first | apply Kd.R_alloc | apply Kd.R_drewN | apply Kd.R_drew)); exact (Kd.R_mono (Kd.R_far (p := ⟨gb563, 2, none⟩) (Kd.R_far (p := ⟨gb563, 1, none⟩) (Kd.R_far (p := ⟨gb563, 0, none⟩) (Kd.R_types HO544.1 BK563.1 (by decide)) (fun _ hk => hk.2) (.int .i64 t559)) (fun _ hk => hk.2) (.int .i64 t560)) (fun _ hk => hk.2) (.int .i64 t561)) (fun _ h_ => h_.1))))) (g := gb537) (o := .cells #[.int .i64 t533, .int .i64 t534] 25 (0, 0)) (bk BK537)) (g := gb549) (o := .cells #[.int .i64 t546, .int .i64 t547] 25 (0, 0)) (bk BK549)) (g := gb553) (o := .cells #[.int .i64 t550, .int .i64 t551] 25 (0, 0)) (bk BK553)) (below_size (bq HB))); replace HO540 := Aside0.mk (Kd.R_elder' (by (with_reducible repeat (first | apply Kd.R_alloc | apply Kd.R_drewN | apply Kd.R_drew)); exact (Kd.R_mono (Kd.R_far (p := ⟨gb563, 2, none⟩) (Kd.R_far (p := ⟨gb563, 1, none⟩) (Kd.R_far (p := ⟨gb563, 0, none⟩) (Kd.R_types HO540.1 BK563.1 (by decide)) (fun _ hk => hk.2) (.int .i64 t559)) (fun _ hk => hk.2) (.int .i64 t560)) (fun _ hk => hk.2) (.int .i64 t561)) (fun _ h_ => h_.1))) (Kd.R_base ho0) hb); replace HO544 := Aside0.mk (Kd.R_elder' (by (with_reducible repeat (first | apply Kd.R_alloc | apply Kd.R_drewN | apply Kd.R_drew)); exact (Kd.R_mono (Kd.R_far (p := ⟨gb563, 2, none⟩) (Kd.R_far (p := ⟨gb563, 1, none⟩) (Kd.R_far (p := ⟨gb563, 0, none⟩) (Kd.R_types HO544.1 BK563.1 (by decide)) (fun _ hk => hk.2) (.int .i64 t559)) (fun _ hk => hk.2) (.int .i64 t560)) (fun _ hk => hk.2) (.int .i64 t561)) (fun _ h_ => h_.1))) (Kd.R_base ho0) hb); replace BK535 := zy (o' := .cells #[.int .i64 t527, .int .i64 t528, .int .i64 t529] 27 (0, 0)) BK535 hb; replace BK536 := zy (o' := .cells #[.int .i64 t530, .int .i64 t531, .int .i64 t532] 27 (0, 0)) BK536 hb; replace BK537 := zy (o' := .cells #[.int .i64 t533, .int .i64 t534] 25 (0, 0)) BK537 hb; replace BK549 := zy (o' := .cells #[.int .i64 t546, .int .i64 t547] 25 (0, 0)) BK549 hb; replace BK553 := zy (o' := .cells #[.int .i64 t550, .int .i64 t551] 25 (0, 0)) BK553 hb; replace BK558 := zy (o' := .cells #[.int .i64 t554, .int .i64 t555, .int .i64 t556] 27 (0, 0)) BK558 hb; replace BK563 := zy (o' := .cells #[.int .i64 t559, .int .i64 t560, .int .i64 t561] 27 (0, 0)) BK563 hb; replace HB := zB HB hb; (try clear hb); (try clear hb2); (try clear hk); (try clear hi); (try clear ho0); obtain ⟨hcz73_0, hcz73_1, hcz73_2, hfz73_0, hfz73_1, hfz73_2⟩ := zc3 BK535; obtain ⟨hcz74_0, hcz74_1, hcz74_2, hfz74_0, hfz74_1, hfz74_2⟩ := zc3 BK536) | ((with_reducible refine gate_callee (f := 13) rfl ?_); refine gl (some 121) Try.func13 #[.agg #[.int .i64 t527, .int .i64 t528, .int .i64 t529], .agg #[.int .i64 t530, .int .i64 t531, .int .i64 t532]] ?_; (with_reducible refine (spec_OppositeTimes.calls k t527 t528 t529 t530 t531 t532 t568 t571 _ A13.1).mono ?_); rintro e w75 ⟨v569, rfl, ho0, hb⟩; refine ⟨_, rfl, ?_⟩; have HO570 := Aside0.mk (Kd.R_lower (Kd.R_newB (Kd.R_newB (Kd.R_newB (Kd.R_new' (Kd.R_new' (Kd.R_new' ho0 (Kd.R_lt (rq HO540))) (Kd.R_lt (rq HO544))) (Kd.R_lt (rq HO566))) (g := gb537) (o := .cells #[.int .i64 t533, .int .i64 t534] 25 (0, 0)) (bk BK537)) (g := gb549) (o := .cells #[.int .i64 t546, .int .i64 t547] 25 (0, 0)) (bk BK549)) (g := gb553) (o := .cells #[.int .i64 t550, .int .i64 t551] 25 (0, 0)) (bk BK553)) (below_size (bq HB))); replace HO540 := Aside0.mk (Kd.R_elder' (rq HO540) (Kd.R_base ho0) hb); replace HO544 := Aside0.mk (Kd.R_elder' (rq HO544) (Kd.R_base ho0) hb); replace HO566 := Aside0.mk (Kd.R_elder' (rq HO566) (Kd.R_base ho0) hb); replace BK535 := zb BK535 hb; replace BK536 := zb BK536 hb; replace BK537 := zb BK537 hb; replace BK549 := zb BK549 hb; replace BK553 := zb BK553 hb; replace BK558 := zb BK558 hb; replace BK563 := zb BK563 hb; replace HB := zB HB hb; (try clear hb); (try clear hb2); (try clear hk); (try clear hi); (try clear ho0)))
  (try simp only [Act.put, List.setIfInBounds_toArray, List.set_cons_zero, List.set_cons_succ])
  go_cut [163] from 124 to 163 (fun v163 wc => ∃ (kq : Nat) (x163_13 : Bool), v163 = .bool x163_13 ∧ Aside0 (laws_FnHandsAhead.j0 kq l1 t538 t541 t548 t557 t564 t567 x163_13 t527 t528 t529 t530 t531 t532 t533 t534 t546 t547 t554 t555 t556 = some true) ∧ Aside0 (kq ≤ k) ∧ Aside0 (Kd.R k25 25 wc w.heap.size (fun k_ => some k_ ≠ (v565 : Value).ownBlock ∧ k_ ≠ gb537 ∧ k_ ≠ gb549 ∧ k_ ≠ gb553) v539 t538) ∧ Aside0 (Kd.R k25 25 wc w.heap.size (fun k_ => some k_ ≠ (v539 : Value).ownBlock ∧ k_ ≠ gb537 ∧ k_ ≠ gb549 ∧ k_ ≠ gb553) v565 t564) ∧ Aside0 (wc.heap[gb535]? = some (.cells #[.int .i64 t527, .int .i64 t528, .int .i64 t529] 27 (0, 0))) ∧ Aside0 (wc.heap[gb536]? = some (.cells #[.int .i64 t530, .int .i64 t531, .int .i64 t532] 27 (0, 0))) ∧ Aside0 (wc.heap[gb537]? = some (.cells #[.int .i64 t533, .int .i64 t534] 25 (0, 0))) ∧ Aside0 (wc.heap[gb549]? = some (.cells #[.int .i64 t546, .int .i64 t547] 25 (0, 0))) ∧ Aside0 (wc.heap[gb553]? = some (.cells #[.int .i64 t550, .int .i64 t551] 25 (0, 0))) ∧ Aside0 (wc.heap[gb558]? = some (.cells #[.int .i64 t554, .int .i64 t555, .int .i64 t556] 27 (0, 0))) ∧ Aside0 (Below w.heap.size w wc))
  case first =>
    have H := HC14.1
    clear HC14
    by_cases c76 : (t541 != t545) = true
    · rw [if_pos c76] at H
      exact (laws_FnHandsAhead.j0_no H).elim
    rw [if_neg c76] at H
    have c76b0 : (t541 != t545) = false := by simpa using c76
    (try (have c76b1 : decide (t541 = t545) = true := by simpa using c76))
    (try (have c76b2 : (t541 == t545) = true := by simpa using c76))
    clear c76
    (first | rw [c76b0] | (simp only [i64_w, i32_w]; rw [c76b0]) | skip)
    replace H := Option.bind_eq_some_iff.mp H
    obtain ⟨t572, A770, H⟩ := H
    (try dsimp only at H)
    have A77 := Aside0.mk A770
    clear A770
    by_cases c78 : t572 = true
    · subst c78
      rw [if_pos rfl] at H
      by_cases c79 : (t548 != t552) = true
      · rw [if_pos c79] at H
        exact (laws_FnHandsAhead.j0_no H).elim
      rw [if_neg c79] at H
      have c79b0 : (t548 != t552) = false := by simpa using c79
      (try (have c79b1 : decide (t548 = t552) = true := by simpa using c79))
      (try (have c79b2 : (t548 == t552) = true := by simpa using c79))
      clear c79
      by_cases c82 : (!(t546 == t550) || (!(t547 == t551))) = true
      · rw [if_pos c82] at H
        exact (laws_FnHandsAhead.j0_no H).elim
      rw [if_neg c82] at H
      have c82b0 : (!(t546 == t550) || (!(t547 == t551))) = false := by simpa using c82
      clear c82
      by_cases c98 : (t557 != t562) = true
      · rw [if_pos c98] at H
        exact (laws_FnHandsAhead.j0_no H).elim
      rw [if_neg c98] at H
      have c98b0 : (t557 != t562) = false := by simpa using c98
      (try (have c98b1 : decide (t557 = t562) = true := by simpa using c98))
      (try (have c98b2 : (t557 == t562) = true := by simpa using c98))
      clear c98
      by_cases c114 : ((!(t554 == t559) || (!(t555 == t560))) || (!(t556 == t561))) = true
      · rw [if_pos c114] at H
        exact (laws_FnHandsAhead.j0_no H).elim
      rw [if_neg c114] at H
      have c114b0 : ((!(t554 == t559) || (!(t555 == t560))) || (!(t556 == t561))) = false := by simpa using c114
      clear c114
      by_cases c139 : (t567 != t571) = true
      · rw [if_pos c139] at H
        exact (laws_FnHandsAhead.j0_no H).elim
      rw [if_neg c139] at H
      have c139b0 : (t567 != t571) = false := by simpa using c139
      (try (have c139b1 : decide (t567 = t571) = true := by simpa using c139))
      (try (have c139b2 : (t567 == t571) = true := by simpa using c139))
      clear c139
      replace H := Option.bind_eq_some_iff.mp H
      obtain ⟨t573, A1640, H⟩ := H
      (try dsimp only at H)
      have A164 := Aside0.mk A1640
      clear A1640
      have H' := Aside0.mk H
      clear H
      obtain ⟨Ao165, co165, eo165⟩ := Kd.R_slice HO540.1
      subst eo165
      obtain ⟨Ao166, co166, eo166⟩ := Kd.R_slice HO544.1
      subst eo166
      go_wp2_with (first | (go_at_call 14; (with_reducible refine (laws_kTurns.calls k _ _ t538 _ _ t542 true _ ?side1 ?side2 ?side3 ?side4 A77.1).mono ?_); (case side1 => repeat (first | exact (Kd.R_reads' HO540.1).2.2 | (with_reducible refine Kd.C_alloc ?_ _) | (with_reducible refine Kd.C_drewN ?_ _) | (with_reducible refine Kd.C_drew ?_))); (case side2 => exact (Kd.R_reads' HO540.1).2.1); (case side3 => repeat (first | exact (Kd.R_reads' HO544.1).2.2 | (with_reducible refine Kd.C_alloc ?_ _) | (with_reducible refine Kd.C_drewN ?_ _) | (with_reducible refine Kd.C_drew ?_))); (case side4 => exact (Kd.R_reads' HO544.1).2.1); rintro e w' ⟨rfl, ⟨nd, rfl⟩⟩; have hnc167 := LT535_549.1; have hnc168 := LT536_549.1; have hnc169 := LT537_549.1; have hnb170 := LT549_553.1; have hnb171 := LT549_558.1; have hnb172 := LT549_563.1; obtain ⟨hcz173_0, hcz173_1, hfz173_0, hfz173_1⟩ := zc2 BK549; have hnc174 := LT535_553.1; have hnc175 := LT536_553.1; have hnc176 := LT537_553.1; have hnb177 := LT553_558.1; have hnb178 := LT553_563.1; obtain ⟨hcz179_0, hcz179_1, hfz179_0, hfz179_1⟩ := zc2 BK553; have hnc180 := LT535_558.1; have hnc181 := LT536_558.1; have hnc182 := LT537_558.1; have hnb183 := LT558_563.1; obtain ⟨hcz184_0, hcz184_1, hcz184_2, hfz184_0, hfz184_1, hfz184_2⟩ := zc3 BK558; have hnc185 := LT535_563.1; have hnc186 := LT536_563.1; have hnc187 := LT537_563.1; obtain ⟨hcz188_0, hcz188_1, hcz188_2, hfz188_0, hfz188_1, hfz188_2⟩ := zc3 BK563; obtain ⟨Ao189, co189, eo189⟩ := Kd.R_slice HO566.1; subst eo189; obtain ⟨Ao190, co190, eo190⟩ := Kd.R_slice HO570.1; subst eo190) | (go_at_call 14; (with_reducible refine (laws_kTurns.calls k _ _ t564 _ _ t568 t573 _ ?side1 ?side2 ?side3 ?side4 A164.1).mono ?_); (case side1 => repeat (first | exact (Kd.R_reads' HO566.1).2.2 | (with_reducible refine Kd.C_alloc ?_ _) | (with_reducible refine Kd.C_drewN ?_ _) | (with_reducible refine Kd.C_drew ?_))); (case side2 => exact (Kd.R_reads' HO566.1).2.1); (case side3 => repeat (first | exact (Kd.R_reads' HO570.1).2.2 | (with_reducible refine Kd.C_alloc ?_ _) | (with_reducible refine Kd.C_drewN ?_ _) | (with_reducible refine Kd.C_drew ?_))); (case side4 => exact (Kd.R_reads' HO570.1).2.1); rintro e w' ⟨rfl, ⟨nd, rfl⟩⟩))
      go_meet
      case rel => exact ⟨_, (!t573), ew, H', le_, ⟨by (with_reducible repeat (first | apply Kd.R_alloc | apply Kd.R_drewN | apply Kd.R_drew)); exact Kd.R_mono HO540.1 (fun _ hk => ⟨hk.1.2, ⟨hk.1.1.1.1.1.2, ⟨hk.1.1.1.2, hk.1.1.2⟩⟩⟩)⟩, ⟨by (with_reducible repeat (first | apply Kd.R_alloc | apply Kd.R_drewN | apply Kd.R_drew)); exact Kd.R_mono HO566.1 (fun _ hk => ⟨hk.1.1.1.1.1.2, ⟨hk.1.1.1.2, ⟨hk.1.1.2, hk.1.2⟩⟩⟩)⟩, ⟨bk BK535⟩, ⟨bk BK536⟩, ⟨bk BK537⟩, ⟨bk BK549⟩, ⟨bk BK553⟩, ⟨bk BK558⟩, ⟨bq HB⟩⟩
    replace c78 := Bool.eq_false_iff.mpr c78
    subst c78
    have H1 := H
    rw [if_neg (show ¬ (false = true) by decide)] at H1
    clear H
    have H := H1
    exact (laws_FnHandsAhead.j0_no H).elim
  clear HC14
  try clear c1
  try clear c4
  try clear hcz21_0
  try clear hcz21_1
  try clear hcz21_2
  try clear hcz23_0
  try clear hcz23_1
  try clear hcz23_2
  try clear hcz24_0
  try clear hcz24_1
  try clear hcz26_0
  try clear hcz26_1
  try clear hcz26_2
  try clear hcz27_0
  try clear hcz27_1
  try clear hcz27_2
  try clear hcz28_0
  try clear hcz28_1
  try clear hcz30_0
  try clear hcz30_1
  try clear hcz30_2
  try clear hcz31_0
  try clear hcz31_1
  try clear hcz31_2
  try clear hcz32_0
  try clear hcz32_1
  try clear hcz38_0
  try clear hcz38_1
  try clear hcz39_0
  try clear hcz39_1
  try clear hcz39_2
  try clear hcz40_0
  try clear hcz40_1
  try clear hcz40_2
  try clear hcz41_0
  try clear hcz41_1
  try clear hcz48_0
  try clear hcz48_1
  try clear hcz49_0
  try clear hcz49_1
  try clear hcz49_2
  try clear hcz50_0
  try clear hcz50_1
  try clear hcz50_2
  try clear hcz58_0
  try clear hcz58_1
  try clear hcz58_2
  try clear hcz59_0
  try clear hcz59_1
  try clear hcz59_2
  try clear hcz60_0
  try clear hcz60_1
  try clear hcz60_2
  try clear hcz69_0
  try clear hcz69_1
  try clear hcz69_2
  try clear hcz70_0
  try clear hcz70_1
  try clear hcz70_2
  try clear hcz71_0
  try clear hcz71_1
  try clear hcz71_2
  try clear hcz73_0
  try clear hcz73_1
  try clear hcz73_2
  try clear hcz74_0
  try clear hcz74_1
  try clear hcz74_2
  try clear hfz21_0
  try clear hfz21_1
  try clear hfz21_2
  try clear hfz23_0
  try clear hfz23_1
  try clear hfz23_2
  try clear hfz24_0
  try clear hfz24_1
  try clear hfz26_0
  try clear hfz26_1
  try clear hfz26_2
  try clear hfz27_0
  try clear hfz27_1
  try clear hfz27_2
  try clear hfz28_0
  try clear hfz28_1
  try clear hfz30_0
  try clear hfz30_1
  try clear hfz30_2
  try clear hfz31_0
  try clear hfz31_1
  try clear hfz31_2
  try clear hfz32_0
  try clear hfz32_1
  try clear hfz38_0
  try clear hfz38_1
  try clear hfz39_0
  try clear hfz39_1
  try clear hfz39_2
  try clear hfz40_0
  try clear hfz40_1
  try clear hfz40_2
  try clear hfz41_0
  try clear hfz41_1
  try clear hfz48_0
  try clear hfz48_1
  try clear hfz49_0
  try clear hfz49_1
  try clear hfz49_2
  try clear hfz50_0
  try clear hfz50_1
  try clear hfz50_2
  try clear hfz58_0
  try clear hfz58_1
  try clear hfz58_2
  try clear hfz59_0
  try clear hfz59_1
  try clear hfz59_2
  try clear hfz60_0
  try clear hfz60_1
  try clear hfz60_2
  try clear hfz69_0
  try clear hfz69_1
  try clear hfz69_2
  try clear hfz70_0
  try clear hfz70_1
  try clear hfz70_2
  try clear hfz71_0
  try clear hfz71_1
  try clear hfz71_2
  try clear hfz73_0
  try clear hfz73_1
  try clear hfz73_2
  try clear hfz74_0
  try clear hfz74_1
  try clear hfz74_2
  obtain ⟨kq, x163_13, rfl, HA, HJ13, HO_8, HO_20, BK535, BK536, BK537, BK549, BK553, BK558, HB⟩ := hcut
  exact laws_FnHandsAhead.rest1 HR0 HC0 HR1 HC1 A3 A5 A6 A7 A8 A9 A10 A11 A12 A13 GW535 GE535 GW536 GE536 NB535_536 LT535_536 NB536_535 GW537 GE537 NB535_537 LT535_537 NB537_535 NB536_537 LT536_537 NB537_536 GW549 GE549 NB535_549 LT535_549 NB549_535 NB536_549 LT536_549 NB549_536 NB537_549 LT537_549 NB549_537 GW553 GE553 NB535_553 LT535_553 NB553_535 NB536_553 LT536_553 NB553_536 NB537_553 LT537_553 NB553_537 NB549_553 LT549_553 NB553_549 GW558 GE558 NB535_558 LT535_558 NB558_535 NB536_558 LT536_558 NB558_536 NB537_558 LT537_558 NB558_537 NB549_558 LT549_558 NB558_549 NB553_558 LT553_558 NB558_553 GW563 GE563 NB535_563 LT535_563 NB563_535 NB536_563 LT536_563 NB563_536 NB537_563 LT537_563 NB563_537 NB549_563 LT549_563 NB563_549 NB553_563 LT553_563 NB563_553 NB558_563 LT558_563 NB563_558 HA HJ13 HO_8 HO_20 BK535 BK536 BK537 BK549 BK553 BK558 HB _ _ (fun a w h_ => by go_step; exact cut_lit h_ rfl) (fun a w h_ => by go_step; exact cut_lit h_ rfl)
/-- THE ONE PURE STATEMENT of laws_FnHandsAhead: yours. -/
def laws_FnHandsAhead.Pure : Prop := ∀ (l0 : List Int) (l1 : List Int), l0.length ≤ maxLen → l0.length * 1 ≤ 140737488351232 → (∀ x ∈ l0, (Lit.int .u8 x).wf = true) → l1.length ≤ maxLen → l1.length * 1 ≤ 140737488351232 → (∀ x ∈ l1, (Lit.int .u8 x).wf = true) → ∃ k, laws_FnHandsAhead.f k l0 l1 = some true
theorem laws_FnHandsAhead.walk (P : laws_FnHandsAhead.Pure) (a0 : Option Addr) (len0 cap0 : Nat) (z0 : List Int) (a1 : Option Addr) (len1 cap1 : Nat) (z1 : List Int) (w : World) (w0 : (a0 = none ∧ len0 = 0 ∧ cap0 = 0 ∧ z0 = []) ∨ ∃ x, a0 = some x ∧ len0 ≤ cap0 ∧ cap0 ≤ maxLen ∧ z0.length = cap0 ∧ (∀ i, i < z0.length → w.cell? (x.add i) = some (.int .u8 (z0.getD i 0))) ∧ ∀ n ∈ z0, (Lit.int .u8 n).wf = true) (y0 : len0 * 1 ≤ 140737488351232) (w1 : (a1 = none ∧ len1 = 0 ∧ cap1 = 0 ∧ z1 = []) ∨ ∃ x, a1 = some x ∧ len1 ≤ cap1 ∧ cap1 ≤ maxLen ∧ z1.length = cap1 ∧ (∀ i, i < z1.length → w.cell? (x.add i) = some (.int .u8 (z1.getD i 0))) ∧ ∀ n ∈ z1, (Lit.int .u8 n).wf = true) (y1 : len1 * 1 ≤ 140737488351232) :
    Calls Try.prog 3 #[.slice a0 len0 cap0, .slice a1 len1 cap1] w fun e w' => e = .returned (.bool true) ∧ Below w.heap.size w w' := by
  obtain ⟨l0, rfl, hr0, hm0, hw0, hc0⟩ := ReadsInt.ofRowC w0
  obtain ⟨l1, rfl, hr1, hm1, hw1, hc1⟩ := ReadsInt.ofRowC w1
  obtain ⟨k, h⟩ := P l0 l1 hm0 y0 hw0 hm1 y1 hw1
  refine (laws_FnHandsAhead.calls k _ _ l0 _ _ l1 w (Kd.C_of_reads (d := (0 : Int)) (h1 := fun _ => rfl) hr0) hc0 (Kd.C_of_reads (d := (0 : Int)) (h1 := fun _ => rfl) hr1) hc1 h).mono ?_
  rintro e w' ⟨rfl, hd⟩
  exact ⟨rfl, hd⟩

end Go.Proofs.Ytoneipoioiokcab.PFnHandsAhead
