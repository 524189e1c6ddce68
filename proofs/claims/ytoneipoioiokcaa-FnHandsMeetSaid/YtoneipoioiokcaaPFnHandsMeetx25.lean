/- A part of the walk of FnHandsMeet: which Lean function each Go function comes to, and that the machine's call does so. Written by a program of this repo (wip/gen/xprint.py). -/
import Derived.Test.YtoneipoioiokcaaPFnHandsMeetx22
import Derived.Test.YtoneipoioiokcaaPFnHandsMeetx23
import Derived.Test.YtoneipoioiokcaaPFnHandsMeetx24
namespace Go.Proofs.Ytoneipoioiokcaa.PFnHandsMeet
open Go.RowKit Go.Proofs.YtoneipoioiokcaaW.PrintWords Go.Proofs.YtoneipoioiokcaaW.PrintLast Go.Proofs.YtoneipoioiokcaaW.PrintMore
attribute [local go_sem] max2_int min2_int max_two min_two max_three min_three max_four min_four   -- for this text's walks alone
set_option linter.unusedVariables false
set_option linter.unusedSimpArgs false
attribute [local go_sem high] eqA25
set_option maxHeartbeats 8000000 in
set_option maxRecDepth 100000 in
theorem laws_FnHandsMeet.calls (k : Nat) (A0 : Option Addr) (c0 : Nat) (l0 : List Int) (A1 : Option Addr) (c1 : Nat) (l1 : List Int) (w : World) (hr0 : Kd.C (Kd.int .u8) w A0 l0.length l0) (hc0 : l0.length ≤ c0) (hr1 : Kd.C (Kd.int .u8) w A1 l1.length l1) (hc1 : l1.length ≤ c1) (h : laws_FnHandsMeet.f k l0 l1 = some true) :
    Calls Try.prog 3 #[.slice A0 l0.length c0, .slice A1 l1.length c1] w fun e w' => e = .returned (.bool true) ∧ Below w.heap.size w w' := by
  have hu27 := Try.underlying27
  have hu25 := Try.underlying25
  have HR0 := Aside0.mk hr0
  have HC0 := Aside0.mk hc0
  clear hr0 hc0
  have HR1 := Aside0.mk hr1
  have HC1 := Aside0.mk hc1
  clear hr1 hc1
  have HB := Aside0.mk (Below.refl w.heap.size w)
  have H : ((laws_big.f l0 l1).bind fun t516 => (if t516 = true then (some true) else ((spec_DrawMeetTimes.f k l0).bind fun bt517 => ((impl_MeetTimes.f k bt517.1 bt517.2.1 bt517.2.2.1 bt517.2.2.2.1 bt517.2.2.2.2.1 bt517.2.2.2.2.2).bind fun bt525 => ((spec_MeetTimes.f k bt517.1 bt517.2.1 bt517.2.2.1 bt517.2.2.2.1 bt517.2.2.2.2.1 bt517.2.2.2.2.2).bind fun bt529 => ((impl_CountMeets.f bt517.1 bt517.2.1 bt517.2.2.1 bt517.2.2.2.1 bt517.2.2.2.2.1 bt517.2.2.2.2.2).bind fun bt533 => ((spec_CountMeets.f k bt517.1 bt517.2.1 bt517.2.2.1 bt517.2.2.2.1 bt517.2.2.2.2.1 bt517.2.2.2.2.2).bind fun bt535 => ((impl_FirstMeet.f k bt517.1 bt517.2.1 bt517.2.2.1 bt517.2.2.2.1 bt517.2.2.2.2.1 bt517.2.2.2.2.2).bind fun bt537 => ((spec_FirstMeet.f k bt517.1 bt517.2.1 bt517.2.2.1 bt517.2.2.2.1 bt517.2.2.2.2.1 bt517.2.2.2.2.2).bind fun bt541 => ((impl_MeetPlaces.f k bt517.1 bt517.2.1 bt517.2.2.1 bt517.2.2.2.1 bt517.2.2.2.2.1 bt517.2.2.2.2.2).bind fun bt545 => ((spec_MeetPlaces.f k bt517.1 bt517.2.1 bt517.2.2.1 bt517.2.2.2.1 bt517.2.2.2.2.1 bt517.2.2.2.2.2).bind fun bt549 => (if (bt525.2 != bt529.2) = true then (laws_FnHandsMeet.j0 k l1 bt525.1 bt525.2 bt533.1 bt545.1 bt545.2 true bt517.1 bt517.2.1 bt517.2.2.1 bt517.2.2.2.1 bt517.2.2.2.2.1 bt517.2.2.2.2.2 bt537.1 bt537.2.1) else ((laws_kTurns.f k bt525.1 bt529.1).bind fun t553 => (if t553 = true then (if (bt533.2 != bt535.2) = true then (laws_FnHandsMeet.j0 k l1 bt525.1 bt525.2 bt533.1 bt545.1 bt545.2 true bt517.1 bt517.2.1 bt517.2.2.1 bt517.2.2.2.1 bt517.2.2.2.2.1 bt517.2.2.2.2.2 bt537.1 bt537.2.1) else (if bt533.1 = bt535.1 then (if (bt537.2.2 != bt541.2.2) = true then (laws_FnHandsMeet.j0 k l1 bt525.1 bt525.2 bt533.1 bt545.1 bt545.2 true bt517.1 bt517.2.1 bt517.2.2.1 bt517.2.2.2.1 bt517.2.2.2.2.1 bt517.2.2.2.2.2 bt537.1 bt537.2.1) else (if (!(bt537.1 == bt541.1) || (!(bt537.2.1 == bt541.2.1))) = true then (laws_FnHandsMeet.j0 k l1 bt525.1 bt525.2 bt533.1 bt545.1 bt545.2 true bt517.1 bt517.2.1 bt517.2.2.1 bt517.2.2.2.1 bt517.2.2.2.2.1 bt517.2.2.2.2.2 bt537.1 bt537.2.1) else (if (bt545.2 != bt549.2) = true then (laws_FnHandsMeet.j0 k l1 bt525.1 bt525.2 bt533.1 bt545.1 bt545.2 true bt517.1 bt517.2.1 bt517.2.2.1 bt517.2.2.2.1 bt517.2.2.2.2.1 bt517.2.2.2.2.2 bt537.1 bt537.2.1) else ((laws_kTurns.f k bt545.1 bt549.1).bind fun t554 => (if t554 = true then (if (bt537.2.2 != bt525.2) = true then (laws_FnHandsMeet.j0 k l1 bt525.1 bt525.2 bt533.1 bt545.1 bt545.2 true bt517.1 bt517.2.1 bt517.2.2.1 bt517.2.2.2.1 bt517.2.2.2.2.1 bt517.2.2.2.2.2 bt537.1 bt537.2.1) else (if bt545.2 = true then (if bt525.2 = true then (if bt533.2 = true then ((impl_IsHand.f k bt517.1 bt517.2.1 bt517.2.2.1).bind fun t555 => ((spec_IsHand.f k bt517.1 bt517.2.1 bt517.2.2.1).bind fun t556 => (laws_FnHandsMeet.j0 k l1 bt525.1 bt525.2 bt533.1 bt545.1 bt545.2 (t555 != t556) bt517.1 bt517.2.1 bt517.2.2.1 bt517.2.2.2.1 bt517.2.2.2.2.1 bt517.2.2.2.2.2 bt537.1 bt537.2.1))) else (laws_FnHandsMeet.j0 k l1 bt525.1 bt525.2 bt533.1 bt545.1 bt545.2 true bt517.1 bt517.2.1 bt517.2.2.1 bt517.2.2.2.1 bt517.2.2.2.2.1 bt517.2.2.2.2.2 bt537.1 bt537.2.1)) else (laws_FnHandsMeet.j0 k l1 bt525.1 bt525.2 bt533.1 bt545.1 bt545.2 true bt517.1 bt517.2.1 bt517.2.2.1 bt517.2.2.2.1 bt517.2.2.2.2.1 bt517.2.2.2.2.2 bt537.1 bt537.2.1)) else (if bt525.2 = true then (if bt533.2 = true then ((impl_IsHand.f k bt517.1 bt517.2.1 bt517.2.2.1).bind fun t557 => ((spec_IsHand.f k bt517.1 bt517.2.1 bt517.2.2.1).bind fun t558 => (laws_FnHandsMeet.j0 k l1 bt525.1 bt525.2 bt533.1 bt545.1 bt545.2 (t557 != t558) bt517.1 bt517.2.1 bt517.2.2.1 bt517.2.2.2.1 bt517.2.2.2.2.1 bt517.2.2.2.2.2 bt537.1 bt537.2.1))) else (laws_FnHandsMeet.j0 k l1 bt525.1 bt525.2 bt533.1 bt545.1 bt545.2 true bt517.1 bt517.2.1 bt517.2.2.1 bt517.2.2.2.1 bt517.2.2.2.2.1 bt517.2.2.2.2.2 bt537.1 bt537.2.1)) else ((impl_IsHand.f k bt517.1 bt517.2.1 bt517.2.2.1).bind fun t559 => ((spec_IsHand.f k bt517.1 bt517.2.1 bt517.2.2.1).bind fun t560 => (laws_FnHandsMeet.j0 k l1 bt525.1 bt525.2 bt533.1 bt545.1 bt545.2 (t559 != t560) bt517.1 bt517.2.1 bt517.2.2.1 bt517.2.2.2.1 bt517.2.2.2.2.1 bt517.2.2.2.2.2 bt537.1 bt537.2.1)))))) else (laws_FnHandsMeet.j0 k l1 bt525.1 bt525.2 bt533.1 bt545.1 bt545.2 true bt517.1 bt517.2.1 bt517.2.2.1 bt517.2.2.2.1 bt517.2.2.2.2.1 bt517.2.2.2.2.2 bt537.1 bt537.2.1)))))) else (laws_FnHandsMeet.j0 k l1 bt525.1 bt525.2 bt533.1 bt545.1 bt545.2 true bt517.1 bt517.2.1 bt517.2.2.1 bt517.2.2.2.1 bt517.2.2.2.2.1 bt517.2.2.2.2.2 bt537.1 bt537.2.1))) else (laws_FnHandsMeet.j0 k l1 bt525.1 bt525.2 bt533.1 bt545.1 bt545.2 true bt517.1 bt517.2.1 bt517.2.2.1 bt517.2.2.2.1 bt517.2.2.2.2.1 bt517.2.2.2.2.2 bt537.1 bt537.2.1))))))))))))))) = some true := h
  clear h
  replace H := Option.bind_eq_some_iff.mp H
  obtain ⟨t516, A30, H⟩ := H
  (try dsimp only at H)
  have A3 := Aside0.mk A30
  clear A30
  by_cases c4 : t516 = true
  · subst c4
    have H1 : (some true) = some true := rfl
    clear H
    have H := H1
    clear H1
    clear H
    go_enter Try.func3, Try.ntmps3
    go_wp2_with (first | ((with_reducible refine gate_callee (f := 4) rfl ?_); refine gl (some 47) Try.func4 #[.slice A0 l0.length c0, .slice A1 l1.length c1] ?_; (with_reducible refine (laws_big.calls _ _ l0 _ _ l1 true _ ?side1 ?side2 ?side3 ?side4 A3.1).mono ?_); (case side1 => repeat (first | exact HR0.1 | (with_reducible refine Kd.C_alloc ?_ _) | (with_reducible refine Kd.C_drewN ?_ _) | (with_reducible refine Kd.C_drew ?_))); (case side2 => exact HC0.1); (case side3 => repeat (first | exact HR1.1 | (with_reducible refine Kd.C_alloc ?_ _) | (with_reducible refine Kd.C_drewN ?_ _) | (with_reducible refine Kd.C_drew ?_))); (case side4 => exact HC1.1); rintro e w' ⟨rfl, ⟨nd, rfl⟩⟩; refine ⟨_, rfl, ?_⟩))
    go_ret
    exact ⟨er, bq HB⟩
  skip
  replace c4 := Bool.eq_false_iff.mpr c4
  subst c4
  rw [if_neg (show ¬ (false = true) by decide)] at H
  replace H := Option.bind_eq_some_iff.mp H
  obtain ⟨⟨t517, t518, t519, t520, t521, t522⟩, A50, H⟩ := H
  (try dsimp only at H)
  have A5 := Aside0.mk A50
  clear A50
  replace H := Option.bind_eq_some_iff.mp H
  obtain ⟨⟨t525, t528⟩, A60, H⟩ := H
  (try dsimp only at H)
  have A6 := Aside0.mk A60
  clear A60
  replace H := Option.bind_eq_some_iff.mp H
  obtain ⟨⟨t529, t532⟩, A70, H⟩ := H
  (try dsimp only at H)
  have A7 := Aside0.mk A70
  clear A70
  replace H := Option.bind_eq_some_iff.mp H
  obtain ⟨⟨t533, t534⟩, A80, H⟩ := H
  (try dsimp only at H)
  have A8 := Aside0.mk A80
  clear A80
  replace H := Option.bind_eq_some_iff.mp H
  obtain ⟨⟨t535, t536⟩, A90, H⟩ := H
  (try dsimp only at H)
  have A9 := Aside0.mk A90
  clear A90
  replace H := Option.bind_eq_some_iff.mp H
  obtain ⟨⟨t537, t538, t539⟩, A100, H⟩ := H
  (try dsimp only at H)
  have A10 := Aside0.mk A100
  clear A100
  replace H := Option.bind_eq_some_iff.mp H
  obtain ⟨⟨t541, t542, t543⟩, A110, H⟩ := H
  (try dsimp only at H)
  have A11 := Aside0.mk A110
  clear A110
  replace H := Option.bind_eq_some_iff.mp H
  obtain ⟨⟨t545, t548⟩, A120, H⟩ := H
  (try dsimp only at H)
  have A12 := Aside0.mk A120
  clear A120
  replace H := Option.bind_eq_some_iff.mp H
  obtain ⟨⟨t549, t552⟩, A130, H⟩ := H
  (try dsimp only at H)
  have A13 := Aside0.mk A130
  clear A130
  have HC14 := Aside0.mk H
  clear H
  go_enter Try.func3, Try.ntmps3
  go_upto_region 12 with (first | ((with_reducible refine gate_callee (f := 4) rfl ?_); refine gl (some 47) Try.func4 #[.slice A0 l0.length c0, .slice A1 l1.length c1] ?_; (with_reducible refine (laws_big.calls _ _ l0 _ _ l1 false _ ?side1 ?side2 ?side3 ?side4 A3.1).mono ?_); (case side1 => repeat (first | exact HR0.1 | (with_reducible refine Kd.C_alloc ?_ _) | (with_reducible refine Kd.C_drewN ?_ _) | (with_reducible refine Kd.C_drew ?_))); (case side2 => exact HC0.1); (case side3 => repeat (first | exact HR1.1 | (with_reducible refine Kd.C_alloc ?_ _) | (with_reducible refine Kd.C_drewN ?_ _) | (with_reducible refine Kd.C_drew ?_))); (case side4 => exact HC1.1); rintro e w' ⟨rfl, ⟨nd, rfl⟩⟩; refine ⟨_, rfl, ?_⟩) | ((with_reducible refine gate_callee (f := 5) rfl ?_); refine gl (some 50) Try.func5 #[.slice A0 l0.length c0] ?_; (with_reducible refine (spec_DrawMeetTimes.calls k _ _ l0 t517 t518 t519 t520 t521 t522 _ ?side1 ?side2 A5.1).mono ?_); (case side1 => repeat (first | exact HR0.1 | (with_reducible refine Kd.C_alloc ?_ _) | (with_reducible refine Kd.C_drewN ?_ _) | (with_reducible refine Kd.C_drew ?_))); (case side2 => exact HC0.1); rintro e w15 ⟨rfl, hb⟩; refine ⟨_, rfl, ?_⟩; replace HB := zB HB hb; clear hb) | ((with_reducible refine gate_dst (N := 5) rfl ?_); (try (refine gate_guard (by rfl) ?_; dsimp only)); refine be #[.int .i64 0, .int .i64 0, .int .i64 0] 27 ?_; intro gb523 hg w16 hbox hb; have BK523 := Aside0.mk hbox; have GW523 := zs HB hg; have GE523 := zs HB hg; replace HB := zB HB hb; clear hb hbox hg) | ((with_reducible refine gate_dst (N := 6) rfl ?_); (try (refine gate_guard (by rfl) ?_; dsimp only)); refine be #[.int .i64 0, .int .i64 0, .int .i64 0] 27 ?_; intro gb524 hg w17 hbox hb; have BK524 := Aside0.mk hbox; have GW524 := zs HB hg; have GE524 := zs HB hg; have NB523_524 := zn BK523 hg; have LT523_524 := zo BK523 hg; have NB524_523 := zm BK523 hg; replace BK523 := zb BK523 hb; replace HB := zB HB hb; clear hb hbox hg; have hnb18 := LT523_524.1; obtain ⟨hcz19_0, hcz19_1, hcz19_2, hfz19_0, hfz19_1, hfz19_2⟩ := zc3 BK523; obtain ⟨hcz20_0, hcz20_1, hcz20_2, hfz20_0, hfz20_1, hfz20_2⟩ := zc3 BK524) | ((with_reducible refine gate_callee (f := 6) rfl ?_); refine gl (some 56) Try.func6 #[.agg #[.int .i64 t517, .int .i64 t518, .int .i64 t519], .agg #[.int .i64 t520, .int .i64 t521, .int .i64 t522]] ?_; (with_reducible refine (impl_MeetTimes.calls k t517 t518 t519 t520 t521 t522 t525 t528 _ A6.1).mono ?_); rintro e w21 ⟨v526, rfl, ho0, hb⟩; refine ⟨_, rfl, ?_⟩; have HO527 := Aside0.mk (Kd.R_lower ho0 (below_size (bq HB))); replace BK523 := zy (o' := .cells #[.int .i64 t517, .int .i64 t518, .int .i64 t519] 27 (0, 0)) BK523 hb; replace BK524 := zy (o' := .cells #[.int .i64 t520, .int .i64 t521, .int .i64 t522] 27 (0, 0)) BK524 hb; replace HB := zB HB hb; (try clear hb); (try clear hb2); (try clear hk); (try clear hi); (try clear ho0); obtain ⟨hcz22_0, hcz22_1, hcz22_2, hfz22_0, hfz22_1, hfz22_2⟩ := zc3 BK523; obtain ⟨hcz23_0, hcz23_1, hcz23_2, hfz23_0, hfz23_1, hfz23_2⟩ := zc3 BK524) | ((with_reducible refine gate_callee (f := 7) rfl ?_); refine gl (some 62) Try.func7 #[.agg #[.int .i64 t517, .int .i64 t518, .int .i64 t519], .agg #[.int .i64 t520, .int .i64 t521, .int .i64 t522]] ?_; (with_reducible refine (spec_MeetTimes.calls k t517 t518 t519 t520 t521 t522 t529 t532 _ A7.1).mono ?_); rintro e w24 ⟨v530, rfl, ho0, hb⟩; refine ⟨_, rfl, ?_⟩; have HO531 := Aside0.mk (Kd.R_lower (Kd.R_new' ho0 (Kd.R_lt (rq HO527))) (below_size (bq HB))); replace HO527 := Aside0.mk (Kd.R_elder' (rq HO527) (Kd.R_base ho0) hb); replace BK523 := zb BK523 hb; replace BK524 := zb BK524 hb; replace HB := zB HB hb; (try clear hb); (try clear hb2); (try clear hk); (try clear hi); (try clear ho0); obtain ⟨hcz25_0, hcz25_1, hcz25_2, hfz25_0, hfz25_1, hfz25_2⟩ := zc3 BK523; obtain ⟨hcz26_0, hcz26_1, hcz26_2, hfz26_0, hfz26_1, hfz26_2⟩ := zc3 BK524) | ((with_reducible refine gate_callee (f := 8) rfl ?_); refine gl (some 68) Try.func8 #[.agg #[.int .i64 t517, .int .i64 t518, .int .i64 t519], .agg #[.int .i64 t520, .int .i64 t521, .int .i64 t522]] ?_; (with_reducible refine (impl_CountMeets.calls t517 t518 t519 t520 t521 t522 t533 t534 _ A8.1).mono ?_); rintro e w27 ⟨rfl, hb⟩; refine ⟨_, rfl, ?_⟩; replace HO527 := rB HO527 hb; replace HO531 := rB HO531 hb; replace BK523 := zb BK523 hb; replace BK524 := zb BK524 hb; replace HB := zB HB hb; clear hb; obtain ⟨hcz28_0, hcz28_1, hcz28_2, hfz28_0, hfz28_1, hfz28_2⟩ := zc3 BK523; obtain ⟨hcz29_0, hcz29_1, hcz29_2, hfz29_0, hfz29_1, hfz29_2⟩ := zc3 BK524) | ((with_reducible refine gate_callee (f := 9) rfl ?_); refine gl (some 74) Try.func9 #[.agg #[.int .i64 t517, .int .i64 t518, .int .i64 t519], .agg #[.int .i64 t520, .int .i64 t521, .int .i64 t522]] ?_; (with_reducible refine (spec_CountMeets.calls k t517 t518 t519 t520 t521 t522 t535 t536 _ A9.1).mono ?_); rintro e w30 ⟨rfl, hb⟩; refine ⟨_, rfl, ?_⟩; replace HO527 := rB HO527 hb; replace HO531 := rB HO531 hb; replace BK523 := zb BK523 hb; replace BK524 := zb BK524 hb; replace HB := zB HB hb; clear hb; obtain ⟨hcz31_0, hcz31_1, hcz31_2, hfz31_0, hfz31_1, hfz31_2⟩ := zc3 BK523; obtain ⟨hcz32_0, hcz32_1, hcz32_2, hfz32_0, hfz32_1, hfz32_2⟩ := zc3 BK524) | ((with_reducible refine gate_callee (f := 10) rfl ?_); refine gl (some 80) Try.func10 #[.agg #[.int .i64 t517, .int .i64 t518, .int .i64 t519], .agg #[.int .i64 t520, .int .i64 t521, .int .i64 t522]] ?_; (with_reducible refine (impl_FirstMeet.calls k t517 t518 t519 t520 t521 t522 t537 t538 t539 _ A10.1).mono ?_); rintro e w33 ⟨rfl, hb⟩; refine ⟨_, rfl, ?_⟩; replace HO527 := rB HO527 hb; replace HO531 := rB HO531 hb; replace BK523 := zb BK523 hb; replace BK524 := zb BK524 hb; replace HB := zB HB hb; clear hb) | ((with_reducible refine gate_dst (N := 15) rfl ?_); (try (refine gate_guard (by rfl) ?_; dsimp only)); refine be #[.int .i64 0, .int .i64 0] 25 ?_; intro gb540 hg w34 hbox hb; replace HO527 := Aside0.mk (Kd.R_below (Kd.R_elderB (rq HO527) gb540 (Nat.le_of_eq hg.symm)) hb); replace HO531 := Aside0.mk (Kd.R_below (Kd.R_elderB (rq HO531) gb540 (Nat.le_of_eq hg.symm)) hb); have BK540 := Aside0.mk hbox; have GW540 := zs HB hg; have GE540 := zs HB hg; have NB523_540 := zn BK523 hg; have LT523_540 := zo BK523 hg; have NB540_523 := zm BK523 hg; have NB524_540 := zn BK524 hg; have LT524_540 := zo BK524 hg; have NB540_524 := zm BK524 hg; replace BK523 := zb BK523 hb; replace BK524 := zb BK524 hb; replace HB := zB HB hb; clear hb hbox hg; have hnc35 := LT523_540.1; have hnc36 := LT524_540.1; obtain ⟨hcz37_0, hcz37_1, hfz37_0, hfz37_1⟩ := zc2 BK540; obtain ⟨hcz38_0, hcz38_1, hcz38_2, hfz38_0, hfz38_1, hfz38_2⟩ := zc3 BK523; obtain ⟨hcz39_0, hcz39_1, hcz39_2, hfz39_0, hfz39_1, hfz39_2⟩ := zc3 BK524) | ((with_reducible refine gate_callee (f := 11) rfl ?_); refine gl (some 86) Try.func11 #[.agg #[.int .i64 t517, .int .i64 t518, .int .i64 t519], .agg #[.int .i64 t520, .int .i64 t521, .int .i64 t522]] ?_; (with_reducible refine (spec_FirstMeet.calls k t517 t518 t519 t520 t521 t522 t541 t542 t543 _ A11.1).mono ?_); rintro e w40 ⟨rfl, hb⟩; refine ⟨_, rfl, ?_⟩; replace HO527 := Aside0.mk (Kd.R_below (by (with_reducible repeat (first | apply Kd.R_alloc | apply Kd.R_drewN | apply Kd.R_drew)); exact (Kd.R_mono (Kd.R_far (p := ⟨gb540, 1, none⟩) (Kd.R_far (p := ⟨gb540, 0, none⟩) (Kd.R_mono HO527.1 (fun k_ hk => (⟨hk, hk.2⟩ : _ ∧ k_ ≠ gb540))) (fun _ hk => hk.2) (.int .i64 t537)) (fun _ hk => hk.2) (.int .i64 t538)) (fun _ h_ => h_.1))) hb); replace HO531 := Aside0.mk (Kd.R_below (by (with_reducible repeat (first | apply Kd.R_alloc | apply Kd.R_drewN | apply Kd.R_drew)); exact (Kd.R_mono (Kd.R_far (p := ⟨gb540, 1, none⟩) (Kd.R_far (p := ⟨gb540, 0, none⟩) (Kd.R_mono HO531.1 (fun k_ hk => (⟨hk, hk.2⟩ : _ ∧ k_ ≠ gb540))) (fun _ hk => hk.2) (.int .i64 t537)) (fun _ hk => hk.2) (.int .i64 t538)) (fun _ h_ => h_.1))) hb); replace BK523 := zy (o' := .cells #[.int .i64 t517, .int .i64 t518, .int .i64 t519] 27 (0, 0)) BK523 hb; replace BK524 := zy (o' := .cells #[.int .i64 t520, .int .i64 t521, .int .i64 t522] 27 (0, 0)) BK524 hb; replace BK540 := zy (o' := .cells #[.int .i64 t537, .int .i64 t538] 25 (0, 0)) BK540 hb; replace HB := zB HB hb; clear hb) | ((with_reducible refine gate_dst (N := 17) rfl ?_); (try (refine gate_guard (by rfl) ?_; dsimp only)); refine be #[.int .i64 0, .int .i64 0] 25 ?_; intro gb544 hg w41 hbox hb; replace HO527 := Aside0.mk (Kd.R_below (Kd.R_elderB (rq HO527) gb544 (Nat.le_of_eq hg.symm)) hb); replace HO531 := Aside0.mk (Kd.R_below (Kd.R_elderB (rq HO531) gb544 (Nat.le_of_eq hg.symm)) hb); have BK544 := Aside0.mk hbox; have GW544 := zs HB hg; have GE544 := zs HB hg; have NB523_544 := zn BK523 hg; have LT523_544 := zo BK523 hg; have NB544_523 := zm BK523 hg; have NB524_544 := zn BK524 hg; have LT524_544 := zo BK524 hg; have NB544_524 := zm BK524 hg; have NB540_544 := zn BK540 hg; have LT540_544 := zo BK540 hg; have NB544_540 := zm BK540 hg; replace BK523 := zb BK523 hb; replace BK524 := zb BK524 hb; replace BK540 := zb BK540 hb; replace HB := zB HB hb; clear hb hbox hg; have hnc42 := LT523_544.1; have hnc43 := LT524_544.1; have hnc44 := LT540_544.1; obtain ⟨hcz45_0, hcz45_1, hfz45_0, hfz45_1⟩ := zc2 BK544; obtain ⟨hcz46_0, hcz46_1, hcz46_2, hfz46_0, hfz46_1, hfz46_2⟩ := zc3 BK523; obtain ⟨hcz47_0, hcz47_1, hcz47_2, hfz47_0, hfz47_1, hfz47_2⟩ := zc3 BK524) | ((with_reducible refine gate_callee (f := 12) rfl ?_); refine gl (some 92) Try.func12 #[.agg #[.int .i64 t517, .int .i64 t518, .int .i64 t519], .agg #[.int .i64 t520, .int .i64 t521, .int .i64 t522]] ?_; (with_reducible refine (impl_MeetPlaces.calls k t517 t518 t519 t520 t521 t522 t545 t548 _ A12.1).mono ?_); rintro e w48 ⟨v546, rfl, ho0, hb⟩; refine ⟨_, rfl, ?_⟩; have HO547 := Aside0.mk (Kd.R_lower (Kd.R_newB (Kd.R_newB (Kd.R_new' (Kd.R_new' ho0 (Kd.R_lt (by (with_reducible repeat (first | apply Kd.R_alloc | apply Kd.R_drewN | apply Kd.R_drew)); exact (Kd.R_mono (Kd.R_far (p := ⟨gb544, 1, none⟩) (Kd.R_far (p := ⟨gb544, 0, none⟩) (Kd.R_mono HO527.1 (fun k_ hk => (⟨hk, hk.2⟩ : _ ∧ k_ ≠ gb544))) (fun _ hk => hk.2) (.int .i64 t541)) (fun _ hk => hk.2) (.int .i64 t542)) (fun _ h_ => h_.1))))) (Kd.R_lt (by (with_reducible repeat (first | apply Kd.R_alloc | apply Kd.R_drewN | apply Kd.R_drew)); exact (Kd.R_mono (Kd.R_far (p := ⟨gb544, 1, none⟩) (Kd.R_far (p := ⟨gb544, 0, none⟩) (Kd.R_mono HO531.1 (fun k_ hk => (⟨hk, hk.2⟩ : _ ∧ k_ ≠ gb544))) (fun _ hk => hk.2) (.int .i64 t541)) (fun _ hk => hk.2) (.int .i64 t542)) (fun _ h_ => h_.1))))) (g := gb540) (o := .cells #[.int .i64 t537, .int .i64 t538] 25 (0, 0)) (bk BK540)) (g := gb544) (o := .cells #[.int .i64 t541, .int .i64 t542] 25 (0, 0)) (bk BK544)) (below_size (bq HB))); replace HO527 := Aside0.mk (Kd.R_elder' (by (with_reducible repeat (first | apply Kd.R_alloc | apply Kd.R_drewN | apply Kd.R_drew)); exact (Kd.R_mono (Kd.R_far (p := ⟨gb544, 1, none⟩) (Kd.R_far (p := ⟨gb544, 0, none⟩) (Kd.R_mono HO527.1 (fun k_ hk => (⟨hk, hk.2⟩ : _ ∧ k_ ≠ gb544))) (fun _ hk => hk.2) (.int .i64 t541)) (fun _ hk => hk.2) (.int .i64 t542)) (fun _ h_ => h_.1))) (Kd.R_base ho0) hb); replace HO531 := Aside0.mk (Kd.R_elder' (by (with_reducible repeat (first | apply Kd.R_alloc | apply Kd.R_drewN | apply Kd.R_drew)); exact (Kd.R_mono (Kd.R_far (p := ⟨gb544, 1, none⟩) (Kd.R_far (p := ⟨gb544, 0, none⟩) (Kd.R_mono HO531.1 (fun k_ hk => (⟨hk, hk.2⟩ : _ ∧ k_ ≠ gb544))) (fun _ hk => hk.2) (.int .i64 t541)) (fun _ hk => hk.2) (.int .i64 t542)) (fun _ h_ => h_.1))) (Kd.R_base ho0) hb); replace BK523 := zy (o' := .cells #[.int .i64 t517, .int .i64 t518, .int .i64 t519] 27 (0, 0)) BK523 hb; replace BK524 := zy (o' := .cells #[.int .i64 t520, .int .i64 t521, .int .i64 t522] 27 (0, 0)) BK524 hb; replace BK540 := zy (o' := .cells #[.int .i64 t537, .int .i64 t538] 25 (0, 0)) BK540 hb; replace BK544 := zy (o' := .cells #[.int .i64 t541, .int .i64 t542] 25 (0, 0)) BK544 hb; replace HB := zB HB hb; (try clear hb); (try clear hb2); (try clear hk); (try clear hi); (try clear ho0); obtain ⟨hcz49_0, hcz49_1, hcz49_2, hfz49_0, hfz49_1, hfz49_2⟩ := zc3 BK523; obtain ⟨hcz50_0, hcz50_1, hcz50_2, hfz50_0, hfz50_1, hfz50_2⟩ := zc3 BK524) | ((with_reducible refine gate_callee (f := 13) rfl ?_); refine gl (some 98) Try.func13 #[.agg #[.int .i64 t517, .int .i64 t518, .int .i64 t519], .agg #[.int .i64 t520, .int .i64 t521, .int .i64 t522]] ?_; (with_reducible refine (spec_MeetPlaces.calls k t517 t518 t519 t520 t521 t522 t549 t552 _ A13.1).mono ?_); rintro e w51 ⟨v550, rfl, ho0, hb⟩; refine ⟨_, rfl, ?_⟩; have HO551 := Aside0.mk (Kd.R_lower (Kd.R_newB (Kd.R_newB (Kd.R_new' (Kd.R_new' (Kd.R_new' ho0 (Kd.R_lt (rq HO527))) (Kd.R_lt (rq HO531))) (Kd.R_lt (rq HO547))) (g := gb540) (o := .cells #[.int .i64 t537, .int .i64 t538] 25 (0, 0)) (bk BK540)) (g := gb544) (o := .cells #[.int .i64 t541, .int .i64 t542] 25 (0, 0)) (bk BK544)) (below_size (bq HB))); replace HO527 := Aside0.mk (Kd.R_elder' (rq HO527) (Kd.R_base ho0) hb); replace HO531 := Aside0.mk (Kd.R_elder' (rq HO531) (Kd.R_base ho0) hb); replace HO547 := Aside0.mk (Kd.R_elder' (rq HO547) (Kd.R_base ho0) hb); replace BK523 := zb BK523 hb; replace BK524 := zb BK524 hb; replace BK540 := zb BK540 hb; replace BK544 := zb BK544 hb; replace HB := zB HB hb; (try clear hb); (try clear hb2); (try clear hk); (try clear hi); (try clear ho0)))
  (try simp only [Act.put, List.setIfInBounds_toArray, List.set_cons_zero, List.set_cons_succ])
  go_cut [166] from 101 to 166 (fun v166 wc => ∃ (kq : Nat) (x166_13 : Bool), v166 = .bool x166_13 ∧ Aside0 (laws_FnHandsMeet.j0 kq l1 t525 t528 t533 t545 t548 x166_13 t517 t518 t519 t520 t521 t522 t537 t538 = some true) ∧ Aside0 (kq ≤ k) ∧ Aside0 (Kd.R k25 25 wc w.heap.size (fun k_ => some k_ ≠ (v546 : Value).ownBlock ∧ k_ ≠ gb540 ∧ k_ ≠ gb544) v526 t525) ∧ Aside0 (Kd.R k25 25 wc w.heap.size (fun k_ => some k_ ≠ (v526 : Value).ownBlock ∧ k_ ≠ gb540 ∧ k_ ≠ gb544) v546 t545) ∧ Aside0 (wc.heap[gb523]? = some (.cells #[.int .i64 t517, .int .i64 t518, .int .i64 t519] 27 (0, 0))) ∧ Aside0 (wc.heap[gb524]? = some (.cells #[.int .i64 t520, .int .i64 t521, .int .i64 t522] 27 (0, 0))) ∧ Aside0 (wc.heap[gb540]? = some (.cells #[.int .i64 t537, .int .i64 t538] 25 (0, 0))) ∧ Aside0 (wc.heap[gb544]? = some (.cells #[.int .i64 t541, .int .i64 t542] 25 (0, 0))) ∧ Aside0 (Below w.heap.size w wc))
  case first =>
    have H := HC14.1
    clear HC14
    by_cases c52 : (t528 != t532) = true
    · rw [if_pos c52] at H
      exact (laws_FnHandsMeet.j0_no H).elim
    rw [if_neg c52] at H
    have c52b0 : (t528 != t532) = false := by simpa using c52
    (try (have c52b1 : decide (t528 = t532) = true := by simpa using c52))
    (try (have c52b2 : (t528 == t532) = true := by simpa using c52))
    clear c52
    (first | rw [c52b0] | (simp only [i64_w, i32_w]; rw [c52b0]) | skip)
    replace H := Option.bind_eq_some_iff.mp H
    obtain ⟨t553, A540, H⟩ := H
    (try dsimp only at H)
    have A54 := Aside0.mk A540
    clear A540
    by_cases c55 : t553 = true
    · subst c55
      rw [if_pos rfl] at H
      by_cases c56 : (t534 != t536) = true
      · rw [if_pos c56] at H
        exact (laws_FnHandsMeet.j0_no H).elim
      rw [if_neg c56] at H
      have c56b0 : (t534 != t536) = false := by simpa using c56
      (try (have c56b1 : decide (t534 = t536) = true := by simpa using c56))
      (try (have c56b2 : (t534 == t536) = true := by simpa using c56))
      clear c56
      by_cases c60 : t533 = t535
      · rw [if_pos c60] at H
        have c60b0 : (t533 == t535) = true := beq_iff_eq.mpr c60
        have c60b1 : (t533 != t535) = false := bne_eq_false_iff_eq.mpr c60
        clear c60
        by_cases c61 : (t539 != t543) = true
        · rw [if_pos c61] at H
          exact (laws_FnHandsMeet.j0_no H).elim
        rw [if_neg c61] at H
        have c61b0 : (t539 != t543) = false := by simpa using c61
        (try (have c61b1 : decide (t539 = t543) = true := by simpa using c61))
        (try (have c61b2 : (t539 == t543) = true := by simpa using c61))
        clear c61
        by_cases c65 : (!(t537 == t541) || (!(t538 == t542))) = true
        · rw [if_pos c65] at H
          exact (laws_FnHandsMeet.j0_no H).elim
        rw [if_neg c65] at H
        have c65b0 : (!(t537 == t541) || (!(t538 == t542))) = false := by simpa using c65
        clear c65
        by_cases c69 : (t548 != t552) = true
        · rw [if_pos c69] at H
          exact (laws_FnHandsMeet.j0_no H).elim
        rw [if_neg c69] at H
        have c69b0 : (t548 != t552) = false := by simpa using c69
        (try (have c69b1 : decide (t548 = t552) = true := by simpa using c69))
        (try (have c69b2 : (t548 == t552) = true := by simpa using c69))
        clear c69
        replace H := Option.bind_eq_some_iff.mp H
        obtain ⟨t554, A730, H⟩ := H
        (try dsimp only at H)
        have A73 := Aside0.mk A730
        clear A730
        by_cases c74 : t554 = true
        · subst c74
          rw [if_pos rfl] at H
          by_cases c75 : (t539 != t528) = true
          · rw [if_pos c75] at H
            exact (laws_FnHandsMeet.j0_no H).elim
          rw [if_neg c75] at H
          have c75b0 : (t539 != t528) = false := by simpa using c75
          (try (have c75b1 : decide (t539 = t528) = true := by simpa using c75))
          (try (have c75b2 : (t539 == t528) = true := by simpa using c75))
          clear c75
          by_cases c81 : t548 = true
          · subst c81
            rw [if_pos rfl] at H
            by_cases c82 : t528 = true
            · subst c82
              rw [if_pos rfl] at H
              by_cases c83 : t534 = true
              · skip
                subst c83
                rw [if_pos rfl] at H
                replace H := Option.bind_eq_some_iff.mp H
                obtain ⟨t555, A840, H⟩ := H
                (try dsimp only at H)
                have A84 := Aside0.mk A840
                clear A840
                replace H := Option.bind_eq_some_iff.mp H
                obtain ⟨t556, A850, H⟩ := H
                (try dsimp only at H)
                have A85 := Aside0.mk A850
                clear A850
                have H' := Aside0.mk H
                clear H
                try go_wp2
                replace HO527 := Aside0.mk (Kd.R_drew HO527.1)
                replace HO531 := Aside0.mk (Kd.R_drew HO531.1)
                replace HO547 := Aside0.mk (Kd.R_drew HO547.1)
                replace HO551 := Aside0.mk (Kd.R_drew HO551.1)
                replace BK523 := Aside0.mk (blk_drew BK523.1)
                replace BK524 := Aside0.mk (blk_drew BK524.1)
                replace BK540 := Aside0.mk (blk_drew BK540.1)
                replace BK544 := Aside0.mk (blk_drew BK544.1)
                replace HB := Aside0.mk (below_drew1 HB.1)
                obtain ⟨Ao87, co87, eo87⟩ := Kd.R_slice HO527.1
                (first | subst eo87 | (injection eo87 with f1_ f2_ f3_; have f4_ := f1_.symm; have f5_ := f3_.symm; clear f1_ f2_ f3_; subst f4_; subst f5_))
                obtain ⟨Ao88, co88, eo88⟩ := Kd.R_slice HO531.1
                (first | subst eo88 | (injection eo88 with f1_ f2_ f3_; have f4_ := f1_.symm; have f5_ := f3_.symm; clear f1_ f2_ f3_; subst f4_; subst f5_))
                refine start_ (n := 66) (S := fun w' => w'.cell? ⟨gb540, 0, none⟩ = some (.int .i64 t537) ∧ w'.cell? ⟨gb540, 1, none⟩ = some (.int .i64 t538) ∧ w'.cell? ⟨gb544, 0, none⟩ = some (.int .i64 t541) ∧ w'.cell? ⟨gb544, 1, none⟩ = some (.int .i64 t542) ∧ w'.cell? ⟨gb523, 0, none⟩ = some (.int .i64 t517) ∧ w'.cell? ⟨gb523, 1, none⟩ = some (.int .i64 t518) ∧ w'.cell? ⟨gb523, 2, none⟩ = some (.int .i64 t519)) (ds := []) (bs 66 0) (by kernel_rfl) rfl rfl ⟨(blk_cell BK540.1 0).trans rfl, (blk_cell BK540.1 1).trans rfl, (blk_cell BK544.1 0).trans rfl, (blk_cell BK544.1 1).trans rfl, (blk_cell BK523.1 0).trans rfl, (blk_cell BK523.1 1).trans rfl, (blk_cell BK523.1 2).trans rfl⟩ (fun hHeld => ?_); refine with_tabW laws_FnHandsMeet.tab12 laws_FnHandsMeet.bits12 (fun HT_ HW_ => ?_)
                generalize w51.drew = w86 at HO527 HO531 HO547 HO551 BK523 BK524 BK540 BK544 HB hHeld ⊢
                refine pu 0 101 HT_ rfl rfl (bs 66 1) ?_
                refine pu 1 102 HT_ rfl rfl (bs 66 3) ?_
                refine pu 2 103 HT_ rfl rfl (bs 66 7) ?_
                refine pu 3 104 HT_ rfl rfl (bs 66 15) ?_
                refine pu 4 105 HT_ rfl rfl (bs 66 31) ?_
                refine pu 5 106 HT_ rfl rfl (bs 66 63) ?_
                refine one_ (i := 6) (N := some 107) (bs 66 127) rfl rfl (one_of HT_.1 (by kernel_rfl)) (by decide) (fun K hK => ?_)
                refine gs Try.func14 #[.slice Ao87 t525.length co87, .slice Ao88 t529.length co88] ?_
                with_reducible refine (laws_kTurns.calls k _ _ t525 _ _ t529 true _ ?side1 ?side2 ?side3 ?side4 A54.1).mono ?_
                (case side1 => repeat (first | exact (Kd.R_reads' HO527.1).2.2 | (with_reducible refine Kd.C_alloc ?_ _) | (with_reducible refine Kd.C_drewN ?_ _) | (with_reducible refine Kd.C_drew ?_)))
                (case side2 => exact (Kd.R_reads' HO527.1).2.1)
                (case side3 => repeat (first | exact (Kd.R_reads' HO531.1).2.2 | (with_reducible refine Kd.C_alloc ?_ _) | (with_reducible refine Kd.C_drewN ?_ _) | (with_reducible refine Kd.C_drew ?_)))
                (case side4 => exact (Kd.R_reads' HO531.1).2.1)
                rintro e w' ⟨rfl, ⟨nd, rfl⟩⟩
                refine ⟨_, rfl, ?_⟩
                obtain ⟨Ao89, co89, eo89⟩ := Kd.R_slice HO547.1
                (first | subst eo89 | (injection eo89 with f1_ f2_ f3_; have f4_ := f1_.symm; have f5_ := f3_.symm; clear f1_ f2_ f3_; subst f4_; subst f5_))
                obtain ⟨Ao90, co90, eo90⟩ := Kd.R_slice HO551.1
                (first | subst eo90 | (injection eo90 with f1_ f2_ f3_; have f4_ := f1_.symm; have f5_ := f3_.symm; clear f1_ f2_ f3_; subst f4_; subst f5_))
                refine hK.out _ _ ⟨(blk_cell BK540.1 0).trans rfl, (blk_cell BK540.1 1).trans rfl, (blk_cell BK544.1 0).trans rfl, (blk_cell BK544.1 1).trans rfl, (blk_cell BK523.1 0).trans rfl, (blk_cell BK523.1 1).trans rfl, (blk_cell BK523.1 2).trans rfl⟩ (fun hHeld => ?_)
                clear hK K
                refine norm_ (aq 107) ?_
                refine pu 7 108 HT_ rfl rfl (bs 66 255) ?_
                refine pu 8 109 HT_ rfl rfl (bs 66 511) ?_
                refine pu 9 110 HT_ rfl rfl (bs 66 1023) ?_
                refine pu 10 111 HT_ rfl rfl (bs 66 2047) ?_
                refine pu 11 112 HT_ rfl rfl (bs 66 4095) ?_
                refine pu 12 113 HT_ rfl rfl (bs 66 8191) ?_
                refine pu 13 114 HT_ rfl rfl (bs 66 16383) ?_
                refine pu 14 115 HT_ rfl rfl (bs 66 32767) ?_
                refine pu 15 116 HT_ rfl rfl (bs 66 65535) ?_
                refine pu 16 117 HT_ rfl rfl (bs 66 131071) ?_
                refine pu 17 118 HT_ rfl rfl (bs 66 262143) ?_
                refine pu 18 119 HT_ rfl rfl (bs 66 524287) ?_
                refine pu 19 120 HT_ rfl rfl (bs 66 1048575) ?_
                refine pu 20 121 HT_ rfl rfl (bs 66 2097151) ?_
                refine pu 21 122 HT_ rfl rfl (bs 66 4194303) ?_
                refine pu 22 123 HT_ rfl rfl (bs 66 8388607) ?_
                refine pu 23 124 HT_ rfl rfl (bs 66 16777215) ?_
                refine pu 24 125 HT_ rfl rfl (bs 66 33554431) ?_
                refine tk 25 126 HT_ HW_ hHeld rfl rfl (bs 66 67108863) ?_
                refine tk 26 127 HT_ HW_ hHeld rfl rfl (bs 66 134217727) ?_
                refine pu 27 128 HT_ rfl rfl (bs 66 268435455) ?_
                refine pu 28 129 HT_ rfl rfl (bs 66 536870911) ?_
                refine pu 29 130 HT_ rfl rfl (bs 66 1073741823) ?_
                refine pu 30 131 HT_ rfl rfl (bs 66 2147483647) ?_
                refine pu 31 132 HT_ rfl rfl (bs 66 4294967295) ?_
                refine pu 32 133 HT_ rfl rfl (bs 66 8589934591) ?_
                refine pu 33 134 HT_ rfl rfl (bs 66 17179869183) ?_
                refine pu 34 135 HT_ rfl rfl (bs 66 34359738367) ?_
                refine pu 35 136 HT_ rfl rfl (bs 66 68719476735) ?_
                refine pu 36 137 HT_ rfl rfl (bs 66 137438953471) ?_
                refine one_ (i := 37) (N := some 138) (bs 66 274877906943) rfl rfl (one_of HT_.1 (by kernel_rfl)) (by decide) (fun K hK => ?_)
                refine gs Try.func14 #[.slice Ao89 t545.length co89, .slice Ao90 t549.length co90] ?_
                with_reducible refine (laws_kTurns.calls k _ _ t545 _ _ t549 true _ ?side1 ?side2 ?side3 ?side4 A73.1).mono ?_
                (case side1 => repeat (first | exact (Kd.R_reads' HO547.1).2.2 | (with_reducible refine Kd.C_alloc ?_ _) | (with_reducible refine Kd.C_drewN ?_ _) | (with_reducible refine Kd.C_drew ?_)))
                (case side2 => exact (Kd.R_reads' HO547.1).2.1)
                (case side3 => repeat (first | exact (Kd.R_reads' HO551.1).2.2 | (with_reducible refine Kd.C_alloc ?_ _) | (with_reducible refine Kd.C_drewN ?_ _) | (with_reducible refine Kd.C_drew ?_)))
                (case side4 => exact (Kd.R_reads' HO551.1).2.1)
                rintro e w' ⟨rfl, ⟨nd, rfl⟩⟩
                refine ⟨_, rfl, ?_⟩
                refine hK.out _ _ ⟨(blk_cell BK540.1 0).trans rfl, (blk_cell BK540.1 1).trans rfl, (blk_cell BK544.1 0).trans rfl, (blk_cell BK544.1 1).trans rfl, (blk_cell BK523.1 0).trans rfl, (blk_cell BK523.1 1).trans rfl, (blk_cell BK523.1 2).trans rfl⟩ (fun hHeld => ?_)
                clear hK K
                refine norm_ (aq 138) ?_
                refine pu 38 139 HT_ rfl rfl (bs 66 549755813887) ?_
                refine pu 39 140 HT_ rfl rfl (bs 66 1099511627775) ?_
                refine pu 40 141 HT_ rfl rfl (bs 66 2199023255551) ?_
                refine pu 41 142 HT_ rfl rfl (bs 66 4398046511103) ?_
                refine pu 42 143 HT_ rfl rfl (bs 66 8796093022207) ?_
                refine pu 43 144 HT_ rfl rfl (bs 66 17592186044415) ?_
                refine pu 44 145 HT_ rfl rfl (bs 66 35184372088831) ?_
                refine pu 45 146 HT_ rfl rfl (bs 66 70368744177663) ?_
                refine pu 46 147 HT_ rfl rfl (bs 66 140737488355327) ?_
                refine pu 47 148 HT_ rfl rfl (bs 66 281474976710655) ?_
                refine pu 48 149 HT_ rfl rfl (bs 66 562949953421311) ?_
                refine pu 49 150 HT_ rfl rfl (bs 66 1125899906842623) ?_
                refine pu 50 151 HT_ rfl rfl (bs 66 2251799813685247) ?_
                refine pu 51 152 HT_ rfl rfl (bs 66 4503599627370495) ?_
                refine pu 52 153 HT_ rfl rfl (bs 66 9007199254740991) ?_
                refine pu 53 154 HT_ rfl rfl (bs 66 18014398509481983) ?_
                refine pu 54 155 HT_ rfl rfl (bs 66 36028797018963967) ?_
                refine pu 55 156 HT_ rfl rfl (bs 66 72057594037927935) ?_
                refine pu 56 157 HT_ rfl rfl (bs 66 144115188075855871) ?_
                refine pu 57 158 HT_ rfl rfl (bs 66 288230376151711743) ?_
                refine pu 58 159 HT_ rfl rfl (bs 66 576460752303423487) ?_
                refine pu 59 160 HT_ rfl rfl (bs 66 1152921504606846975) ?_
                refine tk 60 161 HT_ HW_ hHeld rfl rfl (bs 66 2305843009213693951) ?_
                refine tk 62 163 HT_ HW_ hHeld rfl rfl (bs 66 6917529027641081855) ?_
                refine one_ (i := 61) (N := some 162) (bs 66 9223372036854775807) rfl rfl (one_of HT_.1 (by kernel_rfl)) (by decide) (fun K hK => ?_)
                refine gs Try.func15 #[.agg #[.int .i64 t517, .int .i64 t518, .int .i64 t519]] ?_
                with_reducible refine (impl_IsHand.calls k t517 t518 t519 t555 _ A84.1).mono ?_
                rintro e w91 ⟨rfl, hb⟩
                refine ⟨_, rfl, ?_⟩
                replace HO527 := rB HO527 hb
                replace HO531 := rB HO531 hb
                replace HO547 := rB HO547 hb
                replace HO551 := rB HO551 hb
                replace BK523 := zb BK523 hb
                replace BK524 := zb BK524 hb
                replace BK540 := zb BK540 hb
                replace BK544 := zb BK544 hb
                replace HB := zB HB hb
                (try clear hb)
                (try clear hb2)
                (try clear hk)
                (try clear hi)
                refine hK.out _ _ ⟨(blk_cell BK540.1 0).trans rfl, (blk_cell BK540.1 1).trans rfl, (blk_cell BK544.1 0).trans rfl, (blk_cell BK544.1 1).trans rfl, (blk_cell BK523.1 0).trans rfl, (blk_cell BK523.1 1).trans rfl, (blk_cell BK523.1 2).trans rfl⟩ (fun hHeld => ?_)
                clear hK K
                refine norm_ (aq 162) ?_
                refine one_ (i := 63) (N := some 164) (bs 66 18446744073709551615) rfl rfl (one_of HT_.1 (by kernel_rfl)) (by decide) (fun K hK => ?_)
                refine gs Try.func16 #[.agg #[.int .i64 t517, .int .i64 t518, .int .i64 t519]] ?_
                with_reducible refine (spec_IsHand.calls k t517 t518 t519 t556 _ A85.1).mono ?_
                rintro e w92 ⟨rfl, hb⟩
                refine ⟨_, rfl, ?_⟩
                replace HO527 := rB HO527 hb
                replace HO531 := rB HO531 hb
                replace HO547 := rB HO547 hb
                replace HO551 := rB HO551 hb
                replace BK523 := zb BK523 hb
                replace BK524 := zb BK524 hb
                replace BK540 := zb BK540 hb
                replace BK544 := zb BK544 hb
                replace HB := zB HB hb
                (try clear hb)
                (try clear hb2)
                (try clear hk)
                (try clear hi)
                refine hK.out _ _ ⟨(blk_cell BK540.1 0).trans rfl, (blk_cell BK540.1 1).trans rfl, (blk_cell BK544.1 0).trans rfl, (blk_cell BK544.1 1).trans rfl, (blk_cell BK523.1 0).trans rfl, (blk_cell BK523.1 1).trans rfl, (blk_cell BK523.1 2).trans rfl⟩ (fun hHeld => ?_)
                clear hK K
                refine norm_ (aq 164) ?_
                refine pu 64 165 HT_ rfl rfl (bs 66 36893488147419103231) ?_
                refine pu 65 166 HT_ rfl rfl (bs 66 73786976294838206463) ?_
                refine done_ (done_of HT_.1 (by kernel_rfl)) ?_
                try go_wp2
                go_meet
                case rel => exact ⟨_, ((t555 != t556)), ew, H', le_, ⟨by (with_reducible repeat (first | apply Kd.R_alloc | apply Kd.R_drewN | apply Kd.R_drew)); exact Kd.R_mono HO527.1 (fun _ hk => ⟨hk.1.2, ⟨hk.1.1.1.2, hk.1.1.2⟩⟩)⟩, ⟨by (with_reducible repeat (first | apply Kd.R_alloc | apply Kd.R_drewN | apply Kd.R_drew)); exact Kd.R_mono HO547.1 (fun _ hk => ⟨hk.1.1.1.1.2, ⟨hk.1.1.2, hk.1.2⟩⟩)⟩, ⟨bk BK523⟩, ⟨bk BK524⟩, ⟨bk BK540⟩, ⟨bk BK544⟩, ⟨bq HB⟩⟩
              replace c83 := Bool.eq_false_iff.mpr c83
              subst c83
              have H1 := H
              rw [if_neg (show ¬ (false = true) by decide)] at H1
              clear H
              have H := H1
              exact (laws_FnHandsMeet.j0_no H).elim
            replace c82 := Bool.eq_false_iff.mpr c82
            subst c82
            have H1 := H
            rw [if_neg (show ¬ (false = true) by decide)] at H1
            clear H
            have H := H1
            exact (laws_FnHandsMeet.j0_no H).elim
          replace c81 := Bool.eq_false_iff.mpr c81
          subst c81
          rw [if_neg (show ¬ (false = true) by decide)] at H
          by_cases c103 : t528 = true
          · subst c103
            rw [if_pos rfl] at H
            by_cases c104 : t534 = true
            · skip
              subst c104
              rw [if_pos rfl] at H
              replace H := Option.bind_eq_some_iff.mp H
              obtain ⟨t557, A1050, H⟩ := H
              (try dsimp only at H)
              have A105 := Aside0.mk A1050
              clear A1050
              replace H := Option.bind_eq_some_iff.mp H
              obtain ⟨t558, A1060, H⟩ := H
              (try dsimp only at H)
              have A106 := Aside0.mk A1060
              clear A1060
              have H' := Aside0.mk H
              clear H
              try go_wp2
              replace HO527 := Aside0.mk (Kd.R_drew HO527.1)
              replace HO531 := Aside0.mk (Kd.R_drew HO531.1)
              replace HO547 := Aside0.mk (Kd.R_drew HO547.1)
              replace HO551 := Aside0.mk (Kd.R_drew HO551.1)
              replace BK523 := Aside0.mk (blk_drew BK523.1)
              replace BK524 := Aside0.mk (blk_drew BK524.1)
              replace BK540 := Aside0.mk (blk_drew BK540.1)
              replace BK544 := Aside0.mk (blk_drew BK544.1)
              replace HB := Aside0.mk (below_drew1 HB.1)
              obtain ⟨Ao108, co108, eo108⟩ := Kd.R_slice HO527.1
              (first | subst eo108 | (injection eo108 with f1_ f2_ f3_; have f4_ := f1_.symm; have f5_ := f3_.symm; clear f1_ f2_ f3_; subst f4_; subst f5_))
              obtain ⟨Ao109, co109, eo109⟩ := Kd.R_slice HO531.1
              (first | subst eo109 | (injection eo109 with f1_ f2_ f3_; have f4_ := f1_.symm; have f5_ := f3_.symm; clear f1_ f2_ f3_; subst f4_; subst f5_))
              refine start_ (n := 66) (S := fun w' => w'.cell? ⟨gb540, 0, none⟩ = some (.int .i64 t537) ∧ w'.cell? ⟨gb540, 1, none⟩ = some (.int .i64 t538) ∧ w'.cell? ⟨gb544, 0, none⟩ = some (.int .i64 t541) ∧ w'.cell? ⟨gb544, 1, none⟩ = some (.int .i64 t542) ∧ w'.cell? ⟨gb523, 0, none⟩ = some (.int .i64 t517) ∧ w'.cell? ⟨gb523, 1, none⟩ = some (.int .i64 t518) ∧ w'.cell? ⟨gb523, 2, none⟩ = some (.int .i64 t519)) (ds := []) (bs 66 0) (by kernel_rfl) rfl rfl ⟨(blk_cell BK540.1 0).trans rfl, (blk_cell BK540.1 1).trans rfl, (blk_cell BK544.1 0).trans rfl, (blk_cell BK544.1 1).trans rfl, (blk_cell BK523.1 0).trans rfl, (blk_cell BK523.1 1).trans rfl, (blk_cell BK523.1 2).trans rfl⟩ (fun hHeld => ?_); refine with_tabW laws_FnHandsMeet.tab12 laws_FnHandsMeet.bits12 (fun HT_ HW_ => ?_)
              generalize w51.drew = w107 at HO527 HO531 HO547 HO551 BK523 BK524 BK540 BK544 HB hHeld ⊢
              refine pu 0 101 HT_ rfl rfl (bs 66 1) ?_
              refine pu 1 102 HT_ rfl rfl (bs 66 3) ?_
              refine pu 2 103 HT_ rfl rfl (bs 66 7) ?_
              refine pu 3 104 HT_ rfl rfl (bs 66 15) ?_
              refine pu 4 105 HT_ rfl rfl (bs 66 31) ?_
              refine pu 5 106 HT_ rfl rfl (bs 66 63) ?_
              refine one_ (i := 6) (N := some 107) (bs 66 127) rfl rfl (one_of HT_.1 (by kernel_rfl)) (by decide) (fun K hK => ?_)
              refine gs Try.func14 #[.slice Ao108 t525.length co108, .slice Ao109 t529.length co109] ?_
              with_reducible refine (laws_kTurns.calls k _ _ t525 _ _ t529 true _ ?side1 ?side2 ?side3 ?side4 A54.1).mono ?_
              (case side1 => repeat (first | exact (Kd.R_reads' HO527.1).2.2 | (with_reducible refine Kd.C_alloc ?_ _) | (with_reducible refine Kd.C_drewN ?_ _) | (with_reducible refine Kd.C_drew ?_)))
              (case side2 => exact (Kd.R_reads' HO527.1).2.1)
              (case side3 => repeat (first | exact (Kd.R_reads' HO531.1).2.2 | (with_reducible refine Kd.C_alloc ?_ _) | (with_reducible refine Kd.C_drewN ?_ _) | (with_reducible refine Kd.C_drew ?_)))
              (case side4 => exact (Kd.R_reads' HO531.1).2.1)
              rintro e w' ⟨rfl, ⟨nd, rfl⟩⟩
              refine ⟨_, rfl, ?_⟩
              obtain ⟨Ao110, co110, eo110⟩ := Kd.R_slice HO547.1
              (first | subst eo110 | (injection eo110 with f1_ f2_ f3_; have f4_ := f1_.symm; have f5_ := f3_.symm; clear f1_ f2_ f3_; subst f4_; subst f5_))
              obtain ⟨Ao111, co111, eo111⟩ := Kd.R_slice HO551.1
              (first | subst eo111 | (injection eo111 with f1_ f2_ f3_; have f4_ := f1_.symm; have f5_ := f3_.symm; clear f1_ f2_ f3_; subst f4_; subst f5_))
              refine hK.out _ _ ⟨(blk_cell BK540.1 0).trans rfl, (blk_cell BK540.1 1).trans rfl, (blk_cell BK544.1 0).trans rfl, (blk_cell BK544.1 1).trans rfl, (blk_cell BK523.1 0).trans rfl, (blk_cell BK523.1 1).trans rfl, (blk_cell BK523.1 2).trans rfl⟩ (fun hHeld => ?_)
              clear hK K
              refine norm_ (aq 107) ?_
              refine pu 7 108 HT_ rfl rfl (bs 66 255) ?_
              refine pu 8 109 HT_ rfl rfl (bs 66 511) ?_
              refine pu 9 110 HT_ rfl rfl (bs 66 1023) ?_
              refine pu 10 111 HT_ rfl rfl (bs 66 2047) ?_
              refine pu 11 112 HT_ rfl rfl (bs 66 4095) ?_
              refine pu 12 113 HT_ rfl rfl (bs 66 8191) ?_
              refine pu 13 114 HT_ rfl rfl (bs 66 16383) ?_
              refine pu 14 115 HT_ rfl rfl (bs 66 32767) ?_
              refine pu 15 116 HT_ rfl rfl (bs 66 65535) ?_
              refine pu 16 117 HT_ rfl rfl (bs 66 131071) ?_
              refine pu 17 118 HT_ rfl rfl (bs 66 262143) ?_
              refine pu 18 119 HT_ rfl rfl (bs 66 524287) ?_
              refine pu 19 120 HT_ rfl rfl (bs 66 1048575) ?_
              refine pu 20 121 HT_ rfl rfl (bs 66 2097151) ?_
              refine pu 21 122 HT_ rfl rfl (bs 66 4194303) ?_
              refine pu 22 123 HT_ rfl rfl (bs 66 8388607) ?_
              refine pu 23 124 HT_ rfl rfl (bs 66 16777215) ?_
              refine pu 24 125 HT_ rfl rfl (bs 66 33554431) ?_
              refine tk 25 126 HT_ HW_ hHeld rfl rfl (bs 66 67108863) ?_
              refine tk 26 127 HT_ HW_ hHeld rfl rfl (bs 66 134217727) ?_
              refine pu 27 128 HT_ rfl rfl (bs 66 268435455) ?_
              refine pu 28 129 HT_ rfl rfl (bs 66 536870911) ?_
              refine pu 29 130 HT_ rfl rfl (bs 66 1073741823) ?_
              refine pu 30 131 HT_ rfl rfl (bs 66 2147483647) ?_
              refine pu 31 132 HT_ rfl rfl (bs 66 4294967295) ?_
              refine pu 32 133 HT_ rfl rfl (bs 66 8589934591) ?_
              refine pu 33 134 HT_ rfl rfl (bs 66 17179869183) ?_
              refine pu 34 135 HT_ rfl rfl (bs 66 34359738367) ?_
              refine pu 35 136 HT_ rfl rfl (bs 66 68719476735) ?_
              refine pu 36 137 HT_ rfl rfl (bs 66 137438953471) ?_
              refine one_ (i := 37) (N := some 138) (bs 66 274877906943) rfl rfl (one_of HT_.1 (by kernel_rfl)) (by decide) (fun K hK => ?_)
              refine gs Try.func14 #[.slice Ao110 t545.length co110, .slice Ao111 t549.length co111] ?_
              with_reducible refine (laws_kTurns.calls k _ _ t545 _ _ t549 true _ ?side1 ?side2 ?side3 ?side4 A73.1).mono ?_
              (case side1 => repeat (first | exact (Kd.R_reads' HO547.1).2.2 | (with_reducible refine Kd.C_alloc ?_ _) | (with_reducible refine Kd.C_drewN ?_ _) | (with_reducible refine Kd.C_drew ?_)))
              (case side2 => exact (Kd.R_reads' HO547.1).2.1)
              (case side3 => repeat (first | exact (Kd.R_reads' HO551.1).2.2 | (with_reducible refine Kd.C_alloc ?_ _) | (with_reducible refine Kd.C_drewN ?_ _) | (with_reducible refine Kd.C_drew ?_)))
              (case side4 => exact (Kd.R_reads' HO551.1).2.1)
              rintro e w' ⟨rfl, ⟨nd, rfl⟩⟩
              refine ⟨_, rfl, ?_⟩
              refine hK.out _ _ ⟨(blk_cell BK540.1 0).trans rfl, (blk_cell BK540.1 1).trans rfl, (blk_cell BK544.1 0).trans rfl, (blk_cell BK544.1 1).trans rfl, (blk_cell BK523.1 0).trans rfl, (blk_cell BK523.1 1).trans rfl, (blk_cell BK523.1 2).trans rfl⟩ (fun hHeld => ?_)
              clear hK K
              refine norm_ (aq 138) ?_
              refine pu 38 139 HT_ rfl rfl (bs 66 549755813887) ?_
              refine pu 39 140 HT_ rfl rfl (bs 66 1099511627775) ?_
              refine pu 40 141 HT_ rfl rfl (bs 66 2199023255551) ?_
              refine pu 41 142 HT_ rfl rfl (bs 66 4398046511103) ?_
              refine pu 42 143 HT_ rfl rfl (bs 66 8796093022207) ?_
              refine pu 43 144 HT_ rfl rfl (bs 66 17592186044415) ?_
              refine pu 44 145 HT_ rfl rfl (bs 66 35184372088831) ?_
              refine pu 45 146 HT_ rfl rfl (bs 66 70368744177663) ?_
              refine pu 46 147 HT_ rfl rfl (bs 66 140737488355327) ?_
              refine pu 47 148 HT_ rfl rfl (bs 66 281474976710655) ?_
              refine pure_ (i := 48) (N := some 149) (v := undef) (a' := ?_) (bs 66 562949953421311) rfl rfl (any_of HT_.1 (by kernel_rfl)) (fun _ _ _ h => h) (Or.inr ⟨by rfl, rfl⟩) ?_ ?_
              rotate_left
              · simp only [Act.put, List.setIfInBounds_toArray, List.set_cons_zero, List.set_cons_succ, i64_w, i32_w]
                rfl
              refine pure_ (i := 49) (N := some 150) (v := undef) (a' := ?_) (bs 66 1125899906842623) rfl rfl (any_of HT_.1 (by kernel_rfl)) (fun _ _ _ h => h) (Or.inr ⟨by rfl, rfl⟩) ?_ ?_
              rotate_left
              · simp only [Act.put, List.setIfInBounds_toArray, List.set_cons_zero, List.set_cons_succ, i64_w, i32_w]
                rfl
              refine pu 50 151 HT_ rfl rfl (bs 66 2251799813685247) ?_
              refine pu 51 152 HT_ rfl rfl (bs 66 4503599627370495) ?_
              refine pu 52 153 HT_ rfl rfl (bs 66 9007199254740991) ?_
              refine pu 53 154 HT_ rfl rfl (bs 66 18014398509481983) ?_
              refine pu 54 155 HT_ rfl rfl (bs 66 36028797018963967) ?_
              refine pu 55 156 HT_ rfl rfl (bs 66 72057594037927935) ?_
              refine pu 56 157 HT_ rfl rfl (bs 66 144115188075855871) ?_
              refine pu 57 158 HT_ rfl rfl (bs 66 288230376151711743) ?_
              refine pu 58 159 HT_ rfl rfl (bs 66 576460752303423487) ?_
              refine pu 59 160 HT_ rfl rfl (bs 66 1152921504606846975) ?_
              refine tk 60 161 HT_ HW_ hHeld rfl rfl (bs 66 2305843009213693951) ?_
              refine tk 62 163 HT_ HW_ hHeld rfl rfl (bs 66 6917529027641081855) ?_
              refine one_ (i := 61) (N := some 162) (bs 66 9223372036854775807) rfl rfl (one_of HT_.1 (by kernel_rfl)) (by decide) (fun K hK => ?_)
              refine gs Try.func15 #[.agg #[.int .i64 t517, .int .i64 t518, .int .i64 t519]] ?_
              with_reducible refine (impl_IsHand.calls k t517 t518 t519 t557 _ A105.1).mono ?_
              rintro e w112 ⟨rfl, hb⟩
              refine ⟨_, rfl, ?_⟩
              replace HO527 := rB HO527 hb
              replace HO531 := rB HO531 hb
              replace HO547 := rB HO547 hb
              replace HO551 := rB HO551 hb
              replace BK523 := zb BK523 hb
              replace BK524 := zb BK524 hb
              replace BK540 := zb BK540 hb
              replace BK544 := zb BK544 hb
              replace HB := zB HB hb
              (try clear hb)
              (try clear hb2)
              (try clear hk)
              (try clear hi)
              refine hK.out _ _ ⟨(blk_cell BK540.1 0).trans rfl, (blk_cell BK540.1 1).trans rfl, (blk_cell BK544.1 0).trans rfl, (blk_cell BK544.1 1).trans rfl, (blk_cell BK523.1 0).trans rfl, (blk_cell BK523.1 1).trans rfl, (blk_cell BK523.1 2).trans rfl⟩ (fun hHeld => ?_)
              clear hK K
              refine norm_ (aq 162) ?_
              refine one_ (i := 63) (N := some 164) (bs 66 18446744073709551615) rfl rfl (one_of HT_.1 (by kernel_rfl)) (by decide) (fun K hK => ?_)
              refine gs Try.func16 #[.agg #[.int .i64 t517, .int .i64 t518, .int .i64 t519]] ?_
              with_reducible refine (spec_IsHand.calls k t517 t518 t519 t558 _ A106.1).mono ?_
              rintro e w113 ⟨rfl, hb⟩
              refine ⟨_, rfl, ?_⟩
              replace HO527 := rB HO527 hb
              replace HO531 := rB HO531 hb
              replace HO547 := rB HO547 hb
              replace HO551 := rB HO551 hb
              replace BK523 := zb BK523 hb
              replace BK524 := zb BK524 hb
              replace BK540 := zb BK540 hb
              replace BK544 := zb BK544 hb
              replace HB := zB HB hb
              (try clear hb)
              (try clear hb2)
              (try clear hk)
              (try clear hi)
              refine hK.out _ _ ⟨(blk_cell BK540.1 0).trans rfl, (blk_cell BK540.1 1).trans rfl, (blk_cell BK544.1 0).trans rfl, (blk_cell BK544.1 1).trans rfl, (blk_cell BK523.1 0).trans rfl, (blk_cell BK523.1 1).trans rfl, (blk_cell BK523.1 2).trans rfl⟩ (fun hHeld => ?_)
              clear hK K
              refine norm_ (aq 164) ?_
              refine pu 64 165 HT_ rfl rfl (bs 66 36893488147419103231) ?_
              refine pu 65 166 HT_ rfl rfl (bs 66 73786976294838206463) ?_
              refine done_ (done_of HT_.1 (by kernel_rfl)) ?_
              try go_wp2
              go_meet
              case rel => exact ⟨_, ((t557 != t558)), ew, H', le_, ⟨by (with_reducible repeat (first | apply Kd.R_alloc | apply Kd.R_drewN | apply Kd.R_drew)); exact Kd.R_mono HO527.1 (fun _ hk => ⟨hk.1.2, ⟨hk.1.1.1.2, hk.1.1.2⟩⟩)⟩, ⟨by (with_reducible repeat (first | apply Kd.R_alloc | apply Kd.R_drewN | apply Kd.R_drew)); exact Kd.R_mono HO547.1 (fun _ hk => ⟨hk.1.1.1.1.2, ⟨hk.1.1.2, hk.1.2⟩⟩)⟩, ⟨bk BK523⟩, ⟨bk BK524⟩, ⟨bk BK540⟩, ⟨bk BK544⟩, ⟨bq HB⟩⟩
            replace c104 := Bool.eq_false_iff.mpr c104
            subst c104
            have H1 := H
            rw [if_neg (show ¬ (false = true) by decide)] at H1
            clear H
            have H := H1
            exact (laws_FnHandsMeet.j0_no H).elim
          skip
          replace c103 := Bool.eq_false_iff.mpr c103
          subst c103
          rw [if_neg (show ¬ (false = true) by decide)] at H
          replace H := Option.bind_eq_some_iff.mp H
          obtain ⟨t559, A1190, H⟩ := H
          (try dsimp only at H)
          have A119 := Aside0.mk A1190
          clear A1190
          replace H := Option.bind_eq_some_iff.mp H
          obtain ⟨t560, A1200, H⟩ := H
          (try dsimp only at H)
          have A120 := Aside0.mk A1200
          clear A1200
          have H' := Aside0.mk H
          clear H
          try go_wp2
          replace HO527 := Aside0.mk (Kd.R_drew HO527.1)
          replace HO531 := Aside0.mk (Kd.R_drew HO531.1)
          replace HO547 := Aside0.mk (Kd.R_drew HO547.1)
          replace HO551 := Aside0.mk (Kd.R_drew HO551.1)
          replace BK523 := Aside0.mk (blk_drew BK523.1)
          replace BK524 := Aside0.mk (blk_drew BK524.1)
          replace BK540 := Aside0.mk (blk_drew BK540.1)
          replace BK544 := Aside0.mk (blk_drew BK544.1)
          replace HB := Aside0.mk (below_drew1 HB.1)
          obtain ⟨Ao122, co122, eo122⟩ := Kd.R_slice HO527.1
          (first | subst eo122 | (injection eo122 with f1_ f2_ f3_; have f4_ := f1_.symm; have f5_ := f3_.symm; clear f1_ f2_ f3_; subst f4_; subst f5_))
          obtain ⟨Ao123, co123, eo123⟩ := Kd.R_slice HO531.1
          (first | subst eo123 | (injection eo123 with f1_ f2_ f3_; have f4_ := f1_.symm; have f5_ := f3_.symm; clear f1_ f2_ f3_; subst f4_; subst f5_))
          refine start_ (n := 66) (S := fun w' => w'.cell? ⟨gb540, 0, none⟩ = some (.int .i64 t537) ∧ w'.cell? ⟨gb540, 1, none⟩ = some (.int .i64 t538) ∧ w'.cell? ⟨gb544, 0, none⟩ = some (.int .i64 t541) ∧ w'.cell? ⟨gb544, 1, none⟩ = some (.int .i64 t542) ∧ w'.cell? ⟨gb523, 0, none⟩ = some (.int .i64 t517) ∧ w'.cell? ⟨gb523, 1, none⟩ = some (.int .i64 t518) ∧ w'.cell? ⟨gb523, 2, none⟩ = some (.int .i64 t519)) (ds := []) (bs 66 0) (by kernel_rfl) rfl rfl ⟨(blk_cell BK540.1 0).trans rfl, (blk_cell BK540.1 1).trans rfl, (blk_cell BK544.1 0).trans rfl, (blk_cell BK544.1 1).trans rfl, (blk_cell BK523.1 0).trans rfl, (blk_cell BK523.1 1).trans rfl, (blk_cell BK523.1 2).trans rfl⟩ (fun hHeld => ?_); refine with_tabW laws_FnHandsMeet.tab12 laws_FnHandsMeet.bits12 (fun HT_ HW_ => ?_)
          generalize w51.drew = w121 at HO527 HO531 HO547 HO551 BK523 BK524 BK540 BK544 HB hHeld ⊢
          refine pu 0 101 HT_ rfl rfl (bs 66 1) ?_
          refine pu 1 102 HT_ rfl rfl (bs 66 3) ?_
          refine pu 2 103 HT_ rfl rfl (bs 66 7) ?_
          refine pu 3 104 HT_ rfl rfl (bs 66 15) ?_
          refine pu 4 105 HT_ rfl rfl (bs 66 31) ?_
          refine pu 5 106 HT_ rfl rfl (bs 66 63) ?_
          refine one_ (i := 6) (N := some 107) (bs 66 127) rfl rfl (one_of HT_.1 (by kernel_rfl)) (by decide) (fun K hK => ?_)
          refine gs Try.func14 #[.slice Ao122 t525.length co122, .slice Ao123 t529.length co123] ?_
          with_reducible refine (laws_kTurns.calls k _ _ t525 _ _ t529 true _ ?side1 ?side2 ?side3 ?side4 A54.1).mono ?_
          (case side1 => repeat (first | exact (Kd.R_reads' HO527.1).2.2 | (with_reducible refine Kd.C_alloc ?_ _) | (with_reducible refine Kd.C_drewN ?_ _) | (with_reducible refine Kd.C_drew ?_)))
          (case side2 => exact (Kd.R_reads' HO527.1).2.1)
          (case side3 => repeat (first | exact (Kd.R_reads' HO531.1).2.2 | (with_reducible refine Kd.C_alloc ?_ _) | (with_reducible refine Kd.C_drewN ?_ _) | (with_reducible refine Kd.C_drew ?_)))
          (case side4 => exact (Kd.R_reads' HO531.1).2.1)
          rintro e w' ⟨rfl, ⟨nd, rfl⟩⟩
          refine ⟨_, rfl, ?_⟩
          obtain ⟨Ao124, co124, eo124⟩ := Kd.R_slice HO547.1
          (first | subst eo124 | (injection eo124 with f1_ f2_ f3_; have f4_ := f1_.symm; have f5_ := f3_.symm; clear f1_ f2_ f3_; subst f4_; subst f5_))
          obtain ⟨Ao125, co125, eo125⟩ := Kd.R_slice HO551.1
          (first | subst eo125 | (injection eo125 with f1_ f2_ f3_; have f4_ := f1_.symm; have f5_ := f3_.symm; clear f1_ f2_ f3_; subst f4_; subst f5_))
          refine hK.out _ _ ⟨(blk_cell BK540.1 0).trans rfl, (blk_cell BK540.1 1).trans rfl, (blk_cell BK544.1 0).trans rfl, (blk_cell BK544.1 1).trans rfl, (blk_cell BK523.1 0).trans rfl, (blk_cell BK523.1 1).trans rfl, (blk_cell BK523.1 2).trans rfl⟩ (fun hHeld => ?_)
          clear hK K
          refine norm_ (aq 107) ?_
          refine pu 7 108 HT_ rfl rfl (bs 66 255) ?_
          refine pu 8 109 HT_ rfl rfl (bs 66 511) ?_
          refine pu 9 110 HT_ rfl rfl (bs 66 1023) ?_
          refine pu 10 111 HT_ rfl rfl (bs 66 2047) ?_
          refine pu 11 112 HT_ rfl rfl (bs 66 4095) ?_
          refine pu 12 113 HT_ rfl rfl (bs 66 8191) ?_
          refine pu 13 114 HT_ rfl rfl (bs 66 16383) ?_
          refine pu 14 115 HT_ rfl rfl (bs 66 32767) ?_
          refine pu 15 116 HT_ rfl rfl (bs 66 65535) ?_
          refine pu 16 117 HT_ rfl rfl (bs 66 131071) ?_
          refine pu 17 118 HT_ rfl rfl (bs 66 262143) ?_
          refine pu 18 119 HT_ rfl rfl (bs 66 524287) ?_
          refine pu 19 120 HT_ rfl rfl (bs 66 1048575) ?_
          refine pu 20 121 HT_ rfl rfl (bs 66 2097151) ?_
          refine pu 21 122 HT_ rfl rfl (bs 66 4194303) ?_
          refine pu 22 123 HT_ rfl rfl (bs 66 8388607) ?_
          refine pu 23 124 HT_ rfl rfl (bs 66 16777215) ?_
          refine pu 24 125 HT_ rfl rfl (bs 66 33554431) ?_
          refine tk 25 126 HT_ HW_ hHeld rfl rfl (bs 66 67108863) ?_
          refine tk 26 127 HT_ HW_ hHeld rfl rfl (bs 66 134217727) ?_
          refine pu 27 128 HT_ rfl rfl (bs 66 268435455) ?_
          refine pu 28 129 HT_ rfl rfl (bs 66 536870911) ?_
          refine pu 29 130 HT_ rfl rfl (bs 66 1073741823) ?_
          refine pu 30 131 HT_ rfl rfl (bs 66 2147483647) ?_
          refine pu 31 132 HT_ rfl rfl (bs 66 4294967295) ?_
          refine pu 32 133 HT_ rfl rfl (bs 66 8589934591) ?_
          refine pu 33 134 HT_ rfl rfl (bs 66 17179869183) ?_
          refine pu 34 135 HT_ rfl rfl (bs 66 34359738367) ?_
          refine pu 35 136 HT_ rfl rfl (bs 66 68719476735) ?_
          refine pu 36 137 HT_ rfl rfl (bs 66 137438953471) ?_
          refine one_ (i := 37) (N := some 138) (bs 66 274877906943) rfl rfl (one_of HT_.1 (by kernel_rfl)) (by decide) (fun K hK => ?_)
          refine gs Try.func14 #[.slice Ao124 t545.length co124, .slice Ao125 t549.length co125] ?_
          with_reducible refine (laws_kTurns.calls k _ _ t545 _ _ t549 true _ ?side1 ?side2 ?side3 ?side4 A73.1).mono ?_
          (case side1 => repeat (first | exact (Kd.R_reads' HO547.1).2.2 | (with_reducible refine Kd.C_alloc ?_ _) | (with_reducible refine Kd.C_drewN ?_ _) | (with_reducible refine Kd.C_drew ?_)))
          (case side2 => exact (Kd.R_reads' HO547.1).2.1)
          (case side3 => repeat (first | exact (Kd.R_reads' HO551.1).2.2 | (with_reducible refine Kd.C_alloc ?_ _) | (with_reducible refine Kd.C_drewN ?_ _) | (with_reducible refine Kd.C_drew ?_)))
          (case side4 => exact (Kd.R_reads' HO551.1).2.1)
          rintro e w' ⟨rfl, ⟨nd, rfl⟩⟩
          refine ⟨_, rfl, ?_⟩
          refine hK.out _ _ ⟨(blk_cell BK540.1 0).trans rfl, (blk_cell BK540.1 1).trans rfl, (blk_cell BK544.1 0).trans rfl, (blk_cell BK544.1 1).trans rfl, (blk_cell BK523.1 0).trans rfl, (blk_cell BK523.1 1).trans rfl, (blk_cell BK523.1 2).trans rfl⟩ (fun hHeld => ?_)
          clear hK K
          refine norm_ (aq 138) ?_
          refine pu 38 139 HT_ rfl rfl (bs 66 549755813887) ?_
          refine pu 39 140 HT_ rfl rfl (bs 66 1099511627775) ?_
          refine pu 40 141 HT_ rfl rfl (bs 66 2199023255551) ?_
          refine pu 41 142 HT_ rfl rfl (bs 66 4398046511103) ?_
          refine pu 42 143 HT_ rfl rfl (bs 66 8796093022207) ?_
          refine pu 43 144 HT_ rfl rfl (bs 66 17592186044415) ?_
          refine pu 44 145 HT_ rfl rfl (bs 66 35184372088831) ?_
          refine pu 45 146 HT_ rfl rfl (bs 66 70368744177663) ?_
          refine pu 46 147 HT_ rfl rfl (bs 66 140737488355327) ?_
          refine pu 47 148 HT_ rfl rfl (bs 66 281474976710655) ?_
          refine pure_ (i := 48) (N := some 149) (v := undef) (a' := ?_) (bs 66 562949953421311) rfl rfl (any_of HT_.1 (by kernel_rfl)) (fun _ _ _ h => h) (Or.inr ⟨by rfl, rfl⟩) ?_ ?_
          rotate_left
          · simp only [Act.put, List.setIfInBounds_toArray, List.set_cons_zero, List.set_cons_succ, i64_w, i32_w]
            rfl
          refine pure_ (i := 49) (N := some 150) (v := undef) (a' := ?_) (bs 66 1125899906842623) rfl rfl (any_of HT_.1 (by kernel_rfl)) (fun _ _ _ h => h) (Or.inr ⟨by rfl, rfl⟩) ?_ ?_
          rotate_left
          · simp only [Act.put, List.setIfInBounds_toArray, List.set_cons_zero, List.set_cons_succ, i64_w, i32_w]
            rfl
          refine pu 50 151 HT_ rfl rfl (bs 66 2251799813685247) ?_
          refine pu 51 152 HT_ rfl rfl (bs 66 4503599627370495) ?_
          refine pu 52 153 HT_ rfl rfl (bs 66 9007199254740991) ?_
          refine pu 53 154 HT_ rfl rfl (bs 66 18014398509481983) ?_
          refine pu 54 155 HT_ rfl rfl (bs 66 36028797018963967) ?_
          refine pure_ (i := 55) (N := some 156) (v := undef) (a' := ?_) (bs 66 72057594037927935) rfl rfl (any_of HT_.1 (by kernel_rfl)) (fun _ _ _ h => h) (Or.inr ⟨by rfl, rfl⟩) ?_ ?_
          rotate_left
          · simp only [Act.put, List.setIfInBounds_toArray, List.set_cons_zero, List.set_cons_succ, i64_w, i32_w]
            rfl
          refine pure_ (i := 56) (N := some 157) (v := undef) (a' := ?_) (bs 66 144115188075855871) rfl rfl (any_of HT_.1 (by kernel_rfl)) (fun _ _ _ h => h) (Or.inr ⟨by rfl, rfl⟩) ?_ ?_
          rotate_left
          · simp only [Act.put, List.setIfInBounds_toArray, List.set_cons_zero, List.set_cons_succ, i64_w, i32_w]
            rfl
          refine pu 57 158 HT_ rfl rfl (bs 66 288230376151711743) ?_
          refine pu 58 159 HT_ rfl rfl (bs 66 576460752303423487) ?_
          refine pu 59 160 HT_ rfl rfl (bs 66 1152921504606846975) ?_
          refine tk 60 161 HT_ HW_ hHeld rfl rfl (bs 66 2305843009213693951) ?_
          refine tk 62 163 HT_ HW_ hHeld rfl rfl (bs 66 6917529027641081855) ?_
          refine one_ (i := 61) (N := some 162) (bs 66 9223372036854775807) rfl rfl (one_of HT_.1 (by kernel_rfl)) (by decide) (fun K hK => ?_)
          refine gs Try.func15 #[.agg #[.int .i64 t517, .int .i64 t518, .int .i64 t519]] ?_
          with_reducible refine (impl_IsHand.calls k t517 t518 t519 t559 _ A119.1).mono ?_
          rintro e w126 ⟨rfl, hb⟩
          refine ⟨_, rfl, ?_⟩
          replace HO527 := rB HO527 hb
          replace HO531 := rB HO531 hb
          replace HO547 := rB HO547 hb
          replace HO551 := rB HO551 hb
          replace BK523 := zb BK523 hb
          replace BK524 := zb BK524 hb
          replace BK540 := zb BK540 hb
          replace BK544 := zb BK544 hb
          replace HB := zB HB hb
          (try clear hb)
          (try clear hb2)
          (try clear hk)
          (try clear hi)
          refine hK.out _ _ ⟨(blk_cell BK540.1 0).trans rfl, (blk_cell BK540.1 1).trans rfl, (blk_cell BK544.1 0).trans rfl, (blk_cell BK544.1 1).trans rfl, (blk_cell BK523.1 0).trans rfl, (blk_cell BK523.1 1).trans rfl, (blk_cell BK523.1 2).trans rfl⟩ (fun hHeld => ?_)
          clear hK K
          refine norm_ (aq 162) ?_
          refine one_ (i := 63) (N := some 164) (bs 66 18446744073709551615) rfl rfl (one_of HT_.1 (by kernel_rfl)) (by decide) (fun K hK => ?_)
          refine gs Try.func16 #[.agg #[.int .i64 t517, .int .i64 t518, .int .i64 t519]] ?_
          with_reducible refine (spec_IsHand.calls k t517 t518 t519 t560 _ A120.1).mono ?_
          rintro e w127 ⟨rfl, hb⟩
          refine ⟨_, rfl, ?_⟩
          replace HO527 := rB HO527 hb
          replace HO531 := rB HO531 hb
          replace HO547 := rB HO547 hb
          replace HO551 := rB HO551 hb
          replace BK523 := zb BK523 hb
          replace BK524 := zb BK524 hb
          replace BK540 := zb BK540 hb
          replace BK544 := zb BK544 hb
          replace HB := zB HB hb
          (try clear hb)
          (try clear hb2)
          (try clear hk)
          (try clear hi)
          refine hK.out _ _ ⟨(blk_cell BK540.1 0).trans rfl, (blk_cell BK540.1 1).trans rfl, (blk_cell BK544.1 0).trans rfl, (blk_cell BK544.1 1).trans rfl, (blk_cell BK523.1 0).trans rfl, (blk_cell BK523.1 1).trans rfl, (blk_cell BK523.1 2).trans rfl⟩ (fun hHeld => ?_)
          clear hK K
          refine norm_ (aq 164) ?_
          refine pu 64 165 HT_ rfl rfl (bs 66 36893488147419103231) ?_
          refine pu 65 166 HT_ rfl rfl (bs 66 73786976294838206463) ?_
          refine done_ (done_of HT_.1 (by kernel_rfl)) ?_
          try go_wp2
          go_meet
          case rel => exact ⟨_, ((t559 != t560)), ew, H', le_, ⟨by (with_reducible repeat (first | apply Kd.R_alloc | apply Kd.R_drewN | apply Kd.R_drew)); exact Kd.R_mono HO527.1 (fun _ hk => ⟨hk.1.2, ⟨hk.1.1.1.2, hk.1.1.2⟩⟩)⟩, ⟨by (with_reducible repeat (first | apply Kd.R_alloc | apply Kd.R_drewN | apply Kd.R_drew)); exact Kd.R_mono HO547.1 (fun _ hk => ⟨hk.1.1.1.1.2, ⟨hk.1.1.2, hk.1.2⟩⟩)⟩, ⟨bk BK523⟩, ⟨bk BK524⟩, ⟨bk BK540⟩, ⟨bk BK544⟩, ⟨bq HB⟩⟩
        replace c74 := Bool.eq_false_iff.mpr c74
        subst c74
        have H1 := H
        rw [if_neg (show ¬ (false = true) by decide)] at H1
        clear H
        have H := H1
        exact (laws_FnHandsMeet.j0_no H).elim
      rw [if_neg c60] at H
      exact (laws_FnHandsMeet.j0_no H).elim
    replace c55 := Bool.eq_false_iff.mpr c55
    subst c55
    have H1 := H
    rw [if_neg (show ¬ (false = true) by decide)] at H1
    clear H
    have H := H1
    exact (laws_FnHandsMeet.j0_no H).elim
  clear HC14
  try clear c1
  obtain ⟨kq, x166_13, rfl, HA, HJ13, HO_7, HO_19, BK523, BK524, BK540, BK544, HB⟩ := hcut
  exact laws_FnHandsMeet.rest1 HR0 HC0 HR1 HC1 A3 A5 A6 A7 A8 A9 A10 A11 A12 A13 GW523 GE523 GW524 GE524 NB523_524 LT523_524 NB524_523 GW540 GE540 NB523_540 LT523_540 NB540_523 NB524_540 LT524_540 NB540_524 GW544 GE544 NB523_544 LT523_544 NB544_523 NB524_544 LT524_544 NB544_524 NB540_544 LT540_544 NB544_540 HA HJ13 HO_7 HO_19 BK523 BK524 BK540 BK544 HB _ _ (fun a w h_ => by go_step; exact cut_lit h_ rfl) (fun a w h_ => by go_step; exact cut_lit h_ rfl)
/-- THE ONE PURE STATEMENT of laws_FnHandsMeet: yours. -/
def laws_FnHandsMeet.Pure : Prop := ∀ (l0 : List Int) (l1 : List Int), l0.length ≤ maxLen → l0.length * 1 ≤ 140737488351232 → (∀ x ∈ l0, (Lit.int .u8 x).wf = true) → l1.length ≤ maxLen → l1.length * 1 ≤ 140737488351232 → (∀ x ∈ l1, (Lit.int .u8 x).wf = true) → ∃ k, laws_FnHandsMeet.f k l0 l1 = some true
theorem laws_FnHandsMeet.walk (P : laws_FnHandsMeet.Pure) (a0 : Option Addr) (len0 cap0 : Nat) (z0 : List Int) (a1 : Option Addr) (len1 cap1 : Nat) (z1 : List Int) (w : World) (w0 : (a0 = none ∧ len0 = 0 ∧ cap0 = 0 ∧ z0 = []) ∨ ∃ x, a0 = some x ∧ len0 ≤ cap0 ∧ cap0 ≤ maxLen ∧ z0.length = cap0 ∧ (∀ i, i < z0.length → w.cell? (x.add i) = some (.int .u8 (z0.getD i 0))) ∧ ∀ n ∈ z0, (Lit.int .u8 n).wf = true) (y0 : len0 * 1 ≤ 140737488351232) (w1 : (a1 = none ∧ len1 = 0 ∧ cap1 = 0 ∧ z1 = []) ∨ ∃ x, a1 = some x ∧ len1 ≤ cap1 ∧ cap1 ≤ maxLen ∧ z1.length = cap1 ∧ (∀ i, i < z1.length → w.cell? (x.add i) = some (.int .u8 (z1.getD i 0))) ∧ ∀ n ∈ z1, (Lit.int .u8 n).wf = true) (y1 : len1 * 1 ≤ 140737488351232) :
    Calls Try.prog 3 #[.slice a0 len0 cap0, .slice a1 len1 cap1] w fun e w' => e = .returned (.bool true) ∧ Below w.heap.size w w' := by
  obtain ⟨l0, rfl, hr0, hm0, hw0, hc0⟩ := ReadsInt.ofRowC w0
  obtain ⟨l1, rfl, hr1, hm1, hw1, hc1⟩ := ReadsInt.ofRowC w1
  obtain ⟨k, h⟩ := P l0 l1 hm0 y0 hw0 hm1 y1 hw1
  refine (laws_FnHandsMeet.calls k _ _ l0 _ _ l1 w (Kd.C_of_reads (d := (0 : Int)) (h1 := fun _ => rfl) hr0) hc0 (Kd.C_of_reads (d := (0 : Int)) (h1 := fun _ => rfl) hr1) hc1 h).mono ?_
  rintro e w' ⟨rfl, hd⟩
  exact ⟨rfl, hd⟩

end Go.Proofs.Ytoneipoioiokcaa.PFnHandsMeet
