/- A part of the walk of FnHandsAhead: which Lean function each Go function comes to, and that the machine's call does so. Written by a program of this repo (wip/gen/xprint.py). -/
import Derived.Test.YtoneipoioiokcabPFnHandsAheadx0
import Derived.Test.YtoneipoioiokcabPFnHandsAheadx4
import Derived.Test.YtoneipoioiokcabPFnHandsAheadx12
namespace Go.Proofs.Ytoneipoioiokcab.PFnHandsAhead
open Go.RowKit Go.Proofs.YtoneipoioiokcabW.PrintWords Go.Proofs.YtoneipoioiokcabW.PrintLast Go.Proofs.YtoneipoioiokcabW.PrintMore
attribute [local go_sem] max2_int min2_int max_two min_two max_three min_three max_four min_four   -- for this text's walks alone
set_option linter.unusedVariables false
set_option linter.unusedSimpArgs false

/-! ### spec_meTimes: function 32 -/
mutual
def spec_meTimes.j0 : Nat → Int → Int → Int → Option ((List (S25)) × Bool)
  | 0, _, _, _ => none
  | k + 1, x8, x327000, x327001 => spec_meTimes.l0 k x8 ([] : List (S25)) 0 x327000 x327001
def spec_meTimes.l0 : Nat → Int → List (S25) → Int → Int → Int → Option ((List (S25)) × Bool)
  | 0, _, _, _, _, _ => none
  | k + 1, x8, x9, x10, x327000, x327001 => if x10 < x8 then ((spec_diMake.f k (wrap64 (x327000 + (wrap64 (x10 * x327001)))) (wrap64 (x327001 * x8))).bind fun bt329 => (if bt329.2.2 = true then (if x9.length < 8796093022208 then (spec_meTimes.l0 k x8 (x9 ++ [(⟨bt329.1, bt329.2.1⟩ : S25)]) (wrap64 (x10 + 1)) x327000 x327001) else (none)) else (some (([] : List (S25)), false)))) else (some (x9, true))
end
def spec_meTimes.f (k : Nat) (a0_0 : Int) (a0_1 : Int) (a0_2 : Int) (a1_0 : Int) (a1_1 : Int) : Option ((List (S25)) × Bool) := (spec_diAdd.f k a1_0 a1_1 a0_0 a0_1 (-1)).bind fun bt323 => (if bt323.2.2 = true then (if a0_2 < 0 then ((spec_diMirror.f k bt323.1 bt323.2.1).bind fun bt327 => (spec_meTimes.j0 k (wrap64 (-a0_2)) bt327.1 bt327.2)) else (spec_meTimes.j0 k a0_2 bt323.1 bt323.2.1)) else (some (([] : List (S25)), false)))
theorem spec_meTimes.mono_l : ∀ k, (∀ y0 y1 y2, LeO (spec_meTimes.j0 k y0 y1 y2) (spec_meTimes.j0 (k + 1) y0 y1 y2)) ∧ (∀ y0 y1 y2 y3 y4, LeO (spec_meTimes.l0 k y0 y1 y2 y3 y4) (spec_meTimes.l0 (k + 1) y0 y1 y2 y3 y4))
  | 0 => ⟨fun _ _ _ r h => by simp [spec_meTimes.j0] at h, fun _ _ _ _ _ r h => by simp [spec_meTimes.l0] at h⟩
  | k + 1 => by
    obtain ⟨ih0, ih1⟩ := spec_meTimes.mono_l k
    refine ⟨?_, ?_⟩
    · intro y0 y1 y2
      unfold spec_meTimes.j0
      repeat' first
      | (with_reducible exact ih0 _ _ _)
      | (with_reducible exact ih1 _ _ _ _ _)
      | (with_reducible exact spec_diAdd.mono _ _ _ _ _ _)
      | (with_reducible exact spec_diMake.mono _ _ _)
      | (with_reducible exact spec_diMirror.mono _ _ _)
      | (with_reducible exact LeO.refl _)
      | (with_reducible exact LeO.none _)
      | (with_reducible refine LeO.ite ?_ ?_)
      | (with_reducible refine LeO.bind ?_ (fun _ => ?_))
      | exact ih0 _ _ _
      | exact ih1 _ _ _ _ _
      | exact spec_diAdd.mono _ _ _ _ _ _
      | exact spec_diMake.mono _ _ _
      | exact spec_diMirror.mono _ _ _
      | exact LeO.none _
      | refine LeO.ite ?_ ?_
      | refine LeO.bind ?_ (fun _ => ?_)
    intro y0 y1 y2 y3 y4
    unfold spec_meTimes.l0
    repeat' first
    | (with_reducible exact ih0 _ _ _)
    | (with_reducible exact ih1 _ _ _ _ _)
    | (with_reducible exact spec_diAdd.mono _ _ _ _ _ _)
    | (with_reducible exact spec_diMake.mono _ _ _)
    | (with_reducible exact spec_diMirror.mono _ _ _)
    | (with_reducible exact LeO.refl _)
    | (with_reducible exact LeO.none _)
    | (with_reducible refine LeO.ite ?_ ?_)
    | (with_reducible refine LeO.bind ?_ (fun _ => ?_))
    | exact ih0 _ _ _
    | exact ih1 _ _ _ _ _
    | exact spec_diAdd.mono _ _ _ _ _ _
    | exact spec_diMake.mono _ _ _
    | exact spec_diMirror.mono _ _ _
    | exact LeO.none _
    | refine LeO.ite ?_ ?_
    | refine LeO.bind ?_ (fun _ => ?_)
theorem spec_meTimes.mono : ∀ a0 a1 a2 a3 a4 k, LeO (spec_meTimes.f k a0 a1 a2 a3 a4) (spec_meTimes.f (k + 1) a0 a1 a2 a3 a4) := by
  intro a0 a1 a2 a3 a4 k
  obtain ⟨ih0, ih1⟩ := spec_meTimes.mono_l k
  unfold spec_meTimes.f
  repeat' first
      | (with_reducible exact ih0 _ _ _)
      | (with_reducible exact ih1 _ _ _ _ _)
      | (with_reducible exact spec_diAdd.mono _ _ _ _ _ _)
      | (with_reducible exact spec_diMake.mono _ _ _)
      | (with_reducible exact spec_diMirror.mono _ _ _)
      | (with_reducible exact LeO.refl _)
      | (with_reducible exact LeO.none _)
      | (with_reducible refine LeO.ite ?_ ?_)
      | (with_reducible refine LeO.bind ?_ (fun _ => ?_))
      | exact ih0 _ _ _
      | exact ih1 _ _ _ _ _
      | exact spec_diAdd.mono _ _ _ _ _ _
      | exact spec_diMake.mono _ _ _
      | exact spec_diMirror.mono _ _ _
      | exact LeO.none _
      | refine LeO.ite ?_ ?_
      | refine LeO.bind ?_ (fun _ => ?_)
set_option maxHeartbeats 8000000 in
set_option maxRecDepth 100000 in
theorem spec_meTimes.calls (k : Nat) (a0_0 : Int) (a0_1 : Int) (a0_2 : Int) (a1_0 : Int) (a1_1 : Int) (r1 : List (S25)) (r2 : Bool) (w : World) (h : spec_meTimes.f k a0_0 a0_1 a0_2 a1_0 a1_1 = some (r1, r2)) :
    Calls Try.prog 32 #[.agg #[.int .i64 a0_0, .int .i64 a0_1, .int .i64 a0_2], .agg #[.int .i64 a1_0, .int .i64 a1_1]] w fun e w' => ∃ v0_ : Value, e = .returned (.tuple #[v0_, .bool r2]) ∧ Kd.R k25 25 w' w.heap.size (fun _ => True) v0_ r1 ∧ Below w.heap.size w w' := by
  have hu27 := Try.underlying27
  have hu25 := Try.underlying25
  have HB := Aside0.mk (Below.refl w.heap.size w)
  have H : ((spec_diAdd.f k a1_0 a1_1 a0_0 a0_1 (-1)).bind fun bt323 => (if bt323.2.2 = true then (if a0_2 < 0 then ((spec_diMirror.f k bt323.1 bt323.2.1).bind fun bt327 => (spec_meTimes.j0 k (wrap64 (-a0_2)) bt327.1 bt327.2)) else (spec_meTimes.j0 k a0_2 bt323.1 bt323.2.1)) else (some (([] : List (S25)), false)))) = some (r1, r2) := h
  clear h
  replace H := Option.bind_eq_some_iff.mp H
  obtain ⟨⟨t323, t324, t325⟩, A30, H⟩ := H
  (try dsimp only at H)
  have A3 := Aside0.mk A30
  clear A30
  by_cases c4 : t325 = true
  · subst c4
    rw [if_pos rfl] at H
    have HC5 := Aside0.mk H
    clear H
    go_enter Try.func32, Try.ntmps32
    go_upto_if 25 with (first | ((with_reducible refine gate_dst (N := 2) rfl ?_); refine be #[.int .i64 a0_0, .int .i64 a0_1, .int .i64 a0_2] 27 ?_; intro gb321 hg w6 hbox hb; have BK321 := Aside0.mk hbox; have GW321 := zs HB hg; have GE321 := zs HB hg; replace HB := zB HB hb; clear hb hbox hg) | ((with_reducible refine gate_dst (N := 3) rfl ?_); refine be #[.int .i64 a1_0, .int .i64 a1_1] 25 ?_; intro gb322 hg w7 hbox hb; have BK322 := Aside0.mk hbox; have GW322 := zs HB hg; have GE322 := zs HB hg; have NB321_322 := zn BK321 hg; have NB322_321 := zm BK321 hg; replace BK321 := zb BK321 hb; replace HB := zB HB hb; clear hb hbox hg; have hnb8 := NB322_321.1; have hnc8 := NB321_322.1; obtain ⟨hcz9_0, hcz9_1, hfz9_0, hfz9_1⟩ := zc2 BK322; obtain ⟨hcz10_0, hcz10_1, hcz10_2, hfz10_0, hfz10_1, hfz10_2⟩ := zc3 BK321) | ((with_reducible refine gate_callee (f := 51) rfl ?_); refine gl (some 17) Try.func51 #[.agg #[.int .i64 a1_0, .int .i64 a1_1], .agg #[.int .i64 a0_0, .int .i64 a0_1], .int .i64 (-1)] ?_; (with_reducible refine (spec_diAdd.calls k a1_0 a1_1 a0_0 a0_1 (-1) t323 t324 true _ A3.1).mono ?_); rintro e w11 ⟨rfl, hb⟩; refine ⟨_, rfl, ?_⟩; replace BK321 := zb BK321 hb; replace BK322 := zb BK322 hb; replace HB := zB HB hb; clear hb) | ((with_reducible refine gate_dst (N := 6) rfl ?_); refine be #[.int .i64 0, .int .i64 0] 25 ?_; intro gb326 hg w12 hbox hb; have BK326 := Aside0.mk hbox; have GW326 := zs HB hg; have GE326 := zs HB hg; have NB321_326 := zn BK321 hg; have NB326_321 := zm BK321 hg; have NB322_326 := zn BK322 hg; have NB326_322 := zm BK322 hg; replace BK321 := zb BK321 hb; replace BK322 := zb BK322 hb; replace HB := zB HB hb; clear hb hbox hg; have hnb13 := NB326_321.1; have hnc13 := NB321_326.1; have hnb14 := NB326_322.1; have hnc14 := NB322_326.1; obtain ⟨hcz15_0, hcz15_1, hfz15_0, hfz15_1⟩ := zc2 BK326; obtain ⟨hcz16_0, hcz16_1, hcz16_2, hfz16_0, hfz16_1, hfz16_2⟩ := zc3 BK321))
    (try simp only [Act.put, List.setIfInBounds_toArray, List.set_cons_zero, List.set_cons_succ])
    go_cut [8] (fun v8 wc => ∃ (kq : Nat) (x8_4 : Int) (x327000_4 : Int) (x327001_4 : Int), v8 = .int .i64 x8_4 ∧ Aside0 (spec_meTimes.j0 kq x8_4 x327000_4 x327001_4 = some (r1, r2)) ∧ Aside0 (kq ≤ k) ∧ Aside0 (wc.heap[gb321]? = some (.cells #[.int .i64 a0_0, .int .i64 a0_1, .int .i64 a0_2] 27 (0, 0))) ∧ Aside0 (wc.heap[gb322]? = some (.cells #[.int .i64 a1_0, .int .i64 a1_1] 25 (0, 0))) ∧ Aside0 (wc.heap[gb326]? = some (.cells #[.int .i64 x327000_4, .int .i64 x327001_4] 25 (0, 0))) ∧ Aside0 (Below w.heap.size w wc))
    case first =>
      have H := HC5.1
      clear HC5
      by_cases c17 : a0_2 < 0
      · rw [if_pos c17] at H
        have c17b0 : decide (a0_2 < 0) = true := decide_eq_true c17
        clear c17
        (first | rw [c17b0] | (simp only [i64_w, i32_w]; rw [c17b0]) | skip)
        replace H := Option.bind_eq_some_iff.mp H
        obtain ⟨⟨t327, t328⟩, A180, H⟩ := H
        (try dsimp only at H)
        have A18 := Aside0.mk A180
        clear A180
        have H' := Aside0.mk H
        clear H
        have hnb19 := NB326_321.1
        have hnc19 := NB321_326.1
        have hnb20 := NB326_322.1
        have hnc20 := NB322_326.1
        obtain ⟨hcz21_0, hcz21_1, hfz21_0, hfz21_1⟩ := zc2 BK326
        go_wp2_with (first | ((with_reducible refine gate_callee (f := 52) rfl ?_); refine gl (some 27) Try.func52 #[.agg #[.int .i64 t323, .int .i64 t324]] ?_; (with_reducible refine (spec_diMirror.calls k t323 t324 t327 t328 _ A18.1).mono ?_); rintro e w22 ⟨rfl, hb⟩; refine ⟨_, rfl, ?_⟩; replace BK321 := zy (o' := .cells #[.int .i64 a0_0, .int .i64 a0_1, .int .i64 a0_2] 27 (0, 0)) BK321 hb; replace BK322 := zy (o' := .cells #[.int .i64 a1_0, .int .i64 a1_1] 25 (0, 0)) BK322 hb; replace BK326 := zy (o' := .cells #[.int .i64 t323, .int .i64 t324] 25 (0, 0)) BK326 hb; replace HB := zB HB hb; clear hb; obtain ⟨hcz23_0, hcz23_1, hfz23_0, hfz23_1⟩ := zc2 BK326))
        go_meet
        case rel => exact ⟨_, (wrap64 (-a0_2)), (t327), (t328), ew, H', le_, ⟨bk BK321⟩, ⟨bk BK322⟩, ⟨bk BK326⟩, ⟨bq HB⟩⟩
      rw [if_neg c17] at H
      have c17b0 : decide (a0_2 < 0) = false := decide_eq_false c17
      clear c17
      (first | rw [c17b0] | (simp only [i64_w, i32_w]; rw [c17b0]) | skip)
      have H' := Aside0.mk H
      clear H
      go_wp2
      go_meet
      case rel => exact ⟨_, (a0_2), (t323), (t324), ew, H', le_, ⟨bk BK321⟩, ⟨bk BK322⟩, ⟨bk BK326⟩, ⟨bq HB⟩⟩
    clear HC5
    try clear c4
    try clear hcz10_0
    try clear hcz10_1
    try clear hcz10_2
    try clear hcz15_0
    try clear hcz15_1
    try clear hcz16_0
    try clear hcz16_1
    try clear hcz16_2
    try clear hcz9_0
    try clear hcz9_1
    try clear hfz10_0
    try clear hfz10_1
    try clear hfz10_2
    try clear hfz15_0
    try clear hfz15_1
    try clear hfz16_0
    try clear hfz16_1
    try clear hfz16_2
    try clear hfz9_0
    try clear hfz9_1
    obtain ⟨kq, x8_4, x327000_4, x327001_4, rfl, HA, HJ4, BK321, BK322, BK326, HB⟩ := hcut
    cases kq with
    | zero => exact absurd HA.1 (by simp [spec_meTimes.j0])
    | succ kj4 =>
      have H := HA.1
      clear HA
      simp only [spec_meTimes.j0] at H
      have H' := Aside0.mk H
      clear H
      go_wp2
      go_loopg [9, 10] kj4 (fun kq v9 v10 w' => ∃ (x9_2 : List (S25)) (x10_2 : Int), v10 = .int .i64 x10_2 ∧ Aside0 (spec_meTimes.l0 kq x8_4 x9_2 x10_2 x327000_4 x327001_4 = some (r1, r2)) ∧ Aside0 (kq ≤ kj4) ∧ Aside0 (Kd.R k25 25 w' w.heap.size (fun k_ => k_ ≠ gb322 ∧ k_ ≠ gb326) v9 x9_2) ∧ Aside0 (w'.heap[gb321]? = some (.cells #[.int .i64 a0_0, .int .i64 a0_1, .int .i64 a0_2] 27 (0, 0))) ∧ Aside0 (w'.heap[gb322]? = some (.cells #[.int .i64 a1_0, .int .i64 a1_1] 25 (0, 0))) ∧ Aside0 (w'.heap[gb326]? = some (.cells #[.int .i64 x327000_4, .int .i64 x327001_4] 25 (0, 0))) ∧ Aside0 (Below w.heap.size w w'))
      case atStart => exact ⟨(([] : List (S25))), (0), ew, H', ⟨Nat.le_refl _⟩, ⟨by first | exact Kd.R_nil _ _ _ _ _ | exact Kd.N_nil _ _ _ _ _ | exact Kd.V_nil _ _ _ _ _ | exact Kd.Q_nil _ _ _ _ _ | exact Kd.S_nil _ _ _ _ _⟩, ⟨bk BK321⟩, ⟨bk BK322⟩, ⟨bk BK326⟩, ⟨bq HB⟩⟩
      case round =>
        clear H'
        try clear c4
        try clear hcz10_0
        try clear hcz10_1
        try clear hcz10_2
        try clear hcz15_0
        try clear hcz15_1
        try clear hcz16_0
        try clear hcz16_1
        try clear hcz16_2
        try clear hcz9_0
        try clear hcz9_1
        try clear hfz10_0
        try clear hfz10_1
        try clear hfz10_2
        try clear hfz15_0
        try clear hfz15_1
        try clear hfz16_0
        try clear hfz16_1
        try clear hfz16_2
        try clear hfz9_0
        try clear hfz9_1
        obtain ⟨x9_2, x10_2, rfl, HA, HK2, HO_9, BK321, BK322, BK326, HB⟩ := hrel
        cases gk with
        | zero => exact absurd HA.1 (by simp [spec_meTimes.l0])
        | succ k2 =>
          have H := HA.1
          clear HA
          simp only [spec_meTimes.l0] at H
          by_cases c24 : x10_2 < x8_4
          · rw [if_pos c24] at H
            have c24b0 : decide (x10_2 < x8_4) = true := decide_eq_true c24
            clear c24
            replace H := Option.bind_eq_some_iff.mp H
            obtain ⟨⟨t329, t330, t331⟩, A250, H⟩ := H
            (try dsimp only at H)
            have A25 := Aside0.mk A250
            clear A250
            by_cases c26 : t331 = true
            · subst c26
              rw [if_pos rfl] at H
              by_cases c27 : x9_2.length < 8796093022208
              · rw [if_pos c27] at H
                have LMc27 := Aside0.mk c27
                clear c27
                obtain ⟨y333, hy333⟩ : ∃ y_ : List (S25), y_ = (x9_2 ++ [(⟨t329, t330⟩ : S25)]) := ⟨_, rfl⟩
                replace H : (spec_meTimes.l0 k2 x8_4 y333 (wrap64 (x10_2 + 1)) x327000_4 x327001_4) = some (r1, r2) := by first | (rw [hy333]; with_reducible exact H) | (have H2_ := (Option.bind_some _ _).symm.trans H; rw [hy333]; with_reducible exact H2_) | (have H2_ := (Option.bind_some _ _).symm.trans H; with_reducible exact H2_) | with_reducible exact H | (rw [hy333]; exact H) | exact H
                have Ny333 := Aside0.mk hy333
                clear hy333
                have H' := Aside0.mk H
                clear H
                have hnb28 := NB326_321.1
                have hnc28 := NB321_326.1
                have hnb29 := NB326_322.1
                have hnc29 := NB322_326.1
                obtain ⟨hcz30_0, hcz30_1, hfz30_0, hfz30_1⟩ := zc2 BK326
                go_wp2_with (first | ((with_reducible refine gate_callee (f := 53) rfl ?_); refine gl (some 47) Try.func53 #[.int .i64 (wrap64 (x327000_4 + (wrap64 (x10_2 * x327001_4)))), .int .i64 (wrap64 (x327001_4 * x8_4))] ?_; (with_reducible refine (spec_diMake.calls k2 (wrap64 (x327000_4 + (wrap64 (x10_2 * x327001_4)))) (wrap64 (x327001_4 * x8_4)) t329 t330 true _ A25.1).mono ?_); rintro e w31 ⟨rfl, hb⟩; refine ⟨_, rfl, ?_⟩; replace HO_9 := rB HO_9 hb; replace BK321 := zb BK321 hb; replace BK322 := zb BK322 hb; replace BK326 := zb BK326 hb; replace HB := zB HB hb; clear hb) | ((with_reducible refine gate_dst (N := 11) rfl ?_); refine be #[.int .i64 0, .int .i64 0] 25 ?_; intro gb332 hg w32 hbox hb; replace HO_9 := Aside0.mk (Kd.R_below (Kd.R_elderB (rq HO_9) gb332 (Nat.le_of_eq hg.symm)) hb); have BK332 := Aside0.mk hbox; have GW332 := zs HB hg; have GE332 := zs HB hg; have NB321_332 := zn BK321 hg; have NB332_321 := zm BK321 hg; have NB322_332 := zn BK322 hg; have NB332_322 := zm BK322 hg; have NB326_332 := zn BK326 hg; have NB332_326 := zm BK326 hg; replace BK321 := zb BK321 hb; replace BK322 := zb BK322 hb; replace BK326 := zb BK326 hb; replace HB := zB HB hb; clear hb hbox hg; have hnb33 := NB332_321.1; have hnc33 := NB321_332.1; have hnb34 := NB332_322.1; have hnc34 := NB322_332.1; have hnb35 := NB332_326.1; have hnc35 := NB326_332.1; obtain ⟨hcz36_0, hcz36_1, hfz36_0, hfz36_1⟩ := zc2 BK332) | ((with_reducible refine gate_builtin (b := .append) (xs := #[.tmp 52, .tmp 54]) rfl ?_); at_builtin; refine Kd.R_append k25 (w0 := w) w.heap.size rfl (.tmp 52) (.tmp 54) 30 25 (.agg #[(.int .i64 0), (.int .i64 0)]) 16 rfl Try.underlying30 info25 rfl (by decide) (by omega) u9 x9_2 (⟨t329, t330⟩ : S25) [.int .i64 t329, .int .i64 t330] (fun k_ => k_ ≠ gb322 ∧ k_ ≠ gb326 ∧ k_ ≠ gb332) (fun _ => False) rfl (by first | (go_simp; done) | (go_simp; rfl)) ?aP (fun _ hk => hk.elim) ?aF ?aO ?aB ?aS ?aL ?_; (case aP => exact k25_mkM _ _ _ (⟨t329, t330⟩ : S25)); (case aB => exact (bq HB)); (case aF => exact (fun k_ hk => ⟨Kd.freshB (g := gb322) (o := .cells #[.int .i64 a1_0, .int .i64 a1_1] 25 (0, 0)) (bk BK322) k_ hk, Kd.freshB (g := gb326) (o := .cells #[.int .i64 x327000_4, .int .i64 x327001_4] 25 (0, 0)) (bk BK326) k_ hk, Kd.freshB (g := gb332) (o := .cells #[.int .i64 t329, .int .i64 t330] 25 (0, 0)) (bk BK332) k_ hk⟩)); (case aO => exact (by (with_reducible repeat (first | apply Kd.R_alloc | apply Kd.R_drewN | apply Kd.R_drew)); exact Kd.R_mono (Kd.R_far (p := ⟨gb332, 1, none⟩) (Kd.R_far (p := ⟨gb332, 0, none⟩) (Kd.R_mono HO_9.1 (fun k_ hk => (⟨hk, hk.2⟩ : _ ∧ k_ ≠ gb332))) (fun _ hk => hk.2) (.int .i64 t329)) (fun _ hk => hk.2) (.int .i64 t330)) (fun _ hk => ⟨hk.1.1.1, ⟨hk.1.1.2, hk.1.2⟩⟩))); (case aS => exact (below_size (bq HB))); (case aL => have := LMc27.1; omega); intro v334 w37 ho hb hg hat; rw [← Ny333.1] at ho; have HO335 := Aside0.mk ho; replace BK321 := Aside0.mk (blk_grown (g := gb321) (o := .cells #[.int .i64 a0_0, .int .i64 a0_1, .int .i64 a0_2] 27 (0, 0)) (bk BK321) hg (Kd.R_ne HO_9.1 BK321.1 (by decide))); replace BK322 := Aside0.mk (blk_grown (g := gb322) (o := .cells #[.int .i64 a1_0, .int .i64 a1_1] 25 (0, 0)) (bk BK322) hg (Kd.R_away HO_9.1 (fun _ hk => hk.1.1))); replace BK326 := Aside0.mk (blk_grown (g := gb326) (o := .cells #[.int .i64 x327000_4, .int .i64 x327001_4] 25 (0, 0)) (bk BK326) hg (Kd.R_away HO_9.1 (fun _ hk => hk.1.2))); replace BK332 := Aside0.mk (blk_grown (g := gb332) (o := .cells #[.int .i64 t329, .int .i64 t330] 25 (0, 0)) (bk BK332) hg (Kd.R_away HO_9.1 (fun _ hk => hk.2))); replace HB := Aside0.mk hb; clear HO_9; clear ho hb hg hat))
                go_roundg k2
                case measure => have := HJ4.1; have := HK2.1; omega
                case rel => exact ⟨(y333), (wrap64 (x10_2 + 1)), ew, H', ⟨by have := HJ4.1; have := HK2.1; omega⟩, ⟨by (with_reducible repeat (first | apply Kd.R_alloc | apply Kd.R_drewN | apply Kd.R_drew)); exact Kd.R_mono HO335.1 (fun _ hk => ⟨hk.1, hk.2.1⟩)⟩, ⟨bk BK321⟩, ⟨bk BK322⟩, ⟨bk BK326⟩, ⟨bq HB⟩⟩
              rw [if_neg c27] at H
              exact absurd H (by simp)
            replace c26 := Bool.eq_false_iff.mpr c26
            subst c26
            rw [if_neg (show ¬ (false = true) by decide)] at H
            simp only [Option.some.injEq, Prod.mk.injEq] at H
            obtain ⟨rfl, rfl⟩ := H
            have hnb38 := NB326_321.1
            have hnc38 := NB321_326.1
            have hnb39 := NB326_322.1
            have hnc39 := NB322_326.1
            obtain ⟨hcz40_0, hcz40_1, hfz40_0, hfz40_1⟩ := zc2 BK326
            go_wp2_with (first | ((with_reducible refine gate_callee (f := 53) rfl ?_); refine gl (some 47) Try.func53 #[.int .i64 (wrap64 (x327000_4 + (wrap64 (x10_2 * x327001_4)))), .int .i64 (wrap64 (x327001_4 * x8_4))] ?_; (with_reducible refine (spec_diMake.calls k2 (wrap64 (x327000_4 + (wrap64 (x10_2 * x327001_4)))) (wrap64 (x327001_4 * x8_4)) t329 t330 false _ A25.1).mono ?_); rintro e w41 ⟨rfl, hb⟩; refine ⟨_, rfl, ?_⟩; replace HO_9 := rB HO_9 hb; replace BK321 := zb BK321 hb; replace BK322 := zb BK322 hb; replace BK326 := zb BK326 hb; replace HB := zB HB hb; clear hb) | ((with_reducible refine gate_dst (N := 11) rfl ?_); refine be #[.int .i64 0, .int .i64 0] 25 ?_; intro gb332 hg w42 hbox hb; replace HO_9 := Aside0.mk (Kd.R_below (Kd.R_elderB (rq HO_9) gb332 (Nat.le_of_eq hg.symm)) hb); have BK332 := Aside0.mk hbox; have GW332 := zs HB hg; have GE332 := zs HB hg; have NB321_332 := zn BK321 hg; have NB332_321 := zm BK321 hg; have NB322_332 := zn BK322 hg; have NB332_322 := zm BK322 hg; have NB326_332 := zn BK326 hg; have NB332_326 := zm BK326 hg; replace BK321 := zb BK321 hb; replace BK322 := zb BK322 hb; replace BK326 := zb BK326 hb; replace HB := zB HB hb; clear hb hbox hg; have hnb43 := NB332_321.1; have hnc43 := NB321_332.1; have hnb44 := NB332_322.1; have hnc44 := NB322_332.1; have hnb45 := NB332_326.1; have hnc45 := NB326_332.1; obtain ⟨hcz46_0, hcz46_1, hfz46_0, hfz46_1⟩ := zc2 BK332))
            go_ret2
            exact ⟨_, er, by first | exact Kd.R_nil _ _ _ _ _ | exact Kd.N_nil _ _ _ _ _ | exact Kd.V_nil _ _ _ _ _ | exact Kd.Q_nil _ _ _ _ _ | exact Kd.S_nil _ _ _ _ _, bq HB⟩
          rw [if_neg c24] at H
          have c24b0 : decide (x10_2 < x8_4) = false := decide_eq_false c24
          clear c24
          simp only [Option.some.injEq, Prod.mk.injEq] at H
          obtain ⟨rfl, rfl⟩ := H
          go_wp2
          go_ret2
          exact ⟨_, er, by (with_reducible repeat (first | apply Kd.R_alloc | apply Kd.R_drewN | apply Kd.R_drew)); exact Kd.R_mono HO_9.1 (fun _ hk => trivial), bq HB⟩
  replace c4 := Bool.eq_false_iff.mpr c4
  subst c4
  rw [if_neg (show ¬ (false = true) by decide)] at H
  simp only [Option.some.injEq, Prod.mk.injEq] at H
  obtain ⟨rfl, rfl⟩ := H
  go_enter Try.func32, Try.ntmps32
  go_wp2_with (first | ((with_reducible refine gate_dst (N := 2) rfl ?_); refine be #[.int .i64 a0_0, .int .i64 a0_1, .int .i64 a0_2] 27 ?_; intro gb321 hg w47 hbox hb; have BK321 := Aside0.mk hbox; have GW321 := zs HB hg; have GE321 := zs HB hg; replace HB := zB HB hb; clear hb hbox hg) | ((with_reducible refine gate_dst (N := 3) rfl ?_); refine be #[.int .i64 a1_0, .int .i64 a1_1] 25 ?_; intro gb322 hg w48 hbox hb; have BK322 := Aside0.mk hbox; have GW322 := zs HB hg; have GE322 := zs HB hg; have NB321_322 := zn BK321 hg; have NB322_321 := zm BK321 hg; replace BK321 := zb BK321 hb; replace HB := zB HB hb; clear hb hbox hg; have hnb49 := NB322_321.1; have hnc49 := NB321_322.1; obtain ⟨hcz50_0, hcz50_1, hfz50_0, hfz50_1⟩ := zc2 BK322; obtain ⟨hcz51_0, hcz51_1, hcz51_2, hfz51_0, hfz51_1, hfz51_2⟩ := zc3 BK321) | ((with_reducible refine gate_callee (f := 51) rfl ?_); refine gl (some 17) Try.func51 #[.agg #[.int .i64 a1_0, .int .i64 a1_1], .agg #[.int .i64 a0_0, .int .i64 a0_1], .int .i64 (-1)] ?_; (with_reducible refine (spec_diAdd.calls k a1_0 a1_1 a0_0 a0_1 (-1) t323 t324 false _ A3.1).mono ?_); rintro e w52 ⟨rfl, hb⟩; refine ⟨_, rfl, ?_⟩; replace BK321 := zb BK321 hb; replace BK322 := zb BK322 hb; replace HB := zB HB hb; clear hb) | ((with_reducible refine gate_dst (N := 6) rfl ?_); refine be #[.int .i64 0, .int .i64 0] 25 ?_; intro gb326 hg w53 hbox hb; have BK326 := Aside0.mk hbox; have GW326 := zs HB hg; have GE326 := zs HB hg; have NB321_326 := zn BK321 hg; have NB326_321 := zm BK321 hg; have NB322_326 := zn BK322 hg; have NB326_322 := zm BK322 hg; replace BK321 := zb BK321 hb; replace BK322 := zb BK322 hb; replace HB := zB HB hb; clear hb hbox hg; have hnb54 := NB326_321.1; have hnc54 := NB321_326.1; have hnb55 := NB326_322.1; have hnc55 := NB322_326.1; obtain ⟨hcz56_0, hcz56_1, hfz56_0, hfz56_1⟩ := zc2 BK326))
  go_ret2
  exact ⟨_, er, by first | exact Kd.R_nil _ _ _ _ _ | exact Kd.N_nil _ _ _ _ _ | exact Kd.V_nil _ _ _ _ _ | exact Kd.Q_nil _ _ _ _ _ | exact Kd.S_nil _ _ _ _ _, bq HB⟩

/-! ### spec_meRelative: function 33 -/
def spec_meRelative.f (k : Nat) (a0_0 : Int) (a0_1 : Int) (a0_2 : Int) (a1_0 : Int) (a1_1 : Int) (a1_2 : Int) : Option (Int × Int × Int) := (spec_diAdd.f k a0_0 a0_1 a1_0 a1_1 (-1)).bind fun bt339 => (some (bt339.1, bt339.2.1, wrap64 (a0_2 - a1_2)))
theorem spec_meRelative.mono : ∀ a0 a1 a2 a3 a4 a5 k, LeO (spec_meRelative.f k a0 a1 a2 a3 a4 a5) (spec_meRelative.f (k + 1) a0 a1 a2 a3 a4 a5) := by
  intro a0 a1 a2 a3 a4 a5 k
  unfold spec_meRelative.f
  repeat' first
      | (with_reducible exact spec_diAdd.mono _ _ _ _ _ _)
      | (with_reducible exact LeO.refl _)
      | (with_reducible exact LeO.none _)
      | (with_reducible refine LeO.ite ?_ ?_)
      | (with_reducible refine LeO.bind ?_ (fun _ => ?_))
      | exact spec_diAdd.mono _ _ _ _ _ _
      | exact LeO.none _
      | refine LeO.ite ?_ ?_
      | refine LeO.bind ?_ (fun _ => ?_)
set_option maxHeartbeats 8000000 in
set_option maxRecDepth 100000 in
theorem spec_meRelative.calls (k : Nat) (a0_0 : Int) (a0_1 : Int) (a0_2 : Int) (a1_0 : Int) (a1_1 : Int) (a1_2 : Int) (r1 : Int) (r2 : Int) (r3 : Int) (w : World) (h : spec_meRelative.f k a0_0 a0_1 a0_2 a1_0 a1_1 a1_2 = some (r1, r2, r3)) :
    Calls Try.prog 33 #[.agg #[.int .i64 a0_0, .int .i64 a0_1, .int .i64 a0_2], .agg #[.int .i64 a1_0, .int .i64 a1_1, .int .i64 a1_2]] w fun e w' => e = .returned (.agg #[.int .i64 r1, .int .i64 r2, .int .i64 r3]) ∧ Below w.heap.size w w' := by
  have hu27 := Try.underlying27
  have hu25 := Try.underlying25
  have HB := Aside0.mk (Below.refl w.heap.size w)
  have H : ((spec_diAdd.f k a0_0 a0_1 a1_0 a1_1 (-1)).bind fun bt339 => (some (bt339.1, bt339.2.1, wrap64 (a0_2 - a1_2)))) = some (r1, r2, r3) := h
  clear h
  replace H := Option.bind_eq_some_iff.mp H
  obtain ⟨⟨t339, t340, t341⟩, A30, H⟩ := H
  (try dsimp only at H)
  have A3 := Aside0.mk A30
  clear A30
  simp only [Option.some.injEq, Prod.mk.injEq] at H
  obtain ⟨rfl, rfl, rfl⟩ := H
  go_enter Try.func33, Try.ntmps33
  go_wp2_with (first | ((with_reducible refine gate_dst (N := 2) rfl ?_); refine be #[.int .i64 a0_0, .int .i64 a0_1, .int .i64 a0_2] 27 ?_; intro gb336 hg w4 hbox hb; have BK336 := Aside0.mk hbox; have GW336 := zs HB hg; have GE336 := zs HB hg; replace HB := zB HB hb; clear hb hbox hg) | ((with_reducible refine gate_dst (N := 3) rfl ?_); refine be #[.int .i64 a1_0, .int .i64 a1_1, .int .i64 a1_2] 27 ?_; intro gb337 hg w5 hbox hb; have BK337 := Aside0.mk hbox; have GW337 := zs HB hg; have GE337 := zs HB hg; have NB336_337 := zn BK336 hg; have NB337_336 := zm BK336 hg; replace BK336 := zb BK336 hb; replace HB := zB HB hb; clear hb hbox hg) | ((with_reducible refine gate_dst (N := 4) rfl ?_); refine be #[.int .i64 0, .int .i64 0, .int .i64 0] 27 ?_; intro gb338 hg w6 hbox hb; have BK338 := Aside0.mk hbox; have GW338 := zs HB hg; have GE338 := zs HB hg; have NB336_338 := zn BK336 hg; have NB338_336 := zm BK336 hg; have NB337_338 := zn BK337 hg; have NB338_337 := zm BK337 hg; replace BK336 := zb BK336 hb; replace BK337 := zb BK337 hb; replace HB := zB HB hb; clear hb hbox hg; have hnb7 := NB336_337.1; have hnc7 := NB337_336.1; have hnb8 := NB336_338.1; have hnc8 := NB338_336.1; obtain ⟨hcz9_0, hcz9_1, hcz9_2, hfz9_0, hfz9_1, hfz9_2⟩ := zc3 BK336; have hnb10 := NB337_338.1; have hnc10 := NB338_337.1; obtain ⟨hcz11_0, hcz11_1, hcz11_2, hfz11_0, hfz11_1, hfz11_2⟩ := zc3 BK337) | ((with_reducible refine gate_callee (f := 51) rfl ?_); refine gl (some 12) Try.func51 #[.agg #[.int .i64 a0_0, .int .i64 a0_1], .agg #[.int .i64 a1_0, .int .i64 a1_1], .int .i64 (-1)] ?_; (with_reducible refine (spec_diAdd.calls k a0_0 a0_1 a1_0 a1_1 (-1) t339 t340 t341 _ A3.1).mono ?_); rintro e w12 ⟨rfl, hb⟩; refine ⟨_, rfl, ?_⟩; replace BK336 := zb BK336 hb; replace BK337 := zb BK337 hb; replace BK338 := zb BK338 hb; replace HB := zB HB hb; clear hb) | ((with_reducible refine gate_dst (N := 5) rfl ?_); refine be #[.int .i64 0, .int .i64 0] 25 ?_; intro gb342 hg w13 hbox hb; have BK342 := Aside0.mk hbox; have GW342 := zs HB hg; have GE342 := zs HB hg; have NB336_342 := zn BK336 hg; have NB342_336 := zm BK336 hg; have NB337_342 := zn BK337 hg; have NB342_337 := zm BK337 hg; have NB338_342 := zn BK338 hg; have NB342_338 := zm BK338 hg; replace BK336 := zb BK336 hb; replace BK337 := zb BK337 hb; replace BK338 := zb BK338 hb; replace HB := zB HB hb; clear hb hbox hg; have hnb14 := NB342_336.1; have hnc14 := NB336_342.1; have hnb15 := NB342_337.1; have hnc15 := NB337_342.1; have hnb16 := NB342_338.1; have hnc16 := NB338_342.1; obtain ⟨hcz17_0, hcz17_1, hfz17_0, hfz17_1⟩ := zc2 BK342; obtain ⟨hcz18_0, hcz18_1, hcz18_2, hfz18_0, hfz18_1, hfz18_2⟩ := zc3 BK336; obtain ⟨hcz19_0, hcz19_1, hcz19_2, hfz19_0, hfz19_1, hfz19_2⟩ := zc3 BK337; obtain ⟨hcz20_0, hcz20_1, hcz20_2, hfz20_0, hfz20_1, hfz20_2⟩ := zc3 BK338))
  refine bodyPost_ret (results_cell_row rfl _ _ gb338 27 #[.int .i64 t339, .int .i64 t340, .int .i64 (wrap64 (a0_2 - a1_2))] (0, 0) _ rfl (bk BK338) Try.underlying27 rfl (by kernel_rfl)) rfl ?_
  exact ⟨er, bq HB⟩

end Go.Proofs.Ytoneipoioiokcab.PFnHandsAhead
