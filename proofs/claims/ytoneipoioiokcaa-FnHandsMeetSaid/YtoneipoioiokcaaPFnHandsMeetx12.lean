/- A part of the walk of FnHandsMeet: which Lean function each Go function comes to, and that the machine's call does so. Written by a program of this repo (wip/gen/xprint.py). -/
import Derived.Test.YtoneipoioiokcaaPFnHandsMeetx0
import Derived.Test.YtoneipoioiokcaaPFnHandsMeetx3
import Derived.Test.YtoneipoioiokcaaPFnHandsMeetx6
import Derived.Test.YtoneipoioiokcaaPFnHandsMeetx11
namespace Go.Proofs.Ytoneipoioiokcaa.PFnHandsMeet
open Go.RowKit Go.Proofs.YtoneipoioiokcaaW.PrintWords Go.Proofs.YtoneipoioiokcaaW.PrintLast Go.Proofs.YtoneipoioiokcaaW.PrintMore
attribute [local go_sem] max2_int min2_int max_two min_two max_three min_three max_four min_four   -- for this text's walks alone
set_option linter.unusedVariables false
set_option linter.unusedSimpArgs false

/-! ### spec_meTimes: function 27 -/
mutual
def spec_meTimes.j0 : Nat → Int → Int → Int → Option ((List (S25)) × Bool)
  | 0, _, _, _ => none
  | k + 1, x8, x320000, x320001 => spec_meTimes.l0 k x8 ([] : List (S25)) 0 x320000 x320001
def spec_meTimes.l0 : Nat → Int → List (S25) → Int → Int → Int → Option ((List (S25)) × Bool)
  | 0, _, _, _, _, _ => none
  | k + 1, x8, x9, x10, x320000, x320001 => if x10 < x8 then ((spec_diMake.f k (wrap64 (x320000 + (wrap64 (x10 * x320001)))) (wrap64 (x320001 * x8))).bind fun bt322 => (if bt322.2.2 = true then (if x9.length < 8796093022208 then (spec_meTimes.l0 k x8 (x9 ++ [(⟨bt322.1, bt322.2.1⟩ : S25)]) (wrap64 (x10 + 1)) x320000 x320001) else (none)) else (some (([] : List (S25)), false)))) else (some (x9, true))
end
def spec_meTimes.f (k : Nat) (a0_0 : Int) (a0_1 : Int) (a0_2 : Int) (a1_0 : Int) (a1_1 : Int) : Option ((List (S25)) × Bool) := (spec_diAdd.f k a1_0 a1_1 a0_0 a0_1 (-1)).bind fun bt316 => (if bt316.2.2 = true then (if a0_2 < 0 then ((spec_diMirror.f k bt316.1 bt316.2.1).bind fun bt320 => (spec_meTimes.j0 k (wrap64 (-a0_2)) bt320.1 bt320.2)) else (spec_meTimes.j0 k a0_2 bt316.1 bt316.2.1)) else (some (([] : List (S25)), false)))
theorem spec_meTimes.mono_l : ∀ k, (∀ y0 y1 y2, LeO (spec_meTimes.j0 k y0 y1 y2) (spec_meTimes.j0 (k + 1) y0 y1 y2)) ∧ (∀ y0 y1 y2 y3 y4, LeO (spec_meTimes.l0 k y0 y1 y2 y3 y4) (spec_meTimes.l0 (k + 1) y0 y1 y2 y3 y4))
  | 0 => ⟨fun _ _ _ r h => by simp [spec_meTimes.j0] at h, fun _ _ _ _ _ r h => by simp [spec_meTimes.l0] at h⟩
  | k + 1 => by
    obtain ⟨ih0, ih1⟩ := spec_meTimes.mono_l k
    refine ⟨?_, ?_⟩
    · intro y0 y1 y2
      unfold spec_meTimes.j0
      repeat' first
      | (with_reducible exact ih0 _ _ _)
      | (with_reducible exact ih1 _ _ _ _ _)
      | (with_reducible exact spec_diAdd.mono _ _ _ _ _ _)
      | (with_reducible exact spec_diMake.mono _ _ _)
      | (with_reducible exact spec_diMirror.mono _ _ _)
      | (with_reducible exact LeO.refl _)
      | (with_reducible exact LeO.none _)
      | (with_reducible refine LeO.ite ?_ ?_)
      | (with_reducible refine LeO.bind ?_ (fun _ => ?_))
      | exact ih0 _ _ _
      | exact ih1 _ _ _ _ _
      | exact spec_diAdd.mono _ _ _ _ _ _
      | exact spec_diMake.mono _ _ _
      | exact spec_diMirror.mono _ _ _
      | exact LeO.none _
      | refine LeO.ite ?_ ?_
      | refine LeO.bind ?_ (fun _ => ?_)
    intro y0 y1 y2 y3 y4
    unfold spec_meTimes.l0
    repeat' first
    | (with_reducible exact ih0 _ _ _)
    | (with_reducible exact ih1 _ _ _ _ _)
    | (with_reducible exact spec_diAdd.mono _ _ _ _ _ _)
    | (with_reducible exact spec_diMake.mono _ _ _)
    | (with_reducible exact spec_diMirror.mono _ _ _)
    | (with_reducible exact LeO.refl _)
    | (with_reducible exact LeO.none _)
    | (with_reducible refine LeO.ite ?_ ?_)
    | (with_reducible refine LeO.bind ?_ (fun _ => ?_))
    | exact ih0 _ _ _
    | exact ih1 _ _ _ _ _
    | exact spec_diAdd.mono _ _ _ _ _ _
    | exact spec_diMake.mono _ _ _
    | exact spec_diMirror.mono _ _ _
    | exact LeO.none _
    | refine LeO.ite ?_ ?_
    | refine LeO.bind ?_ (fun _ => ?_)
theorem spec_meTimes.mono : ∀ a0 a1 a2 a3 a4 k, LeO (spec_meTimes.f k a0 a1 a2 a3 a4) (spec_meTimes.f (k + 1) a0 a1 a2 a3 a4) := by
  intro a0 a1 a2 a3 a4 k
  obtain ⟨ih0, ih1⟩ := spec_meTimes.mono_l k
  unfold spec_meTimes.f
  repeat' first
      | (with_reducible exact ih0 _ _ _)
      | (with_reducible exact ih1 _ _ _ _ _)
      | (with_reducible exact spec_diAdd.mono _ _ _ _ _ _)
      | (with_reducible exact spec_diMake.mono _ _ _)
      | (with_reducible exact spec_diMirror.mono _ _ _)
      | (with_reducible exact LeO.refl _)
      | (with_reducible exact LeO.none _)
      | (with_reducible refine LeO.ite ?_ ?_)
      | (with_reducible refine LeO.bind ?_ (fun _ => ?_))
      | exact ih0 _ _ _
      | exact ih1 _ _ _ _ _
      | exact spec_diAdd.mono _ _ _ _ _ _
      | exact spec_diMake.mono _ _ _
      | exact spec_diMirror.mono _ _ _
      | exact LeO.none _
      | refine LeO.ite ?_ ?_
      | refine LeO.bind ?_ (fun _ => ?_)
set_option maxHeartbeats 8000000 in
set_option maxRecDepth 100000 in
theorem spec_meTimes.calls (k : Nat) (a0_0 : Int) (a0_1 : Int) (a0_2 : Int) (a1_0 : Int) (a1_1 : Int) (r1 : List (S25)) (r2 : Bool) (w : World) (h : spec_meTimes.f k a0_0 a0_1 a0_2 a1_0 a1_1 = some (r1, r2)) :
    Calls Try.prog 27 #[.agg #[.int .i64 a0_0, .int .i64 a0_1, .int .i64 a0_2], .agg #[.int .i64 a1_0, .int .i64 a1_1]] w fun e w' => ∃ v0_ : Value, e = .returned (.tuple #[v0_, .bool r2]) ∧ Kd.R k25 25 w' w.heap.size (fun _ => True) v0_ r1 ∧ Below w.heap.size w w' := by
  have hu27 := Try.underlying27
  have hu25 := Try.underlying25
  have HB := Aside0.mk (Below.refl w.heap.size w)
  have H : ((spec_diAdd.f k a1_0 a1_1 a0_0 a0_1 (-1)).bind fun bt316 => (if bt316.2.2 = true then (if a0_2 < 0 then ((spec_diMirror.f k bt316.1 bt316.2.1).bind fun bt320 => (spec_meTimes.j0 k (wrap64 (-a0_2)) bt320.1 bt320.2)) else (spec_meTimes.j0 k a0_2 bt316.1 bt316.2.1)) else (some (([] : List (S25)), false)))) = some (r1, r2) := h
  clear h
  replace H := Option.bind_eq_some_iff.mp H
  obtain ⟨⟨t316, t317, t318⟩, A30, H⟩ := H
  (try dsimp only at H)
  have A3 := Aside0.mk A30
  clear A30
  by_cases c4 : t318 = true
  · subst c4
    rw [if_pos rfl] at H
    have HC5 := Aside0.mk H
    clear H
    go_enter Try.func27, Try.ntmps27
    go_upto_if 25 with (first | ((with_reducible refine gate_dst (N := 2) rfl ?_); refine be #[.int .i64 a0_0, .int .i64 a0_1, .int .i64 a0_2] 27 ?_; intro gb314 hg w6 hbox hb; have BK314 := Aside0.mk hbox; have GW314 := zs HB hg; have GE314 := zs HB hg; replace HB := zB HB hb; clear hb hbox hg) | ((with_reducible refine gate_dst (N := 3) rfl ?_); refine be #[.int .i64 a1_0, .int .i64 a1_1] 25 ?_; intro gb315 hg w7 hbox hb; have BK315 := Aside0.mk hbox; have GW315 := zs HB hg; have GE315 := zs HB hg; have NB314_315 := zn BK314 hg; have NB315_314 := zm BK314 hg; replace BK314 := zb BK314 hb; replace HB := zB HB hb; clear hb hbox hg; have hnb8 := NB315_314.1; have hnc8 := NB314_315.1; obtain ⟨hcz9_0, hcz9_1, hfz9_0, hfz9_1⟩ := zc2 BK315; obtain ⟨hcz10_0, hcz10_1, hcz10_2, hfz10_0, hfz10_1, hfz10_2⟩ := zc3 BK314) | ((with_reducible refine gate_callee (f := 53) rfl ?_); refine gl (some 17) Try.func53 #[.agg #[.int .i64 a1_0, .int .i64 a1_1], .agg #[.int .i64 a0_0, .int .i64 a0_1], .int .i64 (-1)] ?_; (with_reducible refine (spec_diAdd.calls k a1_0 a1_1 a0_0 a0_1 (-1) t316 t317 true _ A3.1).mono ?_); rintro e w11 ⟨rfl, hb⟩; refine ⟨_, rfl, ?_⟩; replace BK314 := zb BK314 hb; replace BK315 := zb BK315 hb; replace HB := zB HB hb; clear hb) | ((with_reducible refine gate_dst (N := 6) rfl ?_); refine be #[.int .i64 0, .int .i64 0] 25 ?_; intro gb319 hg w12 hbox hb; have BK319 := Aside0.mk hbox; have GW319 := zs HB hg; have GE319 := zs HB hg; have NB314_319 := zn BK314 hg; have NB319_314 := zm BK314 hg; have NB315_319 := zn BK315 hg; have NB319_315 := zm BK315 hg; replace BK314 := zb BK314 hb; replace BK315 := zb BK315 hb; replace HB := zB HB hb; clear hb hbox hg; have hnb13 := NB319_314.1; have hnc13 := NB314_319.1; have hnb14 := NB319_315.1; have hnc14 := NB315_319.1; obtain ⟨hcz15_0, hcz15_1, hfz15_0, hfz15_1⟩ := zc2 BK319; obtain ⟨hcz16_0, hcz16_1, hcz16_2, hfz16_0, hfz16_1, hfz16_2⟩ := zc3 BK314))
    (try simp only [Act.put, List.setIfInBounds_toArray, List.set_cons_zero, List.set_cons_succ])
    go_cut [8] (fun v8 wc => ∃ (kq : Nat) (x8_4 : Int) (x320000_4 : Int) (x320001_4 : Int), v8 = .int .i64 x8_4 ∧ Aside0 (spec_meTimes.j0 kq x8_4 x320000_4 x320001_4 = some (r1, r2)) ∧ Aside0 (kq ≤ k) ∧ Aside0 (wc.heap[gb314]? = some (.cells #[.int .i64 a0_0, .int .i64 a0_1, .int .i64 a0_2] 27 (0, 0))) ∧ Aside0 (wc.heap[gb315]? = some (.cells #[.int .i64 a1_0, .int .i64 a1_1] 25 (0, 0))) ∧ Aside0 (wc.heap[gb319]? = some (.cells #[.int .i64 x320000_4, .int .i64 x320001_4] 25 (0, 0))) ∧ Aside0 (Below w.heap.size w wc))
    case first =>
      have H := HC5.1
      clear HC5
      by_cases c17 : a0_2 < 0
      · rw [if_pos c17] at H
        have c17b0 : decide (a0_2 < 0) = true := decide_eq_true c17
        clear c17
        (first | rw [c17b0] | (simp only [i64_w, i32_w]; rw [c17b0]) | skip)
        replace H := Option.bind_eq_some_iff.mp H
        obtain ⟨⟨t320, t321⟩, A180, H⟩ := H
        (try dsimp only at H)
        have A18 := Aside0.mk A180
        clear A180
        have H' := Aside0.mk H
        clear H
        have hnb19 := NB319_314.1
        have hnc19 := NB314_319.1
        have hnb20 := NB319_315.1
        have hnc20 := NB315_319.1
        obtain ⟨hcz21_0, hcz21_1, hfz21_0, hfz21_1⟩ := zc2 BK319
        go_wp2_with (first | ((with_reducible refine gate_callee (f := 54) rfl ?_); refine gl (some 27) Try.func54 #[.agg #[.int .i64 t316, .int .i64 t317]] ?_; (with_reducible refine (spec_diMirror.calls k t316 t317 t320 t321 _ A18.1).mono ?_); rintro e w22 ⟨rfl, hb⟩; refine ⟨_, rfl, ?_⟩; replace BK314 := zy (o' := .cells #[.int .i64 a0_0, .int .i64 a0_1, .int .i64 a0_2] 27 (0, 0)) BK314 hb; replace BK315 := zy (o' := .cells #[.int .i64 a1_0, .int .i64 a1_1] 25 (0, 0)) BK315 hb; replace BK319 := zy (o' := .cells #[.int .i64 t316, .int .i64 t317] 25 (0, 0)) BK319 hb; replace HB := zB HB hb; clear hb; obtain ⟨hcz23_0, hcz23_1, hfz23_0, hfz23_1⟩ := zc2 BK319))
        go_meet
        case rel => exact ⟨_, (wrap64 (-a0_2)), (t320), (t321), ew, H', le_, ⟨bk BK314⟩, ⟨bk BK315⟩, ⟨bk BK319⟩, ⟨bq HB⟩⟩
      rw [if_neg c17] at H
      have c17b0 : decide (a0_2 < 0) = false := decide_eq_false c17
      clear c17
      (first | rw [c17b0] | (simp only [i64_w, i32_w]; rw [c17b0]) | skip)
      have H' := Aside0.mk H
      clear H
      go_wp2
      go_meet
      case rel => exact ⟨_, (a0_2), (t316), (t317), ew, H', le_, ⟨bk BK314⟩, ⟨bk BK315⟩, ⟨bk BK319⟩, ⟨bq HB⟩⟩
    clear HC5
    try clear c4
    try clear hcz10_0
    try clear hcz10_1
    try clear hcz10_2
    try clear hcz15_0
    try clear hcz15_1
    try clear hcz16_0
    try clear hcz16_1
    try clear hcz16_2
    try clear hcz9_0
    try clear hcz9_1
    try clear hfz10_0
    try clear hfz10_1
    try clear hfz10_2
    try clear hfz15_0
    try clear hfz15_1
    try clear hfz16_0
    try clear hfz16_1
    try clear hfz16_2
    try clear hfz9_0
    try clear hfz9_1
    obtain ⟨kq, x8_4, x320000_4, x320001_4, rfl, HA, HJ4, BK314, BK315, BK319, HB⟩ := hcut
    cases kq with
    | zero => exact absurd HA.1 (by simp [spec_meTimes.j0])
    | succ kj4 =>
      have H := HA.1
      clear HA
      simp only [spec_meTimes.j0] at H
      have H' := Aside0.mk H
      clear H
      go_wp2
      go_loopg [9, 10] kj4 (fun kq v9 v10 w' => ∃ (x9_2 : List (S25)) (x10_2 : Int), v10 = .int .i64 x10_2 ∧ Aside0 (spec_meTimes.l0 kq x8_4 x9_2 x10_2 x320000_4 x320001_4 = some (r1, r2)) ∧ Aside0 (kq ≤ kj4) ∧ Aside0 (Kd.R k25 25 w' w.heap.size (fun k_ => k_ ≠ gb315 ∧ k_ ≠ gb319) v9 x9_2) ∧ Aside0 (w'.heap[gb314]? = some (.cells #[.int .i64 a0_0, .int .i64 a0_1, .int .i64 a0_2] 27 (0, 0))) ∧ Aside0 (w'.heap[gb315]? = some (.cells #[.int .i64 a1_0, .int .i64 a1_1] 25 (0, 0))) ∧ Aside0 (w'.heap[gb319]? = some (.cells #[.int .i64 x320000_4, .int .i64 x320001_4] 25 (0, 0))) ∧ Aside0 (Below w.heap.size w w'))
      case atStart => exact ⟨(([] : List (S25))), (0), ew, H', ⟨Nat.le_refl _⟩, ⟨by first | exact Kd.R_nil _ _ _ _ _ | exact Kd.N_nil _ _ _ _ _ | exact Kd.V_nil _ _ _ _ _ | exact Kd.Q_nil _ _ _ _ _ | exact Kd.S_nil _ _ _ _ _⟩, ⟨bk BK314⟩, ⟨bk BK315⟩, ⟨bk BK319⟩, ⟨bq HB⟩⟩
      case round =>
        clear H'
        try clear c4
        try clear hcz10_0
        try clear hcz10_1
        try clear hcz10_2
        try clear hcz15_0
        try clear hcz15_1
        try clear hcz16_0
        try clear hcz16_1
        try clear hcz16_2
        try clear hcz9_0
        try clear hcz9_1
        try clear hfz10_0
        try clear hfz10_1
        try clear hfz10_2
        try clear hfz15_0
        try clear hfz15_1
        try clear hfz16_0
        try clear hfz16_1
        try clear hfz16_2
        try clear hfz9_0
        try clear hfz9_1
        obtain ⟨x9_2, x10_2, rfl, HA, HK2, HO_9, BK314, BK315, BK319, HB⟩ := hrel
        cases gk with
        | zero => exact absurd HA.1 (by simp [spec_meTimes.l0])
        | succ k2 =>
          have H := HA.1
          clear HA
          simp only [spec_meTimes.l0] at H
          by_cases c24 : x10_2 < x8_4
          · rw [if_pos c24] at H
            have c24b0 : decide (x10_2 < x8_4) = true := decide_eq_true c24
            clear c24
            replace H := Option.bind_eq_some_iff.mp H
            obtain ⟨⟨t322, t323, t324⟩, A250, H⟩ := H
            (try dsimp only at H)
            have A25 := Aside0.mk A250
            clear A250
            by_cases c26 : t324 = true
            · subst c26
              rw [if_pos rfl] at H
              by_cases c27 : x9_2.length < 8796093022208
              · rw [if_pos c27] at H
                have LMc27 := Aside0.mk c27
                clear c27
                obtain ⟨y326, hy326⟩ : ∃ y_ : List (S25), y_ = (x9_2 ++ [(⟨t322, t323⟩ : S25)]) := ⟨_, rfl⟩
                replace H : (spec_meTimes.l0 k2 x8_4 y326 (wrap64 (x10_2 + 1)) x320000_4 x320001_4) = some (r1, r2) := by first | (rw [hy326]; with_reducible exact H) | (have H2_ := (Option.bind_some _ _).symm.trans H; rw [hy326]; with_reducible exact H2_) | (have H2_ := (Option.bind_some _ _).symm.trans H; with_reducible exact H2_) | with_reducible exact H | (rw [hy326]; exact H) | exact H
                have Ny326 := Aside0.mk hy326
                clear hy326
                have H' := Aside0.mk H
                clear H
                have hnb28 := NB319_314.1
                have hnc28 := NB314_319.1
                have hnb29 := NB319_315.1
                have hnc29 := NB315_319.1
                obtain ⟨hcz30_0, hcz30_1, hfz30_0, hfz30_1⟩ := zc2 BK319
                go_wp2_with (first | ((with_reducible refine gate_callee (f := 55) rfl ?_); refine gl (some 47) Try.func55 #[.int .i64 (wrap64 (x320000_4 + (wrap64 (x10_2 * x320001_4)))), .int .i64 (wrap64 (x320001_4 * x8_4))] ?_; (with_reducible refine (spec_diMake.calls k2 (wrap64 (x320000_4 + (wrap64 (x10_2 * x320001_4)))) (wrap64 (x320001_4 * x8_4)) t322 t323 true _ A25.1).mono ?_); rintro e w31 ⟨rfl, hb⟩; refine ⟨_, rfl, ?_⟩; replace HO_9 := rB HO_9 hb; replace BK314 := zb BK314 hb; replace BK315 := zb BK315 hb; replace BK319 := zb BK319 hb; replace HB := zB HB hb; clear hb) | ((with_reducible refine gate_dst (N := 11) rfl ?_); refine be #[.int .i64 0, .int .i64 0] 25 ?_; intro gb325 hg w32 hbox hb; replace HO_9 := Aside0.mk (Kd.R_below (Kd.R_elderB (rq HO_9) gb325 (Nat.le_of_eq hg.symm)) hb); have BK325 := Aside0.mk hbox; have GW325 := zs HB hg; have GE325 := zs HB hg; have NB314_325 := zn BK314 hg; have NB325_314 := zm BK314 hg; have NB315_325 := zn BK315 hg; have NB325_315 := zm BK315 hg; have NB319_325 := zn BK319 hg; have NB325_319 := zm BK319 hg; replace BK314 := zb BK314 hb; replace BK315 := zb BK315 hb; replace BK319 := zb BK319 hb; replace HB := zB HB hb; clear hb hbox hg; have hnb33 := NB325_314.1; have hnc33 := NB314_325.1; have hnb34 := NB325_315.1; have hnc34 := NB315_325.1; have hnb35 := NB325_319.1; have hnc35 := NB319_325.1; obtain ⟨hcz36_0, hcz36_1, hfz36_0, hfz36_1⟩ := zc2 BK325) | ((with_reducible refine gate_builtin (b := .append) (xs := #[.tmp 52, .tmp 54]) rfl ?_); at_builtin; refine Kd.R_append k25 (w0 := w) w.heap.size rfl (.tmp 52) (.tmp 54) 30 25 (.agg #[(.int .i64 0), (.int .i64 0)]) 16 rfl Try.underlying30 info25 rfl (by decide) (by omega) u9 x9_2 (⟨t322, t323⟩ : S25) [.int .i64 t322, .int .i64 t323] (fun k_ => k_ ≠ gb315 ∧ k_ ≠ gb319 ∧ k_ ≠ gb325) (fun _ => False) rfl (by first | (go_simp; done) | (go_simp; rfl)) ?aP (fun _ hk => hk.elim) ?aF ?aO ?aB ?aS ?aL ?_; (case aP => exact k25_mkM _ _ _ (⟨t322, t323⟩ : S25)); (case aB => exact (bq HB)); (case aF => exact (fun k_ hk => ⟨Kd.freshB (g := gb315) (o := .cells #[.int .i64 a1_0, .int .i64 a1_1] 25 (0, 0)) (bk BK315) k_ hk, Kd.freshB (g := gb319) (o := .cells #[.int .i64 x320000_4, .int .i64 x320001_4] 25 (0, 0)) (bk BK319) k_ hk, Kd.freshB (g := gb325) (o := .cells #[.int .i64 t322, .int .i64 t323] 25 (0, 0)) (bk BK325) k_ hk⟩)); (case aO => exact (by (with_reducible repeat (first | apply Kd.R_alloc | apply Kd.R_drewN | apply Kd.R_drew)); exact Kd.R_mono (Kd.R_far (p := ⟨gb325, 1, none⟩) (Kd.R_far (p := ⟨gb325, 0, none⟩) (Kd.R_mono HO_9.1 (fun k_ hk => (⟨hk, hk.2⟩ : _ ∧ k_ ≠ gb325))) (fun _ hk => hk.2) (.int .i64 t322)) (fun _ hk => hk.2) (.int .i64 t323)) (fun _ hk => ⟨hk.1.1.1, ⟨hk.1.1.2, hk.1.2⟩⟩))); (case aS => exact (below_size (bq HB))); (case aL => have := LMc27.1; omega); intro v327 w37 ho hb hg hat; rw [← Ny326.1] at ho; have HO328 := Aside0.mk ho; replace BK314 := Aside0.mk (blk_grown (g := gb314) (o := .cells #[.int .i64 a0_0, .int .i64 a0_1, .int .i64 a0_2] 27 (0, 0)) (bk BK314) hg (Kd.R_ne HO_9.1 BK314.1 (by decide))); replace BK315 := Aside0.mk (blk_grown (g := gb315) (o := .cells #[.int .i64 a1_0, .int .i64 a1_1] 25 (0, 0)) (bk BK315) hg (Kd.R_away HO_9.1 (fun _ hk => hk.1.1))); replace BK319 := Aside0.mk (blk_grown (g := gb319) (o := .cells #[.int .i64 x320000_4, .int .i64 x320001_4] 25 (0, 0)) (bk BK319) hg (Kd.R_away HO_9.1 (fun _ hk => hk.1.2))); replace BK325 := Aside0.mk (blk_grown (g := gb325) (o := .cells #[.int .i64 t322, .int .i64 t323] 25 (0, 0)) (bk BK325) hg (Kd.R_away HO_9.1 (fun _ hk => hk.2))); replace HB := Aside0.mk hb; clear HO_9; clear ho hb hg hat))
                go_roundg k2
                case measure => have := HJ4.1; have := HK2.1; omega
                case rel => exact ⟨(y326), (wrap64 (x10_2 + 1)), ew, H', ⟨by have := HJ4.1; have := HK2.1; omega⟩, ⟨by (with_reducible repeat (first | apply Kd.R_alloc | apply Kd.R_drewN | apply Kd.R_drew)); exact Kd.R_mono HO328.1 (fun _ hk => ⟨hk.1, hk.2.1⟩)⟩, ⟨bk BK314⟩, ⟨bk BK315⟩, ⟨bk BK319⟩, ⟨bq HB⟩⟩
              rw [if_neg c27] at H
              exact absurd H (by simp)
            replace c26 := Bool.eq_false_iff.mpr c26
            subst c26
            rw [if_neg (show ¬ (false = true) by decide)] at H
            simp only [Option.some.injEq, Prod.mk.injEq] at H
            obtain ⟨rfl, rfl⟩ := H
            have hnb38 := NB319_314.1
            have hnc38 := NB314_319.1
            have hnb39 := NB319_315.1
            have hnc39 := NB315_319.1
            obtain ⟨hcz40_0, hcz40_1, hfz40_0, hfz40_1⟩ := zc2 BK319
            go_wp2_with (first | ((with_reducible refine gate_callee (f := 55) rfl ?_); refine gl (some 47) Try.func55 #[.int .i64 (wrap64 (x320000_4 + (wrap64 (x10_2 * x320001_4)))), .int .i64 (wrap64 (x320001_4 * x8_4))] ?_; (with_reducible refine (spec_diMake.calls k2 (wrap64 (x320000_4 + (wrap64 (x10_2 * x320001_4)))) (wrap64 (x320001_4 * x8_4)) t322 t323 false _ A25.1).mono ?_); rintro e w41 ⟨rfl, hb⟩; refine ⟨_, rfl, ?_⟩; replace HO_9 := rB HO_9 hb; replace BK314 := zb BK314 hb; replace BK315 := zb BK315 hb; replace BK319 := zb BK319 hb; replace HB := zB HB hb; clear hb) | ((with_reducible refine gate_dst (N := 11) rfl ?_); refine be #[.int .i64 0, .int .i64 0] 25 ?_; intro gb325 hg w42 hbox hb; replace HO_9 := Aside0.mk (Kd.R_below (Kd.R_elderB (rq HO_9) gb325 (Nat.le_of_eq hg.symm)) hb); have BK325 := Aside0.mk hbox; have GW325 := zs HB hg; have GE325 := zs HB hg; have NB314_325 := zn BK314 hg; have NB325_314 := zm BK314 hg; have NB315_325 := zn BK315 hg; have NB325_315 := zm BK315 hg; have NB319_325 := zn BK319 hg; have NB325_319 := zm BK319 hg; replace BK314 := zb BK314 hb; replace BK315 := zb BK315 hb; replace BK319 := zb BK319 hb; replace HB := zB HB hb; clear hb hbox hg; have hnb43 := NB325_314.1; have hnc43 := NB314_325.1; have hnb44 := NB325_315.1; have hnc44 := NB315_325.1; have hnb45 := NB325_319.1; have hnc45 := NB319_325.1; obtain ⟨hcz46_0, hcz46_1, hfz46_0, hfz46_1⟩ := zc2 BK325))
            go_ret2
            exact ⟨_, er, by first | exact Kd.R_nil _ _ _ _ _ | exact Kd.N_nil _ _ _ _ _ | exact Kd.V_nil _ _ _ _ _ | exact Kd.Q_nil _ _ _ _ _ | exact Kd.S_nil _ _ _ _ _, bq HB⟩
          rw [if_neg c24] at H
          have c24b0 : decide (x10_2 < x8_4) = false := decide_eq_false c24
          clear c24
          simp only [Option.some.injEq, Prod.mk.injEq] at H
          obtain ⟨rfl, rfl⟩ := H
          go_wp2
          go_ret2
          exact ⟨_, er, by (with_reducible repeat (first | apply Kd.R_alloc | apply Kd.R_drewN | apply Kd.R_drew)); exact Kd.R_mono HO_9.1 (fun _ hk => trivial), bq HB⟩
  replace c4 := Bool.eq_false_iff.mpr c4
  subst c4
  rw [if_neg (show ¬ (false = true) by decide)] at H
  simp only [Option.some.injEq, Prod.mk.injEq] at H
  obtain ⟨rfl, rfl⟩ := H
  go_enter Try.func27, Try.ntmps27
  go_wp2_with (first | ((with_reducible refine gate_dst (N := 2) rfl ?_); refine be #[.int .i64 a0_0, .int .i64 a0_1, .int .i64 a0_2] 27 ?_; intro gb314 hg w47 hbox hb; have BK314 := Aside0.mk hbox; have GW314 := zs HB hg; have GE314 := zs HB hg; replace HB := zB HB hb; clear hb hbox hg) | ((with_reducible refine gate_dst (N := 3) rfl ?_); refine be #[.int .i64 a1_0, .int .i64 a1_1] 25 ?_; intro gb315 hg w48 hbox hb; have BK315 := Aside0.mk hbox; have GW315 := zs HB hg; have GE315 := zs HB hg; have NB314_315 := zn BK314 hg; have NB315_314 := zm BK314 hg; replace BK314 := zb BK314 hb; replace HB := zB HB hb; clear hb hbox hg; have hnb49 := NB315_314.1; have hnc49 := NB314_315.1; obtain ⟨hcz50_0, hcz50_1, hfz50_0, hfz50_1⟩ := zc2 BK315; obtain ⟨hcz51_0, hcz51_1, hcz51_2, hfz51_0, hfz51_1, hfz51_2⟩ := zc3 BK314) | ((with_reducible refine gate_callee (f := 53) rfl ?_); refine gl (some 17) Try.func53 #[.agg #[.int .i64 a1_0, .int .i64 a1_1], .agg #[.int .i64 a0_0, .int .i64 a0_1], .int .i64 (-1)] ?_; (with_reducible refine (spec_diAdd.calls k a1_0 a1_1 a0_0 a0_1 (-1) t316 t317 false _ A3.1).mono ?_); rintro e w52 ⟨rfl, hb⟩; refine ⟨_, rfl, ?_⟩; replace BK314 := zb BK314 hb; replace BK315 := zb BK315 hb; replace HB := zB HB hb; clear hb) | ((with_reducible refine gate_dst (N := 6) rfl ?_); refine be #[.int .i64 0, .int .i64 0] 25 ?_; intro gb319 hg w53 hbox hb; have BK319 := Aside0.mk hbox; have GW319 := zs HB hg; have GE319 := zs HB hg; have NB314_319 := zn BK314 hg; have NB319_314 := zm BK314 hg; have NB315_319 := zn BK315 hg; have NB319_315 := zm BK315 hg; replace BK314 := zb BK314 hb; replace BK315 := zb BK315 hb; replace HB := zB HB hb; clear hb hbox hg; have hnb54 := NB319_314.1; have hnc54 := NB314_319.1; have hnb55 := NB319_315.1; have hnc55 := NB315_319.1; obtain ⟨hcz56_0, hcz56_1, hfz56_0, hfz56_1⟩ := zc2 BK319))
  go_ret2
  exact ⟨_, er, by first | exact Kd.R_nil _ _ _ _ _ | exact Kd.N_nil _ _ _ _ _ | exact Kd.V_nil _ _ _ _ _ | exact Kd.Q_nil _ _ _ _ _ | exact Kd.S_nil _ _ _ _ _, bq HB⟩

/-! ### spec_meRelative: function 28 -/
def spec_meRelative.f (k : Nat) (a0_0 : Int) (a0_1 : Int) (a0_2 : Int) (a1_0 : Int) (a1_1 : Int) (a1_2 : Int) : Option (Int × Int × Int) := (spec_diAdd.f k a0_0 a0_1 a1_0 a1_1 (-1)).bind fun bt332 => (some (bt332.1, bt332.2.1, wrap64 (a0_2 - a1_2)))
theorem spec_meRelative.mono : ∀ a0 a1 a2 a3 a4 a5 k, LeO (spec_meRelative.f k a0 a1 a2 a3 a4 a5) (spec_meRelative.f (k + 1) a0 a1 a2 a3 a4 a5) := by
  intro a0 a1 a2 a3 a4 a5 k
  unfold spec_meRelative.f
  repeat' first
      | (with_reducible exact spec_diAdd.mono _ _ _ _ _ _)
      | (with_reducible exact LeO.refl _)
      | (with_reducible exact LeO.none _)
      | (with_reducible refine LeO.ite ?_ ?_)
      | (with_reducible refine LeO.bind ?_ (fun _ => ?_))
      | exact spec_diAdd.mono _ _ _ _ _ _
      | exact LeO.none _
      | refine LeO.ite ?_ ?_
      | refine LeO.bind ?_ (fun _ => ?_)
set_option maxHeartbeats 8000000 in
set_option maxRecDepth 100000 in
theorem spec_meRelative.calls (k : Nat) (a0_0 : Int) (a0_1 : Int) (a0_2 : Int) (a1_0 : Int) (a1_1 : Int) (a1_2 : Int) (r1 : Int) (r2 : Int) (r3 : Int) (w : World) (h : spec_meRelative.f k a0_0 a0_1 a0_2 a1_0 a1_1 a1_2 = some (r1, r2, r3)) :
    Calls Try.prog 28 #[.agg #[.int .i64 a0_0, .int .i64 a0_1, .int .i64 a0_2], .agg #[.int .i64 a1_0, .int .i64 a1_1, .int .i64 a1_2]] w fun e w' => e = .returned (.agg #[.int .i64 r1, .int .i64 r2, .int .i64 r3]) ∧ Below w.heap.size w w' := by
  have hu27 := Try.underlying27
  have hu25 := Try.underlying25
  have HB := Aside0.mk (Below.refl w.heap.size w)
  have H : ((spec_diAdd.f k a0_0 a0_1 a1_0 a1_1 (-1)).bind fun bt332 => (some (bt332.1, bt332.2.1, wrap64 (a0_2 - a1_2)))) = some (r1, r2, r3) := h
  clear h
  replace H := Option.bind_eq_some_iff.mp H
  obtain ⟨⟨t332, t333, t334⟩, A30, H⟩ := H
  (try dsimp only at H)
  have A3 := Aside0.mk A30
  clear A30
  simp only [Option.some.injEq, Prod.mk.injEq] at H
  obtain ⟨rfl, rfl, rfl⟩ := H
  go_enter Try.func28, Try.ntmps28
  go_wp2_with (first | ((with_reducible refine gate_dst (N := 2) rfl ?_); refine be #[.int .i64 a0_0, .int .i64 a0_1, .int .i64 a0_2] 27 ?_; intro gb329 hg w4 hbox hb; have BK329 := Aside0.mk hbox; have GW329 := zs HB hg; have GE329 := zs HB hg; replace HB := zB HB hb; clear hb hbox hg) | ((with_reducible refine gate_dst (N := 3) rfl ?_); refine be #[.int .i64 a1_0, .int .i64 a1_1, .int .i64 a1_2] 27 ?_; intro gb330 hg w5 hbox hb; have BK330 := Aside0.mk hbox; have GW330 := zs HB hg; have GE330 := zs HB hg; have NB329_330 := zn BK329 hg; have NB330_329 := zm BK329 hg; replace BK329 := zb BK329 hb; replace HB := zB HB hb; clear hb hbox hg) | ((with_reducible refine gate_dst (N := 4) rfl ?_); refine be #[.int .i64 0, .int .i64 0, .int .i64 0] 27 ?_; intro gb331 hg w6 hbox hb; have BK331 := Aside0.mk hbox; have GW331 := zs HB hg; have GE331 := zs HB hg; have NB329_331 := zn BK329 hg; have NB331_329 := zm BK329 hg; have NB330_331 := zn BK330 hg; have NB331_330 := zm BK330 hg; replace BK329 := zb BK329 hb; replace BK330 := zb BK330 hb; replace HB := zB HB hb; clear hb hbox hg; have hnb7 := NB329_330.1; have hnc7 := NB330_329.1; have hnb8 := NB329_331.1; have hnc8 := NB331_329.1; obtain ⟨hcz9_0, hcz9_1, hcz9_2, hfz9_0, hfz9_1, hfz9_2⟩ := zc3 BK329; have hnb10 := NB330_331.1; have hnc10 := NB331_330.1; obtain ⟨hcz11_0, hcz11_1, hcz11_2, hfz11_0, hfz11_1, hfz11_2⟩ := zc3 BK330) | ((with_reducible refine gate_callee (f := 53) rfl ?_); refine gl (some 12) Try.func53 #[.agg #[.int .i64 a0_0, .int .i64 a0_1], .agg #[.int .i64 a1_0, .int .i64 a1_1], .int .i64 (-1)] ?_; (with_reducible refine (spec_diAdd.calls k a0_0 a0_1 a1_0 a1_1 (-1) t332 t333 t334 _ A3.1).mono ?_); rintro e w12 ⟨rfl, hb⟩; refine ⟨_, rfl, ?_⟩; replace BK329 := zb BK329 hb; replace BK330 := zb BK330 hb; replace BK331 := zb BK331 hb; replace HB := zB HB hb; clear hb) | ((with_reducible refine gate_dst (N := 5) rfl ?_); refine be #[.int .i64 0, .int .i64 0] 25 ?_; intro gb335 hg w13 hbox hb; have BK335 := Aside0.mk hbox; have GW335 := zs HB hg; have GE335 := zs HB hg; have NB329_335 := zn BK329 hg; have NB335_329 := zm BK329 hg; have NB330_335 := zn BK330 hg; have NB335_330 := zm BK330 hg; have NB331_335 := zn BK331 hg; have NB335_331 := zm BK331 hg; replace BK329 := zb BK329 hb; replace BK330 := zb BK330 hb; replace BK331 := zb BK331 hb; replace HB := zB HB hb; clear hb hbox hg; have hnb14 := NB335_329.1; have hnc14 := NB329_335.1; have hnb15 := NB335_330.1; have hnc15 := NB330_335.1; have hnb16 := NB335_331.1; have hnc16 := NB331_335.1; obtain ⟨hcz17_0, hcz17_1, hfz17_0, hfz17_1⟩ := zc2 BK335; obtain ⟨hcz18_0, hcz18_1, hcz18_2, hfz18_0, hfz18_1, hfz18_2⟩ := zc3 BK329; obtain ⟨hcz19_0, hcz19_1, hcz19_2, hfz19_0, hfz19_1, hfz19_2⟩ := zc3 BK330; obtain ⟨hcz20_0, hcz20_1, hcz20_2, hfz20_0, hfz20_1, hfz20_2⟩ := zc3 BK331))
  refine bodyPost_ret (results_cell_row rfl _ _ gb331 27 #[.int .i64 t332, .int .i64 t333, .int .i64 (wrap64 (a0_2 - a1_2))] (0, 0) _ rfl (bk BK331) Try.underlying27 rfl (by kernel_rfl)) rfl ?_
  exact ⟨er, bq HB⟩

/-! ### spec_MeetTimes: function 7 -/
def spec_MeetTimes.f (k : Nat) (a0_0 : Int) (a0_1 : Int) (a0_2 : Int) (a1_0 : Int) (a1_1 : Int) (a1_2 : Int) : Option ((List (S25)) × Bool) := (spec_meAsked.f k a0_0 a0_1 a0_2 a1_0 a1_1 a1_2).bind fun t338 => (if t338 = true then ((spec_meRelative.f k a0_0 a0_1 a0_2 a1_0 a1_1 a1_2).bind fun bt339 => ((spec_meTimes.f k bt339.1 bt339.2.1 bt339.2.2 0 1).bind fun bt342 => (some (bt342.1, bt342.2)))) else (some (([] : List (S25)), false)))
theorem spec_MeetTimes.mono : ∀ a0 a1 a2 a3 a4 a5 k, LeO (spec_MeetTimes.f k a0 a1 a2 a3 a4 a5) (spec_MeetTimes.f (k + 1) a0 a1 a2 a3 a4 a5) := by
  intro a0 a1 a2 a3 a4 a5 k
  unfold spec_MeetTimes.f
  repeat' first
      | (with_reducible exact spec_meAsked.mono _ _ _ _ _ _ _)
      | (with_reducible exact spec_meRelative.mono _ _ _ _ _ _ _)
      | (with_reducible exact spec_meTimes.mono _ _ _ _ _ _)
      | (with_reducible exact LeO.refl _)
      | (with_reducible exact LeO.none _)
      | (with_reducible refine LeO.ite ?_ ?_)
      | (with_reducible refine LeO.bind ?_ (fun _ => ?_))
      | exact spec_meAsked.mono _ _ _ _ _ _ _
      | exact spec_meRelative.mono _ _ _ _ _ _ _
      | exact spec_meTimes.mono _ _ _ _ _ _
      | exact LeO.none _
      | refine LeO.ite ?_ ?_
      | refine LeO.bind ?_ (fun _ => ?_)
set_option maxHeartbeats 8000000 in
set_option maxRecDepth 100000 in
theorem spec_MeetTimes.calls (k : Nat) (a0_0 : Int) (a0_1 : Int) (a0_2 : Int) (a1_0 : Int) (a1_1 : Int) (a1_2 : Int) (r1 : List (S25)) (r2 : Bool) (w : World) (h : spec_MeetTimes.f k a0_0 a0_1 a0_2 a1_0 a1_1 a1_2 = some (r1, r2)) :
    Calls Try.prog 7 #[.agg #[.int .i64 a0_0, .int .i64 a0_1, .int .i64 a0_2], .agg #[.int .i64 a1_0, .int .i64 a1_1, .int .i64 a1_2]] w fun e w' => ∃ v0_ : Value, e = .returned (.tuple #[v0_, .bool r2]) ∧ Kd.R k25 25 w' w.heap.size (fun _ => True) v0_ r1 ∧ Below w.heap.size w w' := by
  have hu27 := Try.underlying27
  have hu25 := Try.underlying25
  have HB := Aside0.mk (Below.refl w.heap.size w)
  have H : ((spec_meAsked.f k a0_0 a0_1 a0_2 a1_0 a1_1 a1_2).bind fun t338 => (if t338 = true then ((spec_meRelative.f k a0_0 a0_1 a0_2 a1_0 a1_1 a1_2).bind fun bt339 => ((spec_meTimes.f k bt339.1 bt339.2.1 bt339.2.2 0 1).bind fun bt342 => (some (bt342.1, bt342.2)))) else (some (([] : List (S25)), false)))) = some (r1, r2) := h
  clear h
  replace H := Option.bind_eq_some_iff.mp H
  obtain ⟨t338, A30, H⟩ := H
  (try dsimp only at H)
  have A3 := Aside0.mk A30
  clear A30
  by_cases c4 : t338 = true
  · subst c4
    rw [if_pos rfl] at H
    replace H := Option.bind_eq_some_iff.mp H
    obtain ⟨⟨t339, t340, t341⟩, A50, H⟩ := H
    (try dsimp only at H)
    have A5 := Aside0.mk A50
    clear A50
    replace H := Option.bind_eq_some_iff.mp H
    obtain ⟨⟨t342, t345⟩, A60, H⟩ := H
    (try dsimp only at H)
    have A6 := Aside0.mk A60
    clear A60
    simp only [Option.some.injEq, Prod.mk.injEq] at H
    obtain ⟨rfl, rfl⟩ := H
    go_enter Try.func7, Try.ntmps7
    go_wp2_with (first | ((with_reducible refine gate_dst (N := 2) rfl ?_); refine be #[.int .i64 a0_0, .int .i64 a0_1, .int .i64 a0_2] 27 ?_; intro gb336 hg w7 hbox hb; have BK336 := Aside0.mk hbox; have GW336 := zs HB hg; have GE336 := zs HB hg; replace HB := zB HB hb; clear hb hbox hg) | ((with_reducible refine gate_dst (N := 3) rfl ?_); refine be #[.int .i64 a1_0, .int .i64 a1_1, .int .i64 a1_2] 27 ?_; intro gb337 hg w8 hbox hb; have BK337 := Aside0.mk hbox; have GW337 := zs HB hg; have GE337 := zs HB hg; have NB336_337 := zn BK336 hg; have NB337_336 := zm BK336 hg; replace BK336 := zb BK336 hb; replace HB := zB HB hb; clear hb hbox hg; have hnb9 := NB336_337.1; have hnc9 := NB337_336.1; obtain ⟨hcz10_0, hcz10_1, hcz10_2, hfz10_0, hfz10_1, hfz10_2⟩ := zc3 BK336; obtain ⟨hcz11_0, hcz11_1, hcz11_2, hfz11_0, hfz11_1, hfz11_2⟩ := zc3 BK337) | ((with_reducible refine gate_callee (f := 26) rfl ?_); refine gl (some 8) Try.func26 #[.agg #[.int .i64 a0_0, .int .i64 a0_1, .int .i64 a0_2], .agg #[.int .i64 a1_0, .int .i64 a1_1, .int .i64 a1_2]] ?_; (with_reducible refine (spec_meAsked.calls k a0_0 a0_1 a0_2 a1_0 a1_1 a1_2 true _ A3.1).mono ?_); rintro e w12 ⟨rfl, hb⟩; refine ⟨_, rfl, ?_⟩; replace BK336 := zb BK336 hb; replace BK337 := zb BK337 hb; replace HB := zB HB hb; clear hb; obtain ⟨hcz13_0, hcz13_1, hcz13_2, hfz13_0, hfz13_1, hfz13_2⟩ := zc3 BK336; obtain ⟨hcz14_0, hcz14_1, hcz14_2, hfz14_0, hfz14_1, hfz14_2⟩ := zc3 BK337) | ((with_reducible refine gate_callee (f := 28) rfl ?_); refine gl (some 12) Try.func28 #[.agg #[.int .i64 a0_0, .int .i64 a0_1, .int .i64 a0_2], .agg #[.int .i64 a1_0, .int .i64 a1_1, .int .i64 a1_2]] ?_; (with_reducible refine (spec_meRelative.calls k a0_0 a0_1 a0_2 a1_0 a1_1 a1_2 t339 t340 t341 _ A5.1).mono ?_); rintro e w15 ⟨rfl, hb⟩; refine ⟨_, rfl, ?_⟩; replace BK336 := zb BK336 hb; replace BK337 := zb BK337 hb; replace HB := zB HB hb; clear hb) | ((with_reducible refine gate_callee (f := 27) rfl ?_); refine gl (some 14) Try.func27 #[.agg #[.int .i64 t339, .int .i64 t340, .int .i64 t341], .agg #[.int .i64 0, .int .i64 1]] ?_; (with_reducible refine (spec_meTimes.calls k t339 t340 t341 0 1 t342 t345 _ A6.1).mono ?_); rintro e w16 ⟨v343, rfl, ho0, hb⟩; refine ⟨_, rfl, ?_⟩; have HO344 := Aside0.mk (Kd.R_lower ho0 (below_size (bq HB))); replace BK336 := zb BK336 hb; replace BK337 := zb BK337 hb; replace HB := zB HB hb; (try clear hb); (try clear hb2); (try clear hk); (try clear hi); (try clear ho0)))
    go_ret2
    exact ⟨_, er, rq HO344, bq HB⟩
  replace c4 := Bool.eq_false_iff.mpr c4
  subst c4
  rw [if_neg (show ¬ (false = true) by decide)] at H
  simp only [Option.some.injEq, Prod.mk.injEq] at H
  obtain ⟨rfl, rfl⟩ := H
  go_enter Try.func7, Try.ntmps7
  go_wp2_with (first | ((with_reducible refine gate_dst (N := 2) rfl ?_); refine be #[.int .i64 a0_0, .int .i64 a0_1, .int .i64 a0_2] 27 ?_; intro gb336 hg w17 hbox hb; have BK336 := Aside0.mk hbox; have GW336 := zs HB hg; have GE336 := zs HB hg; replace HB := zB HB hb; clear hb hbox hg) | ((with_reducible refine gate_dst (N := 3) rfl ?_); refine be #[.int .i64 a1_0, .int .i64 a1_1, .int .i64 a1_2] 27 ?_; intro gb337 hg w18 hbox hb; have BK337 := Aside0.mk hbox; have GW337 := zs HB hg; have GE337 := zs HB hg; have NB336_337 := zn BK336 hg; have NB337_336 := zm BK336 hg; replace BK336 := zb BK336 hb; replace HB := zB HB hb; clear hb hbox hg; have hnb19 := NB336_337.1; have hnc19 := NB337_336.1; obtain ⟨hcz20_0, hcz20_1, hcz20_2, hfz20_0, hfz20_1, hfz20_2⟩ := zc3 BK336; obtain ⟨hcz21_0, hcz21_1, hcz21_2, hfz21_0, hfz21_1, hfz21_2⟩ := zc3 BK337) | ((with_reducible refine gate_callee (f := 26) rfl ?_); refine gl (some 8) Try.func26 #[.agg #[.int .i64 a0_0, .int .i64 a0_1, .int .i64 a0_2], .agg #[.int .i64 a1_0, .int .i64 a1_1, .int .i64 a1_2]] ?_; (with_reducible refine (spec_meAsked.calls k a0_0 a0_1 a0_2 a1_0 a1_1 a1_2 false _ A3.1).mono ?_); rintro e w22 ⟨rfl, hb⟩; refine ⟨_, rfl, ?_⟩; replace BK336 := zb BK336 hb; replace BK337 := zb BK337 hb; replace HB := zB HB hb; clear hb))
  go_ret2
  exact ⟨_, er, by first | exact Kd.R_nil _ _ _ _ _ | exact Kd.N_nil _ _ _ _ _ | exact Kd.V_nil _ _ _ _ _ | exact Kd.Q_nil _ _ _ _ _ | exact Kd.S_nil _ _ _ _ _, bq HB⟩

/-! ### impl_CountMeets: function 8 -/
def impl_CountMeets.f (a0_0 : Int) (a0_1 : Int) (a0_2 : Int) (a1_0 : Int) (a1_1 : Int) (a1_2 : Int) : Option (Int × Bool) := (impl_areHands.f (([(⟨(⟨a0_0, a0_1⟩ : S25), a0_2⟩ : S27), (⟨(⟨a1_0, a1_1⟩ : S25), a1_2⟩ : S27)] : List (S27)))).bind fun t351 => (if t351 = true then (if a0_2 = a1_2 then (some (0, false)) else (some (mx (wrap64 (a0_2 - a1_2)) (wrap64 (a1_2 - a0_2)), true))) else (some (0, false)))
set_option maxHeartbeats 8000000 in
set_option maxRecDepth 100000 in
theorem impl_CountMeets.calls (a0_0 : Int) (a0_1 : Int) (a0_2 : Int) (a1_0 : Int) (a1_1 : Int) (a1_2 : Int) (r1 : Int) (r2 : Bool) (w : World) (h : impl_CountMeets.f a0_0 a0_1 a0_2 a1_0 a1_1 a1_2 = some (r1, r2)) :
    Calls Try.prog 8 #[.agg #[.int .i64 a0_0, .int .i64 a0_1, .int .i64 a0_2], .agg #[.int .i64 a1_0, .int .i64 a1_1, .int .i64 a1_2]] w fun e w' => e = .returned (.tuple #[.int .i64 r1, .bool r2]) ∧ Below w.heap.size w w' := by
  have hu27 := Try.underlying27
  have HB := Aside0.mk (Below.refl w.heap.size w)
  have H : ((impl_areHands.f (([(⟨(⟨a0_0, a0_1⟩ : S25), a0_2⟩ : S27), (⟨(⟨a1_0, a1_1⟩ : S25), a1_2⟩ : S27)] : List (S27)))).bind fun t351 => (if t351 = true then (if a0_2 = a1_2 then (some (0, false)) else (some (mx (wrap64 (a0_2 - a1_2)) (wrap64 (a1_2 - a0_2)), true))) else (some (0, false)))) = some (r1, r2) := h
  clear h
  obtain ⟨y348, hy348⟩ : ∃ y_ : List (S27), y_ = (([(⟨(⟨a0_0, a0_1⟩ : S25), a0_2⟩ : S27), (⟨(⟨a1_0, a1_1⟩ : S25), a1_2⟩ : S27)] : List (S27))) := ⟨_, rfl⟩
  replace H : ((impl_areHands.f y348).bind fun t351 => (if t351 = true then (if a0_2 = a1_2 then (some (0, false)) else (some (mx (wrap64 (a0_2 - a1_2)) (wrap64 (a1_2 - a0_2)), true))) else (some (0, false)))) = some (r1, r2) := by first | (rw [hy348]; with_reducible exact H) | (have H2_ := (Option.bind_some _ _).symm.trans H; rw [hy348]; with_reducible exact H2_) | (have H2_ := (Option.bind_some _ _).symm.trans H; with_reducible exact H2_) | with_reducible exact H | (rw [hy348]; exact H) | exact H
  have Ny348 := Aside0.mk hy348
  clear hy348
  replace H := Option.bind_eq_some_iff.mp H
  obtain ⟨t351, A30, H⟩ := H
  (try dsimp only at H)
  have A3 := Aside0.mk A30
  clear A30
  by_cases c4 : t351 = true
  · subst c4
    rw [if_pos rfl] at H
    by_cases c5 : a0_2 = a1_2
    · rw [if_pos c5] at H
      have c5b0 : (a0_2 == a1_2) = true := beq_iff_eq.mpr c5
      have c5b1 : (a0_2 != a1_2) = false := bne_eq_false_iff_eq.mpr c5
      clear c5
      simp only [Option.some.injEq, Prod.mk.injEq] at H
      obtain ⟨rfl, rfl⟩ := H
      go_enter Try.func8, Try.ntmps8
      go_wp2_with (first | ((with_reducible refine gate_dst (N := 2) rfl ?_); refine be #[.int .i64 a0_0, .int .i64 a0_1, .int .i64 a0_2] 27 ?_; intro gb346 hg w6 hbox hb; have BK346 := Aside0.mk hbox; have GW346 := zs HB hg; have GE346 := zs HB hg; replace HB := zB HB hb; clear hb hbox hg) | ((with_reducible refine gate_dst (N := 3) rfl ?_); refine be #[.int .i64 a1_0, .int .i64 a1_1, .int .i64 a1_2] 27 ?_; intro gb347 hg w7 hbox hb; have BK347 := Aside0.mk hbox; have GW347 := zs HB hg; have GE347 := zs HB hg; have NB346_347 := zn BK346 hg; have NB347_346 := zm BK346 hg; replace BK346 := zb BK346 hb; replace HB := zB HB hb; clear hb hbox hg; have hnb8 := NB346_347.1; have hnc8 := NB347_346.1; obtain ⟨hcz9_0, hcz9_1, hcz9_2, hfz9_0, hfz9_1, hfz9_2⟩ := zc3 BK346; obtain ⟨hcz10_0, hcz10_1, hcz10_2, hfz10_0, hfz10_1, hfz10_2⟩ := zc3 BK347) | ((with_reducible refine gate_dst (N := 8) rfl ?_); refine Kd.R_lit k27 _ 27 ?hg (N := 8) ?hd (xs := ([(⟨(⟨a0_0, a0_1⟩ : S25), a0_2⟩ : S27), (⟨(⟨a1_0, a1_1⟩ : S25), a1_2⟩ : S27)] : List (S27))) (inner := [.int .i64 a0_0, .int .i64 a0_1, .int .i64 a0_2, .int .i64 a1_0, .int .i64 a1_1, .int .i64 a1_2]) (ok := fun _ => True) (okp := fun _ => True) ?hr ?hp (fun _ hk => hk) trivial (Below.refl _ _) (Nat.le_refl _) (by simp) ?_; (case hd => rfl); (case hg => rfl); (case hr => first | (go_simp; done) | (go_simp; rfl)); (case hp => exact (Reps.c3 (show Kd.M k27 _ _ _ (⟨(⟨a0_0, a0_1⟩ : S25), a0_2⟩ : S27) [.int .i64 a0_0, .int .i64 a0_1, .int .i64 a0_2] from (k27_mkM _ _ _ (⟨(⟨a0_0, a0_1⟩ : S25), a0_2⟩ : S27) )) (Reps.c3 (show Kd.M k27 _ _ _ (⟨(⟨a1_0, a1_1⟩ : S25), a1_2⟩ : S27) [.int .i64 a1_0, .int .i64 a1_1, .int .i64 a1_2] from (k27_mkM _ _ _ (⟨(⟨a1_0, a1_1⟩ : S25), a1_2⟩ : S27) )) (Reps.none _ _)))); intro v349 w11 ho12 hb hg_ hnew_; clear hg_ hnew_; (first | rw [← Ny348.1] at ho12 | (simp only [Int.reduceToNat] at ho12; rw [← Ny348.1] at ho12)); have HO350 := Aside0.mk (Kd.R_lower (Kd.R_newB (Kd.R_newB ho12 (g := gb346) (o := .cells #[.int .i64 a0_0, .int .i64 a0_1, .int .i64 a0_2] 27 (0, 0)) (bk BK346)) (g := gb347) (o := .cells #[.int .i64 a1_0, .int .i64 a1_1, .int .i64 a1_2] 27 (0, 0)) (bk BK347)) (below_size (bq HB))); replace BK346 := zb BK346 hb; replace BK347 := zb BK347 hb; replace HB := zB HB hb; clear hb ho12; obtain ⟨Ao13, co13, eo13⟩ := Kd.R_slice HO350.1; subst eo13) | ((with_reducible refine gate_callee (f := 29) rfl ?_); refine gl (some 9) Try.func29 #[.slice Ao13 y348.length co13] ?_; (with_reducible refine (impl_areHands.calls _ _ y348 true _ ?side1 ?side2 A3.1).mono ?_); (case side1 => repeat (first | exact (Kd.R_reads' HO350.1).2.2 | (with_reducible refine Kd.C_alloc ?_ _) | (with_reducible refine Kd.C_drewN ?_ _) | (with_reducible refine Kd.C_drew ?_))); (case side2 => exact (Kd.R_reads' HO350.1).2.1); rintro e w14 ⟨rfl, hb⟩; refine ⟨_, rfl, ?_⟩; replace HO350 := rB HO350 hb; replace BK346 := zb BK346 hb; replace BK347 := zb BK347 hb; replace HB := zB HB hb; clear hb; obtain ⟨hcz15_0, hcz15_1, hcz15_2, hfz15_0, hfz15_1, hfz15_2⟩ := zc3 BK346; obtain ⟨hcz16_0, hcz16_1, hcz16_2, hfz16_0, hfz16_1, hfz16_2⟩ := zc3 BK347))
      go_ret2
      exact ⟨er, bq HB⟩
    rw [if_neg c5] at H
    have c5b0 : (a0_2 == a1_2) = false := beq_eq_false_iff_ne.mpr c5
    have c5b1 : (a0_2 != a1_2) = true := bne_iff_ne.mpr c5
    obtain ⟨ji17, hji17⟩ : ∃ j_ : Int, (mx (wrap64 (a0_2 - a1_2)) (wrap64 (a1_2 - a0_2))) = j_ := ⟨_, rfl⟩
    replace H : (some (ji17, true)) = some (r1, r2) := by first | (rw [hji17] at H; exact H) | (simp only [hji17] at H ⊢; exact H)
    (try rw [hji17] at A3)
    have hji17_ : (if (wrap64 (a0_2 - a1_2)) < (wrap64 (a1_2 - a0_2)) then (wrap64 (a1_2 - a0_2)) else (wrap64 (a0_2 - a1_2))) = ji17 := hji17
    simp only [Option.some.injEq, Prod.mk.injEq] at H
    obtain ⟨rfl, rfl⟩ := H
    go_enter Try.func8, Try.ntmps8
    go_wp2_with (first | ((with_reducible refine gate_dst (N := 2) rfl ?_); refine be #[.int .i64 a0_0, .int .i64 a0_1, .int .i64 a0_2] 27 ?_; intro gb346 hg w18 hbox hb; have BK346 := Aside0.mk hbox; have GW346 := zs HB hg; have GE346 := zs HB hg; replace HB := zB HB hb; clear hb hbox hg) | ((with_reducible refine gate_dst (N := 3) rfl ?_); refine be #[.int .i64 a1_0, .int .i64 a1_1, .int .i64 a1_2] 27 ?_; intro gb347 hg w19 hbox hb; have BK347 := Aside0.mk hbox; have GW347 := zs HB hg; have GE347 := zs HB hg; have NB346_347 := zn BK346 hg; have NB347_346 := zm BK346 hg; replace BK346 := zb BK346 hb; replace HB := zB HB hb; clear hb hbox hg; have hnb20 := NB346_347.1; have hnc20 := NB347_346.1; obtain ⟨hcz21_0, hcz21_1, hcz21_2, hfz21_0, hfz21_1, hfz21_2⟩ := zc3 BK346; obtain ⟨hcz22_0, hcz22_1, hcz22_2, hfz22_0, hfz22_1, hfz22_2⟩ := zc3 BK347) | ((with_reducible refine gate_dst (N := 8) rfl ?_); refine Kd.R_lit k27 _ 27 ?hg (N := 8) ?hd (xs := ([(⟨(⟨a0_0, a0_1⟩ : S25), a0_2⟩ : S27), (⟨(⟨a1_0, a1_1⟩ : S25), a1_2⟩ : S27)] : List (S27))) (inner := [.int .i64 a0_0, .int .i64 a0_1, .int .i64 a0_2, .int .i64 a1_0, .int .i64 a1_1, .int .i64 a1_2]) (ok := fun _ => True) (okp := fun _ => True) ?hr ?hp (fun _ hk => hk) trivial (Below.refl _ _) (Nat.le_refl _) (by simp) ?_; (case hd => rfl); (case hg => rfl); (case hr => first | (go_simp; done) | (go_simp; rfl)); (case hp => exact (Reps.c3 (show Kd.M k27 _ _ _ (⟨(⟨a0_0, a0_1⟩ : S25), a0_2⟩ : S27) [.int .i64 a0_0, .int .i64 a0_1, .int .i64 a0_2] from (k27_mkM _ _ _ (⟨(⟨a0_0, a0_1⟩ : S25), a0_2⟩ : S27) )) (Reps.c3 (show Kd.M k27 _ _ _ (⟨(⟨a1_0, a1_1⟩ : S25), a1_2⟩ : S27) [.int .i64 a1_0, .int .i64 a1_1, .int .i64 a1_2] from (k27_mkM _ _ _ (⟨(⟨a1_0, a1_1⟩ : S25), a1_2⟩ : S27) )) (Reps.none _ _)))); intro v349 w23 ho24 hb hg_ hnew_; clear hg_ hnew_; (first | rw [← Ny348.1] at ho24 | (simp only [Int.reduceToNat] at ho24; rw [← Ny348.1] at ho24)); have HO350 := Aside0.mk (Kd.R_lower (Kd.R_newB (Kd.R_newB ho24 (g := gb346) (o := .cells #[.int .i64 a0_0, .int .i64 a0_1, .int .i64 a0_2] 27 (0, 0)) (bk BK346)) (g := gb347) (o := .cells #[.int .i64 a1_0, .int .i64 a1_1, .int .i64 a1_2] 27 (0, 0)) (bk BK347)) (below_size (bq HB))); replace BK346 := zb BK346 hb; replace BK347 := zb BK347 hb; replace HB := zB HB hb; clear hb ho24; obtain ⟨Ao25, co25, eo25⟩ := Kd.R_slice HO350.1; subst eo25) | ((with_reducible refine gate_callee (f := 29) rfl ?_); refine gl (some 9) Try.func29 #[.slice Ao25 y348.length co25] ?_; (with_reducible refine (impl_areHands.calls _ _ y348 true _ ?side1 ?side2 A3.1).mono ?_); (case side1 => repeat (first | exact (Kd.R_reads' HO350.1).2.2 | (with_reducible refine Kd.C_alloc ?_ _) | (with_reducible refine Kd.C_drewN ?_ _) | (with_reducible refine Kd.C_drew ?_))); (case side2 => exact (Kd.R_reads' HO350.1).2.1); rintro e w26 ⟨rfl, hb⟩; refine ⟨_, rfl, ?_⟩; replace HO350 := rB HO350 hb; replace BK346 := zb BK346 hb; replace BK347 := zb BK347 hb; replace HB := zB HB hb; clear hb; obtain ⟨hcz27_0, hcz27_1, hcz27_2, hfz27_0, hfz27_1, hfz27_2⟩ := zc3 BK346; obtain ⟨hcz28_0, hcz28_1, hcz28_2, hfz28_0, hfz28_1, hfz28_2⟩ := zc3 BK347))
    go_ret2
    exact ⟨by first | rfl | (simp [errW_none, errW_some] <;> rfl) | (simp only [← hji17]; first | rfl | (simp [errW_none, errW_some] <;> rfl)) | (simp [*, errW_none, errW_some] <;> rfl), bq HB⟩
  replace c4 := Bool.eq_false_iff.mpr c4
  subst c4
  rw [if_neg (show ¬ (false = true) by decide)] at H
  simp only [Option.some.injEq, Prod.mk.injEq] at H
  obtain ⟨rfl, rfl⟩ := H
  go_enter Try.func8, Try.ntmps8
  go_wp2_with (first | ((with_reducible refine gate_dst (N := 2) rfl ?_); refine be #[.int .i64 a0_0, .int .i64 a0_1, .int .i64 a0_2] 27 ?_; intro gb346 hg w29 hbox hb; have BK346 := Aside0.mk hbox; have GW346 := zs HB hg; have GE346 := zs HB hg; replace HB := zB HB hb; clear hb hbox hg) | ((with_reducible refine gate_dst (N := 3) rfl ?_); refine be #[.int .i64 a1_0, .int .i64 a1_1, .int .i64 a1_2] 27 ?_; intro gb347 hg w30 hbox hb; have BK347 := Aside0.mk hbox; have GW347 := zs HB hg; have GE347 := zs HB hg; have NB346_347 := zn BK346 hg; have NB347_346 := zm BK346 hg; replace BK346 := zb BK346 hb; replace HB := zB HB hb; clear hb hbox hg; have hnb31 := NB346_347.1; have hnc31 := NB347_346.1; obtain ⟨hcz32_0, hcz32_1, hcz32_2, hfz32_0, hfz32_1, hfz32_2⟩ := zc3 BK346; obtain ⟨hcz33_0, hcz33_1, hcz33_2, hfz33_0, hfz33_1, hfz33_2⟩ := zc3 BK347) | ((with_reducible refine gate_dst (N := 8) rfl ?_); refine Kd.R_lit k27 _ 27 ?hg (N := 8) ?hd (xs := ([(⟨(⟨a0_0, a0_1⟩ : S25), a0_2⟩ : S27), (⟨(⟨a1_0, a1_1⟩ : S25), a1_2⟩ : S27)] : List (S27))) (inner := [.int .i64 a0_0, .int .i64 a0_1, .int .i64 a0_2, .int .i64 a1_0, .int .i64 a1_1, .int .i64 a1_2]) (ok := fun _ => True) (okp := fun _ => True) ?hr ?hp (fun _ hk => hk) trivial (Below.refl _ _) (Nat.le_refl _) (by simp) ?_; (case hd => rfl); (case hg => rfl); (case hr => first | (go_simp; done) | (go_simp; rfl)); (case hp => exact (Reps.c3 (show Kd.M k27 _ _ _ (⟨(⟨a0_0, a0_1⟩ : S25), a0_2⟩ : S27) [.int .i64 a0_0, .int .i64 a0_1, .int .i64 a0_2] from (k27_mkM _ _ _ (⟨(⟨a0_0, a0_1⟩ : S25), a0_2⟩ : S27) )) (Reps.c3 (show Kd.M k27 _ _ _ (⟨(⟨a1_0, a1_1⟩ : S25), a1_2⟩ : S27) [.int .i64 a1_0, .int .i64 a1_1, .int .i64 a1_2] from (k27_mkM _ _ _ (⟨(⟨a1_0, a1_1⟩ : S25), a1_2⟩ : S27) )) (Reps.none _ _)))); intro v349 w34 ho35 hb hg_ hnew_; clear hg_ hnew_; (first | rw [← Ny348.1] at ho35 | (simp only [Int.reduceToNat] at ho35; rw [← Ny348.1] at ho35)); have HO350 := Aside0.mk (Kd.R_lower (Kd.R_newB (Kd.R_newB ho35 (g := gb346) (o := .cells #[.int .i64 a0_0, .int .i64 a0_1, .int .i64 a0_2] 27 (0, 0)) (bk BK346)) (g := gb347) (o := .cells #[.int .i64 a1_0, .int .i64 a1_1, .int .i64 a1_2] 27 (0, 0)) (bk BK347)) (below_size (bq HB))); replace BK346 := zb BK346 hb; replace BK347 := zb BK347 hb; replace HB := zB HB hb; clear hb ho35; obtain ⟨Ao36, co36, eo36⟩ := Kd.R_slice HO350.1; subst eo36) | ((with_reducible refine gate_callee (f := 29) rfl ?_); refine gl (some 9) Try.func29 #[.slice Ao36 y348.length co36] ?_; (with_reducible refine (impl_areHands.calls _ _ y348 false _ ?side1 ?side2 A3.1).mono ?_); (case side1 => repeat (first | exact (Kd.R_reads' HO350.1).2.2 | (with_reducible refine Kd.C_alloc ?_ _) | (with_reducible refine Kd.C_drewN ?_ _) | (with_reducible refine Kd.C_drew ?_))); (case side2 => exact (Kd.R_reads' HO350.1).2.1); rintro e w37 ⟨rfl, hb⟩; refine ⟨_, rfl, ?_⟩; replace HO350 := rB HO350 hb; replace BK346 := zb BK346 hb; replace BK347 := zb BK347 hb; replace HB := zB HB hb; clear hb))
  go_ret2
  exact ⟨er, bq HB⟩

end Go.Proofs.Ytoneipoioiokcaa.PFnHandsMeet
