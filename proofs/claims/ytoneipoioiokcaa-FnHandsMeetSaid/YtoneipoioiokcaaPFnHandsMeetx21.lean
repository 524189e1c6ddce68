/- A part of the walk of FnHandsMeet: which Lean function each Go function comes to, and that the machine's call does so. Written by a program of this repo (wip/gen/xprint.py). -/
import Derived.Test.YtoneipoioiokcaaPFnHandsMeetx0
import Derived.Test.YtoneipoioiokcaaPFnHandsMeetx10
import Derived.Test.YtoneipoioiokcaaPFnHandsMeetx12
import Derived.Test.YtoneipoioiokcaaPFnHandsMeetx15
namespace Go.Proofs.Ytoneipoioiokcaa.PFnHandsMeet
open Go.RowKit Go.Proofs.YtoneipoioiokcaaW.PrintWords Go.Proofs.YtoneipoioiokcaaW.PrintLast Go.Proofs.YtoneipoioiokcaaW.PrintMore
attribute [local go_sem] max2_int min2_int max_two min_two max_three min_three max_four min_four   -- for this text's walks alone
set_option linter.unusedVariables false
set_option linter.unusedSimpArgs false

/-! ### spec_NextMeet: function 23 -/
mutual
def spec_NextMeet.j0 : Nat → List (S25) → Bool → Int → Int → Option (Int × Int × Bool)
  | 0, _, _, _, _ => none
  | k + 1, x8, x24, x506000, x506001 => if x24 = true then (some (0, 0, false)) else (spec_NextMeet.l0 k x8 x8 (x8.length : Int) 0 x506000 x506001)
def spec_NextMeet.l0 : Nat → List (S25) → List (S25) → Int → Int → Int → Int → Option (Int × Int × Bool)
  | 0, _, _, _, _, _, _ => none
  | k + 1, x8, x26, x27, x28, x506000, x506001 => if x28 < x27 then (if 0 ≤ x28 then (if x28 < (x26.length : Int) then ((spec_diCompare.f ((rd_T25 x26 x28).f0) ((rd_T25 x26 x28).f1) x506000 x506001).bind fun t514 => (if t514 > 0 then (some ((rd_T25 x26 x28).f0, (rd_T25 x26 x28).f1, true)) else (spec_NextMeet.l0 k x8 x26 x27 (wrap64 (x28 + 1)) x506000 x506001))) else (none)) else (none)) else (if 0 < (x8.length : Int) then (some ((rd_T25 x8 0).f0, (rd_T25 x8 0).f1, true)) else (none))
end
def spec_NextMeet.f (k : Nat) (a0_0 : Int) (a0_1 : Int) (a0_2 : Int) (a1_0 : Int) (a1_1 : Int) (a1_2 : Int) (a2_0 : Int) (a2_1 : Int) : Option (Int × Int × Bool) := (spec_MeetTimes.f k a0_0 a0_1 a0_2 a1_0 a1_1 a1_2).bind fun bt507 => (if bt507.2 = true then ((spec_diGood.f k a2_0 a2_1).bind fun t511 => (spec_NextMeet.j0 k bt507.1 (!t511) a2_0 a2_1)) else (spec_NextMeet.j0 k bt507.1 true a2_0 a2_1))
theorem spec_NextMeet.mono_l : ∀ k, (∀ y0 y1 y2 y3, LeO (spec_NextMeet.j0 k y0 y1 y2 y3) (spec_NextMeet.j0 (k + 1) y0 y1 y2 y3)) ∧ (∀ y0 y1 y2 y3 y4 y5, LeO (spec_NextMeet.l0 k y0 y1 y2 y3 y4 y5) (spec_NextMeet.l0 (k + 1) y0 y1 y2 y3 y4 y5))
  | 0 => ⟨fun _ _ _ _ r h => by simp [spec_NextMeet.j0] at h, fun _ _ _ _ _ _ r h => by simp [spec_NextMeet.l0] at h⟩
  | k + 1 => by
    obtain ⟨ih0, ih1⟩ := spec_NextMeet.mono_l k
    refine ⟨?_, ?_⟩
    · intro y0 y1 y2 y3
      unfold spec_NextMeet.j0
      repeat' first
      | (with_reducible exact ih0 _ _ _ _)
      | (with_reducible exact ih1 _ _ _ _ _ _)
      | (with_reducible exact spec_MeetTimes.mono _ _ _ _ _ _ _)
      | (with_reducible exact spec_diGood.mono _ _ _)
      | (with_reducible exact LeO.refl _)
      | (with_reducible exact LeO.none _)
      | (with_reducible refine LeO.ite ?_ ?_)
      | (with_reducible refine LeO.bind ?_ (fun _ => ?_))
      | exact ih0 _ _ _ _
      | exact ih1 _ _ _ _ _ _
      | exact spec_MeetTimes.mono _ _ _ _ _ _ _
      | exact spec_diGood.mono _ _ _
      | exact LeO.none _
      | refine LeO.ite ?_ ?_
      | refine LeO.bind ?_ (fun _ => ?_)
    intro y0 y1 y2 y3 y4 y5
    unfold spec_NextMeet.l0
    repeat' first
    | (with_reducible exact ih0 _ _ _ _)
    | (with_reducible exact ih1 _ _ _ _ _ _)
    | (with_reducible exact spec_MeetTimes.mono _ _ _ _ _ _ _)
    | (with_reducible exact spec_diGood.mono _ _ _)
    | (with_reducible exact LeO.refl _)
    | (with_reducible exact LeO.none _)
    | (with_reducible refine LeO.ite ?_ ?_)
    | (with_reducible refine LeO.bind ?_ (fun _ => ?_))
    | exact ih0 _ _ _ _
    | exact ih1 _ _ _ _ _ _
    | exact spec_MeetTimes.mono _ _ _ _ _ _ _
    | exact spec_diGood.mono _ _ _
    | exact LeO.none _
    | refine LeO.ite ?_ ?_
    | refine LeO.bind ?_ (fun _ => ?_)
theorem spec_NextMeet.mono : ∀ a0 a1 a2 a3 a4 a5 a6 a7 k, LeO (spec_NextMeet.f k a0 a1 a2 a3 a4 a5 a6 a7) (spec_NextMeet.f (k + 1) a0 a1 a2 a3 a4 a5 a6 a7) := by
  intro a0 a1 a2 a3 a4 a5 a6 a7 k
  obtain ⟨ih0, ih1⟩ := spec_NextMeet.mono_l k
  unfold spec_NextMeet.f
  repeat' first
      | (with_reducible exact ih0 _ _ _ _)
      | (with_reducible exact ih1 _ _ _ _ _ _)
      | (with_reducible exact spec_MeetTimes.mono _ _ _ _ _ _ _)
      | (with_reducible exact spec_diGood.mono _ _ _)
      | (with_reducible exact LeO.refl _)
      | (with_reducible exact LeO.none _)
      | (with_reducible refine LeO.ite ?_ ?_)
      | (with_reducible refine LeO.bind ?_ (fun _ => ?_))
      | exact ih0 _ _ _ _
      | exact ih1 _ _ _ _ _ _
      | exact spec_MeetTimes.mono _ _ _ _ _ _ _
      | exact spec_diGood.mono _ _ _
      | exact LeO.none _
      | refine LeO.ite ?_ ?_
      | refine LeO.bind ?_ (fun _ => ?_)
set_option maxHeartbeats 8000000 in
set_option maxRecDepth 100000 in
theorem spec_NextMeet.calls (k : Nat) (a0_0 : Int) (a0_1 : Int) (a0_2 : Int) (a1_0 : Int) (a1_1 : Int) (a1_2 : Int) (a2_0 : Int) (a2_1 : Int) (r1 : Int) (r2 : Int) (r3 : Bool) (w : World) (h : spec_NextMeet.f k a0_0 a0_1 a0_2 a1_0 a1_1 a1_2 a2_0 a2_1 = some (r1, r2, r3)) :
    Calls Try.prog 23 #[.agg #[.int .i64 a0_0, .int .i64 a0_1, .int .i64 a0_2], .agg #[.int .i64 a1_0, .int .i64 a1_1, .int .i64 a1_2], .agg #[.int .i64 a2_0, .int .i64 a2_1]] w fun e w' => e = .returned (.tuple #[.agg #[.int .i64 r1, .int .i64 r2], .bool r3]) ∧ Below w.heap.size w w' := by
  have hu27 := Try.underlying27
  have hu25 := Try.underlying25
  have HB := Aside0.mk (Below.refl w.heap.size w)
  have H : ((spec_MeetTimes.f k a0_0 a0_1 a0_2 a1_0 a1_1 a1_2).bind fun bt507 => (if bt507.2 = true then ((spec_diGood.f k a2_0 a2_1).bind fun t511 => (spec_NextMeet.j0 k bt507.1 (!t511) a2_0 a2_1)) else (spec_NextMeet.j0 k bt507.1 true a2_0 a2_1))) = some (r1, r2, r3) := h
  clear h
  replace H := Option.bind_eq_some_iff.mp H
  obtain ⟨⟨t507, t510⟩, A40, H⟩ := H
  (try dsimp only at H)
  have A4 := Aside0.mk A40
  clear A40
  have HC5 := Aside0.mk H
  clear H
  go_enter Try.func23, Try.ntmps23
  go_upto_region 2 with (first | ((with_reducible refine gate_dst (N := 3) rfl ?_); refine be #[.int .i64 a0_0, .int .i64 a0_1, .int .i64 a0_2] 27 ?_; intro gb503 hg w6 hbox hb; have BK503 := Aside0.mk hbox; have GW503 := zs HB hg; have GE503 := zs HB hg; replace HB := zB HB hb; clear hb hbox hg) | ((with_reducible refine gate_dst (N := 4) rfl ?_); refine be #[.int .i64 a1_0, .int .i64 a1_1, .int .i64 a1_2] 27 ?_; intro gb504 hg w7 hbox hb; have BK504 := Aside0.mk hbox; have GW504 := zs HB hg; have GE504 := zs HB hg; have NB503_504 := zn BK503 hg; have NB504_503 := zm BK503 hg; replace BK503 := zb BK503 hb; replace HB := zB HB hb; clear hb hbox hg) | ((with_reducible refine gate_dst (N := 5) rfl ?_); refine be #[.int .i64 a2_0, .int .i64 a2_1] 25 ?_; intro gb505 hg w8 hbox hb; have BK505 := Aside0.mk hbox; have GW505 := zs HB hg; have GE505 := zs HB hg; have NB503_505 := zn BK503 hg; have NB505_503 := zm BK503 hg; have NB504_505 := zn BK504 hg; have NB505_504 := zm BK504 hg; replace BK503 := zb BK503 hb; replace BK504 := zb BK504 hb; replace HB := zB HB hb; clear hb hbox hg) | ((with_reducible refine gate_dst (N := 6) rfl ?_); refine be #[.int .i64 0, .int .i64 0] 25 ?_; intro gb506 hg w9 hbox hb; have BK506 := Aside0.mk hbox; have GW506 := zs HB hg; have GE506 := zs HB hg; have NB503_506 := zn BK503 hg; have NB506_503 := zm BK503 hg; have NB504_506 := zn BK504 hg; have NB506_504 := zm BK504 hg; have NB505_506 := zn BK505 hg; have NB506_505 := zm BK505 hg; replace BK503 := zb BK503 hb; replace BK504 := zb BK504 hb; replace BK505 := zb BK505 hb; replace HB := zB HB hb; clear hb hbox hg; have hnb10 := NB503_504.1; have hnc10 := NB504_503.1; have hnb11 := NB503_505.1; have hnc11 := NB505_503.1; have hnb12 := NB503_506.1; have hnc12 := NB506_503.1; obtain ⟨hcz13_0, hcz13_1, hcz13_2, hfz13_0, hfz13_1, hfz13_2⟩ := zc3 BK503; have hnb14 := NB504_505.1; have hnc14 := NB505_504.1; have hnb15 := NB504_506.1; have hnc15 := NB506_504.1; obtain ⟨hcz16_0, hcz16_1, hcz16_2, hfz16_0, hfz16_1, hfz16_2⟩ := zc3 BK504) | ((with_reducible refine gate_callee (f := 7) rfl ?_); refine gl (some 15) Try.func7 #[.agg #[.int .i64 a0_0, .int .i64 a0_1, .int .i64 a0_2], .agg #[.int .i64 a1_0, .int .i64 a1_1, .int .i64 a1_2]] ?_; (with_reducible refine (spec_MeetTimes.calls k a0_0 a0_1 a0_2 a1_0 a1_1 a1_2 t507 t510 _ A4.1).mono ?_); rintro e w17 ⟨v508, rfl, ho0, hb⟩; refine ⟨_, rfl, ?_⟩; have HO509 := Aside0.mk (Kd.R_lower (Kd.R_newB (Kd.R_newB ho0 (g := gb505) (o := .cells #[.int .i64 a2_0, .int .i64 a2_1] 25 (0, 0)) (bk BK505)) (g := gb506) (o := .cells #[.int .i64 0, .int .i64 0] 25 (0, 0)) (bk BK506)) (below_size (bq HB))); replace BK503 := zb BK503 hb; replace BK504 := zb BK504 hb; replace BK505 := zb BK505 hb; replace BK506 := zb BK506 hb; replace HB := zB HB hb; (try clear hb); (try clear hb2); (try clear hk); (try clear hi); (try clear ho0)))
  (try simp only [Act.put, List.setIfInBounds_toArray, List.set_cons_zero, List.set_cons_succ])
  go_cut [24] (fun v24 wc => ∃ (kq : Nat) (x24_4 : Bool), v24 = .bool x24_4 ∧ Aside0 (spec_NextMeet.j0 kq t507 x24_4 a2_0 a2_1 = some (r1, r2, r3)) ∧ Aside0 (kq ≤ k) ∧ Aside0 (Kd.R k25 25 wc w.heap.size (fun k_ => k_ ≠ gb505 ∧ k_ ≠ gb506) v508 t507) ∧ Aside0 (wc.heap[gb503]? = some (.cells #[.int .i64 a0_0, .int .i64 a0_1, .int .i64 a0_2] 27 (0, 0))) ∧ Aside0 (wc.heap[gb504]? = some (.cells #[.int .i64 a1_0, .int .i64 a1_1, .int .i64 a1_2] 27 (0, 0))) ∧ Aside0 (wc.heap[gb505]? = some (.cells #[.int .i64 a2_0, .int .i64 a2_1] 25 (0, 0))) ∧ Aside0 (wc.heap[gb506]? = some (.cells #[.int .i64 0, .int .i64 0] 25 (0, 0))) ∧ Aside0 (Below w.heap.size w wc))
  case first =>
    have H := HC5.1
    clear HC5
    by_cases c18 : t510 = true
    · subst c18
      rw [if_pos rfl] at H
      replace H := Option.bind_eq_some_iff.mp H
      obtain ⟨t511, A190, H⟩ := H
      (try dsimp only at H)
      have A19 := Aside0.mk A190
      clear A190
      have H' := Aside0.mk H
      clear H
      have hnb20 := NB505_503.1
      have hnc20 := NB503_505.1
      have hnb21 := NB505_504.1
      have hnc21 := NB504_505.1
      have hnb22 := NB505_506.1
      have hnc22 := NB506_505.1
      obtain ⟨hcz23_0, hcz23_1, hfz23_0, hfz23_1⟩ := zc2 BK505
      go_wp2_with (first | (go_at_call 48; (with_reducible refine (spec_diGood.calls k a2_0 a2_1 t511 _ A19.1).mono ?_); rintro e w24 ⟨rfl, hb⟩; replace HO509 := rB HO509 hb; replace BK503 := zb BK503 hb; replace BK504 := zb BK504 hb; replace BK505 := zb BK505 hb; replace BK506 := zb BK506 hb; replace HB := zB HB hb; clear hb))
      go_meet
      case rel => exact ⟨_, (!t511), ew, H', le_, ⟨by (with_reducible repeat (first | apply Kd.R_alloc | apply Kd.R_drewN | apply Kd.R_drew)); exact Kd.R_mono HO509.1 (fun _ hk => ⟨hk.1.2, hk.2⟩)⟩, ⟨bk BK503⟩, ⟨bk BK504⟩, ⟨bk BK505⟩, ⟨bk BK506⟩, ⟨bq HB⟩⟩
    replace c18 := Bool.eq_false_iff.mpr c18
    subst c18
    rw [if_neg (show ¬ (false = true) by decide)] at H
    have H' := Aside0.mk H
    clear H
    go_wp2
    go_meet
    case rel => exact ⟨_, (true), ew, H', le_, ⟨by (with_reducible repeat (first | apply Kd.R_alloc | apply Kd.R_drewN | apply Kd.R_drew)); exact Kd.R_mono HO509.1 (fun _ hk => ⟨hk.1.2, hk.2⟩)⟩, ⟨bk BK503⟩, ⟨bk BK504⟩, ⟨bk BK505⟩, ⟨bk BK506⟩, ⟨bq HB⟩⟩
  clear HC5
  try clear hcz13_0
  try clear hcz13_1
  try clear hcz13_2
  try clear hcz16_0
  try clear hcz16_1
  try clear hcz16_2
  try clear hfz13_0
  try clear hfz13_1
  try clear hfz13_2
  try clear hfz16_0
  try clear hfz16_1
  try clear hfz16_2
  obtain ⟨kq, x24_4, rfl, HA, HJ4, HO_8, BK503, BK504, BK505, BK506, HB⟩ := hcut
  cases kq with
  | zero => exact absurd HA.1 (by simp [spec_NextMeet.j0])
  | succ kj4 =>
    have H := HA.1
    clear HA
    simp only [spec_NextMeet.j0] at H
    by_cases c25 : x24_4 = true
    · subst c25
      rw [if_pos rfl] at H
      simp only [Option.some.injEq, Prod.mk.injEq] at H
      obtain ⟨rfl, rfl, rfl⟩ := H
      have hnb26 := NB506_503.1
      have hnc26 := NB503_506.1
      have hnb27 := NB506_504.1
      have hnc27 := NB504_506.1
      have hnb28 := NB506_505.1
      have hnc28 := NB505_506.1
      obtain ⟨hcz29_0, hcz29_1, hfz29_0, hfz29_1⟩ := zc2 BK506
      go_wp2
      refine bodyPost_ret (results_ct rfl _ _ gb506 25 #[.int .i64 0, .int .i64 0] (0, 0) _ rfl (bk BK506) Try.underlying25 rfl (by kernel_rfl)) rfl ?_
      exact ⟨er, bq HB⟩
    replace c25 := Bool.eq_false_iff.mpr c25
    subst c25
    rw [if_neg (show ¬ (false = true) by decide)] at H
    have H' := Aside0.mk H
    clear H
    obtain ⟨Ao30, co30, eo30⟩ := Kd.R_slice HO_8.1
    subst eo30
    go_wp2
    go_loopg [28] kj4 (fun kq v28 w' => ∃ (x28_2 : Int) (x507000_2 : Int) (x507001_2 : Int), v28 = .int .i64 x28_2 ∧ Aside0 (spec_NextMeet.l0 kq t507 t507 (t507.length : Int) x28_2 a2_0 a2_1 = some (r1, r2, r3)) ∧ Aside0 (kq ≤ kj4) ∧ Aside0 (Kd.R k25 25 w' w.heap.size (fun k_ => k_ ≠ gb505 ∧ k_ ≠ gb506) (.slice Ao30 t507.length co30) t507) ∧ Aside0 (Kd.R k25 25 w' w.heap.size (fun k_ => k_ ≠ gb505 ∧ k_ ≠ gb506) (.slice Ao30 t507.length co30) t507) ∧ Aside0 (w'.heap[gb503]? = some (.cells #[.int .i64 a0_0, .int .i64 a0_1, .int .i64 a0_2] 27 (0, 0))) ∧ Aside0 (w'.heap[gb504]? = some (.cells #[.int .i64 a1_0, .int .i64 a1_1, .int .i64 a1_2] 27 (0, 0))) ∧ Aside0 (w'.heap[gb505]? = some (.cells #[.int .i64 a2_0, .int .i64 a2_1] 25 (0, 0))) ∧ Aside0 (w'.heap[gb506]? = some (.cells #[.int .i64 x507000_2, .int .i64 x507001_2] 25 (0, 0))) ∧ Aside0 (Below w.heap.size w w'))
    case atStart => exact ⟨(0), (0), (0), ew, H', ⟨Nat.le_refl _⟩, ⟨rq HO_8⟩, ⟨rq HO_8⟩, ⟨bk BK503⟩, ⟨bk BK504⟩, ⟨bk BK505⟩, ⟨bk BK506⟩, ⟨bq HB⟩⟩
    case round =>
      clear H'
      try clear c25
      try clear hcz13_0
      try clear hcz13_1
      try clear hcz13_2
      try clear hcz16_0
      try clear hcz16_1
      try clear hcz16_2
      try clear hfz13_0
      try clear hfz13_1
      try clear hfz13_2
      try clear hfz16_0
      try clear hfz16_1
      try clear hfz16_2
      obtain ⟨x28_2, x507000_2, x507001_2, rfl, HA, HK2, HO_8, HO_26, BK503, BK504, BK505, BK506, HB⟩ := hrel
      cases gk with
      | zero => exact absurd HA.1 (by simp [spec_NextMeet.l0])
      | succ k2 =>
        have H := HA.1
        clear HA
        simp only [spec_NextMeet.l0] at H
        by_cases c31 : x28_2 < (t507.length : Int)
        · rw [if_pos c31] at H
          have c31b0 : decide (x28_2 < (t507.length : Int)) = true := decide_eq_true c31
          clear c31
          by_cases c32 : 0 ≤ x28_2
          · rw [if_pos c32] at H
            have c32b0 : decide (0 ≤ x28_2) = true := decide_eq_true c32
            clear c32
            by_cases c33 : x28_2 < (t507.length : Int)
            · rw [if_pos c33] at H
              have c33b0 : decide (x28_2 < (t507.length : Int)) = true := decide_eq_true c33
              clear c33
              replace H := Option.bind_eq_some_iff.mp H
              obtain ⟨t514, A340, H⟩ := H
              (try dsimp only at H)
              have A34 := Aside0.mk A340
              clear A340
              by_cases c35 : t514 > 0
              · rw [if_pos c35] at H
                have c35b0 : decide (0 < t514) = true := decide_eq_true c35
                clear c35
                simp only [Option.some.injEq, Prod.mk.injEq] at H
                obtain ⟨rfl, rfl, rfl⟩ := H
                have p512 : 0 ≤ (x28_2 : Int) := of_decide_eq_true (by first | (with_reducible assumption) | assumption)
                have q512 : x28_2 < (t507.length : Int) := of_decide_eq_true (by first | (with_reducible assumption) | assumption)
                obtain ⟨ad512, e512, hx512_0, hx512_1⟩ := at_T25 (Kd.R_reads' HO_26.1).2.2 x28_2 p512 q512
                cases e512
                replace p512 := eq_true p512
                replace q512 := eq_true q512
                go_wp2_with (first | ((with_reducible refine gate_dst (N := 11) rfl ?_); refine be #[.int .i64 0, .int .i64 0] 25 ?_; intro gb513 hg w36 hbox hb; replace HO_8 := Aside0.mk (Kd.R_below (Kd.R_elderB (rq HO_8) gb513 (Nat.le_of_eq hg.symm)) hb); replace HO_26 := Aside0.mk (Kd.R_below (Kd.R_elderB (rq HO_26) gb513 (Nat.le_of_eq hg.symm)) hb); have BK513 := Aside0.mk hbox; have GW513 := zs HB hg; have GE513 := zs HB hg; have NB503_513 := zn BK503 hg; have NB513_503 := zm BK503 hg; have NB504_513 := zn BK504 hg; have NB513_504 := zm BK504 hg; have NB505_513 := zn BK505 hg; have NB513_505 := zm BK505 hg; have NB506_513 := zn BK506 hg; have NB513_506 := zm BK506 hg; replace BK503 := zb BK503 hb; replace BK504 := zb BK504 hb; replace BK505 := zb BK505 hb; replace BK506 := zb BK506 hb; replace HB := zB HB hb; clear hb hbox hg; have hnb37 := NB513_503.1; have hnc37 := NB503_513.1; have hnb38 := NB513_504.1; have hnc38 := NB504_513.1; have hnb39 := NB513_505.1; have hnc39 := NB505_513.1; have hnb40 := NB513_506.1; have hnc40 := NB506_513.1; obtain ⟨hcz41_0, hcz41_1, hfz41_0, hfz41_1⟩ := zc2 BK513; have hnb42 := NB505_503.1; have hnc42 := NB503_505.1; have hnb43 := NB505_504.1; have hnc43 := NB504_505.1; have hnb44 := NB505_506.1; have hnc44 := NB506_505.1; obtain ⟨hcz45_0, hcz45_1, hfz45_0, hfz45_1⟩ := zc2 BK505) | ((with_reducible refine gate_callee (f := 49) rfl ?_); refine gl (some 34) Try.func49 #[.agg #[.int .i64 ((rd_T25 t507 x28_2).f0), .int .i64 ((rd_T25 t507 x28_2).f1)], .agg #[.int .i64 a2_0, .int .i64 a2_1]] ?_; (with_reducible refine (spec_diCompare.calls ((rd_T25 t507 x28_2).f0) ((rd_T25 t507 x28_2).f1) a2_0 a2_1 t514 _ A34.1).mono ?_); rintro e w46 ⟨rfl, hb⟩; refine ⟨_, rfl, ?_⟩; replace HO_8 := Aside0.mk (Kd.R_below (by (with_reducible repeat (first | apply Kd.R_alloc | apply Kd.R_drewN | apply Kd.R_drew)); exact (Kd.R_mono (Kd.R_far (p := ⟨gb513, 1, none⟩) (Kd.R_far (p := ⟨gb513, 0, none⟩) (Kd.R_mono HO_8.1 (fun k_ hk => (⟨hk, hk.2⟩ : _ ∧ k_ ≠ gb513))) (fun _ hk => hk.2) (.int .i64 ((rd_T25 t507 x28_2).f0))) (fun _ hk => hk.2) (.int .i64 ((rd_T25 t507 x28_2).f1))) (fun _ h_ => h_.1))) hb); replace HO_26 := Aside0.mk (Kd.R_below (by (with_reducible repeat (first | apply Kd.R_alloc | apply Kd.R_drewN | apply Kd.R_drew)); exact (Kd.R_mono (Kd.R_far (p := ⟨gb513, 1, none⟩) (Kd.R_far (p := ⟨gb513, 0, none⟩) (Kd.R_mono HO_26.1 (fun k_ hk => (⟨hk, hk.2⟩ : _ ∧ k_ ≠ gb513))) (fun _ hk => hk.2) (.int .i64 ((rd_T25 t507 x28_2).f0))) (fun _ hk => hk.2) (.int .i64 ((rd_T25 t507 x28_2).f1))) (fun _ h_ => h_.1))) hb); replace BK503 := zy (o' := .cells #[.int .i64 a0_0, .int .i64 a0_1, .int .i64 a0_2] 27 (0, 0)) BK503 hb; replace BK504 := zy (o' := .cells #[.int .i64 a1_0, .int .i64 a1_1, .int .i64 a1_2] 27 (0, 0)) BK504 hb; replace BK505 := zy (o' := .cells #[.int .i64 a2_0, .int .i64 a2_1] 25 (0, 0)) BK505 hb; replace BK506 := zy (o' := .cells #[.int .i64 x507000_2, .int .i64 x507001_2] 25 (0, 0)) BK506 hb; replace BK513 := zy (o' := .cells #[.int .i64 ((rd_T25 t507 x28_2).f0), .int .i64 ((rd_T25 t507 x28_2).f1)] 25 (0, 0)) BK513 hb; replace HB := zB HB hb; clear hb; obtain ⟨hcz47_0, hcz47_1, hfz47_0, hfz47_1⟩ := zc2 BK513; have hnb48 := NB506_503.1; have hnc48 := NB503_506.1; have hnb49 := NB506_504.1; have hnc49 := NB504_506.1; obtain ⟨hcz50_0, hcz50_1, hfz50_0, hfz50_1⟩ := zc2 BK506))
                refine bodyPost_ret (results_ct rfl _ _ gb506 25 #[.int .i64 ((rd_T25 t507 x28_2).f0), .int .i64 ((rd_T25 t507 x28_2).f1)] (0, 0) _ rfl (bk BK506) Try.underlying25 rfl (by kernel_rfl)) rfl ?_
                exact ⟨er, bq HB⟩
              rw [if_neg c35] at H
              have c35b0 : decide (0 < t514) = false := decide_eq_false c35
              clear c35
              have H' := Aside0.mk H
              clear H
              have p512 : 0 ≤ (x28_2 : Int) := of_decide_eq_true (by first | (with_reducible assumption) | assumption)
              have q512 : x28_2 < (t507.length : Int) := of_decide_eq_true (by first | (with_reducible assumption) | assumption)
              obtain ⟨ad512, e512, hx512_0, hx512_1⟩ := at_T25 (Kd.R_reads' HO_26.1).2.2 x28_2 p512 q512
              cases e512
              replace p512 := eq_true p512
              replace q512 := eq_true q512
              go_wp2_with (first | ((with_reducible refine gate_dst (N := 11) rfl ?_); refine be #[.int .i64 0, .int .i64 0] 25 ?_; intro gb513 hg w51 hbox hb; replace HO_8 := Aside0.mk (Kd.R_below (Kd.R_elderB (rq HO_8) gb513 (Nat.le_of_eq hg.symm)) hb); replace HO_26 := Aside0.mk (Kd.R_below (Kd.R_elderB (rq HO_26) gb513 (Nat.le_of_eq hg.symm)) hb); have BK513 := Aside0.mk hbox; have GW513 := zs HB hg; have GE513 := zs HB hg; have NB503_513 := zn BK503 hg; have NB513_503 := zm BK503 hg; have NB504_513 := zn BK504 hg; have NB513_504 := zm BK504 hg; have NB505_513 := zn BK505 hg; have NB513_505 := zm BK505 hg; have NB506_513 := zn BK506 hg; have NB513_506 := zm BK506 hg; replace BK503 := zb BK503 hb; replace BK504 := zb BK504 hb; replace BK505 := zb BK505 hb; replace BK506 := zb BK506 hb; replace HB := zB HB hb; clear hb hbox hg; have hnb52 := NB513_503.1; have hnc52 := NB503_513.1; have hnb53 := NB513_504.1; have hnc53 := NB504_513.1; have hnb54 := NB513_505.1; have hnc54 := NB505_513.1; have hnb55 := NB513_506.1; have hnc55 := NB506_513.1; obtain ⟨hcz56_0, hcz56_1, hfz56_0, hfz56_1⟩ := zc2 BK513; have hnb57 := NB505_503.1; have hnc57 := NB503_505.1; have hnb58 := NB505_504.1; have hnc58 := NB504_505.1; have hnb59 := NB505_506.1; have hnc59 := NB506_505.1; obtain ⟨hcz60_0, hcz60_1, hfz60_0, hfz60_1⟩ := zc2 BK505) | ((with_reducible refine gate_callee (f := 49) rfl ?_); refine gl (some 34) Try.func49 #[.agg #[.int .i64 ((rd_T25 t507 x28_2).f0), .int .i64 ((rd_T25 t507 x28_2).f1)], .agg #[.int .i64 a2_0, .int .i64 a2_1]] ?_; (with_reducible refine (spec_diCompare.calls ((rd_T25 t507 x28_2).f0) ((rd_T25 t507 x28_2).f1) a2_0 a2_1 t514 _ A34.1).mono ?_); rintro e w61 ⟨rfl, hb⟩; refine ⟨_, rfl, ?_⟩; replace HO_8 := Aside0.mk (Kd.R_below (by (with_reducible repeat (first | apply Kd.R_alloc | apply Kd.R_drewN | apply Kd.R_drew)); exact (Kd.R_mono (Kd.R_far (p := ⟨gb513, 1, none⟩) (Kd.R_far (p := ⟨gb513, 0, none⟩) (Kd.R_mono HO_8.1 (fun k_ hk => (⟨hk, hk.2⟩ : _ ∧ k_ ≠ gb513))) (fun _ hk => hk.2) (.int .i64 ((rd_T25 t507 x28_2).f0))) (fun _ hk => hk.2) (.int .i64 ((rd_T25 t507 x28_2).f1))) (fun _ h_ => h_.1))) hb); replace HO_26 := Aside0.mk (Kd.R_below (by (with_reducible repeat (first | apply Kd.R_alloc | apply Kd.R_drewN | apply Kd.R_drew)); exact (Kd.R_mono (Kd.R_far (p := ⟨gb513, 1, none⟩) (Kd.R_far (p := ⟨gb513, 0, none⟩) (Kd.R_mono HO_26.1 (fun k_ hk => (⟨hk, hk.2⟩ : _ ∧ k_ ≠ gb513))) (fun _ hk => hk.2) (.int .i64 ((rd_T25 t507 x28_2).f0))) (fun _ hk => hk.2) (.int .i64 ((rd_T25 t507 x28_2).f1))) (fun _ h_ => h_.1))) hb); replace BK503 := zy (o' := .cells #[.int .i64 a0_0, .int .i64 a0_1, .int .i64 a0_2] 27 (0, 0)) BK503 hb; replace BK504 := zy (o' := .cells #[.int .i64 a1_0, .int .i64 a1_1, .int .i64 a1_2] 27 (0, 0)) BK504 hb; replace BK505 := zy (o' := .cells #[.int .i64 a2_0, .int .i64 a2_1] 25 (0, 0)) BK505 hb; replace BK506 := zy (o' := .cells #[.int .i64 x507000_2, .int .i64 x507001_2] 25 (0, 0)) BK506 hb; replace BK513 := zy (o' := .cells #[.int .i64 ((rd_T25 t507 x28_2).f0), .int .i64 ((rd_T25 t507 x28_2).f1)] 25 (0, 0)) BK513 hb; replace HB := zB HB hb; clear hb))
              go_roundg k2
              case measure => have := HJ4.1; have := HK2.1; omega
              case rel => exact ⟨(wrap64 (x28_2 + 1)), (x507000_2), (x507001_2), ew, H', ⟨by have := HJ4.1; have := HK2.1; omega⟩, ⟨by (with_reducible repeat (first | apply Kd.R_alloc | apply Kd.R_drewN | apply Kd.R_drew)); exact Kd.R_mono HO_8.1 (fun _ hk => ⟨hk.1.1, hk.1.2⟩)⟩, ⟨by (with_reducible repeat (first | apply Kd.R_alloc | apply Kd.R_drewN | apply Kd.R_drew)); exact Kd.R_mono HO_26.1 (fun _ hk => ⟨hk.1.1, hk.1.2⟩)⟩, ⟨bk BK503⟩, ⟨bk BK504⟩, ⟨bk BK505⟩, ⟨bk BK506⟩, ⟨bq HB⟩⟩
            rw [if_neg c33] at H
            exact absurd H (by simp)
          rw [if_neg c32] at H
          exact absurd H (by simp)
        rw [if_neg c31] at H
        have c31b0 : decide (x28_2 < (t507.length : Int)) = false := decide_eq_false c31
        clear c31
        by_cases c62 : 0 < (t507.length : Int)
        · rw [if_pos c62] at H
          have c62b0 : decide (0 < (t507.length : Int)) = true := decide_eq_true c62
          have c62b1 : decide (0 < t507.length) = true := decide_eq_true (by omega)
          clear c62
          simp only [Option.some.injEq, Prod.mk.injEq] at H
          obtain ⟨rfl, rfl, rfl⟩ := H
          have p515 : 0 ≤ (0 : Int) := (by omega)
          have q515 : 0 < (t507.length : Int) := of_decide_eq_true (by first | (with_reducible assumption) | assumption)
          obtain ⟨ad515, e515, hx515_0, hx515_1⟩ := at_T25 (Kd.R_reads' HO_8.1).2.2 0 p515 q515
          cases e515
          have qi515 : (0 < t507.length) = True := eq_true (by omega)
          (try rw [show ((0 : Int)).toNat = 0 from rfl] at hx515_0)
          (try rw [show 0 * 2 = 0 from rfl] at hx515_0)
          (try rw [Addr.add_zero'] at hx515_0)
          (try rw [show ((0 : Int)).toNat = 0 from rfl] at hx515_1)
          (try rw [show 0 * 2 = 0 from rfl] at hx515_1)
          (try rw [Addr.add_zero'] at hx515_1)
          replace p515 := eq_true p515
          replace q515 := eq_true q515
          have hnb63 := NB506_503.1
          have hnc63 := NB503_506.1
          have hnb64 := NB506_504.1
          have hnc64 := NB504_506.1
          have hnb65 := NB506_505.1
          have hnc65 := NB505_506.1
          obtain ⟨hcz66_0, hcz66_1, hfz66_0, hfz66_1⟩ := zc2 BK506
          go_wp2
          refine bodyPost_ret (results_ct rfl _ _ gb506 25 #[.int .i64 ((rd_T25 t507 0).f0), .int .i64 ((rd_T25 t507 0).f1)] (0, 0) _ rfl (bk BK506) Try.underlying25 rfl (by kernel_rfl)) rfl ?_
          exact ⟨er, bq HB⟩
        rw [if_neg c62] at H
        exact absurd H (by simp)

end Go.Proofs.Ytoneipoioiokcaa.PFnHandsMeet
