/- A part of the walk of FnHandsMeet: which Lean function each Go function comes to, and that the machine's call does so. Written by a program of this repo (wip/gen/xprint.py). -/
import Derived.Test.YtoneipoioiokcaaPFnHandsMeetx0
import Derived.Test.YtoneipoioiokcaaPFnHandsMeetx8
import Derived.Test.YtoneipoioiokcaaPFnHandsMeetx10
import Derived.Test.YtoneipoioiokcaaPFnHandsMeetx11
import Derived.Test.YtoneipoioiokcaaPFnHandsMeetx13
import Derived.Test.YtoneipoioiokcaaPFnHandsMeetx14
namespace Go.Proofs.Ytoneipoioiokcaa.PFnHandsMeet
open Go.RowKit Go.Proofs.YtoneipoioiokcaaW.PrintWords Go.Proofs.YtoneipoioiokcaaW.PrintLast Go.Proofs.YtoneipoioiokcaaW.PrintMore
attribute [local go_sem] max2_int min2_int max_two min_two max_three min_three max_four min_four   -- for this text's walks alone
set_option linter.unusedVariables false
set_option linter.unusedSimpArgs false

/-! ### impl_MeetPlaces: function 12 -/
def impl_MeetPlaces.l0 : Nat → List (S25) → List (S25) → Int → Int → Int → Int → Int → Option ((List (S25)) × Bool)
  | 0, _, _, _, _, _, _, _ => none
  | k + 1, x8, x20, x21, x22, x386000, x386001, x386002 => if x22 < x21 then (if 0 ≤ x22 then (if x22 < (x20.length : Int) then ((impl_Hand_at.f k x386000 x386001 x386002 ((rd_T25 x20 x22).f0) ((rd_T25 x20 x22).f1)).bind fun bt396 => (if x8.length < 8796093022208 then (impl_MeetPlaces.l0 k (x8 ++ [(⟨bt396.1, bt396.2⟩ : S25)]) x20 x21 (wrap64 (x22 + 1)) x386000 x386001 x386002) else (none))) else (none)) else (none)) else ((impl_areTurns.f x8).bind fun t401 => (if t401 = true then ((impl_sorted.f x8).bind fun t402 => (some (t402, true))) else (some (([] : List (S25)), false))))
def impl_MeetPlaces.f (k : Nat) (a0_0 : Int) (a0_1 : Int) (a0_2 : Int) (a1_0 : Int) (a1_1 : Int) (a1_2 : Int) : Option ((List (S25)) × Bool) := (impl_MeetTimes.f k a0_0 a0_1 a0_2 a1_0 a1_1 a1_2).bind fun bt387 => (if bt387.2 = true then (impl_MeetPlaces.l0 k (([] : List (S25))) bt387.1 (bt387.1.length : Int) 0 a0_0 a0_1 a0_2) else (some (([] : List (S25)), false)))
theorem impl_MeetPlaces.mono_l : ∀ k, (∀ y0 y1 y2 y3 y4 y5 y6, LeO (impl_MeetPlaces.l0 k y0 y1 y2 y3 y4 y5 y6) (impl_MeetPlaces.l0 (k + 1) y0 y1 y2 y3 y4 y5 y6))
  | 0 => fun _ _ _ _ _ _ _ r h => by simp [impl_MeetPlaces.l0] at h
  | k + 1 => by
    have ih0 := impl_MeetPlaces.mono_l k
    intro y0 y1 y2 y3 y4 y5 y6
    unfold impl_MeetPlaces.l0
    repeat' first
    | (with_reducible exact ih0 _ _ _ _ _ _ _)
    | (with_reducible exact impl_Hand_at.mono _ _ _ _ _ _)
    | (with_reducible exact impl_MeetTimes.mono _ _ _ _ _ _ _)
    | (with_reducible exact LeO.refl _)
    | (with_reducible exact LeO.none _)
    | (with_reducible refine LeO.ite ?_ ?_)
    | (with_reducible refine LeO.bind ?_ (fun _ => ?_))
    | exact ih0 _ _ _ _ _ _ _
    | exact impl_Hand_at.mono _ _ _ _ _ _
    | exact impl_MeetTimes.mono _ _ _ _ _ _ _
    | exact LeO.none _
    | refine LeO.ite ?_ ?_
    | refine LeO.bind ?_ (fun _ => ?_)
theorem impl_MeetPlaces.mono : ∀ a0 a1 a2 a3 a4 a5 k, LeO (impl_MeetPlaces.f k a0 a1 a2 a3 a4 a5) (impl_MeetPlaces.f (k + 1) a0 a1 a2 a3 a4 a5) := by
  intro a0 a1 a2 a3 a4 a5 k
  have ih0 := impl_MeetPlaces.mono_l k
  unfold impl_MeetPlaces.f
  repeat' first
      | (with_reducible exact ih0 _ _ _ _ _ _ _)
      | (with_reducible exact impl_Hand_at.mono _ _ _ _ _ _)
      | (with_reducible exact impl_MeetTimes.mono _ _ _ _ _ _ _)
      | (with_reducible exact LeO.refl _)
      | (with_reducible exact LeO.none _)
      | (with_reducible refine LeO.ite ?_ ?_)
      | (with_reducible refine LeO.bind ?_ (fun _ => ?_))
      | exact ih0 _ _ _ _ _ _ _
      | exact impl_Hand_at.mono _ _ _ _ _ _
      | exact impl_MeetTimes.mono _ _ _ _ _ _ _
      | exact LeO.none _
      | refine LeO.ite ?_ ?_
      | refine LeO.bind ?_ (fun _ => ?_)
set_option maxHeartbeats 8000000 in
set_option maxRecDepth 100000 in
theorem impl_MeetPlaces.calls (k : Nat) (a0_0 : Int) (a0_1 : Int) (a0_2 : Int) (a1_0 : Int) (a1_1 : Int) (a1_2 : Int) (r1 : List (S25)) (r2 : Bool) (w : World) (h : impl_MeetPlaces.f k a0_0 a0_1 a0_2 a1_0 a1_1 a1_2 = some (r1, r2)) :
    Calls Try.prog 12 #[.agg #[.int .i64 a0_0, .int .i64 a0_1, .int .i64 a0_2], .agg #[.int .i64 a1_0, .int .i64 a1_1, .int .i64 a1_2]] w fun e w' => ∃ v0_ : Value, e = .returned (.tuple #[v0_, .bool r2]) ∧ Kd.R k25 25 w' w.heap.size (fun _ => True) v0_ r1 ∧ Below w.heap.size w w' := by
  have hu27 := Try.underlying27
  have hu25 := Try.underlying25
  have HB := Aside0.mk (Below.refl w.heap.size w)
  have H : ((impl_MeetTimes.f k a0_0 a0_1 a0_2 a1_0 a1_1 a1_2).bind fun bt387 => (if bt387.2 = true then (impl_MeetPlaces.l0 k (([] : List (S25))) bt387.1 (bt387.1.length : Int) 0 a0_0 a0_1 a0_2) else (some (([] : List (S25)), false)))) = some (r1, r2) := h
  clear h
  replace H := Option.bind_eq_some_iff.mp H
  obtain ⟨⟨t387, t390⟩, A30, H⟩ := H
  (try dsimp only at H)
  have A3 := Aside0.mk A30
  clear A30
  by_cases c4 : t390 = true
  · subst c4
    rw [if_pos rfl] at H
    obtain ⟨y391, hy391⟩ : ∃ y_ : List (S25), y_ = (([] : List (S25))) := ⟨_, rfl⟩
    replace H : (impl_MeetPlaces.l0 k y391 t387 (t387.length : Int) 0 a0_0 a0_1 a0_2) = some (r1, r2) := by first | (rw [hy391]; with_reducible exact H) | (have H2_ := (Option.bind_some _ _).symm.trans H; rw [hy391]; with_reducible exact H2_) | (have H2_ := (Option.bind_some _ _).symm.trans H; with_reducible exact H2_) | with_reducible exact H | (rw [hy391]; exact H) | exact H
    have Ny391 := Aside0.mk hy391
    clear hy391
    have H' := Aside0.mk H
    clear H
    go_enter Try.func12, Try.ntmps12
    go_wp2_with (first | ((with_reducible refine gate_dst (N := 2) rfl ?_); refine be #[.int .i64 a0_0, .int .i64 a0_1, .int .i64 a0_2] 27 ?_; intro gb385 hg w5 hbox hb; have BK385 := Aside0.mk hbox; have GW385 := zs HB hg; have GE385 := zs HB hg; replace HB := zB HB hb; clear hb hbox hg) | ((with_reducible refine gate_dst (N := 3) rfl ?_); refine be #[.int .i64 a1_0, .int .i64 a1_1, .int .i64 a1_2] 27 ?_; intro gb386 hg w6 hbox hb; have BK386 := Aside0.mk hbox; have GW386 := zs HB hg; have GE386 := zs HB hg; have NB385_386 := zn BK385 hg; have NB386_385 := zm BK385 hg; replace BK385 := zb BK385 hb; replace HB := zB HB hb; clear hb hbox hg; have hnb7 := NB385_386.1; have hnc7 := NB386_385.1; obtain ⟨hcz8_0, hcz8_1, hcz8_2, hfz8_0, hfz8_1, hfz8_2⟩ := zc3 BK385; obtain ⟨hcz9_0, hcz9_1, hcz9_2, hfz9_0, hfz9_1, hfz9_2⟩ := zc3 BK386) | ((with_reducible refine gate_callee (f := 6) rfl ?_); refine gl (some 14) Try.func6 #[.agg #[.int .i64 a0_0, .int .i64 a0_1, .int .i64 a0_2], .agg #[.int .i64 a1_0, .int .i64 a1_1, .int .i64 a1_2]] ?_; (with_reducible refine (impl_MeetTimes.calls k a0_0 a0_1 a0_2 a1_0 a1_1 a1_2 t387 true _ A3.1).mono ?_); rintro e w10 ⟨v388, rfl, ho0, hb⟩; refine ⟨_, rfl, ?_⟩; have HO389 := Aside0.mk (Kd.R_lower ho0 (below_size (bq HB))); replace BK385 := zb BK385 hb; replace BK386 := zb BK386 hb; replace HB := zB HB hb; (try clear hb); (try clear hb2); (try clear hk); (try clear hi); (try clear ho0)) | ((with_reducible refine gate_dst (N := 19) rfl ?_); refine Kd.R_lit k25 _ 25 ?hg (N := 19) ?hd (xs := ([] : List (S25))) (inner := []) (ok := fun _ => True) (okp := fun _ => True) ?hr ?hp (fun _ hk => hk) trivial (Below.refl _ _) (Nat.le_refl _) (by simp) ?_; (case hd => rfl); (case hg => rfl); (case hr => first | (go_simp; done) | (go_simp; rfl)); (case hp => exact (Reps.none _ _)); intro v392 w11 ho12 hb hg_ hnew_; clear hg_ hnew_; (first | rw [← Ny391.1] at ho12 | (simp only [Int.reduceToNat] at ho12; rw [← Ny391.1] at ho12)); have HO393 := Aside0.mk (Kd.R_lower (Kd.R_new' ho12 (Kd.R_lt (rq HO389))) (below_size (bq HB))); replace HO389 := Aside0.mk (Kd.R_elder' (rq HO389) (Kd.R_base ho12) hb); replace BK385 := zb BK385 hb; replace BK386 := zb BK386 hb; replace HB := zB HB hb; clear hb ho12; obtain ⟨Ao13, co13, eo13⟩ := Kd.R_slice HO389.1; subst eo13))
    go_loopg [8, 22] k (fun kq v8 v22 w' => ∃ (x8_1 : List (S25)) (x22_1 : Int), v22 = .int .i64 x22_1 ∧ Aside0 (impl_MeetPlaces.l0 kq x8_1 t387 (t387.length : Int) x22_1 a0_0 a0_1 a0_2 = some (r1, r2)) ∧ Aside0 (kq ≤ k) ∧ Aside0 (Kd.R k25 25 w' w.heap.size (fun k_ => some k_ ≠ ((.slice Ao13 t387.length co13) : Value).ownBlock) v8 x8_1) ∧ Aside0 (Kd.R k25 25 w' w.heap.size (fun k_ => some k_ ≠ (v8 : Value).ownBlock) (.slice Ao13 t387.length co13) t387) ∧ Aside0 (w'.heap[gb385]? = some (.cells #[.int .i64 a0_0, .int .i64 a0_1, .int .i64 a0_2] 27 (0, 0))) ∧ Aside0 (w'.heap[gb386]? = some (.cells #[.int .i64 a1_0, .int .i64 a1_1, .int .i64 a1_2] 27 (0, 0))) ∧ Aside0 (Below w.heap.size w w'))
    case atStart => exact ⟨(y391), (0), ew, H', ⟨Nat.le_refl _⟩, ⟨by (with_reducible repeat (first | apply Kd.R_alloc | apply Kd.R_drewN | apply Kd.R_drew)); exact Kd.R_mono HO393.1 (fun _ hk => hk.2)⟩, ⟨by (with_reducible repeat (first | apply Kd.R_alloc | apply Kd.R_drewN | apply Kd.R_drew)); exact Kd.R_mono HO389.1 (fun _ hk => hk.2)⟩, ⟨bk BK385⟩, ⟨bk BK386⟩, ⟨bq HB⟩⟩
    case round =>
      clear H'
      try clear c4
      try clear hcz8_0
      try clear hcz8_1
      try clear hcz8_2
      try clear hcz9_0
      try clear hcz9_1
      try clear hcz9_2
      try clear hfz8_0
      try clear hfz8_1
      try clear hfz8_2
      try clear hfz9_0
      try clear hfz9_1
      try clear hfz9_2
      obtain ⟨x8_1, x22_1, rfl, HA, HK1, HO_8, HO_20, BK385, BK386, HB⟩ := hrel
      cases gk with
      | zero => exact absurd HA.1 (by simp [impl_MeetPlaces.l0])
      | succ k1 =>
        have H := HA.1
        clear HA
        simp only [impl_MeetPlaces.l0] at H
        by_cases c14 : x22_1 < (t387.length : Int)
        · rw [if_pos c14] at H
          have c14b0 : decide (x22_1 < (t387.length : Int)) = true := decide_eq_true c14
          clear c14
          by_cases c15 : 0 ≤ x22_1
          · rw [if_pos c15] at H
            have c15b0 : decide (0 ≤ x22_1) = true := decide_eq_true c15
            clear c15
            by_cases c16 : x22_1 < (t387.length : Int)
            · rw [if_pos c16] at H
              have c16b0 : decide (x22_1 < (t387.length : Int)) = true := decide_eq_true c16
              clear c16
              replace H := Option.bind_eq_some_iff.mp H
              obtain ⟨⟨t396, t397⟩, A170, H⟩ := H
              (try dsimp only at H)
              have A17 := Aside0.mk A170
              clear A170
              by_cases c18 : x8_1.length < 8796093022208
              · rw [if_pos c18] at H
                have LMc18 := Aside0.mk c18
                clear c18
                obtain ⟨y398, hy398⟩ : ∃ y_ : List (S25), y_ = (x8_1 ++ [(⟨t396, t397⟩ : S25)]) := ⟨_, rfl⟩
                replace H : (impl_MeetPlaces.l0 k1 y398 t387 (t387.length : Int) (wrap64 (x22_1 + 1)) a0_0 a0_1 a0_2) = some (r1, r2) := by first | (rw [hy398]; with_reducible exact H) | (have H2_ := (Option.bind_some _ _).symm.trans H; rw [hy398]; with_reducible exact H2_) | (have H2_ := (Option.bind_some _ _).symm.trans H; with_reducible exact H2_) | with_reducible exact H | (rw [hy398]; exact H) | exact H
                have Ny398 := Aside0.mk hy398
                clear hy398
                have H' := Aside0.mk H
                clear H
                have p394 : 0 ≤ (x22_1 : Int) := of_decide_eq_true (by first | (with_reducible assumption) | assumption)
                have q394 : x22_1 < (t387.length : Int) := of_decide_eq_true (by first | (with_reducible assumption) | assumption)
                obtain ⟨ad394, e394, hx394_0, hx394_1⟩ := at_T25 (Kd.R_reads' HO_20.1).2.2 x22_1 p394 q394
                cases e394
                replace p394 := eq_true p394
                replace q394 := eq_true q394
                go_wp2_with (first | ((with_reducible refine gate_dst (N := 10) rfl ?_); refine be #[.int .i64 0, .int .i64 0] 25 ?_; intro gb395 hg w19 hbox hb; replace HO_8 := Aside0.mk (Kd.R_below (Kd.R_elderB (rq HO_8) gb395 (Nat.le_of_eq hg.symm)) hb); replace HO_20 := Aside0.mk (Kd.R_below (Kd.R_elderB (rq HO_20) gb395 (Nat.le_of_eq hg.symm)) hb); have BK395 := Aside0.mk hbox; have GW395 := zs HB hg; have GE395 := zs HB hg; have NB385_395 := zn BK385 hg; have NB395_385 := zm BK385 hg; have NB386_395 := zn BK386 hg; have NB395_386 := zm BK386 hg; replace BK385 := zb BK385 hb; replace BK386 := zb BK386 hb; replace HB := zB HB hb; clear hb hbox hg; have hnb20 := NB395_385.1; have hnc20 := NB385_395.1; have hnb21 := NB395_386.1; have hnc21 := NB386_395.1; obtain ⟨hcz22_0, hcz22_1, hfz22_0, hfz22_1⟩ := zc2 BK395; have hnb23 := NB385_386.1; have hnc23 := NB386_385.1; obtain ⟨hcz24_0, hcz24_1, hcz24_2, hfz24_0, hfz24_1, hfz24_2⟩ := zc3 BK385) | ((with_reducible refine gate_callee (f := 31) rfl ?_); refine gl (some 29) Try.func31 #[.agg #[.int .i64 a0_0, .int .i64 a0_1, .int .i64 a0_2], .agg #[.int .i64 ((rd_T25 t387 x22_1).f0), .int .i64 ((rd_T25 t387 x22_1).f1)]] ?_; (with_reducible refine (impl_Hand_at.calls k1 a0_0 a0_1 a0_2 ((rd_T25 t387 x22_1).f0) ((rd_T25 t387 x22_1).f1) t396 t397 _ A17.1).mono ?_); rintro e w25 ⟨rfl, hb⟩; refine ⟨_, rfl, ?_⟩; replace HO_8 := Aside0.mk (Kd.R_below (by (with_reducible repeat (first | apply Kd.R_alloc | apply Kd.R_drewN | apply Kd.R_drew)); exact (Kd.R_mono (Kd.R_far (p := ⟨gb395, 1, none⟩) (Kd.R_far (p := ⟨gb395, 0, none⟩) (Kd.R_mono HO_8.1 (fun k_ hk => (⟨hk, hk.2⟩ : _ ∧ k_ ≠ gb395))) (fun _ hk => hk.2) (.int .i64 ((rd_T25 t387 x22_1).f0))) (fun _ hk => hk.2) (.int .i64 ((rd_T25 t387 x22_1).f1))) (fun _ h_ => h_.1))) hb); replace HO_20 := Aside0.mk (Kd.R_below (by (with_reducible repeat (first | apply Kd.R_alloc | apply Kd.R_drewN | apply Kd.R_drew)); exact (Kd.R_mono (Kd.R_far (p := ⟨gb395, 1, none⟩) (Kd.R_far (p := ⟨gb395, 0, none⟩) (Kd.R_mono HO_20.1 (fun k_ hk => (⟨hk, hk.2⟩ : _ ∧ k_ ≠ gb395))) (fun _ hk => hk.2) (.int .i64 ((rd_T25 t387 x22_1).f0))) (fun _ hk => hk.2) (.int .i64 ((rd_T25 t387 x22_1).f1))) (fun _ h_ => h_.1))) hb); replace BK385 := zy (o' := .cells #[.int .i64 a0_0, .int .i64 a0_1, .int .i64 a0_2] 27 (0, 0)) BK385 hb; replace BK386 := zy (o' := .cells #[.int .i64 a1_0, .int .i64 a1_1, .int .i64 a1_2] 27 (0, 0)) BK386 hb; replace BK395 := zy (o' := .cells #[.int .i64 ((rd_T25 t387 x22_1).f0), .int .i64 ((rd_T25 t387 x22_1).f1)] 25 (0, 0)) BK395 hb; replace HB := zB HB hb; clear hb) | ((with_reducible refine gate_builtin (b := .append) (xs := #[.tmp 26, .tmp 30]) rfl ?_); at_builtin; refine Kd.R_append k25 (w0 := w) w.heap.size rfl (.tmp 26) (.tmp 30) 30 25 (.agg #[(.int .i64 0), (.int .i64 0)]) 16 rfl Try.underlying30 info25 rfl (by decide) (by omega) u8 x8_1 (⟨t396, t397⟩ : S25) [.int .i64 t396, .int .i64 t397] (fun k_ => some k_ ≠ (.slice (some ad394) t387.length co13 : Value).ownBlock ∧ k_ ≠ gb395) (fun _ => False) rfl rfl ?aP (fun _ hk => hk.elim) ?aF ?aO ?aB ?aS ?aL ?_; (case aP => exact k25_mkM _ _ _ (⟨t396, t397⟩ : S25)); (case aB => exact (bq HB)); (case aF => exact (fun k_ hk => ⟨Kd.fresh' (Kd.R_lt (rq HO_20)) k_ hk, Kd.freshB (g := gb395) (o := .cells #[.int .i64 ((rd_T25 t387 x22_1).f0), .int .i64 ((rd_T25 t387 x22_1).f1)] 25 (0, 0)) (bk BK395) k_ hk⟩)); (case aO => exact (rq HO_8)); (case aS => exact (below_size (bq HB))); (case aL => have := LMc18.1; omega); intro v399 w26 ho hb hg hat; rw [← Ny398.1] at ho; have HO400 := Aside0.mk ho; replace HO_20 := Aside0.mk (Kd.R_after (ok := (fun k_ => k_ ≠ gb395)) (by (with_reducible repeat (first | apply Kd.R_alloc | apply Kd.R_drewN | apply Kd.R_drew)); exact Kd.R_mono HO_20.1 (fun _ hk => ⟨hk.2, hk.1⟩)) hg hat); replace BK385 := Aside0.mk (blk_grown (g := gb385) (o := .cells #[.int .i64 a0_0, .int .i64 a0_1, .int .i64 a0_2] 27 (0, 0)) (bk BK385) hg (Kd.R_ne HO_8.1 BK385.1 (by decide))); replace BK386 := Aside0.mk (blk_grown (g := gb386) (o := .cells #[.int .i64 a1_0, .int .i64 a1_1, .int .i64 a1_2] 27 (0, 0)) (bk BK386) hg (Kd.R_ne HO_8.1 BK386.1 (by decide))); replace BK395 := Aside0.mk (blk_grown (g := gb395) (o := .cells #[.int .i64 ((rd_T25 t387 x22_1).f0), .int .i64 ((rd_T25 t387 x22_1).f1)] 25 (0, 0)) (bk BK395) hg (Kd.R_away HO_8.1 (fun _ hk => hk.2))); replace HB := Aside0.mk hb; clear HO_8; clear ho hb hg hat))
                go_roundg k1
                case measure => have := HK1.1; omega
                case rel => exact ⟨(y398), (wrap64 (x22_1 + 1)), ew, H', ⟨by have := HK1.1; omega⟩, ⟨by (with_reducible repeat (first | apply Kd.R_alloc | apply Kd.R_drewN | apply Kd.R_drew)); exact Kd.R_mono HO400.1 (fun _ hk => hk.1)⟩, ⟨by (with_reducible repeat (first | apply Kd.R_alloc | apply Kd.R_drewN | apply Kd.R_drew)); exact Kd.R_mono HO_20.1 (fun _ hk => hk.2)⟩, ⟨bk BK385⟩, ⟨bk BK386⟩, ⟨bq HB⟩⟩
              rw [if_neg c18] at H
              exact absurd H (by simp)
            rw [if_neg c16] at H
            exact absurd H (by simp)
          rw [if_neg c15] at H
          exact absurd H (by simp)
        rw [if_neg c14] at H
        have c14b0 : decide (x22_1 < (t387.length : Int)) = false := decide_eq_false c14
        clear c14
        replace H := Option.bind_eq_some_iff.mp H
        obtain ⟨t401, A270, H⟩ := H
        (try dsimp only at H)
        have A27 := Aside0.mk A270
        clear A270
        by_cases c28 : t401 = true
        · subst c28
          rw [if_pos rfl] at H
          replace H := Option.bind_eq_some_iff.mp H
          obtain ⟨t402, A290, H⟩ := H
          (try dsimp only at H)
          have A29 := Aside0.mk A290
          clear A290
          simp only [Option.some.injEq, Prod.mk.injEq] at H
          obtain ⟨rfl, rfl⟩ := H
          obtain ⟨Ao30, co30, eo30⟩ := Kd.R_slice HO_8.1
          subst eo30
          go_wp2_with (first | ((with_reducible refine gate_callee (f := 32) rfl ?_); refine gl (some 34) Try.func32 #[.slice Ao30 x8_1.length co30] ?_; (with_reducible refine (impl_areTurns.calls _ _ x8_1 true _ ?side1 ?side2 A27.1).mono ?_); (case side1 => repeat (first | exact (Kd.R_reads' HO_8.1).2.2 | (with_reducible refine Kd.C_alloc ?_ _) | (with_reducible refine Kd.C_drewN ?_ _) | (with_reducible refine Kd.C_drew ?_))); (case side2 => exact (Kd.R_reads' HO_8.1).2.1); rintro e w31 ⟨rfl, hb⟩; refine ⟨_, rfl, ?_⟩; replace HO_8 := rB HO_8 hb; replace HO_20 := rB HO_20 hb; replace BK385 := zb BK385 hb; replace BK386 := zb BK386 hb; replace HB := zB HB hb; clear hb) | ((with_reducible refine gate_callee (f := 33) rfl ?_); refine gl (some 37) Try.func33 #[.slice Ao30 x8_1.length co30] ?_; (with_reducible refine (impl_sorted.calls (fun k_ => some k_ = (.slice Ao30 x8_1.length co30 : Value).ownBlock) (.slice Ao30 x8_1.length co30) x8_1 t402 w _ ?side1 ?side2 A29.1).mono ?_); (case side1 => exact bq HB); (case side2 => exact Kd.R_tight rfl HO_8.1); rintro e w32 ⟨v403, rfl, ho0, hb, hkp⟩; refine ⟨_, rfl, ?_⟩; have HO404 := Aside0.mk (Kd.R_mono (ok' := fun k_ => some k_ ≠ (.slice Ao13 t387.length co13 : Value).ownBlock) ho0 (fun k_ hk_ => Or.elim hk_ (fun hs_ => fun e_ => (((HO_20.1).1 k_ e_.symm)) hs_) (fun hn_ => (Kd.fresh' (Kd.R_lt (rq HO_20)) k_ hn_)))); replace HO_20 := Aside0.mk (Kd.R_mono (ok' := fun k_ => some k_ ≠ (v403 : Value).ownBlock) (Kd.R_keptB (HO_20.1) hkp (fun k_ hk_ hs_ => (hk_) hs_)) (fun k_ hk_ => fun e_ => Or.elim (ho0.1 k_ e_.symm) (fun hs_ => hk_.2.1 hs_) (fun hn_ => Nat.not_le.2 hk_.2.2 hn_))); replace BK385 := Aside0.mk (blk_kept (bk BK385) hkp (fun hs_ => (fun e_ => (Kd.R_ne HO_8.1 BK385.1 (by decide)) e_) hs_)); replace BK386 := Aside0.mk (blk_kept (bk BK386) hkp (fun hs_ => (fun e_ => (Kd.R_ne HO_8.1 BK386.1 (by decide)) e_) hs_)); replace HB := Aside0.mk hb; clear HO_8; (try clear hb); (try clear hkp); (try clear ho0)))
          go_ret2
          exact ⟨_, er, by (with_reducible repeat (first | apply Kd.R_alloc | apply Kd.R_drewN | apply Kd.R_drew)); exact Kd.R_mono HO404.1 (fun _ hk => trivial), bq HB⟩
        replace c28 := Bool.eq_false_iff.mpr c28
        subst c28
        rw [if_neg (show ¬ (false = true) by decide)] at H
        simp only [Option.some.injEq, Prod.mk.injEq] at H
        obtain ⟨rfl, rfl⟩ := H
        obtain ⟨Ao33, co33, eo33⟩ := Kd.R_slice HO_8.1
        subst eo33
        go_wp2_with (first | ((with_reducible refine gate_callee (f := 32) rfl ?_); refine gl (some 34) Try.func32 #[.slice Ao33 x8_1.length co33] ?_; (with_reducible refine (impl_areTurns.calls _ _ x8_1 false _ ?side1 ?side2 A27.1).mono ?_); (case side1 => repeat (first | exact (Kd.R_reads' HO_8.1).2.2 | (with_reducible refine Kd.C_alloc ?_ _) | (with_reducible refine Kd.C_drewN ?_ _) | (with_reducible refine Kd.C_drew ?_))); (case side2 => exact (Kd.R_reads' HO_8.1).2.1); rintro e w34 ⟨rfl, hb⟩; refine ⟨_, rfl, ?_⟩; replace HO_8 := rB HO_8 hb; replace HO_20 := rB HO_20 hb; replace BK385 := zb BK385 hb; replace BK386 := zb BK386 hb; replace HB := zB HB hb; clear hb))
        go_ret2
        exact ⟨_, er, by first | exact Kd.R_nil _ _ _ _ _ | exact Kd.N_nil _ _ _ _ _ | exact Kd.V_nil _ _ _ _ _ | exact Kd.Q_nil _ _ _ _ _ | exact Kd.S_nil _ _ _ _ _, bq HB⟩
  replace c4 := Bool.eq_false_iff.mpr c4
  subst c4
  rw [if_neg (show ¬ (false = true) by decide)] at H
  simp only [Option.some.injEq, Prod.mk.injEq] at H
  obtain ⟨rfl, rfl⟩ := H
  go_enter Try.func12, Try.ntmps12
  go_wp2_with (first | ((with_reducible refine gate_dst (N := 2) rfl ?_); refine be #[.int .i64 a0_0, .int .i64 a0_1, .int .i64 a0_2] 27 ?_; intro gb385 hg w35 hbox hb; have BK385 := Aside0.mk hbox; have GW385 := zs HB hg; have GE385 := zs HB hg; replace HB := zB HB hb; clear hb hbox hg) | ((with_reducible refine gate_dst (N := 3) rfl ?_); refine be #[.int .i64 a1_0, .int .i64 a1_1, .int .i64 a1_2] 27 ?_; intro gb386 hg w36 hbox hb; have BK386 := Aside0.mk hbox; have GW386 := zs HB hg; have GE386 := zs HB hg; have NB385_386 := zn BK385 hg; have NB386_385 := zm BK385 hg; replace BK385 := zb BK385 hb; replace HB := zB HB hb; clear hb hbox hg; have hnb37 := NB385_386.1; have hnc37 := NB386_385.1; obtain ⟨hcz38_0, hcz38_1, hcz38_2, hfz38_0, hfz38_1, hfz38_2⟩ := zc3 BK385; obtain ⟨hcz39_0, hcz39_1, hcz39_2, hfz39_0, hfz39_1, hfz39_2⟩ := zc3 BK386) | ((with_reducible refine gate_callee (f := 6) rfl ?_); refine gl (some 14) Try.func6 #[.agg #[.int .i64 a0_0, .int .i64 a0_1, .int .i64 a0_2], .agg #[.int .i64 a1_0, .int .i64 a1_1, .int .i64 a1_2]] ?_; (with_reducible refine (impl_MeetTimes.calls k a0_0 a0_1 a0_2 a1_0 a1_1 a1_2 t387 false _ A3.1).mono ?_); rintro e w40 ⟨v388, rfl, ho0, hb⟩; refine ⟨_, rfl, ?_⟩; have HO389 := Aside0.mk (Kd.R_lower ho0 (below_size (bq HB))); replace BK385 := zb BK385 hb; replace BK386 := zb BK386 hb; replace HB := zB HB hb; (try clear hb); (try clear hb2); (try clear hk); (try clear hi); (try clear ho0)))
  go_ret2
  exact ⟨_, er, by first | exact Kd.R_nil _ _ _ _ _ | exact Kd.N_nil _ _ _ _ _ | exact Kd.V_nil _ _ _ _ _ | exact Kd.Q_nil _ _ _ _ _ | exact Kd.S_nil _ _ _ _ _, bq HB⟩

/-! ### spec_meAt: function 34 -/
def spec_meAt.f (k : Nat) (a0_0 : Int) (a0_1 : Int) (a0_2 : Int) (a1_0 : Int) (a1_1 : Int) : Option (Int × Int × Bool) := (spec_diAdd.f k a0_0 a0_1 a1_0 a1_1 a0_2).bind fun bt408 => (some (bt408.1, bt408.2.1, bt408.2.2))
theorem spec_meAt.mono : ∀ a0 a1 a2 a3 a4 k, LeO (spec_meAt.f k a0 a1 a2 a3 a4) (spec_meAt.f (k + 1) a0 a1 a2 a3 a4) := by
  intro a0 a1 a2 a3 a4 k
  unfold spec_meAt.f
  repeat' first
      | (with_reducible exact spec_diAdd.mono _ _ _ _ _ _)
      | (with_reducible exact LeO.refl _)
      | (with_reducible exact LeO.none _)
      | (with_reducible refine LeO.ite ?_ ?_)
      | (with_reducible refine LeO.bind ?_ (fun _ => ?_))
      | exact spec_diAdd.mono _ _ _ _ _ _
      | exact LeO.none _
      | refine LeO.ite ?_ ?_
      | refine LeO.bind ?_ (fun _ => ?_)
set_option maxHeartbeats 8000000 in
set_option maxRecDepth 100000 in
theorem spec_meAt.calls (k : Nat) (a0_0 : Int) (a0_1 : Int) (a0_2 : Int) (a1_0 : Int) (a1_1 : Int) (r1 : Int) (r2 : Int) (r3 : Bool) (w : World) (h : spec_meAt.f k a0_0 a0_1 a0_2 a1_0 a1_1 = some (r1, r2, r3)) :
    Calls Try.prog 34 #[.agg #[.int .i64 a0_0, .int .i64 a0_1, .int .i64 a0_2], .agg #[.int .i64 a1_0, .int .i64 a1_1]] w fun e w' => e = .returned (.tuple #[.agg #[.int .i64 r1, .int .i64 r2], .bool r3]) ∧ Below w.heap.size w w' := by
  have hu27 := Try.underlying27
  have hu25 := Try.underlying25
  have HB := Aside0.mk (Below.refl w.heap.size w)
  have H : ((spec_diAdd.f k a0_0 a0_1 a1_0 a1_1 a0_2).bind fun bt408 => (some (bt408.1, bt408.2.1, bt408.2.2))) = some (r1, r2, r3) := h
  clear h
  replace H := Option.bind_eq_some_iff.mp H
  obtain ⟨⟨t408, t409, t410⟩, A30, H⟩ := H
  (try dsimp only at H)
  have A3 := Aside0.mk A30
  clear A30
  simp only [Option.some.injEq, Prod.mk.injEq] at H
  obtain ⟨rfl, rfl, rfl⟩ := H
  go_enter Try.func34, Try.ntmps34
  go_wp2_with (first | ((with_reducible refine gate_dst (N := 2) rfl ?_); refine be #[.int .i64 a0_0, .int .i64 a0_1, .int .i64 a0_2] 27 ?_; intro gb405 hg w4 hbox hb; have BK405 := Aside0.mk hbox; have GW405 := zs HB hg; have GE405 := zs HB hg; replace HB := zB HB hb; clear hb hbox hg) | ((with_reducible refine gate_dst (N := 3) rfl ?_); refine be #[.int .i64 a1_0, .int .i64 a1_1] 25 ?_; intro gb406 hg w5 hbox hb; have BK406 := Aside0.mk hbox; have GW406 := zs HB hg; have GE406 := zs HB hg; have NB405_406 := zn BK405 hg; have NB406_405 := zm BK405 hg; replace BK405 := zb BK405 hb; replace HB := zB HB hb; clear hb hbox hg) | ((with_reducible refine gate_dst (N := 4) rfl ?_); refine be #[.int .i64 0, .int .i64 0] 25 ?_; intro gb407 hg w6 hbox hb; have BK407 := Aside0.mk hbox; have GW407 := zs HB hg; have GE407 := zs HB hg; have NB405_407 := zn BK405 hg; have NB407_405 := zm BK405 hg; have NB406_407 := zn BK406 hg; have NB407_406 := zm BK406 hg; replace BK405 := zb BK405 hb; replace BK406 := zb BK406 hb; replace HB := zB HB hb; clear hb hbox hg; have hnb7 := NB405_406.1; have hnc7 := NB406_405.1; have hnb8 := NB405_407.1; have hnc8 := NB407_405.1; obtain ⟨hcz9_0, hcz9_1, hcz9_2, hfz9_0, hfz9_1, hfz9_2⟩ := zc3 BK405; have hnb10 := NB406_407.1; have hnc10 := NB407_406.1; obtain ⟨hcz11_0, hcz11_1, hfz11_0, hfz11_1⟩ := zc2 BK406) | ((with_reducible refine gate_callee (f := 53) rfl ?_); refine gl (some 11) Try.func53 #[.agg #[.int .i64 a0_0, .int .i64 a0_1], .agg #[.int .i64 a1_0, .int .i64 a1_1], .int .i64 a0_2] ?_; (with_reducible refine (spec_diAdd.calls k a0_0 a0_1 a1_0 a1_1 a0_2 t408 t409 t410 _ A3.1).mono ?_); rintro e w12 ⟨rfl, hb⟩; refine ⟨_, rfl, ?_⟩; replace BK405 := zb BK405 hb; replace BK406 := zb BK406 hb; replace BK407 := zb BK407 hb; replace HB := zB HB hb; clear hb; obtain ⟨hcz13_0, hcz13_1, hfz13_0, hfz13_1⟩ := zc2 BK407))
  refine bodyPost_ret (results_ct rfl _ _ gb407 25 #[.int .i64 t408, .int .i64 t409] (0, 0) _ rfl (bk BK407) Try.underlying25 rfl (by kernel_rfl)) rfl ?_
  exact ⟨er, bq HB⟩

/-! ### spec_l1Sign: function 73 -/
def spec_l1Sign.f (a0 : Int) : Option (Int) := if a0 > 0 then (some 1) else (if a0 < 0 then (some (-1)) else (some 0))
set_option maxHeartbeats 8000000 in
set_option maxRecDepth 100000 in
theorem spec_l1Sign.calls (a0 : Int) (r : Int) (w : World) (h : spec_l1Sign.f a0 = some r) :
    Calls Try.prog 73 #[.int .i64 a0] w fun e w' => e = .returned (.int .i64 r) ∧ Drawn0 w w' := by
  have H : (if a0 > 0 then (some 1) else (if a0 < 0 then (some (-1)) else (some 0))) = some r := h
  clear h
  by_cases c2 : a0 > 0
  · rw [if_pos c2] at H
    have c2b0 : decide (0 < a0) = true := decide_eq_true c2
    clear c2
    obtain rfl := Option.some.inj H
    go_enter Try.func73, Try.ntmps73
    go_wp2
    go_ret
    exact ⟨by first | rfl | (simp; done) | (simp [*]; done), by repeat (first | exact Drawn0.refl _ | apply Drawn0.step)⟩
  rw [if_neg c2] at H
  have c2b0 : decide (0 < a0) = false := decide_eq_false c2
  clear c2
  by_cases c3 : a0 < 0
  · rw [if_pos c3] at H
    have c3b0 : decide (a0 < 0) = true := decide_eq_true c3
    clear c3
    obtain rfl := Option.some.inj H
    go_enter Try.func73, Try.ntmps73
    go_wp2
    go_ret
    exact ⟨by first | rfl | (simp; done) | (simp [*]; done), by repeat (first | exact Drawn0.refl _ | apply Drawn0.step)⟩
  rw [if_neg c3] at H
  have c3b0 : decide (a0 < 0) = false := decide_eq_false c3
  clear c3
  obtain rfl := Option.some.inj H
  go_enter Try.func73, Try.ntmps73
  go_wp2
  go_ret
  exact ⟨by first | rfl | (simp; done) | (simp [*]; done), by repeat (first | exact Drawn0.refl _ | apply Drawn0.step)⟩

/-! ### spec_diCompare: function 49 -/
def spec_diCompare.f (a0_0 : Int) (a0_1 : Int) (a1_0 : Int) (a1_1 : Int) : Option (Int) := (spec_l1Sign.f (wrap64 ((wrap64 (a0_0 * a1_1)) - (wrap64 (a1_0 * a0_1))))).bind fun t413 => (some t413)
set_option maxHeartbeats 8000000 in
set_option maxRecDepth 100000 in
theorem spec_diCompare.calls (a0_0 : Int) (a0_1 : Int) (a1_0 : Int) (a1_1 : Int) (r : Int) (w : World) (h : spec_diCompare.f a0_0 a0_1 a1_0 a1_1 = some r) :
    Calls Try.prog 49 #[.agg #[.int .i64 a0_0, .int .i64 a0_1], .agg #[.int .i64 a1_0, .int .i64 a1_1]] w fun e w' => e = .returned (.int .i64 r) ∧ Below w.heap.size w w' := by
  have hu25 := Try.underlying25
  have HB := Aside0.mk (Below.refl w.heap.size w)
  have H : ((spec_l1Sign.f (wrap64 ((wrap64 (a0_0 * a1_1)) - (wrap64 (a1_0 * a0_1))))).bind fun t413 => (some t413)) = some r := h
  clear h
  replace H := Option.bind_eq_some_iff.mp H
  obtain ⟨t413, A30, H⟩ := H
  (try dsimp only at H)
  have A3 := Aside0.mk A30
  clear A30
  obtain rfl := Option.some.inj H
  go_enter Try.func49, Try.ntmps49
  go_wp2_with (first | ((with_reducible refine gate_dst (N := 2) rfl ?_); refine be #[.int .i64 a0_0, .int .i64 a0_1] 25 ?_; intro gb411 hg w4 hbox hb; have BK411 := Aside0.mk hbox; have GW411 := zs HB hg; have GE411 := zs HB hg; replace HB := zB HB hb; clear hb hbox hg) | ((with_reducible refine gate_dst (N := 3) rfl ?_); refine be #[.int .i64 a1_0, .int .i64 a1_1] 25 ?_; intro gb412 hg w5 hbox hb; have BK412 := Aside0.mk hbox; have GW412 := zs HB hg; have GE412 := zs HB hg; have NB411_412 := zn BK411 hg; have NB412_411 := zm BK411 hg; replace BK411 := zb BK411 hb; replace HB := zB HB hb; clear hb hbox hg; have hnb6 := NB411_412.1; have hnc6 := NB412_411.1; obtain ⟨hcz7_0, hcz7_1, hfz7_0, hfz7_1⟩ := zc2 BK411; obtain ⟨hcz8_0, hcz8_1, hfz8_0, hfz8_1⟩ := zc2 BK412) | ((with_reducible refine gate_callee (f := 73) rfl ?_); refine gl (some 16) Try.func73 #[.int .i64 (wrap64 ((wrap64 (a0_0 * a1_1)) - (wrap64 (a1_0 * a0_1))))] ?_; (with_reducible refine (spec_l1Sign.calls (wrap64 ((wrap64 (a0_0 * a1_1)) - (wrap64 (a1_0 * a0_1)))) t413 _ A3.1).mono ?_); rintro e w' ⟨rfl, ⟨nd, rfl⟩⟩; refine ⟨_, rfl, ?_⟩))
  go_ret
  exact ⟨er, bq HB⟩

end Go.Proofs.Ytoneipoioiokcaa.PFnHandsMeet
