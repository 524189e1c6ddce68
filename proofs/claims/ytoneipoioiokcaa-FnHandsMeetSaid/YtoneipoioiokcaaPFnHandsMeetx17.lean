/- A part of the walk of FnHandsMeet: which Lean function each Go function comes to, and that the machine's call does so. Written by a program of this repo (wip/gen/xprint.py). -/
import Derived.Test.YtoneipoioiokcaaPFnHandsMeetx0
import Derived.Test.YtoneipoioiokcaaPFnHandsMeetx1
import Derived.Test.YtoneipoioiokcaaPFnHandsMeetx11
import Derived.Test.YtoneipoioiokcaaPFnHandsMeetx12
import Derived.Test.YtoneipoioiokcaaPFnHandsMeetx15
import Derived.Test.YtoneipoioiokcaaPFnHandsMeetx16
namespace Go.Proofs.Ytoneipoioiokcaa.PFnHandsMeet
open Go.RowKit Go.Proofs.YtoneipoioiokcaaW.PrintWords Go.Proofs.YtoneipoioiokcaaW.PrintLast Go.Proofs.YtoneipoioiokcaaW.PrintMore
attribute [local go_sem] max2_int min2_int max_two min_two max_three min_three max_four min_four   -- for this text's walks alone
set_option linter.unusedVariables false
set_option linter.unusedSimpArgs false

attribute [local go_sem high] eqA25
/-! ### spec_MeetPlaces: function 13 -/
def spec_MeetPlaces.l0 : Nat → List (S25) → List (S25) → Int → Int → Int → Int → Int → Option ((List (S25)) × Bool)
  | 0, _, _, _, _, _, _, _ => none
  | k + 1, x8, x21, x22, x23, x465000, x465001, x465002 => if x23 < x22 then (if 0 ≤ x23 then (if x23 < (x21.length : Int) then ((spec_meAt.f k x465000 x465001 x465002 ((rd_T25 x21 x23).f0) ((rd_T25 x21 x23).f1)).bind fun bt472 => (if bt472.2.2 = true then ((spec_meSorted.f k x8 bt472.1 bt472.2.1).bind fun t476 => (spec_MeetPlaces.l0 k t476 x21 x22 (wrap64 (x23 + 1)) x465000 x465001 x465002)) else (some (([] : List (S25)), false)))) else (none)) else (none)) else (some (x8, true))
def spec_MeetPlaces.f (k : Nat) (a0_0 : Int) (a0_1 : Int) (a0_2 : Int) (a1_0 : Int) (a1_1 : Int) (a1_2 : Int) : Option ((List (S25)) × Bool) := (spec_MeetTimes.f k a0_0 a0_1 a0_2 a1_0 a1_1 a1_2).bind fun bt466 => (if bt466.2 = true then (spec_MeetPlaces.l0 k ([] : List (S25)) bt466.1 (bt466.1.length : Int) 0 a0_0 a0_1 a0_2) else (some (([] : List (S25)), false)))
theorem spec_MeetPlaces.mono_l : ∀ k, (∀ y0 y1 y2 y3 y4 y5 y6, LeO (spec_MeetPlaces.l0 k y0 y1 y2 y3 y4 y5 y6) (spec_MeetPlaces.l0 (k + 1) y0 y1 y2 y3 y4 y5 y6))
  | 0 => fun _ _ _ _ _ _ _ r h => by simp [spec_MeetPlaces.l0] at h
  | k + 1 => by
    have ih0 := spec_MeetPlaces.mono_l k
    intro y0 y1 y2 y3 y4 y5 y6
    unfold spec_MeetPlaces.l0
    repeat' first
    | (with_reducible exact ih0 _ _ _ _ _ _ _)
    | (with_reducible exact spec_MeetTimes.mono _ _ _ _ _ _ _)
    | (with_reducible exact spec_meAt.mono _ _ _ _ _ _)
    | (with_reducible exact spec_meSorted.mono _ _ _ _)
    | (with_reducible exact LeO.refl _)
    | (with_reducible exact LeO.none _)
    | (with_reducible refine LeO.ite ?_ ?_)
    | (with_reducible refine LeO.bind ?_ (fun _ => ?_))
    | exact ih0 _ _ _ _ _ _ _
    | exact spec_MeetTimes.mono _ _ _ _ _ _ _
    | exact spec_meAt.mono _ _ _ _ _ _
    | exact spec_meSorted.mono _ _ _ _
    | exact LeO.none _
    | refine LeO.ite ?_ ?_
    | refine LeO.bind ?_ (fun _ => ?_)
theorem spec_MeetPlaces.mono : ∀ a0 a1 a2 a3 a4 a5 k, LeO (spec_MeetPlaces.f k a0 a1 a2 a3 a4 a5) (spec_MeetPlaces.f (k + 1) a0 a1 a2 a3 a4 a5) := by
  intro a0 a1 a2 a3 a4 a5 k
  have ih0 := spec_MeetPlaces.mono_l k
  unfold spec_MeetPlaces.f
  repeat' first
      | (with_reducible exact ih0 _ _ _ _ _ _ _)
      | (with_reducible exact spec_MeetTimes.mono _ _ _ _ _ _ _)
      | (with_reducible exact spec_meAt.mono _ _ _ _ _ _)
      | (with_reducible exact spec_meSorted.mono _ _ _ _)
      | (with_reducible exact LeO.refl _)
      | (with_reducible exact LeO.none _)
      | (with_reducible refine LeO.ite ?_ ?_)
      | (with_reducible refine LeO.bind ?_ (fun _ => ?_))
      | exact ih0 _ _ _ _ _ _ _
      | exact spec_MeetTimes.mono _ _ _ _ _ _ _
      | exact spec_meAt.mono _ _ _ _ _ _
      | exact spec_meSorted.mono _ _ _ _
      | exact LeO.none _
      | refine LeO.ite ?_ ?_
      | refine LeO.bind ?_ (fun _ => ?_)
set_option maxHeartbeats 8000000 in
set_option maxRecDepth 100000 in
theorem spec_MeetPlaces.calls (k : Nat) (a0_0 : Int) (a0_1 : Int) (a0_2 : Int) (a1_0 : Int) (a1_1 : Int) (a1_2 : Int) (r1 : List (S25)) (r2 : Bool) (w : World) (h : spec_MeetPlaces.f k a0_0 a0_1 a0_2 a1_0 a1_1 a1_2 = some (r1, r2)) :
    Calls Try.prog 13 #[.agg #[.int .i64 a0_0, .int .i64 a0_1, .int .i64 a0_2], .agg #[.int .i64 a1_0, .int .i64 a1_1, .int .i64 a1_2]] w fun e w' => ∃ v0_ : Value, e = .returned (.tuple #[v0_, .bool r2]) ∧ Kd.R k25 25 w' w.heap.size (fun _ => True) v0_ r1 ∧ Below w.heap.size w w' := by
  have hu27 := Try.underlying27
  have hu25 := Try.underlying25
  have HB := Aside0.mk (Below.refl w.heap.size w)
  have H : ((spec_MeetTimes.f k a0_0 a0_1 a0_2 a1_0 a1_1 a1_2).bind fun bt466 => (if bt466.2 = true then (spec_MeetPlaces.l0 k ([] : List (S25)) bt466.1 (bt466.1.length : Int) 0 a0_0 a0_1 a0_2) else (some (([] : List (S25)), false)))) = some (r1, r2) := h
  clear h
  replace H := Option.bind_eq_some_iff.mp H
  obtain ⟨⟨t466, t469⟩, A30, H⟩ := H
  (try dsimp only at H)
  have A3 := Aside0.mk A30
  clear A30
  by_cases c4 : t469 = true
  · subst c4
    rw [if_pos rfl] at H
    have H' := Aside0.mk H
    clear H
    go_enter Try.func13, Try.ntmps13
    go_wp2_with (first | ((with_reducible refine gate_dst (N := 2) rfl ?_); refine be #[.int .i64 a0_0, .int .i64 a0_1, .int .i64 a0_2] 27 ?_; intro gb464 hg w5 hbox hb; have BK464 := Aside0.mk hbox; have GW464 := zs HB hg; have GE464 := zs HB hg; replace HB := zB HB hb; clear hb hbox hg) | ((with_reducible refine gate_dst (N := 3) rfl ?_); refine be #[.int .i64 a1_0, .int .i64 a1_1, .int .i64 a1_2] 27 ?_; intro gb465 hg w6 hbox hb; have BK465 := Aside0.mk hbox; have GW465 := zs HB hg; have GE465 := zs HB hg; have NB464_465 := zn BK464 hg; have NB465_464 := zm BK464 hg; replace BK464 := zb BK464 hb; replace HB := zB HB hb; clear hb hbox hg; have hnb7 := NB464_465.1; have hnc7 := NB465_464.1; obtain ⟨hcz8_0, hcz8_1, hcz8_2, hfz8_0, hfz8_1, hfz8_2⟩ := zc3 BK464; obtain ⟨hcz9_0, hcz9_1, hcz9_2, hfz9_0, hfz9_1, hfz9_2⟩ := zc3 BK465) | ((with_reducible refine gate_callee (f := 7) rfl ?_); refine gl (some 16) Try.func7 #[.agg #[.int .i64 a0_0, .int .i64 a0_1, .int .i64 a0_2], .agg #[.int .i64 a1_0, .int .i64 a1_1, .int .i64 a1_2]] ?_; (with_reducible refine (spec_MeetTimes.calls k a0_0 a0_1 a0_2 a1_0 a1_1 a1_2 t466 true _ A3.1).mono ?_); rintro e w10 ⟨v467, rfl, ho0, hb⟩; refine ⟨_, rfl, ?_⟩; have HO468 := Aside0.mk (Kd.R_lower ho0 (below_size (bq HB))); replace BK464 := zb BK464 hb; replace BK465 := zb BK465 hb; replace HB := zB HB hb; (try clear hb); (try clear hb2); (try clear hk); (try clear hi); (try clear ho0); obtain ⟨Ao11, co11, eo11⟩ := Kd.R_slice HO468.1; subst eo11))
    go_loopg [8, 23] k (fun kq v8 v23 w' => ∃ (x8_1 : List (S25)) (x23_1 : Int), v23 = .int .i64 x23_1 ∧ Aside0 (spec_MeetPlaces.l0 kq x8_1 t466 (t466.length : Int) x23_1 a0_0 a0_1 a0_2 = some (r1, r2)) ∧ Aside0 (kq ≤ k) ∧ Aside0 (Kd.R k25 25 w' w.heap.size (fun k_ => some k_ ≠ ((.slice Ao11 t466.length co11) : Value).ownBlock) v8 x8_1) ∧ Aside0 (Kd.R k25 25 w' w.heap.size (fun k_ => some k_ ≠ (v8 : Value).ownBlock) (.slice Ao11 t466.length co11) t466) ∧ Aside0 (w'.heap[gb464]? = some (.cells #[.int .i64 a0_0, .int .i64 a0_1, .int .i64 a0_2] 27 (0, 0))) ∧ Aside0 (w'.heap[gb465]? = some (.cells #[.int .i64 a1_0, .int .i64 a1_1, .int .i64 a1_2] 27 (0, 0))) ∧ Aside0 (Below w.heap.size w w'))
    case atStart => exact ⟨(([] : List (S25))), (0), ew, H', ⟨Nat.le_refl _⟩, ⟨by first | exact Kd.R_nil _ _ _ _ _ | exact Kd.N_nil _ _ _ _ _ | exact Kd.V_nil _ _ _ _ _ | exact Kd.Q_nil _ _ _ _ _ | exact Kd.S_nil _ _ _ _ _⟩, ⟨by (with_reducible repeat (first | apply Kd.R_alloc | apply Kd.R_drewN | apply Kd.R_drew)); exact Kd.R_mono HO468.1 (fun _ hk => (by simp [Value.ownBlock]))⟩, ⟨bk BK464⟩, ⟨bk BK465⟩, ⟨bq HB⟩⟩
    case round =>
      clear H'
      try clear c4
      try clear hcz8_0
      try clear hcz8_1
      try clear hcz8_2
      try clear hcz9_0
      try clear hcz9_1
      try clear hcz9_2
      try clear hfz8_0
      try clear hfz8_1
      try clear hfz8_2
      try clear hfz9_0
      try clear hfz9_1
      try clear hfz9_2
      obtain ⟨x8_1, x23_1, rfl, HA, HK1, HO_8, HO_21, BK464, BK465, HB⟩ := hrel
      cases gk with
      | zero => exact absurd HA.1 (by simp [spec_MeetPlaces.l0])
      | succ k1 =>
        have H := HA.1
        clear HA
        simp only [spec_MeetPlaces.l0] at H
        by_cases c12 : x23_1 < (t466.length : Int)
        · rw [if_pos c12] at H
          have c12b0 : decide (x23_1 < (t466.length : Int)) = true := decide_eq_true c12
          clear c12
          by_cases c13 : 0 ≤ x23_1
          · rw [if_pos c13] at H
            have c13b0 : decide (0 ≤ x23_1) = true := decide_eq_true c13
            clear c13
            by_cases c14 : x23_1 < (t466.length : Int)
            · rw [if_pos c14] at H
              have c14b0 : decide (x23_1 < (t466.length : Int)) = true := decide_eq_true c14
              clear c14
              replace H := Option.bind_eq_some_iff.mp H
              obtain ⟨⟨t472, t473, t474⟩, A150, H⟩ := H
              (try dsimp only at H)
              have A15 := Aside0.mk A150
              clear A150
              by_cases c16 : t474 = true
              · subst c16
                rw [if_pos rfl] at H
                replace H := Option.bind_eq_some_iff.mp H
                obtain ⟨t476, A170, H⟩ := H
                (try dsimp only at H)
                have A17 := Aside0.mk A170
                clear A170
                have H' := Aside0.mk H
                clear H
                have p470 : 0 ≤ (x23_1 : Int) := of_decide_eq_true (by first | (with_reducible assumption) | assumption)
                have q470 : x23_1 < (t466.length : Int) := of_decide_eq_true (by first | (with_reducible assumption) | assumption)
                obtain ⟨ad470, e470, hx470_0, hx470_1⟩ := at_T25 (Kd.R_reads' HO_21.1).2.2 x23_1 p470 q470
                cases e470
                replace p470 := eq_true p470
                replace q470 := eq_true q470
                go_wp2_with (first | ((with_reducible refine gate_dst (N := 10) rfl ?_); refine be #[.int .i64 0, .int .i64 0] 25 ?_; intro gb471 hg w18 hbox hb; replace HO_8 := Aside0.mk (Kd.R_below (Kd.R_elderB (rq HO_8) gb471 (Nat.le_of_eq hg.symm)) hb); replace HO_21 := Aside0.mk (Kd.R_below (Kd.R_elderB (rq HO_21) gb471 (Nat.le_of_eq hg.symm)) hb); have BK471 := Aside0.mk hbox; have GW471 := zs HB hg; have GE471 := zs HB hg; have NB464_471 := zn BK464 hg; have NB471_464 := zm BK464 hg; have NB465_471 := zn BK465 hg; have NB471_465 := zm BK465 hg; replace BK464 := zb BK464 hb; replace BK465 := zb BK465 hb; replace HB := zB HB hb; clear hb hbox hg; have hnb19 := NB471_464.1; have hnc19 := NB464_471.1; have hnb20 := NB471_465.1; have hnc20 := NB465_471.1; obtain ⟨hcz21_0, hcz21_1, hfz21_0, hfz21_1⟩ := zc2 BK471; have hnb22 := NB464_465.1; have hnc22 := NB465_464.1; obtain ⟨hcz23_0, hcz23_1, hcz23_2, hfz23_0, hfz23_1, hfz23_2⟩ := zc3 BK464) | ((with_reducible refine gate_callee (f := 34) rfl ?_); refine gl (some 30) Try.func34 #[.agg #[.int .i64 a0_0, .int .i64 a0_1, .int .i64 a0_2], .agg #[.int .i64 ((rd_T25 t466 x23_1).f0), .int .i64 ((rd_T25 t466 x23_1).f1)]] ?_; (with_reducible refine (spec_meAt.calls k1 a0_0 a0_1 a0_2 ((rd_T25 t466 x23_1).f0) ((rd_T25 t466 x23_1).f1) t472 t473 true _ A15.1).mono ?_); rintro e w24 ⟨rfl, hb⟩; refine ⟨_, rfl, ?_⟩; replace HO_8 := Aside0.mk (Kd.R_below (by (with_reducible repeat (first | apply Kd.R_alloc | apply Kd.R_drewN | apply Kd.R_drew)); exact (Kd.R_mono (Kd.R_far (p := ⟨gb471, 1, none⟩) (Kd.R_far (p := ⟨gb471, 0, none⟩) (Kd.R_mono HO_8.1 (fun k_ hk => (⟨hk, hk.2⟩ : _ ∧ k_ ≠ gb471))) (fun _ hk => hk.2) (.int .i64 ((rd_T25 t466 x23_1).f0))) (fun _ hk => hk.2) (.int .i64 ((rd_T25 t466 x23_1).f1))) (fun _ h_ => h_.1))) hb); replace HO_21 := Aside0.mk (Kd.R_below (by (with_reducible repeat (first | apply Kd.R_alloc | apply Kd.R_drewN | apply Kd.R_drew)); exact (Kd.R_mono (Kd.R_far (p := ⟨gb471, 1, none⟩) (Kd.R_far (p := ⟨gb471, 0, none⟩) (Kd.R_mono HO_21.1 (fun k_ hk => (⟨hk, hk.2⟩ : _ ∧ k_ ≠ gb471))) (fun _ hk => hk.2) (.int .i64 ((rd_T25 t466 x23_1).f0))) (fun _ hk => hk.2) (.int .i64 ((rd_T25 t466 x23_1).f1))) (fun _ h_ => h_.1))) hb); replace BK464 := zy (o' := .cells #[.int .i64 a0_0, .int .i64 a0_1, .int .i64 a0_2] 27 (0, 0)) BK464 hb; replace BK465 := zy (o' := .cells #[.int .i64 a1_0, .int .i64 a1_1, .int .i64 a1_2] 27 (0, 0)) BK465 hb; replace BK471 := zy (o' := .cells #[.int .i64 ((rd_T25 t466 x23_1).f0), .int .i64 ((rd_T25 t466 x23_1).f1)] 25 (0, 0)) BK471 hb; replace HB := zB HB hb; clear hb) | ((with_reducible refine gate_dst (N := 11) rfl ?_); refine be #[.int .i64 0, .int .i64 0] 25 ?_; intro gb475 hg w25 hbox hb; replace HO_8 := Aside0.mk (Kd.R_below (Kd.R_elderB (rq HO_8) gb475 (Nat.le_of_eq hg.symm)) hb); replace HO_21 := Aside0.mk (Kd.R_below (Kd.R_elderB (rq HO_21) gb475 (Nat.le_of_eq hg.symm)) hb); have BK475 := Aside0.mk hbox; have GW475 := zs HB hg; have GE475 := zs HB hg; have NB464_475 := zn BK464 hg; have NB475_464 := zm BK464 hg; have NB465_475 := zn BK465 hg; have NB475_465 := zm BK465 hg; have NB471_475 := zn BK471 hg; have NB475_471 := zm BK471 hg; replace BK464 := zb BK464 hb; replace BK465 := zb BK465 hb; replace BK471 := zb BK471 hb; replace HB := zB HB hb; clear hb hbox hg; have hnb26 := NB475_464.1; have hnc26 := NB464_475.1; have hnb27 := NB475_465.1; have hnc27 := NB465_475.1; have hnb28 := NB475_471.1; have hnc28 := NB471_475.1; obtain ⟨hcz29_0, hcz29_1, hfz29_0, hfz29_1⟩ := zc2 BK475) | ((with_reducible refine gate_store (t := 25) (p := 11) rfl ?_); refine store_event (t := 25) (p := 11) (v := ?vo_w30) (w1 := ((w25.setCell ⟨gb475, 0, none⟩ (.int .i64 t472)).setCell ⟨gb475, 1, none⟩ (.int .i64 t473))) ?hg ?ho ?hn ?hr ?_; (case ho => rfl); (case hg => rfl); (case hn => rfl); (case hr => first | (go_simp; done) | (go_simp; rfl)); intro w30 hw; have n0_ : Aside0 (Kd.R k25 25 w30 w.heap.size (fun k_ => some k_ ≠ (.slice (some ad470) t466.length co11 : Value).ownBlock ∧ k_ ≠ gb471 ∧ k_ ≠ gb475) u8 x8_1) := ⟨(by rw [hw]; exact (by (with_reducible repeat (first | apply Kd.R_alloc | apply Kd.R_drewN | apply Kd.R_drew)); exact Kd.R_mono (Kd.R_far (p := ⟨gb475, 1, none⟩) (Kd.R_far (p := ⟨gb475, 0, none⟩) (Kd.R_mono HO_8.1 (fun k_ hk => (⟨hk, hk.2⟩ : _ ∧ k_ ≠ gb475))) (fun _ hk => hk.2) (.int .i64 t472)) (fun _ hk => hk.2) (.int .i64 t473)) (fun _ hk => ⟨hk.1.1.1, ⟨hk.1.1.2, hk.1.2⟩⟩)))⟩; have n1_ : Aside0 (Kd.R k25 25 w30 w.heap.size (fun k_ => some k_ ≠ (u8 : Value).ownBlock ∧ k_ ≠ gb471 ∧ k_ ≠ gb475) (.slice (some ad470) t466.length co11) t466) := ⟨(by rw [hw]; exact (by (with_reducible repeat (first | apply Kd.R_alloc | apply Kd.R_drewN | apply Kd.R_drew)); exact Kd.R_mono (Kd.R_far (p := ⟨gb475, 1, none⟩) (Kd.R_far (p := ⟨gb475, 0, none⟩) (Kd.R_mono HO_21.1 (fun k_ hk => (⟨hk, hk.2⟩ : _ ∧ k_ ≠ gb475))) (fun _ hk => hk.2) (.int .i64 t472)) (fun _ hk => hk.2) (.int .i64 t473)) (fun _ hk => ⟨hk.1.1.1, ⟨hk.1.1.2, hk.1.2⟩⟩)))⟩; have n2_ : Aside0 (w30.heap[gb464]? = some (.cells #[.int .i64 a0_0, .int .i64 a0_1, .int .i64 a0_2] 27 (0, 0))) := ⟨(by rw [hw]; exact (bk BK464))⟩; have n3_ : Aside0 (w30.heap[gb465]? = some (.cells #[.int .i64 a1_0, .int .i64 a1_1, .int .i64 a1_2] 27 (0, 0))) := ⟨(by rw [hw]; exact (bk BK465))⟩; have n4_ : Aside0 (w30.heap[gb471]? = some (.cells #[.int .i64 ((rd_T25 t466 x23_1).f0), .int .i64 ((rd_T25 t466 x23_1).f1)] 25 (0, 0))) := ⟨(by rw [hw]; exact (bk BK471))⟩; have n5_ : Aside0 (w30.heap[gb475]? = some (.cells #[.int .i64 t472, .int .i64 t473] 25 (0, 0))) := ⟨(by rw [hw]; exact (bk BK475))⟩; have n6_ : Aside0 (Below w.heap.size w w30) := ⟨(by rw [hw]; exact (bq HB))⟩; clear hw; clear HO_8; clear HO_21; clear BK464; clear BK465; clear BK471; clear BK475; clear HB; have HO_8 := n0_; have HO_21 := n1_; have BK464 := n2_; have BK465 := n3_; have BK471 := n4_; have BK475 := n5_; have HB := n6_; clear n0_ n1_ n2_ n3_ n4_ n5_ n6_; obtain ⟨hcz31_0, hcz31_1, hfz31_0, hfz31_1⟩ := zc2 BK475; obtain ⟨Ao32, co32, eo32⟩ := Kd.R_slice HO_8.1; subst eo32) | ((with_reducible refine gate_callee (f := 35) rfl ?_); refine gl (some 37) Try.func35 #[.slice Ao32 x8_1.length co32, .agg #[.int .i64 t472, .int .i64 t473]] ?_; (with_reducible refine (spec_meSorted.calls k1 (fun k_ => some k_ = (.slice Ao32 x8_1.length co32 : Value).ownBlock) (.slice Ao32 x8_1.length co32) x8_1 t472 t473 t476 w _ ?side1 ?side2 A17.1).mono ?_); (case side1 => exact bq HB); (case side2 => exact Kd.R_tight rfl HO_8.1); rintro e w33 ⟨v477, rfl, ho0, hb, hkp⟩; refine ⟨_, rfl, ?_⟩; have HO478 := Aside0.mk (Kd.R_mono (ok' := fun k_ => some k_ ≠ (.slice (some ad470) t466.length co11 : Value).ownBlock ∧ k_ ≠ gb471 ∧ k_ ≠ gb475) ho0 (fun k_ hk_ => ⟨Or.elim hk_ (fun hs_ => fun e_ => (((HO_21.1).1 k_ e_.symm).1) hs_) (fun hn_ => (Kd.fresh' (Kd.R_lt (rq HO_21)) k_ hn_)), Or.elim hk_ (fun hs_ => fun e_ => (Kd.R_away HO_8.1 (fun _ hk => hk.2.1)) (by rw [← e_]; exact hs_)) (fun hn_ => (Kd.freshB (g := gb471) (o := .cells #[.int .i64 ((rd_T25 t466 x23_1).f0), .int .i64 ((rd_T25 t466 x23_1).f1)] 25 (0, 0)) (bk BK471) k_ hn_)), Or.elim hk_ (fun hs_ => fun e_ => (Kd.R_away HO_8.1 (fun _ hk => hk.2.2)) (by rw [← e_]; exact hs_)) (fun hn_ => (Kd.freshB (g := gb475) (o := .cells #[.int .i64 t472, .int .i64 t473] 25 (0, 0)) (bk BK475) k_ hn_))⟩)); replace HO_21 := Aside0.mk (Kd.R_mono (ok' := fun k_ => k_ ≠ gb471 ∧ k_ ≠ gb475 ∧ some k_ ≠ (v477 : Value).ownBlock) (Kd.R_keptB (HO_21.1) hkp (fun k_ hk_ hs_ => (hk_.1) hs_)) (fun k_ hk_ => ⟨hk_.1.2.1, hk_.1.2.2, fun e_ => Or.elim (ho0.1 k_ e_.symm) (fun hs_ => hk_.2.1 hs_) (fun hn_ => Nat.not_le.2 hk_.2.2 hn_)⟩)); replace BK464 := Aside0.mk (blk_kept (bk BK464) hkp (fun hs_ => (fun e_ => (Kd.R_ne HO_8.1 BK464.1 (by decide)) e_) hs_)); replace BK465 := Aside0.mk (blk_kept (bk BK465) hkp (fun hs_ => (fun e_ => (Kd.R_ne HO_8.1 BK465.1 (by decide)) e_) hs_)); replace BK471 := Aside0.mk (blk_kept (bk BK471) hkp (fun hs_ => (fun e_ => (Kd.R_away HO_8.1 (fun _ hk => hk.2.1)) e_) hs_)); replace BK475 := Aside0.mk (blk_kept (bk BK475) hkp (fun hs_ => (fun e_ => (Kd.R_away HO_8.1 (fun _ hk => hk.2.2)) e_) hs_)); replace HB := Aside0.mk hb; clear HO_8; (try clear hb); (try clear hkp); (try clear ho0)))
                go_roundg k1
                case measure => have := HK1.1; omega
                case rel => exact ⟨(t476), (wrap64 (x23_1 + 1)), ew, H', ⟨by have := HK1.1; omega⟩, ⟨by (with_reducible repeat (first | apply Kd.R_alloc | apply Kd.R_drewN | apply Kd.R_drew)); exact Kd.R_mono HO478.1 (fun _ hk => hk.1)⟩, ⟨by (with_reducible repeat (first | apply Kd.R_alloc | apply Kd.R_drewN | apply Kd.R_drew)); exact Kd.R_mono HO_21.1 (fun _ hk => hk.2.2)⟩, ⟨bk BK464⟩, ⟨bk BK465⟩, ⟨bq HB⟩⟩
              replace c16 := Bool.eq_false_iff.mpr c16
              subst c16
              rw [if_neg (show ¬ (false = true) by decide)] at H
              simp only [Option.some.injEq, Prod.mk.injEq] at H
              obtain ⟨rfl, rfl⟩ := H
              have p470 : 0 ≤ (x23_1 : Int) := of_decide_eq_true (by first | (with_reducible assumption) | assumption)
              have q470 : x23_1 < (t466.length : Int) := of_decide_eq_true (by first | (with_reducible assumption) | assumption)
              obtain ⟨ad470, e470, hx470_0, hx470_1⟩ := at_T25 (Kd.R_reads' HO_21.1).2.2 x23_1 p470 q470
              cases e470
              replace p470 := eq_true p470
              replace q470 := eq_true q470
              go_wp2_with (first | ((with_reducible refine gate_dst (N := 10) rfl ?_); refine be #[.int .i64 0, .int .i64 0] 25 ?_; intro gb471 hg w34 hbox hb; replace HO_8 := Aside0.mk (Kd.R_below (Kd.R_elderB (rq HO_8) gb471 (Nat.le_of_eq hg.symm)) hb); replace HO_21 := Aside0.mk (Kd.R_below (Kd.R_elderB (rq HO_21) gb471 (Nat.le_of_eq hg.symm)) hb); have BK471 := Aside0.mk hbox; have GW471 := zs HB hg; have GE471 := zs HB hg; have NB464_471 := zn BK464 hg; have NB471_464 := zm BK464 hg; have NB465_471 := zn BK465 hg; have NB471_465 := zm BK465 hg; replace BK464 := zb BK464 hb; replace BK465 := zb BK465 hb; replace HB := zB HB hb; clear hb hbox hg; have hnb35 := NB471_464.1; have hnc35 := NB464_471.1; have hnb36 := NB471_465.1; have hnc36 := NB465_471.1; obtain ⟨hcz37_0, hcz37_1, hfz37_0, hfz37_1⟩ := zc2 BK471; have hnb38 := NB464_465.1; have hnc38 := NB465_464.1; obtain ⟨hcz39_0, hcz39_1, hcz39_2, hfz39_0, hfz39_1, hfz39_2⟩ := zc3 BK464) | ((with_reducible refine gate_callee (f := 34) rfl ?_); refine gl (some 30) Try.func34 #[.agg #[.int .i64 a0_0, .int .i64 a0_1, .int .i64 a0_2], .agg #[.int .i64 ((rd_T25 t466 x23_1).f0), .int .i64 ((rd_T25 t466 x23_1).f1)]] ?_; (with_reducible refine (spec_meAt.calls k1 a0_0 a0_1 a0_2 ((rd_T25 t466 x23_1).f0) ((rd_T25 t466 x23_1).f1) t472 t473 false _ A15.1).mono ?_); rintro e w40 ⟨rfl, hb⟩; refine ⟨_, rfl, ?_⟩; replace HO_8 := Aside0.mk (Kd.R_below (by (with_reducible repeat (first | apply Kd.R_alloc | apply Kd.R_drewN | apply Kd.R_drew)); exact (Kd.R_mono (Kd.R_far (p := ⟨gb471, 1, none⟩) (Kd.R_far (p := ⟨gb471, 0, none⟩) (Kd.R_mono HO_8.1 (fun k_ hk => (⟨hk, hk.2⟩ : _ ∧ k_ ≠ gb471))) (fun _ hk => hk.2) (.int .i64 ((rd_T25 t466 x23_1).f0))) (fun _ hk => hk.2) (.int .i64 ((rd_T25 t466 x23_1).f1))) (fun _ h_ => h_.1))) hb); replace HO_21 := Aside0.mk (Kd.R_below (by (with_reducible repeat (first | apply Kd.R_alloc | apply Kd.R_drewN | apply Kd.R_drew)); exact (Kd.R_mono (Kd.R_far (p := ⟨gb471, 1, none⟩) (Kd.R_far (p := ⟨gb471, 0, none⟩) (Kd.R_mono HO_21.1 (fun k_ hk => (⟨hk, hk.2⟩ : _ ∧ k_ ≠ gb471))) (fun _ hk => hk.2) (.int .i64 ((rd_T25 t466 x23_1).f0))) (fun _ hk => hk.2) (.int .i64 ((rd_T25 t466 x23_1).f1))) (fun _ h_ => h_.1))) hb); replace BK464 := zy (o' := .cells #[.int .i64 a0_0, .int .i64 a0_1, .int .i64 a0_2] 27 (0, 0)) BK464 hb; replace BK465 := zy (o' := .cells #[.int .i64 a1_0, .int .i64 a1_1, .int .i64 a1_2] 27 (0, 0)) BK465 hb; replace BK471 := zy (o' := .cells #[.int .i64 ((rd_T25 t466 x23_1).f0), .int .i64 ((rd_T25 t466 x23_1).f1)] 25 (0, 0)) BK471 hb; replace HB := zB HB hb; clear hb) | ((with_reducible refine gate_dst (N := 11) rfl ?_); refine be #[.int .i64 0, .int .i64 0] 25 ?_; intro gb475 hg w41 hbox hb; replace HO_8 := Aside0.mk (Kd.R_below (Kd.R_elderB (rq HO_8) gb475 (Nat.le_of_eq hg.symm)) hb); replace HO_21 := Aside0.mk (Kd.R_below (Kd.R_elderB (rq HO_21) gb475 (Nat.le_of_eq hg.symm)) hb); have BK475 := Aside0.mk hbox; have GW475 := zs HB hg; have GE475 := zs HB hg; have NB464_475 := zn BK464 hg; have NB475_464 := zm BK464 hg; have NB465_475 := zn BK465 hg; have NB475_465 := zm BK465 hg; have NB471_475 := zn BK471 hg; have NB475_471 := zm BK471 hg; replace BK464 := zb BK464 hb; replace BK465 := zb BK465 hb; replace BK471 := zb BK471 hb; replace HB := zB HB hb; clear hb hbox hg; have hnb42 := NB475_464.1; have hnc42 := NB464_475.1; have hnb43 := NB475_465.1; have hnc43 := NB465_475.1; have hnb44 := NB475_471.1; have hnc44 := NB471_475.1; obtain ⟨hcz45_0, hcz45_1, hfz45_0, hfz45_1⟩ := zc2 BK475))
              go_ret2
              exact ⟨_, er, by first | exact Kd.R_nil _ _ _ _ _ | exact Kd.N_nil _ _ _ _ _ | exact Kd.V_nil _ _ _ _ _ | exact Kd.Q_nil _ _ _ _ _ | exact Kd.S_nil _ _ _ _ _, bq HB⟩
            rw [if_neg c14] at H
            exact absurd H (by simp)
          rw [if_neg c13] at H
          exact absurd H (by simp)
        rw [if_neg c12] at H
        have c12b0 : decide (x23_1 < (t466.length : Int)) = false := decide_eq_false c12
        clear c12
        simp only [Option.some.injEq, Prod.mk.injEq] at H
        obtain ⟨rfl, rfl⟩ := H
        go_wp2
        go_ret2
        exact ⟨_, er, by (with_reducible repeat (first | apply Kd.R_alloc | apply Kd.R_drewN | apply Kd.R_drew)); exact Kd.R_mono HO_8.1 (fun _ hk => trivial), bq HB⟩
  replace c4 := Bool.eq_false_iff.mpr c4
  subst c4
  rw [if_neg (show ¬ (false = true) by decide)] at H
  simp only [Option.some.injEq, Prod.mk.injEq] at H
  obtain ⟨rfl, rfl⟩ := H
  go_enter Try.func13, Try.ntmps13
  go_wp2_with (first | ((with_reducible refine gate_dst (N := 2) rfl ?_); refine be #[.int .i64 a0_0, .int .i64 a0_1, .int .i64 a0_2] 27 ?_; intro gb464 hg w46 hbox hb; have BK464 := Aside0.mk hbox; have GW464 := zs HB hg; have GE464 := zs HB hg; replace HB := zB HB hb; clear hb hbox hg) | ((with_reducible refine gate_dst (N := 3) rfl ?_); refine be #[.int .i64 a1_0, .int .i64 a1_1, .int .i64 a1_2] 27 ?_; intro gb465 hg w47 hbox hb; have BK465 := Aside0.mk hbox; have GW465 := zs HB hg; have GE465 := zs HB hg; have NB464_465 := zn BK464 hg; have NB465_464 := zm BK464 hg; replace BK464 := zb BK464 hb; replace HB := zB HB hb; clear hb hbox hg; have hnb48 := NB464_465.1; have hnc48 := NB465_464.1; obtain ⟨hcz49_0, hcz49_1, hcz49_2, hfz49_0, hfz49_1, hfz49_2⟩ := zc3 BK464; obtain ⟨hcz50_0, hcz50_1, hcz50_2, hfz50_0, hfz50_1, hfz50_2⟩ := zc3 BK465) | ((with_reducible refine gate_callee (f := 7) rfl ?_); refine gl (some 16) Try.func7 #[.agg #[.int .i64 a0_0, .int .i64 a0_1, .int .i64 a0_2], .agg #[.int .i64 a1_0, .int .i64 a1_1, .int .i64 a1_2]] ?_; (with_reducible refine (spec_MeetTimes.calls k a0_0 a0_1 a0_2 a1_0 a1_1 a1_2 t466 false _ A3.1).mono ?_); rintro e w51 ⟨v467, rfl, ho0, hb⟩; refine ⟨_, rfl, ?_⟩; have HO468 := Aside0.mk (Kd.R_lower ho0 (below_size (bq HB))); replace BK464 := zb BK464 hb; replace BK465 := zb BK465 hb; replace HB := zB HB hb; (try clear hb); (try clear hb2); (try clear hk); (try clear hi); (try clear ho0)))
  go_ret2
  exact ⟨_, er, by first | exact Kd.R_nil _ _ _ _ _ | exact Kd.N_nil _ _ _ _ _ | exact Kd.V_nil _ _ _ _ _ | exact Kd.Q_nil _ _ _ _ _ | exact Kd.S_nil _ _ _ _ _, bq HB⟩

/-! ### laws_kTurns: function 14 -/
def laws_kTurns.l0 : Nat → List (S25) → List (S25) → Int → Int → Option (Bool)
  | 0, _, _, _, _ => none
  | k + 1, x0, x1, x12, x13 => if x13 < x12 then (if 0 ≤ x13 then (if x13 < (x0.length : Int) then (if x13 < (x1.length : Int) then (if (!(((rd_T25 x0 x13).f0) == ((rd_T25 x1 x13).f0)) || (!(((rd_T25 x0 x13).f1) == ((rd_T25 x1 x13).f1)))) = true then (some false) else (laws_kTurns.l0 k x0 x1 x12 (wrap64 (x13 + 1)))) else (none)) else (none)) else (none)) else (some true)
def laws_kTurns.f (k : Nat) (l0 : List (S25)) (l1 : List (S25)) : Option (Bool) := if (l0.length : Int) = (l1.length : Int) then (laws_kTurns.l0 k l0 l1 (l0.length : Int) 0) else (some false)
theorem laws_kTurns.mono_l : ∀ k, (∀ y0 y1 y2 y3, LeO (laws_kTurns.l0 k y0 y1 y2 y3) (laws_kTurns.l0 (k + 1) y0 y1 y2 y3))
  | 0 => fun _ _ _ _ r h => by simp [laws_kTurns.l0] at h
  | k + 1 => by
    have ih0 := laws_kTurns.mono_l k
    intro y0 y1 y2 y3
    unfold laws_kTurns.l0
    repeat' first
    | (with_reducible exact ih0 _ _ _ _)
    | (with_reducible exact LeO.refl _)
    | (with_reducible exact LeO.none _)
    | (with_reducible refine LeO.ite ?_ ?_)
    | (with_reducible refine LeO.bind ?_ (fun _ => ?_))
    | exact ih0 _ _ _ _
    | exact LeO.none _
    | refine LeO.ite ?_ ?_
    | refine LeO.bind ?_ (fun _ => ?_)
theorem laws_kTurns.mono : ∀ a0 a1 k, LeO (laws_kTurns.f k a0 a1) (laws_kTurns.f (k + 1) a0 a1) := by
  intro a0 a1 k
  have ih0 := laws_kTurns.mono_l k
  unfold laws_kTurns.f
  repeat' first
      | (with_reducible exact ih0 _ _ _ _)
      | (with_reducible exact LeO.refl _)
      | (with_reducible exact LeO.none _)
      | (with_reducible refine LeO.ite ?_ ?_)
      | (with_reducible refine LeO.bind ?_ (fun _ => ?_))
      | exact ih0 _ _ _ _
      | exact LeO.none _
      | refine LeO.ite ?_ ?_
      | refine LeO.bind ?_ (fun _ => ?_)
set_option maxHeartbeats 8000000 in
set_option maxRecDepth 100000 in
theorem laws_kTurns.calls (k : Nat) (A0 : Option Addr) (c0 : Nat) (l0 : List (S25)) (A1 : Option Addr) (c1 : Nat) (l1 : List (S25)) (r : Bool) (w : World) (hr0 : Kd.C k25 w A0 l0.length l0) (hc0 : l0.length ≤ c0) (hr1 : Kd.C k25 w A1 l1.length l1) (hc1 : l1.length ≤ c1) (h : laws_kTurns.f k l0 l1 = some r) :
    Calls Try.prog 14 #[.slice A0 l0.length c0, .slice A1 l1.length c1] w fun e w' => e = .returned (.bool r) ∧ Drawn0 w w' := by
  have hu25 := Try.underlying25
  have HR0 := Aside0.mk hr0
  have HC0 := Aside0.mk hc0
  clear hr0 hc0
  have HR1 := Aside0.mk hr1
  have HC1 := Aside0.mk hc1
  clear hr1 hc1
  have H : (if (l0.length : Int) = (l1.length : Int) then (laws_kTurns.l0 k l0 l1 (l0.length : Int) 0) else (some false)) = some r := h
  clear h
  by_cases c3 : (l0.length : Int) = (l1.length : Int)
  · rw [if_pos c3] at H
    have c3b0 : ((l0.length : Int) == (l1.length : Int)) = true := beq_iff_eq.mpr c3
    have c3b1 : ((l0.length : Int) != (l1.length : Int)) = false := bne_eq_false_iff_eq.mpr c3
    have c3b2 : (l0.length == l1.length) = true := by first | simpa using c3 | (simp at c3 ⊢; omega)
    clear c3
    have H' := Aside0.mk H
    clear H
    go_enter Try.func14, Try.ntmps14
    go_wp2
    repeat (go_quiet (fail); try go_wp2)
    go_loopg [13] k (fun kq v13 w' => ∃ (x13_1 : Int), v13 = .int .i64 x13_1 ∧ Aside0 (laws_kTurns.l0 kq l0 l1 (l0.length : Int) x13_1 = some r) ∧ Aside0 (kq ≤ k) ∧ Drawn0 w w')
    case atStart => exact ⟨(0), ew, H', ⟨Nat.le_refl _⟩, by repeat (first | exact Drawn0.refl _ | apply Drawn0.step)⟩
    case round =>
      clear H'
      try clear c1
      try clear c3
      try clear c3b0
      try clear c3b1
      try clear c3b2
      obtain ⟨x13_1, rfl, HA, HK1, ⟨m1, rfl⟩⟩ := hrel
      cases gk with
      | zero => exact absurd HA.1 (by simp [laws_kTurns.l0])
      | succ k1 =>
        have H := HA.1
        clear HA
        simp only [laws_kTurns.l0] at H
        by_cases c4 : x13_1 < (l0.length : Int)
        · rw [if_pos c4] at H
          have c4b0 : decide (x13_1 < (l0.length : Int)) = true := decide_eq_true c4
          clear c4
          by_cases c5 : 0 ≤ x13_1
          · rw [if_pos c5] at H
            have c5b0 : decide (0 ≤ x13_1) = true := decide_eq_true c5
            clear c5
            by_cases c6 : x13_1 < (l0.length : Int)
            · rw [if_pos c6] at H
              have c6b0 : decide (x13_1 < (l0.length : Int)) = true := decide_eq_true c6
              clear c6
              by_cases c7 : x13_1 < (l1.length : Int)
              · rw [if_pos c7] at H
                have c7b0 : decide (x13_1 < (l1.length : Int)) = true := decide_eq_true c7
                clear c7
                by_cases c8 : (!(((rd_T25 l0 x13_1).f0) == ((rd_T25 l1 x13_1).f0)) || (!(((rd_T25 l0 x13_1).f1) == ((rd_T25 l1 x13_1).f1)))) = true
                · rw [if_pos c8] at H
                  have c8b0 : (!(((rd_T25 l0 x13_1).f0) == ((rd_T25 l1 x13_1).f0)) || (!(((rd_T25 l0 x13_1).f1) == ((rd_T25 l1 x13_1).f1)))) = true := c8
                  clear c8
                  obtain rfl := Option.some.inj H
                  have p479 : 0 ≤ (x13_1 : Int) := of_decide_eq_true (by first | (with_reducible assumption) | assumption)
                  have q479 : x13_1 < (l0.length : Int) := of_decide_eq_true (by first | (with_reducible assumption) | assumption)
                  obtain ⟨ad479, e479, hx479_0, hx479_1⟩ := at_T25 HR0.1 x13_1 p479 q479
                  cases e479
                  replace p479 := eq_true p479
                  replace q479 := eq_true q479
                  have p480 : 0 ≤ (x13_1 : Int) := of_decide_eq_true (by first | (with_reducible assumption) | assumption)
                  have q480 : x13_1 < (l1.length : Int) := of_decide_eq_true (by first | (with_reducible assumption) | assumption)
                  obtain ⟨ad480, e480, hx480_0, hx480_1⟩ := at_T25 HR1.1 x13_1 p480 q480
                  cases e480
                  replace p480 := eq_true p480
                  replace q480 := eq_true q480
                  go_wp2
                  repeat (go_quiet (fail); try go_wp2)
                  go_ret
                  exact ⟨by first | rfl | (simp; done) | (simp [*]; done), by repeat (first | exact Drawn0.refl _ | apply Drawn0.step)⟩
                rw [if_neg c8] at H
                have c8b0 : (!(((rd_T25 l0 x13_1).f0) == ((rd_T25 l1 x13_1).f0)) || (!(((rd_T25 l0 x13_1).f1) == ((rd_T25 l1 x13_1).f1)))) = false := by simpa using c8
                clear c8
                have H' := Aside0.mk H
                clear H
                have p479 : 0 ≤ (x13_1 : Int) := of_decide_eq_true (by first | (with_reducible assumption) | assumption)
                have q479 : x13_1 < (l0.length : Int) := of_decide_eq_true (by first | (with_reducible assumption) | assumption)
                obtain ⟨ad479, e479, hx479_0, hx479_1⟩ := at_T25 HR0.1 x13_1 p479 q479
                cases e479
                replace p479 := eq_true p479
                replace q479 := eq_true q479
                have p480 : 0 ≤ (x13_1 : Int) := of_decide_eq_true (by first | (with_reducible assumption) | assumption)
                have q480 : x13_1 < (l1.length : Int) := of_decide_eq_true (by first | (with_reducible assumption) | assumption)
                obtain ⟨ad480, e480, hx480_0, hx480_1⟩ := at_T25 HR1.1 x13_1 p480 q480
                cases e480
                replace p480 := eq_true p480
                replace q480 := eq_true q480
                go_wp2
                repeat (go_quiet (fail); try go_wp2)
                go_roundg k1
                case measure => have := HK1.1; omega
                case rel => exact ⟨(wrap64 (x13_1 + 1)), ew, H', ⟨by have := HK1.1; omega⟩, by repeat (first | exact Drawn0.refl _ | apply Drawn0.step)⟩
              rw [if_neg c7] at H
              exact absurd H (by simp)
            rw [if_neg c6] at H
            exact absurd H (by simp)
          rw [if_neg c5] at H
          exact absurd H (by simp)
        rw [if_neg c4] at H
        have c4b0 : decide (x13_1 < (l0.length : Int)) = false := decide_eq_false c4
        clear c4
        obtain rfl := Option.some.inj H
        go_wp2
        repeat (go_quiet (fail); try go_wp2)
        go_ret
        exact ⟨by first | rfl | (simp; done) | (simp [*]; done), by repeat (first | exact Drawn0.refl _ | apply Drawn0.step)⟩
  rw [if_neg c3] at H
  have c3b0 : ((l0.length : Int) == (l1.length : Int)) = false := beq_eq_false_iff_ne.mpr c3
  have c3b1 : ((l0.length : Int) != (l1.length : Int)) = true := bne_iff_ne.mpr c3
  have c3b2 : (l0.length == l1.length) = false := by first | simpa using c3 | (simp at c3 ⊢; omega)
  obtain rfl := Option.some.inj H
  go_enter Try.func14, Try.ntmps14
  go_wp2
  repeat (go_quiet (fail); try go_wp2)
  go_ret
  exact ⟨by first | rfl | (simp; done) | (simp [*]; done), by repeat (first | exact Drawn0.refl _ | apply Drawn0.step)⟩

/-! ### spec_IsHand: function 16 -/
def spec_IsHand.f (k : Nat) (a0_0 : Int) (a0_1 : Int) (a0_2 : Int) : Option (Bool) := (spec_meGood.f k a0_0 a0_1 a0_2).bind fun t482 => (some t482)
theorem spec_IsHand.mono : ∀ a0 a1 a2 k, LeO (spec_IsHand.f k a0 a1 a2) (spec_IsHand.f (k + 1) a0 a1 a2) := by
  intro a0 a1 a2 k
  unfold spec_IsHand.f
  repeat' first
      | (with_reducible exact spec_meGood.mono _ _ _ _)
      | (with_reducible exact LeO.refl _)
      | (with_reducible exact LeO.none _)
      | (with_reducible refine LeO.ite ?_ ?_)
      | (with_reducible refine LeO.bind ?_ (fun _ => ?_))
      | exact spec_meGood.mono _ _ _ _
      | exact LeO.none _
      | refine LeO.ite ?_ ?_
      | refine LeO.bind ?_ (fun _ => ?_)
set_option maxHeartbeats 8000000 in
set_option maxRecDepth 100000 in
theorem spec_IsHand.calls (k : Nat) (a0_0 : Int) (a0_1 : Int) (a0_2 : Int) (r : Bool) (w : World) (h : spec_IsHand.f k a0_0 a0_1 a0_2 = some r) :
    Calls Try.prog 16 #[.agg #[.int .i64 a0_0, .int .i64 a0_1, .int .i64 a0_2]] w fun e w' => e = .returned (.bool r) ∧ Below w.heap.size w w' := by
  have hu27 := Try.underlying27
  have HB := Aside0.mk (Below.refl w.heap.size w)
  have H : ((spec_meGood.f k a0_0 a0_1 a0_2).bind fun t482 => (some t482)) = some r := h
  clear h
  replace H := Option.bind_eq_some_iff.mp H
  obtain ⟨t482, A20, H⟩ := H
  (try dsimp only at H)
  have A2 := Aside0.mk A20
  clear A20
  obtain rfl := Option.some.inj H
  go_enter Try.func16, Try.ntmps16
  go_wp2_with (first | ((with_reducible refine gate_dst (N := 1) rfl ?_); refine be #[.int .i64 a0_0, .int .i64 a0_1, .int .i64 a0_2] 27 ?_; intro gb481 hg w3 hbox hb; have BK481 := Aside0.mk hbox; have GW481 := zs HB hg; have GE481 := zs HB hg; replace HB := zB HB hb; clear hb hbox hg; obtain ⟨hcz4_0, hcz4_1, hcz4_2, hfz4_0, hfz4_1, hfz4_2⟩ := zc3 BK481) | ((with_reducible refine gate_callee (f := 38) rfl ?_); refine gl (some 4) Try.func38 #[.agg #[.int .i64 a0_0, .int .i64 a0_1, .int .i64 a0_2]] ?_; (with_reducible refine (spec_meGood.calls k a0_0 a0_1 a0_2 t482 _ A2.1).mono ?_); rintro e w5 ⟨rfl, hb⟩; refine ⟨_, rfl, ?_⟩; replace BK481 := zb BK481 hb; replace HB := zB HB hb; clear hb))
  go_ret
  exact ⟨er, bq HB⟩

/-! ### laws_kAbs: function 17 -/
def laws_kAbs.f (a0 : Int) : Option (Int) := if a0 < 0 then (some (wrap64 (-a0))) else (some a0)
set_option maxHeartbeats 8000000 in
set_option maxRecDepth 100000 in
theorem laws_kAbs.calls (a0 : Int) (r : Int) (w : World) (h : laws_kAbs.f a0 = some r) :
    Calls Try.prog 17 #[.int .i64 a0] w fun e w' => e = .returned (.int .i64 r) ∧ Drawn0 w w' := by
  have H : (if a0 < 0 then (some (wrap64 (-a0))) else (some a0)) = some r := h
  clear h
  by_cases c2 : a0 < 0
  · rw [if_pos c2] at H
    have c2b0 : decide (a0 < 0) = true := decide_eq_true c2
    clear c2
    obtain rfl := Option.some.inj H
    go_enter Try.func17, Try.ntmps17
    go_wp2
    go_ret
    exact ⟨by first | rfl | (simp; done) | (simp [*]; done), by repeat (first | exact Drawn0.refl _ | apply Drawn0.step)⟩
  rw [if_neg c2] at H
  have c2b0 : decide (a0 < 0) = false := decide_eq_false c2
  clear c2
  obtain rfl := Option.some.inj H
  go_enter Try.func17, Try.ntmps17
  go_wp2
  go_ret
  exact ⟨by first | rfl | (simp; done) | (simp [*]; done), by repeat (first | exact Drawn0.refl _ | apply Drawn0.step)⟩

end Go.Proofs.Ytoneipoioiokcaa.PFnHandsMeet
