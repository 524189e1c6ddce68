/- A part of the walk of FnClocksAgree: which Lean function each Go function comes to, and that the machine's call does so. Written by a program of this repo (wip/gen/xprint.py). -/
import Derived.Test.YtejlandhfnnkiaaGreatDoorPFnClocksAgreex0
import Derived.Test.YtejlandhfnnkiaaGreatDoorPFnClocksAgreex4
import Derived.Test.YtejlandhfnnkiaaGreatDoorPFnClocksAgreex6
import Derived.Test.YtejlandhfnnkiaaGreatDoorPFnClocksAgreex7
import Derived.Test.YtejlandhfnnkiaaGreatDoorPFnClocksAgreex8
import Derived.Test.YtejlandhfnnkiaaGreatDoorPFnClocksAgreex10
import Derived.Test.YtejlandhfnnkiaaGreatDoorPFnClocksAgreex12
import Derived.Test.YtejlandhfnnkiaaGreatDoorPFnClocksAgreex16
import Derived.Test.YtejlandhfnnkiaaGreatDoorPFnClocksAgreex17
namespace Go.Proofs.YtejlandhfnnkiaaGreatDoor.PFnClocksAgree
open Go.RowKit Go.Proofs.YtejlandhfnnkiaaGreatDoorW.PrintWords Go.Proofs.YtejlandhfnnkiaaGreatDoorW.PrintLast Go.Proofs.YtejlandhfnnkiaaGreatDoorW.PrintMore
attribute [local go_sem] max2_int min2_int max_two min_two max_three min_three max_four min_four   -- for this text's walks alone
set_option linter.unusedVariables false
set_option linter.unusedSimpArgs false

/-! ### spec_DrawMakeSpan: function 22 -/
def spec_DrawMakeSpan.f (l0 : List Int) : Option (Int × Int) := (spec_l1Cur_pick.f l0 0 0 5000).bind fun a => (spec_l1Cur_among.f l0 a.2.1 a.2.2 [0, 1, 6, 100, 1000000, 1000001, 1000000000000, 1000000000001, -1, a.1]).bind fun b => (spec_l1Cur_pick.f l0 b.2.1 b.2.2 100).bind fun c => (spec_l1Cur_among.f l0 c.2.1 c.2.2 [1, 2, 12, 10000, 10001, 1000000000000, 0, -1, wrap64 (1 + c.1)]).bind fun d => some (b.1, d.1)
set_option maxHeartbeats 8000000 in
set_option maxRecDepth 100000 in
theorem spec_DrawMakeSpan.calls (A0 : Option Addr) (c0 : Nat) (l0 : List Int) (r1 r2 : Int) (w : World) (hr0 : Kd.C (Kd.int .u8) w A0 l0.length l0) (hc0 : l0.length ≤ c0) (h : spec_DrawMakeSpan.f l0 = some (r1, r2)) :
    Calls Tryz.prog 22 #[.slice A0 l0.length c0] w fun e w' => e = .returned (.tuple #[.int .i64 r1, .int .i64 r2]) ∧ Below w.heap.size w w' := by
  unfold spec_DrawMakeSpan.f at h
  obtain ⟨⟨a, i, s⟩, e1, h⟩ := Option.bind_eq_some_iff.mp h
  dsimp only at h
  obtain ⟨⟨b, j, t⟩, e2, h⟩ := Option.bind_eq_some_iff.mp h
  dsimp only at h
  obtain ⟨⟨c, m, u⟩, e3, h⟩ := Option.bind_eq_some_iff.mp h
  dsimp only at h
  obtain ⟨⟨d, n, v⟩, e4, h⟩ := Option.bind_eq_some_iff.mp h
  simp only [Option.some.injEq, Prod.mk.injEq] at h
  obtain ⟨rfl, rfl⟩ := h
  go_enter Tryz.func22, Tryz.ntmps22
  go_upto_region 2 with (fail)
  refine Own.gen (Own.boxes1 w) ?_
  intro w1 HO
  generalize w.heap.size = g7 at HO ⊢
  have z := HO.at_ 0 g7 _ rfl
  have hI : IsS66 w w1 g7 l0 0 0 := ⟨A0, c0, z.2, z.1, hr0⟩
  have C1 := Aside0.mk (spec_l1Cur_pick.calls g7 l0 0 0 5000 a i s w w1 hI HO.below e1)
  have C2 := fun w2 (h2 : IsS66 w w2 g7 l0 i s) (hb2 : Below w.heap.size w w2) => spec_l1Cur_among.calls g7 l0 i s (some ⟨w2.heap.size, 0, none⟩) 10 [0, 1, 6, 100, 1000000, 1000001, 1000000000000, 1000000000001, -1, a] b j t w (w2.alloc _) (h2.alloc _) (below_alloc hb2 _) (lit_C w2 [0, 1, 6, 100, 1000000, 1000001, 1000000000000, 1000000000001, -1, a] 3 (by simp)) (by simp) (by intro ad e _; cases e; exact h2.fresh _ (Nat.le_refl _)) e2
  have C3 := fun w2 (h2 : IsS66 w w2 g7 l0 j t) (hb2 : Below w.heap.size w w2) => spec_l1Cur_pick.calls g7 l0 j t 100 c m u w w2 h2 hb2 e3
  have C4 := fun w2 (h2 : IsS66 w w2 g7 l0 m u) (hb2 : Below w.heap.size w w2) => spec_l1Cur_among.calls g7 l0 m u (some ⟨w2.heap.size, 0, none⟩) 9 [1, 2, 12, 10000, 10001, 1000000000000, 0, -1, wrap64 (1 + c)] d n v w (w2.alloc _) (h2.alloc _) (below_alloc hb2 _) (lit_C w2 [1, 2, 12, 10000, 10001, 1000000000000, 0, -1, wrap64 (1 + c)] 3 (by simp)) (by simp) (by intro ad e _; cases e; exact h2.fresh _ (Nat.le_refl _)) e4
  clear hI z HO e1 e2 e3 e4 hr0 hc0
  go_wp2_with (first
    | (go_at_call 62; with_reducible refine C1.1.mono ?_; rintro e w2 ⟨rfl, hI2, hb2, hk2⟩; have D2 := Aside0.mk (C2 w2 hI2 hb2); clear C2 C1 hI2 hb2 hk2)
    | (go_at_call 61; refine D2.1.mono ?_; rintro e w3 ⟨rfl, hI3, hb3, hk3⟩; have D3 := Aside0.mk (C3 w3 hI3 hb3); clear D2 C3 hI3 hb3 hk3)
    | (go_at_call 62; refine D3.1.mono ?_; rintro e w4 ⟨rfl, hI4, hb4, hk4⟩; have D4 := Aside0.mk (C4 w4 hI4 hb4); clear D3 C4 hI4 hb4 hk4)
    | (go_at_call 61; refine D4.1.mono ?_; rintro e w5 ⟨rfl, hI5, hb5, hk5⟩; have HB := Aside0.mk hb5; clear D4 hI5 hb5 hk5))
  go_ret2
  exact ⟨rfl, HB.1⟩

/-! ### impl_MakeSpan: function 23 -/
def impl_MakeSpan.f (k : Nat) (a0 : Int) (a1 : Int) : Option (Int × Int × Bool) := (impl_within.f a0 0 1000000000000).bind fun t493 => (if t493 = true then ((impl_within.f a1 1 1000000000000).bind fun t494 => (if t494 = true then ((impl_spanOf.f k a0 a1).bind fun bt495 => (some (bt495.1, bt495.2.1, bt495.2.2))) else (some (0, 0, false)))) else (some (0, 0, false)))
theorem impl_MakeSpan.mono : ∀ a0 a1 k, LeO (impl_MakeSpan.f k a0 a1) (impl_MakeSpan.f (k + 1) a0 a1) := by
  intro a0 a1 k
  unfold impl_MakeSpan.f
  repeat' first
      | (with_reducible exact impl_spanOf.mono _ _ _)
      | (with_reducible exact LeO.refl _)
      | (with_reducible exact LeO.none _)
      | (with_reducible refine LeO.ite ?_ ?_)
      | (with_reducible refine LeO.bind ?_ (fun _ => ?_))
      | exact impl_spanOf.mono _ _ _
      | exact LeO.none _
      | refine LeO.ite ?_ ?_
      | refine LeO.bind ?_ (fun _ => ?_)
set_option maxHeartbeats 8000000 in
set_option maxRecDepth 100000 in
theorem impl_MakeSpan.calls (k : Nat) (a0 : Int) (a1 : Int) (r1 : Int) (r2 : Int) (r3 : Bool) (w : World) (h : impl_MakeSpan.f k a0 a1 = some (r1, r2, r3)) :
    Calls Tryz.prog 23 #[.int .i64 a0, .int .i64 a1] w fun e w' => e = .returned (.tuple #[.agg #[.int .i64 r1, .int .i64 r2], .bool r3]) ∧ Below w.heap.size w w' := by
  have hu30 := Tryz.underlying30
  have HB := Aside0.mk (Below.refl w.heap.size w)
  have H : ((impl_within.f a0 0 1000000000000).bind fun t493 => (if t493 = true then ((impl_within.f a1 1 1000000000000).bind fun t494 => (if t494 = true then ((impl_spanOf.f k a0 a1).bind fun bt495 => (some (bt495.1, bt495.2.1, bt495.2.2))) else (some (0, 0, false)))) else (some (0, 0, false)))) = some (r1, r2, r3) := h
  clear h
  replace H := Option.bind_eq_some_iff.mp H
  obtain ⟨t493, A30, H⟩ := H
  (try dsimp only at H)
  have A3 := Aside0.mk A30
  clear A30
  by_cases c4 : t493 = true
  · subst c4
    rw [if_pos rfl] at H
    replace H := Option.bind_eq_some_iff.mp H
    obtain ⟨t494, A50, H⟩ := H
    (try dsimp only at H)
    have A5 := Aside0.mk A50
    clear A50
    by_cases c6 : t494 = true
    · subst c6
      rw [if_pos rfl] at H
      replace H := Option.bind_eq_some_iff.mp H
      obtain ⟨⟨t495, t496, t497⟩, A70, H⟩ := H
      (try dsimp only at H)
      have A7 := Aside0.mk A70
      clear A70
      simp only [Option.some.injEq, Prod.mk.injEq] at H
      obtain ⟨rfl, rfl, rfl⟩ := H
      go_enter Tryz.func23, Tryz.ntmps23
      go_wp2_with (first | ((with_reducible refine gate_dst (N := 4) rfl ?_); refine be #[.int .i64 0, .int .i64 0] 30 ?_; intro gb492 hg w8 hbox hb; have BK492 := Aside0.mk hbox; have GW492 := zs HB hg; have GE492 := zs HB hg; replace HB := zB HB hb; clear hb hbox hg) | ((with_reducible refine gate_callee (f := 56) rfl ?_); refine gl (some 7) Tryz.func56 #[.int .i64 a0, .int .i64 0, .int .i64 1000000000000] ?_; (with_reducible refine (impl_within.calls a0 0 1000000000000 true _ A3.1).mono ?_); rintro e w' ⟨rfl, ⟨nd, rfl⟩⟩; refine ⟨_, rfl, ?_⟩; (try (rw [drewN_self w8]; generalize hq_ : World.drewN w8 _ = w8; have n0_ : Aside0 (w8.heap[gb492]? = some (.cells #[.int .i64 0, .int .i64 0] 30 (0, 0))) := ⟨by rw [← hq_]; exact (bk BK492)⟩; have n1_ : Aside0 (Below w.heap.size w w8) := ⟨by rw [← hq_]; exact (bq HB)⟩; clear BK492 HB hq_; have BK492 := n0_; have HB := n1_; clear n0_ n1_))) | (go_at_call 56; (with_reducible refine (impl_within.calls a1 1 1000000000000 true _ A5.1).mono ?_); rintro e w' ⟨rfl, ⟨nd, rfl⟩⟩; (try (rw [drewN_self w8]; generalize hq_ : World.drewN w8 _ = w8; have n0_ : Aside0 (w8.heap[gb492]? = some (.cells #[.int .i64 0, .int .i64 0] 30 (0, 0))) := ⟨by rw [← hq_]; exact (bk BK492)⟩; have n1_ : Aside0 (Below w.heap.size w w8) := ⟨by rw [← hq_]; exact (bq HB)⟩; clear BK492 HB hq_; have BK492 := n0_; have HB := n1_; clear n0_ n1_))) | ((with_reducible refine gate_callee (f := 57) rfl ?_); refine gl (some 17) Tryz.func57 #[.int .i64 a0, .int .i64 a1] ?_; (with_reducible refine (impl_spanOf.calls k a0 a1 t495 t496 t497 _ A7.1).mono ?_); rintro e w9 ⟨rfl, hb⟩; refine ⟨_, rfl, ?_⟩; replace BK492 := zb BK492 hb; replace HB := zB HB hb; clear hb; obtain ⟨hcz10_0, hcz10_1, hfz10_0, hfz10_1⟩ := zc2 BK492))
      refine bodyPost_ret (results_ct rfl _ _ gb492 30 #[.int .i64 t495, .int .i64 t496] (0, 0) _ rfl (bk BK492) Tryz.underlying30 rfl (by kernel_rfl)) rfl ?_
      exact ⟨er, bq HB⟩
    replace c6 := Bool.eq_false_iff.mpr c6
    subst c6
    rw [if_neg (show ¬ (false = true) by decide)] at H
    simp only [Option.some.injEq, Prod.mk.injEq] at H
    obtain ⟨rfl, rfl, rfl⟩ := H
    go_enter Tryz.func23, Tryz.ntmps23
    go_wp2_with (first | ((with_reducible refine gate_dst (N := 4) rfl ?_); refine be #[.int .i64 0, .int .i64 0] 30 ?_; intro gb492 hg w11 hbox hb; have BK492 := Aside0.mk hbox; have GW492 := zs HB hg; have GE492 := zs HB hg; replace HB := zB HB hb; clear hb hbox hg) | ((with_reducible refine gate_callee (f := 56) rfl ?_); refine gl (some 7) Tryz.func56 #[.int .i64 a0, .int .i64 0, .int .i64 1000000000000] ?_; (with_reducible refine (impl_within.calls a0 0 1000000000000 true _ A3.1).mono ?_); rintro e w' ⟨rfl, ⟨nd, rfl⟩⟩; refine ⟨_, rfl, ?_⟩; (try (rw [drewN_self w11]; generalize hq_ : World.drewN w11 _ = w11; have n0_ : Aside0 (w11.heap[gb492]? = some (.cells #[.int .i64 0, .int .i64 0] 30 (0, 0))) := ⟨by rw [← hq_]; exact (bk BK492)⟩; have n1_ : Aside0 (Below w.heap.size w w11) := ⟨by rw [← hq_]; exact (bq HB)⟩; clear BK492 HB hq_; have BK492 := n0_; have HB := n1_; clear n0_ n1_))) | (go_at_call 56; (with_reducible refine (impl_within.calls a1 1 1000000000000 false _ A5.1).mono ?_); rintro e w' ⟨rfl, ⟨nd, rfl⟩⟩; (try (rw [drewN_self w11]; generalize hq_ : World.drewN w11 _ = w11; have n0_ : Aside0 (w11.heap[gb492]? = some (.cells #[.int .i64 0, .int .i64 0] 30 (0, 0))) := ⟨by rw [← hq_]; exact (bk BK492)⟩; have n1_ : Aside0 (Below w.heap.size w w11) := ⟨by rw [← hq_]; exact (bq HB)⟩; clear BK492 HB hq_; have BK492 := n0_; have HB := n1_; clear n0_ n1_)); obtain ⟨hcz12_0, hcz12_1, hfz12_0, hfz12_1⟩ := zc2 BK492))
    refine bodyPost_ret (results_ct rfl _ _ gb492 30 #[.int .i64 0, .int .i64 0] (0, 0) _ rfl (bk BK492) Tryz.underlying30 rfl (by kernel_rfl)) rfl ?_
    exact ⟨er, bq HB⟩
  replace c4 := Bool.eq_false_iff.mpr c4
  subst c4
  rw [if_neg (show ¬ (false = true) by decide)] at H
  simp only [Option.some.injEq, Prod.mk.injEq] at H
  obtain ⟨rfl, rfl, rfl⟩ := H
  go_enter Tryz.func23, Tryz.ntmps23
  go_wp2_with (first | ((with_reducible refine gate_dst (N := 4) rfl ?_); refine be #[.int .i64 0, .int .i64 0] 30 ?_; intro gb492 hg w13 hbox hb; have BK492 := Aside0.mk hbox; have GW492 := zs HB hg; have GE492 := zs HB hg; replace HB := zB HB hb; clear hb hbox hg) | ((with_reducible refine gate_callee (f := 56) rfl ?_); refine gl (some 7) Tryz.func56 #[.int .i64 a0, .int .i64 0, .int .i64 1000000000000] ?_; (with_reducible refine (impl_within.calls a0 0 1000000000000 false _ A3.1).mono ?_); rintro e w' ⟨rfl, ⟨nd, rfl⟩⟩; refine ⟨_, rfl, ?_⟩; (try (rw [drewN_self w13]; generalize hq_ : World.drewN w13 _ = w13; have n0_ : Aside0 (w13.heap[gb492]? = some (.cells #[.int .i64 0, .int .i64 0] 30 (0, 0))) := ⟨by rw [← hq_]; exact (bk BK492)⟩; have n1_ : Aside0 (Below w.heap.size w w13) := ⟨by rw [← hq_]; exact (bq HB)⟩; clear BK492 HB hq_; have BK492 := n0_; have HB := n1_; clear n0_ n1_)); obtain ⟨hcz14_0, hcz14_1, hfz14_0, hfz14_1⟩ := zc2 BK492))
  refine bodyPost_ret (results_ct rfl _ _ gb492 30 #[.int .i64 0, .int .i64 0] (0, 0) _ rfl (bk BK492) Tryz.underlying30 rfl (by kernel_rfl)) rfl ?_
  exact ⟨er, bq HB⟩

/-! ### spec_MakeSpan: function 24 -/
def spec_MakeSpan.f (k : Nat) (a0 : Int) (a1 : Int) : Option (Int × Int × Bool) := (spec_l1In.f a0 0 1000000000000).bind fun t499 => (if t499 = true then ((spec_l1In.f a1 1 1000000000000).bind fun t500 => (if t500 = true then ((spec_drMake.f k a0 a1).bind fun bt501 => (some (bt501.1, bt501.2.1, bt501.2.2))) else (some (0, 0, false)))) else (some (0, 0, false)))
theorem spec_MakeSpan.mono : ∀ a0 a1 k, LeO (spec_MakeSpan.f k a0 a1) (spec_MakeSpan.f (k + 1) a0 a1) := by
  intro a0 a1 k
  unfold spec_MakeSpan.f
  repeat' first
      | (with_reducible exact spec_drMake.mono _ _ _)
      | (with_reducible exact LeO.refl _)
      | (with_reducible exact LeO.none _)
      | (with_reducible refine LeO.ite ?_ ?_)
      | (with_reducible refine LeO.bind ?_ (fun _ => ?_))
      | exact spec_drMake.mono _ _ _
      | exact LeO.none _
      | refine LeO.ite ?_ ?_
      | refine LeO.bind ?_ (fun _ => ?_)
set_option maxHeartbeats 8000000 in
set_option maxRecDepth 100000 in
theorem spec_MakeSpan.calls (k : Nat) (a0 : Int) (a1 : Int) (r1 : Int) (r2 : Int) (r3 : Bool) (w : World) (h : spec_MakeSpan.f k a0 a1 = some (r1, r2, r3)) :
    Calls Tryz.prog 24 #[.int .i64 a0, .int .i64 a1] w fun e w' => e = .returned (.tuple #[.agg #[.int .i64 r1, .int .i64 r2], .bool r3]) ∧ Below w.heap.size w w' := by
  have hu30 := Tryz.underlying30
  have HB := Aside0.mk (Below.refl w.heap.size w)
  have H : ((spec_l1In.f a0 0 1000000000000).bind fun t499 => (if t499 = true then ((spec_l1In.f a1 1 1000000000000).bind fun t500 => (if t500 = true then ((spec_drMake.f k a0 a1).bind fun bt501 => (some (bt501.1, bt501.2.1, bt501.2.2))) else (some (0, 0, false)))) else (some (0, 0, false)))) = some (r1, r2, r3) := h
  clear h
  replace H := Option.bind_eq_some_iff.mp H
  obtain ⟨t499, A30, H⟩ := H
  (try dsimp only at H)
  have A3 := Aside0.mk A30
  clear A30
  by_cases c4 : t499 = true
  · subst c4
    rw [if_pos rfl] at H
    replace H := Option.bind_eq_some_iff.mp H
    obtain ⟨t500, A50, H⟩ := H
    (try dsimp only at H)
    have A5 := Aside0.mk A50
    clear A50
    by_cases c6 : t500 = true
    · subst c6
      rw [if_pos rfl] at H
      replace H := Option.bind_eq_some_iff.mp H
      obtain ⟨⟨t501, t502, t503⟩, A70, H⟩ := H
      (try dsimp only at H)
      have A7 := Aside0.mk A70
      clear A70
      simp only [Option.some.injEq, Prod.mk.injEq] at H
      obtain ⟨rfl, rfl, rfl⟩ := H
      go_enter Tryz.func24, Tryz.ntmps24
      go_wp2_with (first | ((with_reducible refine gate_dst (N := 4) rfl ?_); refine be #[.int .i64 0, .int .i64 0] 30 ?_; intro gb498 hg w8 hbox hb; have BK498 := Aside0.mk hbox; have GW498 := zs HB hg; have GE498 := zs HB hg; replace HB := zB HB hb; clear hb hbox hg) | ((with_reducible refine gate_callee (f := 63) rfl ?_); refine gl (some 7) Tryz.func63 #[.int .i64 a0, .int .i64 0, .int .i64 1000000000000] ?_; (with_reducible refine (spec_l1In.calls a0 0 1000000000000 true _ A3.1).mono ?_); rintro e w' ⟨rfl, ⟨nd, rfl⟩⟩; refine ⟨_, rfl, ?_⟩; (try (rw [drewN_self w8]; generalize hq_ : World.drewN w8 _ = w8; have n0_ : Aside0 (w8.heap[gb498]? = some (.cells #[.int .i64 0, .int .i64 0] 30 (0, 0))) := ⟨by rw [← hq_]; exact (bk BK498)⟩; have n1_ : Aside0 (Below w.heap.size w w8) := ⟨by rw [← hq_]; exact (bq HB)⟩; clear BK498 HB hq_; have BK498 := n0_; have HB := n1_; clear n0_ n1_))) | (go_at_call 63; (with_reducible refine (spec_l1In.calls a1 1 1000000000000 true _ A5.1).mono ?_); rintro e w' ⟨rfl, ⟨nd, rfl⟩⟩; (try (rw [drewN_self w8]; generalize hq_ : World.drewN w8 _ = w8; have n0_ : Aside0 (w8.heap[gb498]? = some (.cells #[.int .i64 0, .int .i64 0] 30 (0, 0))) := ⟨by rw [← hq_]; exact (bk BK498)⟩; have n1_ : Aside0 (Below w.heap.size w w8) := ⟨by rw [← hq_]; exact (bq HB)⟩; clear BK498 HB hq_; have BK498 := n0_; have HB := n1_; clear n0_ n1_))) | ((with_reducible refine gate_callee (f := 41) rfl ?_); refine gl (some 17) Tryz.func41 #[.int .i64 a0, .int .i64 a1] ?_; (with_reducible refine (spec_drMake.calls k a0 a1 t501 t502 t503 _ A7.1).mono ?_); rintro e w9 ⟨rfl, hb⟩; refine ⟨_, rfl, ?_⟩; replace BK498 := zb BK498 hb; replace HB := zB HB hb; clear hb; obtain ⟨hcz10_0, hcz10_1, hfz10_0, hfz10_1⟩ := zc2 BK498))
      refine bodyPost_ret (results_ct rfl _ _ gb498 30 #[.int .i64 t501, .int .i64 t502] (0, 0) _ rfl (bk BK498) Tryz.underlying30 rfl (by kernel_rfl)) rfl ?_
      exact ⟨er, bq HB⟩
    replace c6 := Bool.eq_false_iff.mpr c6
    subst c6
    rw [if_neg (show ¬ (false = true) by decide)] at H
    simp only [Option.some.injEq, Prod.mk.injEq] at H
    obtain ⟨rfl, rfl, rfl⟩ := H
    go_enter Tryz.func24, Tryz.ntmps24
    go_wp2_with (first | ((with_reducible refine gate_dst (N := 4) rfl ?_); refine be #[.int .i64 0, .int .i64 0] 30 ?_; intro gb498 hg w11 hbox hb; have BK498 := Aside0.mk hbox; have GW498 := zs HB hg; have GE498 := zs HB hg; replace HB := zB HB hb; clear hb hbox hg) | ((with_reducible refine gate_callee (f := 63) rfl ?_); refine gl (some 7) Tryz.func63 #[.int .i64 a0, .int .i64 0, .int .i64 1000000000000] ?_; (with_reducible refine (spec_l1In.calls a0 0 1000000000000 true _ A3.1).mono ?_); rintro e w' ⟨rfl, ⟨nd, rfl⟩⟩; refine ⟨_, rfl, ?_⟩; (try (rw [drewN_self w11]; generalize hq_ : World.drewN w11 _ = w11; have n0_ : Aside0 (w11.heap[gb498]? = some (.cells #[.int .i64 0, .int .i64 0] 30 (0, 0))) := ⟨by rw [← hq_]; exact (bk BK498)⟩; have n1_ : Aside0 (Below w.heap.size w w11) := ⟨by rw [← hq_]; exact (bq HB)⟩; clear BK498 HB hq_; have BK498 := n0_; have HB := n1_; clear n0_ n1_))) | (go_at_call 63; (with_reducible refine (spec_l1In.calls a1 1 1000000000000 false _ A5.1).mono ?_); rintro e w' ⟨rfl, ⟨nd, rfl⟩⟩; (try (rw [drewN_self w11]; generalize hq_ : World.drewN w11 _ = w11; have n0_ : Aside0 (w11.heap[gb498]? = some (.cells #[.int .i64 0, .int .i64 0] 30 (0, 0))) := ⟨by rw [← hq_]; exact (bk BK498)⟩; have n1_ : Aside0 (Below w.heap.size w w11) := ⟨by rw [← hq_]; exact (bq HB)⟩; clear BK498 HB hq_; have BK498 := n0_; have HB := n1_; clear n0_ n1_)); obtain ⟨hcz12_0, hcz12_1, hfz12_0, hfz12_1⟩ := zc2 BK498))
    refine bodyPost_ret (results_ct rfl _ _ gb498 30 #[.int .i64 0, .int .i64 0] (0, 0) _ rfl (bk BK498) Tryz.underlying30 rfl (by kernel_rfl)) rfl ?_
    exact ⟨er, bq HB⟩
  replace c4 := Bool.eq_false_iff.mpr c4
  subst c4
  rw [if_neg (show ¬ (false = true) by decide)] at H
  simp only [Option.some.injEq, Prod.mk.injEq] at H
  obtain ⟨rfl, rfl, rfl⟩ := H
  go_enter Tryz.func24, Tryz.ntmps24
  go_wp2_with (first | ((with_reducible refine gate_dst (N := 4) rfl ?_); refine be #[.int .i64 0, .int .i64 0] 30 ?_; intro gb498 hg w13 hbox hb; have BK498 := Aside0.mk hbox; have GW498 := zs HB hg; have GE498 := zs HB hg; replace HB := zB HB hb; clear hb hbox hg) | ((with_reducible refine gate_callee (f := 63) rfl ?_); refine gl (some 7) Tryz.func63 #[.int .i64 a0, .int .i64 0, .int .i64 1000000000000] ?_; (with_reducible refine (spec_l1In.calls a0 0 1000000000000 false _ A3.1).mono ?_); rintro e w' ⟨rfl, ⟨nd, rfl⟩⟩; refine ⟨_, rfl, ?_⟩; (try (rw [drewN_self w13]; generalize hq_ : World.drewN w13 _ = w13; have n0_ : Aside0 (w13.heap[gb498]? = some (.cells #[.int .i64 0, .int .i64 0] 30 (0, 0))) := ⟨by rw [← hq_]; exact (bk BK498)⟩; have n1_ : Aside0 (Below w.heap.size w w13) := ⟨by rw [← hq_]; exact (bq HB)⟩; clear BK498 HB hq_; have BK498 := n0_; have HB := n1_; clear n0_ n1_)); obtain ⟨hcz14_0, hcz14_1, hfz14_0, hfz14_1⟩ := zc2 BK498))
  refine bodyPost_ret (results_ct rfl _ _ gb498 30 #[.int .i64 0, .int .i64 0] (0, 0) _ rfl (bk BK498) Tryz.underlying30 rfl (by kernel_rfl)) rfl ?_
  exact ⟨er, bq HB⟩

/-! ### spec_DrawIsSpan: function 64 -/
def spec_DrawIsSpan.f (k : Nat) (l0 : List Int) : Option (Int × Int) := (spec_l1Cur_span.f k l0 0 0).bind fun b => some (b.1, b.2.1)
theorem spec_DrawIsSpan.mono : ∀ a0 k, LeO (spec_DrawIsSpan.f k a0) (spec_DrawIsSpan.f (k + 1) a0) := by
  intro a0 k
  unfold spec_DrawIsSpan.f
  exact LeO.bind (spec_l1Cur_span.mono _ _ _ _) (fun _ => LeO.refl _)
set_option maxHeartbeats 8000000 in
set_option maxRecDepth 100000 in
theorem spec_DrawIsSpan.calls (k : Nat) (A0 : Option Addr) (c0 : Nat) (l0 : List Int) (r1 r2 : Int) (w : World) (hr0 : Kd.C (Kd.int .u8) w A0 l0.length l0) (hc0 : l0.length ≤ c0) (h : spec_DrawIsSpan.f k l0 = some (r1, r2)) :
    Calls Tryz.prog 64 #[.slice A0 l0.length c0] w fun e w' => e = .returned (.agg #[.int .i64 r1, .int .i64 r2]) ∧ Below w.heap.size w w' := by
  unfold spec_DrawIsSpan.f at h
  obtain ⟨⟨v0a, v0b, i0, s0⟩, e0, h⟩ := Option.bind_eq_some_iff.mp h
  dsimp only at h
  simp only [Option.some.injEq, Prod.mk.injEq] at h
  obtain ⟨rfl, rfl⟩ := h
  have hu0 := Tryz.underlying30
  go_enter Tryz.func64, Tryz.ntmps64
  go_upto_region 2 with (fail)
  refine Own.gen (Own.boxes2 w) ?_
  intro w1 HO
  generalize w.heap.size + 1 = gs at HO ⊢
  generalize w.heap.size = g2 at HO ⊢
  have z := HO.at_ 1 gs _ rfl
  have Z0 := Aside0.mk (HO.at_ 0 g2 _ rfl).2
  have lb0 := Aside0.mk (HO.at_ 0 g2 _ rfl).1
  have n0 : g2 ≠ gs := HO.ne (i := 0) (j := 1) rfl rfl (by decide)
  have hI : IsS66 w w1 gs l0 0 0 := ⟨A0, c0, z.2, z.1, hr0⟩
  have C0 := Aside0.mk (spec_l1Cur_span.calls k gs l0 0 0 v0a v0b i0 s0 w w1 hI HO.below e0)
  clear hI z HO hr0 hc0 e0
  go_wp2_with (first
    | (go_at_call 47; refine C0.1.mono ?_; rintro e w2 ⟨rfl, hI0, hb0, hk0⟩; replace Z0 := Aside0.mk ((hk0.2 g2 (blk_lt Z0.1) n0 (by simp)).trans Z0.1); have HB := Aside0.mk hb0; obtain ⟨p0_0, p0_1, f0_0, f0_1⟩ := zc2 Z0; clear C0 hI0 hb0 hk0))
  have G0 := (blk_put (cs' := #[.int .i64 v0a, .int .i64 v0b]) (blk_put (cs' := #[.int .i64 v0a, .int .i64 0]) Z0.1 0 (.int .i64 v0a) rfl) 1 (.int .i64 v0b) rfl)
  refine bodyPost_ret (results_cell_row rfl _ _ g2 30 #[.int .i64 v0a, .int .i64 v0b] (0, 0) _ rfl G0 Tryz.underlying30 rfl (by kernel_rfl)) rfl ?_
  exact ⟨rfl, (below_set (below_set HB.1 lb0.out) lb0.out)⟩

/-! ### spec_DrawSpanText: function 25 -/
def spec_DrawSpanText.f (k : Nat) (l0 : List Int) : Option (Int × Int) := (spec_DrawIsSpan.f k l0).bind fun bt505 => (some (bt505.1, bt505.2))
theorem spec_DrawSpanText.mono : ∀ a0 k, LeO (spec_DrawSpanText.f k a0) (spec_DrawSpanText.f (k + 1) a0) := by
  intro a0 k
  unfold spec_DrawSpanText.f
  repeat' first
      | (with_reducible exact spec_DrawIsSpan.mono _ _)
      | (with_reducible exact LeO.refl _)
      | (with_reducible exact LeO.none _)
      | (with_reducible refine LeO.ite ?_ ?_)
      | (with_reducible refine LeO.bind ?_ (fun _ => ?_))
      | exact spec_DrawIsSpan.mono _ _
      | exact LeO.none _
      | refine LeO.ite ?_ ?_
      | refine LeO.bind ?_ (fun _ => ?_)
set_option maxHeartbeats 8000000 in
set_option maxRecDepth 100000 in
theorem spec_DrawSpanText.calls (k : Nat) (A0 : Option Addr) (c0 : Nat) (l0 : List Int) (r1 : Int) (r2 : Int) (w : World) (hr0 : Kd.C (Kd.int .u8) w A0 l0.length l0) (hc0 : l0.length ≤ c0) (h : spec_DrawSpanText.f k l0 = some (r1, r2)) :
    Calls Tryz.prog 25 #[.slice A0 l0.length c0] w fun e w' => e = .returned (.agg #[.int .i64 r1, .int .i64 r2]) ∧ Below w.heap.size w w' := by
  have hu30 := Tryz.underlying30
  have HR0 := Aside0.mk hr0
  have HC0 := Aside0.mk hc0
  clear hr0 hc0
  have HB := Aside0.mk (Below.refl w.heap.size w)
  have H : ((spec_DrawIsSpan.f k l0).bind fun bt505 => (some (bt505.1, bt505.2))) = some (r1, r2) := h
  clear h
  replace H := Option.bind_eq_some_iff.mp H
  obtain ⟨⟨t505, t506⟩, A20, H⟩ := H
  (try dsimp only at H)
  have A2 := Aside0.mk A20
  clear A20
  simp only [Option.some.injEq, Prod.mk.injEq] at H
  obtain ⟨rfl, rfl⟩ := H
  go_enter Tryz.func25, Tryz.ntmps25
  go_wp2_with (first | ((with_reducible refine gate_dst (N := 2) rfl ?_); refine be #[.int .i64 0, .int .i64 0] 30 ?_; intro gb504 hg w3 hbox hb; have BK504 := Aside0.mk hbox; have GW504 := zs HB hg; have GE504 := zs HB hg; replace HB := zB HB hb; clear hb hbox hg) | ((with_reducible refine gate_callee (f := 64) rfl ?_); refine gl (some 4) Tryz.func64 #[.slice A0 l0.length c0] ?_; (with_reducible refine (spec_DrawIsSpan.calls k _ _ l0 t505 t506 _ ?side1 ?side2 A2.1).mono ?_); (case side1 => repeat (first | exact (Kd.C_below HR0.1 HB.1) | (with_reducible refine Kd.C_alloc ?_ _) | (with_reducible refine Kd.C_drewN ?_ _) | (with_reducible refine Kd.C_drew ?_))); (case side2 => exact HC0.1); rintro e w4 ⟨rfl, hb⟩; refine ⟨_, rfl, ?_⟩; replace BK504 := zb BK504 hb; replace HB := zB HB hb; clear hb; obtain ⟨hcz5_0, hcz5_1, hfz5_0, hfz5_1⟩ := zc2 BK504))
  refine bodyPost_ret (results_cell_row rfl _ _ gb504 30 #[.int .i64 t505, .int .i64 t506] (0, 0) _ rfl (bk BK504) Tryz.underlying30 rfl (by kernel_rfl)) rfl ?_
  exact ⟨er, bq HB⟩

/-! ### strconv_Itoa: function 85 -/
def lay_itoa_ren : Go.Shelf.Ren := ⟨fun | 171 => 85 | 243 => 92 | 246 => 96 | 283 => 106 | 284 => 107 | 285 => 108 | 286 => 109 | 129 => 116 | 317 => 115 | 318 => 117 | 319 => 118 | 320 => 119 | 337 => 122 | 338 => 123 | n => n, fun | 3 => 3 | 9 => 9 | 2 => 2 | 4 => 4 | 171 => 112 | 0 => 0 | 53 => 64 | 37 => 22 | 5 => 5 | 173 => 115 | 212 => 127 | 51 => 117 | 20 => 20 | 213 => 128 | 46 => 101 | 232 => 137 | 233 => 138 | n => n, fun | 17 => 3 | 18 => 4 | 19 => 5 | n => n⟩
theorem lay_itoa : Go.Proofs.LaysM.n171 Tryz.prog lay_itoa_ren := {
  mixed := by kernel_rfl
  f129 := Tryz.func116.trans (congrArg some (by kernel_rfl))
  f171 := Tryz.func85.trans (congrArg some (by kernel_rfl))
  f243 := Tryz.func92.trans (congrArg some (by kernel_rfl))
  f246 := Tryz.func96.trans (congrArg some (by kernel_rfl))
  f283 := Tryz.func106.trans (congrArg some (by kernel_rfl))
  f284 := Tryz.func107.trans (congrArg some (by kernel_rfl))
  f285 := Tryz.func108.trans (congrArg some (by kernel_rfl))
  f286 := Tryz.func109.trans (congrArg some (by kernel_rfl))
  f317 := Tryz.func115.trans (congrArg some (by kernel_rfl))
  f318 := Tryz.func117.trans (congrArg some (by kernel_rfl))
  f319 := Tryz.func118.trans (congrArg some (by kernel_rfl))
  f320 := Tryz.func119.trans (congrArg some (by kernel_rfl))
  f337 := Tryz.func122.trans (congrArg some (by kernel_rfl))
  f338 := Tryz.func123.trans (congrArg some (by kernel_rfl))
  t0 := Tryz.underlying0
  a0 := Tryz.isAgg0
  z0 := Tryz.sizeOf0
  v0 := Tryz.zeroValue0
  t2 := Tryz.underlying2
  a2 := Tryz.isAgg2
  z2 := Tryz.sizeOf2
  v2 := Tryz.zeroValue2
  t3 := Tryz.underlying3
  a3 := Tryz.isAgg3
  z3 := Tryz.sizeOf3
  v3 := Tryz.zeroValue3
  t4 := Tryz.underlying4
  a4 := Tryz.isAgg4
  z4 := Tryz.sizeOf4
  v4 := Tryz.zeroValue4
  t5 := Tryz.underlying5
  a5 := Tryz.isAgg5
  z5 := Tryz.sizeOf5
  v5 := Tryz.zeroValue5
  t9 := Tryz.underlying9
  a9 := Tryz.isAgg9
  z9 := Tryz.sizeOf9
  v9 := Tryz.zeroValue9
  t20 := Tryz.underlying20
  a20 := Tryz.isAgg20
  z20 := Tryz.sizeOf20
  v20 := Tryz.zeroValue20
  t37 := Tryz.underlying22
  a37 := Tryz.isAgg22
  z37 := Tryz.sizeOf22
  v37 := Tryz.zeroValue22
  t46 := Tryz.underlying101
  a46 := Tryz.isAgg101
  z46 := Tryz.sizeOf101
  v46 := Tryz.zeroValue101
  t51 := Tryz.underlying117
  a51 := Tryz.isAgg117
  z51 := Tryz.sizeOf117
  v51 := Tryz.zeroValue117
  t53 := Tryz.underlying64
  a53 := Tryz.isAgg64
  z53 := Tryz.sizeOf64
  v53 := Tryz.zeroValue64
  t171 := Tryz.underlying112
  a171 := Tryz.isAgg112
  z171 := Tryz.sizeOf112
  v171 := Tryz.zeroValue112
  t173 := Tryz.underlying115
  a173 := Tryz.isAgg115
  z173 := Tryz.sizeOf115
  v173 := Tryz.zeroValue115
  t212 := Tryz.underlying127
  a212 := Tryz.isAgg127
  z212 := Tryz.sizeOf127
  v212 := Tryz.zeroValue127
  t213 := Tryz.underlying128
  a213 := Tryz.isAgg128
  z213 := Tryz.sizeOf128
  t232 := Tryz.underlying137
  a232 := Tryz.isAgg137
  z232 := Tryz.sizeOf137
  v232 := Tryz.zeroValue137
  t233 := Tryz.underlying138
  a233 := Tryz.isAgg138
  z233 := Tryz.sizeOf138
  v233 := Tryz.zeroValue138
  g17 := by kernel_rfl
  g18 := by kernel_rfl
  g19 := by kernel_rfl
  i0 := by kernel_rfl
  i2 := by kernel_rfl
  i3 := by kernel_rfl
  i4 := by kernel_rfl
  i5 := by kernel_rfl
  i9 := by kernel_rfl
  i20 := by kernel_rfl
  i37 := by kernel_rfl
  i46 := by kernel_rfl
  i51 := by kernel_rfl
  i53 := by kernel_rfl
  i171 := by kernel_rfl
  i173 := by kernel_rfl
  i212 := by kernel_rfl
  i232 := by kernel_rfl
  i233 := by kernel_rfl
  m17 := by kernel_rfl
  m18 := by kernel_rfl
  m19 := by kernel_rfl }
/-- The table of the library's, in this world and in each that goes on from it. -/
abbrev HasTab (w : World) : Prop := Go.Lib.TabIs Tryz.prog w "internal/strconv.uint64pow10" .u64 Go.Lib.pow10Tab
theorem HasTab.on {w w' : World} (h : HasTab w) (hb : Below w.heap.size w w') : HasTab w' := Go.Lib.tabBelow_of_tabIs h w' hb
theorem strconv_Itoa.calls (n : Int) (h0 : -9223372036854775808 ≤ n) (h1 : n ≤ 9223372036854775807) (w : World) (ht : HasTab w) :
    Calls Tryz.prog 85 #[.int .i64 n] w fun e w' => e = .returned (.string ⟨(Go.Lib.itoa n).toArray⟩) ∧ Below w.heap.size w w' :=
  (Any.strconv_Itoa lay_itoa n h0 h1 w ht).mono fun e w' ⟨he, k, os, hw⟩ => ⟨he, by subst hw; exact ⟨rfl, rfl, rfl, by simp [Go.Sort.grow, World.drewN], fun j hj => by simp [Go.Sort.grow, World.drewN, Array.getElem?_append, hj]⟩⟩

/-! ### impl_SpanText: function 26 -/
def textOf (a b : Int) : ByteArray := ((⟨(Go.Lib.itoa a).toArray⟩ : ByteArray) ++ (⟨#[47]⟩ : ByteArray)) ++ ⟨(Go.Lib.itoa b).toArray⟩
set_option maxHeartbeats 8000000 in
set_option maxRecDepth 100000 in
theorem impl_spanText.calls (a b : Int) (ha : 0 ≤ a ∧ a ≤ 1000000) (hb : 0 ≤ b ∧ b ≤ 1000000) (w : World) (ht : HasTab w) :
    Calls Tryz.prog 65 #[.agg #[.int .i64 a, .int .i64 b]] w fun e w' => e = .returned (.string (textOf a b)) ∧ Below w.heap.size w w' := by
  have la := Go.Lib.itoa_length_le a (by omega) (by omega)
  have lb := Go.Lib.itoa_length_le b (by omega) (by omega)
  obtain ⟨A, hA⟩ : ∃ A : ByteArray, A = ⟨(Go.Lib.itoa a).toArray⟩ := ⟨_, rfl⟩
  obtain ⟨B, hB⟩ : ∃ B : ByteArray, B = ⟨(Go.Lib.itoa b).toArray⟩ := ⟨_, rfl⟩
  have e0 : textOf a b = (A ++ (⟨#[47]⟩ : ByteArray)) ++ B := by rw [hA, hB]; rfl
  have sa : A.size ≤ 21 := by rw [hA]; simpa [ByteArray.size] using la
  have sb : B.size ≤ 21 := by rw [hB]; simpa [ByteArray.size] using lb
  have sc : (A ++ (⟨#[47]⟩ : ByteArray)).size ≤ 22 := by rw [ByteArray.size_append]; show A.size + 1 ≤ 22; omega
  rw [e0]
  have hu := Tryz.underlying30
  go_enter Tryz.func65, Tryz.ntmps65
  go_upto_region 1 with (fail)
  refine Own.gen (Own.boxes1 w) ?_
  intro w1 HO
  generalize w.heap.size = g1 at HO ⊢
  obtain ⟨p0, p1, f0, f1⟩ := HO.c2 0 rfl
  have ht1 := ht.on HO.below
  have c1 : A.size + 1 ≤ 9223372036854775807 := by omega
  have c2 : (A ++ (⟨#[47]⟩ : ByteArray)).size + B.size ≤ 9223372036854775807 := by omega
  have c1b0 := eq_true c1
  have c1b1 := decide_eq_true c1
  have c1b2 : (9223372036854775807 < A.size + 1) = False := eq_false (Nat.not_lt.2 c1)
  have c2b0 := eq_true c2
  have c2b1 := decide_eq_true c2
  have c2b2 : (9223372036854775807 < (A ++ (⟨#[47]⟩ : ByteArray)).size + B.size) = False := eq_false (Nat.not_lt.2 c2)
  have c2b3 : (9223372036854775807 < A.size + 1 + B.size) = False := eq_false (by omega)
  have Q1 : ∀ d os, Calls Tryz.prog 85 #[.int .i64 a] (Go.Sort.grow (redrawn w1 d) os) fun e w'' => e = .returned (.string A) ∧ ∃ p : Regrown, w'' = Go.Sort.grow (redrawn w1 p.d) p.os := fun d os => Calls.regrown_of (by rw [hA]; exact strconv_Itoa.calls a (by omega) (by omega) _ (ht1.on (below_regrown w1 d os)))
  have Q2 : ∀ d os, Calls Tryz.prog 85 #[.int .i64 b] (Go.Sort.grow (redrawn w1 d) os) fun e w'' => e = .returned (.string B) ∧ ∃ p : Regrown, w'' = Go.Sort.grow (redrawn w1 p.d) p.os := fun d os => Calls.regrown_of (by rw [hB]; exact strconv_Itoa.calls b (by omega) (by omega) _ (ht1.on (below_regrown w1 d os)))
  clear e0 hA hB la lb sa sb sc c1 c2 ha hb ht ht1
  have kp0 := cell_regrown p0
  have kp1 := cell_regrown p1
  refine wp_region_quiet_below (by kernel_rfl) (by kernel_rfl) ?_
  repeat (first | go_big_quiet_step (first | exact Q1 _ _ | exact Q2 _ _) | quiet_step (first | exact Q1 _ _ | exact Q2 _ _))
  refine wpQuiet_nil ?_
  intro _ hw'; obtain ⟨⟨dq, osq⟩, hw''⟩ := hw'; subst hw''
  replace HO := HO.call (below_regrown _ dq osq)
  go_wp2
  go_ret
  exact ⟨by first | rfl | simp, HO.below⟩
def impl_SpanText.f (k : Nat) (a b : Int) : Option (ByteArray × Bool) := (impl_IsSpan.f k a b).bind fun t => if t = true then some (textOf a b, true) else some ((⟨#[]⟩ : ByteArray), false)
set_option maxHeartbeats 8000000 in
set_option maxRecDepth 100000 in
theorem impl_SpanText.calls (k : Nat) (a b : Int) (r1 : ByteArray) (r2 : Bool) (w : World) (ht : HasTab w) (h : impl_SpanText.f k a b = some (r1, r2)) :
    Calls Tryz.prog 26 #[.agg #[.int .i64 a, .int .i64 b]] w fun e w' => e = .returned (.tuple #[.string r1, .bool r2]) ∧ Below w.heap.size w w' := by
  unfold impl_SpanText.f at h
  obtain ⟨t, ei, h⟩ := Option.bind_eq_some_iff.mp h
  have C1 := fun W => impl_IsSpan.calls k a b t W ei
  have hu := Tryz.underlying30
  cases t with
  | false =>
    rw [if_neg (by simp)] at h
    simp only [Option.some.injEq, Prod.mk.injEq] at h
    obtain ⟨rfl, rfl⟩ := h
    clear ei
    go_enter Tryz.func26, Tryz.ntmps26
    go_upto_region 1 with (fail)
    refine Own.gen (Own.boxes1 w) ?_
    intro w1 HO
    generalize w.heap.size = g1 at HO ⊢
    obtain ⟨p0, p1, f0, f1⟩ := HO.c2 0 rfl
    go_wp2_with (first | (go_at_call 31; refine (C1 _).mono ?_; rintro e w2 ⟨rfl, hb⟩; replace HO := HO.call hb; clear hb))
    go_ret2
    exact ⟨rfl, HO.below⟩
  | true =>
    rw [if_pos rfl] at h
    simp only [Option.some.injEq, Prod.mk.injEq] at h
    obtain ⟨rfl, rfl⟩ := h
    have hbd : (0 ≤ a ∧ a ≤ 1000000) ∧ (0 ≤ b ∧ b ≤ 1000000) := by
      unfold impl_IsSpan.f at ei
      simp only [within_val, Option.bind_some] at ei
      by_cases h1 : 0 ≤ a ∧ a ≤ 1000000
      · by_cases h2 : 1 ≤ b ∧ b ≤ 10000
        · exact ⟨h1, by omega, by omega⟩
        simp [h1, h2] at ei
      simp [h1] at ei
    have C2 := fun W (hT : HasTab W) => impl_spanText.calls a b hbd.1 hbd.2 W hT
    clear ei hbd
    go_enter Tryz.func26, Tryz.ntmps26
    go_upto_region 1 with (fail)
    refine Own.gen (Own.boxes1 w) ?_
    intro w1 HO
    generalize w.heap.size = g1 at HO ⊢
    obtain ⟨p0, p1, f0, f1⟩ := HO.c2 0 rfl
    go_upto_region 3 with (first | (go_at_call 31; refine (C1 _).mono ?_; rintro e w2 ⟨rfl, hb⟩; replace HO := HO.call hb; clear hb p0 p1 f0 f1))
    obtain ⟨p0, p1, f0, f1⟩ := HO.c2 0 rfl
    have C3 := C2 w2 (ht.on HO.below)
    clear C1 C2
    go_wp2_with (first | (go_at_call 65; refine C3.mono ?_; rintro e w3 ⟨rfl, hb⟩; replace HO := HO.call hb; clear hb))
    go_ret2
    exact ⟨rfl, HO.below⟩

end Go.Proofs.YtejlandhfnnkiaaGreatDoor.PFnClocksAgree
