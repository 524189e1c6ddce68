/- A part of the walk of FnClocksAgree: which Lean function each Go function comes to, and that the machine's call does so. Written by a program of this repo (wip/gen/xprint.py). -/
import Derived.Test.YtejlandhfnnkiaaGreatDoorPFnClocksAgreex0
import Derived.Test.YtejlandhfnnkiaaGreatDoorPFnClocksAgreex4
import Derived.Test.YtejlandhfnnkiaaGreatDoorPFnClocksAgreex6
import Derived.Test.YtejlandhfnnkiaaGreatDoorPFnClocksAgreex7
import Derived.Test.YtejlandhfnnkiaaGreatDoorPFnClocksAgreex8
import Derived.Test.YtejlandhfnnkiaaGreatDoorPFnClocksAgreex11
import Derived.Test.YtejlandhfnnkiaaGreatDoorPFnClocksAgreex12
import Derived.Test.YtejlandhfnnkiaaGreatDoorPFnClocksAgreex16
namespace Go.Proofs.YtejlandhfnnkiaaGreatDoor.PFnClocksAgree
open Go.RowKit Go.Proofs.YtejlandhfnnkiaaGreatDoorW.PrintWords Go.Proofs.YtejlandhfnnkiaaGreatDoorW.PrintLast Go.Proofs.YtejlandhfnnkiaaGreatDoorW.PrintMore
attribute [local go_sem] max2_int min2_int max_two min_two max_three min_three max_four min_four   -- for this text's walks alone
set_option linter.unusedVariables false
set_option linter.unusedSimpArgs false

/-! ### spec_DrawAddSpans: function 15 -/
def spec_DrawAddSpans.f (k : Nat) (l0 : List Int) : Option (Int × Int × Int × Int) := (spec_l1Cur_span.f k l0 0 0).bind fun b => (spec_l1Cur_span.f k l0 b.2.2.1 b.2.2.2).bind fun c => some (b.1, b.2.1, c.1, c.2.1)
theorem spec_DrawAddSpans.mono : ∀ a0 k, LeO (spec_DrawAddSpans.f k a0) (spec_DrawAddSpans.f (k + 1) a0) := by
  intro a0 k
  unfold spec_DrawAddSpans.f
  exact LeO.bind (spec_l1Cur_span.mono _ _ _ _) (fun _ => LeO.bind (spec_l1Cur_span.mono _ _ _ _) (fun _ => LeO.refl _))
set_option maxHeartbeats 8000000 in
set_option maxRecDepth 100000 in
theorem spec_DrawAddSpans.calls (k : Nat) (A0 : Option Addr) (c0 : Nat) (l0 : List Int) (r1 r2 r3 r4 : Int) (w : World) (hr0 : Kd.C (Kd.int .u8) w A0 l0.length l0) (hc0 : l0.length ≤ c0) (h : spec_DrawAddSpans.f k l0 = some (r1, r2, r3, r4)) :
    Calls Tryz.prog 15 #[.slice A0 l0.length c0] w fun e w' => e = .returned (.tuple #[.agg #[.int .i64 r1, .int .i64 r2], .agg #[.int .i64 r3, .int .i64 r4]]) ∧ Below w.heap.size w w' := by
  unfold spec_DrawAddSpans.f at h
  obtain ⟨⟨v0a, v0b, i0, s0⟩, e0, h⟩ := Option.bind_eq_some_iff.mp h
  dsimp only at h
  obtain ⟨⟨v1a, v1b, i1, s1⟩, e1, h⟩ := Option.bind_eq_some_iff.mp h
  dsimp only at h
  simp only [Option.some.injEq, Prod.mk.injEq] at h
  obtain ⟨rfl, rfl, rfl, rfl⟩ := h
  have hu0 := Tryz.underlying30
  go_enter Tryz.func15, Tryz.ntmps15
  go_upto_region 2 with (fail)
  refine Own.gen (Own.boxes3 w) ?_
  intro w1 HO
  generalize w.heap.size + 1 + 1 = gs at HO ⊢
  generalize w.heap.size + 1 = g3 at HO ⊢
  generalize w.heap.size = g2 at HO ⊢
  have z := HO.at_ 2 gs _ rfl
  have Z0 := Aside0.mk (HO.at_ 0 g2 _ rfl).2
  have lb0 := Aside0.mk (HO.at_ 0 g2 _ rfl).1
  have n0 : g2 ≠ gs := HO.ne (i := 0) (j := 2) rfl rfl (by decide)
  have Z1 := Aside0.mk (HO.at_ 1 g3 _ rfl).2
  have lb1 := Aside0.mk (HO.at_ 1 g3 _ rfl).1
  have n1 : g3 ≠ gs := HO.ne (i := 1) (j := 2) rfl rfl (by decide)
  have n0_1 : g2 ≠ g3 := HO.ne (i := 0) (j := 1) rfl rfl (by decide)
  have n1_0 : g3 ≠ g2 := HO.ne (i := 1) (j := 0) rfl rfl (by decide)
  have hI : IsS66 w w1 gs l0 0 0 := ⟨A0, c0, z.2, z.1, hr0⟩
  have C0 := Aside0.mk (spec_l1Cur_span.calls k gs l0 0 0 v0a v0b i0 s0 w w1 hI HO.below e0)
  have C1 := fun w2 (h2 : IsS66 w w2 gs l0 i0 s0) (hb2 : Below w.heap.size w w2) => spec_l1Cur_span.calls k gs l0 i0 s0 v1a v1b i1 s1 w w2 h2 hb2 e1
  clear hI z HO hr0 hc0 e0 e1
  go_wp2_with (first
    | (go_at_call 47; refine C0.1.mono ?_; rintro e w2 ⟨rfl, hI0, hb0, hk0⟩; have D1 := Aside0.mk (C1 w2 hI0 hb0); replace Z0 := Aside0.mk ((hk0.2 g2 (blk_lt Z0.1) n0 (by simp)).trans Z0.1); replace Z1 := Aside0.mk ((hk0.2 g3 (blk_lt Z1.1) n1 (by simp)).trans Z1.1); clear C0 hI0 hb0 hk0 C1)
    | (go_at_call 47; refine D1.1.mono ?_; rintro e w3 ⟨rfl, hI1, hb1, hk1⟩; replace Z0 := Aside0.mk ((hk1.2 g2 (blk_lt Z0.1) n0 (by simp)).trans Z0.1); replace Z1 := Aside0.mk ((hk1.2 g3 (blk_lt Z1.1) n1 (by simp)).trans Z1.1); have HB := Aside0.mk hb1; obtain ⟨p0_0, p0_1, f0_0, f0_1⟩ := zc2 Z0; obtain ⟨p1_0, p1_1, f1_0, f1_1⟩ := zc2 Z1; clear D1 hI1 hb1 hk1))
  have G0 := (blk_far (blk_far (blk_put (cs' := #[.int .i64 v0a, .int .i64 v0b]) (blk_put (cs' := #[.int .i64 v0a, .int .i64 0]) Z0.1 0 (.int .i64 v0a) rfl) 1 (.int .i64 v0b) rfl) (p := ⟨g3, 0, none⟩) n0_1 (.int .i64 v1a)) (p := ⟨g3, 1, none⟩) n0_1 (.int .i64 v1b))
  have G1 := (blk_put (cs' := #[.int .i64 v1a, .int .i64 v1b]) (blk_put (cs' := #[.int .i64 v1a, .int .i64 0]) (blk_far (blk_far Z1.1 (p := ⟨g2, 0, none⟩) n1_0 (.int .i64 v0a)) (p := ⟨g2, 1, none⟩) n1_0 (.int .i64 v0b)) 0 (.int .i64 v1a) rfl) 1 (.int .i64 v1b) rfl)
  refine bodyPost_ret (results_list (rs := [.cell 2 30, .cell 3 30]) rfl (by simp) (.cell g2 30 #[.int .i64 v0a, .int .i64 v0b] (0, 0) _ rfl G0 Tryz.underlying30 rfl (by kernel_rfl) (.cell g3 30 #[.int .i64 v1a, .int .i64 v1b] (0, 0) _ rfl G1 Tryz.underlying30 rfl (by kernel_rfl) .nil))) rfl ?_
  exact ⟨rfl, (below_set (below_set (below_set (below_set HB.1 lb0.out) lb0.out) lb1.out) lb1.out)⟩

/-! ### impl_AddSpans: function 16 -/
def impl_AddSpans.f (k : Nat) (a0_0 : Int) (a0_1 : Int) (a1_0 : Int) (a1_1 : Int) : Option (Int × Int × Bool) := (impl_IsSpan.f k a0_0 a0_1).bind fun t446 => (if t446 = true then ((impl_IsSpan.f k a1_0 a1_1).bind fun t447 => (if t447 = true then ((impl_spanOf.f k (wrap64 ((wrap64 (a0_0 * a1_1)) + (wrap64 (a1_0 * a0_1)))) (wrap64 (a0_1 * a1_1))).bind fun bt448 => (some (bt448.1, bt448.2.1, bt448.2.2))) else (some (0, 0, false)))) else (some (0, 0, false)))
theorem impl_AddSpans.mono : ∀ a0 a1 a2 a3 k, LeO (impl_AddSpans.f k a0 a1 a2 a3) (impl_AddSpans.f (k + 1) a0 a1 a2 a3) := by
  intro a0 a1 a2 a3 k
  unfold impl_AddSpans.f
  repeat' first
      | (with_reducible exact impl_IsSpan.mono _ _ _)
      | (with_reducible exact impl_spanOf.mono _ _ _)
      | (with_reducible exact LeO.refl _)
      | (with_reducible exact LeO.none _)
      | (with_reducible refine LeO.ite ?_ ?_)
      | (with_reducible refine LeO.bind ?_ (fun _ => ?_))
      | exact impl_IsSpan.mono _ _ _
      | exact impl_spanOf.mono _ _ _
      | exact LeO.none _
      | refine LeO.ite ?_ ?_
      | refine LeO.bind ?_ (fun _ => ?_)
set_option maxHeartbeats 8000000 in
set_option maxRecDepth 100000 in
theorem impl_AddSpans.calls (k : Nat) (a0_0 : Int) (a0_1 : Int) (a1_0 : Int) (a1_1 : Int) (r1 : Int) (r2 : Int) (r3 : Bool) (w : World) (h : impl_AddSpans.f k a0_0 a0_1 a1_0 a1_1 = some (r1, r2, r3)) :
    Calls Tryz.prog 16 #[.agg #[.int .i64 a0_0, .int .i64 a0_1], .agg #[.int .i64 a1_0, .int .i64 a1_1]] w fun e w' => e = .returned (.tuple #[.agg #[.int .i64 r1, .int .i64 r2], .bool r3]) ∧ Below w.heap.size w w' := by
  have hu30 := Tryz.underlying30
  have HB := Aside0.mk (Below.refl w.heap.size w)
  have H : ((impl_IsSpan.f k a0_0 a0_1).bind fun t446 => (if t446 = true then ((impl_IsSpan.f k a1_0 a1_1).bind fun t447 => (if t447 = true then ((impl_spanOf.f k (wrap64 ((wrap64 (a0_0 * a1_1)) + (wrap64 (a1_0 * a0_1)))) (wrap64 (a0_1 * a1_1))).bind fun bt448 => (some (bt448.1, bt448.2.1, bt448.2.2))) else (some (0, 0, false)))) else (some (0, 0, false)))) = some (r1, r2, r3) := h
  clear h
  replace H := Option.bind_eq_some_iff.mp H
  obtain ⟨t446, A30, H⟩ := H
  (try dsimp only at H)
  have A3 := Aside0.mk A30
  clear A30
  by_cases c4 : t446 = true
  · subst c4
    rw [if_pos rfl] at H
    replace H := Option.bind_eq_some_iff.mp H
    obtain ⟨t447, A50, H⟩ := H
    (try dsimp only at H)
    have A5 := Aside0.mk A50
    clear A50
    by_cases c6 : t447 = true
    · subst c6
      rw [if_pos rfl] at H
      replace H := Option.bind_eq_some_iff.mp H
      obtain ⟨⟨t448, t449, t450⟩, A70, H⟩ := H
      (try dsimp only at H)
      have A7 := Aside0.mk A70
      clear A70
      simp only [Option.some.injEq, Prod.mk.injEq] at H
      obtain ⟨rfl, rfl, rfl⟩ := H
      go_enter Tryz.func16, Tryz.ntmps16
      go_wp2_with (first | ((with_reducible refine gate_dst (N := 2) rfl ?_); refine be #[.int .i64 a0_0, .int .i64 a0_1] 30 ?_; intro gb443 hg w8 hbox hb; have BK443 := Aside0.mk hbox; have GW443 := zs HB hg; have GE443 := zs HB hg; replace HB := zB HB hb; clear hb hbox hg) | ((with_reducible refine gate_dst (N := 3) rfl ?_); refine be #[.int .i64 a1_0, .int .i64 a1_1] 30 ?_; intro gb444 hg w9 hbox hb; have BK444 := Aside0.mk hbox; have GW444 := zs HB hg; have GE444 := zs HB hg; have NB443_444 := zn BK443 hg; have NB444_443 := zm BK443 hg; replace BK443 := zb BK443 hb; replace HB := zB HB hb; clear hb hbox hg) | ((with_reducible refine gate_dst (N := 4) rfl ?_); refine be #[.int .i64 0, .int .i64 0] 30 ?_; intro gb445 hg w10 hbox hb; have BK445 := Aside0.mk hbox; have GW445 := zs HB hg; have GE445 := zs HB hg; have NB443_445 := zn BK443 hg; have NB445_443 := zm BK443 hg; have NB444_445 := zn BK444 hg; have NB445_444 := zm BK444 hg; replace BK443 := zb BK443 hb; replace BK444 := zb BK444 hb; replace HB := zB HB hb; clear hb hbox hg; have hnb11 := NB443_444.1; have hnc11 := NB444_443.1; have hnb12 := NB443_445.1; have hnc12 := NB445_443.1; obtain ⟨hcz13_0, hcz13_1, hfz13_0, hfz13_1⟩ := zc2 BK443) | ((with_reducible refine gate_callee (f := 31) rfl ?_); refine gl (some 7) Tryz.func31 #[.agg #[.int .i64 a0_0, .int .i64 a0_1]] ?_; (with_reducible refine (impl_IsSpan.calls k a0_0 a0_1 true _ A3.1).mono ?_); rintro e w14 ⟨rfl, hb⟩; refine ⟨_, rfl, ?_⟩; replace BK443 := zb BK443 hb; replace BK444 := zb BK444 hb; replace BK445 := zb BK445 hb; replace HB := zB HB hb; clear hb; have hnb15 := NB444_445.1; have hnc15 := NB445_444.1; obtain ⟨hcz16_0, hcz16_1, hfz16_0, hfz16_1⟩ := zc2 BK444) | (go_at_call 31; (with_reducible refine (impl_IsSpan.calls k a1_0 a1_1 true _ A5.1).mono ?_); rintro e w17 ⟨rfl, hb⟩; replace BK443 := zb BK443 hb; replace BK444 := zb BK444 hb; replace BK445 := zb BK445 hb; replace HB := zB HB hb; clear hb; obtain ⟨hcz18_0, hcz18_1, hfz18_0, hfz18_1⟩ := zc2 BK443; obtain ⟨hcz19_0, hcz19_1, hfz19_0, hfz19_1⟩ := zc2 BK444) | ((with_reducible refine gate_callee (f := 57) rfl ?_); refine gl (some 31) Tryz.func57 #[.int .i64 (wrap64 ((wrap64 (a0_0 * a1_1)) + (wrap64 (a1_0 * a0_1)))), .int .i64 (wrap64 (a0_1 * a1_1))] ?_; (with_reducible refine (impl_spanOf.calls k (wrap64 ((wrap64 (a0_0 * a1_1)) + (wrap64 (a1_0 * a0_1)))) (wrap64 (a0_1 * a1_1)) t448 t449 t450 _ A7.1).mono ?_); rintro e w20 ⟨rfl, hb⟩; refine ⟨_, rfl, ?_⟩; replace BK443 := zb BK443 hb; replace BK444 := zb BK444 hb; replace BK445 := zb BK445 hb; replace HB := zB HB hb; clear hb; obtain ⟨hcz21_0, hcz21_1, hfz21_0, hfz21_1⟩ := zc2 BK445))
      refine bodyPost_ret (results_ct rfl _ _ gb445 30 #[.int .i64 t448, .int .i64 t449] (0, 0) _ rfl (bk BK445) Tryz.underlying30 rfl (by kernel_rfl)) rfl ?_
      exact ⟨er, bq HB⟩
    replace c6 := Bool.eq_false_iff.mpr c6
    subst c6
    rw [if_neg (show ¬ (false = true) by decide)] at H
    simp only [Option.some.injEq, Prod.mk.injEq] at H
    obtain ⟨rfl, rfl, rfl⟩ := H
    go_enter Tryz.func16, Tryz.ntmps16
    go_wp2_with (first | ((with_reducible refine gate_dst (N := 2) rfl ?_); refine be #[.int .i64 a0_0, .int .i64 a0_1] 30 ?_; intro gb443 hg w22 hbox hb; have BK443 := Aside0.mk hbox; have GW443 := zs HB hg; have GE443 := zs HB hg; replace HB := zB HB hb; clear hb hbox hg) | ((with_reducible refine gate_dst (N := 3) rfl ?_); refine be #[.int .i64 a1_0, .int .i64 a1_1] 30 ?_; intro gb444 hg w23 hbox hb; have BK444 := Aside0.mk hbox; have GW444 := zs HB hg; have GE444 := zs HB hg; have NB443_444 := zn BK443 hg; have NB444_443 := zm BK443 hg; replace BK443 := zb BK443 hb; replace HB := zB HB hb; clear hb hbox hg) | ((with_reducible refine gate_dst (N := 4) rfl ?_); refine be #[.int .i64 0, .int .i64 0] 30 ?_; intro gb445 hg w24 hbox hb; have BK445 := Aside0.mk hbox; have GW445 := zs HB hg; have GE445 := zs HB hg; have NB443_445 := zn BK443 hg; have NB445_443 := zm BK443 hg; have NB444_445 := zn BK444 hg; have NB445_444 := zm BK444 hg; replace BK443 := zb BK443 hb; replace BK444 := zb BK444 hb; replace HB := zB HB hb; clear hb hbox hg; have hnb25 := NB443_444.1; have hnc25 := NB444_443.1; have hnb26 := NB443_445.1; have hnc26 := NB445_443.1; obtain ⟨hcz27_0, hcz27_1, hfz27_0, hfz27_1⟩ := zc2 BK443) | ((with_reducible refine gate_callee (f := 31) rfl ?_); refine gl (some 7) Tryz.func31 #[.agg #[.int .i64 a0_0, .int .i64 a0_1]] ?_; (with_reducible refine (impl_IsSpan.calls k a0_0 a0_1 true _ A3.1).mono ?_); rintro e w28 ⟨rfl, hb⟩; refine ⟨_, rfl, ?_⟩; replace BK443 := zb BK443 hb; replace BK444 := zb BK444 hb; replace BK445 := zb BK445 hb; replace HB := zB HB hb; clear hb; have hnb29 := NB444_445.1; have hnc29 := NB445_444.1; obtain ⟨hcz30_0, hcz30_1, hfz30_0, hfz30_1⟩ := zc2 BK444) | (go_at_call 31; (with_reducible refine (impl_IsSpan.calls k a1_0 a1_1 false _ A5.1).mono ?_); rintro e w31 ⟨rfl, hb⟩; replace BK443 := zb BK443 hb; replace BK444 := zb BK444 hb; replace BK445 := zb BK445 hb; replace HB := zB HB hb; clear hb; obtain ⟨hcz32_0, hcz32_1, hfz32_0, hfz32_1⟩ := zc2 BK445))
    refine bodyPost_ret (results_ct rfl _ _ gb445 30 #[.int .i64 0, .int .i64 0] (0, 0) _ rfl (bk BK445) Tryz.underlying30 rfl (by kernel_rfl)) rfl ?_
    exact ⟨er, bq HB⟩
  replace c4 := Bool.eq_false_iff.mpr c4
  subst c4
  rw [if_neg (show ¬ (false = true) by decide)] at H
  simp only [Option.some.injEq, Prod.mk.injEq] at H
  obtain ⟨rfl, rfl, rfl⟩ := H
  go_enter Tryz.func16, Tryz.ntmps16
  go_wp2_with (first | ((with_reducible refine gate_dst (N := 2) rfl ?_); refine be #[.int .i64 a0_0, .int .i64 a0_1] 30 ?_; intro gb443 hg w33 hbox hb; have BK443 := Aside0.mk hbox; have GW443 := zs HB hg; have GE443 := zs HB hg; replace HB := zB HB hb; clear hb hbox hg) | ((with_reducible refine gate_dst (N := 3) rfl ?_); refine be #[.int .i64 a1_0, .int .i64 a1_1] 30 ?_; intro gb444 hg w34 hbox hb; have BK444 := Aside0.mk hbox; have GW444 := zs HB hg; have GE444 := zs HB hg; have NB443_444 := zn BK443 hg; have NB444_443 := zm BK443 hg; replace BK443 := zb BK443 hb; replace HB := zB HB hb; clear hb hbox hg) | ((with_reducible refine gate_dst (N := 4) rfl ?_); refine be #[.int .i64 0, .int .i64 0] 30 ?_; intro gb445 hg w35 hbox hb; have BK445 := Aside0.mk hbox; have GW445 := zs HB hg; have GE445 := zs HB hg; have NB443_445 := zn BK443 hg; have NB445_443 := zm BK443 hg; have NB444_445 := zn BK444 hg; have NB445_444 := zm BK444 hg; replace BK443 := zb BK443 hb; replace BK444 := zb BK444 hb; replace HB := zB HB hb; clear hb hbox hg; have hnb36 := NB443_444.1; have hnc36 := NB444_443.1; have hnb37 := NB443_445.1; have hnc37 := NB445_443.1; obtain ⟨hcz38_0, hcz38_1, hfz38_0, hfz38_1⟩ := zc2 BK443) | ((with_reducible refine gate_callee (f := 31) rfl ?_); refine gl (some 7) Tryz.func31 #[.agg #[.int .i64 a0_0, .int .i64 a0_1]] ?_; (with_reducible refine (impl_IsSpan.calls k a0_0 a0_1 false _ A3.1).mono ?_); rintro e w39 ⟨rfl, hb⟩; refine ⟨_, rfl, ?_⟩; replace BK443 := zb BK443 hb; replace BK444 := zb BK444 hb; replace BK445 := zb BK445 hb; replace HB := zB HB hb; clear hb; have hnb40 := NB445_444.1; have hnc40 := NB444_445.1; obtain ⟨hcz41_0, hcz41_1, hfz41_0, hfz41_1⟩ := zc2 BK445))
  refine bodyPost_ret (results_ct rfl _ _ gb445 30 #[.int .i64 0, .int .i64 0] (0, 0) _ rfl (bk BK445) Tryz.underlying30 rfl (by kernel_rfl)) rfl ?_
  exact ⟨er, bq HB⟩

/-! ### spec_AddSpans: function 17 -/
def spec_AddSpans.f (k : Nat) (a0_0 : Int) (a0_1 : Int) (a1_0 : Int) (a1_1 : Int) : Option (Int × Int × Bool) := (spec_drGood.f k a0_0 a0_1).bind fun t454 => (if t454 = true then ((spec_drGood.f k a1_0 a1_1).bind fun t455 => (if t455 = true then ((spec_drMake.f k (wrap64 ((wrap64 (a0_0 * a1_1)) + (wrap64 (a1_0 * a0_1)))) (wrap64 (a0_1 * a1_1))).bind fun bt456 => (some (bt456.1, bt456.2.1, bt456.2.2))) else (some (0, 0, false)))) else (some (0, 0, false)))
theorem spec_AddSpans.mono : ∀ a0 a1 a2 a3 k, LeO (spec_AddSpans.f k a0 a1 a2 a3) (spec_AddSpans.f (k + 1) a0 a1 a2 a3) := by
  intro a0 a1 a2 a3 k
  unfold spec_AddSpans.f
  repeat' first
      | (with_reducible exact spec_drGood.mono _ _ _)
      | (with_reducible exact spec_drMake.mono _ _ _)
      | (with_reducible exact LeO.refl _)
      | (with_reducible exact LeO.none _)
      | (with_reducible refine LeO.ite ?_ ?_)
      | (with_reducible refine LeO.bind ?_ (fun _ => ?_))
      | exact spec_drGood.mono _ _ _
      | exact spec_drMake.mono _ _ _
      | exact LeO.none _
      | refine LeO.ite ?_ ?_
      | refine LeO.bind ?_ (fun _ => ?_)
set_option maxHeartbeats 8000000 in
set_option maxRecDepth 100000 in
theorem spec_AddSpans.calls (k : Nat) (a0_0 : Int) (a0_1 : Int) (a1_0 : Int) (a1_1 : Int) (r1 : Int) (r2 : Int) (r3 : Bool) (w : World) (h : spec_AddSpans.f k a0_0 a0_1 a1_0 a1_1 = some (r1, r2, r3)) :
    Calls Tryz.prog 17 #[.agg #[.int .i64 a0_0, .int .i64 a0_1], .agg #[.int .i64 a1_0, .int .i64 a1_1]] w fun e w' => e = .returned (.tuple #[.agg #[.int .i64 r1, .int .i64 r2], .bool r3]) ∧ Below w.heap.size w w' := by
  have hu30 := Tryz.underlying30
  have HB := Aside0.mk (Below.refl w.heap.size w)
  have H : ((spec_drGood.f k a0_0 a0_1).bind fun t454 => (if t454 = true then ((spec_drGood.f k a1_0 a1_1).bind fun t455 => (if t455 = true then ((spec_drMake.f k (wrap64 ((wrap64 (a0_0 * a1_1)) + (wrap64 (a1_0 * a0_1)))) (wrap64 (a0_1 * a1_1))).bind fun bt456 => (some (bt456.1, bt456.2.1, bt456.2.2))) else (some (0, 0, false)))) else (some (0, 0, false)))) = some (r1, r2, r3) := h
  clear h
  replace H := Option.bind_eq_some_iff.mp H
  obtain ⟨t454, A30, H⟩ := H
  (try dsimp only at H)
  have A3 := Aside0.mk A30
  clear A30
  by_cases c4 : t454 = true
  · subst c4
    rw [if_pos rfl] at H
    replace H := Option.bind_eq_some_iff.mp H
    obtain ⟨t455, A50, H⟩ := H
    (try dsimp only at H)
    have A5 := Aside0.mk A50
    clear A50
    by_cases c6 : t455 = true
    · subst c6
      rw [if_pos rfl] at H
      replace H := Option.bind_eq_some_iff.mp H
      obtain ⟨⟨t456, t457, t458⟩, A70, H⟩ := H
      (try dsimp only at H)
      have A7 := Aside0.mk A70
      clear A70
      simp only [Option.some.injEq, Prod.mk.injEq] at H
      obtain ⟨rfl, rfl, rfl⟩ := H
      go_enter Tryz.func17, Tryz.ntmps17
      go_wp2_with (first | ((with_reducible refine gate_dst (N := 2) rfl ?_); refine be #[.int .i64 a0_0, .int .i64 a0_1] 30 ?_; intro gb451 hg w8 hbox hb; have BK451 := Aside0.mk hbox; have GW451 := zs HB hg; have GE451 := zs HB hg; replace HB := zB HB hb; clear hb hbox hg) | ((with_reducible refine gate_dst (N := 3) rfl ?_); refine be #[.int .i64 a1_0, .int .i64 a1_1] 30 ?_; intro gb452 hg w9 hbox hb; have BK452 := Aside0.mk hbox; have GW452 := zs HB hg; have GE452 := zs HB hg; have NB451_452 := zn BK451 hg; have NB452_451 := zm BK451 hg; replace BK451 := zb BK451 hb; replace HB := zB HB hb; clear hb hbox hg) | ((with_reducible refine gate_dst (N := 4) rfl ?_); refine be #[.int .i64 0, .int .i64 0] 30 ?_; intro gb453 hg w10 hbox hb; have BK453 := Aside0.mk hbox; have GW453 := zs HB hg; have GE453 := zs HB hg; have NB451_453 := zn BK451 hg; have NB453_451 := zm BK451 hg; have NB452_453 := zn BK452 hg; have NB453_452 := zm BK452 hg; replace BK451 := zb BK451 hb; replace BK452 := zb BK452 hb; replace HB := zB HB hb; clear hb hbox hg; have hnb11 := NB451_452.1; have hnc11 := NB452_451.1; have hnb12 := NB451_453.1; have hnc12 := NB453_451.1; obtain ⟨hcz13_0, hcz13_1, hfz13_0, hfz13_1⟩ := zc2 BK451) | ((with_reducible refine gate_callee (f := 53) rfl ?_); refine gl (some 7) Tryz.func53 #[.agg #[.int .i64 a0_0, .int .i64 a0_1]] ?_; (with_reducible refine (spec_drGood.calls k a0_0 a0_1 true _ A3.1).mono ?_); rintro e w14 ⟨rfl, hb⟩; refine ⟨_, rfl, ?_⟩; replace BK451 := zb BK451 hb; replace BK452 := zb BK452 hb; replace BK453 := zb BK453 hb; replace HB := zB HB hb; clear hb; have hnb15 := NB452_453.1; have hnc15 := NB453_452.1; obtain ⟨hcz16_0, hcz16_1, hfz16_0, hfz16_1⟩ := zc2 BK452) | (go_at_call 53; (with_reducible refine (spec_drGood.calls k a1_0 a1_1 true _ A5.1).mono ?_); rintro e w17 ⟨rfl, hb⟩; replace BK451 := zb BK451 hb; replace BK452 := zb BK452 hb; replace BK453 := zb BK453 hb; replace HB := zB HB hb; clear hb; obtain ⟨hcz18_0, hcz18_1, hfz18_0, hfz18_1⟩ := zc2 BK451; obtain ⟨hcz19_0, hcz19_1, hfz19_0, hfz19_1⟩ := zc2 BK452) | ((with_reducible refine gate_callee (f := 41) rfl ?_); refine gl (some 31) Tryz.func41 #[.int .i64 (wrap64 ((wrap64 (a0_0 * a1_1)) + (wrap64 (a1_0 * a0_1)))), .int .i64 (wrap64 (a0_1 * a1_1))] ?_; (with_reducible refine (spec_drMake.calls k (wrap64 ((wrap64 (a0_0 * a1_1)) + (wrap64 (a1_0 * a0_1)))) (wrap64 (a0_1 * a1_1)) t456 t457 t458 _ A7.1).mono ?_); rintro e w20 ⟨rfl, hb⟩; refine ⟨_, rfl, ?_⟩; replace BK451 := zb BK451 hb; replace BK452 := zb BK452 hb; replace BK453 := zb BK453 hb; replace HB := zB HB hb; clear hb; obtain ⟨hcz21_0, hcz21_1, hfz21_0, hfz21_1⟩ := zc2 BK453))
      refine bodyPost_ret (results_ct rfl _ _ gb453 30 #[.int .i64 t456, .int .i64 t457] (0, 0) _ rfl (bk BK453) Tryz.underlying30 rfl (by kernel_rfl)) rfl ?_
      exact ⟨er, bq HB⟩
    replace c6 := Bool.eq_false_iff.mpr c6
    subst c6
    rw [if_neg (show ¬ (false = true) by decide)] at H
    simp only [Option.some.injEq, Prod.mk.injEq] at H
    obtain ⟨rfl, rfl, rfl⟩ := H
    go_enter Tryz.func17, Tryz.ntmps17
    go_wp2_with (first | ((with_reducible refine gate_dst (N := 2) rfl ?_); refine be #[.int .i64 a0_0, .int .i64 a0_1] 30 ?_; intro gb451 hg w22 hbox hb; have BK451 := Aside0.mk hbox; have GW451 := zs HB hg; have GE451 := zs HB hg; replace HB := zB HB hb; clear hb hbox hg) | ((with_reducible refine gate_dst (N := 3) rfl ?_); refine be #[.int .i64 a1_0, .int .i64 a1_1] 30 ?_; intro gb452 hg w23 hbox hb; have BK452 := Aside0.mk hbox; have GW452 := zs HB hg; have GE452 := zs HB hg; have NB451_452 := zn BK451 hg; have NB452_451 := zm BK451 hg; replace BK451 := zb BK451 hb; replace HB := zB HB hb; clear hb hbox hg) | ((with_reducible refine gate_dst (N := 4) rfl ?_); refine be #[.int .i64 0, .int .i64 0] 30 ?_; intro gb453 hg w24 hbox hb; have BK453 := Aside0.mk hbox; have GW453 := zs HB hg; have GE453 := zs HB hg; have NB451_453 := zn BK451 hg; have NB453_451 := zm BK451 hg; have NB452_453 := zn BK452 hg; have NB453_452 := zm BK452 hg; replace BK451 := zb BK451 hb; replace BK452 := zb BK452 hb; replace HB := zB HB hb; clear hb hbox hg; have hnb25 := NB451_452.1; have hnc25 := NB452_451.1; have hnb26 := NB451_453.1; have hnc26 := NB453_451.1; obtain ⟨hcz27_0, hcz27_1, hfz27_0, hfz27_1⟩ := zc2 BK451) | ((with_reducible refine gate_callee (f := 53) rfl ?_); refine gl (some 7) Tryz.func53 #[.agg #[.int .i64 a0_0, .int .i64 a0_1]] ?_; (with_reducible refine (spec_drGood.calls k a0_0 a0_1 true _ A3.1).mono ?_); rintro e w28 ⟨rfl, hb⟩; refine ⟨_, rfl, ?_⟩; replace BK451 := zb BK451 hb; replace BK452 := zb BK452 hb; replace BK453 := zb BK453 hb; replace HB := zB HB hb; clear hb; have hnb29 := NB452_453.1; have hnc29 := NB453_452.1; obtain ⟨hcz30_0, hcz30_1, hfz30_0, hfz30_1⟩ := zc2 BK452) | (go_at_call 53; (with_reducible refine (spec_drGood.calls k a1_0 a1_1 false _ A5.1).mono ?_); rintro e w31 ⟨rfl, hb⟩; replace BK451 := zb BK451 hb; replace BK452 := zb BK452 hb; replace BK453 := zb BK453 hb; replace HB := zB HB hb; clear hb; obtain ⟨hcz32_0, hcz32_1, hfz32_0, hfz32_1⟩ := zc2 BK453))
    refine bodyPost_ret (results_ct rfl _ _ gb453 30 #[.int .i64 0, .int .i64 0] (0, 0) _ rfl (bk BK453) Tryz.underlying30 rfl (by kernel_rfl)) rfl ?_
    exact ⟨er, bq HB⟩
  replace c4 := Bool.eq_false_iff.mpr c4
  subst c4
  rw [if_neg (show ¬ (false = true) by decide)] at H
  simp only [Option.some.injEq, Prod.mk.injEq] at H
  obtain ⟨rfl, rfl, rfl⟩ := H
  go_enter Tryz.func17, Tryz.ntmps17
  go_wp2_with (first | ((with_reducible refine gate_dst (N := 2) rfl ?_); refine be #[.int .i64 a0_0, .int .i64 a0_1] 30 ?_; intro gb451 hg w33 hbox hb; have BK451 := Aside0.mk hbox; have GW451 := zs HB hg; have GE451 := zs HB hg; replace HB := zB HB hb; clear hb hbox hg) | ((with_reducible refine gate_dst (N := 3) rfl ?_); refine be #[.int .i64 a1_0, .int .i64 a1_1] 30 ?_; intro gb452 hg w34 hbox hb; have BK452 := Aside0.mk hbox; have GW452 := zs HB hg; have GE452 := zs HB hg; have NB451_452 := zn BK451 hg; have NB452_451 := zm BK451 hg; replace BK451 := zb BK451 hb; replace HB := zB HB hb; clear hb hbox hg) | ((with_reducible refine gate_dst (N := 4) rfl ?_); refine be #[.int .i64 0, .int .i64 0] 30 ?_; intro gb453 hg w35 hbox hb; have BK453 := Aside0.mk hbox; have GW453 := zs HB hg; have GE453 := zs HB hg; have NB451_453 := zn BK451 hg; have NB453_451 := zm BK451 hg; have NB452_453 := zn BK452 hg; have NB453_452 := zm BK452 hg; replace BK451 := zb BK451 hb; replace BK452 := zb BK452 hb; replace HB := zB HB hb; clear hb hbox hg; have hnb36 := NB451_452.1; have hnc36 := NB452_451.1; have hnb37 := NB451_453.1; have hnc37 := NB453_451.1; obtain ⟨hcz38_0, hcz38_1, hfz38_0, hfz38_1⟩ := zc2 BK451) | ((with_reducible refine gate_callee (f := 53) rfl ?_); refine gl (some 7) Tryz.func53 #[.agg #[.int .i64 a0_0, .int .i64 a0_1]] ?_; (with_reducible refine (spec_drGood.calls k a0_0 a0_1 false _ A3.1).mono ?_); rintro e w39 ⟨rfl, hb⟩; refine ⟨_, rfl, ?_⟩; replace BK451 := zb BK451 hb; replace BK452 := zb BK452 hb; replace BK453 := zb BK453 hb; replace HB := zB HB hb; clear hb; have hnb40 := NB453_452.1; have hnc40 := NB452_453.1; obtain ⟨hcz41_0, hcz41_1, hfz41_0, hfz41_1⟩ := zc2 BK453))
  refine bodyPost_ret (results_ct rfl _ _ gb453 30 #[.int .i64 0, .int .i64 0] (0, 0) _ rfl (bk BK453) Tryz.underlying30 rfl (by kernel_rfl)) rfl ?_
  exact ⟨er, bq HB⟩

/-! ### cmp_isNaN_int: function 83 -/
def cmp_isNaN_int.f (a0 : Int) : Option (Bool) := some (a0 != a0)
set_option maxHeartbeats 8000000 in
set_option maxRecDepth 100000 in
theorem cmp_isNaN_int.calls (a0 : Int) (r : Bool) (w : World) (h : cmp_isNaN_int.f a0 = some r) :
    Calls Tryz.prog 83 #[.int .i64 a0] w fun e w' => e = .returned (.bool r) ∧ Drawn0 w w' := by
  have H : (some (a0 != a0)) = some r := h
  clear h
  obtain rfl := Option.some.inj H
  go_enter Tryz.func83, Tryz.ntmps83
  go_wp2
  go_ret
  exact ⟨by first | rfl | (simp; done) | (simp [*]; done), by repeat (first | exact Drawn0.refl _ | apply Drawn0.step)⟩

/-! ### cmp_Compare_int: function 58 -/
def cmp_Compare_int.f (a0 : Int) (a1 : Int) : Option (Int) := (cmp_isNaN_int.f a0).bind fun t459 => ((cmp_isNaN_int.f a1).bind fun t460 => (if t459 = true then (if t460 = true then (some 0) else (some (-1))) else (if t460 = true then (some 1) else (if a0 < a1 then (some (-1)) else (if a0 > a1 then (some 1) else (some 0))))))
set_option maxHeartbeats 8000000 in
set_option maxRecDepth 100000 in
theorem cmp_Compare_int.calls (a0 : Int) (a1 : Int) (r : Int) (w : World) (h : cmp_Compare_int.f a0 a1 = some r) :
    Calls Tryz.prog 58 #[.int .i64 a0, .int .i64 a1] w fun e w' => e = .returned (.int .i64 r) ∧ Drawn0 w w' := by
  have H : ((cmp_isNaN_int.f a0).bind fun t459 => ((cmp_isNaN_int.f a1).bind fun t460 => (if t459 = true then (if t460 = true then (some 0) else (some (-1))) else (if t460 = true then (some 1) else (if a0 < a1 then (some (-1)) else (if a0 > a1 then (some 1) else (some 0))))))) = some r := h
  clear h
  replace H := Option.bind_eq_some_iff.mp H
  obtain ⟨t459, A30, H⟩ := H
  (try dsimp only at H)
  have A3 := Aside0.mk A30
  clear A30
  replace H := Option.bind_eq_some_iff.mp H
  obtain ⟨t460, A40, H⟩ := H
  (try dsimp only at H)
  have A4 := Aside0.mk A40
  clear A40
  by_cases c5 : t459 = true
  · subst c5
    rw [if_pos rfl] at H
    by_cases c6 : t460 = true
    · subst c6
      rw [if_pos rfl] at H
      obtain rfl := Option.some.inj H
      go_enter Tryz.func58, Tryz.ntmps58
      go_wp2_with (first | ((with_reducible refine gate_callee (f := 83) rfl ?_); refine gl (some 8) Tryz.func83 #[.int .i64 a0] ?_; (with_reducible refine (cmp_isNaN_int.calls a0 true _ A3.1).mono ?_); rintro e w' ⟨rfl, ⟨nd, rfl⟩⟩; refine ⟨_, rfl, ?_⟩) | ((with_reducible refine gate_callee (f := 83) rfl ?_); refine gl (some 10) Tryz.func83 #[.int .i64 a1] ?_; (with_reducible refine (cmp_isNaN_int.calls a1 true _ A4.1).mono ?_); rintro e w' ⟨rfl, ⟨nd, rfl⟩⟩; refine ⟨_, rfl, ?_⟩))
      go_ret
      exact ⟨by first | rfl | (simp; done) | (simp [*]; done), by repeat (first | exact Drawn0.refl _ | apply Drawn0.step)⟩
    replace c6 := Bool.eq_false_iff.mpr c6
    subst c6
    rw [if_neg (show ¬ (false = true) by decide)] at H
    obtain rfl := Option.some.inj H
    go_enter Tryz.func58, Tryz.ntmps58
    go_wp2_with (first | ((with_reducible refine gate_callee (f := 83) rfl ?_); refine gl (some 8) Tryz.func83 #[.int .i64 a0] ?_; (with_reducible refine (cmp_isNaN_int.calls a0 true _ A3.1).mono ?_); rintro e w' ⟨rfl, ⟨nd, rfl⟩⟩; refine ⟨_, rfl, ?_⟩) | ((with_reducible refine gate_callee (f := 83) rfl ?_); refine gl (some 10) Tryz.func83 #[.int .i64 a1] ?_; (with_reducible refine (cmp_isNaN_int.calls a1 false _ A4.1).mono ?_); rintro e w' ⟨rfl, ⟨nd, rfl⟩⟩; refine ⟨_, rfl, ?_⟩))
    go_ret
    exact ⟨by first | rfl | (simp; done) | (simp [*]; done), by repeat (first | exact Drawn0.refl _ | apply Drawn0.step)⟩
  replace c5 := Bool.eq_false_iff.mpr c5
  subst c5
  rw [if_neg (show ¬ (false = true) by decide)] at H
  by_cases c7 : t460 = true
  · subst c7
    rw [if_pos rfl] at H
    obtain rfl := Option.some.inj H
    go_enter Tryz.func58, Tryz.ntmps58
    go_wp2_with (first | ((with_reducible refine gate_callee (f := 83) rfl ?_); refine gl (some 8) Tryz.func83 #[.int .i64 a0] ?_; (with_reducible refine (cmp_isNaN_int.calls a0 false _ A3.1).mono ?_); rintro e w' ⟨rfl, ⟨nd, rfl⟩⟩; refine ⟨_, rfl, ?_⟩) | ((with_reducible refine gate_callee (f := 83) rfl ?_); refine gl (some 10) Tryz.func83 #[.int .i64 a1] ?_; (with_reducible refine (cmp_isNaN_int.calls a1 true _ A4.1).mono ?_); rintro e w' ⟨rfl, ⟨nd, rfl⟩⟩; refine ⟨_, rfl, ?_⟩))
    go_ret
    exact ⟨by first | rfl | (simp; done) | (simp [*]; done), by repeat (first | exact Drawn0.refl _ | apply Drawn0.step)⟩
  replace c7 := Bool.eq_false_iff.mpr c7
  subst c7
  rw [if_neg (show ¬ (false = true) by decide)] at H
  by_cases c8 : a0 < a1
  · rw [if_pos c8] at H
    have c8b0 : decide (a0 < a1) = true := decide_eq_true c8
    clear c8
    obtain rfl := Option.some.inj H
    go_enter Tryz.func58, Tryz.ntmps58
    go_wp2_with (first | ((with_reducible refine gate_callee (f := 83) rfl ?_); refine gl (some 8) Tryz.func83 #[.int .i64 a0] ?_; (with_reducible refine (cmp_isNaN_int.calls a0 false _ A3.1).mono ?_); rintro e w' ⟨rfl, ⟨nd, rfl⟩⟩; refine ⟨_, rfl, ?_⟩) | ((with_reducible refine gate_callee (f := 83) rfl ?_); refine gl (some 10) Tryz.func83 #[.int .i64 a1] ?_; (with_reducible refine (cmp_isNaN_int.calls a1 false _ A4.1).mono ?_); rintro e w' ⟨rfl, ⟨nd, rfl⟩⟩; refine ⟨_, rfl, ?_⟩))
    go_ret
    exact ⟨by first | rfl | (simp; done) | (simp [*]; done), by repeat (first | exact Drawn0.refl _ | apply Drawn0.step)⟩
  rw [if_neg c8] at H
  have c8b0 : decide (a0 < a1) = false := decide_eq_false c8
  clear c8
  by_cases c9 : a0 > a1
  · rw [if_pos c9] at H
    have c9b0 : decide (a1 < a0) = true := decide_eq_true c9
    clear c9
    obtain rfl := Option.some.inj H
    go_enter Tryz.func58, Tryz.ntmps58
    go_wp2_with (first | ((with_reducible refine gate_callee (f := 83) rfl ?_); refine gl (some 8) Tryz.func83 #[.int .i64 a0] ?_; (with_reducible refine (cmp_isNaN_int.calls a0 false _ A3.1).mono ?_); rintro e w' ⟨rfl, ⟨nd, rfl⟩⟩; refine ⟨_, rfl, ?_⟩) | ((with_reducible refine gate_callee (f := 83) rfl ?_); refine gl (some 10) Tryz.func83 #[.int .i64 a1] ?_; (with_reducible refine (cmp_isNaN_int.calls a1 false _ A4.1).mono ?_); rintro e w' ⟨rfl, ⟨nd, rfl⟩⟩; refine ⟨_, rfl, ?_⟩))
    go_ret
    exact ⟨by first | rfl | (simp; done) | (simp [*]; done), by repeat (first | exact Drawn0.refl _ | apply Drawn0.step)⟩
  rw [if_neg c9] at H
  have c9b0 : decide (a1 < a0) = false := decide_eq_false c9
  clear c9
  obtain rfl := Option.some.inj H
  go_enter Tryz.func58, Tryz.ntmps58
  go_wp2_with (first | ((with_reducible refine gate_callee (f := 83) rfl ?_); refine gl (some 8) Tryz.func83 #[.int .i64 a0] ?_; (with_reducible refine (cmp_isNaN_int.calls a0 false _ A3.1).mono ?_); rintro e w' ⟨rfl, ⟨nd, rfl⟩⟩; refine ⟨_, rfl, ?_⟩) | ((with_reducible refine gate_callee (f := 83) rfl ?_); refine gl (some 10) Tryz.func83 #[.int .i64 a1] ?_; (with_reducible refine (cmp_isNaN_int.calls a1 false _ A4.1).mono ?_); rintro e w' ⟨rfl, ⟨nd, rfl⟩⟩; refine ⟨_, rfl, ?_⟩))
  go_ret
  exact ⟨by first | rfl | (simp; done) | (simp [*]; done), by repeat (first | exact Drawn0.refl _ | apply Drawn0.step)⟩

/-! ### impl_CompareSpans: function 18 -/
def impl_CompareSpans.f (k : Nat) (a0_0 : Int) (a0_1 : Int) (a1_0 : Int) (a1_1 : Int) : Option (Int × Bool) := (impl_IsSpan.f k a0_0 a0_1).bind fun t463 => (if t463 = true then ((impl_IsSpan.f k a1_0 a1_1).bind fun t464 => (if t464 = true then ((cmp_Compare_int.f (wrap64 (a0_0 * a1_1)) (wrap64 (a1_0 * a0_1))).bind fun t465 => (some (t465, true))) else (some (0, false)))) else (some (0, false)))
theorem impl_CompareSpans.mono : ∀ a0 a1 a2 a3 k, LeO (impl_CompareSpans.f k a0 a1 a2 a3) (impl_CompareSpans.f (k + 1) a0 a1 a2 a3) := by
  intro a0 a1 a2 a3 k
  unfold impl_CompareSpans.f
  repeat' first
      | (with_reducible exact impl_IsSpan.mono _ _ _)
      | (with_reducible exact LeO.refl _)
      | (with_reducible exact LeO.none _)
      | (with_reducible refine LeO.ite ?_ ?_)
      | (with_reducible refine LeO.bind ?_ (fun _ => ?_))
      | exact impl_IsSpan.mono _ _ _
      | exact LeO.none _
      | refine LeO.ite ?_ ?_
      | refine LeO.bind ?_ (fun _ => ?_)
set_option maxHeartbeats 8000000 in
set_option maxRecDepth 100000 in
theorem impl_CompareSpans.calls (k : Nat) (a0_0 : Int) (a0_1 : Int) (a1_0 : Int) (a1_1 : Int) (r1 : Int) (r2 : Bool) (w : World) (h : impl_CompareSpans.f k a0_0 a0_1 a1_0 a1_1 = some (r1, r2)) :
    Calls Tryz.prog 18 #[.agg #[.int .i64 a0_0, .int .i64 a0_1], .agg #[.int .i64 a1_0, .int .i64 a1_1]] w fun e w' => e = .returned (.tuple #[.int .i64 r1, .bool r2]) ∧ Below w.heap.size w w' := by
  have hu30 := Tryz.underlying30
  have HB := Aside0.mk (Below.refl w.heap.size w)
  have H : ((impl_IsSpan.f k a0_0 a0_1).bind fun t463 => (if t463 = true then ((impl_IsSpan.f k a1_0 a1_1).bind fun t464 => (if t464 = true then ((cmp_Compare_int.f (wrap64 (a0_0 * a1_1)) (wrap64 (a1_0 * a0_1))).bind fun t465 => (some (t465, true))) else (some (0, false)))) else (some (0, false)))) = some (r1, r2) := h
  clear h
  replace H := Option.bind_eq_some_iff.mp H
  obtain ⟨t463, A30, H⟩ := H
  (try dsimp only at H)
  have A3 := Aside0.mk A30
  clear A30
  by_cases c4 : t463 = true
  · subst c4
    rw [if_pos rfl] at H
    replace H := Option.bind_eq_some_iff.mp H
    obtain ⟨t464, A50, H⟩ := H
    (try dsimp only at H)
    have A5 := Aside0.mk A50
    clear A50
    by_cases c6 : t464 = true
    · subst c6
      rw [if_pos rfl] at H
      replace H := Option.bind_eq_some_iff.mp H
      obtain ⟨t465, A70, H⟩ := H
      (try dsimp only at H)
      have A7 := Aside0.mk A70
      clear A70
      simp only [Option.some.injEq, Prod.mk.injEq] at H
      obtain ⟨rfl, rfl⟩ := H
      go_enter Tryz.func18, Tryz.ntmps18
      go_wp2_with (first | ((with_reducible refine gate_dst (N := 2) rfl ?_); refine be #[.int .i64 a0_0, .int .i64 a0_1] 30 ?_; intro gb461 hg w8 hbox hb; have BK461 := Aside0.mk hbox; have GW461 := zs HB hg; have GE461 := zs HB hg; replace HB := zB HB hb; clear hb hbox hg) | ((with_reducible refine gate_dst (N := 3) rfl ?_); refine be #[.int .i64 a1_0, .int .i64 a1_1] 30 ?_; intro gb462 hg w9 hbox hb; have BK462 := Aside0.mk hbox; have GW462 := zs HB hg; have GE462 := zs HB hg; have NB461_462 := zn BK461 hg; have NB462_461 := zm BK461 hg; replace BK461 := zb BK461 hb; replace HB := zB HB hb; clear hb hbox hg; have hnb10 := NB461_462.1; have hnc10 := NB462_461.1; obtain ⟨hcz11_0, hcz11_1, hfz11_0, hfz11_1⟩ := zc2 BK461) | ((with_reducible refine gate_callee (f := 31) rfl ?_); refine gl (some 7) Tryz.func31 #[.agg #[.int .i64 a0_0, .int .i64 a0_1]] ?_; (with_reducible refine (impl_IsSpan.calls k a0_0 a0_1 true _ A3.1).mono ?_); rintro e w12 ⟨rfl, hb⟩; refine ⟨_, rfl, ?_⟩; replace BK461 := zb BK461 hb; replace BK462 := zb BK462 hb; replace HB := zB HB hb; clear hb; obtain ⟨hcz13_0, hcz13_1, hfz13_0, hfz13_1⟩ := zc2 BK462) | (go_at_call 31; (with_reducible refine (impl_IsSpan.calls k a1_0 a1_1 true _ A5.1).mono ?_); rintro e w14 ⟨rfl, hb⟩; replace BK461 := zb BK461 hb; replace BK462 := zb BK462 hb; replace HB := zB HB hb; clear hb; obtain ⟨hcz15_0, hcz15_1, hfz15_0, hfz15_1⟩ := zc2 BK461; obtain ⟨hcz16_0, hcz16_1, hfz16_0, hfz16_1⟩ := zc2 BK462) | ((with_reducible refine gate_callee (f := 58) rfl ?_); refine gl (some 24) Tryz.func58 #[.int .i64 (wrap64 (a0_0 * a1_1)), .int .i64 (wrap64 (a1_0 * a0_1))] ?_; (with_reducible refine (cmp_Compare_int.calls (wrap64 (a0_0 * a1_1)) (wrap64 (a1_0 * a0_1)) t465 _ A7.1).mono ?_); rintro e w' ⟨rfl, ⟨nd, rfl⟩⟩; refine ⟨_, rfl, ?_⟩))
      go_ret2
      exact ⟨er, bq HB⟩
    replace c6 := Bool.eq_false_iff.mpr c6
    subst c6
    rw [if_neg (show ¬ (false = true) by decide)] at H
    simp only [Option.some.injEq, Prod.mk.injEq] at H
    obtain ⟨rfl, rfl⟩ := H
    go_enter Tryz.func18, Tryz.ntmps18
    go_wp2_with (first | ((with_reducible refine gate_dst (N := 2) rfl ?_); refine be #[.int .i64 a0_0, .int .i64 a0_1] 30 ?_; intro gb461 hg w17 hbox hb; have BK461 := Aside0.mk hbox; have GW461 := zs HB hg; have GE461 := zs HB hg; replace HB := zB HB hb; clear hb hbox hg) | ((with_reducible refine gate_dst (N := 3) rfl ?_); refine be #[.int .i64 a1_0, .int .i64 a1_1] 30 ?_; intro gb462 hg w18 hbox hb; have BK462 := Aside0.mk hbox; have GW462 := zs HB hg; have GE462 := zs HB hg; have NB461_462 := zn BK461 hg; have NB462_461 := zm BK461 hg; replace BK461 := zb BK461 hb; replace HB := zB HB hb; clear hb hbox hg; have hnb19 := NB461_462.1; have hnc19 := NB462_461.1; obtain ⟨hcz20_0, hcz20_1, hfz20_0, hfz20_1⟩ := zc2 BK461) | ((with_reducible refine gate_callee (f := 31) rfl ?_); refine gl (some 7) Tryz.func31 #[.agg #[.int .i64 a0_0, .int .i64 a0_1]] ?_; (with_reducible refine (impl_IsSpan.calls k a0_0 a0_1 true _ A3.1).mono ?_); rintro e w21 ⟨rfl, hb⟩; refine ⟨_, rfl, ?_⟩; replace BK461 := zb BK461 hb; replace BK462 := zb BK462 hb; replace HB := zB HB hb; clear hb; obtain ⟨hcz22_0, hcz22_1, hfz22_0, hfz22_1⟩ := zc2 BK462) | (go_at_call 31; (with_reducible refine (impl_IsSpan.calls k a1_0 a1_1 false _ A5.1).mono ?_); rintro e w23 ⟨rfl, hb⟩; replace BK461 := zb BK461 hb; replace BK462 := zb BK462 hb; replace HB := zB HB hb; clear hb))
    go_ret2
    exact ⟨er, bq HB⟩
  replace c4 := Bool.eq_false_iff.mpr c4
  subst c4
  rw [if_neg (show ¬ (false = true) by decide)] at H
  simp only [Option.some.injEq, Prod.mk.injEq] at H
  obtain ⟨rfl, rfl⟩ := H
  go_enter Tryz.func18, Tryz.ntmps18
  go_wp2_with (first | ((with_reducible refine gate_dst (N := 2) rfl ?_); refine be #[.int .i64 a0_0, .int .i64 a0_1] 30 ?_; intro gb461 hg w24 hbox hb; have BK461 := Aside0.mk hbox; have GW461 := zs HB hg; have GE461 := zs HB hg; replace HB := zB HB hb; clear hb hbox hg) | ((with_reducible refine gate_dst (N := 3) rfl ?_); refine be #[.int .i64 a1_0, .int .i64 a1_1] 30 ?_; intro gb462 hg w25 hbox hb; have BK462 := Aside0.mk hbox; have GW462 := zs HB hg; have GE462 := zs HB hg; have NB461_462 := zn BK461 hg; have NB462_461 := zm BK461 hg; replace BK461 := zb BK461 hb; replace HB := zB HB hb; clear hb hbox hg; have hnb26 := NB461_462.1; have hnc26 := NB462_461.1; obtain ⟨hcz27_0, hcz27_1, hfz27_0, hfz27_1⟩ := zc2 BK461) | ((with_reducible refine gate_callee (f := 31) rfl ?_); refine gl (some 7) Tryz.func31 #[.agg #[.int .i64 a0_0, .int .i64 a0_1]] ?_; (with_reducible refine (impl_IsSpan.calls k a0_0 a0_1 false _ A3.1).mono ?_); rintro e w28 ⟨rfl, hb⟩; refine ⟨_, rfl, ?_⟩; replace BK461 := zb BK461 hb; replace BK462 := zb BK462 hb; replace HB := zB HB hb; clear hb))
  go_ret2
  exact ⟨er, bq HB⟩

/-! ### spec_l1Sign: function 59 -/
def spec_l1Sign.f (a0 : Int) : Option (Int) := if a0 > 0 then (some 1) else (if a0 < 0 then (some (-1)) else (some 0))
set_option maxHeartbeats 8000000 in
set_option maxRecDepth 100000 in
theorem spec_l1Sign.calls (a0 : Int) (r : Int) (w : World) (h : spec_l1Sign.f a0 = some r) :
    Calls Tryz.prog 59 #[.int .i64 a0] w fun e w' => e = .returned (.int .i64 r) ∧ Drawn0 w w' := by
  have H : (if a0 > 0 then (some 1) else (if a0 < 0 then (some (-1)) else (some 0))) = some r := h
  clear h
  by_cases c2 : a0 > 0
  · rw [if_pos c2] at H
    have c2b0 : decide (0 < a0) = true := decide_eq_true c2
    clear c2
    obtain rfl := Option.some.inj H
    go_enter Tryz.func59, Tryz.ntmps59
    go_wp2
    go_ret
    exact ⟨by first | rfl | (simp; done) | (simp [*]; done), by repeat (first | exact Drawn0.refl _ | apply Drawn0.step)⟩
  rw [if_neg c2] at H
  have c2b0 : decide (0 < a0) = false := decide_eq_false c2
  clear c2
  by_cases c3 : a0 < 0
  · rw [if_pos c3] at H
    have c3b0 : decide (a0 < 0) = true := decide_eq_true c3
    clear c3
    obtain rfl := Option.some.inj H
    go_enter Tryz.func59, Tryz.ntmps59
    go_wp2
    go_ret
    exact ⟨by first | rfl | (simp; done) | (simp [*]; done), by repeat (first | exact Drawn0.refl _ | apply Drawn0.step)⟩
  rw [if_neg c3] at H
  have c3b0 : decide (a0 < 0) = false := decide_eq_false c3
  clear c3
  obtain rfl := Option.some.inj H
  go_enter Tryz.func59, Tryz.ntmps59
  go_wp2
  go_ret
  exact ⟨by first | rfl | (simp; done) | (simp [*]; done), by repeat (first | exact Drawn0.refl _ | apply Drawn0.step)⟩

end Go.Proofs.YtejlandhfnnkiaaGreatDoor.PFnClocksAgree
