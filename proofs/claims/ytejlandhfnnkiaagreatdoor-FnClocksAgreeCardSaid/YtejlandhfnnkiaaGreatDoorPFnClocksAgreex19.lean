/- A part of the walk of FnClocksAgree: which Lean function each Go function comes to, and that the machine's call does so. Written by a program of this repo (wip/gen/xprint.py). -/
import Derived.Test.YtejlandhfnnkiaaGreatDoorPFnClocksAgreex0
import Derived.Test.YtejlandhfnnkiaaGreatDoorPFnClocksAgreex4
import Derived.Test.YtejlandhfnnkiaaGreatDoorPFnClocksAgreex10
import Derived.Test.YtejlandhfnnkiaaGreatDoorPFnClocksAgreex11
namespace Go.Proofs.YtejlandhfnnkiaaGreatDoor.PFnClocksAgree
open Go.RowKit Go.Proofs.YtejlandhfnnkiaaGreatDoorW.PrintWords Go.Proofs.YtejlandhfnnkiaaGreatDoorW.PrintLast Go.Proofs.YtejlandhfnnkiaaGreatDoorW.PrintMore
attribute [local go_sem] max2_int min2_int max_two min_two max_three min_three max_four min_four   -- for this text's walks alone
set_option linter.unusedVariables false
set_option linter.unusedSimpArgs false

/-! ### spec_ClockOfReadings: function 13 -/
mutual
def spec_ClockOfReadings.j0 : Nat → Bool → Int → Int → Int → Int → Int → Int → Option (Int × Int × Int × Int × Bool)
  | 0, _, _, _, _, _, _, _ => none
  | k + 1, x31, x432000, x432001, x433000, x433001, x434000, x434001 => if x31 = true then (some (0, 0, 0, 0, false)) else (if (wrap64 (x432001 * x434001)) = 0 then (none) else (if (Int.tmod (wrap64 ((wrap64 ((wrap64 (x434000 * x432001)) - (wrap64 (x432000 * x434001)))) + (wrap64 (x432001 * x434001)))) (wrap64 (x432001 * x434001))) = 0 then (some (0, 0, 0, 0, false)) else ((spec_diCommon.f k (Int.tmod (wrap64 ((wrap64 ((wrap64 (x434000 * x432001)) - (wrap64 (x432000 * x434001)))) + (wrap64 (x432001 * x434001)))) (wrap64 (x432001 * x434001))) (wrap64 (x432001 * x434001))).bind fun t438 => (if t438 = 0 then (none) else ((spec_diCommon.f k (wrap64 (Int.tdiv (Int.tmod (wrap64 ((wrap64 ((wrap64 (x434000 * x432001)) - (wrap64 (x432000 * x434001)))) + (wrap64 (x432001 * x434001)))) (wrap64 (x432001 * x434001))) t438)) x433000).bind fun t439 => ((spec_diCommon.f k x433001 (wrap64 (Int.tdiv (wrap64 (x432001 * x434001)) t438))).bind fun t440 => (if t439 = 0 then (none) else (if (wrap64 (Int.tdiv (wrap64 (Int.tdiv (Int.tmod (wrap64 ((wrap64 ((wrap64 (x434000 * x432001)) - (wrap64 (x432000 * x434001)))) + (wrap64 (x432001 * x434001)))) (wrap64 (x432001 * x434001))) t438)) t439)) > 1000 then (spec_ClockOfReadings.j1 k (wrap64 (Int.tdiv (Int.tmod (wrap64 ((wrap64 ((wrap64 (x434000 * x432001)) - (wrap64 (x432000 * x434001)))) + (wrap64 (x432001 * x434001)))) (wrap64 (x432001 * x434001))) t438)) (wrap64 (Int.tdiv (wrap64 (x432001 * x434001)) t438)) t439 t440 true x432000 x432001 x433000 x433001) else (if t440 = 0 then (none) else (spec_ClockOfReadings.j1 k (wrap64 (Int.tdiv (Int.tmod (wrap64 ((wrap64 ((wrap64 (x434000 * x432001)) - (wrap64 (x432000 * x434001)))) + (wrap64 (x432001 * x434001)))) (wrap64 (x432001 * x434001))) t438)) (wrap64 (Int.tdiv (wrap64 (x432001 * x434001)) t438)) t439 t440 (decide ((wrap64 (Int.tdiv (wrap64 (Int.tdiv (wrap64 (x432001 * x434001)) t438)) t440)) > 1000)) x432000 x432001 x433000 x433001))))))))))
def spec_ClockOfReadings.j1 : Nat → Int → Int → Int → Int → Bool → Int → Int → Int → Int → Option (Int × Int × Int × Int × Bool)
  | 0, _, _, _, _, _, _, _, _, _ => none
  | k + 1, x8, x9, x11, x12, x83, x432000, x432001, x433000, x433001 => if x83 = true then (some (0, 0, 0, 0, false)) else (if x11 = 0 then (none) else (if x12 = 0 then (none) else ((spec_drClock.f k x432000 x432001 (wrap64 ((wrap64 (Int.tdiv x8 x11)) * (wrap64 (Int.tdiv x433001 x12)))) (wrap64 ((wrap64 (Int.tdiv x9 x12)) * (wrap64 (Int.tdiv x433000 x11))))).bind fun t442 => (if t442 = true then (some (x432000, x432001, wrap64 ((wrap64 (Int.tdiv x8 x11)) * (wrap64 (Int.tdiv x433001 x12))), wrap64 ((wrap64 (Int.tdiv x9 x12)) * (wrap64 (Int.tdiv x433000 x11))), true)) else (some (0, 0, 0, 0, false))))))
end
def spec_ClockOfReadings.f (k : Nat) (a0_0 : Int) (a0_1 : Int) (a1_0 : Int) (a1_1 : Int) (a2_0 : Int) (a2_1 : Int) : Option (Int × Int × Int × Int × Bool) := (spec_diGood.f k a0_0 a0_1).bind fun t435 => (if t435 = true then ((spec_diGood.f k a2_0 a2_1).bind fun t436 => (if t436 = true then ((spec_drGood.f k a1_0 a1_1).bind fun t437 => (if t437 = true then (spec_ClockOfReadings.j0 k (a1_0 == 0) a0_0 a0_1 a1_0 a1_1 a2_0 a2_1) else (spec_ClockOfReadings.j0 k true a0_0 a0_1 a1_0 a1_1 a2_0 a2_1))) else (spec_ClockOfReadings.j0 k true a0_0 a0_1 a1_0 a1_1 a2_0 a2_1))) else (spec_ClockOfReadings.j0 k true a0_0 a0_1 a1_0 a1_1 a2_0 a2_1))
theorem spec_ClockOfReadings.mono_l : ∀ k, (∀ y0 y1 y2 y3 y4 y5 y6, LeO (spec_ClockOfReadings.j0 k y0 y1 y2 y3 y4 y5 y6) (spec_ClockOfReadings.j0 (k + 1) y0 y1 y2 y3 y4 y5 y6)) ∧ (∀ y0 y1 y2 y3 y4 y5 y6 y7 y8, LeO (spec_ClockOfReadings.j1 k y0 y1 y2 y3 y4 y5 y6 y7 y8) (spec_ClockOfReadings.j1 (k + 1) y0 y1 y2 y3 y4 y5 y6 y7 y8))
  | 0 => ⟨fun _ _ _ _ _ _ _ r h => by simp [spec_ClockOfReadings.j0] at h, fun _ _ _ _ _ _ _ _ _ r h => by simp [spec_ClockOfReadings.j1] at h⟩
  | k + 1 => by
    obtain ⟨ih0, ih1⟩ := spec_ClockOfReadings.mono_l k
    refine ⟨?_, ?_⟩
    · intro y0 y1 y2 y3 y4 y5 y6
      unfold spec_ClockOfReadings.j0
      repeat' first
      | (with_reducible exact ih0 _ _ _ _ _ _ _)
      | (with_reducible exact ih1 _ _ _ _ _ _ _ _ _)
      | (with_reducible exact spec_diCommon.mono _ _ _)
      | (with_reducible exact spec_diGood.mono _ _ _)
      | (with_reducible exact spec_drClock.mono _ _ _ _ _)
      | (with_reducible exact spec_drGood.mono _ _ _)
      | (with_reducible exact LeO.refl _)
      | (with_reducible exact LeO.none _)
      | (with_reducible refine LeO.ite ?_ ?_)
      | (with_reducible refine LeO.bind ?_ (fun _ => ?_))
      | exact ih0 _ _ _ _ _ _ _
      | exact ih1 _ _ _ _ _ _ _ _ _
      | exact spec_diCommon.mono _ _ _
      | exact spec_diGood.mono _ _ _
      | exact spec_drClock.mono _ _ _ _ _
      | exact spec_drGood.mono _ _ _
      | exact LeO.none _
      | refine LeO.ite ?_ ?_
      | refine LeO.bind ?_ (fun _ => ?_)
    intro y0 y1 y2 y3 y4 y5 y6 y7 y8
    unfold spec_ClockOfReadings.j1
    repeat' first
    | (with_reducible exact ih0 _ _ _ _ _ _ _)
    | (with_reducible exact ih1 _ _ _ _ _ _ _ _ _)
    | (with_reducible exact spec_diCommon.mono _ _ _)
    | (with_reducible exact spec_diGood.mono _ _ _)
    | (with_reducible exact spec_drClock.mono _ _ _ _ _)
    | (with_reducible exact spec_drGood.mono _ _ _)
    | (with_reducible exact LeO.refl _)
    | (with_reducible exact LeO.none _)
    | (with_reducible refine LeO.ite ?_ ?_)
    | (with_reducible refine LeO.bind ?_ (fun _ => ?_))
    | exact ih0 _ _ _ _ _ _ _
    | exact ih1 _ _ _ _ _ _ _ _ _
    | exact spec_diCommon.mono _ _ _
    | exact spec_diGood.mono _ _ _
    | exact spec_drClock.mono _ _ _ _ _
    | exact spec_drGood.mono _ _ _
    | exact LeO.none _
    | refine LeO.ite ?_ ?_
    | refine LeO.bind ?_ (fun _ => ?_)
theorem spec_ClockOfReadings.mono : ∀ a0 a1 a2 a3 a4 a5 k, LeO (spec_ClockOfReadings.f k a0 a1 a2 a3 a4 a5) (spec_ClockOfReadings.f (k + 1) a0 a1 a2 a3 a4 a5) := by
  intro a0 a1 a2 a3 a4 a5 k
  obtain ⟨ih0, ih1⟩ := spec_ClockOfReadings.mono_l k
  unfold spec_ClockOfReadings.f
  repeat' first
      | (with_reducible exact ih0 _ _ _ _ _ _ _)
      | (with_reducible exact ih1 _ _ _ _ _ _ _ _ _)
      | (with_reducible exact spec_diCommon.mono _ _ _)
      | (with_reducible exact spec_diGood.mono _ _ _)
      | (with_reducible exact spec_drClock.mono _ _ _ _ _)
      | (with_reducible exact spec_drGood.mono _ _ _)
      | (with_reducible exact LeO.refl _)
      | (with_reducible exact LeO.none _)
      | (with_reducible refine LeO.ite ?_ ?_)
      | (with_reducible refine LeO.bind ?_ (fun _ => ?_))
      | exact ih0 _ _ _ _ _ _ _
      | exact ih1 _ _ _ _ _ _ _ _ _
      | exact spec_diCommon.mono _ _ _
      | exact spec_diGood.mono _ _ _
      | exact spec_drClock.mono _ _ _ _ _
      | exact spec_drGood.mono _ _ _
      | exact LeO.none _
      | refine LeO.ite ?_ ?_
      | refine LeO.bind ?_ (fun _ => ?_)
def spec_ClockOfReadings.T3 : Bool × List (List Nat × List Nat) := (true, [([], []), ([0], [0]), ([], []), ([2], [2]), ([1, 3], [1, 3]), ([], []), ([5], [5]), ([], []), ([7], [7]), ([6, 8], [6, 8]), ([4, 9], [4, 9]), ([], []), ([11], [11]), ([], []), ([13], [13]), ([12, 14], [12, 14]), ([10, 0, 1, 2, 3, 4, 5, 6, 7, 8, 9, 10], [10]), ([15, 16, 0, 1, 2, 3, 4, 5, 6, 7, 8, 9, 10, 11, 12, 13, 14, 15, 16], [15])])
def spec_ClockOfReadings.B3 : List Nat := [0, 1, 0, 4, 15, 0, 32, 0, 128, 480, 1023, 0, 2048, 0, 8192, 30720, 2047, 131071]
theorem spec_ClockOfReadings.tab3 : rtab .any (opsOf Tryz.f13 3) = spec_ClockOfReadings.T3 := by kernel_rfl
theorem spec_ClockOfReadings.bits3 : waitsOk spec_ClockOfReadings.T3.2 spec_ClockOfReadings.B3 = true := by kernel_rfl
def spec_ClockOfReadings.T10 : Bool × List (List Nat × List Nat) := (true, [([], []), ([], []), ([1], [1]), ([0, 2], [0, 2]), ([], []), ([4], [4]), ([], []), ([5, 6, 3], [5, 6]), ([3, 7, 0, 1, 2, 3], [3]), ([7, 8, 0, 1, 2, 3, 4, 5, 6, 7, 8], [7])])
def spec_ClockOfReadings.B10 : List Nat := [0, 0, 2, 7, 0, 16, 0, 127, 255, 511]
theorem spec_ClockOfReadings.tab10 : rtab .any (opsOf Tryz.f13 10) = spec_ClockOfReadings.T10 := by kernel_rfl
theorem spec_ClockOfReadings.bits10 : waitsOk spec_ClockOfReadings.T10.2 spec_ClockOfReadings.B10 = true := by kernel_rfl
def spec_ClockOfReadings.T13 : Bool × List (List Nat × List Nat) := (true, [([], []), ([], []), ([], []), ([1, 2], [1, 2]), ([], []), ([4], [4]), ([], []), ([5, 6], [5, 6]), ([3, 7], [3, 7]), ([], []), ([], []), ([9, 10], [9, 10]), ([], []), ([12], [12]), ([], []), ([13, 14], [13, 14]), ([11, 15], [11, 15]), ([0, 8, 16], [0, 8, 16]), ([], []), ([18, 17, 0, 1, 2, 3, 4, 5, 6, 7, 8, 9, 10, 11, 12, 13, 14, 15, 16, 17, 18], [17, 18])])
def spec_ClockOfReadings.B13 : List Nat := [0, 0, 0, 6, 0, 16, 0, 112, 254, 0, 0, 1536, 0, 4096, 0, 28672, 65024, 131071, 0, 524287]
theorem spec_ClockOfReadings.tab13 : rtab .any (opsOf Tryz.f13 13) = spec_ClockOfReadings.T13 := by kernel_rfl
theorem spec_ClockOfReadings.bits13 : waitsOk spec_ClockOfReadings.T13.2 spec_ClockOfReadings.B13 = true := by kernel_rfl
set_option maxHeartbeats 8000000 in
set_option maxRecDepth 100000 in
theorem spec_ClockOfReadings.calls (k : Nat) (a0_0 : Int) (a0_1 : Int) (a1_0 : Int) (a1_1 : Int) (a2_0 : Int) (a2_1 : Int) (r1 : Int) (r2 : Int) (r3 : Int) (r4 : Int) (r5 : Bool) (w : World) (h : spec_ClockOfReadings.f k a0_0 a0_1 a1_0 a1_1 a2_0 a2_1 = some (r1, r2, r3, r4, r5)) :
    Calls Tryz.prog 13 #[.agg #[.int .i64 a0_0, .int .i64 a0_1], .agg #[.int .i64 a1_0, .int .i64 a1_1], .agg #[.int .i64 a2_0, .int .i64 a2_1]] w fun e w' => e = .returned (.tuple #[.agg #[.int .i64 r1, .int .i64 r2, .int .i64 r3, .int .i64 r4], .bool r5]) ∧ Below w.heap.size w w' := by
  have hu25 := Tryz.underlying25
  have hu30 := Tryz.underlying30
  have hu27 := Tryz.underlying27
  have HB := Aside0.mk (Below.refl w.heap.size w)
  have H : ((spec_diGood.f k a0_0 a0_1).bind fun t435 => (if t435 = true then ((spec_diGood.f k a2_0 a2_1).bind fun t436 => (if t436 = true then ((spec_drGood.f k a1_0 a1_1).bind fun t437 => (if t437 = true then (spec_ClockOfReadings.j0 k (a1_0 == 0) a0_0 a0_1 a1_0 a1_1 a2_0 a2_1) else (spec_ClockOfReadings.j0 k true a0_0 a0_1 a1_0 a1_1 a2_0 a2_1))) else (spec_ClockOfReadings.j0 k true a0_0 a0_1 a1_0 a1_1 a2_0 a2_1))) else (spec_ClockOfReadings.j0 k true a0_0 a0_1 a1_0 a1_1 a2_0 a2_1))) = some (r1, r2, r3, r4, r5) := h
  clear h
  have HC4 := Aside0.mk H
  clear H
  go_enter Tryz.func13, Tryz.ntmps13
  go_upto_region 1 with (first | ((with_reducible refine gate_dst (N := 3) rfl ?_); refine be #[.int .i64 a0_0, .int .i64 a0_1] 25 ?_; intro gb431 hg w5 hbox hb; have BK431 := Aside0.mk hbox; have GW431 := zs HB hg; have GE431 := zs HB hg; replace HB := zB HB hb; clear hb hbox hg) | ((with_reducible refine gate_dst (N := 4) rfl ?_); refine be #[.int .i64 a1_0, .int .i64 a1_1] 30 ?_; intro gb432 hg w6 hbox hb; have BK432 := Aside0.mk hbox; have GW432 := zs HB hg; have GE432 := zs HB hg; have NB431_432 := zn BK431 hg; have NB432_431 := zm BK431 hg; replace BK431 := zb BK431 hb; replace HB := zB HB hb; clear hb hbox hg) | ((with_reducible refine gate_dst (N := 5) rfl ?_); refine be #[.int .i64 a2_0, .int .i64 a2_1] 25 ?_; intro gb433 hg w7 hbox hb; have BK433 := Aside0.mk hbox; have GW433 := zs HB hg; have GE433 := zs HB hg; have NB431_433 := zn BK431 hg; have NB433_431 := zm BK431 hg; have NB432_433 := zn BK432 hg; have NB433_432 := zm BK432 hg; replace BK431 := zb BK431 hb; replace BK432 := zb BK432 hb; replace HB := zB HB hb; clear hb hbox hg) | ((with_reducible refine gate_dst (N := 6) rfl ?_); refine be #[.int .i64 0, .int .i64 0, .int .i64 0, .int .i64 0] 27 ?_; intro gb434 hg w8 hbox hb; have BK434 := Aside0.mk hbox; have GW434 := zs HB hg; have GE434 := zs HB hg; have NB431_434 := zn BK431 hg; have NB434_431 := zm BK431 hg; have NB432_434 := zn BK432 hg; have NB434_432 := zm BK432 hg; have NB433_434 := zn BK433 hg; have NB434_433 := zm BK433 hg; replace BK431 := zb BK431 hb; replace BK432 := zb BK432 hb; replace BK433 := zb BK433 hb; replace HB := zB HB hb; clear hb hbox hg))
  (try simp only [Act.put, List.setIfInBounds_toArray, List.set_cons_zero, List.set_cons_succ])
  go_cut [31] (fun v31 wc => ∃ (kq : Nat) (x31_3 : Bool), v31 = .bool x31_3 ∧ Aside0 (spec_ClockOfReadings.j0 kq x31_3 a0_0 a0_1 a1_0 a1_1 a2_0 a2_1 = some (r1, r2, r3, r4, r5)) ∧ Aside0 (kq ≤ k) ∧ Aside0 (wc.heap[gb431]? = some (.cells #[.int .i64 a0_0, .int .i64 a0_1] 25 (0, 0))) ∧ Aside0 (wc.heap[gb432]? = some (.cells #[.int .i64 a1_0, .int .i64 a1_1] 30 (0, 0))) ∧ Aside0 (wc.heap[gb433]? = some (.cells #[.int .i64 a2_0, .int .i64 a2_1] 25 (0, 0))) ∧ Aside0 (wc.heap[gb434]? = some (.cells #[.int .i64 0, .int .i64 0, .int .i64 0, .int .i64 0] 27 (0, 0))) ∧ Aside0 (Below w.heap.size w wc))
  case first =>
    have H := HC4.1
    clear HC4
    replace H := Option.bind_eq_some_iff.mp H
    obtain ⟨t435, A90, H⟩ := H
    (try dsimp only at H)
    have A9 := Aside0.mk A90
    clear A90
    by_cases c10 : t435 = true
    · subst c10
      rw [if_pos rfl] at H
      replace H := Option.bind_eq_some_iff.mp H
      obtain ⟨t436, A110, H⟩ := H
      (try dsimp only at H)
      have A11 := Aside0.mk A110
      clear A110
      by_cases c12 : t436 = true
      · subst c12
        rw [if_pos rfl] at H
        replace H := Option.bind_eq_some_iff.mp H
        obtain ⟨t437, A130, H⟩ := H
        (try dsimp only at H)
        have A13 := Aside0.mk A130
        clear A130
        by_cases c14 : t437 = true
        · subst c14
          rw [if_pos rfl] at H
          have H' := Aside0.mk H
          clear H
          have hnb15 := NB431_432.1
          have hnc15 := NB432_431.1
          have hnb16 := NB431_433.1
          have hnc16 := NB433_431.1
          have hnb17 := NB431_434.1
          have hnc17 := NB434_431.1
          obtain ⟨hcz18_0, hcz18_1, hfz18_0, hfz18_1⟩ := zc2 BK431
          go_wp2_with (first | ((with_reducible refine gate_callee (f := 52) rfl ?_); refine gl (some 15) Tryz.func52 #[.agg #[.int .i64 a0_0, .int .i64 a0_1]] ?_; (with_reducible refine (spec_diGood.calls k a0_0 a0_1 true _ A9.1).mono ?_); rintro e w19 ⟨rfl, hb⟩; refine ⟨_, rfl, ?_⟩; replace BK431 := zb BK431 hb; replace BK432 := zb BK432 hb; replace BK433 := zb BK433 hb; replace BK434 := zb BK434 hb; replace HB := zB HB hb; clear hb; have hnb20 := NB433_432.1; have hnc20 := NB432_433.1; have hnb21 := NB433_434.1; have hnc21 := NB434_433.1; obtain ⟨hcz22_0, hcz22_1, hfz22_0, hfz22_1⟩ := zc2 BK433) | (go_at_call 52; (with_reducible refine (spec_diGood.calls k a2_0 a2_1 true _ A11.1).mono ?_); rintro e w23 ⟨rfl, hb⟩; replace BK431 := zb BK431 hb; replace BK432 := zb BK432 hb; replace BK433 := zb BK433 hb; replace BK434 := zb BK434 hb; replace HB := zB HB hb; clear hb; have hnb24 := NB432_434.1; have hnc24 := NB434_432.1; obtain ⟨hcz25_0, hcz25_1, hfz25_0, hfz25_1⟩ := zc2 BK432) | (go_at_call 53; (with_reducible refine (spec_drGood.calls k a1_0 a1_1 true _ A13.1).mono ?_); rintro e w26 ⟨rfl, hb⟩; replace BK431 := zb BK431 hb; replace BK432 := zb BK432 hb; replace BK433 := zb BK433 hb; replace BK434 := zb BK434 hb; replace HB := zB HB hb; clear hb; obtain ⟨hcz27_0, hcz27_1, hfz27_0, hfz27_1⟩ := zc2 BK432))
          go_meet
          case rel => exact ⟨_, ((a1_0 == 0)), ew, H', le_, ⟨bk BK431⟩, ⟨bk BK432⟩, ⟨bk BK433⟩, ⟨bk BK434⟩, ⟨bq HB⟩⟩
        replace c14 := Bool.eq_false_iff.mpr c14
        subst c14
        rw [if_neg (show ¬ (false = true) by decide)] at H
        have H' := Aside0.mk H
        clear H
        have hnb28 := NB431_432.1
        have hnc28 := NB432_431.1
        have hnb29 := NB431_433.1
        have hnc29 := NB433_431.1
        have hnb30 := NB431_434.1
        have hnc30 := NB434_431.1
        obtain ⟨hcz31_0, hcz31_1, hfz31_0, hfz31_1⟩ := zc2 BK431
        go_wp2_with (first | ((with_reducible refine gate_callee (f := 52) rfl ?_); refine gl (some 15) Tryz.func52 #[.agg #[.int .i64 a0_0, .int .i64 a0_1]] ?_; (with_reducible refine (spec_diGood.calls k a0_0 a0_1 true _ A9.1).mono ?_); rintro e w32 ⟨rfl, hb⟩; refine ⟨_, rfl, ?_⟩; replace BK431 := zb BK431 hb; replace BK432 := zb BK432 hb; replace BK433 := zb BK433 hb; replace BK434 := zb BK434 hb; replace HB := zB HB hb; clear hb; have hnb33 := NB433_432.1; have hnc33 := NB432_433.1; have hnb34 := NB433_434.1; have hnc34 := NB434_433.1; obtain ⟨hcz35_0, hcz35_1, hfz35_0, hfz35_1⟩ := zc2 BK433) | (go_at_call 52; (with_reducible refine (spec_diGood.calls k a2_0 a2_1 true _ A11.1).mono ?_); rintro e w36 ⟨rfl, hb⟩; replace BK431 := zb BK431 hb; replace BK432 := zb BK432 hb; replace BK433 := zb BK433 hb; replace BK434 := zb BK434 hb; replace HB := zB HB hb; clear hb; have hnb37 := NB432_434.1; have hnc37 := NB434_432.1; obtain ⟨hcz38_0, hcz38_1, hfz38_0, hfz38_1⟩ := zc2 BK432) | (go_at_call 53; (with_reducible refine (spec_drGood.calls k a1_0 a1_1 false _ A13.1).mono ?_); rintro e w39 ⟨rfl, hb⟩; replace BK431 := zb BK431 hb; replace BK432 := zb BK432 hb; replace BK433 := zb BK433 hb; replace BK434 := zb BK434 hb; replace HB := zB HB hb; clear hb))
        go_meet
        case rel => exact ⟨_, (true), ew, H', le_, ⟨bk BK431⟩, ⟨bk BK432⟩, ⟨bk BK433⟩, ⟨bk BK434⟩, ⟨bq HB⟩⟩
      replace c12 := Bool.eq_false_iff.mpr c12
      subst c12
      rw [if_neg (show ¬ (false = true) by decide)] at H
      have H' := Aside0.mk H
      clear H
      have hnb40 := NB431_432.1
      have hnc40 := NB432_431.1
      have hnb41 := NB431_433.1
      have hnc41 := NB433_431.1
      have hnb42 := NB431_434.1
      have hnc42 := NB434_431.1
      obtain ⟨hcz43_0, hcz43_1, hfz43_0, hfz43_1⟩ := zc2 BK431
      go_wp2_with (first | ((with_reducible refine gate_callee (f := 52) rfl ?_); refine gl (some 15) Tryz.func52 #[.agg #[.int .i64 a0_0, .int .i64 a0_1]] ?_; (with_reducible refine (spec_diGood.calls k a0_0 a0_1 true _ A9.1).mono ?_); rintro e w44 ⟨rfl, hb⟩; refine ⟨_, rfl, ?_⟩; replace BK431 := zb BK431 hb; replace BK432 := zb BK432 hb; replace BK433 := zb BK433 hb; replace BK434 := zb BK434 hb; replace HB := zB HB hb; clear hb; have hnb45 := NB433_432.1; have hnc45 := NB432_433.1; have hnb46 := NB433_434.1; have hnc46 := NB434_433.1; obtain ⟨hcz47_0, hcz47_1, hfz47_0, hfz47_1⟩ := zc2 BK433) | (go_at_call 52; (with_reducible refine (spec_diGood.calls k a2_0 a2_1 false _ A11.1).mono ?_); rintro e w48 ⟨rfl, hb⟩; replace BK431 := zb BK431 hb; replace BK432 := zb BK432 hb; replace BK433 := zb BK433 hb; replace BK434 := zb BK434 hb; replace HB := zB HB hb; clear hb))
      go_meet
      case rel => exact ⟨_, (true), ew, H', le_, ⟨bk BK431⟩, ⟨bk BK432⟩, ⟨bk BK433⟩, ⟨bk BK434⟩, ⟨bq HB⟩⟩
    replace c10 := Bool.eq_false_iff.mpr c10
    subst c10
    rw [if_neg (show ¬ (false = true) by decide)] at H
    have H' := Aside0.mk H
    clear H
    have hnb49 := NB431_432.1
    have hnc49 := NB432_431.1
    have hnb50 := NB431_433.1
    have hnc50 := NB433_431.1
    have hnb51 := NB431_434.1
    have hnc51 := NB434_431.1
    obtain ⟨hcz52_0, hcz52_1, hfz52_0, hfz52_1⟩ := zc2 BK431
    go_wp2_with (first | ((with_reducible refine gate_callee (f := 52) rfl ?_); refine gl (some 15) Tryz.func52 #[.agg #[.int .i64 a0_0, .int .i64 a0_1]] ?_; (with_reducible refine (spec_diGood.calls k a0_0 a0_1 false _ A9.1).mono ?_); rintro e w53 ⟨rfl, hb⟩; refine ⟨_, rfl, ?_⟩; replace BK431 := zb BK431 hb; replace BK432 := zb BK432 hb; replace BK433 := zb BK433 hb; replace BK434 := zb BK434 hb; replace HB := zB HB hb; clear hb))
    go_meet
    case rel => exact ⟨_, (true), ew, H', le_, ⟨bk BK431⟩, ⟨bk BK432⟩, ⟨bk BK433⟩, ⟨bk BK434⟩, ⟨bq HB⟩⟩
  clear HC4
  try clear c1
  try clear c2
  try clear p2
  try clear c3
  try clear c4
  try clear c5
  try clear c10
  try clear c12
  try clear c13
  try clear c14
  try clear c15
  try clear c16
  try clear c17
  try clear c20
  try clear c21
  try clear c24
  try clear c28
  try clear c29
  try clear c30
  try clear c33
  try clear c34
  try clear c37
  try clear c40
  try clear c41
  try clear c42
  try clear c45
  try clear c46
  try clear c49
  try clear c50
  try clear c51
  try clear c52
  try clear hcz18_0
  try clear hcz18_1
  try clear hcz22_0
  try clear hcz22_1
  try clear hcz25_0
  try clear hcz25_1
  try clear hcz27_0
  try clear hcz27_1
  try clear hcz31_0
  try clear hcz31_1
  try clear hcz35_0
  try clear hcz35_1
  try clear hcz38_0
  try clear hcz38_1
  try clear hcz43_0
  try clear hcz43_1
  try clear hcz47_0
  try clear hcz47_1
  try clear hcz52_0
  try clear hcz52_1
  try clear hfz18_0
  try clear hfz18_1
  try clear hfz22_0
  try clear hfz22_1
  try clear hfz25_0
  try clear hfz25_1
  try clear hfz27_0
  try clear hfz27_1
  try clear hfz31_0
  try clear hfz31_1
  try clear hfz35_0
  try clear hfz35_1
  try clear hfz38_0
  try clear hfz38_1
  try clear hfz43_0
  try clear hfz43_1
  try clear hfz47_0
  try clear hfz47_1
  try clear hfz52_0
  try clear hfz52_1
  obtain ⟨kq, x31_3, rfl, HA, HJ3, BK431, BK432, BK433, BK434, HB⟩ := hcut
  cases kq with
  | zero => exact absurd HA.1 (by simp [spec_ClockOfReadings.j0])
  | succ kj3 =>
    have H := HA.1
    clear HA
    simp only [spec_ClockOfReadings.j0] at H
    by_cases c54 : x31_3 = true
    · subst c54
      rw [if_pos rfl] at H
      simp only [Option.some.injEq, Prod.mk.injEq] at H
      obtain ⟨rfl, rfl, rfl, rfl, rfl⟩ := H
      have hnb55 := NB434_431.1
      have hnc55 := NB431_434.1
      have hnb56 := NB434_432.1
      have hnc56 := NB432_434.1
      have hnb57 := NB434_433.1
      have hnc57 := NB433_434.1
      obtain ⟨hcz58_0, hcz58_1, hcz58_2, hcz58_3, hfz58_0, hfz58_1, hfz58_2, hfz58_3⟩ := zc4 BK434
      go_wp2
      refine bodyPost_ret (results_ct rfl _ _ gb434 27 #[.int .i64 0, .int .i64 0, .int .i64 0, .int .i64 0] (0, 0) _ rfl (bk BK434) Tryz.underlying27 rfl (by kernel_rfl)) rfl ?_
      exact ⟨er, bq HB⟩
    replace c54 := Bool.eq_false_iff.mpr c54
    subst c54
    rw [if_neg (show ¬ (false = true) by decide)] at H
    by_cases c59 : (wrap64 (a0_1 * a2_1)) = 0
    · rw [if_pos c59] at H
      exact absurd H (by simp)
    rw [if_neg c59] at H
    have c59b0 : ((wrap64 (a0_1 * a2_1)) == 0) = false := beq_eq_false_iff_ne.mpr c59
    have c59b1 : ((wrap64 (a0_1 * a2_1)) != 0) = true := bne_iff_ne.mpr c59
    by_cases c60 : (Int.tmod (wrap64 ((wrap64 ((wrap64 (a2_0 * a0_1)) - (wrap64 (a0_0 * a2_1)))) + (wrap64 (a0_1 * a2_1)))) (wrap64 (a0_1 * a2_1))) = 0
    · rw [if_pos c60] at H
      have c60b0 : ((Int.tmod (wrap64 ((wrap64 ((wrap64 (a2_0 * a0_1)) - (wrap64 (a0_0 * a2_1)))) + (wrap64 (a0_1 * a2_1)))) (wrap64 (a0_1 * a2_1))) == 0) = true := beq_iff_eq.mpr c60
      have c60b1 : ((Int.tmod (wrap64 ((wrap64 ((wrap64 (a2_0 * a0_1)) - (wrap64 (a0_0 * a2_1)))) + (wrap64 (a0_1 * a2_1)))) (wrap64 (a0_1 * a2_1))) != 0) = false := bne_eq_false_iff_eq.mpr c60
      clear c60
      simp only [Option.some.injEq, Prod.mk.injEq] at H
      obtain ⟨rfl, rfl, rfl, rfl, rfl⟩ := H
      try go_wp2
      replace BK431 := Aside0.mk (blk_drew BK431.1)
      replace BK432 := Aside0.mk (blk_drew BK432.1)
      replace BK433 := Aside0.mk (blk_drew BK433.1)
      replace BK434 := Aside0.mk (blk_drew BK434.1)
      replace HB := Aside0.mk (below_drew1 HB.1)
      refine start_ (n := 18) (S := fun w' => w'.cell? ⟨gb433, 0, none⟩ = some (.int .i64 a2_0) ∧ w'.cell? ⟨gb433, 1, none⟩ = some (.int .i64 a2_1) ∧ w'.cell? ⟨gb431, 0, none⟩ = some (.int .i64 a0_0) ∧ w'.cell? ⟨gb431, 1, none⟩ = some (.int .i64 a0_1)) (ds := []) (bs 18 0) (by kernel_rfl) rfl rfl ⟨(blk_cell BK433.1 0).trans rfl, (blk_cell BK433.1 1).trans rfl, (blk_cell BK431.1 0).trans rfl, (blk_cell BK431.1 1).trans rfl⟩ (fun hHeld => ?_); refine with_tabW spec_ClockOfReadings.tab3 spec_ClockOfReadings.bits3 (fun HT_ HW_ => ?_)
      generalize wc.drew = w61 at BK431 BK432 BK433 BK434 HB hHeld ⊢
      refine pu 0 33 HT_ rfl rfl (bs 18 1) ?_
      refine pu 2 35 HT_ rfl rfl (bs 18 5) ?_
      refine pu 5 38 HT_ rfl rfl (bs 18 37) ?_
      refine pu 7 40 HT_ rfl rfl (bs 18 165) ?_
      refine pu 11 44 HT_ rfl rfl (bs 18 2213) ?_
      refine pu 13 46 HT_ rfl rfl (bs 18 10405) ?_
      refine tk 1 34 HT_ HW_ hHeld rfl rfl (bs 18 10407) ?_
      refine tk 3 36 HT_ HW_ hHeld rfl rfl (bs 18 10415) ?_
      refine pu 4 37 HT_ rfl rfl (bs 18 10431) ?_
      refine tk 6 39 HT_ HW_ hHeld rfl rfl (bs 18 10495) ?_
      refine tk 8 41 HT_ HW_ hHeld rfl rfl (bs 18 10751) ?_
      refine pu 9 42 HT_ rfl rfl (bs 18 11263) ?_
      refine pu 10 43 HT_ rfl rfl (bs 18 12287) ?_
      refine pu 16 8 HT_ rfl rfl (bs 18 77823) ?_
      refine tk 12 45 HT_ HW_ hHeld rfl rfl (bs 18 81919) ?_
      refine tk 14 47 HT_ HW_ hHeld rfl rfl (bs 18 98303) ?_
      refine pu 15 48 HT_ rfl rfl (bs 18 131071) ?_
      refine pu 17 9 HT_ rfl rfl (bs 18 262143) ?_
      refine done_ (done_of HT_.1 (by kernel_rfl)) ?_
      have hnb62 := NB434_431.1
      have hnc62 := NB431_434.1
      have hnb63 := NB434_432.1
      have hnc63 := NB432_434.1
      have hnb64 := NB434_433.1
      have hnc64 := NB433_434.1
      obtain ⟨hcz65_0, hcz65_1, hcz65_2, hcz65_3, hfz65_0, hfz65_1, hfz65_2, hfz65_3⟩ := zc4 BK434
      try go_wp2
      refine bodyPost_ret (results_ct rfl _ _ gb434 27 #[.int .i64 0, .int .i64 0, .int .i64 0, .int .i64 0] (0, 0) _ rfl (bk BK434) Tryz.underlying27 rfl (by kernel_rfl)) rfl ?_
      exact ⟨er, bq HB⟩
    rw [if_neg c60] at H
    have c60b0 : ((Int.tmod (wrap64 ((wrap64 ((wrap64 (a2_0 * a0_1)) - (wrap64 (a0_0 * a2_1)))) + (wrap64 (a0_1 * a2_1)))) (wrap64 (a0_1 * a2_1))) == 0) = false := beq_eq_false_iff_ne.mpr c60
    have c60b1 : ((Int.tmod (wrap64 ((wrap64 ((wrap64 (a2_0 * a0_1)) - (wrap64 (a0_0 * a2_1)))) + (wrap64 (a0_1 * a2_1)))) (wrap64 (a0_1 * a2_1))) != 0) = true := bne_iff_ne.mpr c60
    replace H := Option.bind_eq_some_iff.mp H
    obtain ⟨t438, A660, H⟩ := H
    (try dsimp only at H)
    have A66 := Aside0.mk A660
    clear A660
    by_cases c67 : t438 = 0
    · rw [if_pos c67] at H
      exact absurd H (by simp)
    rw [if_neg c67] at H
    have c67b0 : (t438 == 0) = false := beq_eq_false_iff_ne.mpr c67
    have c67b1 : (t438 != 0) = true := bne_iff_ne.mpr c67
    replace H := Option.bind_eq_some_iff.mp H
    obtain ⟨t439, A680, H⟩ := H
    (try dsimp only at H)
    have A68 := Aside0.mk A680
    clear A680
    replace H := Option.bind_eq_some_iff.mp H
    obtain ⟨t440, A690, H⟩ := H
    (try dsimp only at H)
    have A69 := Aside0.mk A690
    clear A690
    have HC70 := Aside0.mk H
    clear H
    try go_wp2
    replace BK431 := Aside0.mk (blk_drew BK431.1)
    replace BK432 := Aside0.mk (blk_drew BK432.1)
    replace BK433 := Aside0.mk (blk_drew BK433.1)
    replace BK434 := Aside0.mk (blk_drew BK434.1)
    replace HB := Aside0.mk (below_drew1 HB.1)
    refine start_ (n := 18) (S := fun w' => w'.cell? ⟨gb433, 0, none⟩ = some (.int .i64 a2_0) ∧ w'.cell? ⟨gb433, 1, none⟩ = some (.int .i64 a2_1) ∧ w'.cell? ⟨gb431, 0, none⟩ = some (.int .i64 a0_0) ∧ w'.cell? ⟨gb431, 1, none⟩ = some (.int .i64 a0_1)) (ds := []) (bs 18 0) (by kernel_rfl) rfl rfl ⟨(blk_cell BK433.1 0).trans rfl, (blk_cell BK433.1 1).trans rfl, (blk_cell BK431.1 0).trans rfl, (blk_cell BK431.1 1).trans rfl⟩ (fun hHeld => ?_); refine with_tabW spec_ClockOfReadings.tab3 spec_ClockOfReadings.bits3 (fun HT_ HW_ => ?_)
    generalize wc.drew = w71 at BK431 BK432 BK433 BK434 HB hHeld ⊢
    refine pu 0 33 HT_ rfl rfl (bs 18 1) ?_
    refine pu 2 35 HT_ rfl rfl (bs 18 5) ?_
    refine pu 5 38 HT_ rfl rfl (bs 18 37) ?_
    refine pu 7 40 HT_ rfl rfl (bs 18 165) ?_
    refine pu 11 44 HT_ rfl rfl (bs 18 2213) ?_
    refine pu 13 46 HT_ rfl rfl (bs 18 10405) ?_
    refine tk 1 34 HT_ HW_ hHeld rfl rfl (bs 18 10407) ?_
    refine tk 3 36 HT_ HW_ hHeld rfl rfl (bs 18 10415) ?_
    refine pu 4 37 HT_ rfl rfl (bs 18 10431) ?_
    refine tk 6 39 HT_ HW_ hHeld rfl rfl (bs 18 10495) ?_
    refine tk 8 41 HT_ HW_ hHeld rfl rfl (bs 18 10751) ?_
    refine pu 9 42 HT_ rfl rfl (bs 18 11263) ?_
    refine pu 10 43 HT_ rfl rfl (bs 18 12287) ?_
    refine pu 16 8 HT_ rfl rfl (bs 18 77823) ?_
    refine tk 12 45 HT_ HW_ hHeld rfl rfl (bs 18 81919) ?_
    refine tk 14 47 HT_ HW_ hHeld rfl rfl (bs 18 98303) ?_
    refine pu 15 48 HT_ rfl rfl (bs 18 131071) ?_
    refine pu 17 9 HT_ rfl rfl (bs 18 262143) ?_
    refine done_ (done_of HT_.1 (by kernel_rfl)) ?_
    try go_wp2_with (first | ((with_reducible refine gate_callee (f := 54) rfl ?_); refine gl (some 59) Tryz.func54 #[.int .i64 (Int.tmod (wrap64 ((wrap64 ((wrap64 (a2_0 * a0_1)) - (wrap64 (a0_0 * a2_1)))) + (wrap64 (a0_1 * a2_1)))) (wrap64 (a0_1 * a2_1))), .int .i64 (wrap64 (a0_1 * a2_1))] ?_; (with_reducible refine (spec_diCommon.calls kj3 (Int.tmod (wrap64 ((wrap64 ((wrap64 (a2_0 * a0_1)) - (wrap64 (a0_0 * a2_1)))) + (wrap64 (a0_1 * a2_1)))) (wrap64 (a0_1 * a2_1))) (wrap64 (a0_1 * a2_1)) t438 _ A66.1).mono ?_); rintro e w' ⟨rfl, ⟨nd, rfl⟩⟩; refine ⟨_, rfl, ?_⟩))
    (try (rw [drewN_self w71]; generalize hq_ : World.drewN w71 _ = w71; have n0_ : Aside0 (w71.heap[gb431]? = some (.cells #[.int .i64 a0_0, .int .i64 a0_1] 25 (0, 0))) := ⟨by rw [← hq_]; exact (bk BK431)⟩; have n1_ : Aside0 (w71.heap[gb432]? = some (.cells #[.int .i64 a1_0, .int .i64 a1_1] 30 (0, 0))) := ⟨by rw [← hq_]; exact (bk BK432)⟩; have n2_ : Aside0 (w71.heap[gb433]? = some (.cells #[.int .i64 a2_0, .int .i64 a2_1] 25 (0, 0))) := ⟨by rw [← hq_]; exact (bk BK433)⟩; have n3_ : Aside0 (w71.heap[gb434]? = some (.cells #[.int .i64 0, .int .i64 0, .int .i64 0, .int .i64 0] 27 (0, 0))) := ⟨by rw [← hq_]; exact (bk BK434)⟩; have n4_ : Aside0 (Below w.heap.size w w71) := ⟨by rw [← hq_]; exact (bq HB)⟩; clear BK431 BK432 BK433 BK434 HB hq_; have BK431 := n0_; have BK432 := n1_; have BK433 := n2_; have BK434 := n3_; have HB := n4_; clear n0_ n1_ n2_ n3_ n4_))
    replace BK431 := Aside0.mk (blk_drew BK431.1)
    replace BK432 := Aside0.mk (blk_drew BK432.1)
    replace BK433 := Aside0.mk (blk_drew BK433.1)
    replace BK434 := Aside0.mk (blk_drew BK434.1)
    replace HB := Aside0.mk (below_drew1 HB.1)
    refine start_ (n := 10) (S := fun w' => w'.cell? ⟨gb432, 0, none⟩ = some (.int .i64 a1_0) ∧ w'.cell? ⟨gb432, 1, none⟩ = some (.int .i64 a1_1)) (ds := []) (bs 10 0) (by kernel_rfl) rfl rfl ⟨(blk_cell BK432.1 0).trans rfl, (blk_cell BK432.1 1).trans rfl⟩ (fun hHeld => ?_); refine with_tabW spec_ClockOfReadings.tab10 spec_ClockOfReadings.bits10 (fun HT_ HW_ => ?_)
    generalize w71.drew = w72 at BK431 BK432 BK433 BK434 HB hHeld ⊢
    refine pu 0 66 HT_ rfl rfl (bs 10 1) ?_
    refine pu 1 67 HT_ rfl rfl (bs 10 3) ?_
    refine pu 4 70 HT_ rfl rfl (bs 10 19) ?_
    refine pu 6 72 HT_ rfl rfl (bs 10 83) ?_
    refine tk 2 68 HT_ HW_ hHeld rfl rfl (bs 10 87) ?_
    refine tk 5 71 HT_ HW_ hHeld rfl rfl (bs 10 119) ?_
    refine one_ (i := 3) (N := some 69) (bs 10 127) rfl rfl (one_of HT_.1 (by kernel_rfl)) (by decide) (fun K hK => ?_)
    refine gs Tryz.func54 #[.int .i64 (wrap64 (Int.tdiv (Int.tmod (wrap64 ((wrap64 ((wrap64 (a2_0 * a0_1)) - (wrap64 (a0_0 * a2_1)))) + (wrap64 (a0_1 * a2_1)))) (wrap64 (a0_1 * a2_1))) t438)), .int .i64 a1_0] ?_
    with_reducible refine (spec_diCommon.calls kj3 (wrap64 (Int.tdiv (Int.tmod (wrap64 ((wrap64 ((wrap64 (a2_0 * a0_1)) - (wrap64 (a0_0 * a2_1)))) + (wrap64 (a0_1 * a2_1)))) (wrap64 (a0_1 * a2_1))) t438)) a1_0 t439 _ A68.1).mono ?_
    rintro e w' ⟨rfl, ⟨nd, rfl⟩⟩
    refine ⟨_, rfl, ?_⟩
    refine hK.out _ _ ⟨(blk_cell BK432.1 0).trans rfl, (blk_cell BK432.1 1).trans rfl⟩ (fun hHeld => ?_)
    clear hK K
    refine norm_ (aq 69) ?_
    refine one_ (i := 7) (N := some 73) (bs 10 255) rfl rfl (one_of HT_.1 (by kernel_rfl)) (by decide) (fun K hK => ?_)
    refine gs Tryz.func54 #[.int .i64 a1_1, .int .i64 (wrap64 (Int.tdiv (wrap64 (a0_1 * a2_1)) t438))] ?_
    with_reducible refine (spec_diCommon.calls kj3 a1_1 (wrap64 (Int.tdiv (wrap64 (a0_1 * a2_1)) t438)) t440 _ A69.1).mono ?_
    rintro e w' ⟨rfl, ⟨nd, rfl⟩⟩
    refine ⟨_, rfl, ?_⟩
    refine hK.out _ _ ⟨(blk_cell BK432.1 0).trans rfl, (blk_cell BK432.1 1).trans rfl⟩ (fun hHeld => ?_)
    clear hK K
    refine norm_ (aq 73) ?_
    refine pu 8 11 HT_ rfl rfl (bs 10 511) ?_
    refine pu 9 12 HT_ rfl rfl (bs 10 1023) ?_
    refine done_ (done_of HT_.1 (by kernel_rfl)) ?_
    go_upto_region 11 with (fail)
    go_cut [83] (fun v83 wc => ∃ (kq : Nat) (x83_69 : Bool), v83 = .bool x83_69 ∧ Aside0 (spec_ClockOfReadings.j1 kq (wrap64 (Int.tdiv (Int.tmod (wrap64 ((wrap64 ((wrap64 (a2_0 * a0_1)) - (wrap64 (a0_0 * a2_1)))) + (wrap64 (a0_1 * a2_1)))) (wrap64 (a0_1 * a2_1))) t438)) (wrap64 (Int.tdiv (wrap64 (a0_1 * a2_1)) t438)) t439 t440 x83_69 a0_0 a0_1 a1_0 a1_1 = some (r1, r2, r3, r4, r5)) ∧ Aside0 (kq ≤ kj3) ∧ Aside0 (wc.heap[gb431]? = some (.cells #[.int .i64 a0_0, .int .i64 a0_1] 25 (0, 0))) ∧ Aside0 (wc.heap[gb432]? = some (.cells #[.int .i64 a1_0, .int .i64 a1_1] 30 (0, 0))) ∧ Aside0 (wc.heap[gb433]? = some (.cells #[.int .i64 a2_0, .int .i64 a2_1] 25 (0, 0))) ∧ Aside0 (wc.heap[gb434]? = some (.cells #[.int .i64 0, .int .i64 0, .int .i64 0, .int .i64 0] 27 (0, 0))) ∧ Aside0 (Below w.heap.size w wc))
    case first =>
      have H := HC70.1
      clear HC70
      by_cases c73 : t439 = 0
      · rw [if_pos c73] at H
        exact absurd H (by simp)
      rw [if_neg c73] at H
      have c73b0 : (t439 == 0) = false := beq_eq_false_iff_ne.mpr c73
      have c73b1 : (t439 != 0) = true := bne_iff_ne.mpr c73
      (first | rw [c73b0] | (simp only [i64_w, i32_w]; rw [c73b0]) | skip)
      by_cases c74 : (wrap64 (Int.tdiv (wrap64 (Int.tdiv (Int.tmod (wrap64 ((wrap64 ((wrap64 (a2_0 * a0_1)) - (wrap64 (a0_0 * a2_1)))) + (wrap64 (a0_1 * a2_1)))) (wrap64 (a0_1 * a2_1))) t438)) t439)) > 1000
      · rw [if_pos c74] at H
        have c74b0 : decide (1000 < (wrap64 (Int.tdiv (wrap64 (Int.tdiv (Int.tmod (wrap64 ((wrap64 ((wrap64 (a2_0 * a0_1)) - (wrap64 (a0_0 * a2_1)))) + (wrap64 (a0_1 * a2_1)))) (wrap64 (a0_1 * a2_1))) t438)) t439))) = true := decide_eq_true c74
        clear c74
        have H' := Aside0.mk H
        clear H
        go_wp2
        go_meet
        case rel => exact ⟨_, (true), ew, H', ⟨by have := HJ3.1; first | omega | exact Nat.le_refl _⟩, ⟨bk BK431⟩, ⟨bk BK432⟩, ⟨bk BK433⟩, ⟨bk BK434⟩, ⟨bq HB⟩⟩
      rw [if_neg c74] at H
      have c74b0 : decide (1000 < (wrap64 (Int.tdiv (wrap64 (Int.tdiv (Int.tmod (wrap64 ((wrap64 ((wrap64 (a2_0 * a0_1)) - (wrap64 (a0_0 * a2_1)))) + (wrap64 (a0_1 * a2_1)))) (wrap64 (a0_1 * a2_1))) t438)) t439))) = false := decide_eq_false c74
      clear c74
      by_cases c75 : t440 = 0
      · rw [if_pos c75] at H
        exact absurd H (by simp)
      rw [if_neg c75] at H
      have c75b0 : (t440 == 0) = false := beq_eq_false_iff_ne.mpr c75
      have c75b1 : (t440 != 0) = true := bne_iff_ne.mpr c75
      have H' := Aside0.mk H
      clear H
      go_wp2
      go_meet
      case rel => exact ⟨_, (decide ((wrap64 (Int.tdiv (wrap64 (Int.tdiv (wrap64 (a0_1 * a2_1)) t438)) t440)) > 1000)), ew, H', ⟨by have := HJ3.1; first | omega | exact Nat.le_refl _⟩, ⟨bk BK431⟩, ⟨bk BK432⟩, ⟨bk BK433⟩, ⟨bk BK434⟩, ⟨bq HB⟩⟩
    clear HC70
    try clear p2
    try clear c5
    try clear c6
    try clear p6
    try clear c7
    try clear c54
    try clear c55
    try clear c56
    try clear c57
    try clear c59
    try clear c59b0
    try clear c59b1
    try clear c60
    try clear c60b0
    try clear c60b1
    try clear c62
    try clear c63
    try clear c64
    try clear p64
    try clear c67
    try clear c67b0
    try clear c67b1
    try clear c73
    try clear c73b0
    try clear c73b1
    try clear c74
    try clear c74b0
    try clear c75
    try clear c75b0
    try clear c75b1
    try clear hcz31_0
    try clear hcz31_1
    try clear hcz35_0
    try clear hcz35_1
    try clear hcz38_0
    try clear hcz38_1
    try clear hcz43_0
    try clear hcz43_1
    try clear hcz47_0
    try clear hcz47_1
    try clear hcz52_0
    try clear hcz52_1
    try clear hcz58_0
    try clear hcz58_1
    try clear hcz58_2
    try clear hcz58_3
    try clear hcz65_0
    try clear hcz65_1
    try clear hcz65_2
    try clear hcz65_3
    try clear hfz18_0
    try clear hfz18_1
    try clear hfz22_0
    try clear hfz22_1
    try clear hfz25_0
    try clear hfz25_1
    try clear hfz27_0
    try clear hfz27_1
    try clear hfz31_0
    try clear hfz31_1
    try clear hfz35_0
    try clear hfz35_1
    try clear hfz38_0
    try clear hfz38_1
    try clear hfz43_0
    try clear hfz43_1
    try clear hfz47_0
    try clear hfz47_1
    try clear hfz52_0
    try clear hfz52_1
    try clear hfz58_0
    try clear hfz58_1
    try clear hfz58_2
    try clear hfz58_3
    try clear hfz65_0
    try clear hfz65_1
    try clear hfz65_2
    try clear hfz65_3
    obtain ⟨kq, x83_69, rfl, HA, HJ69, BK431, BK432, BK433, BK434, HB⟩ := hcut
    cases kq with
    | zero => exact absurd HA.1 (by simp [spec_ClockOfReadings.j1])
    | succ kj69 =>
      have H := HA.1
      clear HA
      simp only [spec_ClockOfReadings.j1] at H
      by_cases c76 : x83_69 = true
      · subst c76
        rw [if_pos rfl] at H
        simp only [Option.some.injEq, Prod.mk.injEq] at H
        obtain ⟨rfl, rfl, rfl, rfl, rfl⟩ := H
        have hnb77 := NB434_431.1
        have hnc77 := NB431_434.1
        have hnb78 := NB434_432.1
        have hnc78 := NB432_434.1
        have hnb79 := NB434_433.1
        have hnc79 := NB433_434.1
        obtain ⟨hcz80_0, hcz80_1, hcz80_2, hcz80_3, hfz80_0, hfz80_1, hfz80_2, hfz80_3⟩ := zc4 BK434
        go_wp2
        refine bodyPost_ret (results_ct rfl _ _ gb434 27 #[.int .i64 0, .int .i64 0, .int .i64 0, .int .i64 0] (0, 0) _ rfl (bk BK434) Tryz.underlying27 rfl (by kernel_rfl)) rfl ?_
        exact ⟨er, bq HB⟩
      replace c76 := Bool.eq_false_iff.mpr c76
      subst c76
      rw [if_neg (show ¬ (false = true) by decide)] at H
      by_cases c81 : t439 = 0
      · rw [if_pos c81] at H
        exact absurd H (by simp)
      rw [if_neg c81] at H
      have c81b0 : (t439 == 0) = false := beq_eq_false_iff_ne.mpr c81
      have c81b1 : (t439 != 0) = true := bne_iff_ne.mpr c81
      by_cases c82 : t440 = 0
      · rw [if_pos c82] at H
        exact absurd H (by simp)
      rw [if_neg c82] at H
      have c82b0 : (t440 == 0) = false := beq_eq_false_iff_ne.mpr c82
      have c82b1 : (t440 != 0) = true := bne_iff_ne.mpr c82
      replace H := Option.bind_eq_some_iff.mp H
      obtain ⟨t442, A830, H⟩ := H
      (try dsimp only at H)
      have A83 := Aside0.mk A830
      clear A830
      by_cases c84 : t442 = true
      · subst c84
        rw [if_pos rfl] at H
        simp only [Option.some.injEq, Prod.mk.injEq] at H
        obtain ⟨rfl, rfl, rfl, rfl, rfl⟩ := H
        try go_wp2
        replace BK431 := Aside0.mk (blk_drew BK431.1)
        replace BK432 := Aside0.mk (blk_drew BK432.1)
        replace BK433 := Aside0.mk (blk_drew BK433.1)
        replace BK434 := Aside0.mk (blk_drew BK434.1)
        replace HB := Aside0.mk (below_drew1 HB.1)
        refine start_ (n := 20) (S := fun w' => w'.cell? ⟨gb431, 0, none⟩ = some (.int .i64 a0_0) ∧ w'.cell? ⟨gb431, 1, none⟩ = some (.int .i64 a0_1) ∧ w'.cell? ⟨gb432, 0, none⟩ = some (.int .i64 a1_0) ∧ w'.cell? ⟨gb432, 1, none⟩ = some (.int .i64 a1_1)) (ds := []) (bs 20 0) (by kernel_rfl) rfl rfl ⟨(blk_cell BK431.1 0).trans rfl, (blk_cell BK431.1 1).trans rfl, (blk_cell BK432.1 0).trans rfl, (blk_cell BK432.1 1).trans rfl⟩ (fun hHeld => ?_); refine with_tabW spec_ClockOfReadings.tab13 spec_ClockOfReadings.bits13 (fun HT_ HW_ => ?_)
        generalize wc.drew = w85 at BK431 BK432 BK433 BK434 HB hHeld ⊢
        refine pu 1 86 HT_ rfl rfl (bs 20 2) ?_
        refine pu 2 87 HT_ rfl rfl (bs 20 6) ?_
        refine pu 3 88 HT_ rfl rfl (bs 20 14) ?_
        refine pu 4 89 HT_ rfl rfl (bs 20 30) ?_
        refine pu 6 91 HT_ rfl rfl (bs 20 94) ?_
        refine pu 9 94 HT_ rfl rfl (bs 20 606) ?_
        refine pu 10 95 HT_ rfl rfl (bs 20 1630) ?_
        refine pu 11 96 HT_ rfl rfl (bs 20 3678) ?_
        refine pu 12 97 HT_ rfl rfl (bs 20 7774) ?_
        refine pu 14 99 HT_ rfl rfl (bs 20 24158) ?_
        refine tk 0 85 HT_ HW_ hHeld rfl rfl (bs 20 24159) ?_
        refine tk 5 90 HT_ HW_ hHeld rfl rfl (bs 20 24191) ?_
        refine pu 7 92 HT_ rfl rfl (bs 20 24319) ?_
        refine pu 8 93 HT_ rfl rfl (bs 20 24575) ?_
        refine tk 13 98 HT_ HW_ hHeld rfl rfl (bs 20 32767) ?_
        refine pu 15 100 HT_ rfl rfl (bs 20 65535) ?_
        refine pu 16 101 HT_ rfl rfl (bs 20 131071) ?_
        refine pu 17 102 HT_ rfl rfl (bs 20 262143) ?_
        refine one_ (i := 18) (N := some 13) (bs 20 524287) rfl rfl (one_of HT_.1 (by kernel_rfl)) (by decide) (fun K hK => ?_)
        refine bp #[.int .i64 0, .int .i64 0, .int .i64 0, .int .i64 0] 27 ?_
        intro gb441 hg w86 hbox hb
        have BK441 := Aside0.mk hbox
        have GW441 := zs HB hg
        have GE441 := zs HB hg
        have NB431_441 := zn BK431 hg
        have NB441_431 := zm BK431 hg
        have NB432_441 := zn BK432 hg
        have NB441_432 := zm BK432 hg
        have NB433_441 := zn BK433 hg
        have NB441_433 := zm BK433 hg
        have NB434_441 := zn BK434 hg
        have NB441_434 := zm BK434 hg
        replace BK431 := zb BK431 hb
        replace BK432 := zb BK432 hb
        replace BK433 := zb BK433 hb
        replace BK434 := zb BK434 hb
        replace HB := zB HB hb
        clear hb hbox hg
        refine hK.out _ _ ⟨(blk_cell BK431.1 0).trans rfl, (blk_cell BK431.1 1).trans rfl, (blk_cell BK432.1 0).trans rfl, (blk_cell BK432.1 1).trans rfl⟩ (fun hHeld => ?_)
        clear hK K
        refine norm_ (aq 13) ?_
        refine one_ (i := 19) (N := none) (bs 20 1048575) rfl rfl (one_of HT_.1 (by kernel_rfl)) (by decide) (fun K hK => ?_)
        have hs87 : w86.cell? ⟨gb441, 0, none⟩ = some (.int .i64 0) := (blk_cell BK441.1 0).trans rfl
        have hfs87 := blk_frozen BK441.1 0
        have hns87_0 := NB431_441.1
        have hns87_1 := NB432_441.1
        have hns87_2 := NB433_441.1
        have hns87_3 := NB434_441.1
        have hms87_0 := NB441_431.1
        have hms87_1 := NB441_432.1
        have hms87_2 := NB441_433.1
        have hms87_3 := NB441_434.1
        have hs88 : w86.cell? ⟨gb441, 1, none⟩ = some (.int .i64 0) := (blk_cell BK441.1 1).trans rfl
        have hfs88 := blk_frozen BK441.1 1
        have hns88_0 := NB431_441.1
        have hns88_1 := NB432_441.1
        have hns88_2 := NB433_441.1
        have hns88_3 := NB434_441.1
        have hms88_0 := NB441_431.1
        have hms88_1 := NB441_432.1
        have hms88_2 := NB441_433.1
        have hms88_3 := NB441_434.1
        have hs89 : w86.cell? ⟨gb441, 2, none⟩ = some (.int .i64 0) := (blk_cell BK441.1 2).trans rfl
        have hfs89 := blk_frozen BK441.1 2
        have hns89_0 := NB431_441.1
        have hns89_1 := NB432_441.1
        have hns89_2 := NB433_441.1
        have hns89_3 := NB434_441.1
        have hms89_0 := NB441_431.1
        have hms89_1 := NB441_432.1
        have hms89_2 := NB441_433.1
        have hms89_3 := NB441_434.1
        have hs90 : w86.cell? ⟨gb441, 3, none⟩ = some (.int .i64 0) := (blk_cell BK441.1 3).trans rfl
        have hfs90 := blk_frozen BK441.1 3
        have hns90_0 := NB431_441.1
        have hns90_1 := NB432_441.1
        have hns90_2 := NB433_441.1
        have hns90_3 := NB434_441.1
        have hms90_0 := NB441_431.1
        have hms90_1 := NB441_432.1
        have hms90_2 := NB441_433.1
        have hms90_3 := NB441_434.1
        refine skip_ (w1 := ?_) (by rfl) rfl ?_ ?_
        rotate_left
        · go_simp
          rfl
        refine hK.out _ _ ⟨((cell_far (p := ⟨gb441, _, none⟩) NB431_441.1 _).trans (((cell_far (p := ⟨gb441, _, none⟩) NB431_441.1 _).trans (((cell_far (p := ⟨gb441, _, none⟩) NB431_441.1 _).trans (((cell_far (p := ⟨gb441, _, none⟩) NB431_441.1 _).trans (hHeld.1)))))))), ((cell_far (p := ⟨gb441, _, none⟩) NB431_441.1 _).trans (((cell_far (p := ⟨gb441, _, none⟩) NB431_441.1 _).trans (((cell_far (p := ⟨gb441, _, none⟩) NB431_441.1 _).trans (((cell_far (p := ⟨gb441, _, none⟩) NB431_441.1 _).trans (hHeld.2.1)))))))), ((cell_far (p := ⟨gb441, _, none⟩) NB432_441.1 _).trans (((cell_far (p := ⟨gb441, _, none⟩) NB432_441.1 _).trans (((cell_far (p := ⟨gb441, _, none⟩) NB432_441.1 _).trans (((cell_far (p := ⟨gb441, _, none⟩) NB432_441.1 _).trans (hHeld.2.2.1)))))))), ((cell_far (p := ⟨gb441, _, none⟩) NB432_441.1 _).trans (((cell_far (p := ⟨gb441, _, none⟩) NB432_441.1 _).trans (((cell_far (p := ⟨gb441, _, none⟩) NB432_441.1 _).trans (((cell_far (p := ⟨gb441, _, none⟩) NB432_441.1 _).trans (hHeld.2.2.2))))))))⟩ (fun hHeld => ?_)
        clear hK K
        refine done_ (done_of HT_.1 (by kernel_rfl)) ?_
        have hnb91 := NB441_431.1
        have hnc91 := NB431_441.1
        have hnb92 := NB441_432.1
        have hnc92 := NB432_441.1
        have hnb93 := NB441_433.1
        have hnc93 := NB433_441.1
        have hnb94 := NB441_434.1
        have hnc94 := NB434_441.1
        obtain ⟨hcz95_0, hcz95_1, hcz95_2, hcz95_3, hfz95_0, hfz95_1, hfz95_2, hfz95_3⟩ := zc4 BK441
        try go_wp2_with (first | ((with_reducible refine gate_callee (f := 37) rfl ?_); refine gl (some 104) Tryz.func37 #[.agg #[.int .i64 a0_0, .int .i64 a0_1, .int .i64 (wrap64 ((wrap64 (Int.tdiv (wrap64 (Int.tdiv (Int.tmod (wrap64 ((wrap64 ((wrap64 (a2_0 * a0_1)) - (wrap64 (a0_0 * a2_1)))) + (wrap64 (a0_1 * a2_1)))) (wrap64 (a0_1 * a2_1))) t438)) t439)) * (wrap64 (Int.tdiv a1_1 t440)))), .int .i64 (wrap64 ((wrap64 (Int.tdiv (wrap64 (Int.tdiv (wrap64 (a0_1 * a2_1)) t438)) t440)) * (wrap64 (Int.tdiv a1_0 t439))))]] ?_; (with_reducible refine (spec_drClock.calls kj69 a0_0 a0_1 (wrap64 ((wrap64 (Int.tdiv (wrap64 (Int.tdiv (Int.tmod (wrap64 ((wrap64 ((wrap64 (a2_0 * a0_1)) - (wrap64 (a0_0 * a2_1)))) + (wrap64 (a0_1 * a2_1)))) (wrap64 (a0_1 * a2_1))) t438)) t439)) * (wrap64 (Int.tdiv a1_1 t440)))) (wrap64 ((wrap64 (Int.tdiv (wrap64 (Int.tdiv (wrap64 (a0_1 * a2_1)) t438)) t440)) * (wrap64 (Int.tdiv a1_0 t439)))) true _ A83.1).mono ?_); rintro e w96 ⟨rfl, hb⟩; refine ⟨_, rfl, ?_⟩; replace BK431 := zy (o' := .cells #[.int .i64 a0_0, .int .i64 a0_1] 25 (0, 0)) BK431 hb; replace BK432 := zy (o' := .cells #[.int .i64 a1_0, .int .i64 a1_1] 30 (0, 0)) BK432 hb; replace BK433 := zy (o' := .cells #[.int .i64 a2_0, .int .i64 a2_1] 25 (0, 0)) BK433 hb; replace BK434 := zy (o' := .cells #[.int .i64 0, .int .i64 0, .int .i64 0, .int .i64 0] 27 (0, 0)) BK434 hb; replace BK441 := zy (o' := .cells #[.int .i64 a0_0, .int .i64 a0_1, .int .i64 (wrap64 ((wrap64 (Int.tdiv (wrap64 (Int.tdiv (Int.tmod (wrap64 ((wrap64 ((wrap64 (a2_0 * a0_1)) - (wrap64 (a0_0 * a2_1)))) + (wrap64 (a0_1 * a2_1)))) (wrap64 (a0_1 * a2_1))) t438)) t439)) * (wrap64 (Int.tdiv a1_1 t440)))), .int .i64 (wrap64 ((wrap64 (Int.tdiv (wrap64 (Int.tdiv (wrap64 (a0_1 * a2_1)) t438)) t440)) * (wrap64 (Int.tdiv a1_0 t439))))] 27 (0, 0)) BK441 hb; replace HB := zB HB hb; clear hb; obtain ⟨hcz97_0, hcz97_1, hcz97_2, hcz97_3, hfz97_0, hfz97_1, hfz97_2, hfz97_3⟩ := zc4 BK441; have hnb98 := NB434_431.1; have hnc98 := NB431_434.1; have hnb99 := NB434_432.1; have hnc99 := NB432_434.1; have hnb100 := NB434_433.1; have hnc100 := NB433_434.1; obtain ⟨hcz101_0, hcz101_1, hcz101_2, hcz101_3, hfz101_0, hfz101_1, hfz101_2, hfz101_3⟩ := zc4 BK434))
        refine bodyPost_ret (results_ct rfl _ _ gb434 27 #[.int .i64 a0_0, .int .i64 a0_1, .int .i64 (wrap64 ((wrap64 (Int.tdiv (wrap64 (Int.tdiv (Int.tmod (wrap64 ((wrap64 ((wrap64 (a2_0 * a0_1)) - (wrap64 (a0_0 * a2_1)))) + (wrap64 (a0_1 * a2_1)))) (wrap64 (a0_1 * a2_1))) t438)) t439)) * (wrap64 (Int.tdiv a1_1 t440)))), .int .i64 (wrap64 ((wrap64 (Int.tdiv (wrap64 (Int.tdiv (wrap64 (a0_1 * a2_1)) t438)) t440)) * (wrap64 (Int.tdiv a1_0 t439))))] (0, 0) _ rfl (bk BK434) Tryz.underlying27 rfl (by kernel_rfl)) rfl ?_
        exact ⟨er, bq HB⟩
      replace c84 := Bool.eq_false_iff.mpr c84
      subst c84
      rw [if_neg (show ¬ (false = true) by decide)] at H
      simp only [Option.some.injEq, Prod.mk.injEq] at H
      obtain ⟨rfl, rfl, rfl, rfl, rfl⟩ := H
      try go_wp2
      replace BK431 := Aside0.mk (blk_drew BK431.1)
      replace BK432 := Aside0.mk (blk_drew BK432.1)
      replace BK433 := Aside0.mk (blk_drew BK433.1)
      replace BK434 := Aside0.mk (blk_drew BK434.1)
      replace HB := Aside0.mk (below_drew1 HB.1)
      refine start_ (n := 20) (S := fun w' => w'.cell? ⟨gb431, 0, none⟩ = some (.int .i64 a0_0) ∧ w'.cell? ⟨gb431, 1, none⟩ = some (.int .i64 a0_1) ∧ w'.cell? ⟨gb432, 0, none⟩ = some (.int .i64 a1_0) ∧ w'.cell? ⟨gb432, 1, none⟩ = some (.int .i64 a1_1)) (ds := []) (bs 20 0) (by kernel_rfl) rfl rfl ⟨(blk_cell BK431.1 0).trans rfl, (blk_cell BK431.1 1).trans rfl, (blk_cell BK432.1 0).trans rfl, (blk_cell BK432.1 1).trans rfl⟩ (fun hHeld => ?_); refine with_tabW spec_ClockOfReadings.tab13 spec_ClockOfReadings.bits13 (fun HT_ HW_ => ?_)
      generalize wc.drew = w102 at BK431 BK432 BK433 BK434 HB hHeld ⊢
      refine pu 1 86 HT_ rfl rfl (bs 20 2) ?_
      refine pu 2 87 HT_ rfl rfl (bs 20 6) ?_
      refine pu 3 88 HT_ rfl rfl (bs 20 14) ?_
      refine pu 4 89 HT_ rfl rfl (bs 20 30) ?_
      refine pu 6 91 HT_ rfl rfl (bs 20 94) ?_
      refine pu 9 94 HT_ rfl rfl (bs 20 606) ?_
      refine pu 10 95 HT_ rfl rfl (bs 20 1630) ?_
      refine pu 11 96 HT_ rfl rfl (bs 20 3678) ?_
      refine pu 12 97 HT_ rfl rfl (bs 20 7774) ?_
      refine pu 14 99 HT_ rfl rfl (bs 20 24158) ?_
      refine tk 0 85 HT_ HW_ hHeld rfl rfl (bs 20 24159) ?_
      refine tk 5 90 HT_ HW_ hHeld rfl rfl (bs 20 24191) ?_
      refine pu 7 92 HT_ rfl rfl (bs 20 24319) ?_
      refine pu 8 93 HT_ rfl rfl (bs 20 24575) ?_
      refine tk 13 98 HT_ HW_ hHeld rfl rfl (bs 20 32767) ?_
      refine pu 15 100 HT_ rfl rfl (bs 20 65535) ?_
      refine pu 16 101 HT_ rfl rfl (bs 20 131071) ?_
      refine pu 17 102 HT_ rfl rfl (bs 20 262143) ?_
      refine one_ (i := 18) (N := some 13) (bs 20 524287) rfl rfl (one_of HT_.1 (by kernel_rfl)) (by decide) (fun K hK => ?_)
      refine bp #[.int .i64 0, .int .i64 0, .int .i64 0, .int .i64 0] 27 ?_
      intro gb441 hg w103 hbox hb
      have BK441 := Aside0.mk hbox
      have GW441 := zs HB hg
      have GE441 := zs HB hg
      have NB431_441 := zn BK431 hg
      have NB441_431 := zm BK431 hg
      have NB432_441 := zn BK432 hg
      have NB441_432 := zm BK432 hg
      have NB433_441 := zn BK433 hg
      have NB441_433 := zm BK433 hg
      have NB434_441 := zn BK434 hg
      have NB441_434 := zm BK434 hg
      replace BK431 := zb BK431 hb
      replace BK432 := zb BK432 hb
      replace BK433 := zb BK433 hb
      replace BK434 := zb BK434 hb
      replace HB := zB HB hb
      clear hb hbox hg
      refine hK.out _ _ ⟨(blk_cell BK431.1 0).trans rfl, (blk_cell BK431.1 1).trans rfl, (blk_cell BK432.1 0).trans rfl, (blk_cell BK432.1 1).trans rfl⟩ (fun hHeld => ?_)
      clear hK K
      refine norm_ (aq 13) ?_
      refine one_ (i := 19) (N := none) (bs 20 1048575) rfl rfl (one_of HT_.1 (by kernel_rfl)) (by decide) (fun K hK => ?_)
      have hs104 : w103.cell? ⟨gb441, 0, none⟩ = some (.int .i64 0) := (blk_cell BK441.1 0).trans rfl
      have hfs104 := blk_frozen BK441.1 0
      have hns104_0 := NB431_441.1
      have hns104_1 := NB432_441.1
      have hns104_2 := NB433_441.1
      have hns104_3 := NB434_441.1
      have hms104_0 := NB441_431.1
      have hms104_1 := NB441_432.1
      have hms104_2 := NB441_433.1
      have hms104_3 := NB441_434.1
      have hs105 : w103.cell? ⟨gb441, 1, none⟩ = some (.int .i64 0) := (blk_cell BK441.1 1).trans rfl
      have hfs105 := blk_frozen BK441.1 1
      have hns105_0 := NB431_441.1
      have hns105_1 := NB432_441.1
      have hns105_2 := NB433_441.1
      have hns105_3 := NB434_441.1
      have hms105_0 := NB441_431.1
      have hms105_1 := NB441_432.1
      have hms105_2 := NB441_433.1
      have hms105_3 := NB441_434.1
      have hs106 : w103.cell? ⟨gb441, 2, none⟩ = some (.int .i64 0) := (blk_cell BK441.1 2).trans rfl
      have hfs106 := blk_frozen BK441.1 2
      have hns106_0 := NB431_441.1
      have hns106_1 := NB432_441.1
      have hns106_2 := NB433_441.1
      have hns106_3 := NB434_441.1
      have hms106_0 := NB441_431.1
      have hms106_1 := NB441_432.1
      have hms106_2 := NB441_433.1
      have hms106_3 := NB441_434.1
      have hs107 : w103.cell? ⟨gb441, 3, none⟩ = some (.int .i64 0) := (blk_cell BK441.1 3).trans rfl
      have hfs107 := blk_frozen BK441.1 3
      have hns107_0 := NB431_441.1
      have hns107_1 := NB432_441.1
      have hns107_2 := NB433_441.1
      have hns107_3 := NB434_441.1
      have hms107_0 := NB441_431.1
      have hms107_1 := NB441_432.1
      have hms107_2 := NB441_433.1
      have hms107_3 := NB441_434.1
      refine skip_ (w1 := ?_) (by rfl) rfl ?_ ?_
      rotate_left
      · go_simp
        rfl
      refine hK.out _ _ ⟨((cell_far (p := ⟨gb441, _, none⟩) NB431_441.1 _).trans (((cell_far (p := ⟨gb441, _, none⟩) NB431_441.1 _).trans (((cell_far (p := ⟨gb441, _, none⟩) NB431_441.1 _).trans (((cell_far (p := ⟨gb441, _, none⟩) NB431_441.1 _).trans (hHeld.1)))))))), ((cell_far (p := ⟨gb441, _, none⟩) NB431_441.1 _).trans (((cell_far (p := ⟨gb441, _, none⟩) NB431_441.1 _).trans (((cell_far (p := ⟨gb441, _, none⟩) NB431_441.1 _).trans (((cell_far (p := ⟨gb441, _, none⟩) NB431_441.1 _).trans (hHeld.2.1)))))))), ((cell_far (p := ⟨gb441, _, none⟩) NB432_441.1 _).trans (((cell_far (p := ⟨gb441, _, none⟩) NB432_441.1 _).trans (((cell_far (p := ⟨gb441, _, none⟩) NB432_441.1 _).trans (((cell_far (p := ⟨gb441, _, none⟩) NB432_441.1 _).trans (hHeld.2.2.1)))))))), ((cell_far (p := ⟨gb441, _, none⟩) NB432_441.1 _).trans (((cell_far (p := ⟨gb441, _, none⟩) NB432_441.1 _).trans (((cell_far (p := ⟨gb441, _, none⟩) NB432_441.1 _).trans (((cell_far (p := ⟨gb441, _, none⟩) NB432_441.1 _).trans (hHeld.2.2.2))))))))⟩ (fun hHeld => ?_)
      clear hK K
      refine done_ (done_of HT_.1 (by kernel_rfl)) ?_
      have hnb108 := NB441_431.1
      have hnc108 := NB431_441.1
      have hnb109 := NB441_432.1
      have hnc109 := NB432_441.1
      have hnb110 := NB441_433.1
      have hnc110 := NB433_441.1
      have hnb111 := NB441_434.1
      have hnc111 := NB434_441.1
      obtain ⟨hcz112_0, hcz112_1, hcz112_2, hcz112_3, hfz112_0, hfz112_1, hfz112_2, hfz112_3⟩ := zc4 BK441
      try go_wp2_with (first | ((with_reducible refine gate_callee (f := 37) rfl ?_); refine gl (some 104) Tryz.func37 #[.agg #[.int .i64 a0_0, .int .i64 a0_1, .int .i64 (wrap64 ((wrap64 (Int.tdiv (wrap64 (Int.tdiv (Int.tmod (wrap64 ((wrap64 ((wrap64 (a2_0 * a0_1)) - (wrap64 (a0_0 * a2_1)))) + (wrap64 (a0_1 * a2_1)))) (wrap64 (a0_1 * a2_1))) t438)) t439)) * (wrap64 (Int.tdiv a1_1 t440)))), .int .i64 (wrap64 ((wrap64 (Int.tdiv (wrap64 (Int.tdiv (wrap64 (a0_1 * a2_1)) t438)) t440)) * (wrap64 (Int.tdiv a1_0 t439))))]] ?_; (with_reducible refine (spec_drClock.calls kj69 a0_0 a0_1 (wrap64 ((wrap64 (Int.tdiv (wrap64 (Int.tdiv (Int.tmod (wrap64 ((wrap64 ((wrap64 (a2_0 * a0_1)) - (wrap64 (a0_0 * a2_1)))) + (wrap64 (a0_1 * a2_1)))) (wrap64 (a0_1 * a2_1))) t438)) t439)) * (wrap64 (Int.tdiv a1_1 t440)))) (wrap64 ((wrap64 (Int.tdiv (wrap64 (Int.tdiv (wrap64 (a0_1 * a2_1)) t438)) t440)) * (wrap64 (Int.tdiv a1_0 t439)))) false _ A83.1).mono ?_); rintro e w113 ⟨rfl, hb⟩; refine ⟨_, rfl, ?_⟩; replace BK431 := zy (o' := .cells #[.int .i64 a0_0, .int .i64 a0_1] 25 (0, 0)) BK431 hb; replace BK432 := zy (o' := .cells #[.int .i64 a1_0, .int .i64 a1_1] 30 (0, 0)) BK432 hb; replace BK433 := zy (o' := .cells #[.int .i64 a2_0, .int .i64 a2_1] 25 (0, 0)) BK433 hb; replace BK434 := zy (o' := .cells #[.int .i64 0, .int .i64 0, .int .i64 0, .int .i64 0] 27 (0, 0)) BK434 hb; replace BK441 := zy (o' := .cells #[.int .i64 a0_0, .int .i64 a0_1, .int .i64 (wrap64 ((wrap64 (Int.tdiv (wrap64 (Int.tdiv (Int.tmod (wrap64 ((wrap64 ((wrap64 (a2_0 * a0_1)) - (wrap64 (a0_0 * a2_1)))) + (wrap64 (a0_1 * a2_1)))) (wrap64 (a0_1 * a2_1))) t438)) t439)) * (wrap64 (Int.tdiv a1_1 t440)))), .int .i64 (wrap64 ((wrap64 (Int.tdiv (wrap64 (Int.tdiv (wrap64 (a0_1 * a2_1)) t438)) t440)) * (wrap64 (Int.tdiv a1_0 t439))))] 27 (0, 0)) BK441 hb; replace HB := zB HB hb; clear hb; have hnb114 := NB434_431.1; have hnc114 := NB431_434.1; have hnb115 := NB434_432.1; have hnc115 := NB432_434.1; have hnb116 := NB434_433.1; have hnc116 := NB433_434.1; obtain ⟨hcz117_0, hcz117_1, hcz117_2, hcz117_3, hfz117_0, hfz117_1, hfz117_2, hfz117_3⟩ := zc4 BK434))
      refine bodyPost_ret (results_ct rfl _ _ gb434 27 #[.int .i64 0, .int .i64 0, .int .i64 0, .int .i64 0] (0, 0) _ rfl (bk BK434) Tryz.underlying27 rfl (by kernel_rfl)) rfl ?_
      exact ⟨er, bq HB⟩

end Go.Proofs.YtejlandhfnnkiaaGreatDoor.PFnClocksAgree
