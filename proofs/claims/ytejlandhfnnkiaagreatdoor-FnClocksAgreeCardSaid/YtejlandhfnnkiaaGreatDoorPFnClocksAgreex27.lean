/- A part of the walk of FnClocksAgree: which Lean function each Go function comes to, and that the machine's call does so. Written by a program of this repo (wip/gen/xprint.py). -/
import Derived.Test.YtejlandhfnnkiaaGreatDoorPFnClocksAgreex0
import Derived.Test.YtejlandhfnnkiaaGreatDoorPFnClocksAgreex4
import Derived.Test.YtejlandhfnnkiaaGreatDoorPFnClocksAgreex6
import Derived.Test.YtejlandhfnnkiaaGreatDoorPFnClocksAgreex16
import Derived.Test.YtejlandhfnnkiaaGreatDoorPFnClocksAgreex26
namespace Go.Proofs.YtejlandhfnnkiaaGreatDoor.PFnClocksAgree
open Go.RowKit Go.Proofs.YtejlandhfnnkiaaGreatDoorW.PrintWords Go.Proofs.YtejlandhfnnkiaaGreatDoorW.PrintLast Go.Proofs.YtejlandhfnnkiaaGreatDoorW.PrintMore
attribute [local go_sem] max2_int min2_int max_two min_two max_three min_three max_four min_four   -- for this text's walks alone
set_option linter.unusedVariables false
set_option linter.unusedSimpArgs false

/-! ### spec_l1Cur_spoilt: function 69 -/
mutual
def spec_l1Cur_spoilt.l0 : Nat → ByteArray → ByteArray → Int → List Int → Int → Int → Option (ByteArray × Int × Int)
  | 0, _, _, _, _, _, _ => none
  | k + 1, x1, x2, x7, x1000, x1001, x1002 => if x7 > 0 then (spec_l1Cur_spoilt.j1 k x1 x2 x7 (decide ((x1.size : Int) > 0)) x1000 x1001 x1002) else (spec_l1Cur_spoilt.j1 k x1 x2 x7 false x1000 x1001 x1002)
def spec_l1Cur_spoilt.j1 : Nat → ByteArray → ByteArray → Int → Bool → List Int → Int → Int → Option (ByteArray × Int × Int)
  | 0, _, _, _, _, _, _, _ => none
  | k + 1, x1, x2, x7, x19, x1000, x1001, x1002 => if x19 = true then ((spec_l1Cur_pick.f x1000 x1001 x1002 (x1.size : Int)).bind fun bt528 => ((spec_l1Cur_pick.f x1000 bt528.2.1 bt528.2.2 (x2.size : Int)).bind fun bt531 => (if 0 ≤ bt531.1 then (if bt531.1 < (x2.size : Int) then ((some (([bt x2 bt531.1] : List Int) : List Int)).bind fun y534 => ((spec_l1Cur_pick.f x1000 bt531.2.1 bt531.2.2 3).bind fun bt537 => (if bt537.1 = 0 then (if 0 ≤ bt528.1 then (if bt528.1 ≤ (x1.size : Int) then (if (x1.extract 0 (bt528.1 : Int).toNat).size + (strOfNums y534).size ≤ 9223372036854775807 then (if ((x1.extract 0 (bt528.1 : Int).toNat) ++ (strOfNums y534)).size + (x1.extract (bt528.1 : Int).toNat x1.size).size ≤ 9223372036854775807 then (spec_l1Cur_spoilt.l0 k (((x1.extract 0 (bt528.1 : Int).toNat) ++ (strOfNums y534)) ++ (x1.extract (bt528.1 : Int).toNat x1.size)) x2 (wrap64 (x7 - 1)) x1000 bt537.2.1 bt537.2.2) else (none)) else (none)) else (none)) else (none)) else (if bt537.1 = 1 then (if 0 ≤ bt528.1 then (if bt528.1 ≤ (x1.size : Int) then (if (x1.extract 0 (bt528.1 : Int).toNat).size + (strOfNums y534).size ≤ 9223372036854775807 then (if 0 ≤ (wrap64 (bt528.1 + 1)) then (if (wrap64 (bt528.1 + 1)) ≤ (x1.size : Int) then (if ((x1.extract 0 (bt528.1 : Int).toNat) ++ (strOfNums y534)).size + (x1.extract ((wrap64 (bt528.1 + 1)) : Int).toNat x1.size).size ≤ 9223372036854775807 then (spec_l1Cur_spoilt.l0 k (((x1.extract 0 (bt528.1 : Int).toNat) ++ (strOfNums y534)) ++ (x1.extract ((wrap64 (bt528.1 + 1)) : Int).toNat x1.size)) x2 (wrap64 (x7 - 1)) x1000 bt537.2.1 bt537.2.2) else (none)) else (none)) else (none)) else (none)) else (none)) else (none)) else (if 0 ≤ bt528.1 then (if bt528.1 ≤ (x1.size : Int) then (if 0 ≤ (wrap64 (bt528.1 + 1)) then (if (wrap64 (bt528.1 + 1)) ≤ (x1.size : Int) then (if (x1.extract 0 (bt528.1 : Int).toNat).size + (x1.extract ((wrap64 (bt528.1 + 1)) : Int).toNat x1.size).size ≤ 9223372036854775807 then (spec_l1Cur_spoilt.l0 k ((x1.extract 0 (bt528.1 : Int).toNat) ++ (x1.extract ((wrap64 (bt528.1 + 1)) : Int).toNat x1.size)) x2 (wrap64 (x7 - 1)) x1000 bt537.2.1 bt537.2.2) else (none)) else (none)) else (none)) else (none)) else (none)))))) else (none)) else (none)))) else (some (x1, x1001, x1002))
end
def spec_l1Cur_spoilt.f (k : Nat) (s0_0 : List Int) (s0_1 : Int) (s0_2 : Int) (a1 : ByteArray) (a2 : ByteArray) : Option (ByteArray × Int × Int) := (spec_l1Cur_pick.f s0_0 s0_1 s0_2 2).bind fun bt525 => (spec_l1Cur_spoilt.l0 k a1 a2 (wrap64 (1 + bt525.1)) s0_0 bt525.2.1 bt525.2.2)
theorem spec_l1Cur_spoilt.mono_l : ∀ k, (∀ y0 y1 y2 y3 y4 y5, LeO (spec_l1Cur_spoilt.l0 k y0 y1 y2 y3 y4 y5) (spec_l1Cur_spoilt.l0 (k + 1) y0 y1 y2 y3 y4 y5)) ∧ (∀ y0 y1 y2 y3 y4 y5 y6, LeO (spec_l1Cur_spoilt.j1 k y0 y1 y2 y3 y4 y5 y6) (spec_l1Cur_spoilt.j1 (k + 1) y0 y1 y2 y3 y4 y5 y6))
  | 0 => ⟨fun _ _ _ _ _ _ r h => by simp [spec_l1Cur_spoilt.l0] at h, fun _ _ _ _ _ _ _ r h => by simp [spec_l1Cur_spoilt.j1] at h⟩
  | k + 1 => by
    obtain ⟨ih0, ih1⟩ := spec_l1Cur_spoilt.mono_l k
    refine ⟨?_, ?_⟩
    · intro y0 y1 y2 y3 y4 y5
      unfold spec_l1Cur_spoilt.l0
      repeat' first
      | (with_reducible exact ih0 _ _ _ _ _ _)
      | (with_reducible exact ih1 _ _ _ _ _ _ _)
      | (with_reducible exact LeO.refl _)
      | (with_reducible exact LeO.none _)
      | (with_reducible refine LeO.ite ?_ ?_)
      | (with_reducible refine LeO.bind ?_ (fun _ => ?_))
      | exact ih0 _ _ _ _ _ _
      | exact ih1 _ _ _ _ _ _ _
      | exact LeO.none _
      | refine LeO.ite ?_ ?_
      | refine LeO.bind ?_ (fun _ => ?_)
    intro y0 y1 y2 y3 y4 y5 y6
    unfold spec_l1Cur_spoilt.j1
    repeat' first
    | (with_reducible exact ih0 _ _ _ _ _ _)
    | (with_reducible exact ih1 _ _ _ _ _ _ _)
    | (with_reducible exact LeO.refl _)
    | (with_reducible exact LeO.none _)
    | (with_reducible refine LeO.ite ?_ ?_)
    | (with_reducible refine LeO.bind ?_ (fun _ => ?_))
    | exact ih0 _ _ _ _ _ _
    | exact ih1 _ _ _ _ _ _ _
    | exact LeO.none _
    | refine LeO.ite ?_ ?_
    | refine LeO.bind ?_ (fun _ => ?_)
theorem spec_l1Cur_spoilt.mono : ∀ a0 a1 a2 a3 a4 k, LeO (spec_l1Cur_spoilt.f k a0 a1 a2 a3 a4) (spec_l1Cur_spoilt.f (k + 1) a0 a1 a2 a3 a4) := by
  intro a0 a1 a2 a3 a4 k
  obtain ⟨ih0, ih1⟩ := spec_l1Cur_spoilt.mono_l k
  unfold spec_l1Cur_spoilt.f
  repeat' first
      | (with_reducible exact ih0 _ _ _ _ _ _)
      | (with_reducible exact ih1 _ _ _ _ _ _ _)
      | (with_reducible exact LeO.refl _)
      | (with_reducible exact LeO.none _)
      | (with_reducible refine LeO.ite ?_ ?_)
      | (with_reducible refine LeO.bind ?_ (fun _ => ?_))
      | exact ih0 _ _ _ _ _ _
      | exact ih1 _ _ _ _ _ _ _
      | exact LeO.none _
      | refine LeO.ite ?_ ?_
      | refine LeO.bind ?_ (fun _ => ?_)
set_option maxHeartbeats 8000000 in
set_option maxRecDepth 100000 in
theorem spec_l1Cur_spoilt.calls (k : Nat) (g : Nat) (s0_0 : List Int) (s0_1 : Int) (s0_2 : Int) (a1 : ByteArray) (a2 : ByteArray) (r1 : ByteArray) (r2 : Int) (r3 : Int) (w0 w : World) (hI : IsS66 w0 w g s0_0 s0_1 s0_2) (hB : Below w0.heap.size w0 w) (h : spec_l1Cur_spoilt.f k s0_0 s0_1 s0_2 a1 a2 = some (r1, r2, r3)) :
    Calls Tryz.prog 69 #[.pointer (some ⟨g, 0, none⟩), .string a1, .string a2] w fun e w' => e = .returned (.string r1) ∧ IsS66 w0 w' g s0_0 r2 r3 ∧ Below w0.heap.size w0 w' ∧ KeepBut w w' g none := by
  have HI0 := Aside0.mk hI
  have HK := Aside0.mk (KeepBut.refl w g none)
  have HL := Aside0.mk hB.size
  clear hI
  have HW0 := Aside0.mk hB.size
  have HB := Aside0.mk hB
  clear hB
  have H : ((spec_l1Cur_pick.f s0_0 s0_1 s0_2 2).bind fun bt525 => (spec_l1Cur_spoilt.l0 k a1 a2 (wrap64 (1 + bt525.1)) s0_0 bt525.2.1 bt525.2.2)) = some (r1, r2, r3) := h
  clear h
  replace H := Option.bind_eq_some_iff.mp H
  obtain ⟨⟨t525, t526, t527⟩, A40, H⟩ := H
  (try dsimp only at H)
  have A4 := Aside0.mk A40
  clear A40
  have H' := Aside0.mk H
  clear H
  go_enter Tryz.func69, Tryz.ntmps69
  go_wp2_with (first | (go_at_call 62; (with_reducible refine (spec_l1Cur_pick.calls g s0_0 s0_1 s0_2 2 t525 t526 t527 w0 _ ?side1 ?side2 A4.1).mono ?_); (case side1 => exact iq66 HI0); (case side2 => exact bq66 HB); rintro e w5 ⟨rfl, hi, hb, hk⟩; replace HK := kT HK hk; replace HB := Aside0.mk hb; replace HI0 := Aside0.mk hi; clear hi hb hk))
  repeat (go_quiet (first | (go_at_call 62; (with_reducible refine (spec_l1Cur_pick.calls g s0_0 s0_1 s0_2 2 t525 t526 t527 w0 _ ?side1 ?side2 A4.1).mono ?_); (case side1 => exact iq66 HI0); (case side2 => exact bq66 HB); rintro e w5 ⟨rfl, hi, hb, hk⟩; replace HK := kT HK hk; replace HB := Aside0.mk hb; replace HI0 := Aside0.mk hi; clear hi hb hk)); try go_wp2_with (first | (go_at_call 62; (with_reducible refine (spec_l1Cur_pick.calls g s0_0 s0_1 s0_2 2 t525 t526 t527 w0 _ ?side1 ?side2 A4.1).mono ?_); (case side1 => exact iq66 HI0); (case side2 => exact bq66 HB); rintro e w5 ⟨rfl, hi, hb, hk⟩; replace HK := kT HK hk; replace HB := Aside0.mk hb; replace HI0 := Aside0.mk hi; clear hi hb hk)))
  go_loopg [1, 7] k (fun kq v1 v7 w' => ∃ (x1_1 : ByteArray) (x7_1 : Int) (x1001_1 : Int) (x1002_1 : Int), v1 = .string x1_1 ∧ v7 = .int .i64 x7_1 ∧ Aside0 (spec_l1Cur_spoilt.l0 kq x1_1 a2 x7_1 s0_0 x1001_1 x1002_1 = some (r1, r2, r3)) ∧ Aside0 (kq ≤ k) ∧ Aside0 (IsS66 w0 w' g s0_0 x1001_1 x1002_1) ∧ Aside0 (KeepBut w w' g none) ∧ Aside0 (Below w0.heap.size w0 w'))
  case atStart => exact ⟨(a1), (wrap64 (1 + t525)), (t526), (t527), ew, ew, H', ⟨Nat.le_refl _⟩, ⟨iq66 HI0⟩, ⟨kq HK⟩, ⟨bq66 HB⟩⟩
  case round =>
    clear H'
    try clear p2
    obtain ⟨x1_1, x7_1, x1001_1, x1002_1, rfl, rfl, HA, HK1, HI0, HK, HB⟩ := hrel
    cases gk with
    | zero => exact absurd HA.1 (by simp [spec_l1Cur_spoilt.l0])
    | succ k1 =>
      have H := HA.1
      clear HA
      simp only [spec_l1Cur_spoilt.l0] at H
      have HC6 := Aside0.mk H
      clear H
      go_upto_region 2 with (fail)
      repeat (go_quiet (fail); go_upto_region 2 with (fail))
      go_cut [19] (fun v19 wc => ∃ (kq : Nat) (x19_5 : Bool), v19 = .bool x19_5 ∧ Aside0 (spec_l1Cur_spoilt.j1 kq x1_1 a2 x7_1 x19_5 s0_0 x1001_1 x1002_1 = some (r1, r2, r3)) ∧ Aside0 (kq ≤ k1) ∧ Aside0 (IsS66 w0 wc g s0_0 x1001_1 x1002_1) ∧ Aside0 (KeepBut w wc g none) ∧ Aside0 (Below w0.heap.size w0 wc))
      case first =>
        have H := HC6.1
        clear HC6
        by_cases c7 : x7_1 > 0
        · rw [if_pos c7] at H
          have c7b0 : decide (0 < x7_1) = true := decide_eq_true c7
          clear c7
          (first | rw [c7b0] | (simp only [i64_w, i32_w]; rw [c7b0]) | skip)
          have H' := Aside0.mk H
          clear H
          go_wp2
          repeat (go_quiet (fail); try go_wp2)
          go_meet
          case rel => exact ⟨_, (decide ((x1_1.size : Int) > 0)), ew, H', ⟨by have := HK1.1; first | omega | exact Nat.le_refl _⟩, ⟨iq66 HI0⟩, ⟨kq HK⟩, ⟨bq66 HB⟩⟩
        rw [if_neg c7] at H
        have c7b0 : decide (0 < x7_1) = false := decide_eq_false c7
        clear c7
        (first | rw [c7b0] | (simp only [i64_w, i32_w]; rw [c7b0]) | skip)
        have H' := Aside0.mk H
        clear H
        go_wp2
        repeat (go_quiet (fail); try go_wp2)
        go_meet
        case rel => exact ⟨_, (false), ew, H', ⟨by have := HK1.1; first | omega | exact Nat.le_refl _⟩, ⟨iq66 HI0⟩, ⟨kq HK⟩, ⟨bq66 HB⟩⟩
      clear HC6
      try clear p2
      try clear c6
      try clear p6
      try clear c7
      try clear c7b0
      try clear p2
      obtain ⟨kq, x19_5, rfl, HA, HJ5, HI0, HK, HB⟩ := hcut
      cases kq with
      | zero => exact absurd HA.1 (by simp [spec_l1Cur_spoilt.j1])
      | succ kj5 =>
        have H := HA.1
        clear HA
        simp only [spec_l1Cur_spoilt.j1] at H
        by_cases c8 : x19_5 = true
        · subst c8
          rw [if_pos rfl] at H
          replace H := Option.bind_eq_some_iff.mp H
          obtain ⟨⟨t528, t529, t530⟩, A90, H⟩ := H
          (try dsimp only at H)
          have A9 := Aside0.mk A90
          clear A90
          replace H := Option.bind_eq_some_iff.mp H
          obtain ⟨⟨t531, t532, t533⟩, A100, H⟩ := H
          (try dsimp only at H)
          have A10 := Aside0.mk A100
          clear A100
          by_cases c11 : 0 ≤ t531
          · rw [if_pos c11] at H
            have c11b0 : decide (0 ≤ t531) = true := decide_eq_true c11
            clear c11
            by_cases c12 : t531 < (a2.size : Int)
            · rw [if_pos c12] at H
              have c12b0 : decide (t531 < (a2.size : Int)) = true := decide_eq_true c12
              clear c12
              obtain ⟨y534, hy534⟩ : ∃ y_ : List Int, y_ = (([bt a2 t531] : List Int)) := ⟨_, rfl⟩
              replace H : ((spec_l1Cur_pick.f s0_0 t532 t533 3).bind fun bt537 => (if bt537.1 = 0 then (if 0 ≤ t528 then (if t528 ≤ (x1_1.size : Int) then (if (x1_1.extract 0 (t528 : Int).toNat).size + (strOfNums y534).size ≤ 9223372036854775807 then (if ((x1_1.extract 0 (t528 : Int).toNat) ++ (strOfNums y534)).size + (x1_1.extract (t528 : Int).toNat x1_1.size).size ≤ 9223372036854775807 then (spec_l1Cur_spoilt.l0 kj5 (((x1_1.extract 0 (t528 : Int).toNat) ++ (strOfNums y534)) ++ (x1_1.extract (t528 : Int).toNat x1_1.size)) a2 (wrap64 (x7_1 - 1)) s0_0 bt537.2.1 bt537.2.2) else (none)) else (none)) else (none)) else (none)) else (if bt537.1 = 1 then (if 0 ≤ t528 then (if t528 ≤ (x1_1.size : Int) then (if (x1_1.extract 0 (t528 : Int).toNat).size + (strOfNums y534).size ≤ 9223372036854775807 then (if 0 ≤ (wrap64 (t528 + 1)) then (if (wrap64 (t528 + 1)) ≤ (x1_1.size : Int) then (if ((x1_1.extract 0 (t528 : Int).toNat) ++ (strOfNums y534)).size + (x1_1.extract ((wrap64 (t528 + 1)) : Int).toNat x1_1.size).size ≤ 9223372036854775807 then (spec_l1Cur_spoilt.l0 kj5 (((x1_1.extract 0 (t528 : Int).toNat) ++ (strOfNums y534)) ++ (x1_1.extract ((wrap64 (t528 + 1)) : Int).toNat x1_1.size)) a2 (wrap64 (x7_1 - 1)) s0_0 bt537.2.1 bt537.2.2) else (none)) else (none)) else (none)) else (none)) else (none)) else (none)) else (if 0 ≤ t528 then (if t528 ≤ (x1_1.size : Int) then (if 0 ≤ (wrap64 (t528 + 1)) then (if (wrap64 (t528 + 1)) ≤ (x1_1.size : Int) then (if (x1_1.extract 0 (t528 : Int).toNat).size + (x1_1.extract ((wrap64 (t528 + 1)) : Int).toNat x1_1.size).size ≤ 9223372036854775807 then (spec_l1Cur_spoilt.l0 kj5 ((x1_1.extract 0 (t528 : Int).toNat) ++ (x1_1.extract ((wrap64 (t528 + 1)) : Int).toNat x1_1.size)) a2 (wrap64 (x7_1 - 1)) s0_0 bt537.2.1 bt537.2.2) else (none)) else (none)) else (none)) else (none)) else (none))))) = some (r1, r2, r3) := by first | (rw [hy534]; with_reducible exact H) | (have H2_ := (Option.bind_some _ _).symm.trans H; rw [hy534]; with_reducible exact H2_) | (have H2_ := (Option.bind_some _ _).symm.trans H; with_reducible exact H2_) | with_reducible exact H | (rw [hy534]; exact H) | exact H
              have Ny534 := Aside0.mk hy534
              clear hy534
              replace H := Option.bind_eq_some_iff.mp H
              obtain ⟨⟨t537, t538, t539⟩, A140, H⟩ := H
              (try dsimp only at H)
              have A14 := Aside0.mk A140
              clear A140
              by_cases c15 : t537 = 0
              · rw [if_pos c15] at H
                have c15b0 : (t537 == 0) = true := beq_iff_eq.mpr c15
                have c15b1 : (t537 != 0) = false := bne_eq_false_iff_eq.mpr c15
                clear c15
                by_cases c16 : 0 ≤ t528
                · rw [if_pos c16] at H
                  have c16b0 := eq_true c16
                  have c16b1 : decide (0 ≤ t528) = true := decide_eq_true c16
                  clear c16
                  by_cases c17 : t528 ≤ (x1_1.size : Int)
                  · rw [if_pos c17] at H
                    have c17b0 := eq_true c17
                    have c17b1 : decide (t528 ≤ (x1_1.size : Int)) = true := decide_eq_true c17
                    clear c17
                    by_cases c18 : (x1_1.extract 0 (t528 : Int).toNat).size + (strOfNums y534).size ≤ 9223372036854775807
                    · rw [if_pos c18] at H
                      have c18b0 := eq_true c18
                      have c18b1 : decide ((x1_1.extract 0 (t528 : Int).toNat).size + (strOfNums y534).size ≤ 9223372036854775807) = true := decide_eq_true c18
                      try have c18b2 : (9223372036854775807 < (x1_1.extract 0 (t528 : Int).toNat).size + (strOfNums y534).size) = False := eq_false (Nat.not_lt.2 c18)
                      have c19b0 := eq_true (of_decide_eq_true (by first | (with_reducible assumption) | assumption) : 0 ≤ t528)
                      have c20b0 := eq_true (of_decide_eq_true (by first | (with_reducible assumption) | assumption) : t528 ≤ (x1_1.size : Int))
                      by_cases c21 : ((x1_1.extract 0 (t528 : Int).toNat) ++ (strOfNums y534)).size + (x1_1.extract (t528 : Int).toNat x1_1.size).size ≤ 9223372036854775807
                      · rw [if_pos c21] at H
                        have c21b0 := eq_true c21
                        have c21b1 : decide (((x1_1.extract 0 (t528 : Int).toNat) ++ (strOfNums y534)).size + (x1_1.extract (t528 : Int).toNat x1_1.size).size ≤ 9223372036854775807) = true := decide_eq_true c21
                        try have c21b2 : (9223372036854775807 < ((x1_1.extract 0 (t528 : Int).toNat) ++ (strOfNums y534)).size + (x1_1.extract (t528 : Int).toNat x1_1.size).size) = False := eq_false (Nat.not_lt.2 c21)
                        have H' := Aside0.mk H
                        clear H
                        go_wp2_with (first | (go_at_call 62; (with_reducible refine (spec_l1Cur_pick.calls g s0_0 x1001_1 x1002_1 (x1_1.size : Int) t528 t529 t530 w0 _ ?side1 ?side2 A9.1).mono ?_); (case side1 => exact iq66 HI0); (case side2 => exact bq66 HB); rintro e w22 ⟨rfl, hi, hb, hk⟩; replace HK := kT HK hk; replace HB := Aside0.mk hb; replace HI0 := Aside0.mk hi; clear hi hb hk) | (go_at_call 62; (with_reducible refine (spec_l1Cur_pick.calls g s0_0 t529 t530 (a2.size : Int) t531 t532 t533 w0 _ ?side1 ?side2 A10.1).mono ?_); (case side1 => exact iq66 HI0); (case side2 => exact bq66 HB); rintro e w23 ⟨rfl, hi, hb, hk⟩; replace HK := kT HK hk; replace HB := Aside0.mk hb; replace HI0 := Aside0.mk hi; clear hi hb hk; have p13 : 0 ≤ (t531 : Int) := of_decide_eq_true (by first | (with_reducible assumption) | assumption); have q13 : t531 < (a2.size : Int) := of_decide_eq_true (by first | (with_reducible assumption) | assumption); have hx13 := bt_at a2 t531; replace p13 := eq_true p13; replace q13 := eq_true q13) | ((with_reducible refine gate_dst (N := 32) rfl ?_); (try (refine gate_guard (by rfl) ?_; dsimp only)); refine Kd.R_lit (Kd.int .u8) _ 5 ?hg (N := 32) ?hd (xs := ([bt a2 t531] : List Int)) (inner := [.int .u8 (bt a2 t531)]) (ok := fun _ => True) (okp := fun _ => True) ?hr ?hp (fun _ hk => hk) trivial (Below.refl _ _) (Nat.le_refl _) (by simp) ?_; (case hd => rfl); (case hg => rfl); (case hr => first | (go_simp; done) | (go_simp; rfl)); (case hp => exact (Reps.one (show Kd.M (Kd.int .u8) _ _ _ (bt a2 t531) [.int .u8 (bt a2 t531)] from rfl) (Reps.none _ _))); intro v535 w24 ho25 hb hg_ hnew_; clear hg_ hnew_; (first | rw [← Ny534.1] at ho25 | (simp only [Int.reduceToNat] at ho25; rw [← Ny534.1] at ho25)); have HO536 := Aside0.mk (Kd.R_lower ho25 (keep_size (w := w) (g := g) (row := none) (kq HK))); replace HI0 := iB66 HI0 hb; replace HK := kB HK hb; replace HB := zB66 HB hb; clear hb ho25; have hcv26 := own_string (P := Tryz.prog) Tryz.underlying22 Tryz.underlying5 Tryz.underlying9 (Kd.own_of_R HO536.1)) | (go_at_call 62; (with_reducible refine (spec_l1Cur_pick.calls g s0_0 t532 t533 3 t537 t538 t539 w0 _ ?side1 ?side2 A14.1).mono ?_); (case side1 => exact iq66 HI0); (case side2 => exact bq66 HB); rintro e w27 ⟨rfl, hi, hb, hk⟩; replace HO536 := Aside0.mk (Kd.R_mono (Kd.R_keep (IsS66.apart (show IsS66 w0 _ g s0_0 t532 t533 from iq66 HI0) (rq HO536) (by decide)) hk (fun _ h => h.2)) (fun _ h => h.1)); replace HK := kT HK hk; replace HB := Aside0.mk hb; replace HI0 := Aside0.mk hi; clear hi hb hk))
                        repeat (go_quiet (first | (go_at_call 62; (with_reducible refine (spec_l1Cur_pick.calls g s0_0 x1001_1 x1002_1 (x1_1.size : Int) t528 t529 t530 w0 _ ?side1 ?side2 A9.1).mono ?_); (case side1 => exact iq66 HI0); (case side2 => exact bq66 HB); rintro e w22 ⟨rfl, hi, hb, hk⟩; replace HK := kT HK hk; replace HB := Aside0.mk hb; replace HI0 := Aside0.mk hi; clear hi hb hk) | (go_at_call 62; (with_reducible refine (spec_l1Cur_pick.calls g s0_0 t529 t530 (a2.size : Int) t531 t532 t533 w0 _ ?side1 ?side2 A10.1).mono ?_); (case side1 => exact iq66 HI0); (case side2 => exact bq66 HB); rintro e w23 ⟨rfl, hi, hb, hk⟩; replace HK := kT HK hk; replace HB := Aside0.mk hb; replace HI0 := Aside0.mk hi; clear hi hb hk; have p13 : 0 ≤ (t531 : Int) := of_decide_eq_true (by first | (with_reducible assumption) | assumption); have q13 : t531 < (a2.size : Int) := of_decide_eq_true (by first | (with_reducible assumption) | assumption); have hx13 := bt_at a2 t531; replace p13 := eq_true p13; replace q13 := eq_true q13) | ((with_reducible refine gate_dst (N := 32) rfl ?_); (try (refine gate_guard (by rfl) ?_; dsimp only)); refine Kd.R_lit (Kd.int .u8) _ 5 ?hg (N := 32) ?hd (xs := ([bt a2 t531] : List Int)) (inner := [.int .u8 (bt a2 t531)]) (ok := fun _ => True) (okp := fun _ => True) ?hr ?hp (fun _ hk => hk) trivial (Below.refl _ _) (Nat.le_refl _) (by simp) ?_; (case hd => rfl); (case hg => rfl); (case hr => first | (go_simp; done) | (go_simp; rfl)); (case hp => exact (Reps.one (show Kd.M (Kd.int .u8) _ _ _ (bt a2 t531) [.int .u8 (bt a2 t531)] from rfl) (Reps.none _ _))); intro v535 w24 ho25 hb hg_ hnew_; clear hg_ hnew_; (first | rw [← Ny534.1] at ho25 | (simp only [Int.reduceToNat] at ho25; rw [← Ny534.1] at ho25)); have HO536 := Aside0.mk (Kd.R_lower ho25 (keep_size (w := w) (g := g) (row := none) (kq HK))); replace HI0 := iB66 HI0 hb; replace HK := kB HK hb; replace HB := zB66 HB hb; clear hb ho25; have hcv26 := own_string (P := Tryz.prog) Tryz.underlying22 Tryz.underlying5 Tryz.underlying9 (Kd.own_of_R HO536.1)) | (go_at_call 62; (with_reducible refine (spec_l1Cur_pick.calls g s0_0 t532 t533 3 t537 t538 t539 w0 _ ?side1 ?side2 A14.1).mono ?_); (case side1 => exact iq66 HI0); (case side2 => exact bq66 HB); rintro e w27 ⟨rfl, hi, hb, hk⟩; replace HO536 := Aside0.mk (Kd.R_mono (Kd.R_keep (IsS66.apart (show IsS66 w0 _ g s0_0 t532 t533 from iq66 HI0) (rq HO536) (by decide)) hk (fun _ h => h.2)) (fun _ h => h.1)); replace HK := kT HK hk; replace HB := Aside0.mk hb; replace HI0 := Aside0.mk hi; clear hi hb hk)); try go_wp2_with (first | (go_at_call 62; (with_reducible refine (spec_l1Cur_pick.calls g s0_0 x1001_1 x1002_1 (x1_1.size : Int) t528 t529 t530 w0 _ ?side1 ?side2 A9.1).mono ?_); (case side1 => exact iq66 HI0); (case side2 => exact bq66 HB); rintro e w22 ⟨rfl, hi, hb, hk⟩; replace HK := kT HK hk; replace HB := Aside0.mk hb; replace HI0 := Aside0.mk hi; clear hi hb hk) | (go_at_call 62; (with_reducible refine (spec_l1Cur_pick.calls g s0_0 t529 t530 (a2.size : Int) t531 t532 t533 w0 _ ?side1 ?side2 A10.1).mono ?_); (case side1 => exact iq66 HI0); (case side2 => exact bq66 HB); rintro e w23 ⟨rfl, hi, hb, hk⟩; replace HK := kT HK hk; replace HB := Aside0.mk hb; replace HI0 := Aside0.mk hi; clear hi hb hk; have p13 : 0 ≤ (t531 : Int) := of_decide_eq_true (by first | (with_reducible assumption) | assumption); have q13 : t531 < (a2.size : Int) := of_decide_eq_true (by first | (with_reducible assumption) | assumption); have hx13 := bt_at a2 t531; replace p13 := eq_true p13; replace q13 := eq_true q13) | ((with_reducible refine gate_dst (N := 32) rfl ?_); (try (refine gate_guard (by rfl) ?_; dsimp only)); refine Kd.R_lit (Kd.int .u8) _ 5 ?hg (N := 32) ?hd (xs := ([bt a2 t531] : List Int)) (inner := [.int .u8 (bt a2 t531)]) (ok := fun _ => True) (okp := fun _ => True) ?hr ?hp (fun _ hk => hk) trivial (Below.refl _ _) (Nat.le_refl _) (by simp) ?_; (case hd => rfl); (case hg => rfl); (case hr => first | (go_simp; done) | (go_simp; rfl)); (case hp => exact (Reps.one (show Kd.M (Kd.int .u8) _ _ _ (bt a2 t531) [.int .u8 (bt a2 t531)] from rfl) (Reps.none _ _))); intro v535 w24 ho25 hb hg_ hnew_; clear hg_ hnew_; (first | rw [← Ny534.1] at ho25 | (simp only [Int.reduceToNat] at ho25; rw [← Ny534.1] at ho25)); have HO536 := Aside0.mk (Kd.R_lower ho25 (keep_size (w := w) (g := g) (row := none) (kq HK))); replace HI0 := iB66 HI0 hb; replace HK := kB HK hb; replace HB := zB66 HB hb; clear hb ho25; have hcv26 := own_string (P := Tryz.prog) Tryz.underlying22 Tryz.underlying5 Tryz.underlying9 (Kd.own_of_R HO536.1)) | (go_at_call 62; (with_reducible refine (spec_l1Cur_pick.calls g s0_0 t532 t533 3 t537 t538 t539 w0 _ ?side1 ?side2 A14.1).mono ?_); (case side1 => exact iq66 HI0); (case side2 => exact bq66 HB); rintro e w27 ⟨rfl, hi, hb, hk⟩; replace HO536 := Aside0.mk (Kd.R_mono (Kd.R_keep (IsS66.apart (show IsS66 w0 _ g s0_0 t532 t533 from iq66 HI0) (rq HO536) (by decide)) hk (fun _ h => h.2)) (fun _ h => h.1)); replace HK := kT HK hk; replace HB := Aside0.mk hb; replace HI0 := Aside0.mk hi; clear hi hb hk)))
                        go_roundg kj5
                        case measure => have := HK1.1; have := HJ5.1; omega
                        case rel => exact ⟨(((x1_1.extract 0 (t528 : Int).toNat) ++ (strOfNums y534)) ++ (x1_1.extract (t528 : Int).toNat x1_1.size)), (wrap64 (x7_1 - 1)), (t538), (t539), ew, ew, H', ⟨by have := HK1.1; have := HJ5.1; omega⟩, ⟨iq66 HI0⟩, ⟨kq HK⟩, ⟨bq66 HB⟩⟩
                      rw [if_neg c21] at H
                      exact absurd H (by simp)
                    rw [if_neg c18] at H
                    exact absurd H (by simp)
                  rw [if_neg c17] at H
                  exact absurd H (by simp)
                rw [if_neg c16] at H
                exact absurd H (by simp)
              rw [if_neg c15] at H
              have c15b0 : (t537 == 0) = false := beq_eq_false_iff_ne.mpr c15
              have c15b1 : (t537 != 0) = true := bne_iff_ne.mpr c15
              by_cases c28 : t537 = 1
              · rw [if_pos c28] at H
                have c28b0 : (t537 == 1) = true := beq_iff_eq.mpr c28
                have c28b1 : (t537 != 1) = false := bne_eq_false_iff_eq.mpr c28
                clear c28
                by_cases c29 : 0 ≤ t528
                · rw [if_pos c29] at H
                  have c29b0 := eq_true c29
                  have c29b1 : decide (0 ≤ t528) = true := decide_eq_true c29
                  clear c29
                  by_cases c30 : t528 ≤ (x1_1.size : Int)
                  · rw [if_pos c30] at H
                    have c30b0 := eq_true c30
                    have c30b1 : decide (t528 ≤ (x1_1.size : Int)) = true := decide_eq_true c30
                    clear c30
                    by_cases c31 : (x1_1.extract 0 (t528 : Int).toNat).size + (strOfNums y534).size ≤ 9223372036854775807
                    · rw [if_pos c31] at H
                      have c31b0 := eq_true c31
                      have c31b1 : decide ((x1_1.extract 0 (t528 : Int).toNat).size + (strOfNums y534).size ≤ 9223372036854775807) = true := decide_eq_true c31
                      try have c31b2 : (9223372036854775807 < (x1_1.extract 0 (t528 : Int).toNat).size + (strOfNums y534).size) = False := eq_false (Nat.not_lt.2 c31)
                      obtain ⟨ji32, hji32⟩ : ∃ j_ : Int, (wrap64 (t528 + 1)) = j_ := ⟨_, rfl⟩
                      replace H : (if 0 ≤ (ji32) then (if (ji32) ≤ (x1_1.size : Int) then (if ((x1_1.extract 0 (t528 : Int).toNat) ++ (strOfNums y534)).size + (x1_1.extract ((ji32) : Int).toNat x1_1.size).size ≤ 9223372036854775807 then (spec_l1Cur_spoilt.l0 kj5 (((x1_1.extract 0 (t528 : Int).toNat) ++ (strOfNums y534)) ++ (x1_1.extract ((ji32) : Int).toNat x1_1.size)) a2 (wrap64 (x7_1 - 1)) s0_0 t538 t539) else (none)) else (none)) else (none)) = some (r1, r2, r3) := by first | (rw [hji32] at H; exact H) | (simp only [hji32] at H ⊢; exact H)
                      (try rw [hji32] at A9)
                      (try rw [hji32] at A10)
                      (try rw [hji32] at A14)
                      have hji32w : (IntKind.i64.wrap (t528 + 1)) = ji32 := (i64_w _).trans hji32
                      by_cases c33 : 0 ≤ (ji32)
                      · rw [if_pos c33] at H
                        have c33b0 := eq_true c33
                        have c33b1 : decide (0 ≤ (ji32)) = true := decide_eq_true c33
                        clear c33
                        by_cases c34 : (ji32) ≤ (x1_1.size : Int)
                        · rw [if_pos c34] at H
                          have c34b0 := eq_true c34
                          have c34b1 : decide ((ji32) ≤ (x1_1.size : Int)) = true := decide_eq_true c34
                          clear c34
                          by_cases c35 : ((x1_1.extract 0 (t528 : Int).toNat) ++ (strOfNums y534)).size + (x1_1.extract ((ji32) : Int).toNat x1_1.size).size ≤ 9223372036854775807
                          · rw [if_pos c35] at H
                            have c35b0 := eq_true c35
                            have c35b1 : decide (((x1_1.extract 0 (t528 : Int).toNat) ++ (strOfNums y534)).size + (x1_1.extract ((ji32) : Int).toNat x1_1.size).size ≤ 9223372036854775807) = true := decide_eq_true c35
                            try have c35b2 : (9223372036854775807 < ((x1_1.extract 0 (t528 : Int).toNat) ++ (strOfNums y534)).size + (x1_1.extract ((ji32) : Int).toNat x1_1.size).size) = False := eq_false (Nat.not_lt.2 c35)
                            have H' := Aside0.mk H
                            clear H
                            go_wp2_with (first | (go_at_call 62; (with_reducible refine (spec_l1Cur_pick.calls g s0_0 x1001_1 x1002_1 (x1_1.size : Int) t528 t529 t530 w0 _ ?side1 ?side2 A9.1).mono ?_); (case side1 => exact iq66 HI0); (case side2 => exact bq66 HB); rintro e w36 ⟨rfl, hi, hb, hk⟩; replace HK := kT HK hk; replace HB := Aside0.mk hb; replace HI0 := Aside0.mk hi; clear hi hb hk) | (go_at_call 62; (with_reducible refine (spec_l1Cur_pick.calls g s0_0 t529 t530 (a2.size : Int) t531 t532 t533 w0 _ ?side1 ?side2 A10.1).mono ?_); (case side1 => exact iq66 HI0); (case side2 => exact bq66 HB); rintro e w37 ⟨rfl, hi, hb, hk⟩; replace HK := kT HK hk; replace HB := Aside0.mk hb; replace HI0 := Aside0.mk hi; clear hi hb hk; have p13 : 0 ≤ (t531 : Int) := of_decide_eq_true (by first | (with_reducible assumption) | assumption); have q13 : t531 < (a2.size : Int) := of_decide_eq_true (by first | (with_reducible assumption) | assumption); have hx13 := bt_at a2 t531; replace p13 := eq_true p13; replace q13 := eq_true q13) | ((with_reducible refine gate_dst (N := 32) rfl ?_); (try (refine gate_guard (by rfl) ?_; dsimp only)); refine Kd.R_lit (Kd.int .u8) _ 5 ?hg (N := 32) ?hd (xs := ([bt a2 t531] : List Int)) (inner := [.int .u8 (bt a2 t531)]) (ok := fun _ => True) (okp := fun _ => True) ?hr ?hp (fun _ hk => hk) trivial (Below.refl _ _) (Nat.le_refl _) (by simp) ?_; (case hd => rfl); (case hg => rfl); (case hr => first | (go_simp; done) | (go_simp; rfl)); (case hp => exact (Reps.one (show Kd.M (Kd.int .u8) _ _ _ (bt a2 t531) [.int .u8 (bt a2 t531)] from rfl) (Reps.none _ _))); intro v535 w38 ho39 hb hg_ hnew_; clear hg_ hnew_; (first | rw [← Ny534.1] at ho39 | (simp only [Int.reduceToNat] at ho39; rw [← Ny534.1] at ho39)); have HO536 := Aside0.mk (Kd.R_lower ho39 (keep_size (w := w) (g := g) (row := none) (kq HK))); replace HI0 := iB66 HI0 hb; replace HK := kB HK hb; replace HB := zB66 HB hb; clear hb ho39; have hcv40 := own_string (P := Tryz.prog) Tryz.underlying22 Tryz.underlying5 Tryz.underlying9 (Kd.own_of_R HO536.1)) | (go_at_call 62; (with_reducible refine (spec_l1Cur_pick.calls g s0_0 t532 t533 3 t537 t538 t539 w0 _ ?side1 ?side2 A14.1).mono ?_); (case side1 => exact iq66 HI0); (case side2 => exact bq66 HB); rintro e w41 ⟨rfl, hi, hb, hk⟩; replace HO536 := Aside0.mk (Kd.R_mono (Kd.R_keep (IsS66.apart (show IsS66 w0 _ g s0_0 t532 t533 from iq66 HI0) (rq HO536) (by decide)) hk (fun _ h => h.2)) (fun _ h => h.1)); replace HK := kT HK hk; replace HB := Aside0.mk hb; replace HI0 := Aside0.mk hi; clear hi hb hk))
                            repeat (go_quiet (first | (go_at_call 62; (with_reducible refine (spec_l1Cur_pick.calls g s0_0 x1001_1 x1002_1 (x1_1.size : Int) t528 t529 t530 w0 _ ?side1 ?side2 A9.1).mono ?_); (case side1 => exact iq66 HI0); (case side2 => exact bq66 HB); rintro e w36 ⟨rfl, hi, hb, hk⟩; replace HK := kT HK hk; replace HB := Aside0.mk hb; replace HI0 := Aside0.mk hi; clear hi hb hk) | (go_at_call 62; (with_reducible refine (spec_l1Cur_pick.calls g s0_0 t529 t530 (a2.size : Int) t531 t532 t533 w0 _ ?side1 ?side2 A10.1).mono ?_); (case side1 => exact iq66 HI0); (case side2 => exact bq66 HB); rintro e w37 ⟨rfl, hi, hb, hk⟩; replace HK := kT HK hk; replace HB := Aside0.mk hb; replace HI0 := Aside0.mk hi; clear hi hb hk; have p13 : 0 ≤ (t531 : Int) := of_decide_eq_true (by first | (with_reducible assumption) | assumption); have q13 : t531 < (a2.size : Int) := of_decide_eq_true (by first | (with_reducible assumption) | assumption); have hx13 := bt_at a2 t531; replace p13 := eq_true p13; replace q13 := eq_true q13) | ((with_reducible refine gate_dst (N := 32) rfl ?_); (try (refine gate_guard (by rfl) ?_; dsimp only)); refine Kd.R_lit (Kd.int .u8) _ 5 ?hg (N := 32) ?hd (xs := ([bt a2 t531] : List Int)) (inner := [.int .u8 (bt a2 t531)]) (ok := fun _ => True) (okp := fun _ => True) ?hr ?hp (fun _ hk => hk) trivial (Below.refl _ _) (Nat.le_refl _) (by simp) ?_; (case hd => rfl); (case hg => rfl); (case hr => first | (go_simp; done) | (go_simp; rfl)); (case hp => exact (Reps.one (show Kd.M (Kd.int .u8) _ _ _ (bt a2 t531) [.int .u8 (bt a2 t531)] from rfl) (Reps.none _ _))); intro v535 w38 ho39 hb hg_ hnew_; clear hg_ hnew_; (first | rw [← Ny534.1] at ho39 | (simp only [Int.reduceToNat] at ho39; rw [← Ny534.1] at ho39)); have HO536 := Aside0.mk (Kd.R_lower ho39 (keep_size (w := w) (g := g) (row := none) (kq HK))); replace HI0 := iB66 HI0 hb; replace HK := kB HK hb; replace HB := zB66 HB hb; clear hb ho39; have hcv40 := own_string (P := Tryz.prog) Tryz.underlying22 Tryz.underlying5 Tryz.underlying9 (Kd.own_of_R HO536.1)) | (go_at_call 62; (with_reducible refine (spec_l1Cur_pick.calls g s0_0 t532 t533 3 t537 t538 t539 w0 _ ?side1 ?side2 A14.1).mono ?_); (case side1 => exact iq66 HI0); (case side2 => exact bq66 HB); rintro e w41 ⟨rfl, hi, hb, hk⟩; replace HO536 := Aside0.mk (Kd.R_mono (Kd.R_keep (IsS66.apart (show IsS66 w0 _ g s0_0 t532 t533 from iq66 HI0) (rq HO536) (by decide)) hk (fun _ h => h.2)) (fun _ h => h.1)); replace HK := kT HK hk; replace HB := Aside0.mk hb; replace HI0 := Aside0.mk hi; clear hi hb hk)); try go_wp2_with (first | (go_at_call 62; (with_reducible refine (spec_l1Cur_pick.calls g s0_0 x1001_1 x1002_1 (x1_1.size : Int) t528 t529 t530 w0 _ ?side1 ?side2 A9.1).mono ?_); (case side1 => exact iq66 HI0); (case side2 => exact bq66 HB); rintro e w36 ⟨rfl, hi, hb, hk⟩; replace HK := kT HK hk; replace HB := Aside0.mk hb; replace HI0 := Aside0.mk hi; clear hi hb hk) | (go_at_call 62; (with_reducible refine (spec_l1Cur_pick.calls g s0_0 t529 t530 (a2.size : Int) t531 t532 t533 w0 _ ?side1 ?side2 A10.1).mono ?_); (case side1 => exact iq66 HI0); (case side2 => exact bq66 HB); rintro e w37 ⟨rfl, hi, hb, hk⟩; replace HK := kT HK hk; replace HB := Aside0.mk hb; replace HI0 := Aside0.mk hi; clear hi hb hk; have p13 : 0 ≤ (t531 : Int) := of_decide_eq_true (by first | (with_reducible assumption) | assumption); have q13 : t531 < (a2.size : Int) := of_decide_eq_true (by first | (with_reducible assumption) | assumption); have hx13 := bt_at a2 t531; replace p13 := eq_true p13; replace q13 := eq_true q13) | ((with_reducible refine gate_dst (N := 32) rfl ?_); (try (refine gate_guard (by rfl) ?_; dsimp only)); refine Kd.R_lit (Kd.int .u8) _ 5 ?hg (N := 32) ?hd (xs := ([bt a2 t531] : List Int)) (inner := [.int .u8 (bt a2 t531)]) (ok := fun _ => True) (okp := fun _ => True) ?hr ?hp (fun _ hk => hk) trivial (Below.refl _ _) (Nat.le_refl _) (by simp) ?_; (case hd => rfl); (case hg => rfl); (case hr => first | (go_simp; done) | (go_simp; rfl)); (case hp => exact (Reps.one (show Kd.M (Kd.int .u8) _ _ _ (bt a2 t531) [.int .u8 (bt a2 t531)] from rfl) (Reps.none _ _))); intro v535 w38 ho39 hb hg_ hnew_; clear hg_ hnew_; (first | rw [← Ny534.1] at ho39 | (simp only [Int.reduceToNat] at ho39; rw [← Ny534.1] at ho39)); have HO536 := Aside0.mk (Kd.R_lower ho39 (keep_size (w := w) (g := g) (row := none) (kq HK))); replace HI0 := iB66 HI0 hb; replace HK := kB HK hb; replace HB := zB66 HB hb; clear hb ho39; have hcv40 := own_string (P := Tryz.prog) Tryz.underlying22 Tryz.underlying5 Tryz.underlying9 (Kd.own_of_R HO536.1)) | (go_at_call 62; (with_reducible refine (spec_l1Cur_pick.calls g s0_0 t532 t533 3 t537 t538 t539 w0 _ ?side1 ?side2 A14.1).mono ?_); (case side1 => exact iq66 HI0); (case side2 => exact bq66 HB); rintro e w41 ⟨rfl, hi, hb, hk⟩; replace HO536 := Aside0.mk (Kd.R_mono (Kd.R_keep (IsS66.apart (show IsS66 w0 _ g s0_0 t532 t533 from iq66 HI0) (rq HO536) (by decide)) hk (fun _ h => h.2)) (fun _ h => h.1)); replace HK := kT HK hk; replace HB := Aside0.mk hb; replace HI0 := Aside0.mk hi; clear hi hb hk)))
                            go_roundg kj5
                            case measure => have := HK1.1; have := HJ5.1; omega
                            case rel => exact ⟨(((x1_1.extract 0 (t528 : Int).toNat) ++ (strOfNums y534)) ++ (x1_1.extract ((ji32) : Int).toNat x1_1.size)), (wrap64 (x7_1 - 1)), (t538), (t539), (by first | rfl | (simp; done) | (simp only [← hji32] <;> (first | rfl | simp)) | (simp [*]; done)), ew, H', ⟨by have := HK1.1; have := HJ5.1; omega⟩, ⟨iq66 HI0⟩, ⟨kq HK⟩, ⟨bq66 HB⟩⟩
                          rw [if_neg c35] at H
                          exact absurd H (by simp)
                        rw [if_neg c34] at H
                        exact absurd H (by simp)
                      rw [if_neg c33] at H
                      exact absurd H (by simp)
                    rw [if_neg c31] at H
                    exact absurd H (by simp)
                  rw [if_neg c30] at H
                  exact absurd H (by simp)
                rw [if_neg c29] at H
                exact absurd H (by simp)
              rw [if_neg c28] at H
              have c28b0 : (t537 == 1) = false := beq_eq_false_iff_ne.mpr c28
              have c28b1 : (t537 != 1) = true := bne_iff_ne.mpr c28
              by_cases c42 : 0 ≤ t528
              · rw [if_pos c42] at H
                have c42b0 := eq_true c42
                have c42b1 : decide (0 ≤ t528) = true := decide_eq_true c42
                clear c42
                by_cases c43 : t528 ≤ (x1_1.size : Int)
                · rw [if_pos c43] at H
                  have c43b0 := eq_true c43
                  have c43b1 : decide (t528 ≤ (x1_1.size : Int)) = true := decide_eq_true c43
                  clear c43
                  obtain ⟨ji44, hji44⟩ : ∃ j_ : Int, (wrap64 (t528 + 1)) = j_ := ⟨_, rfl⟩
                  replace H : (if 0 ≤ (ji44) then (if (ji44) ≤ (x1_1.size : Int) then (if (x1_1.extract 0 (t528 : Int).toNat).size + (x1_1.extract ((ji44) : Int).toNat x1_1.size).size ≤ 9223372036854775807 then (spec_l1Cur_spoilt.l0 kj5 ((x1_1.extract 0 (t528 : Int).toNat) ++ (x1_1.extract ((ji44) : Int).toNat x1_1.size)) a2 (wrap64 (x7_1 - 1)) s0_0 t538 t539) else (none)) else (none)) else (none)) = some (r1, r2, r3) := by first | (rw [hji44] at H; exact H) | (simp only [hji44] at H ⊢; exact H)
                  (try rw [hji44] at A9)
                  (try rw [hji44] at A10)
                  (try rw [hji44] at A14)
                  have hji44w : (IntKind.i64.wrap (t528 + 1)) = ji44 := (i64_w _).trans hji44
                  by_cases c45 : 0 ≤ (ji44)
                  · rw [if_pos c45] at H
                    have c45b0 := eq_true c45
                    have c45b1 : decide (0 ≤ (ji44)) = true := decide_eq_true c45
                    clear c45
                    by_cases c46 : (ji44) ≤ (x1_1.size : Int)
                    · rw [if_pos c46] at H
                      have c46b0 := eq_true c46
                      have c46b1 : decide ((ji44) ≤ (x1_1.size : Int)) = true := decide_eq_true c46
                      clear c46
                      by_cases c47 : (x1_1.extract 0 (t528 : Int).toNat).size + (x1_1.extract ((ji44) : Int).toNat x1_1.size).size ≤ 9223372036854775807
                      · rw [if_pos c47] at H
                        have c47b0 := eq_true c47
                        have c47b1 : decide ((x1_1.extract 0 (t528 : Int).toNat).size + (x1_1.extract ((ji44) : Int).toNat x1_1.size).size ≤ 9223372036854775807) = true := decide_eq_true c47
                        try have c47b2 : (9223372036854775807 < (x1_1.extract 0 (t528 : Int).toNat).size + (x1_1.extract ((ji44) : Int).toNat x1_1.size).size) = False := eq_false (Nat.not_lt.2 c47)
                        have H' := Aside0.mk H
                        clear H
                        go_wp2_with (first | (go_at_call 62; (with_reducible refine (spec_l1Cur_pick.calls g s0_0 x1001_1 x1002_1 (x1_1.size : Int) t528 t529 t530 w0 _ ?side1 ?side2 A9.1).mono ?_); (case side1 => exact iq66 HI0); (case side2 => exact bq66 HB); rintro e w48 ⟨rfl, hi, hb, hk⟩; replace HK := kT HK hk; replace HB := Aside0.mk hb; replace HI0 := Aside0.mk hi; clear hi hb hk) | (go_at_call 62; (with_reducible refine (spec_l1Cur_pick.calls g s0_0 t529 t530 (a2.size : Int) t531 t532 t533 w0 _ ?side1 ?side2 A10.1).mono ?_); (case side1 => exact iq66 HI0); (case side2 => exact bq66 HB); rintro e w49 ⟨rfl, hi, hb, hk⟩; replace HK := kT HK hk; replace HB := Aside0.mk hb; replace HI0 := Aside0.mk hi; clear hi hb hk; have p13 : 0 ≤ (t531 : Int) := of_decide_eq_true (by first | (with_reducible assumption) | assumption); have q13 : t531 < (a2.size : Int) := of_decide_eq_true (by first | (with_reducible assumption) | assumption); have hx13 := bt_at a2 t531; replace p13 := eq_true p13; replace q13 := eq_true q13) | ((with_reducible refine gate_dst (N := 32) rfl ?_); (try (refine gate_guard (by rfl) ?_; dsimp only)); refine Kd.R_lit (Kd.int .u8) _ 5 ?hg (N := 32) ?hd (xs := ([bt a2 t531] : List Int)) (inner := [.int .u8 (bt a2 t531)]) (ok := fun _ => True) (okp := fun _ => True) ?hr ?hp (fun _ hk => hk) trivial (Below.refl _ _) (Nat.le_refl _) (by simp) ?_; (case hd => rfl); (case hg => rfl); (case hr => first | (go_simp; done) | (go_simp; rfl)); (case hp => exact (Reps.one (show Kd.M (Kd.int .u8) _ _ _ (bt a2 t531) [.int .u8 (bt a2 t531)] from rfl) (Reps.none _ _))); intro v535 w50 ho51 hb hg_ hnew_; clear hg_ hnew_; (first | rw [← Ny534.1] at ho51 | (simp only [Int.reduceToNat] at ho51; rw [← Ny534.1] at ho51)); have HO536 := Aside0.mk (Kd.R_lower ho51 (keep_size (w := w) (g := g) (row := none) (kq HK))); replace HI0 := iB66 HI0 hb; replace HK := kB HK hb; replace HB := zB66 HB hb; clear hb ho51; have hcv52 := own_string (P := Tryz.prog) Tryz.underlying22 Tryz.underlying5 Tryz.underlying9 (Kd.own_of_R HO536.1)) | (go_at_call 62; (with_reducible refine (spec_l1Cur_pick.calls g s0_0 t532 t533 3 t537 t538 t539 w0 _ ?side1 ?side2 A14.1).mono ?_); (case side1 => exact iq66 HI0); (case side2 => exact bq66 HB); rintro e w53 ⟨rfl, hi, hb, hk⟩; replace HO536 := Aside0.mk (Kd.R_mono (Kd.R_keep (IsS66.apart (show IsS66 w0 _ g s0_0 t532 t533 from iq66 HI0) (rq HO536) (by decide)) hk (fun _ h => h.2)) (fun _ h => h.1)); replace HK := kT HK hk; replace HB := Aside0.mk hb; replace HI0 := Aside0.mk hi; clear hi hb hk))
                        repeat (go_quiet (first | (go_at_call 62; (with_reducible refine (spec_l1Cur_pick.calls g s0_0 x1001_1 x1002_1 (x1_1.size : Int) t528 t529 t530 w0 _ ?side1 ?side2 A9.1).mono ?_); (case side1 => exact iq66 HI0); (case side2 => exact bq66 HB); rintro e w48 ⟨rfl, hi, hb, hk⟩; replace HK := kT HK hk; replace HB := Aside0.mk hb; replace HI0 := Aside0.mk hi; clear hi hb hk) | (go_at_call 62; (with_reducible refine (spec_l1Cur_pick.calls g s0_0 t529 t530 (a2.size : Int) t531 t532 t533 w0 _ ?side1 ?side2 A10.1).mono ?_); (case side1 => exact iq66 HI0); (case side2 => exact bq66 HB); rintro e w49 ⟨rfl, hi, hb, hk⟩; replace HK := kT HK hk; replace HB := Aside0.mk hb; replace HI0 := Aside0.mk hi; clear hi hb hk; have p13 : 0 ≤ (t531 : Int) := of_decide_eq_true (by first | (with_reducible assumption) | assumption); have q13 : t531 < (a2.size : Int) := of_decide_eq_true (by first | (with_reducible assumption) | assumption); have hx13 := bt_at a2 t531; replace p13 := eq_true p13; replace q13 := eq_true q13) | ((with_reducible refine gate_dst (N := 32) rfl ?_); (try (refine gate_guard (by rfl) ?_; dsimp only)); refine Kd.R_lit (Kd.int .u8) _ 5 ?hg (N := 32) ?hd (xs := ([bt a2 t531] : List Int)) (inner := [.int .u8 (bt a2 t531)]) (ok := fun _ => True) (okp := fun _ => True) ?hr ?hp (fun _ hk => hk) trivial (Below.refl _ _) (Nat.le_refl _) (by simp) ?_; (case hd => rfl); (case hg => rfl); (case hr => first | (go_simp; done) | (go_simp; rfl)); (case hp => exact (Reps.one (show Kd.M (Kd.int .u8) _ _ _ (bt a2 t531) [.int .u8 (bt a2 t531)] from rfl) (Reps.none _ _))); intro v535 w50 ho51 hb hg_ hnew_; clear hg_ hnew_; (first | rw [← Ny534.1] at ho51 | (simp only [Int.reduceToNat] at ho51; rw [← Ny534.1] at ho51)); have HO536 := Aside0.mk (Kd.R_lower ho51 (keep_size (w := w) (g := g) (row := none) (kq HK))); replace HI0 := iB66 HI0 hb; replace HK := kB HK hb; replace HB := zB66 HB hb; clear hb ho51; have hcv52 := own_string (P := Tryz.prog) Tryz.underlying22 Tryz.underlying5 Tryz.underlying9 (Kd.own_of_R HO536.1)) | (go_at_call 62; (with_reducible refine (spec_l1Cur_pick.calls g s0_0 t532 t533 3 t537 t538 t539 w0 _ ?side1 ?side2 A14.1).mono ?_); (case side1 => exact iq66 HI0); (case side2 => exact bq66 HB); rintro e w53 ⟨rfl, hi, hb, hk⟩; replace HO536 := Aside0.mk (Kd.R_mono (Kd.R_keep (IsS66.apart (show IsS66 w0 _ g s0_0 t532 t533 from iq66 HI0) (rq HO536) (by decide)) hk (fun _ h => h.2)) (fun _ h => h.1)); replace HK := kT HK hk; replace HB := Aside0.mk hb; replace HI0 := Aside0.mk hi; clear hi hb hk)); try go_wp2_with (first | (go_at_call 62; (with_reducible refine (spec_l1Cur_pick.calls g s0_0 x1001_1 x1002_1 (x1_1.size : Int) t528 t529 t530 w0 _ ?side1 ?side2 A9.1).mono ?_); (case side1 => exact iq66 HI0); (case side2 => exact bq66 HB); rintro e w48 ⟨rfl, hi, hb, hk⟩; replace HK := kT HK hk; replace HB := Aside0.mk hb; replace HI0 := Aside0.mk hi; clear hi hb hk) | (go_at_call 62; (with_reducible refine (spec_l1Cur_pick.calls g s0_0 t529 t530 (a2.size : Int) t531 t532 t533 w0 _ ?side1 ?side2 A10.1).mono ?_); (case side1 => exact iq66 HI0); (case side2 => exact bq66 HB); rintro e w49 ⟨rfl, hi, hb, hk⟩; replace HK := kT HK hk; replace HB := Aside0.mk hb; replace HI0 := Aside0.mk hi; clear hi hb hk; have p13 : 0 ≤ (t531 : Int) := of_decide_eq_true (by first | (with_reducible assumption) | assumption); have q13 : t531 < (a2.size : Int) := of_decide_eq_true (by first | (with_reducible assumption) | assumption); have hx13 := bt_at a2 t531; replace p13 := eq_true p13; replace q13 := eq_true q13) | ((with_reducible refine gate_dst (N := 32) rfl ?_); (try (refine gate_guard (by rfl) ?_; dsimp only)); refine Kd.R_lit (Kd.int .u8) _ 5 ?hg (N := 32) ?hd (xs := ([bt a2 t531] : List Int)) (inner := [.int .u8 (bt a2 t531)]) (ok := fun _ => True) (okp := fun _ => True) ?hr ?hp (fun _ hk => hk) trivial (Below.refl _ _) (Nat.le_refl _) (by simp) ?_; (case hd => rfl); (case hg => rfl); (case hr => first | (go_simp; done) | (go_simp; rfl)); (case hp => exact (Reps.one (show Kd.M (Kd.int .u8) _ _ _ (bt a2 t531) [.int .u8 (bt a2 t531)] from rfl) (Reps.none _ _))); intro v535 w50 ho51 hb hg_ hnew_; clear hg_ hnew_; (first | rw [← Ny534.1] at ho51 | (simp only [Int.reduceToNat] at ho51; rw [← Ny534.1] at ho51)); have HO536 := Aside0.mk (Kd.R_lower ho51 (keep_size (w := w) (g := g) (row := none) (kq HK))); replace HI0 := iB66 HI0 hb; replace HK := kB HK hb; replace HB := zB66 HB hb; clear hb ho51; have hcv52 := own_string (P := Tryz.prog) Tryz.underlying22 Tryz.underlying5 Tryz.underlying9 (Kd.own_of_R HO536.1)) | (go_at_call 62; (with_reducible refine (spec_l1Cur_pick.calls g s0_0 t532 t533 3 t537 t538 t539 w0 _ ?side1 ?side2 A14.1).mono ?_); (case side1 => exact iq66 HI0); (case side2 => exact bq66 HB); rintro e w53 ⟨rfl, hi, hb, hk⟩; replace HO536 := Aside0.mk (Kd.R_mono (Kd.R_keep (IsS66.apart (show IsS66 w0 _ g s0_0 t532 t533 from iq66 HI0) (rq HO536) (by decide)) hk (fun _ h => h.2)) (fun _ h => h.1)); replace HK := kT HK hk; replace HB := Aside0.mk hb; replace HI0 := Aside0.mk hi; clear hi hb hk)))
                        go_roundg kj5
                        case measure => have := HK1.1; have := HJ5.1; omega
                        case rel => exact ⟨((x1_1.extract 0 (t528 : Int).toNat) ++ (x1_1.extract ((ji44) : Int).toNat x1_1.size)), (wrap64 (x7_1 - 1)), (t538), (t539), (by first | rfl | (simp; done) | (simp only [← hji44] <;> (first | rfl | simp)) | (simp [*]; done)), ew, H', ⟨by have := HK1.1; have := HJ5.1; omega⟩, ⟨iq66 HI0⟩, ⟨kq HK⟩, ⟨bq66 HB⟩⟩
                      rw [if_neg c47] at H
                      exact absurd H (by simp)
                    rw [if_neg c46] at H
                    exact absurd H (by simp)
                  rw [if_neg c45] at H
                  exact absurd H (by simp)
                rw [if_neg c43] at H
                exact absurd H (by simp)
              rw [if_neg c42] at H
              exact absurd H (by simp)
            rw [if_neg c12] at H
            exact absurd H (by simp)
          rw [if_neg c11] at H
          exact absurd H (by simp)
        replace c8 := Bool.eq_false_iff.mpr c8
        subst c8
        rw [if_neg (show ¬ (false = true) by decide)] at H
        simp only [Option.some.injEq, Prod.mk.injEq] at H
        obtain ⟨rfl, rfl, rfl⟩ := H
        go_wp2
        repeat (go_quiet (fail); try go_wp2)
        go_ret
        exact ⟨er, iq66 HI0, bq66 HB, kq HK⟩

/-! ### spec_DrawParseSpan: function 28 -/
theorem litS_C (w : World) (xs : List ByteArray) (t : TypeId) (h : xs.length ≤ 9223372036854775807) : Kd.C Kd.string (w.alloc (.cells (xs.map Value.string).toArray t (0, 0))) (some ⟨w.heap.size, 0, none⟩) xs.length xs := by
  refine Kd.C_of_reads (d := ByteArray.empty) ⟨rfl, h, fun _ => ⟨_, rfl, fun j hj => ?_⟩⟩
  have z := blk_cell (blk_new w (.cells (xs.map Value.string).toArray t (0, 0))) j
  have e : (⟨w.heap.size, 0, none⟩ : Addr).add j = ⟨w.heap.size, j, none⟩ := by simp [Addr.add] <;> omega
  rw [e, z]
  simp [hj]
def spanWords : List ByteArray := [⟨#[50, 47, 52]⟩, ⟨#[49, 48, 48, 48, 48, 48, 48, 47, 49]⟩, ⟨#[49, 48, 48, 48, 48, 48, 49, 47, 49]⟩, ⟨#[49, 47, 48]⟩, ⟨#[47]⟩]
def spec_DrawParseSpan.f (k : Nat) (l0 : List Int) : Option ByteArray := (spec_l1Cur_span.f k l0 0 0).bind fun b => (spec_SpanText.f k b.1 b.2.1).bind fun t => if t.2 = true then (spec_l1Cur_one.f l0 b.2.2.1 b.2.2.2 3).bind fun o => if o.1 = true then (spec_l1Cur_spoilt.f k l0 o.2.1 o.2.2 t.1 ⟨#[48, 49, 50, 51, 47, 120]⟩).bind fun u => some u.1 else some t.1 else (spec_l1Cur_of.f l0 b.2.2.1 b.2.2.2 spanWords).bind fun u => some u.1
set_option maxHeartbeats 8000000 in
set_option maxRecDepth 100000 in
theorem spec_DrawParseSpan.calls (k : Nat) (A0 : Option Addr) (c0 : Nat) (l0 : List Int) (r : ByteArray) (w : World) (hr0 : Kd.C (Kd.int .u8) w A0 l0.length l0) (hc0 : l0.length ≤ c0) (h : spec_DrawParseSpan.f k l0 = some r) :
    Calls Tryz.prog 28 #[.slice A0 l0.length c0] w fun e w' => e = .returned (.string r) ∧ Below w.heap.size w w' := by
  unfold spec_DrawParseSpan.f at h
  obtain ⟨⟨a, b, i, s⟩, e1, h⟩ := Option.bind_eq_some_iff.mp h
  dsimp only at h
  obtain ⟨⟨t, th⟩, e2, h⟩ := Option.bind_eq_some_iff.mp h
  dsimp only at h
  go_enter Tryz.func28, Tryz.ntmps28
  go_upto_region 2 with (fail)
  refine Own.gen (Own.boxes1 w) ?_
  intro w1 HO
  generalize w.heap.size = g8 at HO ⊢
  have z := HO.at_ 0 g8 _ rfl
  have hI : IsS66 w w1 g8 l0 0 0 := ⟨A0, c0, z.2, z.1, hr0⟩
  have C1 := Aside0.mk (spec_l1Cur_span.calls k g8 l0 0 0 a b i s w w1 hI HO.below e1)
  have C2 := fun w2 => spec_SpanText.calls k a b t th w2 e2
  clear hI z HO hr0 hc0 e1 e2
  go_upto_region 3 with (first
    | (go_at_call 47; with_reducible refine C1.1.mono ?_; rintro e w2 ⟨rfl, hI2, hb2, hk2⟩; have D2 := Aside0.mk (C2 w2); have J2 := Aside0.mk hI2; have B2 := Aside0.mk hb2; clear C2 C1 hI2 hb2 hk2)
    | (go_at_call 27; refine D2.1.mono ?_; rintro e w3 ⟨rfl, hb3⟩; replace J2 := Aside0.mk (J2.1.below hb3); replace B2 := Aside0.mk (below_step B2.1 hb3); clear D2 hb3))
  cases th with
  | false =>
    rw [if_neg (by simp)] at h
    obtain ⟨⟨u, m, n⟩, e3, h⟩ := Option.bind_eq_some_iff.mp h
    simp only [Option.some.injEq] at h
    subst h
    have C3 := Aside0.mk (spec_l1Cur_of.calls g8 l0 i s (some ⟨w3.heap.size, 0, none⟩) 5 spanWords u m n w (w3.alloc _) (J2.1.alloc _) (below_alloc B2.1 _) (litS_C w3 spanWords 9 (by decide)) (by decide) (by intro ad e _; cases e; exact J2.1.fresh _ (Nat.le_refl _)) e3)
    clear e3 J2 B2
    go_wp2_with (first | (go_at_call 67; refine C3.1.mono ?_; rintro e w5 ⟨rfl, hI5, hb5, hk5⟩; have HB := Aside0.mk hb5; clear C3 hI5 hb5 hk5))
    go_ret
    exact ⟨rfl, HB.1⟩
  | true =>
    rw [if_pos rfl] at h
    obtain ⟨⟨o, m, n⟩, e3, h⟩ := Option.bind_eq_some_iff.mp h
    dsimp only at h
    have C3 := Aside0.mk (spec_l1Cur_one.calls g8 l0 i s 3 o m n w w3 J2.1 B2.1 e3)
    clear e3 J2 B2
    cases o with
    | false =>
      rw [if_neg (by simp)] at h
      cases h
      go_wp2_with (first | (go_at_call 68; with_reducible refine C3.1.mono ?_; rintro e w5 ⟨rfl, hI5, hb5, hk5⟩; have HB := Aside0.mk hb5; clear C3 hI5 hb5 hk5))
      go_ret
      exact ⟨rfl, HB.1⟩
    | true =>
      rw [if_pos rfl] at h
      obtain ⟨⟨u, x, y⟩, e4, h⟩ := Option.bind_eq_some_iff.mp h
      simp only [Option.some.injEq] at h
      subst h
      have C4 := fun w4 (h4 : IsS66 w w4 g8 l0 m n) (hb4 : Below w.heap.size w w4) => spec_l1Cur_spoilt.calls k g8 l0 m n t ⟨#[48, 49, 50, 51, 47, 120]⟩ u x y w w4 h4 hb4 e4
      clear e4
      go_wp2_with (first
        | (go_at_call 68; with_reducible refine C3.1.mono ?_; rintro e w4 ⟨rfl, hI4, hb4, hk4⟩; have D4 := Aside0.mk (C4 w4 hI4 hb4); clear C3 C4 hI4 hb4 hk4)
        | (go_at_call 69; refine D4.1.mono ?_; rintro e w5 ⟨rfl, hI5, hb5, hk5⟩; have HB := Aside0.mk hb5; clear D4 hI5 hb5 hk5))
      go_ret
      exact ⟨rfl, HB.1⟩

end Go.Proofs.YtejlandhfnnkiaaGreatDoor.PFnClocksAgree
