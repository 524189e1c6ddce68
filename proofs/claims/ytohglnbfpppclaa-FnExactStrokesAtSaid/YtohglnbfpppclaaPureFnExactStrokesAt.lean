/- For every dial and half the program's StrokesAt answers as the reference does; no condition. -/
import Derived.Test.YtohglnbfpppclaaPFnExactStrokesAtx1
set_option linter.unusedVariables false
set_option linter.unusedSimpArgs false
namespace Go.Proofs.Ytohglnbfpppclaa.Pure
open Go.RowKit Go.Proofs.Ytohglnbfpppclaa.PFnExactStrokesAt Go.Proofs.YtohglnbfpppclaaW.PrintWords Go.Proofs.YtohglnbfpppclaaW.PrintLast Go.Proofs.YtohglnbfpppclaaW.PrintMore

/-! base: whole numbers of 64 bits -/
theorem wid {x : Int} (h0 : -9223372036854775808 ≤ x) (h1 : x ≤ 9223372036854775807) : wrap64 x = x := by unfold wrap64; omega
theorem wf_bd {a : Int} (h : (Lit.int .i64 a).wf = true) : -9223372036854775808 ≤ a ∧ a ≤ 9223372036854775807 := by
  simp only [Lit.wf, IntKind.min, IntKind.max, IntKind.signed, IntKind.bits, Bool.and_eq_true, decide_eq_true_eq] at h
  simp at h
  exact h
theorem tmod_nn {a : Int} (b : Int) (h : 0 ≤ a) : Int.tmod a b = a % b := Int.tmod_eq_emod_of_nonneg h
theorem tdiv_nn {a : Int} (b : Int) (h : 0 ≤ a) : Int.tdiv a b = a / b := Int.tdiv_eq_ediv_of_nonneg h
theorem mul_bd {x y M N : Int} (hx : -M ≤ x ∧ x ≤ M) (hy : -N ≤ y ∧ y ≤ N) : -(M * N) ≤ x * y ∧ x * y ≤ M * N := by
  have h1 : x.natAbs ≤ M.natAbs := by omega
  have h2 : y.natAbs ≤ N.natAbs := by omega
  have h3 := Nat.mul_le_mul h1 h2
  rw [← Int.natAbs_mul, ← Int.natAbs_mul] at h3
  have h4 : 0 ≤ M * N := Int.mul_nonneg (by omega) (by omega)
  omega
theorem l1In_val (a b c : Int) : spec_l1In.f a b c = some (decide (b ≤ a ∧ a ≤ c)) := by
  unfold spec_l1In.f
  by_cases h : a ≥ b
  · have e : (b ≤ a ∧ a ≤ c) ↔ a ≤ c := ⟨fun x => x.2, fun x => ⟨h, x⟩⟩
    rw [if_pos h, decide_eq_decide.mpr e]
  · rw [if_neg h, decide_eq_false (fun x => h x.1)]
theorem within_val (a b c : Int) : impl_within.f a b c = some (decide (b ≤ a ∧ a ≤ c)) := by
  unfold impl_within.f
  by_cases h : a ≥ b
  · have e : (b ≤ a ∧ a ≤ c) ↔ a ≤ c := ⟨fun x => x.2, fun x => ⟨h, x⟩⟩
    rw [if_pos h, decide_eq_decide.mpr e]
  · rw [if_neg h, decide_eq_false (fun x => h x.1)]
theorem diHours_val (h : Int) : spec_diHours.f h = some (decide (2 ≤ h ∧ h ≤ 24)) := by
  unfold spec_diHours.f; rw [l1In_val]; rfl
theorem isDial_val (h : Int) : impl_isDial.f h = some (decide (2 ≤ h ∧ h ≤ 24)) := by
  unfold impl_isDial.f; rw [within_val]; rfl
def isH (h x : Int) : Prop := (2 ≤ h ∧ h ≤ 24) ∧ 0 ≤ x ∧ x ≤ 2 * h - 1
instance (h x : Int) : Decidable (isH h x) := by unfold isH; exact inferInstance
theorem stHalf_val (h x : Int) : spec_stHalf.f h x = some (decide (isH h x)) := by
  unfold spec_stHalf.f isH; rw [diHours_val]
  simp only [Option.bind_some]
  by_cases hd : 2 ≤ h ∧ h ≤ 24
  · simp only [decide_eq_true hd, if_true]
    rw [l1In_val, wid (x := 2 * h) (by omega) (by omega), wid (by omega) (by omega)]
    simp [hd]
  · simp only [decide_eq_false hd]
    simp [hd]
theorem isHalf_val (h x : Int) : impl_isHalf.f h x = some (decide (isH h x)) := by
  unfold impl_isHalf.f isH; rw [isDial_val]
  simp only [Option.bind_some]
  by_cases hd : 2 ≤ h ∧ h ≤ 24
  · simp only [decide_eq_true hd, if_true]
    rw [within_val, wid (x := 2 * h) (by omega) (by omega), wid (by omega) (by omega)]
    simp [hd]
  · simp only [decide_eq_false hd]
    simp [hd]
def st (h j : Int) : Int := if j % 2 = 1 then 1 else if j = 0 then h else j / 2
theorem st_pos {h j : Int} (hh : 2 ≤ h) (h0 : 0 ≤ j) : 1 ≤ st h j := by
  unfold st; split
  · omega
  · split <;> omega
theorem st_le {h j : Int} (hh : 2 ≤ h) (h1 : j < 2 * h) : st h j ≤ h := by
  unfold st; split
  · omega
  · split <;> omega
theorem stAt_val (h : Int) {j : Int} (h0 : 0 ≤ j) (h1 : j ≤ 4611686018427387904) : spec_stAt.f h j = some (st h j) := by
  unfold spec_stAt.f st
  rw [tmod_nn _ h0, tdiv_nn _ h0]
  split
  · rfl
  · split
    · rfl
    · rw [wid (by omega) (by omega)]
theorem strokes_val {h j : Int} (hd : 2 ≤ h ∧ h ≤ 24) (h0 : 0 ≤ j) : impl_strokes.f h j = some (st h (j % (2 * h))) := by
  have hw : wrap64 (2 * h) = 2 * h := wid (by omega) (by omega)
  have hm : 0 ≤ j % (2 * h) := Int.emod_nonneg _ (by omega)
  have hl : j % (2 * h) < 2 * h := Int.emod_lt_of_pos _ (by omega)
  unfold impl_strokes.f st
  rw [hw, tmod_nn _ h0, tmod_nn _ hm, tdiv_nn _ hm, if_neg (by omega)]
  by_cases h1 : j % (2 * h) = 0
  · rw [if_pos h1, h1]; simp
  · rw [if_neg h1]
    by_cases h2 : j % (2 * h) % 2 = 1
    · rw [if_pos h2, if_pos h2]
    · rw [if_neg h2, if_neg h2, if_neg h1, wid (by omega) (by omega)]
theorem FnExactStrokesAt : laws_FnExactStrokesAt.Pure := by
  intro h x _ _
  unfold laws_FnExactStrokesAt.f spec_StrokesAt.f impl_StrokesAt.f
  rw [stHalf_val, isHalf_val]
  simp only [Option.bind_some]
  by_cases h1 : isH h x
  · obtain ⟨hd, h0, hx⟩ := id h1
    rw [stAt_val _ h0 (by omega), strokes_val hd h0, Int.emod_eq_of_lt h0 (by omega)]
    simp [decide_eq_true h1]
  · simp [decide_eq_false h1]

end Go.Proofs.Ytohglnbfpppclaa.Pure
