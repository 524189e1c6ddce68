/- For every dial, half and number of strokes the program's WaitForStrokes answers as the reference does; no condition. -/
import Derived.Test.YtohglnbfpppclaaPFnExactWaitForStrokesx1
set_option linter.unusedVariables false
set_option linter.unusedSimpArgs false
namespace Go.Proofs.Ytohglnbfpppclaa.Pure
open Go.RowKit Go.Proofs.Ytohglnbfpppclaa.PFnExactWaitForStrokes Go.Proofs.YtohglnbfpppclaaW.PrintWords Go.Proofs.YtohglnbfpppclaaW.PrintLast Go.Proofs.YtohglnbfpppclaaW.PrintMore

/-! base: whole numbers of 64 bits -/
theorem wid {x : Int} (h0 : -9223372036854775808 ≤ x) (h1 : x ≤ 9223372036854775807) : wrap64 x = x := by unfold wrap64; omega
theorem wf_bd {a : Int} (h : (Lit.int .i64 a).wf = true) : -9223372036854775808 ≤ a ∧ a ≤ 9223372036854775807 := by
  simp only [Lit.wf, IntKind.min, IntKind.max, IntKind.signed, IntKind.bits, Bool.and_eq_true, decide_eq_true_eq] at h
  simp at h
  exact h
theorem tmod_nn {a : Int} (b : Int) (h : 0 ≤ a) : Int.tmod a b = a % b := Int.tmod_eq_emod_of_nonneg h
theorem tdiv_nn {a : Int} (b : Int) (h : 0 ≤ a) : Int.tdiv a b = a / b := Int.tdiv_eq_ediv_of_nonneg h
theorem mul_bd {x y M N : Int} (hx : -M ≤ x ∧ x ≤ M) (hy : -N ≤ y ∧ y ≤ N) : -(M * N) ≤ x * y ∧ x * y ≤ M * N := by
  have h1 : x.natAbs ≤ M.natAbs := by omega
  have h2 : y.natAbs ≤ N.natAbs := by omega
  have h3 := Nat.mul_le_mul h1 h2
  rw [← Int.natAbs_mul, ← Int.natAbs_mul] at h3
  have h4 : 0 ≤ M * N := Int.mul_nonneg (by omega) (by omega)
  omega
theorem l1In_val (a b c : Int) : spec_l1In.f a b c = some (decide (b ≤ a ∧ a ≤ c)) := by
  unfold spec_l1In.f
  by_cases h : a ≥ b
  · have e : (b ≤ a ∧ a ≤ c) ↔ a ≤ c := ⟨fun x => x.2, fun x => ⟨h, x⟩⟩
    rw [if_pos h, decide_eq_decide.mpr e]
  · rw [if_neg h, decide_eq_false (fun x => h x.1)]
theorem within_val (a b c : Int) : impl_within.f a b c = some (decide (b ≤ a ∧ a ≤ c)) := by
  unfold impl_within.f
  by_cases h : a ≥ b
  · have e : (b ≤ a ∧ a ≤ c) ↔ a ≤ c := ⟨fun x => x.2, fun x => ⟨h, x⟩⟩
    rw [if_pos h, decide_eq_decide.mpr e]
  · rw [if_neg h, decide_eq_false (fun x => h x.1)]
theorem diHours_val (h : Int) : spec_diHours.f h = some (decide (2 ≤ h ∧ h ≤ 24)) := by
  unfold spec_diHours.f; rw [l1In_val]; rfl
theorem isDial_val (h : Int) : impl_isDial.f h = some (decide (2 ≤ h ∧ h ≤ 24)) := by
  unfold impl_isDial.f; rw [within_val]; rfl
def isH (h x : Int) : Prop := (2 ≤ h ∧ h ≤ 24) ∧ 0 ≤ x ∧ x ≤ 2 * h - 1
instance (h x : Int) : Decidable (isH h x) := by unfold isH; exact inferInstance
theorem stHalf_val (h x : Int) : spec_stHalf.f h x = some (decide (isH h x)) := by
  unfold spec_stHalf.f isH; rw [diHours_val]
  simp only [Option.bind_some]
  by_cases hd : 2 ≤ h ∧ h ≤ 24
  · simp only [decide_eq_true hd, if_true]
    rw [l1In_val, wid (x := 2 * h) (by omega) (by omega), wid (by omega) (by omega)]
    simp [hd]
  · simp only [decide_eq_false hd]
    simp [hd]
theorem isHalf_val (h x : Int) : impl_isHalf.f h x = some (decide (isH h x)) := by
  unfold impl_isHalf.f isH; rw [isDial_val]
  simp only [Option.bind_some]
  by_cases hd : 2 ≤ h ∧ h ≤ 24
  · simp only [decide_eq_true hd, if_true]
    rw [within_val, wid (x := 2 * h) (by omega) (by omega), wid (by omega) (by omega)]
    simp [hd]
  · simp only [decide_eq_false hd]
    simp [hd]
def st (h j : Int) : Int := if j % 2 = 1 then 1 else if j = 0 then h else j / 2
theorem st_pos {h j : Int} (hh : 2 ≤ h) (h0 : 0 ≤ j) : 1 ≤ st h j := by
  unfold st; split
  · omega
  · split <;> omega
theorem st_le {h j : Int} (hh : 2 ≤ h) (h1 : j < 2 * h) : st h j ≤ h := by
  unfold st; split
  · omega
  · split <;> omega
theorem stAt_val (h : Int) {j : Int} (h0 : 0 ≤ j) (h1 : j ≤ 4611686018427387904) : spec_stAt.f h j = some (st h j) := by
  unfold spec_stAt.f st
  rw [tmod_nn _ h0, tdiv_nn _ h0]
  split
  · rfl
  · split
    · rfl
    · rw [wid (by omega) (by omega)]
theorem strokes_val {h j : Int} (hd : 2 ≤ h ∧ h ≤ 24) (h0 : 0 ≤ j) : impl_strokes.f h j = some (st h (j % (2 * h))) := by
  have hw : wrap64 (2 * h) = 2 * h := wid (by omega) (by omega)
  have hm : 0 ≤ j % (2 * h) := Int.emod_nonneg _ (by omega)
  have hl : j % (2 * h) < 2 * h := Int.emod_lt_of_pos _ (by omega)
  unfold impl_strokes.f st
  rw [hw, tmod_nn _ h0, tmod_nn _ hm, tdiv_nn _ hm, if_neg (by omega)]
  by_cases h1 : j % (2 * h) = 0
  · rw [if_pos h1, h1]; simp
  · rw [if_neg h1]
    by_cases h2 : j % (2 * h) % 2 = 1
    · rw [if_pos h2, if_pos h2]
    · rw [if_neg h2, if_neg h2, if_neg h1, wid (by omega) (by omega)]
/-- Two functions that come to the same: the law over them. -/
theorem same_ib {g f : Nat → Option (Int × Bool)} {v : Int × Bool} (hg : Ev g v) (hf : Ev f v) :
    ∃ k, ((g k).bind fun b => ((f k).bind fun c => (if c.1 = b.1 then (if (c.2 != b.2) = true then (some false) else (some true)) else (some false)))) = some true := by
  obtain ⟨K, h1⟩ := hg
  obtain ⟨K', h2⟩ := hf
  refine ⟨max K K', ?_⟩
  rw [h1 _ (by omega), h2 _ (by omega)]
  simp
theorem same_iib {g f : Nat → Option (Int × Int × Bool)} {v : Int × Int × Bool} (hg : Ev g v) (hf : Ev f v) :
    ∃ k, ((g k).bind fun b => ((f k).bind fun c => (if c.1 = b.1 then (if c.2.1 = b.2.1 then (if (c.2.2 != b.2.2) = true then (some false) else (some true)) else (some false)) else (some false)))) = some true := by
  obtain ⟨K, h1⟩ := hg
  obtain ⟨K', h2⟩ := hf
  refine ⟨max K K', ?_⟩
  rw [h1 _ (by omega), h2 _ (by omega)]
  simp
theorem Ev.mk {α : Type} {g : Nat → Option α} {r : α} (K : Nat) (h : ∀ k, K ≤ k → g k = some r) : Ev g r := ⟨K, h⟩
theorem found {h s : Int} (hh : 2 ≤ h) (h1 : 1 ≤ s) (h2 : s ≤ h) : ∃ j, 0 ≤ j ∧ j < 2 * h ∧ st h j = s := by
  by_cases e : s = 1
  · exact ⟨1, by omega, by omega, by unfold st; rw [if_pos (by omega)]; omega⟩
  · by_cases e' : s = h
    · exact ⟨0, by omega, by omega, by unfold st; rw [if_neg (by omega), if_pos rfl]; omega⟩
    · exact ⟨2 * s, by omega, by omega, by unfold st; rw [if_neg (by omega), if_neg (by omega)]; omega⟩
theorem loops {h x s : Int} (hd : 2 ≤ h ∧ h ≤ 24) (hx : 0 ≤ x) (hx' : x ≤ 100) (d : Nat) : ∀ n : Int, 0 ≤ n → n + d ≤ 100 → st h ((x + n + d) % (2 * h)) = s →
    ∃ r, ∀ k, d < k → spec_WaitForStrokes.l0 k h x s n = some r ∧ impl_WaitForStrokes.l0 k h x s n = some r := by
  induction d with
  | zero =>
    intro n h0 hn hs
    refine ⟨(n, true), fun k hk => ?_⟩
    obtain ⟨k, rfl⟩ : ∃ m, k = m + 1 := ⟨k - 1, by omega⟩
    have hm : 0 ≤ (x + n) % (2 * h) := Int.emod_nonneg _ (by omega)
    have hl : (x + n) % (2 * h) < 2 * h := Int.emod_lt_of_pos _ (by omega)
    simp only [Int.natCast_zero, Int.add_zero] at hs
    simp only [spec_WaitForStrokes.l0, impl_WaitForStrokes.l0]
    rw [wid (x := 2 * h) (by omega) (by omega), wid (x := x + n) (by omega) (by omega), tmod_nn _ (by omega), if_neg (by omega), stAt_val _ hm (by omega), strokes_val hd (by omega)]
    simp only [Option.bind_some]
    simp only [if_pos hs, and_self]
  | succ d ih =>
    intro n h0 hn hs
    have hm : 0 ≤ (x + n) % (2 * h) := Int.emod_nonneg _ (by omega)
    have hl : (x + n) % (2 * h) < 2 * h := Int.emod_lt_of_pos _ (by omega)
    by_cases e : st h ((x + n) % (2 * h)) = s
    · refine ⟨(n, true), fun k hk => ?_⟩
      obtain ⟨k, rfl⟩ : ∃ m, k = m + 1 := ⟨k - 1, by omega⟩
      simp only [spec_WaitForStrokes.l0, impl_WaitForStrokes.l0]
      rw [wid (x := 2 * h) (by omega) (by omega), wid (x := x + n) (by omega) (by omega), tmod_nn _ (by omega), if_neg (by omega), stAt_val _ hm (by omega), strokes_val hd (by omega)]
      simp only [Option.bind_some]
      simp only [if_pos e, and_self]
    · obtain ⟨r, hr⟩ := ih (n + 1) (by omega) (by omega) (by rw [← hs]; congr 2; omega)
      refine ⟨r, fun k hk => ?_⟩
      obtain ⟨k, rfl⟩ : ∃ m, k = m + 1 := ⟨k - 1, by omega⟩
      simp only [spec_WaitForStrokes.l0, impl_WaitForStrokes.l0]
      rw [wid (x := 2 * h) (by omega) (by omega), wid (x := x + n) (by omega) (by omega), tmod_nn _ (by omega), if_neg (by omega), stAt_val _ hm (by omega), strokes_val hd (by omega)]
      simp only [Option.bind_some]
      simp only [if_neg e]
      rw [wid (x := n + 1) (by omega) (by omega)]
      exact hr k (by omega)
theorem FnExactWaitForStrokes : laws_FnExactWaitForStrokes.Pure := by
  intro h x s _ _ _
  suffices H : ∃ v, Ev (fun k => spec_WaitForStrokes.f k h x s) v ∧ Ev (fun k => impl_WaitForStrokes.f k h x s) v by
    obtain ⟨v, h1, h2⟩ := H
    exact same_ib h1 h2
  unfold spec_WaitForStrokes.f impl_WaitForStrokes.f
  simp only [stHalf_val, isHalf_val, l1In_val, within_val, Option.bind_some]
  by_cases hi : isH h x
  · simp only [decide_eq_true hi, if_true]
    by_cases hs : 1 ≤ s ∧ s ≤ h
    · simp only [decide_eq_true hs, Bool.not_true]
      obtain ⟨hd, h0, hx⟩ := hi
      obtain ⟨j, hj0, hj1, hj⟩ := found hd.1 hs.1 hs.2
      have e1 : ((j - x) % (2 * h)).toNat = (j - x) % (2 * h) := Int.toNat_of_nonneg (Int.emod_nonneg _ (by omega))
      have e2 : (j - x) % (2 * h) < 2 * h := Int.emod_lt_of_pos _ (by omega)
      obtain ⟨r, hr⟩ := loops (s := s) hd h0 (by omega) ((j - x) % (2 * h)).toNat 0 (by omega) (by omega) (by
        rw [e1, Int.add_zero, Int.add_emod_emod, show x + (j - x) = j by omega, Int.emod_eq_of_lt hj0 hj1]; exact hj)
      refine ⟨r, ⟨((j - x) % (2 * h)).toNat + 2, fun k hk => ?_⟩, ⟨((j - x) % (2 * h)).toNat + 2, fun k hk => ?_⟩⟩ <;> obtain ⟨k, rfl⟩ : ∃ m, k = m + 1 := ⟨k - 1, by omega⟩
      · simp only [spec_WaitForStrokes.j0]; exact (hr k (by omega)).1
      · simp only [impl_WaitForStrokes.j0]; exact (hr k (by omega)).2
    · simp only [decide_eq_false hs, Bool.not_false]
      refine ⟨(0, false), ⟨1, fun k hk => ?_⟩, ⟨1, fun k hk => ?_⟩⟩ <;> obtain ⟨k, rfl⟩ : ∃ m, k = m + 1 := ⟨k - 1, by omega⟩ <;> rfl
  · simp only [decide_eq_false hi]
    refine ⟨(0, false), ⟨1, fun k hk => ?_⟩, ⟨1, fun k hk => ?_⟩⟩ <;> obtain ⟨k, rfl⟩ : ∃ m, k = m + 1 := ⟨k - 1, by omega⟩ <;> rfl

end Go.Proofs.Ytohglnbfpppclaa.Pure
