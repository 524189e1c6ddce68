/- For every dial the program's LongestUnknown answers as the reference does, in memory of its own; no condition. -/
import Derived.Test.YtbcpdgiinebnaaaPFnExactLongestUnknownx5
set_option linter.unusedVariables false
set_option linter.unusedSimpArgs false
namespace Go.Proofs.Ytbcpdgiinebnaaa.Pure
open Go.RowKit Go.Proofs.Ytbcpdgiinebnaaa.PFnExactLongestUnknown Go.Proofs.YtbcpdgiinebnaaaW.PrintWords Go.Proofs.YtbcpdgiinebnaaaW.PrintLast Go.Proofs.YtbcpdgiinebnaaaW.PrintMore

/-! base: whole numbers of 64 bits -/
theorem wid {x : Int} (h0 : -9223372036854775808 ≤ x) (h1 : x ≤ 9223372036854775807) : wrap64 x = x := by unfold wrap64; omega
theorem wf_bd {a : Int} (h : (Lit.int .i64 a).wf = true) : -9223372036854775808 ≤ a ∧ a ≤ 9223372036854775807 := by
  simp only [Lit.wf, IntKind.min, IntKind.max, IntKind.signed, IntKind.bits, Bool.and_eq_true, decide_eq_true_eq] at h
  simp at h
  exact h
theorem tmod_nn {a : Int} (b : Int) (h : 0 ≤ a) : Int.tmod a b = a % b := Int.tmod_eq_emod_of_nonneg h
theorem tdiv_nn {a : Int} (b : Int) (h : 0 ≤ a) : Int.tdiv a b = a / b := Int.tdiv_eq_ediv_of_nonneg h
theorem mul_bd {x y M N : Int} (hx : -M ≤ x ∧ x ≤ M) (hy : -N ≤ y ∧ y ≤ N) : -(M * N) ≤ x * y ∧ x * y ≤ M * N := by
  have h1 : x.natAbs ≤ M.natAbs := by omega
  have h2 : y.natAbs ≤ N.natAbs := by omega
  have h3 := Nat.mul_le_mul h1 h2
  rw [← Int.natAbs_mul, ← Int.natAbs_mul] at h3
  have h4 : 0 ≤ M * N := Int.mul_nonneg (by omega) (by omega)
  omega
theorem l1In_val (a b c : Int) : spec_l1In.f a b c = some (decide (b ≤ a ∧ a ≤ c)) := by
  unfold spec_l1In.f
  by_cases h : a ≥ b
  · have e : (b ≤ a ∧ a ≤ c) ↔ a ≤ c := ⟨fun x => x.2, fun x => ⟨h, x⟩⟩
    rw [if_pos h, decide_eq_decide.mpr e]
  · rw [if_neg h, decide_eq_false (fun x => h x.1)]
theorem within_val (a b c : Int) : impl_within.f a b c = some (decide (b ≤ a ∧ a ≤ c)) := by
  unfold impl_within.f
  by_cases h : a ≥ b
  · have e : (b ≤ a ∧ a ≤ c) ↔ a ≤ c := ⟨fun x => x.2, fun x => ⟨h, x⟩⟩
    rw [if_pos h, decide_eq_decide.mpr e]
  · rw [if_neg h, decide_eq_false (fun x => h x.1)]
theorem diHours_val (h : Int) : spec_diHours.f h = some (decide (2 ≤ h ∧ h ≤ 24)) := by
  unfold spec_diHours.f; rw [l1In_val]; rfl
theorem isDial_val (h : Int) : impl_isDial.f h = some (decide (2 ≤ h ∧ h ≤ 24)) := by
  unfold impl_isDial.f; rw [within_val]; rfl
theorem all_dials : ∀ x : Fin 25, 2 ≤ x.val → laws_FnExactLongestUnknown.f 140 (x.val : Int) = some true := by decide +kernel
theorem FnExactLongestUnknown : laws_FnExactLongestUnknown.Pure := by
  intro h _
  refine ⟨140, ?_⟩
  by_cases hd : 2 ≤ h ∧ h ≤ 24
  · have := all_dials ⟨h.toNat, by omega⟩ (by show 2 ≤ h.toNat; omega)
    rwa [show ((h.toNat : Nat) : Int) = h by omega] at this
  · unfold laws_FnExactLongestUnknown.f spec_LongestUnknown.f impl_LongestUnknown.f
    simp only [diHours_val, isDial_val, Option.bind_some, decide_eq_false hd, Bool.false_eq_true, if_false]
    have e : laws_eqIntS.f 140 [] [] = some true := by decide
    have e9 : laws_eqIntS.f 139 [] [] = some true := by decide
    have m : laws_markIntS.f 139 [] 1 = some (1, []) := by rfl
    have q : laws_heldIntS.f 139 [] 1 = some 1 := by decide
    have q8 : laws_heldIntS.f 138 [] 1 = some 1 := by decide
    rw [e]
    simp only [Option.bind_some, if_true, bne_self_eq_false, laws_FnExactLongestUnknown.j0, Bool.false_eq_true, if_false]
    rw [m]
    simp only [Option.bind_some]
    rw [q]
    simp only [Option.bind_some]
    rw [if_neg (by omega), if_pos trivial]
    unfold impl_LongestUnknown.f
    simp only [isDial_val, Option.bind_some, decide_eq_false hd, Bool.false_eq_true, if_false]
    rw [e9]
    simp only [Option.bind_some, if_true, bne_self_eq_false, laws_FnExactLongestUnknown.j1, Bool.false_eq_true, if_false]
    rw [q8]
    rfl

end Go.Proofs.Ytbcpdgiinebnaaa.Pure
