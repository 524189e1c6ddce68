/- For every two parts the program's IsSeen answers as the reference does; no condition. -/
import Derived.Test.YtohglnbfpppclaaPFnExactIsSeenx3
set_option linter.unusedVariables false
set_option linter.unusedSimpArgs false
namespace Go.Proofs.Ytohglnbfpppclaa.Pure
open Go.RowKit Go.Proofs.Ytohglnbfpppclaa.PFnExactIsSeen Go.Proofs.YtohglnbfpppclaaW.PrintWords Go.Proofs.YtohglnbfpppclaaW.PrintLast Go.Proofs.YtohglnbfpppclaaW.PrintMore

theorem l1In_val (a b c : Int) : spec_l1In.f a b c = some (decide (b ≤ a ∧ a ≤ c)) := by
  unfold spec_l1In.f
  by_cases h : a ≥ b
  · have e : (b ≤ a ∧ a ≤ c) ↔ a ≤ c := ⟨fun x => x.2, fun x => ⟨h, x⟩⟩
    rw [if_pos h, decide_eq_decide.mpr e]
  · rw [if_neg h, decide_eq_false (fun x => h x.1)]
theorem diCommon_ev : ∀ (n : Nat) (a b : Int), 0 ≤ a → 0 ≤ b → b.toNat ≤ n → ∀ k, n < k → spec_diCommon.l0 k a b = some (gI a b)
  | 0, a, b, ha, hb, hn, k, hk => by
    obtain ⟨k, rfl⟩ : ∃ m, k = m + 1 := ⟨k - 1, by omega⟩
    have : b = 0 := by omega
    subst this
    simp only [spec_diCommon.l0]
    rw [if_neg (by omega)]
    unfold gI
    rw [Int.gcd_zero_right]; congr 1; omega
  | n + 1, a, b, ha, hb, hn, k, hk => by
    obtain ⟨k, rfl⟩ : ∃ m, k = m + 1 := ⟨k - 1, by omega⟩
    simp only [spec_diCommon.l0]
    by_cases h0 : b = 0
    · subst h0
      rw [if_neg (by omega)]
      unfold gI
      rw [Int.gcd_zero_right]; congr 1; omega
    · have h1 : 0 ≤ Int.tmod a b := by rw [tmod_nn _ ha]; exact Int.emod_nonneg _ h0
      have h2 : Int.tmod a b < b := by rw [tmod_nn _ ha]; exact Int.emod_lt_of_pos _ (by omega)
      rw [if_pos (by omega), if_neg h0, diCommon_ev n b (Int.tmod a b) hb h1 (by omega) k (by omega), gI_tmod]
theorem diCommon_val {a b : Int} (ha : 0 ≤ a) (hb : 0 ≤ b) : Ev (fun k => spec_diCommon.f k a b) (gI a b) :=
  ⟨b.toNat + 1, fun k hk => diCommon_ev b.toNat a b ha hb (Nat.le_refl _) k (by omega)⟩
theorem diGood_val (a b : Int) : Ev (fun k => spec_diGood.f k a b) (decide (isT a b)) := by
  unfold spec_diGood.f
  simp only [l1In_val, Option.bind_some]
  by_cases h1 : 1 ≤ b ∧ b ≤ 1000000
  · simp only [decide_eq_true h1, if_true]
    rw [wid (x := b - 1) (by omega) (by omega)]
    by_cases h2 : 0 ≤ a ∧ a ≤ b - 1
    · simp only [decide_eq_true h2, if_true]
      refine Ev.bind (diCommon_val h2.1 (by omega)) ?_
      refine ⟨0, fun _ _ => ?_⟩
      unfold isT
      rw [show (gI a b == 1) = decide (gI a b = 1) from Bool.eq_iff_iff.mpr (by simp)]
      simp [h1, h2]
    · simp only [decide_eq_false h2]
      exact ⟨0, fun _ _ => by unfold isT; simp [h2]⟩
  · simp only [decide_eq_false h1]
    exact ⟨0, fun _ _ => by unfold isT; simp [h1]⟩
theorem FnExactIsSeen : laws_FnExactIsSeen.Pure := by
  intro a b c d _ _ _ _
  obtain ⟨K1, h1⟩ := diGood_val a b
  obtain ⟨K2, h2⟩ := diGood_val c d
  refine ⟨max K1 K2, ?_⟩
  have e1 := h1 (max K1 K2) (by omega)
  have e2 := h2 (max K1 K2) (by omega)
  dsimp only at e1 e2
  unfold laws_FnExactIsSeen.f laws_toSeen.f laws_toTurn.f spec_IsSeen.f spec_seGood.f impl_IsSeen.f impl_areTurns.f
  simp only [Option.bind_some]
  rw [e1, e2]
  by_cases ha : isT a b <;> by_cases hb : isT c d <;> simp [ha, hb]

end Go.Proofs.Ytohglnbfpppclaa.Pure
