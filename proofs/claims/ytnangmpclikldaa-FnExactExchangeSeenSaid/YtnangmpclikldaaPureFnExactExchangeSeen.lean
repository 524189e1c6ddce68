/- For every two parts the program's ExchangeSeen answers as the reference does; no condition. -/
import Derived.Test.YtnangmpclikldaaPFnExactExchangeSeenx3
set_option linter.unusedVariables false
set_option linter.unusedSimpArgs false
namespace Go.Proofs.Ytnangmpclikldaa.Pure
open Go.RowKit Go.Proofs.Ytnangmpclikldaa.PFnExactExchangeSeen Go.Proofs.YtnangmpclikldaaW.PrintWords Go.Proofs.YtnangmpclikldaaW.PrintLast Go.Proofs.YtnangmpclikldaaW.PrintMore

theorem l1In_val (a b c : Int) : spec_l1In.f a b c = some (decide (b ≤ a ∧ a ≤ c)) := by
  unfold spec_l1In.f
  by_cases h : a ≥ b
  · have e : (b ≤ a ∧ a ≤ c) ↔ a ≤ c := ⟨fun x => x.2, fun x => ⟨h, x⟩⟩
    rw [if_pos h, decide_eq_decide.mpr e]
  · rw [if_neg h, decide_eq_false (fun x => h x.1)]
theorem diCommon_ev : ∀ (n : Nat) (a b : Int), 0 ≤ a → 0 ≤ b → b.toNat ≤ n → ∀ k, n < k → spec_diCommon.l0 k a b = some (gI a b)
  | 0, a, b, ha, hb, hn, k, hk => by
    obtain ⟨k, rfl⟩ : ∃ m, k = m + 1 := ⟨k - 1, by omega⟩
    have : b = 0 := by omega
    subst this
    simp only [spec_diCommon.l0]
    rw [if_neg (by omega)]
    unfold gI
    rw [Int.gcd_zero_right]; congr 1; omega
  | n + 1, a, b, ha, hb, hn, k, hk => by
    obtain ⟨k, rfl⟩ : ∃ m, k = m + 1 := ⟨k - 1, by omega⟩
    simp only [spec_diCommon.l0]
    by_cases h0 : b = 0
    · subst h0
      rw [if_neg (by omega)]
      unfold gI
      rw [Int.gcd_zero_right]; congr 1; omega
    · have h1 : 0 ≤ Int.tmod a b := by rw [tmod_nn _ ha]; exact Int.emod_nonneg _ h0
      have h2 : Int.tmod a b < b := by rw [tmod_nn _ ha]; exact Int.emod_lt_of_pos _ (by omega)
      rw [if_pos (by omega), if_neg h0, diCommon_ev n b (Int.tmod a b) hb h1 (by omega) k (by omega), gI_tmod]
theorem diCommon_val {a b : Int} (ha : 0 ≤ a) (hb : 0 ≤ b) : Ev (fun k => spec_diCommon.f k a b) (gI a b) :=
  ⟨b.toNat + 1, fun k hk => diCommon_ev b.toNat a b ha hb (Nat.le_refl _) k (by omega)⟩
theorem diGood_val (a b : Int) : Ev (fun k => spec_diGood.f k a b) (decide (isT a b)) := by
  unfold spec_diGood.f
  simp only [l1In_val, Option.bind_some]
  by_cases h1 : 1 ≤ b ∧ b ≤ 1000000
  · simp only [decide_eq_true h1, if_true]
    rw [wid (x := b - 1) (by omega) (by omega)]
    by_cases h2 : 0 ≤ a ∧ a ≤ b - 1
    · simp only [decide_eq_true h2, if_true]
      refine Ev.bind (diCommon_val h2.1 (by omega)) ?_
      refine ⟨0, fun _ _ => ?_⟩
      unfold isT
      rw [show (gI a b == 1) = decide (gI a b = 1) from Bool.eq_iff_iff.mpr (by simp)]
      simp [h1, h2]
    · simp only [decide_eq_false h2]
      exact ⟨0, fun _ _ => by unfold isT; simp [h2]⟩
  · simp only [decide_eq_false h1]
    exact ⟨0, fun _ _ => by unfold isT; simp [h1]⟩
def isD (h : Int) : Prop := 2 ≤ h ∧ h ≤ 24
instance (h : Int) : Decidable (isD h) := by unfold isD; exact inferInstance
theorem Ev.and {g : Nat → Option Bool} {p q : Prop} [Decidable p] [Decidable q] (h : Ev g (decide q)) : Ev (fun k => if decide p = true then (g k).bind fun t => some t else some false) (decide (p ∧ q)) := by
  by_cases hp : p
  · simp only [decide_eq_true hp, if_true]
    refine Ev.bind h ⟨0, fun _ _ => ?_⟩
    simp [hp]
  · simp only [decide_eq_false hp]
    exact ⟨0, fun _ _ => by simp [hp]⟩
theorem seGood_val (a b c d : Int) : Ev (fun k => spec_seGood.f k a b c d) (decide (isT a b ∧ isT c d)) := by
  unfold spec_seGood.f
  refine Ev.bind (diGood_val a b) ?_
  exact Ev.and (diGood_val c d)
theorem iIsSeen_val (a b c d : Int) : impl_IsSeen.f a b c d = some (decide (isT a b ∧ isT c d)) := by
  unfold impl_IsSeen.f impl_areTurns.f
  simp only [Option.bind_some, List.all_cons, List.all_nil, Bool.and_true]
  by_cases ha : isT a b <;> by_cases hb : isT c d <;> simp [ha, hb]
theorem eqTurn_refl (a b : Int) : laws_eqTurn.f a b a b = some true := by unfold laws_eqTurn.f; rw [if_pos rfl, if_pos rfl]
theorem eqSeen_refl (a b c d : Int) : laws_eqSeen.f a b c d a b c d = some true := by unfold laws_eqSeen.f; rw [eqTurn_refl, eqTurn_refl]; rfl
theorem both (a b c d : Int) : ∃ v, Ev (fun k => spec_ExchangeSeen.f k a b c d) v ∧ impl_ExchangeSeen.f a b c d = some v := by
  unfold spec_ExchangeSeen.f impl_ExchangeSeen.f spec_seExchange.f impl_Seen_exchanged.f
  simp only [iIsSeen_val, Option.bind_some]
  by_cases hq : isT a b ∧ isT c d
  · refine ⟨(c, d, a, b, true), Ev.bind (seGood_val a b c d) ?_, ?_⟩ <;> simp only [decide_eq_true hq, if_true]
    exact ⟨0, fun _ _ => rfl⟩
  · refine ⟨(0, 0, 0, 0, false), Ev.bind (seGood_val a b c d) ?_, ?_⟩ <;> simp only [decide_eq_false hq] <;> first | rfl | exact ⟨0, fun _ _ => rfl⟩
theorem FnExactExchangeSeen : laws_FnExactExchangeSeen.Pure := by
  intro a b c d _ _ _ _
  obtain ⟨v, ⟨K1, h1⟩, e2⟩ := both a b c d
  refine ⟨K1, ?_⟩
  have e1 := h1 K1 (by omega)
  dsimp only at e1
  unfold laws_FnExactExchangeSeen.f laws_toSeen.f laws_toTurn.f
  simp only [Option.bind_some, e1, e2, eqSeen_refl]
  simp

end Go.Proofs.Ytnangmpclikldaa.Pure
