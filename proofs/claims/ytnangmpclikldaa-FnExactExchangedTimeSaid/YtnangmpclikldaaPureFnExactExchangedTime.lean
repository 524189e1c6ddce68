/- For every dial and time the program's ExchangedTime answers as the reference does; no condition. -/
import Derived.Test.YtnangmpclikldaaPFnExactExchangedTimex7
set_option linter.unusedVariables false
set_option linter.unusedSimpArgs false
namespace Go.Proofs.Ytnangmpclikldaa.Pure
open Go.RowKit Go.Proofs.Ytnangmpclikldaa.PFnExactExchangedTime Go.Proofs.YtnangmpclikldaaW.PrintWords Go.Proofs.YtnangmpclikldaaW.PrintLast Go.Proofs.YtnangmpclikldaaW.PrintMore

theorem l1In_val (a b c : Int) : spec_l1In.f a b c = some (decide (b ≤ a ∧ a ≤ c)) := by
  unfold spec_l1In.f
  by_cases h : a ≥ b
  · have e : (b ≤ a ∧ a ≤ c) ↔ a ≤ c := ⟨fun x => x.2, fun x => ⟨h, x⟩⟩
    rw [if_pos h, decide_eq_decide.mpr e]
  · rw [if_neg h, decide_eq_false (fun x => h x.1)]
theorem diHours_val (h : Int) : spec_diHours.f h = some (decide (2 ≤ h ∧ h ≤ 24)) := by
  unfold spec_diHours.f; rw [l1In_val]; rfl
theorem diCommon_ev : ∀ (n : Nat) (a b : Int), 0 ≤ a → 0 ≤ b → b.toNat ≤ n → ∀ k, n < k → spec_diCommon.l0 k a b = some (gI a b)
  | 0, a, b, ha, hb, hn, k, hk => by
    obtain ⟨k, rfl⟩ : ∃ m, k = m + 1 := ⟨k - 1, by omega⟩
    have : b = 0 := by omega
    subst this
    simp only [spec_diCommon.l0]
    rw [if_neg (by omega)]
    unfold gI
    rw [Int.gcd_zero_right]; congr 1; omega
  | n + 1, a, b, ha, hb, hn, k, hk => by
    obtain ⟨k, rfl⟩ : ∃ m, k = m + 1 := ⟨k - 1, by omega⟩
    simp only [spec_diCommon.l0]
    by_cases h0 : b = 0
    · subst h0
      rw [if_neg (by omega)]
      unfold gI
      rw [Int.gcd_zero_right]; congr 1; omega
    · have h1 : 0 ≤ Int.tmod a b := by rw [tmod_nn _ ha]; exact Int.emod_nonneg _ h0
      have h2 : Int.tmod a b < b := by rw [tmod_nn _ ha]; exact Int.emod_lt_of_pos _ (by omega)
      rw [if_pos (by omega), if_neg h0, diCommon_ev n b (Int.tmod a b) hb h1 (by omega) k (by omega), gI_tmod]
theorem diCommon_val {a b : Int} (ha : 0 ≤ a) (hb : 0 ≤ b) : Ev (fun k => spec_diCommon.f k a b) (gI a b) :=
  ⟨b.toNat + 1, fun k hk => diCommon_ev b.toNat a b ha hb (Nat.le_refl _) k (by omega)⟩
theorem diGood_val (a b : Int) : Ev (fun k => spec_diGood.f k a b) (decide (isT a b)) := by
  unfold spec_diGood.f
  simp only [l1In_val, Option.bind_some]
  by_cases h1 : 1 ≤ b ∧ b ≤ 1000000
  · simp only [decide_eq_true h1, if_true]
    rw [wid (x := b - 1) (by omega) (by omega)]
    by_cases h2 : 0 ≤ a ∧ a ≤ b - 1
    · simp only [decide_eq_true h2, if_true]
      refine Ev.bind (diCommon_val h2.1 (by omega)) ?_
      refine ⟨0, fun _ _ => ?_⟩
      unfold isT
      rw [show (gI a b == 1) = decide (gI a b = 1) from Bool.eq_iff_iff.mpr (by simp)]
      simp [h1, h2]
    · simp only [decide_eq_false h2]
      exact ⟨0, fun _ _ => by unfold isT; simp [h2]⟩
  · simp only [decide_eq_false h1]
    exact ⟨0, fun _ _ => by unfold isT; simp [h1]⟩
def isD (h : Int) : Prop := 2 ≤ h ∧ h ≤ 24
instance (h : Int) : Decidable (isD h) := by unfold isD; exact inferInstance
theorem Ev.and {g : Nat → Option Bool} {p q : Prop} [Decidable p] [Decidable q] (h : Ev g (decide q)) : Ev (fun k => if decide p = true then (g k).bind fun t => some t else some false) (decide (p ∧ q)) := by
  by_cases hp : p
  · simp only [decide_eq_true hp, if_true]
    refine Ev.bind h ⟨0, fun _ _ => ?_⟩
    simp [hp]
  · simp only [decide_eq_false hp]
    exact ⟨0, fun _ _ => by simp [hp]⟩
theorem diAsked_val (h a b : Int) : Ev (fun k => spec_diAsked.f k h a b) (decide (isD h ∧ isT a b)) := by
  unfold spec_diAsked.f
  simp only [diHours_val, Option.bind_some]
  exact Ev.and (diGood_val a b)
theorem isDial_val (h : Int) : impl_isDial.f h = some (decide (2 ≤ h ∧ h ≤ 24)) := by
  unfold impl_isDial.f; rw [within_val]; rfl
theorem isTime_val (h a b : Int) : Ev (fun k => impl_isTime.f k h a b) (decide (isD h ∧ isT a b)) := by
  unfold impl_isTime.f
  simp only [isDial_val, Option.bind_some]
  exact Ev.and (IsTurn_val a b)
/-- What diMake tells of a part in lowest terms: it, if it is a turn. -/
def tell (t : Int × Int) : Int × Int × Bool := if t.2 > 1000000 then (0, 0, false) else (t.1, t.2, true)
theorem norm_mod (n : Int) {d : Int} (hd : 0 < d) : (Int.tmod n d + d) % d = n % d := by
  rw [Int.add_emod_right]
  have e := Int.mul_tdiv_add_tmod n d
  have : n % d = (Int.tmod n d + d * Int.tdiv n d) % d := by rw [Int.add_comm, e]
  rw [this, Int.add_mul_emod_self_left]
theorem diMake_val {n d : Int} (hd : 0 < d) (hb : d ≤ 4611686018427387904) : Ev (fun k => spec_diMake.f k n d) (tell (mkT n d)) := by
  unfold spec_diMake.f
  obtain ⟨t1, t0⟩ := tmod_bd n hd
  have g0 := gI_pos (a := n % d) (show d ≠ 0 by omega)
  have m0 : 0 ≤ n % d := Int.emod_nonneg _ (by omega)
  have m1 : n % d < d := Int.emod_lt_of_pos _ hd
  have q0 : 0 ≤ d / gI (n % d) d := Int.ediv_nonneg (by omega) (by omega)
  have q1 : d / gI (n % d) d ≤ d := Int.ediv_le_self _ (by omega)
  have r0 : 0 ≤ n % d / gI (n % d) d := Int.ediv_nonneg (by omega) (by omega)
  have r1 : n % d / gI (n % d) d ≤ n % d := Int.ediv_le_self _ (by omega)
  simp only [if_neg (show ¬ d = 0 by omega)]
  rw [wid (x := Int.tmod n d + d) (by omega) (by omega), tmod_nn _ (show 0 ≤ Int.tmod n d + d by omega), norm_mod n hd]
  refine Ev.bind (diCommon_val m0 (by omega)) ?_
  rw [if_neg (by omega), tdiv_nn _ m0, tdiv_nn _ (by omega), wid (x := d / gI (n % d) d) (by omega) (by omega), wid (x := n % d / gI (n % d) d) (by omega) (by omega)]
  refine ⟨0, fun _ _ => ?_⟩
  unfold tell mkT
  dsimp only
  split <;> rfl
theorem mkT_small (n : Int) {d : Int} (hd : 0 < d) : (mkT n d).2 ≤ d := Int.le_of_dvd hd (mkT_dvd n)
theorem tell_small (n : Int) {d : Int} (hd : 0 < d) (h : d ≤ 1000000) : tell (mkT n d) = ((mkT n d).1, (mkT n d).2, true) := by
  have := mkT_small n hd
  unfold tell
  rw [if_neg (by omega)]
theorem diTimes_val {a b k : Int} (ha : -1000000000 ≤ a ∧ a ≤ 1000000000) (hb : 0 < b ∧ b ≤ 1000000) (hk : -1000000000 ≤ k ∧ k ≤ 1000000000) : Ev (fun n => spec_diTimes.f n a b k) (mkT (a * k) b) := by
  have e1 := mul_bd ha hk
  unfold spec_diTimes.f
  rw [wid (x := a * k) (by omega) (by omega)]
  refine Ev.bind (diMake_val hb.1 (by omega)) ⟨0, fun _ _ => ?_⟩
  rw [tell_small _ hb.1 hb.2]
theorem isT_bd {a b : Int} (h : isT a b) : (-1000000000 ≤ a ∧ a ≤ 1000000000) ∧ (0 < b ∧ b ≤ 1000000) := by
  obtain ⟨h1, h2, _⟩ := h
  omega
theorem isT_bd9 {a b : Int} (h : isT a b) : (-1000000000 ≤ a ∧ a ≤ 1000000000) ∧ (0 < b ∧ b ≤ 1000000000) := by
  obtain ⟨h1, h2, _⟩ := h
  omega
theorem seTrue_val {h a b : Int} (c d : Int) (hd : 2 ≤ h ∧ h ≤ 24) (ht : isT a b) : Ev (fun k => spec_seTrue.f k h a b c d) ((mkT (a * h) b).1 == c && ((mkT (a * h) b).2 == d)) := by
  unfold spec_seTrue.f
  exact Ev.bind (diTimes_val (isT_bd ht).1 (isT_bd ht).2 (by omega)) ⟨0, fun _ _ => rfl⟩
theorem iIsSeen_val (a b c d : Int) : impl_IsSeen.f a b c d = some (decide (isT a b ∧ isT c d)) := by
  unfold impl_IsSeen.f impl_areTurns.f
  simp only [Option.bind_some, List.all_cons, List.all_nil, Bool.and_true]
  by_cases ha : isT a b <;> by_cases hb : isT c d <;> simp [ha, hb]
theorem isSeenOf_val (h a b c d : Int) : impl_isSeenOf.f h a b c d = some (decide (isD h ∧ (isT a b ∧ isT c d))) := by
  unfold impl_isSeenOf.f
  simp only [isDial_val, iIsSeen_val, Option.bind_some]
  by_cases hd : 2 ≤ h ∧ h ≤ 24
  · simp only [decide_eq_true hd, if_true]
    simp [isD, hd]
  · simp only [decide_eq_false hd]
    simp [isD, hd]
theorem floorDiv_val {n d : Int} (hd : 0 < d) (hb : d ≤ 4611686018427387904) : ∃ q, impl_floorDiv.f n d = some (q, n % d) := by
  unfold impl_floorDiv.f
  obtain ⟨t1, t0⟩ := tmod_bd n hd
  have m0 : 0 ≤ n % d := Int.emod_nonneg _ (by omega)
  have m1 : n % d < d := Int.emod_lt_of_pos _ hd
  have e := Int.mul_tdiv_add_tmod n d
  have e2 : n % d = (Int.tmod n d) % d := by
    have : n % d = (Int.tmod n d + d * Int.tdiv n d) % d := by rw [Int.add_comm, e]
    rw [this, Int.add_mul_emod_self_left]
  rw [if_neg (by omega)]
  by_cases h : Int.tmod n d < 0
  · rw [if_pos h, wid (x := Int.tmod n d + d) (by omega) (by omega)]
    refine ⟨_, congrArg some (Prod.ext rfl ?_)⟩
    rw [e2, ← Int.add_emod_right, Int.emod_eq_of_lt (by omega) (by omega)]
  · rw [if_neg h]
    refine ⟨_, congrArg some (Prod.ext rfl ?_)⟩
    rw [e2, Int.emod_eq_of_lt (by omega) (by omega)]
theorem part_val {n d : Int} (hd : 0 < d) (hb : d ≤ 4611686018427387904) : Ev (fun k => impl_part.f k n d) (mkT n d) := by
  unfold impl_part.f
  have g0 := gI_pos (a := n % d) (show d ≠ 0 by omega)
  have m0 : 0 ≤ n % d := Int.emod_nonneg _ (by omega)
  have m1 : n % d < d := Int.emod_lt_of_pos _ hd
  have q0 : 0 ≤ d / gI (n % d) d := Int.ediv_nonneg (by omega) (by omega)
  have q1 : d / gI (n % d) d ≤ d := Int.ediv_le_self _ (by omega)
  have r0 : 0 ≤ n % d / gI (n % d) d := Int.ediv_nonneg (by omega) (by omega)
  have r1 : n % d / gI (n % d) d ≤ n % d := Int.ediv_le_self _ (by omega)
  obtain ⟨q, hq⟩ := floorDiv_val (n := n) hd hb
  simp only [hq, Option.bind_some]
  refine Ev.bind (igcd_val (by omega) (by omega) (by omega) (by omega)) ?_
  rw [if_neg (by omega), tdiv_nn _ m0, tdiv_nn _ (by omega), wid (x := d / gI (n % d) d) (by omega) (by omega), wid (x := n % d / gI (n % d) d) (by omega) (by omega)]
  exact ⟨0, fun _ _ => rfl⟩
theorem times_val {a b k : Int} (ha : -1000000000 ≤ a ∧ a ≤ 1000000000) (hb : 0 < b ∧ b ≤ 1000000000) (hk : -1000000000 ≤ k ∧ k ≤ 1000000000) : Ev (fun n => impl_Turn_times.f n a b k) (mkT (a * k) b) := by
  have e1 := mul_bd ha hk
  unfold impl_Turn_times.f
  rw [wid (x := a * k) (by omega) (by omega)]
  exact Ev.bind (part_val hb.1 (by omega)) ⟨0, fun _ _ => rfl⟩
theorem isTrue_val {h a b : Int} (c d : Int) (hd : 2 ≤ h ∧ h ≤ 24) (ht : isT a b) : Ev (fun k => impl_isTrue.f k h a b c d) ((mkT (a * h) b).1 == c && ((mkT (a * h) b).2 == d)) := by
  unfold impl_isTrue.f
  exact Ev.bind (times_val (isT_bd9 ht).1 (isT_bd9 ht).2 (by omega)) ⟨0, fun _ _ => rfl⟩
/-- What TimeSeen tells. -/
def timeSeen (h a b c d : Int) : Int × Int × Bool := if (isD h ∧ (isT a b ∧ isT c d)) ∧ ((mkT (a * h) b).1 == c && ((mkT (a * h) b).2 == d)) = true then (a, b, true) else (0, 0, false)
theorem iTimeSeen_val (h a b c d : Int) : Ev (fun k => impl_TimeSeen.f k h a b c d) (timeSeen h a b c d) := by
  unfold impl_TimeSeen.f timeSeen
  simp only [isSeenOf_val, Option.bind_some]
  by_cases hq : isD h ∧ (isT a b ∧ isT c d)
  · simp only [decide_eq_true hq, if_true]
    refine Ev.bind (isTrue_val c d hq.1 hq.2.1) ⟨0, fun _ _ => ?_⟩
    by_cases he : ((mkT (a * h) b).1 == c && ((mkT (a * h) b).2 == d)) = true
    · rw [if_pos he, if_pos ⟨hq, he⟩]
    · rw [if_neg he, if_neg (fun x => he x.2)]
  · simp only [decide_eq_false hq]
    rw [if_neg (fun x => hq x.1)]
    exact ⟨0, fun _ _ => rfl⟩
theorem eqTurn_refl (a b : Int) : laws_eqTurn.f a b a b = some true := by unfold laws_eqTurn.f; rw [if_pos rfl, if_pos rfl]
theorem mkT_isT (n : Int) {d : Int} (hd : 0 < d ∧ d ≤ 1000000) : isT (mkT n d).1 (mkT n d).2 := isT_of_low (mkT_low n hd.1) (by have := mkT_small n hd.1; omega)
theorem both (h a b : Int) : ∃ v, Ev (fun k => spec_ExchangedTime.f k h a b) v ∧ Ev (fun k => impl_ExchangedTime.f k h a b) v := by
  unfold spec_ExchangedTime.f impl_ExchangedTime.f spec_seOf.f spec_seExchange.f impl_Seen_exchanged.f impl_SeenOf.f
  simp only [Option.bind_some]
  by_cases hq : isD h ∧ isT a b
  · obtain ⟨hd, ht⟩ := id hq
    have hh : -1000000000 ≤ h ∧ h ≤ 1000000000 := by unfold isD at hd; omega
    have i2 := mkT_isT (a * h) (isT_bd ht).2
    refine ⟨timeSeen h (mkT (a * h) b).1 (mkT (a * h) b).2 a b, Ev.bind (diAsked_val h a b) ?_, ?_⟩
    · simp only [decide_eq_true hq, if_true]
      refine Ev.bind (Ev.bind (diTimes_val (isT_bd ht).1 (isT_bd ht).2 hh) ⟨0, fun _ _ => rfl⟩) ?_
      refine Ev.bind (seTrue_val a b hd i2) ?_
      unfold timeSeen
      by_cases he : ((mkT ((mkT (a * h) b).1 * h) (mkT (a * h) b).2).1 == a && ((mkT ((mkT (a * h) b).1 * h) (mkT (a * h) b).2).2 == b)) = true
      · simp only [if_pos he, if_pos (show (isD h ∧ isT (mkT (a * h) b).1 (mkT (a * h) b).2 ∧ isT a b) ∧ _ = true from ⟨⟨hd, i2, ht⟩, he⟩)]
        exact Ev.bind (diTimes_val (isT_bd ht).1 (isT_bd ht).2 hh) ⟨0, fun _ _ => rfl⟩
      · simp only [if_neg he, if_neg (show ¬ ((isD h ∧ isT (mkT (a * h) b).1 (mkT (a * h) b).2 ∧ isT a b) ∧ _ = true) from fun x => he x.2)]
        exact ⟨0, fun _ _ => rfl⟩
    · refine Ev.bind (Ev.bind (isTime_val h a b) (a := decide (isD h ∧ isT a b)) (r := (a, b, (mkT (a * h) b).1, (mkT (a * h) b).2, true)) ?_) ?_
      · simp only [decide_eq_true hq, if_true]
        exact Ev.bind (times_val (isT_bd9 ht).1 (isT_bd9 ht).2 hh) ⟨0, fun _ _ => rfl⟩
      · simp only [if_true]
        exact Ev.bind (iTimeSeen_val h _ _ a b) ⟨0, fun _ _ => rfl⟩
  · refine ⟨(0, 0, false), Ev.bind (diAsked_val h a b) ?_, ?_⟩
    · simp only [decide_eq_false hq]; exact ⟨0, fun _ _ => rfl⟩
    · refine Ev.bind (Ev.bind (isTime_val h a b) (a := decide (isD h ∧ isT a b)) (r := (0, 0, 0, 0, false)) ?_) ?_
      · simp only [decide_eq_false hq]; exact ⟨0, fun _ _ => rfl⟩
      · exact ⟨0, fun _ _ => rfl⟩
theorem FnExactExchangedTime : laws_FnExactExchangedTime.Pure := by
  intro h a b _ _ _
  obtain ⟨v, ⟨K1, h1⟩, ⟨K2, h2⟩⟩ := both h a b
  refine ⟨max K1 K2, ?_⟩
  have e1 := h1 (max K1 K2) (by omega)
  have e2 := h2 (max K1 K2) (by omega)
  dsimp only at e1 e2
  unfold laws_FnExactExchangedTime.f laws_toTurn.f
  simp only [Option.bind_some, e1, e2, eqTurn_refl]
  simp

end Go.Proofs.Ytnangmpclikldaa.Pure
