/- For every two parts and turn the program's TurnSeen answers as the reference does; no condition. -/
import Derived.Test.YtjjbockboifcbaaPFnExactTurnSeenx8
set_option linter.unusedVariables false
set_option linter.unusedSimpArgs false
namespace Go.Proofs.Ytjjbockboifcbaa.Pure
open Go.RowKit Go.Proofs.Ytjjbockboifcbaa.PFnExactTurnSeen Go.Proofs.YtjjbockboifcbaaW.PrintWords Go.Proofs.YtjjbockboifcbaaW.PrintLast Go.Proofs.YtjjbockboifcbaaW.PrintMore

theorem Ev.up {α : Type} {g : Nat → Option α} {r : α} (h : Ev (fun k => g (k + 1)) r) : Ev g r := Ev.step (fun _ => rfl) h
theorem l1In_val (a b c : Int) : spec_l1In.f a b c = some (decide (b ≤ a ∧ a ≤ c)) := by
  unfold spec_l1In.f
  by_cases h : a ≥ b
  · have e : (b ≤ a ∧ a ≤ c) ↔ a ≤ c := ⟨fun x => x.2, fun x => ⟨h, x⟩⟩
    rw [if_pos h, decide_eq_decide.mpr e]
  · rw [if_neg h, decide_eq_false (fun x => h x.1)]
theorem diCommon_ev : ∀ (n : Nat) (a b : Int), 0 ≤ a → 0 ≤ b → b.toNat ≤ n → ∀ k, n < k → spec_diCommon.l0 k a b = some (gI a b)
  | 0, a, b, ha, hb, hn, k, hk => by
    obtain ⟨k, rfl⟩ : ∃ m, k = m + 1 := ⟨k - 1, by omega⟩
    have : b = 0 := by omega
    subst this
    simp only [spec_diCommon.l0]
    rw [if_neg (by omega)]
    unfold gI
    rw [Int.gcd_zero_right]; congr 1; omega
  | n + 1, a, b, ha, hb, hn, k, hk => by
    obtain ⟨k, rfl⟩ : ∃ m, k = m + 1 := ⟨k - 1, by omega⟩
    simp only [spec_diCommon.l0]
    by_cases h0 : b = 0
    · subst h0
      rw [if_neg (by omega)]
      unfold gI
      rw [Int.gcd_zero_right]; congr 1; omega
    · have h1 : 0 ≤ Int.tmod a b := by rw [tmod_nn _ ha]; exact Int.emod_nonneg _ h0
      have h2 : Int.tmod a b < b := by rw [tmod_nn _ ha]; exact Int.emod_lt_of_pos _ (by omega)
      rw [if_pos (by omega), if_neg h0, diCommon_ev n b (Int.tmod a b) hb h1 (by omega) k (by omega), gI_tmod]
theorem diCommon_val {a b : Int} (ha : 0 ≤ a) (hb : 0 ≤ b) : Ev (fun k => spec_diCommon.f k a b) (gI a b) :=
  ⟨b.toNat + 1, fun k hk => diCommon_ev b.toNat a b ha hb (Nat.le_refl _) k (by omega)⟩
theorem diGood_val (a b : Int) : Ev (fun k => spec_diGood.f k a b) (decide (isT a b)) := by
  unfold spec_diGood.f
  simp only [l1In_val, Option.bind_some]
  by_cases h1 : 1 ≤ b ∧ b ≤ 1000000
  · simp only [decide_eq_true h1, if_true]
    rw [wid (x := b - 1) (by omega) (by omega)]
    by_cases h2 : 0 ≤ a ∧ a ≤ b - 1
    · simp only [decide_eq_true h2, if_true]
      refine Ev.bind (diCommon_val h2.1 (by omega)) ?_
      refine ⟨0, fun _ _ => ?_⟩
      unfold isT
      rw [show (gI a b == 1) = decide (gI a b = 1) from Bool.eq_iff_iff.mpr (by simp)]
      simp [h1, h2]
    · simp only [decide_eq_false h2]
      exact ⟨0, fun _ _ => by unfold isT; simp [h2]⟩
  · simp only [decide_eq_false h1]
    exact ⟨0, fun _ _ => by unfold isT; simp [h1]⟩
def isD (h : Int) : Prop := 2 ≤ h ∧ h ≤ 24
instance (h : Int) : Decidable (isD h) := by unfold isD; exact inferInstance
theorem Ev.and {g : Nat → Option Bool} {p q : Prop} [Decidable p] [Decidable q] (h : Ev g (decide q)) : Ev (fun k => if decide p = true then (g k).bind fun t => some t else some false) (decide (p ∧ q)) := by
  by_cases hp : p
  · simp only [decide_eq_true hp, if_true]
    refine Ev.bind h ⟨0, fun _ _ => ?_⟩
    simp [hp]
  · simp only [decide_eq_false hp]
    exact ⟨0, fun _ _ => by simp [hp]⟩
theorem seGood_val (a b c d : Int) : Ev (fun k => spec_seGood.f k a b c d) (decide (isT a b ∧ isT c d)) := by
  unfold spec_seGood.f
  refine Ev.bind (diGood_val a b) ?_
  exact Ev.and (diGood_val c d)
/-- What diMake tells of a part in lowest terms: it, if it is a turn. -/
def tell (t : Int × Int) : Int × Int × Bool := if t.2 > 1000000 then (0, 0, false) else (t.1, t.2, true)
theorem norm_mod (n : Int) {d : Int} (hd : 0 < d) : (Int.tmod n d + d) % d = n % d := by
  rw [Int.add_emod_right]
  have e := Int.mul_tdiv_add_tmod n d
  have : n % d = (Int.tmod n d + d * Int.tdiv n d) % d := by rw [Int.add_comm, e]
  rw [this, Int.add_mul_emod_self_left]
theorem diMake_val {n d : Int} (hd : 0 < d) (hb : d ≤ 4611686018427387904) : Ev (fun k => spec_diMake.f k n d) (tell (mkT n d)) := by
  unfold spec_diMake.f
  obtain ⟨t1, t0⟩ := tmod_bd n hd
  have g0 := gI_pos (a := n % d) (show d ≠ 0 by omega)
  have m0 : 0 ≤ n % d := Int.emod_nonneg _ (by omega)
  have m1 : n % d < d := Int.emod_lt_of_pos _ hd
  have q0 : 0 ≤ d / gI (n % d) d := Int.ediv_nonneg (by omega) (by omega)
  have q1 : d / gI (n % d) d ≤ d := Int.ediv_le_self _ (by omega)
  have r0 : 0 ≤ n % d / gI (n % d) d := Int.ediv_nonneg (by omega) (by omega)
  have r1 : n % d / gI (n % d) d ≤ n % d := Int.ediv_le_self _ (by omega)
  simp only [if_neg (show ¬ d = 0 by omega)]
  rw [wid (x := Int.tmod n d + d) (by omega) (by omega), tmod_nn _ (show 0 ≤ Int.tmod n d + d by omega), norm_mod n hd]
  refine Ev.bind (diCommon_val m0 (by omega)) ?_
  rw [if_neg (by omega), tdiv_nn _ m0, tdiv_nn _ (by omega), wid (x := d / gI (n % d) d) (by omega) (by omega), wid (x := n % d / gI (n % d) d) (by omega) (by omega)]
  refine ⟨0, fun _ _ => ?_⟩
  unfold tell mkT
  dsimp only
  split <;> rfl
theorem diAdd_val {a b c d k : Int} (ha : -1000000000 ≤ a ∧ a ≤ 1000000000) (hb : 0 < b ∧ b ≤ 1000000000) (hc : -1000000 ≤ c ∧ c ≤ 1000000) (hk : -1000 ≤ k ∧ k ≤ 1000) (hd : 0 < d ∧ d ≤ 1000000000) : Ev (fun n => spec_diAdd.f n a b c d k) (tell (mkT (a * d + k * c * b) (b * d))) := by
  have e1 := mul_bd (N := 1000000000) ha (y := d) (by omega)
  have e5 := mul_bd (M := 1000) (N := 1000000) (x := k) (y := c) hk hc
  have e2 := mul_bd (M := 1000000000) (N := 1000000000) (x := k * c) (y := b) (by omega) (by omega)
  have e3 := mul_bd (M := 1000000000) (N := 1000000000) (x := b) (y := d) (by omega) (by omega)
  have e4 : 0 < b * d := Int.mul_pos hb.1 hd.1
  unfold spec_diAdd.f
  rw [wid (x := k * c) (by omega) (by omega), wid (x := a * d) (by omega) (by omega), wid (x := k * c * b) (by omega) (by omega), wid (x := b * d) (by omega) (by omega), wid (x := a * d + k * c * b) (by omega) (by omega)]
  exact Ev.bind (diMake_val e4 (by omega)) ⟨0, fun _ _ => rfl⟩
theorem iIsSeen_val (a b c d : Int) : impl_IsSeen.f a b c d = some (decide (isT a b ∧ isT c d)) := by
  unfold impl_IsSeen.f impl_areTurns.f
  simp only [Option.bind_some, List.all_cons, List.all_nil, Bool.and_true]
  by_cases ha : isT a b <;> by_cases hb : isT c d <;> simp [ha, hb]
theorem floorDiv_val {n d : Int} (hd : 0 < d) (hb : d ≤ 4611686018427387904) : ∃ q, impl_floorDiv.f n d = some (q, n % d) := by
  unfold impl_floorDiv.f
  obtain ⟨t1, t0⟩ := tmod_bd n hd
  have m0 : 0 ≤ n % d := Int.emod_nonneg _ (by omega)
  have m1 : n % d < d := Int.emod_lt_of_pos _ hd
  have e := Int.mul_tdiv_add_tmod n d
  have e2 : n % d = (Int.tmod n d) % d := by
    have : n % d = (Int.tmod n d + d * Int.tdiv n d) % d := by rw [Int.add_comm, e]
    rw [this, Int.add_mul_emod_self_left]
  rw [if_neg (by omega)]
  by_cases h : Int.tmod n d < 0
  · rw [if_pos h, wid (x := Int.tmod n d + d) (by omega) (by omega)]
    refine ⟨_, congrArg some (Prod.ext rfl ?_)⟩
    rw [e2, ← Int.add_emod_right, Int.emod_eq_of_lt (by omega) (by omega)]
  · rw [if_neg h]
    refine ⟨_, congrArg some (Prod.ext rfl ?_)⟩
    rw [e2, Int.emod_eq_of_lt (by omega) (by omega)]
theorem part_val {n d : Int} (hd : 0 < d) (hb : d ≤ 4611686018427387904) : Ev (fun k => impl_part.f k n d) (mkT n d) := by
  unfold impl_part.f
  have g0 := gI_pos (a := n % d) (show d ≠ 0 by omega)
  have m0 : 0 ≤ n % d := Int.emod_nonneg _ (by omega)
  have m1 : n % d < d := Int.emod_lt_of_pos _ hd
  have q0 : 0 ≤ d / gI (n % d) d := Int.ediv_nonneg (by omega) (by omega)
  have q1 : d / gI (n % d) d ≤ d := Int.ediv_le_self _ (by omega)
  have r0 : 0 ≤ n % d / gI (n % d) d := Int.ediv_nonneg (by omega) (by omega)
  have r1 : n % d / gI (n % d) d ≤ n % d := Int.ediv_le_self _ (by omega)
  obtain ⟨q, hq⟩ := floorDiv_val (n := n) hd hb
  simp only [hq, Option.bind_some]
  refine Ev.bind (igcd_val (by omega) (by omega) (by omega) (by omega)) ?_
  rw [if_neg (by omega), tdiv_nn _ m0, tdiv_nn _ (by omega), wid (x := d / gI (n % d) d) (by omega) (by omega), wid (x := n % d / gI (n % d) d) (by omega) (by omega)]
  exact ⟨0, fun _ _ => rfl⟩
theorem plus_val {a b c d : Int} (ha : -1000000000 ≤ a ∧ a ≤ 1000000000) (hb : 0 < b ∧ b ≤ 1000000000) (hc : -1000000000 ≤ c ∧ c ≤ 1000000000) (hd : 0 < d ∧ d ≤ 1000000000) : Ev (fun k => impl_Turn_plus.f k a b c d) (mkT (a * d + c * b) (b * d)) := by
  have e1 := mul_bd (N := 1000000000) ha (y := d) (by omega)
  have e2 := mul_bd (N := 1000000000) hc (y := b) (by omega)
  have e3 := mul_bd (M := 1000000000) (N := 1000000000) (x := b) (y := d) (by omega) (by omega)
  have e4 : 0 < b * d := Int.mul_pos hb.1 hd.1
  unfold impl_Turn_plus.f
  rw [wid (x := a * d) (by omega) (by omega), wid (x := c * b) (by omega) (by omega), wid (x := b * d) (by omega) (by omega), wid (x := a * d + c * b) (by omega) (by omega)]
  exact Ev.bind (part_val e4 (by omega)) ⟨0, fun _ _ => rfl⟩
theorem isT_bd {a b : Int} (h : isT a b) : (-1000000000 ≤ a ∧ a ≤ 1000000000) ∧ (0 < b ∧ b ≤ 1000000) := by
  obtain ⟨h1, h2, _⟩ := h
  omega
theorem isT_bd9 {a b : Int} (h : isT a b) : (-1000000000 ≤ a ∧ a ≤ 1000000000) ∧ (0 < b ∧ b ≤ 1000000000) := by
  obtain ⟨h1, h2, _⟩ := h
  omega
theorem eqTurn_refl (a b : Int) : laws_eqTurn.f a b a b = some true := by unfold laws_eqTurn.f; rw [if_pos rfl, if_pos rfl]
theorem eqSeen_refl (a b c d : Int) : laws_eqSeen.f a b c d a b c d = some true := by unfold laws_eqSeen.f; rw [eqTurn_refl, eqTurn_refl]; rfl
/-- What is seen if the dial is turned by e / f. -/
def turnT (a b c d e f : Int) : Int × Int × Int × Int × Bool :=
  if ((isT a b ∧ isT c d) ∧ isT e f) ∧ (mkT (a * f + e * b) (b * f)).2 ≤ 1000000 ∧ (mkT (c * f + e * d) (d * f)).2 ≤ 1000000 then ((mkT (a * f + e * b) (b * f)).1, (mkT (a * f + e * b) (b * f)).2, (mkT (c * f + e * d) (d * f)).1, (mkT (c * f + e * d) (d * f)).2, true) else (0, 0, 0, 0, false)
theorem isT_mk (n : Int) {d : Int} (hd : 0 < d) : isT (mkT n d).1 (mkT n d).2 ↔ (mkT n d).2 ≤ 1000000 := ⟨fun h => h.1.2, fun h => isT_of_low (mkT_low n hd) h⟩
theorem iTurnSeen_val (a b c d e f : Int) : Ev (fun k => impl_TurnSeen.f k a b c d e f) (turnT a b c d e f) := by
  have no : Ev (fun k => impl_TurnSeen.j0 k true a b c d e f) (0, 0, 0, 0, false) := Ev.up ⟨0, fun _ _ => rfl⟩
  unfold impl_TurnSeen.f turnT
  simp only [iIsSeen_val, Option.bind_some]
  by_cases h1 : isT a b ∧ isT c d
  · simp only [decide_eq_true h1, if_true]
    refine Ev.bind (IsTurn_val e f) ?_
    by_cases h2 : isT e f
    · simp only [decide_eq_true h2, Bool.not_true]
      refine Ev.up ?_
      simp only [impl_TurnSeen.j0, Bool.false_eq_true, if_false]
      refine Ev.bind (plus_val (isT_bd9 h1.1).1 (isT_bd9 h1.1).2 (isT_bd9 h2).1 (isT_bd9 h2).2) ?_
      refine Ev.bind (plus_val (isT_bd9 h1.2).1 (isT_bd9 h1.2).2 (isT_bd9 h2).1 (isT_bd9 h2).2) ?_
      simp only [iIsSeen_val, Option.bind_some]
      have p1 : 0 < b * f := Int.mul_pos (isT_bd h1.1).2.1 (isT_bd h2).2.1
      have p2 : 0 < d * f := Int.mul_pos (isT_bd h1.2).2.1 (isT_bd h2).2.1
      refine ⟨0, fun _ _ => ?_⟩
      have q : (isT (mkT (a * f + e * b) (b * f)).1 (mkT (a * f + e * b) (b * f)).2 ∧ isT (mkT (c * f + e * d) (d * f)).1 (mkT (c * f + e * d) (d * f)).2) ↔ ((mkT (a * f + e * b) (b * f)).2 ≤ 1000000 ∧ (mkT (c * f + e * d) (d * f)).2 ≤ 1000000) := by rw [isT_mk _ p1, isT_mk _ p2]
      by_cases h3 : (mkT (a * f + e * b) (b * f)).2 ≤ 1000000 ∧ (mkT (c * f + e * d) (d * f)).2 ≤ 1000000
      · rw [decide_eq_true (q.2 h3), if_pos rfl, if_pos ⟨⟨h1, h2⟩, h3⟩]
      · rw [decide_eq_false (fun x => h3 (q.1 x)), if_neg (by simp), if_neg (fun x => h3 x.2)]
    · simp only [decide_eq_false h2, Bool.not_false]
      rw [if_neg (fun x => h2 x.1.2)]; exact no
  · simp only [decide_eq_false h1]
    rw [if_neg (fun x => h1 x.1.1)]; exact no
theorem sTurnSeen_val (a b c d e f : Int) : Ev (fun k => spec_TurnSeen.f k a b c d e f) (turnT a b c d e f) := by
  have no : Ev (fun k => spec_TurnSeen.j0 k true a b c d e f) (0, 0, 0, 0, false) := Ev.up ⟨0, fun _ _ => rfl⟩
  unfold spec_TurnSeen.f turnT
  refine Ev.bind (seGood_val a b c d) ?_
  by_cases h1 : isT a b ∧ isT c d
  · simp only [decide_eq_true h1, if_true]
    refine Ev.bind (diGood_val e f) ?_
    by_cases h2 : isT e f
    · simp only [decide_eq_true h2, Bool.not_true]
      have b1 := isT_bd9 h1.1
      have b2 := isT_bd9 h1.2
      obtain ⟨⟨_, _⟩, ⟨_, _⟩, _⟩ := id h2
      refine Ev.up ?_
      simp only [spec_TurnSeen.j0, Bool.false_eq_true, if_false]
      refine Ev.bind (diAdd_val b1.1 b1.2 (by omega) (by omega) (by omega)) ?_
      refine Ev.bind (diAdd_val b2.1 b2.2 (by omega) (by omega) (by omega)) ?_
      rw [Int.one_mul]
      refine ⟨0, fun _ _ => ?_⟩
      unfold tell
      by_cases h3 : (mkT (a * f + e * b) (b * f)).2 ≤ 1000000
      · rw [if_neg (show ¬ (mkT (a * f + e * b) (b * f)).2 > 1000000 by omega)]
        by_cases h4 : (mkT (c * f + e * d) (d * f)).2 ≤ 1000000
        · rw [if_neg (show ¬ (mkT (c * f + e * d) (d * f)).2 > 1000000 by omega), if_pos (show ((isT a b ∧ isT c d) ∧ isT e f) ∧ _ ∧ _ from ⟨⟨h1, h2⟩, h3, h4⟩)]
          rfl
        · rw [if_pos (show (mkT (c * f + e * d) (d * f)).2 > 1000000 by omega), if_neg (show ¬ (((isT a b ∧ isT c d) ∧ isT e f) ∧ (mkT (a * f + e * b) (b * f)).2 ≤ 1000000 ∧ (mkT (c * f + e * d) (d * f)).2 ≤ 1000000) from fun x => h4 x.2.2)]
          rfl
      · rw [if_pos (show (mkT (a * f + e * b) (b * f)).2 > 1000000 by omega), if_neg (show ¬ (((isT a b ∧ isT c d) ∧ isT e f) ∧ (mkT (a * f + e * b) (b * f)).2 ≤ 1000000 ∧ (mkT (c * f + e * d) (d * f)).2 ≤ 1000000) from fun x => h3 x.2.1)]
        rfl
    · simp only [decide_eq_false h2, Bool.not_false]
      rw [if_neg (fun x => h2 x.1.2)]; exact no
  · simp only [decide_eq_false h1]
    rw [if_neg (fun x => h1 x.1.1)]; exact no
theorem FnExactTurnSeen : laws_FnExactTurnSeen.Pure := by
  intro a b c d e f _ _ _ _ _ _
  obtain ⟨K1, h1⟩ := sTurnSeen_val a b c d e f
  obtain ⟨K2, h2⟩ := iTurnSeen_val a b c d e f
  refine ⟨max K1 K2, ?_⟩
  have e1 := h1 (max K1 K2) (by omega)
  have e2 := h2 (max K1 K2) (by omega)
  dsimp only at e1 e2
  unfold laws_FnExactTurnSeen.f laws_toSeen.f laws_toTurn.f
  simp only [Option.bind_some, e1, e2, eqSeen_refl]
  simp

end Go.Proofs.Ytjjbockboifcbaa.Pure
