/- Over all bytes: of the clocks, spans and turns that are drawn of them, what a clock shows is the true time and by how much it is ahead, and it is right at the told times and not before; no condition. -/
import Derived.Test.YtbcpdgiinebnaaaVFnClocksDrift
import Derived.Test.YtbcpdgiinebnaaaPFnClocksDriftx25
set_option linter.unusedVariables false
set_option linter.unusedSimpArgs false
namespace Go.Proofs.Ytbcpdgiinebnaaa.Pure
open Go.RowKit Go.Proofs.Ytbcpdgiinebnaaa.PFnClocksDrift Go.Proofs.YtbcpdgiinebnaaaW.PrintWords Go.Proofs.YtbcpdgiinebnaaaW.PrintLast Go.Proofs.YtbcpdgiinebnaaaW.PrintMore

theorem Ev.up {α : Type} {g : Nat → Option α} {r : α} (h : Ev (fun k => g (k + 1)) r) : Ev g r := Ev.step (fun _ => rfl) h
/-- A clock. -/
def isC (a b c d : Int) : Prop := isT a b ∧ b ≤ 1000 ∧ (1 ≤ c ∧ c ≤ 1000) ∧ (1 ≤ d ∧ d ≤ 1000) ∧ gI c d = 1
instance (a b c d : Int) : Decidable (isC a b c d) := by unfold isC; exact inferInstance
theorem isC_bd {a b c d : Int} (h : isC a b c d) : (0 ≤ a ∧ a < b) ∧ (1 ≤ b ∧ b ≤ 1000) ∧ (1 ≤ c ∧ c ≤ 1000) ∧ (1 ≤ d ∧ d ≤ 1000) := by
  obtain ⟨⟨h1, h2, _⟩, h3, h4, h5, _⟩ := h
  omega
theorem IsClock_val (a b c d : Int) : Ev (fun k => impl_IsClock.f k a b c d) (decide (isC a b c d)) := by
  unfold impl_IsClock.f
  refine Ev.bind (IsTurn_val a b) ?_
  by_cases h1 : isT a b
  · simp only [decide_eq_true h1, if_true]
    by_cases h2 : b ≤ 1000
    · simp only [if_pos h2, within_val, Option.bind_some]
      by_cases h3 : 1 ≤ c ∧ c ≤ 1000
      · simp only [decide_eq_true h3, if_true]
        by_cases h4 : 1 ≤ d ∧ d ≤ 1000
        · simp only [decide_eq_true h4, if_true]
          refine Ev.bind (igcd_val (by omega) (by omega) (by omega) (by omega)) ⟨0, fun _ _ => ?_⟩
          unfold isC
          rw [show (gI c d == 1) = decide (gI c d = 1) from Bool.eq_iff_iff.mpr (by simp)]
          simp [h1, h2, h3, h4]
        · simp only [decide_eq_false h4]
          exact ⟨0, fun _ _ => by unfold isC; simp [h4]⟩
      · simp only [decide_eq_false h3]
        exact ⟨0, fun _ _ => by unfold isC; simp [h3]⟩
    · simp only [if_neg h2]
      exact ⟨0, fun _ _ => by unfold isC; simp [h2]⟩
  · simp only [decide_eq_false h1]
    exact ⟨0, fun _ _ => by unfold isC; simp [h1]⟩
/-- A span. -/
def isS (a b : Int) : Prop := (0 ≤ a ∧ a ≤ 1000000) ∧ (1 ≤ b ∧ b ≤ 10000) ∧ gI a b = 1
instance (a b : Int) : Decidable (isS a b) := by unfold isS; exact inferInstance
/-- A span in lowest terms, if it is one. -/
def spanT (n d : Int) : Int × Int × Bool := if isS (n / gI n d) (d / gI n d) then (n / gI n d, d / gI n d, true) else (0, 0, false)
theorem isS_bd {a b : Int} (h : isS a b) : (0 ≤ a ∧ a ≤ 1000000) ∧ (1 ≤ b ∧ b ≤ 10000) := ⟨h.1, h.2.1⟩
theorem IsSpan_val (a b : Int) : Ev (fun k => impl_IsSpan.f k a b) (decide (isS a b)) := by
  unfold impl_IsSpan.f
  simp only [within_val, Option.bind_some]
  by_cases h1 : 0 ≤ a ∧ a ≤ 1000000
  · simp only [decide_eq_true h1, if_true]
    by_cases h2 : 1 ≤ b ∧ b ≤ 10000
    · simp only [decide_eq_true h2, if_true]
      refine Ev.bind (igcd_val (by omega) (by omega) (by omega) (by omega)) ⟨0, fun _ _ => ?_⟩
      unfold isS
      rw [show (gI a b == 1) = decide (gI a b = 1) from Bool.eq_iff_iff.mpr (by simp)]
      simp [h1, h2]
    · simp only [decide_eq_false h2]
      exact ⟨0, fun _ _ => by unfold isS; simp [h2]⟩
  · simp only [decide_eq_false h1]
    exact ⟨0, fun _ _ => by unfold isS; simp [h1]⟩
theorem floorDiv_val {n d : Int} (hd : 0 < d) (hb : d ≤ 4611686018427387904) : ∃ q, impl_floorDiv.f n d = some (q, n % d) := by
  unfold impl_floorDiv.f
  obtain ⟨t1, t0⟩ := tmod_bd n hd
  have m0 : 0 ≤ n % d := Int.emod_nonneg _ (by omega)
  have m1 : n % d < d := Int.emod_lt_of_pos _ hd
  have e := Int.mul_tdiv_add_tmod n d
  have e2 : n % d = (Int.tmod n d) % d := by
    have : n % d = (Int.tmod n d + d * Int.tdiv n d) % d := by rw [Int.add_comm, e]
    rw [this, Int.add_mul_emod_self_left]
  rw [if_neg (by omega)]
  by_cases h : Int.tmod n d < 0
  · rw [if_pos h, wid (x := Int.tmod n d + d) (by omega) (by omega)]
    refine ⟨_, congrArg some (Prod.ext rfl ?_)⟩
    rw [e2, ← Int.add_emod_right, Int.emod_eq_of_lt (by omega) (by omega)]
  · rw [if_neg h]
    refine ⟨_, congrArg some (Prod.ext rfl ?_)⟩
    rw [e2, Int.emod_eq_of_lt (by omega) (by omega)]
theorem part_val {n d : Int} (hd : 0 < d) (hb : d ≤ 4611686018427387904) : Ev (fun k => impl_part.f k n d) (mkT n d) := by
  unfold impl_part.f
  have g0 := gI_pos (a := n % d) (show d ≠ 0 by omega)
  have m0 : 0 ≤ n % d := Int.emod_nonneg _ (by omega)
  have m1 : n % d < d := Int.emod_lt_of_pos _ hd
  have q0 : 0 ≤ d / gI (n % d) d := Int.ediv_nonneg (by omega) (by omega)
  have q1 : d / gI (n % d) d ≤ d := Int.ediv_le_self _ (by omega)
  have r0 : 0 ≤ n % d / gI (n % d) d := Int.ediv_nonneg (by omega) (by omega)
  have r1 : n % d / gI (n % d) d ≤ n % d := Int.ediv_le_self _ (by omega)
  obtain ⟨q, hq⟩ := floorDiv_val (n := n) hd hb
  simp only [hq, Option.bind_some]
  refine Ev.bind (igcd_val (by omega) (by omega) (by omega) (by omega)) ?_
  rw [if_neg (by omega), tdiv_nn _ m0, tdiv_nn _ (by omega), wid (x := d / gI (n % d) d) (by omega) (by omega), wid (x := n % d / gI (n % d) d) (by omega) (by omega)]
  exact ⟨0, fun _ _ => rfl⟩
theorem plus_val {a b c d : Int} (ha : -1000000000 ≤ a ∧ a ≤ 1000000000) (hb : 0 < b ∧ b ≤ 1000000000) (hc : -1000000000 ≤ c ∧ c ≤ 1000000000) (hd : 0 < d ∧ d ≤ 1000000000) : Ev (fun k => impl_Turn_plus.f k a b c d) (mkT (a * d + c * b) (b * d)) := by
  have e1 := mul_bd (N := 1000000000) ha (y := d) (by omega)
  have e2 := mul_bd (N := 1000000000) hc (y := b) (by omega)
  have e3 := mul_bd (M := 1000000000) (N := 1000000000) (x := b) (y := d) (by omega) (by omega)
  have e4 : 0 < b * d := Int.mul_pos hb.1 hd.1
  unfold impl_Turn_plus.f
  rw [wid (x := a * d) (by omega) (by omega), wid (x := c * b) (by omega) (by omega), wid (x := b * d) (by omega) (by omega), wid (x := a * d + c * b) (by omega) (by omega)]
  exact Ev.bind (part_val e4 (by omega)) ⟨0, fun _ _ => rfl⟩
theorem l1In_val (a b c : Int) : spec_l1In.f a b c = some (decide (b ≤ a ∧ a ≤ c)) := by
  unfold spec_l1In.f
  by_cases h : a ≥ b
  · have e : (b ≤ a ∧ a ≤ c) ↔ a ≤ c := ⟨fun x => x.2, fun x => ⟨h, x⟩⟩
    rw [if_pos h, decide_eq_decide.mpr e]
  · rw [if_neg h, decide_eq_false (fun x => h x.1)]
theorem diCommon_ev : ∀ (n : Nat) (a b : Int), 0 ≤ a → 0 ≤ b → b.toNat ≤ n → ∀ k, n < k → spec_diCommon.l0 k a b = some (gI a b)
  | 0, a, b, ha, hb, hn, k, hk => by
    obtain ⟨k, rfl⟩ : ∃ m, k = m + 1 := ⟨k - 1, by omega⟩
    have : b = 0 := by omega
    subst this
    simp only [spec_diCommon.l0]
    rw [if_neg (by omega)]
    unfold gI
    rw [Int.gcd_zero_right]; congr 1; omega
  | n + 1, a, b, ha, hb, hn, k, hk => by
    obtain ⟨k, rfl⟩ : ∃ m, k = m + 1 := ⟨k - 1, by omega⟩
    simp only [spec_diCommon.l0]
    by_cases h0 : b = 0
    · subst h0
      rw [if_neg (by omega)]
      unfold gI
      rw [Int.gcd_zero_right]; congr 1; omega
    · have h1 : 0 ≤ Int.tmod a b := by rw [tmod_nn _ ha]; exact Int.emod_nonneg _ h0
      have h2 : Int.tmod a b < b := by rw [tmod_nn _ ha]; exact Int.emod_lt_of_pos _ (by omega)
      rw [if_pos (by omega), if_neg h0, diCommon_ev n b (Int.tmod a b) hb h1 (by omega) k (by omega), gI_tmod]
theorem diCommon_val {a b : Int} (ha : 0 ≤ a) (hb : 0 ≤ b) : Ev (fun k => spec_diCommon.f k a b) (gI a b) :=
  ⟨b.toNat + 1, fun k hk => diCommon_ev b.toNat a b ha hb (Nat.le_refl _) k (by omega)⟩
theorem diGood_val (a b : Int) : Ev (fun k => spec_diGood.f k a b) (decide (isT a b)) := by
  unfold spec_diGood.f
  simp only [l1In_val, Option.bind_some]
  by_cases h1 : 1 ≤ b ∧ b ≤ 1000000
  · simp only [decide_eq_true h1, if_true]
    rw [wid (x := b - 1) (by omega) (by omega)]
    by_cases h2 : 0 ≤ a ∧ a ≤ b - 1
    · simp only [decide_eq_true h2, if_true]
      refine Ev.bind (diCommon_val h2.1 (by omega)) ?_
      refine ⟨0, fun _ _ => ?_⟩
      unfold isT
      rw [show (gI a b == 1) = decide (gI a b = 1) from Bool.eq_iff_iff.mpr (by simp)]
      simp [h1, h2]
    · simp only [decide_eq_false h2]
      exact ⟨0, fun _ _ => by unfold isT; simp [h2]⟩
  · simp only [decide_eq_false h1]
    exact ⟨0, fun _ _ => by unfold isT; simp [h1]⟩
theorem drClock_val (a b c d : Int) : Ev (fun k => spec_drClock.f k a b c d) (decide (isC a b c d)) := by
  unfold spec_drClock.f
  refine Ev.bind (diGood_val a b) ?_
  by_cases h1 : isT a b
  · simp only [decide_eq_true h1, if_true]
    by_cases h2 : b ≤ 1000
    · simp only [if_pos h2, l1In_val, Option.bind_some]
      by_cases h3 : 1 ≤ c ∧ c ≤ 1000
      · simp only [decide_eq_true h3, if_true]
        by_cases h4 : 1 ≤ d ∧ d ≤ 1000
        · simp only [decide_eq_true h4, if_true]
          refine Ev.bind (diCommon_val (by omega) (by omega)) ⟨0, fun _ _ => ?_⟩
          unfold isC
          rw [show (gI c d == 1) = decide (gI c d = 1) from Bool.eq_iff_iff.mpr (by simp)]
          simp [h1, h2, h3, h4]
        · simp only [decide_eq_false h4]
          exact ⟨0, fun _ _ => by unfold isC; simp [h4]⟩
      · simp only [decide_eq_false h3]
        exact ⟨0, fun _ _ => by unfold isC; simp [h3]⟩
    · simp only [if_neg h2]
      exact ⟨0, fun _ _ => by unfold isC; simp [h2]⟩
  · simp only [decide_eq_false h1]
    exact ⟨0, fun _ _ => by unfold isC; simp [h1]⟩
theorem drGood_val (a b : Int) : Ev (fun k => spec_drGood.f k a b) (decide (isS a b)) := by
  unfold spec_drGood.f
  simp only [l1In_val, Option.bind_some]
  by_cases h1 : 0 ≤ a ∧ a ≤ 1000000
  · simp only [decide_eq_true h1, if_true]
    by_cases h2 : 1 ≤ b ∧ b ≤ 10000
    · simp only [decide_eq_true h2, if_true]
      refine Ev.bind (diCommon_val h1.1 (by omega)) ⟨0, fun _ _ => ?_⟩
      unfold isS
      rw [show (gI a b == 1) = decide (gI a b = 1) from Bool.eq_iff_iff.mpr (by simp)]
      simp [h1, h2]
    · simp only [decide_eq_false h2]
      exact ⟨0, fun _ _ => by unfold isS; simp [h2]⟩
  · simp only [decide_eq_false h1]
    exact ⟨0, fun _ _ => by unfold isS; simp [h1]⟩
/-- What diMake tells of a part in lowest terms: it, if it is a turn. -/
def tell (t : Int × Int) : Int × Int × Bool := if t.2 > 1000000 then (0, 0, false) else (t.1, t.2, true)
theorem norm_mod (n : Int) {d : Int} (hd : 0 < d) : (Int.tmod n d + d) % d = n % d := by
  rw [Int.add_emod_right]
  have e := Int.mul_tdiv_add_tmod n d
  have : n % d = (Int.tmod n d + d * Int.tdiv n d) % d := by rw [Int.add_comm, e]
  rw [this, Int.add_mul_emod_self_left]
theorem diMake_val {n d : Int} (hd : 0 < d) (hb : d ≤ 4611686018427387904) : Ev (fun k => spec_diMake.f k n d) (tell (mkT n d)) := by
  unfold spec_diMake.f
  obtain ⟨t1, t0⟩ := tmod_bd n hd
  have g0 := gI_pos (a := n % d) (show d ≠ 0 by omega)
  have m0 : 0 ≤ n % d := Int.emod_nonneg _ (by omega)
  have m1 : n % d < d := Int.emod_lt_of_pos _ hd
  have q0 : 0 ≤ d / gI (n % d) d := Int.ediv_nonneg (by omega) (by omega)
  have q1 : d / gI (n % d) d ≤ d := Int.ediv_le_self _ (by omega)
  have r0 : 0 ≤ n % d / gI (n % d) d := Int.ediv_nonneg (by omega) (by omega)
  have r1 : n % d / gI (n % d) d ≤ n % d := Int.ediv_le_self _ (by omega)
  simp only [if_neg (show ¬ d = 0 by omega)]
  rw [wid (x := Int.tmod n d + d) (by omega) (by omega), tmod_nn _ (show 0 ≤ Int.tmod n d + d by omega), norm_mod n hd]
  refine Ev.bind (diCommon_val m0 (by omega)) ?_
  rw [if_neg (by omega), tdiv_nn _ m0, tdiv_nn _ (by omega), wid (x := d / gI (n % d) d) (by omega) (by omega), wid (x := n % d / gI (n % d) d) (by omega) (by omega)]
  refine ⟨0, fun _ _ => ?_⟩
  unfold tell mkT
  dsimp only
  split <;> rfl
/-! tmath2: sums and multiples of parts, one of the other -/
theorem mkT_sp (n : Int) {d : Int} (hd : 0 < d) : ∃ m, (mkT n d).1 * d = (mkT n d).2 * n + (mkT n d).2 * d * m := by
  have e := mkT_eq n hd
  have em := Int.mul_ediv_add_emod n d
  refine ⟨-(n / d), ?_⟩
  rw [e]
  generalize (mkT n d).2 = q
  have : n % d = n - d * (n / d) := by omega
  rw [this]
  grind
theorem mkT_pos (n : Int) {d : Int} (hd : 0 < d) : 0 < (mkT n d).2 := (mkT_low n hd).1
theorem mkT_mul (n k : Int) {d : Int} (hd : 0 < d) : mkT ((mkT n d).1 * k) (mkT n d).2 = mkT (n * k) d := by
  obtain ⟨m, h⟩ := mkT_sp n hd
  refine mkT_congr (m := m * k) (mkT_pos n hd) hd ?_
  grind
theorem mkT_add (n n' : Int) {d d' : Int} (hd : 0 < d) (hd' : 0 < d') : mkT ((mkT n d).1 * (mkT n' d').2 + (mkT n' d').1 * (mkT n d).2) ((mkT n d).2 * (mkT n' d').2) = mkT (n * d' + n' * d) (d * d') := by
  obtain ⟨m, h⟩ := mkT_sp n hd
  obtain ⟨m', h'⟩ := mkT_sp n' hd'
  refine mkT_congr (m := m + m') (Int.mul_pos (mkT_pos n hd) (mkT_pos n' hd')) (Int.mul_pos hd hd') ?_
  grind
theorem mkT_add_l (n p' : Int) {d q' : Int} (hd : 0 < d) (hq : 0 < q') : mkT ((mkT n d).1 * q' + p' * (mkT n d).2) ((mkT n d).2 * q') = mkT (n * q' + p' * d) (d * q') := by
  obtain ⟨m, h⟩ := mkT_sp n hd
  refine mkT_congr (m := m) (Int.mul_pos (mkT_pos n hd) hq) (Int.mul_pos hd hq) ?_
  grind
theorem mkT_add_r (n' p : Int) {d' q : Int} (hq : 0 < q) (hd' : 0 < d') : mkT (p * (mkT n' d').2 + (mkT n' d').1 * q) (q * (mkT n' d').2) = mkT (p * d' + n' * q) (q * d') := by
  obtain ⟨m, h⟩ := mkT_sp n' hd'
  refine mkT_congr (m := m) (Int.mul_pos hq (mkT_pos n' hd')) (Int.mul_pos hq hd') ?_
  grind
theorem mkT_sub_l (n p' : Int) {d q' : Int} (hd : 0 < d) (hq : 0 < q') : mkT ((mkT n d).1 * q' - p' * (mkT n d).2) ((mkT n d).2 * q') = mkT (n * q' - p' * d) (d * q') := by
  obtain ⟨m, h⟩ := mkT_sp n hd
  refine mkT_congr (m := m) (Int.mul_pos (mkT_pos n hd) hq) (Int.mul_pos hd hq) ?_
  grind
theorem mkT_sub_r (n' p : Int) {d' q : Int} (hq : 0 < q) (hd' : 0 < d') : mkT (p * (mkT n' d').2 - (mkT n' d').1 * q) (q * (mkT n' d').2) = mkT (p * d' - n' * q) (q * d') := by
  obtain ⟨m, h⟩ := mkT_sp n' hd'
  refine mkT_congr (m := -m) (Int.mul_pos hq (mkT_pos n' hd')) (Int.mul_pos hq hd') ?_
  grind
theorem mkT_cross {n d n' d' : Int} (hd : 0 < d) (hd' : 0 < d') (e : n * d' = n' * d) : mkT n d = mkT n' d' := mkT_congr (m := 0) hd hd' (by rw [e, Int.mul_zero, Int.add_zero])
/-- Twice mirrored. -/
theorem mirror_mirror {p q : Int} (h : low p q) : mkT ((mkT (p * (-1)) q).1 * (-1)) (mkT (p * (-1)) q).2 = (p, q) := by
  rw [mkT_mul _ _ h.1, show p * -1 * -1 = p by omega, mkT_self h]
/-! addmath: what is added is taken away again; multiples and parts -/
theorem mkT_zero {d : Int} (hd : 0 < d) : mkT 0 d = (0, 1) := mkT_of (m := 0) hd ⟨by decide, by decide, by decide, rfl⟩ (by omega)
theorem back_of {p q r s : Int} (h : low p q) (hs : 0 < s) :
    mkT ((mkT (p * s + r * q) (q * s)).1 * s - r * (mkT (p * s + r * q) (q * s)).2) ((mkT (p * s + r * q) (q * s)).2 * s) = (p, q) := by
  rw [mkT_sub_l _ _ (Int.mul_pos h.1 hs) hs, ← mkT_self h]
  refine mkT_cross (Int.mul_pos (Int.mul_pos h.1 hs) hs) h.1 ?_
  grind
theorem none_of {p q : Int} (hq : 0 < q) : mkT (p * (mkT (p * (-1)) q).2 + (mkT (p * (-1)) q).1 * q) (q * (mkT (p * (-1)) q).2) = (0, 1) := by
  rw [mkT_add_r _ _ hq hq, ← mkT_zero (Int.mul_pos hq hq)]
  refine mkT_cross (Int.mul_pos hq hq) (Int.mul_pos hq hq) ?_
  grind
theorem add_comm_of (p q r s : Int) : mkT (r * q + p * s) (s * q) = mkT (p * s + r * q) (q * s) := by rw [Int.add_comm, Int.mul_comm s q]
theorem whole_of {p q k : Int} (h : low p q) (hk : 0 < k) : mkT ((mkT p (q * k)).1 * k) (mkT p (q * k)).2 = (p, q) := by
  rw [mkT_mul _ _ (Int.mul_pos h.1 hk), ← mkT_self h]
  refine mkT_cross (Int.mul_pos h.1 hk) h.1 ?_
  grind
theorem part_small {p q k : Int} (h : low p q) (hk : 0 < k) : (mkT p (q * k)).1 * k < (mkT p (q * k)).2 := by
  have hd := Int.mul_pos h.1 hk
  have e := mkT_eq p hd
  have l := mkT_low p hd
  have h1 : p % (q * k) = p := by
    refine Int.emod_eq_of_lt h.2.1 (Int.lt_of_lt_of_le h.2.2.1 ?_)
    have := Int.mul_le_mul_of_nonneg_left (show 1 ≤ k by omega) (Int.le_of_lt h.1)
    omega
  rw [h1] at e
  generalize (mkT p (q * k)).1 = x at e l
  generalize (mkT p (q * k)).2 = y at e l
  have h2 : y * p < y * q := Int.mul_lt_mul_of_pos_left h.2.2.1 l.1
  refine Int.lt_of_mul_lt_mul_right (a := q) ?_ (Int.le_of_lt h.1)
  rw [show x * k * q = x * (q * k) by grind, e]
  exact h2
theorem made_mod (n : Int) {d : Int} (hd : 0 < d) : d % (mkT n d).2 = 0 ∧ (n - (mkT n d).1 * (d / (mkT n d).2)) % d = 0 := by
  have e := mkT_eq n hd
  have l := mkT_low n hd
  obtain ⟨g, hg⟩ := mkT_dvd n (d := d)
  have em := Int.mul_ediv_add_emod n d
  refine ⟨Int.emod_eq_zero_of_dvd ⟨g, hg⟩, ?_⟩
  generalize (mkT n d).1 = x at *
  generalize (mkT n d).2 = y at *
  have y0 : 0 < y := l.1
  have h1 : d / y = g := Int.ediv_eq_of_eq_mul_right (by omega) hg
  have h2 : x * g = n % d := by
    refine Int.eq_of_mul_eq_mul_right (a := y) (by omega) ?_
    rw [show x * g * y = x * (y * g) by grind, ← hg, e, Int.mul_comm]
  rw [h1, h2]
  exact Int.emod_eq_zero_of_dvd ⟨n / d, by omega⟩
/-! driftmath: what a clock shows, and when -/
theorem shown_cross {a b n t d s : Int} (hb : 0 < b) (ht : 0 < t) (hd : 0 < d) :
    mkT (a * (mkT (s * n) (t * d)).2 + (mkT (s * n) (t * d)).1 * b) (b * (mkT (s * n) (t * d)).2) = mkT (s * n * b + a * (t * d)) (t * d * b) := by
  have h1 := Int.mul_pos ht hd
  rw [mkT_add_r _ _ hb h1]
  refine mkT_cross (Int.mul_pos hb h1) (Int.mul_pos h1 hb) ?_
  grind
/-- The true time and by how much it is ahead: what it shows. -/
theorem sum_of {a b n t d s : Int} (hb : 0 < b) (ht : 0 < t) (hd : 0 < d) :
    mkT ((mkT s t).1 * (mkT (s * (n - d) * b + a * (t * d)) (t * d * b)).2 + (mkT (s * (n - d) * b + a * (t * d)) (t * d * b)).1 * (mkT s t).2) ((mkT s t).2 * (mkT (s * (n - d) * b + a * (t * d)) (t * d * b)).2) = mkT (s * n * b + a * (t * d)) (t * d * b) := by
  have h1 := Int.mul_pos ht hd
  have h2 := Int.mul_pos h1 hb
  rw [mkT_add _ _ ht h2]
  refine mkT_cross (Int.mul_pos ht h2) h2 ?_
  grind
/-- Set right, it is right. -/
theorem set_none {t d s n : Int} (ht : 0 < t) (hd : 0 < d) {p q : Int} (e : mkT (s * (d - n)) (t * d) = (p, q)) :
    mkT (s * (n - d) * q + p * (t * d)) (t * d * q) = (0, 1) := by
  have h1 := Int.mul_pos ht hd
  have hq : 0 < q := by have := mkT_pos (s * (d - n)) h1; rw [e] at this; exact this
  obtain ⟨m, h⟩ := mkT_sp (s * (d - n)) h1
  rw [e] at h
  dsimp only at h
  rw [← mkT_zero (Int.mul_pos h1 hq)]
  refine mkT_congr (m := m) (Int.mul_pos h1 hq) (Int.mul_pos h1 hq) ?_
  grind
/-- Behind a span of W / b parts of the gain it is right. -/
theorem ahead_none {a b d g x y W m : Int} (hb : 0 < b) (hd : 0 < d) (hy : 0 < y) (e : x * g * b = y * W * d) (hw : a + W = b * m) :
    mkT (x * g * b + a * (y * d)) (y * d * b) = (0, 1) := by
  have h1 := Int.mul_pos (Int.mul_pos hy hd) hb
  rw [← mkT_zero h1]
  refine mkT_congr (m := m) h1 h1 ?_
  grind
theorem shows {a b n d x y t1 t2 w1 w2 : Int} (hb : 0 < b) (hd : 0 < d) (hn : 0 < n) (hy : 0 < y) (ht : low t1 t2) (hw : mkT (t1 * b - a * t2) (t2 * b) = (w1, w2)) (e : x * (w2 * n) = y * (w1 * d)) :
    mkT (x * n * b + a * (y * d)) (y * d * b) = (t1, t2) := by
  have h1 := Int.mul_pos hy hd
  have h2 := Int.mul_pos ht.1 hb
  have hq : 0 < w2 := by have := mkT_pos (t1 * b - a * t2) h2; rw [hw] at this; exact this
  obtain ⟨m, h⟩ := mkT_sp (t1 * b - a * t2) h2
  rw [hw] at h
  dsimp only at h
  rw [← mkT_self ht]
  refine mkT_congr (m := m) (Int.mul_pos h1 hb) ht.1 ?_
  refine Int.eq_of_mul_eq_mul_right (a := w2 * b) (Int.ne_of_gt (Int.mul_pos hq hb)) ?_
  grind
/-! shownafter: what a clock shows, and by how much it is ahead -/
theorem isT_iff (n : Int) {d : Int} (hd : 0 < d) : isT (mkT n d).1 (mkT n d).2 ↔ (mkT n d).2 ≤ 1000000 := ⟨fun h => h.1.2, fun h => isT_of_low (mkT_low n hd) h⟩
theorem ifTurn_mk (n : Int) {d : Int} (hd : 0 < d) : Ev (fun k => impl_ifTurn.f k (mkT n d).1 (mkT n d).2) (tell (mkT n d)) := by
  unfold impl_ifTurn.f tell
  refine Ev.bind (IsTurn_val _ _) ?_
  by_cases h : (mkT n d).2 > 1000000
  · rw [if_pos h, decide_eq_false (fun x => by have := (isT_iff n hd).1 x; omega)]
    exact ⟨0, fun _ _ => rfl⟩
  · rw [if_neg h, decide_eq_true ((isT_iff n hd).2 (by omega))]
    exact ⟨0, fun _ _ => rfl⟩
/-- What a clock shows, its rate told as num / d. -/
def seenT (a b c d s t num : Int) : Int × Int × Bool := if isC a b c d ∧ isS s t then tell (mkT (s * num * b + a * (t * d)) (t * d * b)) else (0, 0, false)
theorem see_bd {a b c d s t num : Int} (h : isC a b c d) (h' : isS s t) (hn : -1000 ≤ num ∧ num ≤ 1000) : (-1000000000 ≤ s * num ∧ s * num ≤ 1000000000) ∧ (0 < t * d ∧ t * d ≤ 10000000) ∧ (-1000000000000 ≤ s * num * b ∧ s * num * b ≤ 1000000000000) ∧ (-10000000000 ≤ a * (t * d) ∧ a * (t * d) ≤ 10000000000) ∧ (0 < t * d * b ∧ t * d * b ≤ 10000000000) := by
  obtain ⟨h1, h2, h3, h4⟩ := isC_bd h
  obtain ⟨k1, k2⟩ := isS_bd h'
  have m1 := mul_bd (M := 1000000) (N := 1000) (x := s) (y := num) (by omega) (by omega)
  have m2 := mul_bd (M := 10000) (N := 1000) (x := t) (y := d) (by omega) (by omega)
  have m3 := mul_bd (M := 1000000000) (N := 1000) (x := s * num) (y := b) (by omega) (by omega)
  have m4 := mul_bd (M := 1000) (N := 10000000) (x := a) (y := t * d) (by omega) (by omega)
  have m5 := mul_bd (M := 10000000) (N := 1000) (x := t * d) (y := b) (by omega) (by omega)
  have p1 : 0 < t * d := Int.mul_pos (by omega) (by omega)
  exact ⟨by omega, by omega, by omega, by omega, Int.mul_pos p1 (by omega), by omega⟩
theorem see_tail {a b c d s t num : Int} (h : isC a b c d) (h' : isS s t) (hn : -1000 ≤ num ∧ num ≤ 1000) :
    Ev (fun k => (impl_Turn_plus.f k a b (mkT (s * num) (t * d)).1 (mkT (s * num) (t * d)).2).bind fun bt138 => ((impl_ifTurn.f k bt138.1 bt138.2).bind fun bt140 => (some (bt140.1, bt140.2.1, bt140.2.2)))) (tell (mkT (s * num * b + a * (t * d)) (t * d * b))) := by
  obtain ⟨b1, b2, b3, b4, b5⟩ := see_bd h h' hn
  obtain ⟨h1, h2, h3, h4⟩ := isC_bd h
  have L := mkT_low (s * num) b2.1
  have B : (mkT (s * num) (t * d)).2 ≤ t * d := Int.le_of_dvd b2.1 (mkT_dvd _)
  refine Ev.bind (plus_val (by omega) (by omega) (by have := L.2.1; have := L.2.2.1; omega) (by have := L.1; omega)) ?_
  rw [shown_cross (by omega) (by have := isS_bd h'; omega) (by omega)]
  exact Ev.bind (ifTurn_mk _ b5.1) ⟨0, fun _ _ => rfl⟩
theorem iShownAfter_val (a b c d s t : Int) : Ev (fun k => impl_ShownAfter.f k a b c d s t) (seenT a b c d s t c) := by
  have no : Ev (fun k => impl_ShownAfter.j0 k true a b c d s t) (0, 0, false) := Ev.up ⟨0, fun _ _ => rfl⟩
  unfold impl_ShownAfter.f seenT
  refine Ev.bind (IsClock_val a b c d) ?_
  by_cases h1 : isC a b c d
  · simp only [decide_eq_true h1, if_true]
    refine Ev.bind (IsSpan_val s t) ?_
    by_cases h2 : isS s t
    · simp only [decide_eq_true h2, Bool.not_true]
      rw [if_pos ⟨h1, h2⟩]
      obtain ⟨g1, g2, g3, g4⟩ := isC_bd h1
      obtain ⟨b1, b2, b3, b4, b5⟩ := see_bd (num := c) h1 h2 (by omega)
      refine Ev.up ?_
      simp only [impl_ShownAfter.j0, Bool.false_eq_true, if_false, impl_Clock_after.f]
      rw [wid (x := s * c) (by omega) (by omega), wid (x := t * d) (by omega) (by omega)]
      refine Ev.bind (Ev.bind (part_val b2.1 (by omega)) (r := mkT (s * c) (t * d)) ⟨0, fun _ _ => rfl⟩) ?_
      exact see_tail h1 h2 (by omega)
    · simp only [decide_eq_false h2, Bool.not_false]
      rw [if_neg (fun x => h2 x.2)]; exact no
  · simp only [decide_eq_false h1]
    rw [if_neg (fun x => h1 x.1)]; exact no
theorem iAheadAfter_val (a b c d s t : Int) : Ev (fun k => impl_AheadAfter.f k a b c d s t) (seenT a b c d s t (c - d)) := by
  have no : Ev (fun k => impl_AheadAfter.j0 k true a b c d s t) (0, 0, false) := Ev.up ⟨0, fun _ _ => rfl⟩
  unfold impl_AheadAfter.f seenT
  refine Ev.bind (IsClock_val a b c d) ?_
  by_cases h1 : isC a b c d
  · simp only [decide_eq_true h1, if_true]
    refine Ev.bind (IsSpan_val s t) ?_
    by_cases h2 : isS s t
    · simp only [decide_eq_true h2, Bool.not_true]
      rw [if_pos ⟨h1, h2⟩]
      obtain ⟨g1, g2, g3, g4⟩ := isC_bd h1
      obtain ⟨b1, b2, b3, b4, b5⟩ := see_bd (num := c - d) h1 h2 (by omega)
      refine Ev.up ?_
      simp only [impl_AheadAfter.j0, Bool.false_eq_true, if_false]
      rw [wid (x := c - d) (by omega) (by omega), wid (x := s * (c - d)) (by omega) (by omega), wid (x := t * d) (by omega) (by omega)]
      refine Ev.bind (part_val b2.1 (by omega)) ?_
      exact see_tail h1 h2 (by omega)
    · simp only [decide_eq_false h2, Bool.not_false]
      rw [if_neg (fun x => h2 x.2)]; exact no
  · simp only [decide_eq_false h1]
    rw [if_neg (fun x => h1 x.1)]; exact no
theorem drTwo_val (a b c d s t : Int) : Ev (fun k => spec_drTwo.f k a b c d s t) (decide (isC a b c d ∧ isS s t)) := by
  unfold spec_drTwo.f
  refine Ev.bind (drClock_val a b c d) ?_
  by_cases h1 : isC a b c d
  · simp only [decide_eq_true h1, if_true]
    refine Ev.bind (drGood_val s t) ⟨0, fun _ _ => ?_⟩
    simp [h1]
  · simp only [decide_eq_false h1]
    exact ⟨0, fun _ _ => by simp [h1]⟩
theorem drShown_val {a b c d s t : Int} (less : Int) (hl : 0 ≤ less ∧ less ≤ 1) (h : isC a b c d) (h' : isS s t) : Ev (fun k => spec_drShown.f k a b c d s t less) (tell (mkT (s * (c - less * d) * b + a * (t * d)) (t * d * b))) := by
  obtain ⟨g1, g2, g3, g4⟩ := isC_bd h
  have hm : 0 ≤ less * d ∧ less * d ≤ 1000 := by
    rcases (show less = 0 ∨ less = 1 by omega) with rfl | rfl <;> omega
  have hn : -1000 ≤ c - less * d ∧ c - less * d ≤ 1000 := by omega
  obtain ⟨b1, b2, b3, b4, b5⟩ := see_bd h h' hn
  unfold spec_drShown.f
  rw [wid (x := less * d) (by omega) (by omega), wid (x := c - less * d) (by omega) (by omega), wid (x := s * (c - less * d)) (by omega) (by omega), wid (x := t * d) (by omega) (by omega), wid (x := s * (c - less * d) * b) (by omega) (by omega), wid (x := a * (t * d)) (by omega) (by omega), wid (x := s * (c - less * d) * b + a * (t * d)) (by omega) (by omega), wid (x := t * d * b) (by omega) (by omega)]
  exact Ev.bind (diMake_val b5.1 (by omega)) ⟨0, fun _ _ => rfl⟩
theorem sShownAfter_val (a b c d s t : Int) : Ev (fun k => spec_ShownAfter.f k a b c d s t) (seenT a b c d s t c) := by
  unfold spec_ShownAfter.f seenT
  refine Ev.bind (drTwo_val a b c d s t) ?_
  by_cases h : isC a b c d ∧ isS s t
  · simp only [decide_eq_true h, if_true, if_pos h]
    have := drShown_val 0 (by omega) h.1 h.2
    rw [Int.zero_mul, Int.sub_zero] at this
    exact Ev.bind this ⟨0, fun _ _ => rfl⟩
  · simp only [decide_eq_false h, if_neg h]
    exact ⟨0, fun _ _ => rfl⟩
theorem sAheadAfter_val (a b c d s t : Int) : Ev (fun k => spec_AheadAfter.f k a b c d s t) (seenT a b c d s t (c - d)) := by
  unfold spec_AheadAfter.f seenT
  refine Ev.bind (drTwo_val a b c d s t) ?_
  by_cases h : isC a b c d ∧ isS s t
  · simp only [decide_eq_true h, if_true, if_pos h]
    have := drShown_val 1 (by omega) h.1 h.2
    rw [Int.one_mul] at this
    exact Ev.bind this ⟨0, fun _ _ => rfl⟩
  · simp only [decide_eq_false h, if_neg h]
    exact ⟨0, fun _ _ => rfl⟩
/-- The clock that is right behind a span. -/
def rightT (a b c d s t : Int) : Int × Int × Int × Int × Bool := if (isC a b c d ∧ isS s t) ∧ isC (mkT (s * (d - c)) (t * d)).1 (mkT (s * (d - c)) (t * d)).2 c d then ((mkT (s * (d - c)) (t * d)).1, (mkT (s * (d - c)) (t * d)).2, c, d, true) else (0, 0, 0, 0, false)
theorem set_bd {a b c d s t : Int} (h : isC a b c d) (h' : isS s t) : (-1000000000 ≤ s * (d - c) ∧ s * (d - c) ≤ 1000000000) ∧ (0 < t * d ∧ t * d ≤ 10000000) := by
  obtain ⟨h1, h2, h3, h4⟩ := isC_bd h
  obtain ⟨k1, k2⟩ := isS_bd h'
  have m1 := mul_bd (M := 1000000) (N := 1000) (x := s) (y := d - c) (by omega) (by omega)
  have m2 := mul_bd (M := 10000) (N := 1000) (x := t) (y := d) (by omega) (by omega)
  exact ⟨by omega, Int.mul_pos (by omega) (by omega), by omega⟩
theorem iSetRight_val (a b c d s t : Int) : Ev (fun k => impl_SetRight.f k a b c d s t) (rightT a b c d s t) := by
  have no : Ev (fun k => impl_SetRight.j0 k true a b c d s t) (0, 0, 0, 0, false) := Ev.up ⟨0, fun _ _ => rfl⟩
  unfold impl_SetRight.f rightT
  refine Ev.bind (IsClock_val a b c d) ?_
  by_cases h1 : isC a b c d
  · simp only [decide_eq_true h1, if_true]
    refine Ev.bind (IsSpan_val s t) ?_
    by_cases h2 : isS s t
    · simp only [decide_eq_true h2, Bool.not_true]
      obtain ⟨g1, g2, g3, g4⟩ := isC_bd h1
      obtain ⟨b1, b2⟩ := set_bd h1 h2
      refine Ev.up ?_
      simp only [impl_SetRight.j0, Bool.false_eq_true, if_false]
      rw [wid (x := d - c) (by omega) (by omega), wid (x := s * (d - c)) (by omega) (by omega), wid (x := t * d) (by omega) (by omega)]
      refine Ev.bind (part_val b2.1 (by omega)) ?_
      unfold impl_ifClock.f
      by_cases h3 : isC (mkT (s * (d - c)) (t * d)).1 (mkT (s * (d - c)) (t * d)).2 c d
      · rw [if_pos ⟨⟨h1, h2⟩, h3⟩]
        refine Ev.bind (Ev.bind (IsClock_val _ _ _ _) (r := ((mkT (s * (d - c)) (t * d)).1, (mkT (s * (d - c)) (t * d)).2, c, d, true)) ?_) ⟨0, fun _ _ => rfl⟩
        simp only [decide_eq_true h3, if_true]
        exact ⟨0, fun _ _ => rfl⟩
      · rw [if_neg (fun x => h3 x.2)]
        refine Ev.bind (Ev.bind (IsClock_val _ _ _ _) (r := (0, 0, 0, 0, false)) ?_) ⟨0, fun _ _ => rfl⟩
        simp only [decide_eq_false h3]
        exact ⟨0, fun _ _ => rfl⟩
    · simp only [decide_eq_false h2, Bool.not_false]
      rw [if_neg (fun x => h2 x.1.2)]; exact no
  · simp only [decide_eq_false h1]
    rw [if_neg (fun x => h1 x.1.1)]; exact no
theorem sSetRight_val (a b c d s t : Int) : Ev (fun k => spec_SetRight.f k a b c d s t) (rightT a b c d s t) := by
  unfold spec_SetRight.f rightT spec_drTwo.f
  by_cases h : isC a b c d ∧ isS s t
  · obtain ⟨h1, h2⟩ := h
    refine Ev.bind (Ev.bind (drClock_val a b c d) (r := true) ?_) ?_
    · simp only [decide_eq_true h1, if_true]
      exact Ev.bind (drGood_val s t) ⟨0, fun _ _ => by rw [decide_eq_true h2]⟩
    obtain ⟨g1, g2, g3, g4⟩ := isC_bd h1
    obtain ⟨b1, b2⟩ := set_bd h1 h2
    simp only [if_true]
    rw [wid (x := d - c) (by omega) (by omega), wid (x := s * (d - c)) (by omega) (by omega), wid (x := t * d) (by omega) (by omega)]
    refine Ev.bind (diMake_val b2.1 (by omega)) ?_
    unfold tell
    by_cases hb : (mkT (s * (d - c)) (t * d)).2 > 1000000
    · rw [if_pos hb, if_neg (show ¬ ((isC a b c d ∧ isS s t) ∧ isC (mkT (s * (d - c)) (t * d)).1 (mkT (s * (d - c)) (t * d)).2 c d) from fun x => by have := x.2.1.1.2; omega)]
      exact ⟨0, fun _ _ => rfl⟩
    · rw [if_neg hb]
      simp only [if_true]
      refine Ev.bind (drClock_val _ _ _ _) ?_
      by_cases h3 : isC (mkT (s * (d - c)) (t * d)).1 (mkT (s * (d - c)) (t * d)).2 c d
      · simp only [decide_eq_true h3, if_true]
        rw [if_pos ⟨⟨h1, h2⟩, h3⟩]
        exact ⟨0, fun _ _ => rfl⟩
      · simp only [decide_eq_false h3, Bool.false_eq_true, if_false]
        rw [if_neg (fun x => h3 x.2)]
        exact ⟨0, fun _ _ => rfl⟩
  · rw [if_neg (fun x => h x.1)]
    refine Ev.bind (a := false) ?_ ⟨0, fun _ _ => rfl⟩
    refine Ev.bind (drClock_val a b c d) ?_
    by_cases h1 : isC a b c d
    · simp only [decide_eq_true h1, if_true]
      exact Ev.bind (drGood_val s t) ⟨0, fun _ _ => by rw [decide_eq_false (fun x => h ⟨h1, x⟩)]⟩
    · simp only [decide_eq_false h1]
      exact ⟨0, fun _ _ => rfl⟩
/-- By how much one clock gains on another one: the upper and the lower number. -/
theorem gain_bd {a b c d a' b' c' d' : Int} (h : isC a b c d) (h' : isC a' b' c' d') : (-1000000 ≤ c * d' ∧ c * d' ≤ 1000000) ∧ (-1000000 ≤ c' * d ∧ c' * d ≤ 1000000) ∧ (-1000000 ≤ d * d' ∧ d * d' ≤ 1000000) ∧ 0 < d * d' ∧ (-1000000 ≤ b * b' ∧ b * b' ≤ 1000000) ∧ 0 < b * b' ∧ (-1000000 ≤ a * b' ∧ a * b' ≤ 1000000) ∧ (-1000000 ≤ a' * b ∧ a' * b ≤ 1000000) := by
  obtain ⟨h1, h2, h3, h4⟩ := isC_bd h
  obtain ⟨k1, k2, k3, k4⟩ := isC_bd h'
  refine ⟨mul_bd (M := 1000) (N := 1000) (by omega) (by omega), mul_bd (M := 1000) (N := 1000) (by omega) (by omega), mul_bd (M := 1000) (N := 1000) (by omega) (by omega), Int.mul_pos (by omega) (by omega), mul_bd (M := 1000) (N := 1000) (by omega) (by omega), Int.mul_pos (by omega) (by omega), mul_bd (M := 1000) (N := 1000) (by omega) (by omega), mul_bd (M := 1000) (N := 1000) (by omega) (by omega)⟩
theorem igain_val {a b c d a' b' c' d' : Int} (h : isC a b c d) (h' : isC a' b' c' d') : impl_gain.f a b c d a' b' c' d' = some (c * d' - c' * d, d * d') := by
  obtain ⟨e1, e2, e3, _⟩ := gain_bd h h'
  unfold impl_gain.f
  rw [wid (x := c * d') (by omega) (by omega), wid (x := c' * d) (by omega) (by omega), wid (x := d * d') (by omega) (by omega), wid (x := c * d' - c' * d) (by omega) (by omega)]
theorem spanOf_val {n d : Int} (h0 : 0 ≤ n) (h1 : n ≤ 4611686018427387904) (d0 : 0 < d) (d1 : d ≤ 4611686018427387904) : Ev (fun k => impl_spanOf.f k n d) (spanT n d) := by
  have g0 := gI_pos (a := n) (show d ≠ 0 by omega)
  have q0 : 0 ≤ d / gI n d := Int.ediv_nonneg (by omega) (by omega)
  have q1 : d / gI n d ≤ d := Int.ediv_le_self _ (by omega)
  have r0 : 0 ≤ n / gI n d := Int.ediv_nonneg (by omega) (by omega)
  have r1 : n / gI n d ≤ n := Int.ediv_le_self _ (by omega)
  unfold impl_spanOf.f
  refine Ev.bind (igcd_val (by omega) (by omega) (by omega) (by omega)) ?_
  simp only [if_neg (show ¬ gI n d = 0 by omega)]
  rw [tdiv_nn _ h0, tdiv_nn _ (by omega), wid (x := d / gI n d) (by omega) (by omega), wid (x := n / gI n d) (by omega) (by omega)]
  refine Ev.bind (IsSpan_val _ _) ?_
  unfold spanT
  by_cases h : isS (n / gI n d) (d / gI n d)
  · simp only [decide_eq_true h, if_true, if_pos h]; exact ⟨0, fun _ _ => rfl⟩
  · simp only [decide_eq_false h, if_neg h]; exact ⟨0, fun _ _ => rfl⟩
/-- Behind which span two clocks that agree agree again. -/
def everyT (a b c d a' b' c' d' : Int) : Int × Int × Bool := if (isC a b c d ∧ isC a' b' c' d') ∧ c * d' - c' * d ≠ 0 then spanT (d * d') ((c * d' - c' * d).natAbs : Int) else (0, 0, false)
theorem gain_any (a b c d a' b' c' d' : Int) : ∃ x y, impl_gain.f a b c d a' b' c' d' = some (x, y) ∧ (isC a b c d ∧ isC a' b' c' d' → x = c * d' - c' * d ∧ y = d * d') := by
  by_cases h : isC a b c d ∧ isC a' b' c' d'
  · exact ⟨_, _, igain_val h.1 h.2, fun _ => ⟨rfl, rfl⟩⟩
  · exact ⟨_, _, rfl, fun x => absurd x h⟩
/-- Behind which span a turn p / q that grows at a rate num / den has come to a whole number. -/
def firstT (p q num den : Int) : Int × Int × Bool := if num = 0 then (0, 0, false) else spanT ((if num > 0 ∨ p = 0 then q - p else p) * den) (q * (num.natAbs : Int))
/-- Behind which span two clocks agree first. -/
def agreeT (a b c d a' b' c' d' : Int) : Int × Int × Bool := if isC a b c d ∧ isC a' b' c' d' then firstT (mkT (a * b' - a' * b) (b * b')).1 (mkT (a * b' - a' * b) (b * b')).2 (c * d' - c' * d) (d * d') else (0, 0, false)
theorem times_val {a b k : Int} (ha : -1000000000 ≤ a ∧ a ≤ 1000000000) (hb : 0 < b ∧ b ≤ 1000000000) (hk : -1000000000 ≤ k ∧ k ≤ 1000000000) : Ev (fun n => impl_Turn_times.f n a b k) (mkT (a * k) b) := by
  have e1 := mul_bd ha hk
  unfold impl_Turn_times.f
  rw [wid (x := a * k) (by omega) (by omega)]
  exact Ev.bind (part_val hb.1 (by omega)) ⟨0, fun _ _ => rfl⟩
theorem mirror_val {a b : Int} (ha : -1000000000 ≤ a ∧ a ≤ 1000000000) (hb : 0 < b ∧ b ≤ 1000000000) : Ev (fun n => impl_Turn_mirror.f n a b) (mkT (a * (-1)) b) := by
  unfold impl_Turn_mirror.f
  exact Ev.bind (times_val ha hb (by omega)) ⟨0, fun _ _ => rfl⟩
/-- The way back. -/
theorem low_zero {q : Int} (h : low 0 q) : q = 1 := by
  have h1 : gI 0 q = 1 := h.2.2.2
  have h0 := h.1
  unfold gI at h1
  rw [Int.gcd_zero_left] at h1
  omega
theorem low_back {p q : Int} (h : low p q) (hp : p ≠ 0) : low (q - p) q := by
  obtain ⟨q0, p0, pq, hg⟩ := h
  refine ⟨q0, by omega, by omega, ?_⟩
  unfold gI at *
  have e : Int.gcd (q - p) q = Int.gcd p q := by
    rw [Int.gcd_comm, Int.gcd_self_sub_right, Int.gcd_comm]
  rw [e]; exact hg
theorem mirror_low {p q : Int} (h : low p q) : mkT (p * (-1)) q = if p = 0 then (0, 1) else (q - p, q) := by
  by_cases hp : p = 0
  · subst hp
    have := low_zero h
    subst this
    rfl
  · rw [if_neg hp]
    refine mkT_of (m := 1) h.1 (low_back h hp) ?_
    rw [Int.sub_mul, Int.mul_one, ← Int.mul_assoc, Int.mul_neg_one, Int.mul_comm q p]
    omega
theorem minus_val {a b c d : Int} (ha : -1000000000 ≤ a ∧ a ≤ 1000000000) (hb : 0 < b ∧ b ≤ 1000000000) (hc : -1000000000 ≤ c ∧ c ≤ 1000000000) (hd : 0 < d ∧ d ≤ 1000000000) : Ev (fun k => impl_Turn_minus.f k a b c d) (mkT (a * d - c * b) (b * d)) := by
  have e1 := mul_bd (N := 1000000000) ha (y := d) (by omega)
  have e2 := mul_bd (N := 1000000000) hc (y := b) (by omega)
  have e3 := mul_bd (M := 1000000000) (N := 1000000000) (x := b) (y := d) (by omega) (by omega)
  have e4 : 0 < b * d := Int.mul_pos hb.1 hd.1
  unfold impl_Turn_minus.f
  rw [wid (x := a * d) (by omega) (by omega), wid (x := c * b) (by omega) (by omega), wid (x := b * d) (by omega) (by omega), wid (x := a * d - c * b) (by omega) (by omega)]
  exact Ev.bind (part_val e4 (by omega)) ⟨0, fun _ _ => rfl⟩
theorem way_bd {p q num den : Int} (h : low p q) (hq : q ≤ 1000000) (hn : -2000000 ≤ num ∧ num ≤ 2000000) (h0 : num ≠ 0) (hd : 0 < den ∧ den ≤ 1000000) : (0 ≤ p * den ∧ p * den ≤ 1000000000000) ∧ (0 ≤ (q - p) * den ∧ (q - p) * den ≤ 1000000000000) ∧ (0 < q * (num.natAbs : Int) ∧ q * (num.natAbs : Int) ≤ 2000000000000) := by
  obtain ⟨q0, p0, pq, _⟩ := h
  refine ⟨⟨Int.mul_nonneg p0 (by omega), ?_⟩, ⟨Int.mul_nonneg (by omega) (by omega), ?_⟩, Int.mul_pos q0 (by omega), ?_⟩
  · exact Int.le_trans (Int.mul_le_mul (show p ≤ 1000000 by omega) hd.2 (by omega) (by omega)) (by omega)
  · exact Int.le_trans (Int.mul_le_mul (show q - p ≤ 1000000 by omega) hd.2 (by omega) (by omega)) (by omega)
  · exact Int.le_trans (Int.mul_le_mul hq (show (num.natAbs : Int) ≤ 2000000 by omega) (by omega) (by omega)) (by omega)
theorem ifirst_val (a b c d a' b' c' d' : Int) : Ev (fun k => impl_first.f k a b c d a' b' c' d') (agreeT a b c d a' b' c' d') := by
  obtain ⟨x, y, hg, hxy⟩ := gain_any a b c d a' b' c' d'
  have no : ∀ x y, Ev (fun k => impl_first.j0 k x y true a b c d a' b' c' d') (0, 0, false) := fun x y => Ev.up ⟨0, fun _ _ => rfl⟩
  unfold impl_first.f
  simp only [hg, Option.bind_some]
  refine Ev.bind (IsClock_val a b c d) ?_
  unfold agreeT
  by_cases h1 : isC a b c d
  · simp only [decide_eq_true h1, if_true]
    refine Ev.bind (IsClock_val a' b' c' d') ?_
    by_cases h2 : isC a' b' c' d'
    · simp only [decide_eq_true h2, if_true]
      obtain ⟨rfl, rfl⟩ := hxy ⟨h1, h2⟩
      simp only [if_pos (show isC a b c d ∧ isC a' b' c' d' from ⟨h1, h2⟩)]
      unfold firstT
      by_cases h3 : c * d' - c' * d = 0
      · simp only [if_pos h3]
        rw [show (c * d' - c' * d == 0) = true by simpa using h3]
        exact no _ _
      · simp only [if_neg h3]
        rw [show (c * d' - c' * d == 0) = false by simpa using h3]
        obtain ⟨e1, e2, e3, e4, e5, e6, e7, e8⟩ := gain_bd h1 h2
        obtain ⟨g1, g2, g3, g4⟩ := isC_bd h1
        obtain ⟨k1, k2, k3, k4⟩ := isC_bd h2
        have L := mkT_low (a * b' - a' * b) e6
        have B : (mkT (a * b' - a' * b) (b * b')).2 ≤ b * b' := Int.le_of_dvd e6 (mkT_dvd _)
        have hm := minus_val (a := a) (b := b) (c := a') (d := b') (by omega) (by omega) (by omega) (by omega)
        generalize hT : mkT (a * b' - a' * b) (b * b') = t at L B hm
        obtain ⟨p, q⟩ := t
        dsimp only at L B ⊢
        have nb : -2000000 ≤ c * d' - c' * d ∧ c * d' - c' * d ≤ 2000000 := by omega
        generalize c * d' - c' * d = num at *
        generalize d * d' = den at *
        have W := way_bd L (by omega) (num := num) (by omega) h3 (den := den) (by omega)
        obtain ⟨q0, p0, pq, _⟩ := id L
        refine Ev.up ?_
        simp only [impl_first.j0, Bool.false_eq_true, if_false]
        refine Ev.bind hm ?_
        dsimp only
        rw [mx_abs (a := num) (by omega) (by omega)]
        by_cases h4 : num > 0
        · simp only [if_pos h4, if_pos (show num > 0 ∨ p = 0 from Or.inl h4)]
          refine Ev.bind (mirror_val (by omega) (by omega)) ?_
          rw [mirror_low L]
          by_cases hp : p = 0
          · subst hp
            have := low_zero L
            subst this
            simp only [if_true, Int.one_mul, Int.sub_zero]
            rw [wid (x := den) (by omega) (by omega), wid (x := (num.natAbs : Int)) (by omega) (by omega)]
            exact Ev.bind (spanOf_val (by omega) (by omega) (by omega) (by omega)) ⟨0, fun _ _ => rfl⟩
          · simp only [if_neg hp, if_neg (show ¬ q - p = 0 by omega)]
            rw [wid (x := (q - p) * den) (by omega) (by omega), wid (x := q * (num.natAbs : Int)) (by omega) (by omega)]
            exact Ev.bind (spanOf_val (by omega) (by omega) (by omega) (by omega)) ⟨0, fun _ _ => rfl⟩
        · simp only [if_neg h4]
          by_cases hp : p = 0
          · subst hp
            have := low_zero L
            subst this
            simp only [if_true, Int.one_mul, Int.sub_zero, or_true]
            rw [wid (x := den) (by omega) (by omega), wid (x := (num.natAbs : Int)) (by omega) (by omega)]
            exact Ev.bind (spanOf_val (by omega) (by omega) (by omega) (by omega)) ⟨0, fun _ _ => rfl⟩
          · simp only [if_neg hp, if_neg (show ¬ (num > 0 ∨ p = 0) by omega)]
            rw [wid (x := p * den) (by omega) (by omega), wid (x := q * (num.natAbs : Int)) (by omega) (by omega)]
            exact Ev.bind (spanOf_val (by omega) (by omega) (by omega) (by omega)) ⟨0, fun _ _ => rfl⟩
    · simp only [decide_eq_false h2]
      rw [if_neg (fun x => h2 x.2)]; exact no _ _
  · simp only [decide_eq_false h1]
    rw [if_neg (fun x => h1 x.1)]; exact no _ _
theorem l1Abs_val {x : Int} (h0 : -4611686018427387904 ≤ x) (h1 : x ≤ 4611686018427387904) : spec_l1Abs.f x = some (x.natAbs : Int) := by
  unfold spec_l1Abs.f spec_l1Most.f
  rw [wid (x := -x) (by omega) (by omega)]
  by_cases h : x > -x
  · rw [if_pos h]; simp only [Option.bind_some]; congr 1; omega
  · rw [if_neg h]; simp only [Option.bind_some]; congr 1; omega
theorem drMake_val {n d : Int} (h0 : 0 ≤ n) (h1 : n ≤ 4611686018427387904) (d0 : 0 < d) (d1 : d ≤ 4611686018427387904) : Ev (fun k => spec_drMake.f k n d) (spanT n d) := by
  have g0 := gI_pos (a := n) (show d ≠ 0 by omega)
  have q0 : 0 ≤ d / gI n d := Int.ediv_nonneg (by omega) (by omega)
  have q1 : d / gI n d ≤ d := Int.ediv_le_self _ (by omega)
  have r0 : 0 ≤ n / gI n d := Int.ediv_nonneg (by omega) (by omega)
  have r1 : n / gI n d ≤ n := Int.ediv_le_self _ (by omega)
  unfold spec_drMake.f
  refine Ev.bind (diCommon_val h0 (by omega)) ?_
  simp only [if_neg (show ¬ gI n d = 0 by omega)]
  rw [tdiv_nn _ h0, tdiv_nn _ (by omega), wid (x := d / gI n d) (by omega) (by omega), wid (x := n / gI n d) (by omega) (by omega)]
  refine Ev.bind (drGood_val _ _) ?_
  unfold spanT
  by_cases h : isS (n / gI n d) (d / gI n d)
  · simp only [decide_eq_true h, if_true, if_pos h]; exact ⟨0, fun _ _ => rfl⟩
  · simp only [decide_eq_false h, if_neg h]; exact ⟨0, fun _ _ => rfl⟩
theorem way_bd2 {p q num den : Int} (h : low p q) (hq : q ≤ 1000000000) (hn : -2000000 ≤ num ∧ num ≤ 2000000) (h0 : num ≠ 0) (hd : 0 < den ∧ den ≤ 1000000) : (0 ≤ p * den ∧ p * den ≤ 1000000000000000) ∧ (0 ≤ (q - p) * den ∧ (q - p) * den ≤ 1000000000000000) ∧ (0 < q * (num.natAbs : Int) ∧ q * (num.natAbs : Int) ≤ 2000000000000000) := by
  obtain ⟨q0, p0, pq, _⟩ := h
  refine ⟨⟨Int.mul_nonneg p0 (by omega), ?_⟩, ⟨Int.mul_nonneg (by omega) (by omega), ?_⟩, Int.mul_pos q0 (by omega), ?_⟩
  · exact Int.le_trans (Int.mul_le_mul (show p ≤ 1000000000 by omega) hd.2 (by omega) (by omega)) (by omega)
  · exact Int.le_trans (Int.mul_le_mul (show q - p ≤ 1000000000 by omega) hd.2 (by omega) (by omega)) (by omega)
  · exact Int.le_trans (Int.mul_le_mul hq (show (num.natAbs : Int) ≤ 2000000 by omega) (by omega) (by omega)) (by omega)
/-- The same, told of now too. -/
theorem drFirst_val {p q num den : Int} (now : Bool) (h : low p q) (hq : q ≤ 1000000000) (hn : -2000000 ≤ num ∧ num ≤ 2000000) (hd : 0 < den ∧ den ≤ 1000000) : Ev (fun k => spec_drFirst.f k p q num den now) (if p = 0 ∧ now = true then (0, 1, true) else firstT p q num den) := by
  have J1 : ∀ b : Bool, num ≠ 0 → Ev (fun k => spec_drFirst.j1 k num den p b p q) (spanT ((if b = true then q - p else p) * den) (q * (num.natAbs : Int))) := by
    intro b h0
    have W := way_bd2 h hq hn h0 hd
    obtain ⟨q0, p0, pq, _⟩ := id h
    refine Ev.up ?_
    simp only [spec_drFirst.j1]
    rw [l1Abs_val (by omega) (by omega)]
    simp only [Option.bind_some]
    rw [wid (x := q * (num.natAbs : Int)) (by omega) (by omega), wid (x := p * den) (by omega) (by omega), wid (x := q - p) (by omega) (by omega), wid (x := (q - p) * den) (by omega) (by omega)]
    cases b with
    | true => simp only [if_true]; exact Ev.bind (drMake_val (by omega) (by omega) (by omega) (by omega)) ⟨0, fun _ _ => rfl⟩
    | false => simp only [Bool.false_eq_true, if_false]; exact Ev.bind (drMake_val (by omega) (by omega) (by omega) (by omega)) ⟨0, fun _ _ => rfl⟩
  have J0 : Ev (fun k => spec_drFirst.j0 k num den false p q) (firstT p q num den) := by
    refine Ev.up ?_
    simp only [spec_drFirst.j0, Bool.false_eq_true, if_false]
    unfold firstT
    by_cases h0 : num = 0
    · simp only [if_pos h0]; exact ⟨0, fun _ _ => rfl⟩
    · simp only [if_neg h0]
      by_cases h4 : num > 0
      · simp only [if_pos h4, if_pos (show num > 0 ∨ p = 0 from Or.inl h4)]
        have := J1 true h0
        simpa using this
      · simp only [if_neg h4]
        have := J1 (p == 0) h0
        by_cases hp : p = 0
        · simpa [hp] using this
        · simpa [hp, h4] using this
  unfold spec_drFirst.f
  by_cases hp : p = 0
  · simp only [if_pos hp]
    cases now with
    | true => rw [if_pos ⟨hp, rfl⟩]; exact Ev.up ⟨0, fun _ _ => rfl⟩
    | false => rw [if_neg (by simp)]; exact J0
  · simp only [if_neg hp]; rw [if_neg (fun x => hp x.1)]; exact J0
theorem right_clock : isC 0 1 1 1 := by decide
theorem sFirstRight_val (a b c d : Int) : Ev (fun k => spec_FirstRight.f k a b c d) (agreeT a b c d 0 1 1 1) := by
  unfold spec_FirstRight.f agreeT
  refine Ev.bind (drClock_val a b c d) ?_
  by_cases h1 : isC a b c d
  · simp only [decide_eq_true h1, if_true]
    simp only [if_pos (show isC a b c d ∧ isC 0 1 1 1 from ⟨h1, right_clock⟩)]
    obtain ⟨g1, g2, g3, g4⟩ := isC_bd h1
    rw [wid (x := c - d) (by omega) (by omega), Int.mul_one, Int.zero_mul, Int.sub_zero, Int.mul_one, Int.mul_one, Int.one_mul, Int.mul_one, mkT_self (isT_low h1.1)]
    have := drFirst_val (num := c - d) (den := d) false (isT_low h1.1) (by omega) (by omega) (by omega)
    simp only [Bool.false_eq_true, and_false, if_false] at this
    exact Ev.bind this ⟨0, fun _ _ => rfl⟩
  · simp only [decide_eq_false h1]
    rw [if_neg (fun x => h1 x.1)]; exact ⟨0, fun _ _ => rfl⟩
/-- Behind which span a clock shows a turn: out of the way between them. -/
def shownT (a b c d a' b' : Int) : Int × Int × Bool := if isC a b c d ∧ isT a' b' then spanT ((mkT (a' * b - a * b') (b' * b)).1 * d) ((mkT (a' * b - a * b') (b' * b)).2 * c) else (0, 0, false)
theorem shown_bd {a b c d a' b' : Int} (h : isC a b c d) (h' : isT a' b') : (-1000000000 ≤ a * b' ∧ a * b' ≤ 1000000000) ∧ (-1000000000 ≤ a' * b ∧ a' * b ≤ 1000000000) ∧ (0 < b * b' ∧ b * b' ≤ 1000000000) ∧ 0 ≤ a * b' ∧ a * b' < b * b' ∧ 0 ≤ a' * b ∧ a' * b < b * b' := by
  obtain ⟨h1, h2, h3, h4⟩ := isC_bd h
  obtain ⟨k1, k2, _⟩ := h'
  have m1 := mul_bd (M := 1000) (N := 1000000) (x := a) (y := b') (by omega) (by omega)
  have m2 := mul_bd (M := 1000000) (N := 1000) (x := a') (y := b) (by omega) (by omega)
  have m3 := mul_bd (M := 1000) (N := 1000000) (x := b) (y := b') (by omega) (by omega)
  refine ⟨by omega, by omega, ⟨Int.mul_pos (by omega) (by omega), by omega⟩, Int.mul_nonneg (by omega) (by omega), Int.mul_lt_mul_of_pos_right (by omega) (by omega), Int.mul_nonneg (by omega) (by omega), ?_⟩
  rw [Int.mul_comm b b']
  exact Int.mul_lt_mul_of_pos_right (by omega) (by omega)
theorem iFirstShown_val (a b c d a' b' : Int) : Ev (fun k => impl_FirstShown.f k a b c d a' b') (shownT a b c d a' b') := by
  have no : Ev (fun k => impl_FirstShown.j0 k true a b c d a' b') (0, 0, false) := Ev.up ⟨0, fun _ _ => rfl⟩
  unfold impl_FirstShown.f shownT
  refine Ev.bind (IsClock_val a b c d) ?_
  by_cases h1 : isC a b c d
  · simp only [decide_eq_true h1, if_true]
    refine Ev.bind (IsTurn_val a' b') ?_
    by_cases h2 : isT a' b'
    · simp only [decide_eq_true h2, Bool.not_true]
      rw [if_pos ⟨h1, h2⟩]
      obtain ⟨g1, g2, g3, g4⟩ := isC_bd h1
      obtain ⟨k1, k2, _⟩ := id h2
      obtain ⟨s1, s2, s3, s4, s5, s6, s7⟩ := shown_bd h1 h2
      have eb : b' * b = b * b' := Int.mul_comm _ _
      have L := mkT_low (a' * b - a * b') (show 0 < b' * b by omega)
      have B : (mkT (a' * b - a * b') (b' * b)).2 ≤ b' * b := Int.le_of_dvd (by omega) (mkT_dvd _)
      refine Ev.up ?_
      simp only [impl_FirstShown.j0, Bool.false_eq_true, if_false]
      refine Ev.bind (minus_val (by omega) (by omega) (by omega) (by omega)) ?_
      generalize mkT (a' * b - a * b') (b' * b) = t at L B ⊢
      obtain ⟨p, q⟩ := t
      dsimp only at L B ⊢
      obtain ⟨q0, p0, pq, _⟩ := L
      have x1 : 0 ≤ p * d := Int.mul_nonneg p0 (by omega)
      have x2 := mul_bd (M := 1000000000) (N := 1000) (x := p) (y := d) (by omega) (by omega)
      have x3 : 0 < q * c := Int.mul_pos q0 (by omega)
      have x4 := mul_bd (M := 1000000000) (N := 1000) (x := q) (y := c) (by omega) (by omega)
      rw [wid (x := p * d) (by omega) (by omega), wid (x := q * c) (by omega) (by omega)]
      exact Ev.bind (spanOf_val x1 (by omega) x3 (by omega)) ⟨0, fun _ _ => rfl⟩
    · simp only [decide_eq_false h2, Bool.not_false]
      rw [if_neg (fun x => h2 x.2)]; exact no
  · simp only [decide_eq_false h1]
    rw [if_neg (fun x => h1 x.1)]; exact no
theorem sFirstShown_val (a b c d a' b' : Int) : Ev (fun k => spec_FirstShown.f k a b c d a' b') (shownT a b c d a' b') := by
  have no : Ev (fun k => spec_FirstShown.j0 k true a b c d a' b') (0, 0, false) := Ev.up ⟨0, fun _ _ => rfl⟩
  unfold spec_FirstShown.f shownT
  refine Ev.bind (drClock_val a b c d) ?_
  by_cases h1 : isC a b c d
  · simp only [decide_eq_true h1, if_true]
    refine Ev.bind (diGood_val a' b') ?_
    by_cases h2 : isT a' b'
    · simp only [decide_eq_true h2, Bool.not_true]
      rw [if_pos ⟨h1, h2⟩]
      obtain ⟨g1, g2, g3, g4⟩ := isC_bd h1
      obtain ⟨s1, s2, s3, s4, s5, s6, s7⟩ := shown_bd h1 h2
      refine Ev.up ?_
      simp only [spec_FirstShown.j0, Bool.false_eq_true, if_false]
      rw [wid (x := b * b') (by omega) (by omega), wid (x := a * b') (by omega) (by omega), wid (x := a' * b) (by omega) (by omega), wid (x := a * b' - a' * b) (by omega) (by omega), wid (x := a * b' - a' * b + b * b') (by omega) (by omega),
        tmod_nn _ (by omega), Int.add_emod_right]
      simp only [if_neg (show ¬ b * b' = 0 by omega)]
      have m0 : 0 ≤ (a * b' - a' * b) % (b * b') := Int.emod_nonneg _ (by omega)
      have m1 : (a * b' - a' * b) % (b * b') < b * b' := Int.emod_lt_of_pos _ (by omega)
      have gp := gI_pos (a := (a * b' - a' * b) % (b * b')) (show b * b' ≠ 0 by omega)
      have r1 : (a * b' - a' * b) % (b * b') / gI ((a * b' - a' * b) % (b * b')) (b * b') ≤ (a * b' - a' * b) % (b * b') := Int.ediv_le_self _ (by omega)
      have r0 : 0 ≤ (a * b' - a' * b) % (b * b') / gI ((a * b' - a' * b) % (b * b')) (b * b') := Int.ediv_nonneg m0 (by omega)
      have q1 : b * b' / gI ((a * b' - a' * b) % (b * b')) (b * b') ≤ b * b' := Int.ediv_le_self _ (by omega)
      have q0 : 0 ≤ b * b' / gI ((a * b' - a' * b) % (b * b')) (b * b') := Int.ediv_nonneg (by omega) (by omega)
      refine Ev.bind (diCommon_val m0 (by omega)) ?_
      simp only [if_neg (show ¬ gI ((a * b' - a' * b) % (b * b')) (b * b') = 0 by omega)]
      rw [tdiv_nn _ m0, tdiv_nn _ (show 0 ≤ b * b' by omega), wid (x := (a * b' - a' * b) % (b * b') / gI ((a * b' - a' * b) % (b * b')) (b * b')) (by omega) (by omega), wid (x := b * b' / gI ((a * b' - a' * b) % (b * b')) (b * b')) (by omega) (by omega)]
      have L := mkT_low (a * b' - a' * b) (show 0 < b * b' by omega)
      have B : (mkT (a * b' - a' * b) (b * b')).2 ≤ b * b' := Int.le_of_dvd (by omega) (mkT_dvd _)
      have F := drFirst_val (num := c) (den := d) true L (by omega) (by omega) (by omega)
      have M := mirror_low L
      have X : mkT (a' * b - a * b') (b' * b) = mkT ((mkT (a * b' - a' * b) (b * b')).1 * (-1)) (mkT (a * b' - a' * b) (b * b')).2 := by
        have e := mkT_eq (a * b' - a' * b) (show 0 < b * b' by omega)
        have d := Int.mul_ediv_add_emod (a * b' - a' * b) (b * b')
        refine mkT_congr (m := -((a * b' - a' * b) / (b * b'))) (by rw [Int.mul_comm]; omega) L.1 ?_
        generalize (mkT (a * b' - a' * b) (b * b')).1 = p at *
        generalize (mkT (a * b' - a' * b) (b * b')).2 = q at *
        rw [Int.mul_comm b' b]
        have e1 : p * -1 * (b * b') = -(q * ((a * b' - a' * b) % (b * b'))) := by rw [← e, Int.mul_neg_one, Int.neg_mul]
        rw [e1, show a' * b - a * b' = -(a * b' - a' * b) by omega]
        generalize hx : a * b' - a' * b = x at *
        generalize hn : b * b' = n at *
        have e2 : n * q * -(x / n) = -(q * (n * (x / n))) := by rw [Int.mul_neg]; congr 1; ac_rfl
        rw [e2, Int.neg_mul, ← Int.neg_add, ← Int.mul_add, Int.add_comm, d, Int.mul_comm]
      rw [X, M]
      show Ev (fun k => (spec_drFirst.f k (mkT (a * b' - a' * b) (b * b')).1 (mkT (a * b' - a' * b) (b * b')).2 c d true).bind _) _
      refine Ev.bind F ?_
      generalize mkT (a * b' - a' * b) (b * b') = t at L B ⊢
      obtain ⟨p, q⟩ := t
      dsimp only at L B ⊢
      obtain ⟨z0, z1, z2, _⟩ := id L
      by_cases hp : p = 0
      · simp only [if_pos hp, and_true]
        have ec : spanT (0 * d) (1 * c) = (0, 1, true) := by
          rw [Int.zero_mul, Int.one_mul]
          unfold spanT
          have : gI 0 c = c := by unfold gI; rw [Int.gcd_zero_left]; omega
          rw [this, Int.ediv_self (by omega), Int.zero_ediv, if_pos (by decide)]
        rw [ec]
        exact ⟨0, fun _ _ => rfl⟩
      · simp only [if_neg hp, and_true]
        have ef : firstT p q c d = spanT ((q - p) * d) (q * c) := by
          unfold firstT
          rw [if_neg (by omega), if_pos (Or.inl (by omega)), show (c.natAbs : Int) = c by omega]
        rw [ef]
        exact ⟨0, fun _ _ => rfl⟩
    · simp only [decide_eq_false h2, Bool.not_false]
      rw [if_neg (fun x => h2 x.2)]; exact no
  · simp only [decide_eq_false h1]
    rw [if_neg (fun x => h1 x.1)]; exact no
theorem ievery_val (a b c d a' b' c' d' : Int) : Ev (fun k => impl_every.f k a b c d a' b' c' d') (everyT a b c d a' b' c' d') := by
  obtain ⟨x, y, hg, hxy⟩ := gain_any a b c d a' b' c' d'
  unfold impl_every.f
  simp only [hg, Option.bind_some]
  refine Ev.bind (IsClock_val a b c d) ?_
  unfold everyT
  by_cases h1 : isC a b c d
  · simp only [decide_eq_true h1, if_true]
    refine Ev.bind (IsClock_val a' b' c' d') ?_
    by_cases h2 : isC a' b' c' d'
    · simp only [decide_eq_true h2, if_true]
      obtain ⟨rfl, rfl⟩ := hxy ⟨h1, h2⟩
      by_cases h3 : c * d' - c' * d = 0
      · simp only [if_pos h3, if_neg (show ¬ ((isC a b c d ∧ isC a' b' c' d') ∧ c * d' - c' * d ≠ 0) from fun x => x.2 h3)]; exact ⟨0, fun _ _ => rfl⟩
      · obtain ⟨e1, e2, e3, e4, _⟩ := gain_bd h1 h2
        simp only [if_neg h3, if_pos (show (isC a b c d ∧ isC a' b' c' d') ∧ c * d' - c' * d ≠ 0 from ⟨⟨h1, h2⟩, h3⟩)]
        rw [mx_abs (by omega) (by omega)]
        exact Ev.bind (spanOf_val (by omega) (by omega) (by omega) (by omega)) ⟨0, fun _ _ => rfl⟩
    · simp only [decide_eq_false h2]
      rw [if_neg (fun x => h2 x.1.2)]; exact ⟨0, fun _ _ => rfl⟩
  · simp only [decide_eq_false h1]
    rw [if_neg (fun x => h1 x.1.1)]; exact ⟨0, fun _ _ => rfl⟩
/-! driftmath2: what the spans told are -/
theorem spanT_yes {n d x y : Int} (h : spanT n d = (x, y, true)) (hd : 0 < d) : isS x y ∧ x * d = y * n := by
  unfold spanT at h
  split at h
  · rename_i hs
    simp only [Prod.mk.injEq, and_true] at h
    obtain ⟨rfl, rfl⟩ := h
    refine ⟨hs, ?_⟩
    obtain ⟨p, hp⟩ := gI_dvd_left n d
    obtain ⟨q, hq⟩ := gI_dvd_right n d
    have hg := gI_pos (a := n) (show d ≠ 0 by omega)
    have e1 : n / gI n d = p := Int.ediv_eq_of_eq_mul_right (by omega) hp
    have e2 : d / gI n d = q := Int.ediv_eq_of_eq_mul_right (by omega) hq
    rw [e1, e2]
    generalize gI n d = g at hp hq
    rw [hp, hq]
    grind
  · simp at h
theorem tell_yes {v : Int × Int} {x y : Int} (h : tell v = (x, y, true)) : v = (x, y) ∧ y ≤ 1000000 := by
  unfold tell at h
  split at h
  · simp at h
  · simp only [Prod.mk.injEq, and_true] at h
    obtain ⟨rfl, rfl⟩ := h
    exact ⟨rfl, by omega⟩
theorem tell_one : tell (0, 1) = (0, 1, true) := rfl
/-- What is told of the first span behind which a clock is right. -/
theorem first_yes {a b c d x y : Int} (hc : isC a b c d) (h : agreeT a b c d 0 1 1 1 = (x, y, true)) : isS x y ∧ 1 ≤ x ∧ c ≠ d ∧ ∃ W, 0 < W ∧ W ≤ b ∧ x * (b * ((c - d).natAbs : Int)) = y * (W * d) ∧ (∃ m, a + (if c - d > 0 then W else -W) = b * m) := by
  obtain ⟨⟨a0, a1⟩, ⟨b0, b1⟩, ⟨c0, c1⟩, d0, d1⟩ := isC_bd hc
  unfold agreeT at h
  split at h
  · rw [Int.mul_one, Int.zero_mul, Int.sub_zero, Int.mul_one, Int.mul_one, Int.one_mul, Int.mul_one, mkT_self (isT_low hc.1)] at h
    dsimp only at h
    unfold firstT at h
    split at h
    · simp at h
    · rename_i hz
      have hn : 0 < ((c - d).natAbs : Int) := by omega
      obtain ⟨hs, e⟩ := spanT_yes h (Int.mul_pos (by omega) hn)
      have hw : ∃ W, (if c - d > 0 ∨ a = 0 then b - a else a) = W ∧ 0 < W ∧ W ≤ b ∧ ∃ m, a + (if c - d > 0 then W else -W) = b * m := by
        by_cases q : c - d > 0
        · rw [if_pos (Or.inl q)]
          refine ⟨b - a, rfl, by omega, by omega, 1, ?_⟩
          rw [if_pos q]; omega
        · by_cases z : a = 0
          · rw [if_pos (Or.inr z)]
            refine ⟨b - a, rfl, by omega, by omega, -1, ?_⟩
            rw [if_neg q]; omega
          · rw [if_neg (fun t => t.elim q z)]
            refine ⟨a, rfl, by omega, by omega, 0, ?_⟩
            rw [if_neg q]; omega
      obtain ⟨W, e1, w0, w1, w2⟩ := hw
      rw [e1] at e
      refine ⟨hs, ?_, by omega, W, w0, w1, e, w2⟩
      have p1 : 0 < y * (W * d) := Int.mul_pos (by have := hs.2.1; omega) (Int.mul_pos w0 (by omega))
      rw [← e] at p1
      have p2 : 0 < b * ((c - d).natAbs : Int) := Int.mul_pos (by omega) hn
      have := hs.1.1
      by_cases x0 : x = 0
      · rw [x0, Int.zero_mul] at p1; omega
      · omega
  · simp at h
theorem sgn_mul {c d z : Int} (h : z = ((c - d).natAbs : Int)) (hne : c ≠ d) : c - d = (if c - d > 0 then z else -z) := by
  split <;> omega
theorem first_none {a b c d x y W m : Int} (hb : 0 < b) (hd : 0 < d) (hy : 0 < y) (hne : c ≠ d) (e : x * (b * ((c - d).natAbs : Int)) = y * (W * d)) (hw : a + (if c - d > 0 then W else -W) = b * m) :
    mkT (x * (c - d) * b + a * (y * d)) (y * d * b) = (0, 1) := by
  have s := sgn_mul (c := c) (d := d) rfl hne
  generalize ((c - d).natAbs : Int) = z at e s
  by_cases q : c - d > 0
  · rw [if_pos q] at hw s
    refine ahead_none (W := W) (m := m) hb hd hy ?_ hw
    rw [s]; grind
  · rw [if_neg q] at hw s
    refine ahead_none (W := -W) (m := m) hb hd hy ?_ hw
    rw [s]; grind
/-- What is told of the span behind which a clock is right again. -/
theorem every_yes {a b c d x y : Int} (h : everyT a b c d 0 1 1 1 = (x, y, true)) : isC a b c d ∧ isS x y ∧ x * ((c - d).natAbs : Int) = y * d := by
  unfold everyT at h
  split at h
  · rename_i hq
    rw [Int.mul_one, Int.one_mul, Int.mul_one] at h
    have hz : c - d ≠ 0 := by have := hq.2; omega
    obtain ⟨hs, e⟩ := spanT_yes h (by omega)
    exact ⟨hq.1.1, hs, e⟩
  · simp at h
theorem le_every {b x y p q W z d : Int} (hb : 0 < b) (hz : 0 < z) (hy : 0 < y) (hq : 0 < q) (hd : 0 < d) (hw : W ≤ b) (e : x * (b * z) = y * (W * d)) (e' : p * z = q * d) : x * q ≤ p * y := by
  have h1 : y * q * d * W ≤ y * q * d * b := Int.mul_le_mul_of_nonneg_left hw (Int.le_of_lt (Int.mul_pos (Int.mul_pos hy hq) hd))
  refine Int.le_of_mul_le_mul_right (a := b * z) ?_ (Int.mul_pos hb hz)
  have a1 : x * q * (b * z) = y * q * d * W := by grind
  have a2 : p * y * (b * z) = y * q * d * b := by grind
  rw [a1, a2]; exact h1
theorem next_none {a b c d x y p q r s W m : Int} (hb : 0 < b) (hd : 0 < d) (hy : 0 < y) (hq : 0 < q) (hs : 0 < s) (hne : c ≠ d) (e : x * (b * ((c - d).natAbs : Int)) = y * (W * d)) (hw : a + (if c - d > 0 then W else -W) = b * m) (e' : p * ((c - d).natAbs : Int) = q * d) (en : r * (y * q) = s * (x * q + p * y)) :
    mkT (r * (c - d) * b + a * (s * d)) (s * d * b) = (0, 1) := by
  have sg := sgn_mul (c := c) (d := d) rfl hne
  generalize ((c - d).natAbs : Int) = z at e e' sg
  have hyq : 0 < y * q := Int.mul_pos hy hq
  by_cases g : c - d > 0
  · rw [if_pos g] at hw sg
    refine ahead_none (W := W + b) (m := m + 1) hb hd hs ?_ (by rw [Int.mul_add]; omega)
    refine Int.eq_of_mul_eq_mul_right (a := y * q) (Int.ne_of_gt hyq) ?_
    rw [sg]; grind
  · rw [if_neg g] at hw sg
    refine ahead_none (W := -W - b) (m := m - 1) hb hd hs ?_ (by rw [Int.mul_sub]; omega)
    refine Int.eq_of_mul_eq_mul_right (a := y * q) (Int.ne_of_gt hyq) ?_
    rw [sg]; grind
theorem before_round {x y w1 w2 c d : Int} (hw : 0 < w2) (hy : 0 < y) (hd : 0 < d) (l : w1 < w2) (e : x * (w2 * c) = y * (w1 * d)) : x * c < y * d := by
  refine Int.lt_of_mul_lt_mul_right (a := w2) ?_ (Int.le_of_lt hw)
  have h1 : y * d * w1 < y * d * w2 := Int.mul_lt_mul_of_pos_left l (Int.mul_pos hy hd)
  have a1 : x * c * w2 = y * d * w1 := by grind
  rw [a1]; exact h1
/-! driftfacts: what the law's calls come to -/
theorem IsClock_s (a b c d : Int) : Ev (fun k => spec_IsClock.f k a b c d) (decide (isC a b c d)) := by
  unfold spec_IsClock.f
  exact Ev.bind (drClock_val a b c d) ⟨0, fun _ _ => rfl⟩
theorem iFirstRight_val (a b c d : Int) : Ev (fun k => impl_FirstRight.f k a b c d) (agreeT a b c d 0 1 1 1) := by
  unfold impl_FirstRight.f impl_rightClock.f
  simp only [Option.bind_some]
  exact Ev.bind (ifirst_val a b c d 0 1 1 1) ⟨0, fun _ _ => rfl⟩
theorem iRightEvery_val (a b c d : Int) : Ev (fun k => impl_RightEvery.f k a b c d) (everyT a b c d 0 1 1 1) := by
  unfold impl_RightEvery.f impl_rightClock.f
  simp only [Option.bind_some]
  exact Ev.bind (ievery_val a b c d 0 1 1 1) ⟨0, fun _ _ => rfl⟩
theorem sRightEvery_val (a b c d : Int) : Ev (fun k => spec_RightEvery.f k a b c d) (everyT a b c d 0 1 1 1) := by
  unfold spec_RightEvery.f everyT
  refine Ev.bind (drClock_val a b c d) ?_
  by_cases h1 : isC a b c d
  · simp only [decide_eq_true h1, if_true]
    obtain ⟨g1, g2, g3, g4⟩ := isC_bd h1
    rw [Int.mul_one, Int.one_mul, Int.mul_one]
    refine Ev.up ?_
    simp only [spec_RightEvery.j0]
    by_cases h2 : c = d
    · rw [if_neg (show ¬ ((isC a b c d ∧ isC 0 1 1 1) ∧ c - d ≠ 0) from fun x => x.2 (by omega))]
      simp only [if_pos (show (c == d) = true by simpa using h2)]
      exact ⟨0, fun _ _ => rfl⟩
    · rw [if_pos (show (isC a b c d ∧ isC 0 1 1 1) ∧ c - d ≠ 0 from ⟨⟨h1, right_clock⟩, by omega⟩), wid (x := c - d) (by omega) (by omega), l1Abs_val (by omega) (by omega)]
      simp only [if_neg (show ¬ (c == d) = true by simpa using h2), Option.bind_some]
      exact Ev.bind (drMake_val (by omega) (by omega) (by omega) (by omega)) ⟨0, fun _ _ => rfl⟩
  · simp only [decide_eq_false h1]
    rw [if_neg (fun x => h1 x.1.1)]
    exact Ev.up ⟨0, fun _ _ => rfl⟩
def addT (a b c d : Int) : Int × Int × Bool := if isT a b ∧ isT c d then tell (mkT (a * d + c * b) (b * d)) else (0, 0, false)
theorem iAddTurns_val (a b c d : Int) : Ev (fun k => impl_AddTurns.f k a b c d) (addT a b c d) := by
  unfold impl_AddTurns.f addT impl_areTurns.f
  simp only [Option.bind_some, List.all_cons, List.all_nil, Bool.and_true]
  by_cases h : isT a b ∧ isT c d
  · rw [if_pos h]
    simp only [decide_eq_true h.1, decide_eq_true h.2, Bool.and_self, if_true]
    obtain ⟨⟨b1, b2⟩, ⟨b3, b4⟩, _⟩ := id h.1
    obtain ⟨⟨d1, d2⟩, ⟨d3, d4⟩, _⟩ := id h.2
    refine Ev.bind (plus_val (by omega) (by omega) (by omega) (by omega)) ?_
    exact Ev.bind (ifTurn_mk _ (Int.mul_pos (by omega) (by omega))) ⟨0, fun _ _ => rfl⟩
  · rw [if_neg h]
    simp only [if_neg (show ¬ (decide (isT a b) && decide (isT c d)) = true by intro x; rw [Bool.and_eq_true, decide_eq_true_eq, decide_eq_true_eq] at x; exact h x)]
    exact ⟨0, fun _ _ => rfl⟩
theorem iMakeTurn_span {s t : Int} (h : isS s t) : Ev (fun k => impl_MakeTurn.f k s t) ((mkT s t).1, (mkT s t).2, true) := by
  obtain ⟨k1, k2⟩ := isS_bd h
  unfold impl_MakeTurn.f
  simp only [within_val, Option.bind_some]
  rw [decide_eq_true (show (-1000000000000 : Int) ≤ s ∧ s ≤ 1000000000000 by omega), decide_eq_true (show (1 : Int) ≤ t ∧ t ≤ 1000000000000 by omega)]
  simp only [if_true, Bool.not_true]
  refine Ev.up ?_
  simp only [impl_MakeTurn.j0, Bool.false_eq_true, if_false]
  refine Ev.bind (part_val (by omega) (by omega)) ?_
  refine Ev.bind (ifTurn_mk s (d := t) (by omega)) ⟨0, fun _ _ => ?_⟩
  have : (mkT s t).2 ≤ t := Int.le_of_dvd (by omega) (mkT_dvd _)
  unfold tell
  rw [if_neg (by omega)]
def addS (a b c d : Int) : Int × Int × Bool := if isS a b ∧ isS c d then spanT (a * d + c * b) (b * d) else (0, 0, false)
theorem iAddSpans_val (a b c d : Int) : Ev (fun k => impl_AddSpans.f k a b c d) (addS a b c d) := by
  unfold impl_AddSpans.f addS
  refine Ev.bind (IsSpan_val a b) ?_
  by_cases h1 : isS a b
  · simp only [decide_eq_true h1, if_true]
    refine Ev.bind (IsSpan_val c d) ?_
    by_cases h2 : isS c d
    · simp only [decide_eq_true h2, if_true]
      rw [if_pos ⟨h1, h2⟩]
      obtain ⟨b1, b2⟩ := isS_bd h1
      obtain ⟨d1, d2⟩ := isS_bd h2
      have m1 := mul_bd (M := 1000000) (N := 10000) (x := a) (y := d) (by omega) (by omega)
      have m2 := mul_bd (M := 1000000) (N := 10000) (x := c) (y := b) (by omega) (by omega)
      have m3 := mul_bd (M := 10000) (N := 10000) (x := b) (y := d) (by omega) (by omega)
      have p1 : 0 ≤ a * d := Int.mul_nonneg (by omega) (by omega)
      have p2 : 0 ≤ c * b := Int.mul_nonneg (by omega) (by omega)
      have p3 : 0 < b * d := Int.mul_pos (by omega) (by omega)
      rw [wid (x := a * d) (by omega) (by omega), wid (x := c * b) (by omega) (by omega), wid (x := a * d + c * b) (by omega) (by omega), wid (x := b * d) (by omega) (by omega)]
      exact Ev.bind (spanOf_val (by omega) (by omega) p3 (by omega)) ⟨0, fun _ _ => rfl⟩
    · simp only [decide_eq_false h2]
      rw [if_neg (fun x => h2 x.2)]; exact ⟨0, fun _ _ => rfl⟩
  · simp only [decide_eq_false h1]
    rw [if_neg (fun x => h1 x.1)]; exact ⟨0, fun _ _ => rfl⟩

theorem seen_yes {a b c d s t num x y : Int} (h : seenT a b c d s t num = (x, y, true)) : (isC a b c d ∧ isS s t) ∧ mkT (s * num * b + a * (t * d)) (t * d * b) = (x, y) ∧ y ≤ 1000000 := by
  unfold seenT at h
  split at h
  · rename_i hq
    exact ⟨hq, tell_yes h⟩
  · simp at h
theorem seen_of {a b c d s t num x y : Int} (h : isC a b c d) (h' : isS s t) (e : mkT (s * num * b + a * (t * d)) (t * d * b) = (x, y)) (hy : y ≤ 1000000) : seenT a b c d s t num = (x, y, true) := by
  unfold seenT tell
  rw [if_pos ⟨h, h'⟩, e, if_neg (by dsimp only; omega)]
/-- The true time and by how much it is ahead. -/
theorem fact1 {a b c d s t x1 x2 y1 y2 : Int} (hx : seenT a b c d s t c = (x1, x2, true)) (hy : seenT a b c d s t (c - d) = (y1, y2, true)) : ∃ m1 m2 six, mkT s t = (m1, m2) ∧ isS s t ∧ ∃ u1 u2, addT m1 m2 y1 y2 = (u1, u2, six) ∧ (six = true → u1 = x1 ∧ u2 = x2) := by
  obtain ⟨⟨hc, hs⟩, ex, bx⟩ := seen_yes hx
  obtain ⟨_, ey, by_⟩ := seen_yes hy
  obtain ⟨⟨a0, a1⟩, ⟨b0, b1⟩, ⟨c0, c1⟩, d0, d1⟩ := isC_bd hc
  obtain ⟨k1, k2⟩ := isS_bd hs
  have hq := sum_of (a := a) (b := b) (n := c) (t := t) (d := d) (s := s) (by omega) (by omega) (by omega)
  rw [ey, ex] at hq
  refine ⟨(mkT s t).1, (mkT s t).2, (addT (mkT s t).1 (mkT s t).2 y1 y2).2.2, rfl, hs, (addT (mkT s t).1 (mkT s t).2 y1 y2).1, (addT (mkT s t).1 (mkT s t).2 y1 y2).2.1, rfl, fun h => ?_⟩
  unfold addT at h ⊢
  split at h
  · rename_i hz
    rw [if_pos hz]
    dsimp only at hq
    rw [hq]
    unfold tell
    rw [if_neg (by dsimp only; omega)]
    exact ⟨rfl, rfl⟩
  · simp at h
/-- Set right, it is right. -/
theorem fact2 {a b c d s t s1 s2 s3 s4 : Int} (h : rightT a b c d s t = (s1, s2, s3, s4, true)) : seenT s1 s2 s3 s4 s t (s3 - s4) = (0, 1, true) ∧ s3 = c ∧ s4 = d := by
  unfold rightT at h
  split at h
  · rename_i hq
    simp only [Prod.mk.injEq, and_true] at h
    obtain ⟨e1, e2, rfl, rfl⟩ := h
    obtain ⟨⟨hc, hs⟩, hr⟩ := hq
    rw [e1, e2] at hr
    obtain ⟨⟨a0, a1⟩, ⟨b0, b1⟩, ⟨c0, c1⟩, d0, d1⟩ := isC_bd hc
    obtain ⟨k1, k2⟩ := isS_bd hs
    exact ⟨seen_of hr hs (set_none (by omega) (by omega) (Prod.ext e1 e2)) (by omega), rfl, rfl⟩
  · simp at h
theorem fact5 {a b c d x y : Int} (h : agreeT a b c d 0 1 1 1 = (x, y, true)) : seenT a b c d x y (c - d) = (0, 1, true) ∧ ¬ x < 1 := by
  have hc : isC a b c d := by
    unfold agreeT at h
    split at h
    · rename_i hq; exact hq.1
    · simp at h
  obtain ⟨hs, x1, hne, W, w0, w1, e, m, hm⟩ := first_yes hc h
  obtain ⟨⟨a0, a1⟩, ⟨b0, b1⟩, ⟨c0, c1⟩, d0, d1⟩ := isC_bd hc
  exact ⟨seen_of hc hs (first_none (by omega) (by omega) (by have := hs.2.1; omega) hne e hm) (by omega), by omega⟩
theorem fact6 {a b c d x y p q : Int} (h : agreeT a b c d 0 1 1 1 = (x, y, true)) (h' : everyT a b c d 0 1 1 1 = (p, q, true)) : ¬ wrap64 (x * q) > wrap64 (p * y) ∧ ∃ r s nn, addS x y p q = (r, s, nn) ∧ (nn = true → seenT a b c d r s (c - d) = (0, 1, true)) := by
  obtain ⟨hc, hs', e'⟩ := every_yes h'
  obtain ⟨hs, x1, hne, W, w0, w1, e, m, hm⟩ := first_yes hc h
  obtain ⟨⟨a0, a1⟩, ⟨b0, b1⟩, ⟨c0, c1⟩, d0, d1⟩ := isC_bd hc
  obtain ⟨k1, k2⟩ := isS_bd hs
  obtain ⟨j1, j2⟩ := isS_bd hs'
  have m1 := mul_bd (M := 1000000) (N := 10000) (x := x) (y := q) (by omega) (by omega)
  have m2 := mul_bd (M := 1000000) (N := 10000) (x := p) (y := y) (by omega) (by omega)
  have hz : 0 < ((c - d).natAbs : Int) := by omega
  refine ⟨?_, (addS x y p q).1, (addS x y p q).2.1, (addS x y p q).2.2, rfl, fun hn => ?_⟩
  · rw [wid (x := x * q) (by omega) (by omega), wid (x := p * y) (by omega) (by omega)]
    have := le_every (show 0 < b by omega) hz (show 0 < y by omega) (show 0 < q by omega) (show 0 < d by omega) w1 e e'
    omega
  · have hA : addS x y p q = spanT (x * q + p * y) (y * q) := by unfold addS; rw [if_pos ⟨hs, hs'⟩]
    rw [hA] at hn ⊢
    have hz2 : spanT (x * q + p * y) (y * q) = ((spanT (x * q + p * y) (y * q)).1, (spanT (x * q + p * y) (y * q)).2.1, true) := by rw [← hn]
    obtain ⟨hr, en⟩ := spanT_yes hz2 (Int.mul_pos (by omega) (by omega))
    exact seen_of hc hr (next_none (by omega) (by omega) (by omega) (by omega) (by have := hr.2.1; omega) hne e hm e' en) (by omega)
theorem fact7 {a b c d t1 t2 x y : Int} (h : shownT a b c d t1 t2 = (x, y, true)) : seenT a b c d x y c = (t1, t2, true) ∧ ¬ wrap64 (x * c) ≥ wrap64 (y * d) := by
  unfold shownT at h
  split at h
  · rename_i hq
    obtain ⟨hc, ht⟩ := hq
    obtain ⟨⟨a0, a1⟩, ⟨b0, b1⟩, ⟨c0, c1⟩, d0, d1⟩ := isC_bd hc
    have hb : 0 < t2 * b := Int.mul_pos (by have := ht.1; omega) (by omega)
    have L := mkT_low (t1 * b - a * t2) hb
    generalize hw : mkT (t1 * b - a * t2) (t2 * b) = v at h L
    obtain ⟨w1, w2⟩ := v
    dsimp only at h L
    obtain ⟨hs, e⟩ := spanT_yes h (Int.mul_pos L.1 (by omega))
    obtain ⟨k1, k2⟩ := isS_bd hs
    have m1 := mul_bd (M := 1000000) (N := 1000) (x := x) (y := c) (by omega) (by omega)
    have m2 := mul_bd (M := 10000) (N := 1000) (x := y) (y := d) (by omega) (by omega)
    refine ⟨seen_of hc hs (shows (by omega) (by omega) (by omega) (by omega) (isT_low ht) hw e) ht.1.2, ?_⟩
    rw [wid (x := x * c) (by omega) (by omega), wid (x := y * d) (by omega) (by omega)]
    have := before_round L.1 (show 0 < y by omega) (show 0 < d by omega) L.2.2.1 e
    omega
  · simp at h
theorem Ev.imp {p : Prop} {P : Nat → Prop} (h : p → ∃ K, ∀ k, K ≤ k → P k) : ∃ K, ∀ k, K ≤ k → p → P k := by
  by_cases hp : p
  · obtain ⟨K, hK⟩ := h hp
    exact ⟨K, fun k hk _ => hK k hk⟩
  · exact ⟨0, fun _ _ x => absurd x hp⟩
theorem triple_eq {α β : Type} {v : α × β × Bool} (h : v.2.2 = true) : v = (v.1, v.2.1, true) := by
  obtain ⟨a, b, c⟩ := v
  simp only at h
  subst h
  rfl
/-! driftlaw: all that the law's walk asks, at one bound -/
theorem drift_facts (a0 a1 a2 a3 b0 b1 c0 c1 c2 c3 d0 d1 d2 d3 t0 t1 : Int) : ∃ (K : Nat) (x1 x2 y1 y2 s1 s2 s3 s4 f1 f2 e1 e2 h1 h2 : Int) (ok one three five seven nine ck : Bool), ∀ k, K ≤ k →
    impl_ShownAfter.f k a0 a1 a2 a3 b0 b1 = some (x1, x2, ok) ∧ spec_ShownAfter.f k a0 a1 a2 a3 b0 b1 = some (x1, x2, ok) ∧
    impl_AheadAfter.f k a0 a1 a2 a3 b0 b1 = some (y1, y2, one) ∧ spec_AheadAfter.f k a0 a1 a2 a3 b0 b1 = some (y1, y2, one) ∧
    impl_SetRight.f k a0 a1 a2 a3 b0 b1 = some (s1, s2, s3, s4, three) ∧ spec_SetRight.f k a0 a1 a2 a3 b0 b1 = some (s1, s2, s3, s4, three) ∧
    (ok = true → one = true → ∃ m1 m2 u1 u2 six, impl_MakeTurn.f k b0 b1 = some (m1, m2, true) ∧ impl_AddTurns.f k m1 m2 y1 y2 = some (u1, u2, six) ∧ (six = true → u1 = x1 ∧ u2 = x2)) ∧
    (three = true → impl_AheadAfter.f k s1 s2 s3 s4 b0 b1 = some (0, 1, true) ∧ a2 = s3 ∧ a3 = s4) ∧
    impl_FirstRight.f k c0 c1 c2 c3 = some (f1, f2, five) ∧ spec_FirstRight.f k c0 c1 c2 c3 = some (f1, f2, five) ∧
    impl_RightEvery.f k c0 c1 c2 c3 = some (e1, e2, seven) ∧ spec_RightEvery.f k c0 c1 c2 c3 = some (e1, e2, seven) ∧
    impl_IsClock.f k c0 c1 c2 c3 = some ck ∧ spec_IsClock.f k c0 c1 c2 c3 = some ck ∧
    (five = true → ck = true) ∧ (seven = true → ck = true) ∧
    (five = true → impl_AheadAfter.f k c0 c1 c2 c3 f1 f2 = some (0, 1, true) ∧ ¬ f1 < 1) ∧
    (five = true → seven = true → ¬ wrap64 (f1 * e2) > wrap64 (e1 * f2) ∧ ∃ n1 n2 nn, impl_AddSpans.f k f1 f2 e1 e2 = some (n1, n2, nn) ∧ (nn = true → impl_AheadAfter.f k c0 c1 c2 c3 n1 n2 = some (0, 1, true))) ∧
    impl_FirstShown.f k d0 d1 d2 d3 t0 t1 = some (h1, h2, nine) ∧ spec_FirstShown.f k d0 d1 d2 d3 t0 t1 = some (h1, h2, nine) ∧
    (nine = true → impl_ShownAfter.f k d0 d1 d2 d3 h1 h2 = some (t0, t1, true) ∧ ¬ wrap64 (h1 * d2) ≥ wrap64 (h2 * d3)) := by
  obtain ⟨K1, H1⟩ := iShownAfter_val a0 a1 a2 a3 b0 b1
  obtain ⟨K2, H2⟩ := sShownAfter_val a0 a1 a2 a3 b0 b1
  obtain ⟨K3, H3⟩ := iAheadAfter_val a0 a1 a2 a3 b0 b1
  obtain ⟨K4, H4⟩ := sAheadAfter_val a0 a1 a2 a3 b0 b1
  obtain ⟨K5, H5⟩ := iSetRight_val a0 a1 a2 a3 b0 b1
  obtain ⟨K6, H6⟩ := sSetRight_val a0 a1 a2 a3 b0 b1
  obtain ⟨K7, H7⟩ := iFirstRight_val c0 c1 c2 c3
  obtain ⟨K8, H8⟩ := sFirstRight_val c0 c1 c2 c3
  obtain ⟨K9, H9⟩ := iRightEvery_val c0 c1 c2 c3
  obtain ⟨K10, H10⟩ := sRightEvery_val c0 c1 c2 c3
  obtain ⟨K11, H11⟩ := IsClock_val c0 c1 c2 c3
  obtain ⟨K12, H12⟩ := IsClock_s c0 c1 c2 c3
  obtain ⟨K13, H13⟩ := iFirstShown_val d0 d1 d2 d3 t0 t1
  obtain ⟨K14, H14⟩ := sFirstShown_val d0 d1 d2 d3 t0 t1
  generalize hv1 : seenT a0 a1 a2 a3 b0 b1 a2 = v1 at H1 H2
  generalize hv2 : seenT a0 a1 a2 a3 b0 b1 (a2 - a3) = v2 at H3 H4
  generalize hv3 : rightT a0 a1 a2 a3 b0 b1 = v3 at H5 H6
  generalize hv4 : agreeT c0 c1 c2 c3 0 1 1 1 = v4 at H7 H8
  generalize hv5 : everyT c0 c1 c2 c3 0 1 1 1 = v5 at H9 H10
  generalize hv6 : shownT d0 d1 d2 d3 t0 t1 = v6 at H13 H14
  have C1 : ∃ K, ∀ k, K ≤ k → (v1.2.2 = true ∧ v2.2.2 = true) → ∃ m1 m2 u1 u2 six, impl_MakeTurn.f k b0 b1 = some (m1, m2, true) ∧ impl_AddTurns.f k m1 m2 v2.1 v2.2.1 = some (u1, u2, six) ∧ (six = true → u1 = v1.1 ∧ u2 = v1.2.1) := by
    refine Ev.imp fun hp => ?_
    obtain ⟨m1, m2, six, em, hs, u1, u2, ea, he⟩ := fact1 (hv1.trans (triple_eq hp.1)) (hv2.trans (triple_eq hp.2))
    obtain ⟨L1, G1⟩ := iMakeTurn_span hs
    obtain ⟨L2, G2⟩ := iAddTurns_val m1 m2 v2.1 v2.2.1
    rw [em] at G1
    rw [ea] at G2
    exact ⟨max L1 L2, fun k hk => ⟨m1, m2, u1, u2, six, G1 k (by omega), G2 k (by omega), he⟩⟩
  have C2 : ∃ K, ∀ k, K ≤ k → v3.2.2.2.2 = true → impl_AheadAfter.f k v3.1 v3.2.1 v3.2.2.1 v3.2.2.2.1 b0 b1 = some (0, 1, true) ∧ a2 = v3.2.2.1 ∧ a3 = v3.2.2.2.1 := by
    refine Ev.imp fun hp => ?_
    obtain ⟨s1, s2, s3, s4, three⟩ := v3
    dsimp only at hp ⊢
    subst hp
    obtain ⟨e, e3, e4⟩ := fact2 hv3
    obtain ⟨L1, G1⟩ := iAheadAfter_val s1 s2 s3 s4 b0 b1
    rw [e] at G1
    exact ⟨L1, fun k hk => ⟨G1 k hk, e3.symm, e4.symm⟩⟩
  have C5 : ∃ K, ∀ k, K ≤ k → v4.2.2 = true → impl_AheadAfter.f k c0 c1 c2 c3 v4.1 v4.2.1 = some (0, 1, true) ∧ ¬ v4.1 < 1 := by
    refine Ev.imp fun hp => ?_
    obtain ⟨e, e2⟩ := fact5 (hv4.trans (triple_eq hp))
    obtain ⟨L1, G1⟩ := iAheadAfter_val c0 c1 c2 c3 v4.1 v4.2.1
    rw [e] at G1
    exact ⟨L1, fun k hk => ⟨G1 k hk, e2⟩⟩
  have C6 : ∃ K, ∀ k, K ≤ k → (v4.2.2 = true ∧ v5.2.2 = true) → ¬ wrap64 (v4.1 * v5.2.1) > wrap64 (v5.1 * v4.2.1) ∧ ∃ n1 n2 nn, impl_AddSpans.f k v4.1 v4.2.1 v5.1 v5.2.1 = some (n1, n2, nn) ∧ (nn = true → impl_AheadAfter.f k c0 c1 c2 c3 n1 n2 = some (0, 1, true)) := by
    refine Ev.imp fun hp => ?_
    obtain ⟨e0, r, s, nn, ea, he⟩ := fact6 (hv4.trans (triple_eq hp.1)) (hv5.trans (triple_eq hp.2))
    obtain ⟨L1, G1⟩ := iAddSpans_val v4.1 v4.2.1 v5.1 v5.2.1
    obtain ⟨L2, G2⟩ := iAheadAfter_val c0 c1 c2 c3 r s
    rw [ea] at G1
    refine ⟨max L1 L2, fun k hk => ⟨e0, r, s, nn, G1 k (by omega), fun hn => ?_⟩⟩
    have := G2 k (by omega)
    rw [he hn] at this
    exact this
  have C7 : ∃ K, ∀ k, K ≤ k → v6.2.2 = true → impl_ShownAfter.f k d0 d1 d2 d3 v6.1 v6.2.1 = some (t0, t1, true) ∧ ¬ wrap64 (v6.1 * d2) ≥ wrap64 (v6.2.1 * d3) := by
    refine Ev.imp fun hp => ?_
    obtain ⟨e, e2⟩ := fact7 (hv6.trans (triple_eq hp))
    obtain ⟨L1, G1⟩ := iShownAfter_val d0 d1 d2 d3 v6.1 v6.2.1
    rw [e] at G1
    exact ⟨L1, fun k hk => ⟨G1 k hk, e2⟩⟩
  obtain ⟨M1, D1⟩ := C1
  obtain ⟨M2, D2⟩ := C2
  obtain ⟨M5, D5⟩ := C5
  obtain ⟨M6, D6⟩ := C6
  obtain ⟨M7, D7⟩ := C7
  have S : ∀ x ∈ [K1, K2, K3, K4, K5, K6, K7, K8, K9, K10, K11, K12, K13, K14, M1, M2, M5, M6, M7], x ≤ K1 + K2 + K3 + K4 + K5 + K6 + K7 + K8 + K9 + K10 + K11 + K12 + K13 + K14 + M1 + M2 + M5 + M6 + M7 := by
    intro x hx
    simp only [List.mem_cons, List.not_mem_nil, or_false] at hx
    omega
  generalize K1 + K2 + K3 + K4 + K5 + K6 + K7 + K8 + K9 + K10 + K11 + K12 + K13 + K14 + M1 + M2 + M5 + M6 + M7 = K at S
  refine ⟨K, v1.1, v1.2.1, v2.1, v2.2.1, v3.1, v3.2.1, v3.2.2.1, v3.2.2.2.1, v4.1, v4.2.1, v5.1, v5.2.1, v6.1, v6.2.1, v1.2.2, v2.2.2, v3.2.2.2.2, v4.2.2, v5.2.2, v6.2.2, decide (isC c0 c1 c2 c3), fun k hk => ?_⟩
  have S := fun x (hx : x ∈ _) => Nat.le_trans (S x hx) hk
  refine ⟨H1 k (S _ (by simp)), H2 k (S _ (by simp)), H3 k (S _ (by simp)), H4 k (S _ (by simp)), H5 k (S _ (by simp)), H6 k (S _ (by simp)), fun x y => D1 k (S _ (by simp)) ⟨x, y⟩, D2 k (S _ (by simp)), H7 k (S _ (by simp)), H8 k (S _ (by simp)), H9 k (S _ (by simp)), H10 k (S _ (by simp)), H11 k (S _ (by simp)), H12 k (S _ (by simp)), ?_, ?_, D5 k (S _ (by simp)), fun x y => D6 k (S _ (by simp)) ⟨x, y⟩, H13 k (S _ (by simp)), H14 k (S _ (by simp)), D7 k (S _ (by simp))⟩
  · intro h
    refine decide_eq_true ?_
    have hz := hv4.trans (triple_eq h)
    unfold agreeT at hz
    split at hz
    · rename_i hq; exact hq.1
    · simp at hz
  · intro h
    exact decide_eq_true (every_yes (hv5.trans (triple_eq h))).1
/-! lcur: whatever bytes are given, choices are drawn -/
theorem u64_bd (n : Int) : 0 ≤ IntKind.u64.wrap n ∧ IntKind.u64.wrap n < 18446744073709551616 := by
  rw [IntKind.wrap_u64]; omega
theorem and255 (n : Int) : 0 ≤ Go.bits .and .u64 (IntKind.u64.wrap n / 1099511627776) 255 ∧ Go.bits .and .u64 (IntKind.u64.wrap n / 1099511627776) 255 ≤ 255 := by
  have h := u64_bd n
  have e := bits_mask .u64 64 (by decide) (fun n h0 h1 => by rw [IntKind.wrap_u64]; omega) 8 (by decide) (IntKind.u64.wrap n / 1099511627776) (by omega) (by omega)
  have e2 : Go.bits .and .u64 (IntKind.u64.wrap n / 1099511627776) 255 = (IntKind.u64.wrap n / 1099511627776) % 256 := e
  rw [e2]; omega
def bytesOk (l : List Int) : Prop := ∀ x ∈ l, 0 ≤ x ∧ x ≤ 255
theorem rd_ok {l : List Int} (hl : bytesOk l) {i : Int} (h0 : 0 ≤ i) (h1 : i < (l.length : Int)) : 0 ≤ rd l i ∧ rd l i ≤ 255 := by
  have hi : i.toNat < l.length := by omega
  have e : rd l i = l[i.toNat] := by unfold rd; rw [List.getD_eq_getElem?_getD, List.getElem?_eq_getElem hi]; rfl
  rw [e]; exact hl _ (List.getElem_mem hi)
theorem next_tot {l : List Int} (hl : bytesOk l) {i : Int} (h0 : 0 ≤ i) (h1 : i ≤ 1000000) (s : Int) : ∃ x s', spec_l1Cur_next.f l i s = some (x, i + 1, s') ∧ 0 ≤ x ∧ x ≤ 255 := by
  unfold spec_l1Cur_next.f
  rw [wid (x := i + 1) (by omega) (by omega)]
  by_cases a : i < (l.length : Int)
  · have r := rd_ok hl h0 a
    rw [if_pos a, if_pos h0]
    by_cases b : i + 1 ≤ (l.length : Int)
    · rw [if_pos b, wid (x := rd l i) (by omega) (by omega)]
      exact ⟨_, _, rfl, r⟩
    · omega
  · rw [if_neg a]
    by_cases b : i + 1 ≤ (l.length : Int)
    · omega
    · rw [if_neg b]
      have z := and255 ((IntKind.u64.wrap (IntKind.u64.wrap (s * 6364136223846793005))) + 1442695040888963407)
      exact ⟨_, _, rfl, by rw [wid (by omega) (by omega)]; exact z⟩
theorem pick_tot {l : List Int} (hl : bytesOk l) {i : Int} (h0 : 0 ≤ i) (h1 : i ≤ 999990) (s : Int) {n : Int} (hn : n ≤ 1000000) : ∃ x j s', spec_l1Cur_pick.f l i s n = some (x, j, s') ∧ (0 ≤ x ∧ (x < n ∨ x = 0)) ∧ i ≤ j ∧ j ≤ i + 2 := by
  unfold spec_l1Cur_pick.f
  by_cases a : n ≤ 1
  · rw [if_pos a]
    exact ⟨_, _, _, rfl, ⟨by omega, Or.inr rfl⟩, by omega, by omega⟩
  · rw [if_neg a]
    obtain ⟨x, s', e, b⟩ := next_tot hl h0 (by omega) s
    rw [e]
    simp only [Option.bind_some]
    by_cases c : n > 200
    · obtain ⟨x', s'', e', b'⟩ := next_tot hl (i := i + 1) (by omega) (by omega) s'
      rw [if_pos c, e']
      simp only [Option.bind_some]
      rw [if_neg (by omega), wid (x := x * 256) (by omega) (by omega), wid (x := x * 256 + x') (by omega) (by omega), tmod_nn _ (by omega)]
      exact ⟨_, _, _, rfl, ⟨Int.emod_nonneg _ (by omega), Or.inl (Int.emod_lt_of_pos _ (by omega))⟩, by omega, by omega⟩
    · rw [if_neg c, if_neg (by omega), tmod_nn _ (by omega)]
      exact ⟨_, _, _, rfl, ⟨Int.emod_nonneg _ (by omega), Or.inl (Int.emod_lt_of_pos _ (by omega))⟩, by omega, by omega⟩
theorem among_tot {l : List Int} (hl : bytesOk l) {i : Int} (h0 : 0 ≤ i) (h1 : i ≤ 999990) (s : Int) (xs : List Int) (hx : 0 < xs.length ∧ xs.length ≤ 1000) : ∃ x j s', spec_l1Cur_among.f l i s xs = some (x, j, s') ∧ i ≤ j ∧ j ≤ i + 2 := by
  obtain ⟨x, j, s', e, b, c⟩ := pick_tot hl h0 h1 s (n := (xs.length : Int)) (by omega)
  unfold spec_l1Cur_among.f
  rw [e]
  simp only [Option.bind_some]
  rw [if_pos b.1, if_pos (by omega)]
  exact ⟨_, _, _, rfl, c⟩
theorem sureTurn_tot {l : List Int} (hl : bytesOk l) {i : Int} (h0 : 0 ≤ i) (h1 : i ≤ 999980) (s : Int) : ∃ a b j s', Ev (fun k => spec_l1Cur_sureTurn.f k l i s) (a, b, j, s') ∧ i ≤ j ∧ j ≤ i + 4 := by
  unfold spec_l1Cur_sureTurn.f
  simp only [Option.bind_some]
  obtain ⟨x, j, s', e, b, c⟩ := pick_tot hl h0 (by omega) s (n := (([1, 2, 3, 4, 6, 8, 11, 12, 13, 24, 60, 143, 720, 719, 7, 5] : List Int).length : Int)) (by decide)
  rw [e]
  simp only [Option.bind_some]
  have hb : x < (([1, 2, 3, 4, 6, 8, 11, 12, 13, 24, 60, 143, 720, 719, 7, 5] : List Int).length : Int) := by
    have : (([1, 2, 3, 4, 6, 8, 11, 12, 13, 24, 60, 143, 720, 719, 7, 5] : List Int).length : Int) = 16 := rfl
    omega
  simp only [if_pos b.1, if_pos hb]
  have hd : 0 < rd [1, 2, 3, 4, 6, 8, 11, 12, 13, 24, 60, 143, 720, 719, 7, 5] x ∧ rd [1, 2, 3, 4, 6, 8, 11, 12, 13, 24, 60, 143, 720, 719, 7, 5] x ≤ 720 := by
    have hx : x < 16 := hb
    have hx0 := b.1
    obtain ⟨n, rfl⟩ := Int.eq_ofNat_of_zero_le hx0
    have hn : n < 16 := by omega
    have : ∀ m : Fin 16, 0 < rd [1, 2, 3, 4, 6, 8, 11, 12, 13, 24, 60, 143, 720, 719, 7, 5] (m.val : Int) ∧ rd [1, 2, 3, 4, 6, 8, 11, 12, 13, 24, 60, 143, 720, 719, 7, 5] (m.val : Int) ≤ 720 := by decide
    exact this ⟨n, hn⟩
  generalize rd [1, 2, 3, 4, 6, 8, 11, 12, 13, 24, 60, 143, 720, 719, 7, 5] x = d at hd
  obtain ⟨y, j', s'', e', b', c'⟩ := pick_tot hl (i := j) (by omega) (by omega) s' (n := d) (by omega)
  rw [e']
  simp only [Option.bind_some]
  exact ⟨_, _, _, _, Ev.bind (diMake_val hd.1 (by omega)) ⟨0, fun _ _ => rfl⟩, (by (try dsimp only); omega), (by (try dsimp only); omega)⟩
theorem turn_tot {l : List Int} (hl : bytesOk l) {i : Int} (h0 : 0 ≤ i) (h1 : i ≤ 999970) (s : Int) : ∃ a b j s', Ev (fun k => spec_l1Cur_turn.f k l i s) (a, b, j, s') ∧ i ≤ j ∧ j ≤ i + 6 := by
  unfold spec_l1Cur_turn.f
  obtain ⟨x, j, s', e, b, c⟩ := pick_tot hl h0 (by omega) s (n := 16) (by omega)
  rw [e]
  simp only [Option.bind_some]
  by_cases x0 : x = 0
  · simp only [if_pos x0]
    obtain ⟨y, j', s2, e2, c2⟩ := among_tot hl (i := j) (by omega) (by omega) s' [(-1), 0, 2, 5, 4611686018427387904] (by decide)
    rw [e2]
    simp only [Option.bind_some]
    obtain ⟨z, j3, s3, e3, c3⟩ := among_tot hl (i := j') (by omega) (by omega) s2 [0, 1, 2, 4, 1000000, 1000001, (-3)] (by decide)
    rw [e3]
    exact ⟨_, _, _, _, ⟨0, fun _ _ => rfl⟩, (by (try dsimp only); omega), (by (try dsimp only); omega)⟩
  · simp only [if_neg x0]
    by_cases x1 : x = 1
    · simp only [if_pos x1]
      obtain ⟨y, j', s2, e2, c2⟩ := among_tot hl (i := j) (by omega) (by omega) s' [1, 999999, 7] (by decide)
      rw [e2]
      exact ⟨_, _, _, _, ⟨0, fun _ _ => rfl⟩, (by (try dsimp only); omega), (by (try dsimp only); omega)⟩
    · simp only [if_neg x1]
      by_cases x2 : x = 2
      · simp only [if_pos x2]
        obtain ⟨y, j', s2, e2, b2, c2⟩ := pick_tot hl (i := j) (by omega) (by omega) s' (n := 900000) (by omega)
        rw [e2]
        exact ⟨_, _, _, _, ⟨0, fun _ _ => rfl⟩, (by (try dsimp only); omega), (by (try dsimp only); omega)⟩
      · simp only [if_neg x2]
        obtain ⟨a, b', j', s2, e2, c2⟩ := sureTurn_tot hl (i := j) (by omega) (by omega) s'
        exact ⟨_, _, _, _, Ev.bind e2 ⟨0, fun _ _ => rfl⟩, (by (try dsimp only); omega), (by (try dsimp only); omega)⟩
/-! lcur2: clocks and spans are drawn whatever bytes are given -/
theorem among_mem {l : List Int} (hl : bytesOk l) {i : Int} (h0 : 0 ≤ i) (h1 : i ≤ 999990) (s : Int) (xs : List Int) (hx : 0 < xs.length ∧ xs.length ≤ 1000) : ∃ x j s', spec_l1Cur_among.f l i s xs = some (x, j, s') ∧ x ∈ xs ∧ i ≤ j ∧ j ≤ i + 2 := by
  obtain ⟨x, j, s', e, b, c⟩ := pick_tot hl h0 h1 s (n := (xs.length : Int)) (by omega)
  unfold spec_l1Cur_among.f
  rw [e]
  simp only [Option.bind_some]
  rw [if_pos b.1, if_pos (by omega)]
  refine ⟨_, _, _, rfl, ?_, c⟩
  have hi : x.toNat < xs.length := by omega
  have er : rd xs x = xs[x.toNat] := by unfold rd; rw [List.getD_eq_getElem?_getD, List.getElem?_eq_getElem hi]; rfl
  rw [er]
  exact List.getElem_mem hi
theorem clock_tot {l : List Int} (hl : bytesOk l) {i : Int} (h0 : 0 ≤ i) (h1 : i ≤ 999900) (s : Int) : ∃ a b c d j s', Ev (fun k => spec_l1Cur_clock.f k l i s) (a, b, c, d, j, s') ∧ i ≤ j ∧ j ≤ i + 20 := by
  unfold spec_l1Cur_clock.f
  obtain ⟨ta, tb, j1, s1, e1, c1⟩ := sureTurn_tot hl (i := i) (by omega) (by omega) s
  obtain ⟨p, j2, s2, e2, b2, c2⟩ := pick_tot hl (i := j1) (by omega) (by omega) s1 (n := 50) (by omega)
  have wp : wrap64 (1 + p) = 1 + p := wid (by omega) (by omega)
  obtain ⟨n, j3, s3, e3, m3, c3⟩ := among_mem hl (i := j2) (by omega) (by omega) s2 [73, 71, 72, 1, 2, 3, 100, 999, 1000, wrap64 (1 + p)] ⟨Nat.zero_lt_succ _, by simp only [List.length_cons, List.length_nil]; omega⟩
  have hn : 1 ≤ n ∧ n ≤ 1000 := by
    rw [wp] at m3
    simp only [List.mem_cons, List.not_mem_nil, or_false] at m3
    omega
  obtain ⟨q, j4, s4, e4, b4, c4⟩ := pick_tot hl (i := j3) (by omega) (by omega) s3 (n := 50) (by omega)
  have wq : wrap64 (1 + q) = 1 + q := wid (by omega) (by omega)
  obtain ⟨d, j5, s5, e5, m5, c5⟩ := among_mem hl (i := j4) (by omega) (by omega) s4 [72, 72, 72, 1, 3, 99, 1000, wrap64 (1 + q)] ⟨Nat.zero_lt_succ _, by simp only [List.length_cons, List.length_nil]; omega⟩
  have hd : 1 ≤ d ∧ d ≤ 1000 := by
    rw [wq] at m5
    simp only [List.mem_cons, List.not_mem_nil, or_false] at m5
    omega
  obtain ⟨r, j6, s6, e6, b6, c6⟩ := pick_tot hl (i := j5) (by omega) (by omega) s5 (n := 16) (by omega)
  have g := gI_pos (a := n) (b := d) (by omega)
  have gc := diCommon_val (a := n) (b := d) (by omega) (by omega)
  by_cases r0 : r = 0
  · obtain ⟨y, j7, s7, e7, _, c7⟩ := among_mem hl (i := j6) (by omega) (by omega) s6 [0, (-1), 1000, 1001, 4611686018427387904] (by decide)
    refine ⟨ta, tb, y, wrap64 (Int.tdiv d (gI n d)), j7, s7, Ev.bind e1 ?_, by omega, by omega⟩
    dsimp only
    simp only [e2, e3, e4, e5, Option.bind_some]
    refine Ev.bind gc ?_
    simp only [if_neg (show ¬ gI n d = 0 by omega), e6, Option.bind_some, if_pos r0, e7]
    exact ⟨0, fun _ _ => rfl⟩
  · by_cases r1 : r = 1
    · obtain ⟨ya, yb, j7, s7, e7, c7⟩ := turn_tot hl (i := j6) (by omega) (by omega) s6
      refine ⟨ya, yb, wrap64 (Int.tdiv n (gI n d)), wrap64 (Int.tdiv d (gI n d)), j7, s7, Ev.bind e1 ?_, by omega, by omega⟩
      dsimp only
      simp only [e2, e3, e4, e5, Option.bind_some]
      refine Ev.bind gc ?_
      simp only [if_neg (show ¬ gI n d = 0 by omega), e6, Option.bind_some, if_neg r0, if_pos r1]
      exact Ev.bind e7 ⟨0, fun _ _ => rfl⟩
    · refine ⟨ta, tb, wrap64 (Int.tdiv n (gI n d)), wrap64 (Int.tdiv d (gI n d)), j6, s6, Ev.bind e1 ?_, by omega, by omega⟩
      dsimp only
      simp only [e2, e3, e4, e5, Option.bind_some]
      refine Ev.bind gc ?_
      simp only [if_neg (show ¬ gI n d = 0 by omega), e6, Option.bind_some, if_neg r0, if_neg r1]
      exact ⟨0, fun _ _ => rfl⟩
theorem span_tot {l : List Int} (hl : bytesOk l) {i : Int} (h0 : 0 ≤ i) (h1 : i ≤ 999900) (s : Int) : ∃ a b j s', Ev (fun k => spec_l1Cur_span.f k l i s) (a, b, j, s') ∧ i ≤ j ∧ j ≤ i + 8 := by
  unfold spec_l1Cur_span.f
  obtain ⟨x, j, s1, e, b, c⟩ := pick_tot hl h0 (by omega) s (n := 14) (by omega)
  simp only [e, Option.bind_some]
  by_cases x0 : x = 0
  · simp only [if_pos x0]
    obtain ⟨y, j', s2, e2, c2⟩ := among_tot hl (i := j) (by omega) (by omega) s1 [(-1), 0, 2, 1000000, 1000001, 4611686018427387904] (by decide)
    obtain ⟨z, j3, s3, e3, c3⟩ := among_tot hl (i := j') (by omega) (by omega) s2 [0, 1, 2, 10000, 10001, (-1)] (by decide)
    simp only [e2, e3, Option.bind_some]
    exact ⟨_, _, _, _, ⟨0, fun _ _ => rfl⟩, (by (try dsimp only); omega), (by (try dsimp only); omega)⟩
  · simp only [if_neg x0]
    by_cases x1 : x = 1
    · simp only [if_pos x1]
      exact ⟨_, _, _, _, ⟨0, fun _ _ => rfl⟩, (by (try dsimp only); omega), (by (try dsimp only); omega)⟩
    · simp only [if_neg x1]
      obtain ⟨p, j2, s2, e2, b2, c2⟩ := pick_tot hl (i := j) (by omega) (by omega) s1 (n := 200) (by omega)
      obtain ⟨q, j3, s3, e3, b3, c3⟩ := pick_tot hl (i := j2) (by omega) (by omega) s2 (n := 24) (by omega)
      simp only [e2, e3, Option.bind_some]
      rw [wid (x := 1 + q) (by omega) (by omega)]
      exact ⟨_, _, _, _, Ev.bind (drMake_val (by omega) (by omega) (by omega) (by omega)) ⟨0, fun _ _ => rfl⟩, (by (try dsimp only); omega), (by (try dsimp only); omega)⟩
theorem big_val (l0 l1 : List Int) : ∃ b, laws_big.f l0 l1 = some b := by
  unfold laws_big.f
  by_cases h : (l0.length : Int) > 1048576
  · rw [if_pos h]; exact ⟨_, rfl⟩
  · rw [if_neg h]; exact ⟨_, rfl⟩
theorem wf_u8 {l : List Int} (h : ∀ x ∈ l, (Lit.int .u8 x).wf = true) : bytesOk l := by
  intro x hx
  have e := h x hx
  have e1 : (0 : Int) ≤ x ∧ x ≤ 255 := by
    unfold Lit.wf at e
    simp only [Bool.and_eq_true, decide_eq_true_eq] at e
    exact e
  exact e1
theorem drawShown_tot {l : List Int} (hl : bytesOk l) : ∃ a b c d x y, Ev (fun k => spec_DrawShownAfter.f k l) (a, b, c, d, x, y) := by
  obtain ⟨a, b, c, d, j, s1, e1, c1⟩ := clock_tot hl (i := 0) (by omega) (by omega) 0
  obtain ⟨x, y, j', s2, e2, c2⟩ := span_tot hl (i := j) (by omega) (by omega) s1
  refine ⟨a, b, c, d, x, y, ?_⟩
  unfold spec_DrawShownAfter.f
  exact Ev.bind e1 (Ev.bind e2 ⟨0, fun _ _ => rfl⟩)
theorem drawFirst_tot {l : List Int} (hl : bytesOk l) : ∃ a b c d x y, Ev (fun k => spec_DrawFirstShown.f k l) (a, b, c, d, x, y) := by
  obtain ⟨a, b, c, d, j, s1, e1, c1⟩ := clock_tot hl (i := 0) (by omega) (by omega) 0
  obtain ⟨x, y, j', s2, e2, c2⟩ := turn_tot hl (i := j) (by omega) (by omega) s1
  refine ⟨a, b, c, d, x, y, ?_⟩
  unfold spec_DrawFirstShown.f
  exact Ev.bind e1 (Ev.bind e2 ⟨0, fun _ _ => rfl⟩)
theorem drawRight_tot {l : List Int} (hl : bytesOk l) : ∃ a b c d, Ev (fun k => spec_DrawFirstRight.f k l) (a, b, c, d) := by
  obtain ⟨a, b, c, d, j, s1, e1, c1⟩ := clock_tot hl (i := 0) (by omega) (by omega) 0
  refine ⟨a, b, c, d, ?_⟩
  unfold spec_DrawFirstRight.f spec_DrawIsClock.f
  exact Ev.bind (Ev.bind e1 ⟨0, fun _ _ => rfl⟩) ⟨0, fun _ _ => rfl⟩
theorem FnClocksDrift : laws_FnClocksDrift.Pure := by
  intro r0 len0 cap0 z0 r1 len1 cap1 z1 w w0 y0' w1 y1'
  obtain ⟨l0, g0, hr0, _, hw0, hc0⟩ := ReadsInt.ofRowC w0
  obtain ⟨l1, g1, hr1, _, hw1, hc1⟩ := ReadsInt.ofRowC w1
  subst g0; subst g1
  obtain ⟨big, A0⟩ := big_val l0 l1
  obtain ⟨a0, a1, a2, a3, b0, b1, K1, E1⟩ := drawShown_tot (wf_u8 hw0)
  obtain ⟨c0, c1, c2, c3, K2, E2⟩ := drawRight_tot (wf_u8 hw1)
  obtain ⟨d0, d1, d2, d3, t0, t1, K3, E3⟩ := drawFirst_tot (wf_u8 hw1)
  obtain ⟨K4, x1, x2, y1, y2, s1, s2, s3, s4, f1, f2, e1, e2, h1, h2, ok, one, three, five, seven, nine, ck, H⟩ := drift_facts a0 a1 a2 a3 b0 b1 c0 c1 c2 c3 d0 d1 d2 d3 t0 t1
  have k1 : K1 ≤ K1 + K2 + K3 + K4 := by omega
  have k2 : K2 ≤ K1 + K2 + K3 + K4 := by omega
  have k3 : K3 ≤ K1 + K2 + K3 + K4 := by omega
  have k4 : K4 ≤ K1 + K2 + K3 + K4 := by omega
  generalize K1 + K2 + K3 + K4 = k at k1 k2 k3 k4
  obtain ⟨A1, A2, A3, A4, A5, A6, B1, B2, A7, A8, A9, A10, A11, A12, B3, B4, B5, B6, A13, A14, B7⟩ := H k k4
  exact walkV k a0 a1 a2 a3 b0 b1 c0 c1 c2 c3 d0 d1 d2 d3 t0 t1 x1 x2 y1 y2 s1 s2 s3 s4 f1 f2 e1 e2 h1 h2 ok one three five seven nine ck big w r0 cap0 l0 r1 cap1 l1
    (Kd.C_of_reads (d := (0 : Int)) (h1 := fun _ => rfl) hr0) hc0 (Kd.C_of_reads (d := (0 : Int)) (h1 := fun _ => rfl) hr1) hc1 A0
    (fun _ => E1 k k1) (fun _ => E2 k k2) (fun _ => E3 k k3) A1 A2 A3 A4 A5 A6 B1 B2 A7 A8 A9 A10 A11 A12 B3 B4 B5 B6 A13 A14 B7

end Go.Proofs.Ytbcpdgiinebnaaa.Pure
