/- For every two clocks the program's FirstAgree answers as the reference does; no condition. -/
import Derived.Test.YtjjbockboifcbaaPFnExactFirstAgreex10
set_option linter.unusedVariables false
set_option linter.unusedSimpArgs false
namespace Go.Proofs.Ytjjbockboifcbaa.Pure
open Go.RowKit Go.Proofs.Ytjjbockboifcbaa.PFnExactFirstAgree Go.Proofs.YtjjbockboifcbaaW.PrintWords Go.Proofs.YtjjbockboifcbaaW.PrintLast Go.Proofs.YtjjbockboifcbaaW.PrintMore

/-! base: whole numbers of 64 bits -/
theorem wid {x : Int} (h0 : -9223372036854775808 ≤ x) (h1 : x ≤ 9223372036854775807) : wrap64 x = x := by unfold wrap64; omega
theorem wf_bd {a : Int} (h : (Lit.int .i64 a).wf = true) : -9223372036854775808 ≤ a ∧ a ≤ 9223372036854775807 := by
  simp only [Lit.wf, IntKind.min, IntKind.max, IntKind.signed, IntKind.bits, Bool.and_eq_true, decide_eq_true_eq] at h
  simp at h
  exact h
theorem tmod_nn {a : Int} (b : Int) (h : 0 ≤ a) : Int.tmod a b = a % b := Int.tmod_eq_emod_of_nonneg h
theorem tdiv_nn {a : Int} (b : Int) (h : 0 ≤ a) : Int.tdiv a b = a / b := Int.tdiv_eq_ediv_of_nonneg h
theorem mul_bd {x y M N : Int} (hx : -M ≤ x ∧ x ≤ M) (hy : -N ≤ y ∧ y ≤ N) : -(M * N) ≤ x * y ∧ x * y ≤ M * N := by
  have h1 : x.natAbs ≤ M.natAbs := by omega
  have h2 : y.natAbs ≤ N.natAbs := by omega
  have h3 := Nat.mul_le_mul h1 h2
  rw [← Int.natAbs_mul, ← Int.natAbs_mul] at h3
  have h4 : 0 ≤ M * N := Int.mul_nonneg (by omega) (by omega)
  omega
theorem Ev.up {α : Type} {g : Nat → Option α} {r : α} (h : Ev (fun k => g (k + 1)) r) : Ev g r := Ev.step (fun _ => rfl) h
/-! tmath: parts of a turn, in lowest terms -/
/-- The greatest common divisor, as a whole number. -/
def gI (a b : Int) : Int := (Int.gcd a b : Int)
theorem gI_nonneg (a b : Int) : 0 ≤ gI a b := by unfold gI; omega
theorem gI_pos {a b : Int} (hb : b ≠ 0) : 0 < gI a b := by
  unfold gI
  have : 0 < Int.gcd a b := Int.gcd_pos_of_ne_zero_right a hb
  omega
theorem gI_dvd_left (a b : Int) : gI a b ∣ a := Int.gcd_dvd_left ..
theorem gI_dvd_right (a b : Int) : gI a b ∣ b := Int.gcd_dvd_right ..
theorem gI_le {a b : Int} (hb : 0 < b) : gI a b ≤ b := Int.le_of_dvd hb (gI_dvd_right a b)
/-- n / d without whole turns, in lowest terms. -/
def mkT (n d : Int) : Int × Int := (n % d / gI (n % d) d, d / gI (n % d) d)
/-- Is it in lowest terms, and less than a turn? -/
def low (p q : Int) : Prop := 0 < q ∧ 0 ≤ p ∧ p < q ∧ gI p q = 1
theorem gI_div {a b g : Int} (hg : 0 < g) (e : gI a b = g) : gI (a / g) (b / g) = 1 := by
  unfold gI at *
  have h := Int.gcd_ediv_gcd_ediv_gcd (i := a) (j := b) (by omega)
  rw [e] at h
  rw [h]; rfl
theorem mkT_low (n : Int) {d : Int} (hd : 0 < d) : low (mkT n d).1 (mkT n d).2 := by
  have hg := gI_pos (a := n % d) (show d ≠ 0 by omega)
  have h0 : 0 ≤ n % d := Int.emod_nonneg _ (by omega)
  have h1 : n % d < d := Int.emod_lt_of_pos _ hd
  have dl := gI_dvd_left (n % d) d
  have dr := gI_dvd_right (n % d) d
  refine ⟨?_, Int.ediv_nonneg h0 (by omega), ?_, gI_div hg rfl⟩
  · exact Int.ediv_pos_of_pos_of_dvd hd (by omega) dr
  · show n % d / gI (n % d) d < d / gI (n % d) d
    rw [Int.ediv_lt_iff_lt_mul hg, Int.ediv_mul_cancel dr]
    exact h1
theorem mkT_eq (n : Int) {d : Int} (hd : 0 < d) : (mkT n d).1 * d = (mkT n d).2 * (n % d) := by
  have hg := gI_pos (a := n % d) (show d ≠ 0 by omega)
  obtain ⟨x, hx⟩ := gI_dvd_left (n % d) d
  obtain ⟨y, hy⟩ := gI_dvd_right (n % d) d
  have e1 : n % d / gI (n % d) d = x := Int.ediv_eq_of_eq_mul_right (by omega) hx
  have e2 : d / gI (n % d) d = y := Int.ediv_eq_of_eq_mul_right (by omega) hy
  show n % d / gI (n % d) d * d = d / gI (n % d) d * (n % d)
  rw [e1, e2]
  generalize gI (n % d) d = g at hx hy
  rw [hx, Int.mul_comm x d, hy]
  ac_rfl
theorem mkT_dvd (n : Int) {d : Int} : (mkT n d).2 ∣ d := by
  obtain ⟨y, hy⟩ := gI_dvd_right (n % d) d
  by_cases h : gI (n % d) d = 0
  · show d / gI (n % d) d ∣ d
    rw [h] at hy ⊢; simp at hy; rw [hy]; simp
  · have e2 : d / gI (n % d) d = y := Int.ediv_eq_of_eq_mul_right h hy
    show d / gI (n % d) d ∣ d
    rw [e2]
    exact ⟨gI (n % d) d, by rw [Int.mul_comm]; exact hy⟩
theorem dvd_cancel {k m n : Int} (c : Int.gcd k m = 1) (h : k ∣ m * n) : k ∣ n := by
  have h2 : k.natAbs ∣ m.natAbs * n.natAbs := by rw [← Int.natAbs_mul]; exact Int.natAbs_dvd_natAbs.mpr h
  exact Int.natAbs_dvd_natAbs.mp (Nat.Coprime.dvd_of_dvd_mul_left (show Nat.Coprime k.natAbs m.natAbs from c) h2)
/-- Two in lowest terms that are alike are one. -/
theorem low_ext {p q r s : Int} (h : low p q) (k : low r s) (e : p * s = r * q) : p = r ∧ q = s := by
  obtain ⟨q0, p0, _, hg⟩ := h
  obtain ⟨s0, r0, _, kg⟩ := k
  have c1 : Int.gcd q p = 1 := by rw [Int.gcd_comm]; unfold gI at hg; omega
  have c2 : Int.gcd s r = 1 := by rw [Int.gcd_comm]; unfold gI at kg; omega
  have d1 : q ∣ s := dvd_cancel c1 (show q ∣ p * s from ⟨r, by rw [e, Int.mul_comm]⟩)
  have d2 : s ∣ q := dvd_cancel c2 (show s ∣ r * q from ⟨p, by rw [← e, Int.mul_comm]⟩)
  have es : q = s := Int.dvd_antisymm (by omega) (by omega) d1 d2
  subst es
  exact ⟨Int.eq_of_mul_eq_mul_right (by omega) e, rfl⟩
/-- What n / d is, told by what it is alike to. -/
theorem mkT_of {n d p q m : Int} (hd : 0 < d) (h : low p q) (e : p * d = q * n + q * d * m) : mkT n d = (p, q) := by
  have l := mkT_low n hd
  have e1 := mkT_eq n hd
  have em := Int.mul_ediv_add_emod n d
  obtain ⟨q0, p0, pq, hg⟩ := h
  have h0 : 0 ≤ n % d := Int.emod_nonneg _ (by omega)
  have h1 : n % d < d := Int.emod_lt_of_pos _ hd
  -- p * d = q * (n % d)
  have key : p * d = q * (n % d) := by
    have t : p * d = q * (n % d) + q * d * (n / d + m) := by
      rw [e, Int.mul_add (q * d), ← Int.add_assoc]
      congr 1
      rw [Int.mul_assoc q d, ← Int.mul_add, Int.add_comm (n % d), em]
    have b1 : 0 ≤ p * d := Int.mul_nonneg p0 (by omega)
    have b2 : p * d < q * d := Int.mul_lt_mul_of_pos_right pq hd
    have b3 : 0 ≤ q * (n % d) := Int.mul_nonneg (by omega) h0
    have b4 : q * (n % d) < q * d := Int.mul_lt_mul_of_pos_left h1 q0
    have z : n / d + m = 0 := by
      rcases Int.lt_trichotomy (n / d + m) 0 with hlt | he | hgt
      · exfalso
        have : q * d * (n / d + m) ≤ q * d * (-1) := Int.mul_le_mul_of_nonneg_left (by omega) (Int.mul_nonneg (by omega) (by omega))
        omega
      · exact he
      · exfalso
        have : q * d * 1 ≤ q * d * (n / d + m) := Int.mul_le_mul_of_nonneg_left (by omega) (Int.mul_nonneg (by omega) (by omega))
        omega
    rw [z, Int.mul_zero, Int.add_zero] at t
    exact t
  have k : (mkT n d).1 * q = p * (mkT n d).2 := by
    have : (mkT n d).1 * q * d = p * (mkT n d).2 * d := by
      rw [Int.mul_assoc, Int.mul_comm q d, ← Int.mul_assoc, e1, Int.mul_assoc p, Int.mul_comm _ d, ← Int.mul_assoc p, key, Int.mul_assoc, Int.mul_comm (n % d) q, Int.mul_comm]
    exact Int.eq_of_mul_eq_mul_right (by omega) this
  obtain ⟨a, b⟩ := low_ext l ⟨q0, p0, pq, hg⟩ k
  exact Prod.ext a b
theorem mkT_self {p q : Int} (h : low p q) : mkT p q = (p, q) := mkT_of (m := 0) h.1 h (by rw [Int.mul_zero, Int.add_zero, Int.mul_comm])
/-- Alike up to whole turns: one. -/
theorem mkT_congr {n d n' d' m : Int} (hd : 0 < d) (hd' : 0 < d') (e : n * d' = n' * d + d * d' * m) : mkT n d = mkT n' d' := by
  have l := mkT_low n' hd'
  have e1 := mkT_eq n' hd'
  have em := Int.mul_ediv_add_emod n' d'
  have : mkT n d = ((mkT n' d').1, (mkT n' d').2) := by
    generalize hp : (mkT n' d').1 = p at *
    generalize hq : (mkT n' d').2 = q at *
    refine mkT_of (m := -(n' / d') - m) hd l ?_
    -- p * d = q * n + q * d * (-(n'/d') - m)
    have f : p * d * d' = (q * n + q * d * (-(n' / d') - m)) * d' := by
      have a1 : p * d * d' = q * (n' % d') * d := by rw [Int.mul_assoc, Int.mul_comm d d', ← Int.mul_assoc, e1]
      have a2 : n' % d' = n' - d' * (n' / d') := by omega
      have a3 : (q * n + q * d * (-(n' / d') - m)) * d' = q * (n * d') - q * (d * d' * (n' / d')) - q * (d * d' * m) := by
        rw [Int.add_mul, Int.sub_eq_add_neg, Int.mul_add, Int.add_mul, Int.mul_neg, Int.neg_mul, Int.mul_neg, Int.neg_mul]
        have x1 : q * d * (n' / d') * d' = q * (d * d' * (n' / d')) := by ac_rfl
        have x2 : q * d * m * d' = q * (d * d' * m) := by ac_rfl
        have x3 : q * n * d' = q * (n * d') := by ac_rfl
        rw [x1, x2, x3]; omega
      rw [a1, a2, a3, e, Int.mul_add, Int.mul_sub, Int.sub_mul]
      have y1 : q * (n' * d) = q * n' * d := by ac_rfl
      have y2 : q * (d' * (n' / d')) * d = q * (d * d' * (n' / d')) := by ac_rfl
      rw [y1, y2]; omega
    exact Int.eq_of_mul_eq_mul_right (by omega) f
  rw [this]
theorem mkT_add_turns (n : Int) {d : Int} (m : Int) (hd : 0 < d) : mkT (n + d * m) d = mkT n d :=
  mkT_congr (m := m) hd hd (by rw [Int.add_mul]; congr 1; ac_rfl)
theorem mkT_scale (n : Int) {d c : Int} (hd : 0 < d) (hc : 0 < c) : mkT (c * n) (c * d) = mkT n d :=
  mkT_congr (m := 0) (Int.mul_pos hc hd) hd (by rw [Int.mul_zero, Int.add_zero]; ac_rfl)
theorem gI_tmod (a : Int) {b : Int} : gI b (Int.tmod a b) = gI a b := by
  unfold gI
  congr 1
  rw [Int.gcd, Int.gcd, Int.natAbs_tmod, Nat.gcd_comm, ← Nat.gcd_rec, Nat.gcd_comm]
theorem tmod_bd (n : Int) {d : Int} (hd : 0 < d) : -d < Int.tmod n d ∧ Int.tmod n d < d := by
  have h : (Int.tmod n d).natAbs < d.natAbs := by rw [Int.natAbs_tmod]; exact Nat.mod_lt _ (by omega)
  omega
/-- A turn: a part in lowest terms, its lower number up to a million. -/
def isT (a b : Int) : Prop := (1 ≤ b ∧ b ≤ 1000000) ∧ (0 ≤ a ∧ a ≤ b - 1) ∧ gI a b = 1
instance (a b : Int) : Decidable (isT a b) := by unfold isT; exact inferInstance
theorem isT_low {a b : Int} (h : isT a b) : low a b := ⟨by have := h.1; omega, h.2.1.1, by have := h.2.1; omega, h.2.2⟩
theorem isT_of_low {a b : Int} (h : low a b) (hb : b ≤ 1000000) : isT a b := ⟨⟨by have := h.1; omega, hb⟩, ⟨h.2.1, by have := h.2.2.1; omega⟩, h.2.2.2⟩
/-- A clock. -/
def isC (a b c d : Int) : Prop := isT a b ∧ b ≤ 1000 ∧ (1 ≤ c ∧ c ≤ 1000) ∧ (1 ≤ d ∧ d ≤ 1000) ∧ gI c d = 1
instance (a b c d : Int) : Decidable (isC a b c d) := by unfold isC; exact inferInstance
theorem isC_bd {a b c d : Int} (h : isC a b c d) : (0 ≤ a ∧ a < b) ∧ (1 ≤ b ∧ b ≤ 1000) ∧ (1 ≤ c ∧ c ≤ 1000) ∧ (1 ≤ d ∧ d ≤ 1000) := by
  obtain ⟨⟨h1, h2, _⟩, h3, h4, h5, _⟩ := h
  omega
/-- By how much one clock gains on another one: the upper and the lower number. -/
theorem gain_bd {a b c d a' b' c' d' : Int} (h : isC a b c d) (h' : isC a' b' c' d') : (-1000000 ≤ c * d' ∧ c * d' ≤ 1000000) ∧ (-1000000 ≤ c' * d ∧ c' * d ≤ 1000000) ∧ (-1000000 ≤ d * d' ∧ d * d' ≤ 1000000) ∧ 0 < d * d' ∧ (-1000000 ≤ b * b' ∧ b * b' ≤ 1000000) ∧ 0 < b * b' ∧ (-1000000 ≤ a * b' ∧ a * b' ≤ 1000000) ∧ (-1000000 ≤ a' * b ∧ a' * b ≤ 1000000) := by
  obtain ⟨h1, h2, h3, h4⟩ := isC_bd h
  obtain ⟨k1, k2, k3, k4⟩ := isC_bd h'
  refine ⟨mul_bd (M := 1000) (N := 1000) (by omega) (by omega), mul_bd (M := 1000) (N := 1000) (by omega) (by omega), mul_bd (M := 1000) (N := 1000) (by omega) (by omega), Int.mul_pos (by omega) (by omega), mul_bd (M := 1000) (N := 1000) (by omega) (by omega), Int.mul_pos (by omega) (by omega), mul_bd (M := 1000) (N := 1000) (by omega) (by omega), mul_bd (M := 1000) (N := 1000) (by omega) (by omega)⟩
theorem igain_val {a b c d a' b' c' d' : Int} (h : isC a b c d) (h' : isC a' b' c' d') : impl_gain.f a b c d a' b' c' d' = some (c * d' - c' * d, d * d') := by
  obtain ⟨e1, e2, e3, _⟩ := gain_bd h h'
  unfold impl_gain.f
  rw [wid (x := c * d') (by omega) (by omega), wid (x := c' * d) (by omega) (by omega), wid (x := d * d') (by omega) (by omega), wid (x := c * d' - c' * d) (by omega) (by omega)]
theorem within_val (a b c : Int) : impl_within.f a b c = some (decide (b ≤ a ∧ a ≤ c)) := by
  unfold impl_within.f
  by_cases h : a ≥ b
  · have e : (b ≤ a ∧ a ≤ c) ↔ a ≤ c := ⟨fun x => x.2, fun x => ⟨h, x⟩⟩
    rw [if_pos h, decide_eq_decide.mpr e]
  · rw [if_neg h, decide_eq_false (fun x => h x.1)]
theorem mx_abs {a : Int} (h0 : -9223372036854775808 < a) (h1 : a ≤ 9223372036854775807) : mx a (wrap64 (-a)) = (a.natAbs : Int) := by
  rw [wid (by omega) (by omega)]
  unfold mx; split <;> omega
theorem igcd_ev : ∀ (n : Nat) (a b : Int), -9223372036854775808 < a → a ≤ 9223372036854775807 → -9223372036854775808 < b → b ≤ 9223372036854775807 → b.natAbs ≤ n → ∀ k, n < k → impl_gcd.l0 k a b = some (gI a b)
  | 0, a, b, a0, a1, b0, b1, hn, k, hk => by
    obtain ⟨k, rfl⟩ : ∃ m, k = m + 1 := ⟨k - 1, by omega⟩
    have : b = 0 := by omega
    subst this
    simp only [impl_gcd.l0, if_true]
    rw [mx_abs a0 a1]
    unfold gI
    rw [Int.gcd_zero_right]
  | n + 1, a, b, a0, a1, b0, b1, hn, k, hk => by
    obtain ⟨k, rfl⟩ : ∃ m, k = m + 1 := ⟨k - 1, by omega⟩
    simp only [impl_gcd.l0]
    by_cases h0 : b = 0
    · subst h0
      rw [if_pos rfl, mx_abs a0 a1]
      unfold gI
      rw [Int.gcd_zero_right]
    · have h2 : (Int.tmod a b).natAbs < b.natAbs := by rw [Int.natAbs_tmod]; exact Nat.mod_lt _ (by omega)
      rw [if_neg h0, igcd_ev n b (Int.tmod a b) b0 b1 (by omega) (by omega) (by omega) k (by omega), gI_tmod]
theorem igcd_val {a b : Int} (a0 : -9223372036854775808 < a) (a1 : a ≤ 9223372036854775807) (b0 : -9223372036854775808 < b) (b1 : b ≤ 9223372036854775807) : Ev (fun k => impl_gcd.f k a b) (gI a b) :=
  ⟨b.natAbs + 1, fun k hk => igcd_ev b.natAbs a b a0 a1 b0 b1 (Nat.le_refl _) k (by omega)⟩
theorem IsTurn_val (a b : Int) : Ev (fun k => impl_IsTurn.f k a b) (decide (isT a b)) := by
  unfold impl_IsTurn.f
  simp only [within_val, Option.bind_some]
  by_cases h1 : 1 ≤ b ∧ b ≤ 1000000
  · simp only [decide_eq_true h1, if_true]
    rw [wid (x := b - 1) (by omega) (by omega)]
    by_cases h2 : 0 ≤ a ∧ a ≤ b - 1
    · simp only [decide_eq_true h2, if_true]
      refine Ev.bind (igcd_val (by omega) (by omega) (by omega) (by omega)) ?_
      refine ⟨0, fun _ _ => ?_⟩
      unfold isT
      rw [show (gI a b == 1) = decide (gI a b = 1) from Bool.eq_iff_iff.mpr (by simp)]
      simp [h1, h2]
    · simp only [decide_eq_false h2]
      exact ⟨0, fun _ _ => by unfold isT; simp [h2]⟩
  · simp only [decide_eq_false h1]
    exact ⟨0, fun _ _ => by unfold isT; simp [h1]⟩
theorem IsClock_val (a b c d : Int) : Ev (fun k => impl_IsClock.f k a b c d) (decide (isC a b c d)) := by
  unfold impl_IsClock.f
  refine Ev.bind (IsTurn_val a b) ?_
  by_cases h1 : isT a b
  · simp only [decide_eq_true h1, if_true]
    by_cases h2 : b ≤ 1000
    · simp only [if_pos h2, within_val, Option.bind_some]
      by_cases h3 : 1 ≤ c ∧ c ≤ 1000
      · simp only [decide_eq_true h3, if_true]
        by_cases h4 : 1 ≤ d ∧ d ≤ 1000
        · simp only [decide_eq_true h4, if_true]
          refine Ev.bind (igcd_val (by omega) (by omega) (by omega) (by omega)) ⟨0, fun _ _ => ?_⟩
          unfold isC
          rw [show (gI c d == 1) = decide (gI c d = 1) from Bool.eq_iff_iff.mpr (by simp)]
          simp [h1, h2, h3, h4]
        · simp only [decide_eq_false h4]
          exact ⟨0, fun _ _ => by unfold isC; simp [h4]⟩
      · simp only [decide_eq_false h3]
        exact ⟨0, fun _ _ => by unfold isC; simp [h3]⟩
    · simp only [if_neg h2]
      exact ⟨0, fun _ _ => by unfold isC; simp [h2]⟩
  · simp only [decide_eq_false h1]
    exact ⟨0, fun _ _ => by unfold isC; simp [h1]⟩
/-- A span. -/
def isS (a b : Int) : Prop := (0 ≤ a ∧ a ≤ 1000000) ∧ (1 ≤ b ∧ b ≤ 10000) ∧ gI a b = 1
instance (a b : Int) : Decidable (isS a b) := by unfold isS; exact inferInstance
/-- A span in lowest terms, if it is one. -/
def spanT (n d : Int) : Int × Int × Bool := if isS (n / gI n d) (d / gI n d) then (n / gI n d, d / gI n d, true) else (0, 0, false)
theorem isS_bd {a b : Int} (h : isS a b) : (0 ≤ a ∧ a ≤ 1000000) ∧ (1 ≤ b ∧ b ≤ 10000) := ⟨h.1, h.2.1⟩
theorem IsSpan_val (a b : Int) : Ev (fun k => impl_IsSpan.f k a b) (decide (isS a b)) := by
  unfold impl_IsSpan.f
  simp only [within_val, Option.bind_some]
  by_cases h1 : 0 ≤ a ∧ a ≤ 1000000
  · simp only [decide_eq_true h1, if_true]
    by_cases h2 : 1 ≤ b ∧ b ≤ 10000
    · simp only [decide_eq_true h2, if_true]
      refine Ev.bind (igcd_val (by omega) (by omega) (by omega) (by omega)) ⟨0, fun _ _ => ?_⟩
      unfold isS
      rw [show (gI a b == 1) = decide (gI a b = 1) from Bool.eq_iff_iff.mpr (by simp)]
      simp [h1, h2]
    · simp only [decide_eq_false h2]
      exact ⟨0, fun _ _ => by unfold isS; simp [h2]⟩
  · simp only [decide_eq_false h1]
    exact ⟨0, fun _ _ => by unfold isS; simp [h1]⟩
theorem spanOf_val {n d : Int} (h0 : 0 ≤ n) (h1 : n ≤ 4611686018427387904) (d0 : 0 < d) (d1 : d ≤ 4611686018427387904) : Ev (fun k => impl_spanOf.f k n d) (spanT n d) := by
  have g0 := gI_pos (a := n) (show d ≠ 0 by omega)
  have q0 : 0 ≤ d / gI n d := Int.ediv_nonneg (by omega) (by omega)
  have q1 : d / gI n d ≤ d := Int.ediv_le_self _ (by omega)
  have r0 : 0 ≤ n / gI n d := Int.ediv_nonneg (by omega) (by omega)
  have r1 : n / gI n d ≤ n := Int.ediv_le_self _ (by omega)
  unfold impl_spanOf.f
  refine Ev.bind (igcd_val (by omega) (by omega) (by omega) (by omega)) ?_
  simp only [if_neg (show ¬ gI n d = 0 by omega)]
  rw [tdiv_nn _ h0, tdiv_nn _ (by omega), wid (x := d / gI n d) (by omega) (by omega), wid (x := n / gI n d) (by omega) (by omega)]
  refine Ev.bind (IsSpan_val _ _) ?_
  unfold spanT
  by_cases h : isS (n / gI n d) (d / gI n d)
  · simp only [decide_eq_true h, if_true, if_pos h]; exact ⟨0, fun _ _ => rfl⟩
  · simp only [decide_eq_false h, if_neg h]; exact ⟨0, fun _ _ => rfl⟩
/-- Behind which span two clocks that agree agree again. -/
def everyT (a b c d a' b' c' d' : Int) : Int × Int × Bool := if (isC a b c d ∧ isC a' b' c' d') ∧ c * d' - c' * d ≠ 0 then spanT (d * d') ((c * d' - c' * d).natAbs : Int) else (0, 0, false)
theorem gain_any (a b c d a' b' c' d' : Int) : ∃ x y, impl_gain.f a b c d a' b' c' d' = some (x, y) ∧ (isC a b c d ∧ isC a' b' c' d' → x = c * d' - c' * d ∧ y = d * d') := by
  by_cases h : isC a b c d ∧ isC a' b' c' d'
  · exact ⟨_, _, igain_val h.1 h.2, fun _ => ⟨rfl, rfl⟩⟩
  · exact ⟨_, _, rfl, fun x => absurd x h⟩
/-- Behind which span a turn p / q that grows at a rate num / den has come to a whole number. -/
def firstT (p q num den : Int) : Int × Int × Bool := if num = 0 then (0, 0, false) else spanT ((if num > 0 ∨ p = 0 then q - p else p) * den) (q * (num.natAbs : Int))
/-- Behind which span two clocks agree first. -/
def agreeT (a b c d a' b' c' d' : Int) : Int × Int × Bool := if isC a b c d ∧ isC a' b' c' d' then firstT (mkT (a * b' - a' * b) (b * b')).1 (mkT (a * b' - a' * b) (b * b')).2 (c * d' - c' * d) (d * d') else (0, 0, false)
theorem floorDiv_val {n d : Int} (hd : 0 < d) (hb : d ≤ 4611686018427387904) : ∃ q, impl_floorDiv.f n d = some (q, n % d) := by
  unfold impl_floorDiv.f
  obtain ⟨t1, t0⟩ := tmod_bd n hd
  have m0 : 0 ≤ n % d := Int.emod_nonneg _ (by omega)
  have m1 : n % d < d := Int.emod_lt_of_pos _ hd
  have e := Int.mul_tdiv_add_tmod n d
  have e2 : n % d = (Int.tmod n d) % d := by
    have : n % d = (Int.tmod n d + d * Int.tdiv n d) % d := by rw [Int.add_comm, e]
    rw [this, Int.add_mul_emod_self_left]
  rw [if_neg (by omega)]
  by_cases h : Int.tmod n d < 0
  · rw [if_pos h, wid (x := Int.tmod n d + d) (by omega) (by omega)]
    refine ⟨_, congrArg some (Prod.ext rfl ?_)⟩
    rw [e2, ← Int.add_emod_right, Int.emod_eq_of_lt (by omega) (by omega)]
  · rw [if_neg h]
    refine ⟨_, congrArg some (Prod.ext rfl ?_)⟩
    rw [e2, Int.emod_eq_of_lt (by omega) (by omega)]
theorem part_val {n d : Int} (hd : 0 < d) (hb : d ≤ 4611686018427387904) : Ev (fun k => impl_part.f k n d) (mkT n d) := by
  unfold impl_part.f
  have g0 := gI_pos (a := n % d) (show d ≠ 0 by omega)
  have m0 : 0 ≤ n % d := Int.emod_nonneg _ (by omega)
  have m1 : n % d < d := Int.emod_lt_of_pos _ hd
  have q0 : 0 ≤ d / gI (n % d) d := Int.ediv_nonneg (by omega) (by omega)
  have q1 : d / gI (n % d) d ≤ d := Int.ediv_le_self _ (by omega)
  have r0 : 0 ≤ n % d / gI (n % d) d := Int.ediv_nonneg (by omega) (by omega)
  have r1 : n % d / gI (n % d) d ≤ n % d := Int.ediv_le_self _ (by omega)
  obtain ⟨q, hq⟩ := floorDiv_val (n := n) hd hb
  simp only [hq, Option.bind_some]
  refine Ev.bind (igcd_val (by omega) (by omega) (by omega) (by omega)) ?_
  rw [if_neg (by omega), tdiv_nn _ m0, tdiv_nn _ (by omega), wid (x := d / gI (n % d) d) (by omega) (by omega), wid (x := n % d / gI (n % d) d) (by omega) (by omega)]
  exact ⟨0, fun _ _ => rfl⟩
theorem times_val {a b k : Int} (ha : -1000000000 ≤ a ∧ a ≤ 1000000000) (hb : 0 < b ∧ b ≤ 1000000000) (hk : -1000000000 ≤ k ∧ k ≤ 1000000000) : Ev (fun n => impl_Turn_times.f n a b k) (mkT (a * k) b) := by
  have e1 := mul_bd ha hk
  unfold impl_Turn_times.f
  rw [wid (x := a * k) (by omega) (by omega)]
  exact Ev.bind (part_val hb.1 (by omega)) ⟨0, fun _ _ => rfl⟩
theorem mirror_val {a b : Int} (ha : -1000000000 ≤ a ∧ a ≤ 1000000000) (hb : 0 < b ∧ b ≤ 1000000000) : Ev (fun n => impl_Turn_mirror.f n a b) (mkT (a * (-1)) b) := by
  unfold impl_Turn_mirror.f
  exact Ev.bind (times_val ha hb (by omega)) ⟨0, fun _ _ => rfl⟩
/-- The way back. -/
theorem low_zero {q : Int} (h : low 0 q) : q = 1 := by
  have h1 : gI 0 q = 1 := h.2.2.2
  have h0 := h.1
  unfold gI at h1
  rw [Int.gcd_zero_left] at h1
  omega
theorem low_back {p q : Int} (h : low p q) (hp : p ≠ 0) : low (q - p) q := by
  obtain ⟨q0, p0, pq, hg⟩ := h
  refine ⟨q0, by omega, by omega, ?_⟩
  unfold gI at *
  have e : Int.gcd (q - p) q = Int.gcd p q := by
    rw [Int.gcd_comm, Int.gcd_self_sub_right, Int.gcd_comm]
  rw [e]; exact hg
theorem mirror_low {p q : Int} (h : low p q) : mkT (p * (-1)) q = if p = 0 then (0, 1) else (q - p, q) := by
  by_cases hp : p = 0
  · subst hp
    have := low_zero h
    subst this
    rfl
  · rw [if_neg hp]
    refine mkT_of (m := 1) h.1 (low_back h hp) ?_
    rw [Int.sub_mul, Int.mul_one, ← Int.mul_assoc, Int.mul_neg_one, Int.mul_comm q p]
    omega
theorem minus_val {a b c d : Int} (ha : -1000000000 ≤ a ∧ a ≤ 1000000000) (hb : 0 < b ∧ b ≤ 1000000000) (hc : -1000000000 ≤ c ∧ c ≤ 1000000000) (hd : 0 < d ∧ d ≤ 1000000000) : Ev (fun k => impl_Turn_minus.f k a b c d) (mkT (a * d - c * b) (b * d)) := by
  have e1 := mul_bd (N := 1000000000) ha (y := d) (by omega)
  have e2 := mul_bd (N := 1000000000) hc (y := b) (by omega)
  have e3 := mul_bd (M := 1000000000) (N := 1000000000) (x := b) (y := d) (by omega) (by omega)
  have e4 : 0 < b * d := Int.mul_pos hb.1 hd.1
  unfold impl_Turn_minus.f
  rw [wid (x := a * d) (by omega) (by omega), wid (x := c * b) (by omega) (by omega), wid (x := b * d) (by omega) (by omega), wid (x := a * d - c * b) (by omega) (by omega)]
  exact Ev.bind (part_val e4 (by omega)) ⟨0, fun _ _ => rfl⟩
theorem way_bd {p q num den : Int} (h : low p q) (hq : q ≤ 1000000) (hn : -2000000 ≤ num ∧ num ≤ 2000000) (h0 : num ≠ 0) (hd : 0 < den ∧ den ≤ 1000000) : (0 ≤ p * den ∧ p * den ≤ 1000000000000) ∧ (0 ≤ (q - p) * den ∧ (q - p) * den ≤ 1000000000000) ∧ (0 < q * (num.natAbs : Int) ∧ q * (num.natAbs : Int) ≤ 2000000000000) := by
  obtain ⟨q0, p0, pq, _⟩ := h
  refine ⟨⟨Int.mul_nonneg p0 (by omega), ?_⟩, ⟨Int.mul_nonneg (by omega) (by omega), ?_⟩, Int.mul_pos q0 (by omega), ?_⟩
  · exact Int.le_trans (Int.mul_le_mul (show p ≤ 1000000 by omega) hd.2 (by omega) (by omega)) (by omega)
  · exact Int.le_trans (Int.mul_le_mul (show q - p ≤ 1000000 by omega) hd.2 (by omega) (by omega)) (by omega)
  · exact Int.le_trans (Int.mul_le_mul hq (show (num.natAbs : Int) ≤ 2000000 by omega) (by omega) (by omega)) (by omega)
theorem ifirst_val (a b c d a' b' c' d' : Int) : Ev (fun k => impl_first.f k a b c d a' b' c' d') (agreeT a b c d a' b' c' d') := by
  obtain ⟨x, y, hg, hxy⟩ := gain_any a b c d a' b' c' d'
  have no : ∀ x y, Ev (fun k => impl_first.j0 k x y true a b c d a' b' c' d') (0, 0, false) := fun x y => Ev.up ⟨0, fun _ _ => rfl⟩
  unfold impl_first.f
  simp only [hg, Option.bind_some]
  refine Ev.bind (IsClock_val a b c d) ?_
  unfold agreeT
  by_cases h1 : isC a b c d
  · simp only [decide_eq_true h1, if_true]
    refine Ev.bind (IsClock_val a' b' c' d') ?_
    by_cases h2 : isC a' b' c' d'
    · simp only [decide_eq_true h2, if_true]
      obtain ⟨rfl, rfl⟩ := hxy ⟨h1, h2⟩
      simp only [if_pos (show isC a b c d ∧ isC a' b' c' d' from ⟨h1, h2⟩)]
      unfold firstT
      by_cases h3 : c * d' - c' * d = 0
      · simp only [if_pos h3]
        rw [show (c * d' - c' * d == 0) = true by simpa using h3]
        exact no _ _
      · simp only [if_neg h3]
        rw [show (c * d' - c' * d == 0) = false by simpa using h3]
        obtain ⟨e1, e2, e3, e4, e5, e6, e7, e8⟩ := gain_bd h1 h2
        obtain ⟨g1, g2, g3, g4⟩ := isC_bd h1
        obtain ⟨k1, k2, k3, k4⟩ := isC_bd h2
        have L := mkT_low (a * b' - a' * b) e6
        have B : (mkT (a * b' - a' * b) (b * b')).2 ≤ b * b' := Int.le_of_dvd e6 (mkT_dvd _)
        have hm := minus_val (a := a) (b := b) (c := a') (d := b') (by omega) (by omega) (by omega) (by omega)
        generalize hT : mkT (a * b' - a' * b) (b * b') = t at L B hm
        obtain ⟨p, q⟩ := t
        dsimp only at L B ⊢
        have nb : -2000000 ≤ c * d' - c' * d ∧ c * d' - c' * d ≤ 2000000 := by omega
        generalize c * d' - c' * d = num at *
        generalize d * d' = den at *
        have W := way_bd L (by omega) (num := num) (by omega) h3 (den := den) (by omega)
        obtain ⟨q0, p0, pq, _⟩ := id L
        refine Ev.up ?_
        simp only [impl_first.j0, Bool.false_eq_true, if_false]
        refine Ev.bind hm ?_
        dsimp only
        rw [mx_abs (a := num) (by omega) (by omega)]
        by_cases h4 : num > 0
        · simp only [if_pos h4, if_pos (show num > 0 ∨ p = 0 from Or.inl h4)]
          refine Ev.bind (mirror_val (by omega) (by omega)) ?_
          rw [mirror_low L]
          by_cases hp : p = 0
          · subst hp
            have := low_zero L
            subst this
            simp only [if_true, Int.one_mul, Int.sub_zero]
            rw [wid (x := den) (by omega) (by omega), wid (x := (num.natAbs : Int)) (by omega) (by omega)]
            exact Ev.bind (spanOf_val (by omega) (by omega) (by omega) (by omega)) ⟨0, fun _ _ => rfl⟩
          · simp only [if_neg hp, if_neg (show ¬ q - p = 0 by omega)]
            rw [wid (x := (q - p) * den) (by omega) (by omega), wid (x := q * (num.natAbs : Int)) (by omega) (by omega)]
            exact Ev.bind (spanOf_val (by omega) (by omega) (by omega) (by omega)) ⟨0, fun _ _ => rfl⟩
        · simp only [if_neg h4]
          by_cases hp : p = 0
          · subst hp
            have := low_zero L
            subst this
            simp only [if_true, Int.one_mul, Int.sub_zero, or_true]
            rw [wid (x := den) (by omega) (by omega), wid (x := (num.natAbs : Int)) (by omega) (by omega)]
            exact Ev.bind (spanOf_val (by omega) (by omega) (by omega) (by omega)) ⟨0, fun _ _ => rfl⟩
          · simp only [if_neg hp, if_neg (show ¬ (num > 0 ∨ p = 0) by omega)]
            rw [wid (x := p * den) (by omega) (by omega), wid (x := q * (num.natAbs : Int)) (by omega) (by omega)]
            exact Ev.bind (spanOf_val (by omega) (by omega) (by omega) (by omega)) ⟨0, fun _ _ => rfl⟩
    · simp only [decide_eq_false h2]
      rw [if_neg (fun x => h2 x.2)]; exact no _ _
  · simp only [decide_eq_false h1]
    rw [if_neg (fun x => h1 x.1)]; exact no _ _
theorem l1Abs_val {x : Int} (h0 : -4611686018427387904 ≤ x) (h1 : x ≤ 4611686018427387904) : spec_l1Abs.f x = some (x.natAbs : Int) := by
  unfold spec_l1Abs.f spec_l1Most.f
  rw [wid (x := -x) (by omega) (by omega)]
  by_cases h : x > -x
  · rw [if_pos h]; simp only [Option.bind_some]; congr 1; omega
  · rw [if_neg h]; simp only [Option.bind_some]; congr 1; omega
theorem l1In_val (a b c : Int) : spec_l1In.f a b c = some (decide (b ≤ a ∧ a ≤ c)) := by
  unfold spec_l1In.f
  by_cases h : a ≥ b
  · have e : (b ≤ a ∧ a ≤ c) ↔ a ≤ c := ⟨fun x => x.2, fun x => ⟨h, x⟩⟩
    rw [if_pos h, decide_eq_decide.mpr e]
  · rw [if_neg h, decide_eq_false (fun x => h x.1)]
theorem diCommon_ev : ∀ (n : Nat) (a b : Int), 0 ≤ a → 0 ≤ b → b.toNat ≤ n → ∀ k, n < k → spec_diCommon.l0 k a b = some (gI a b)
  | 0, a, b, ha, hb, hn, k, hk => by
    obtain ⟨k, rfl⟩ : ∃ m, k = m + 1 := ⟨k - 1, by omega⟩
    have : b = 0 := by omega
    subst this
    simp only [spec_diCommon.l0]
    rw [if_neg (by omega)]
    unfold gI
    rw [Int.gcd_zero_right]; congr 1; omega
  | n + 1, a, b, ha, hb, hn, k, hk => by
    obtain ⟨k, rfl⟩ : ∃ m, k = m + 1 := ⟨k - 1, by omega⟩
    simp only [spec_diCommon.l0]
    by_cases h0 : b = 0
    · subst h0
      rw [if_neg (by omega)]
      unfold gI
      rw [Int.gcd_zero_right]; congr 1; omega
    · have h1 : 0 ≤ Int.tmod a b := by rw [tmod_nn _ ha]; exact Int.emod_nonneg _ h0
      have h2 : Int.tmod a b < b := by rw [tmod_nn _ ha]; exact Int.emod_lt_of_pos _ (by omega)
      rw [if_pos (by omega), if_neg h0, diCommon_ev n b (Int.tmod a b) hb h1 (by omega) k (by omega), gI_tmod]
theorem diCommon_val {a b : Int} (ha : 0 ≤ a) (hb : 0 ≤ b) : Ev (fun k => spec_diCommon.f k a b) (gI a b) :=
  ⟨b.toNat + 1, fun k hk => diCommon_ev b.toNat a b ha hb (Nat.le_refl _) k (by omega)⟩
theorem drGood_val (a b : Int) : Ev (fun k => spec_drGood.f k a b) (decide (isS a b)) := by
  unfold spec_drGood.f
  simp only [l1In_val, Option.bind_some]
  by_cases h1 : 0 ≤ a ∧ a ≤ 1000000
  · simp only [decide_eq_true h1, if_true]
    by_cases h2 : 1 ≤ b ∧ b ≤ 10000
    · simp only [decide_eq_true h2, if_true]
      refine Ev.bind (diCommon_val h1.1 (by omega)) ⟨0, fun _ _ => ?_⟩
      unfold isS
      rw [show (gI a b == 1) = decide (gI a b = 1) from Bool.eq_iff_iff.mpr (by simp)]
      simp [h1, h2]
    · simp only [decide_eq_false h2]
      exact ⟨0, fun _ _ => by unfold isS; simp [h2]⟩
  · simp only [decide_eq_false h1]
    exact ⟨0, fun _ _ => by unfold isS; simp [h1]⟩
theorem drMake_val {n d : Int} (h0 : 0 ≤ n) (h1 : n ≤ 4611686018427387904) (d0 : 0 < d) (d1 : d ≤ 4611686018427387904) : Ev (fun k => spec_drMake.f k n d) (spanT n d) := by
  have g0 := gI_pos (a := n) (show d ≠ 0 by omega)
  have q0 : 0 ≤ d / gI n d := Int.ediv_nonneg (by omega) (by omega)
  have q1 : d / gI n d ≤ d := Int.ediv_le_self _ (by omega)
  have r0 : 0 ≤ n / gI n d := Int.ediv_nonneg (by omega) (by omega)
  have r1 : n / gI n d ≤ n := Int.ediv_le_self _ (by omega)
  unfold spec_drMake.f
  refine Ev.bind (diCommon_val h0 (by omega)) ?_
  simp only [if_neg (show ¬ gI n d = 0 by omega)]
  rw [tdiv_nn _ h0, tdiv_nn _ (by omega), wid (x := d / gI n d) (by omega) (by omega), wid (x := n / gI n d) (by omega) (by omega)]
  refine Ev.bind (drGood_val _ _) ?_
  unfold spanT
  by_cases h : isS (n / gI n d) (d / gI n d)
  · simp only [decide_eq_true h, if_true, if_pos h]; exact ⟨0, fun _ _ => rfl⟩
  · simp only [decide_eq_false h, if_neg h]; exact ⟨0, fun _ _ => rfl⟩
theorem way_bd2 {p q num den : Int} (h : low p q) (hq : q ≤ 1000000000) (hn : -2000000 ≤ num ∧ num ≤ 2000000) (h0 : num ≠ 0) (hd : 0 < den ∧ den ≤ 1000000) : (0 ≤ p * den ∧ p * den ≤ 1000000000000000) ∧ (0 ≤ (q - p) * den ∧ (q - p) * den ≤ 1000000000000000) ∧ (0 < q * (num.natAbs : Int) ∧ q * (num.natAbs : Int) ≤ 2000000000000000) := by
  obtain ⟨q0, p0, pq, _⟩ := h
  refine ⟨⟨Int.mul_nonneg p0 (by omega), ?_⟩, ⟨Int.mul_nonneg (by omega) (by omega), ?_⟩, Int.mul_pos q0 (by omega), ?_⟩
  · exact Int.le_trans (Int.mul_le_mul (show p ≤ 1000000000 by omega) hd.2 (by omega) (by omega)) (by omega)
  · exact Int.le_trans (Int.mul_le_mul (show q - p ≤ 1000000000 by omega) hd.2 (by omega) (by omega)) (by omega)
  · exact Int.le_trans (Int.mul_le_mul hq (show (num.natAbs : Int) ≤ 2000000 by omega) (by omega) (by omega)) (by omega)
/-- The same, told of now too. -/
theorem drFirst_val {p q num den : Int} (now : Bool) (h : low p q) (hq : q ≤ 1000000000) (hn : -2000000 ≤ num ∧ num ≤ 2000000) (hd : 0 < den ∧ den ≤ 1000000) : Ev (fun k => spec_drFirst.f k p q num den now) (if p = 0 ∧ now = true then (0, 1, true) else firstT p q num den) := by
  have J1 : ∀ b : Bool, num ≠ 0 → Ev (fun k => spec_drFirst.j1 k num den p b p q) (spanT ((if b = true then q - p else p) * den) (q * (num.natAbs : Int))) := by
    intro b h0
    have W := way_bd2 h hq hn h0 hd
    obtain ⟨q0, p0, pq, _⟩ := id h
    refine Ev.up ?_
    simp only [spec_drFirst.j1]
    rw [l1Abs_val (by omega) (by omega)]
    simp only [Option.bind_some]
    rw [wid (x := q * (num.natAbs : Int)) (by omega) (by omega), wid (x := p * den) (by omega) (by omega), wid (x := q - p) (by omega) (by omega), wid (x := (q - p) * den) (by omega) (by omega)]
    cases b with
    | true => simp only [if_true]; exact Ev.bind (drMake_val (by omega) (by omega) (by omega) (by omega)) ⟨0, fun _ _ => rfl⟩
    | false => simp only [Bool.false_eq_true, if_false]; exact Ev.bind (drMake_val (by omega) (by omega) (by omega) (by omega)) ⟨0, fun _ _ => rfl⟩
  have J0 : Ev (fun k => spec_drFirst.j0 k num den false p q) (firstT p q num den) := by
    refine Ev.up ?_
    simp only [spec_drFirst.j0, Bool.false_eq_true, if_false]
    unfold firstT
    by_cases h0 : num = 0
    · simp only [if_pos h0]; exact ⟨0, fun _ _ => rfl⟩
    · simp only [if_neg h0]
      by_cases h4 : num > 0
      · simp only [if_pos h4, if_pos (show num > 0 ∨ p = 0 from Or.inl h4)]
        have := J1 true h0
        simpa using this
      · simp only [if_neg h4]
        have := J1 (p == 0) h0
        by_cases hp : p = 0
        · simpa [hp] using this
        · simpa [hp, h4] using this
  unfold spec_drFirst.f
  by_cases hp : p = 0
  · simp only [if_pos hp]
    cases now with
    | true => rw [if_pos ⟨hp, rfl⟩]; exact Ev.up ⟨0, fun _ _ => rfl⟩
    | false => rw [if_neg (by simp)]; exact J0
  · simp only [if_neg hp]; rw [if_neg (fun x => hp x.1)]; exact J0
theorem diGood_val (a b : Int) : Ev (fun k => spec_diGood.f k a b) (decide (isT a b)) := by
  unfold spec_diGood.f
  simp only [l1In_val, Option.bind_some]
  by_cases h1 : 1 ≤ b ∧ b ≤ 1000000
  · simp only [decide_eq_true h1, if_true]
    rw [wid (x := b - 1) (by omega) (by omega)]
    by_cases h2 : 0 ≤ a ∧ a ≤ b - 1
    · simp only [decide_eq_true h2, if_true]
      refine Ev.bind (diCommon_val h2.1 (by omega)) ?_
      refine ⟨0, fun _ _ => ?_⟩
      unfold isT
      rw [show (gI a b == 1) = decide (gI a b = 1) from Bool.eq_iff_iff.mpr (by simp)]
      simp [h1, h2]
    · simp only [decide_eq_false h2]
      exact ⟨0, fun _ _ => by unfold isT; simp [h2]⟩
  · simp only [decide_eq_false h1]
    exact ⟨0, fun _ _ => by unfold isT; simp [h1]⟩
theorem drClock_val (a b c d : Int) : Ev (fun k => spec_drClock.f k a b c d) (decide (isC a b c d)) := by
  unfold spec_drClock.f
  refine Ev.bind (diGood_val a b) ?_
  by_cases h1 : isT a b
  · simp only [decide_eq_true h1, if_true]
    by_cases h2 : b ≤ 1000
    · simp only [if_pos h2, l1In_val, Option.bind_some]
      by_cases h3 : 1 ≤ c ∧ c ≤ 1000
      · simp only [decide_eq_true h3, if_true]
        by_cases h4 : 1 ≤ d ∧ d ≤ 1000
        · simp only [decide_eq_true h4, if_true]
          refine Ev.bind (diCommon_val (by omega) (by omega)) ⟨0, fun _ _ => ?_⟩
          unfold isC
          rw [show (gI c d == 1) = decide (gI c d = 1) from Bool.eq_iff_iff.mpr (by simp)]
          simp [h1, h2, h3, h4]
        · simp only [decide_eq_false h4]
          exact ⟨0, fun _ _ => by unfold isC; simp [h4]⟩
      · simp only [decide_eq_false h3]
        exact ⟨0, fun _ _ => by unfold isC; simp [h3]⟩
    · simp only [if_neg h2]
      exact ⟨0, fun _ _ => by unfold isC; simp [h2]⟩
  · simp only [decide_eq_false h1]
    exact ⟨0, fun _ _ => by unfold isC; simp [h1]⟩
/-- What diMake tells of a part in lowest terms: it, if it is a turn. -/
def tell (t : Int × Int) : Int × Int × Bool := if t.2 > 1000000 then (0, 0, false) else (t.1, t.2, true)
theorem norm_mod (n : Int) {d : Int} (hd : 0 < d) : (Int.tmod n d + d) % d = n % d := by
  rw [Int.add_emod_right]
  have e := Int.mul_tdiv_add_tmod n d
  have : n % d = (Int.tmod n d + d * Int.tdiv n d) % d := by rw [Int.add_comm, e]
  rw [this, Int.add_mul_emod_self_left]
theorem diMake_val {n d : Int} (hd : 0 < d) (hb : d ≤ 4611686018427387904) : Ev (fun k => spec_diMake.f k n d) (tell (mkT n d)) := by
  unfold spec_diMake.f
  obtain ⟨t1, t0⟩ := tmod_bd n hd
  have g0 := gI_pos (a := n % d) (show d ≠ 0 by omega)
  have m0 : 0 ≤ n % d := Int.emod_nonneg _ (by omega)
  have m1 : n % d < d := Int.emod_lt_of_pos _ hd
  have q0 : 0 ≤ d / gI (n % d) d := Int.ediv_nonneg (by omega) (by omega)
  have q1 : d / gI (n % d) d ≤ d := Int.ediv_le_self _ (by omega)
  have r0 : 0 ≤ n % d / gI (n % d) d := Int.ediv_nonneg (by omega) (by omega)
  have r1 : n % d / gI (n % d) d ≤ n % d := Int.ediv_le_self _ (by omega)
  simp only [if_neg (show ¬ d = 0 by omega)]
  rw [wid (x := Int.tmod n d + d) (by omega) (by omega), tmod_nn _ (show 0 ≤ Int.tmod n d + d by omega), norm_mod n hd]
  refine Ev.bind (diCommon_val m0 (by omega)) ?_
  rw [if_neg (by omega), tdiv_nn _ m0, tdiv_nn _ (by omega), wid (x := d / gI (n % d) d) (by omega) (by omega), wid (x := n % d / gI (n % d) d) (by omega) (by omega)]
  refine ⟨0, fun _ _ => ?_⟩
  unfold tell mkT
  dsimp only
  split <;> rfl
theorem diAdd_val {a b c d k : Int} (ha : -1000000000 ≤ a ∧ a ≤ 1000000000) (hb : 0 < b ∧ b ≤ 1000000000) (hc : -1000000 ≤ c ∧ c ≤ 1000000) (hk : -1000 ≤ k ∧ k ≤ 1000) (hd : 0 < d ∧ d ≤ 1000000000) : Ev (fun n => spec_diAdd.f n a b c d k) (tell (mkT (a * d + k * c * b) (b * d))) := by
  have e1 := mul_bd (N := 1000000000) ha (y := d) (by omega)
  have e5 := mul_bd (M := 1000) (N := 1000000) (x := k) (y := c) hk hc
  have e2 := mul_bd (M := 1000000000) (N := 1000000000) (x := k * c) (y := b) (by omega) (by omega)
  have e3 := mul_bd (M := 1000000000) (N := 1000000000) (x := b) (y := d) (by omega) (by omega)
  have e4 : 0 < b * d := Int.mul_pos hb.1 hd.1
  unfold spec_diAdd.f
  rw [wid (x := k * c) (by omega) (by omega), wid (x := a * d) (by omega) (by omega), wid (x := k * c * b) (by omega) (by omega), wid (x := b * d) (by omega) (by omega), wid (x := a * d + k * c * b) (by omega) (by omega)]
  exact Ev.bind (diMake_val e4 (by omega)) ⟨0, fun _ _ => rfl⟩
theorem mkT_small (n : Int) {d : Int} (hd : 0 < d) : (mkT n d).2 ≤ d := Int.le_of_dvd hd (mkT_dvd n)
theorem tell_small (n : Int) {d : Int} (hd : 0 < d) (h : d ≤ 1000000) : tell (mkT n d) = ((mkT n d).1, (mkT n d).2, true) := by
  have := mkT_small n hd
  unfold tell
  rw [if_neg (by omega)]
theorem drApart_val {a b c d a' b' c' d' : Int} (h : isC a b c d) (h' : isC a' b' c' d') : Ev (fun k => spec_drApart.f k a b c d a' b' c' d') ((mkT (a * b' - a' * b) (b * b')).1, (mkT (a * b' - a' * b) (b * b')).2, c * d' - c' * d, d * d') := by
  obtain ⟨e1, e2, e3, e4, e5, e6, _⟩ := gain_bd h h'
  obtain ⟨h1, h2, h3, h4⟩ := isC_bd h
  obtain ⟨k1, k2, k3, k4⟩ := isC_bd h'
  unfold spec_drApart.f
  rw [wid (x := c * d') (by omega) (by omega), wid (x := c' * d) (by omega) (by omega), wid (x := d * d') (by omega) (by omega), wid (x := c * d' - c' * d) (by omega) (by omega)]
  refine Ev.bind (diAdd_val (by omega) (by omega) (by omega) (by omega) (by omega)) ⟨0, fun _ _ => ?_⟩
  have e : a * b' + -1 * a' * b = a * b' - a' * b := by rw [Int.neg_one_mul, Int.neg_mul]; omega
  rw [e, tell_small _ e6 (by omega)]
theorem eqSpan_refl (a b : Int) : laws_eqSpan.f a b a b = some true := by unfold laws_eqSpan.f; rw [if_pos rfl, if_pos rfl]
theorem sFirstAgree_val (a b c d a' b' c' d' : Int) : Ev (fun k => spec_FirstAgree.f k a b c d a' b' c' d') (agreeT a b c d a' b' c' d') := by
  have no : Ev (fun k => spec_FirstAgree.j0 k true a b c d a' b' c' d') (0, 0, false) := Ev.up ⟨0, fun _ _ => rfl⟩
  unfold spec_FirstAgree.f agreeT
  refine Ev.bind (drClock_val a b c d) ?_
  by_cases h1 : isC a b c d
  · simp only [decide_eq_true h1, if_true]
    refine Ev.bind (drClock_val a' b' c' d') ?_
    by_cases h2 : isC a' b' c' d'
    · simp only [decide_eq_true h2, Bool.not_true]
      simp only [if_pos (show isC a b c d ∧ isC a' b' c' d' from ⟨h1, h2⟩)]
      refine Ev.up ?_
      simp only [spec_FirstAgree.j0, Bool.false_eq_true, if_false]
      refine Ev.bind (drApart_val h1 h2) ?_
      dsimp only
      obtain ⟨e1, e2, e3, e4, e5, e6, e7, e8⟩ := gain_bd h1 h2
      have L := mkT_low (a * b' - a' * b) e6
      have B : (mkT (a * b' - a' * b) (b * b')).2 ≤ b * b' := Int.le_of_dvd e6 (mkT_dvd _)
      have := drFirst_val (num := c * d' - c' * d) (den := d * d') false L (by omega) (by omega) (by omega)
      simp only [Bool.false_eq_true, and_false, if_false] at this
      exact Ev.bind this ⟨0, fun _ _ => rfl⟩
    · simp only [decide_eq_false h2, Bool.not_false]
      rw [if_neg (fun x => h2 x.2)]; exact no
  · simp only [decide_eq_false h1]
    rw [if_neg (fun x => h1 x.1)]; exact no
theorem FnExactFirstAgree : laws_FnExactFirstAgree.Pure := by
  intro a b c d a' b' c' d' _ _ _ _ _ _ _ _
  obtain ⟨K1, h1⟩ := sFirstAgree_val a b c d a' b' c' d'
  obtain ⟨K2, h2⟩ := ifirst_val a b c d a' b' c' d'
  refine ⟨max K1 K2, ?_⟩
  have e1 := h1 (max K1 K2) (by omega)
  have e2 := h2 (max K1 K2) (by omega)
  dsimp only at e1 e2
  unfold laws_FnExactFirstAgree.f laws_toClock.f laws_toTurn.f impl_FirstAgree.f
  simp only [Option.bind_some, e1, e2, eqSpan_refl]
  simp

end Go.Proofs.Ytjjbockboifcbaa.Pure
