/- For every two numbers the program's SpanText answers as the reference does; no condition. -/
import Derived.Test.YtdhifobbaniogadDoorVFnExactSpanText
import Derived.Test.YtdhifobbaniogadDoorPFnExactSpanTextx4
set_option linter.unusedVariables false
set_option linter.unusedSimpArgs false
namespace Go.Proofs.YtdhifobbaniogadDoor.Pure
open Go.RowKit Go.Proofs.YtdhifobbaniogadDoor.PFnExactSpanText Go.Proofs.YtdhifobbaniogadDoorW.PrintWords Go.Proofs.YtdhifobbaniogadDoorW.PrintLast Go.Proofs.YtdhifobbaniogadDoorW.PrintMore

/-! base: whole numbers of 64 bits -/
theorem wid {x : Int} (h0 : -9223372036854775808 ≤ x) (h1 : x ≤ 9223372036854775807) : wrap64 x = x := by unfold wrap64; omega
theorem wf_bd {a : Int} (h : (Lit.int .i64 a).wf = true) : -9223372036854775808 ≤ a ∧ a ≤ 9223372036854775807 := by
  simp only [Lit.wf, IntKind.min, IntKind.max, IntKind.signed, IntKind.bits, Bool.and_eq_true, decide_eq_true_eq] at h
  simp at h
  exact h
theorem tmod_nn {a : Int} (b : Int) (h : 0 ≤ a) : Int.tmod a b = a % b := Int.tmod_eq_emod_of_nonneg h
theorem tdiv_nn {a : Int} (b : Int) (h : 0 ≤ a) : Int.tdiv a b = a / b := Int.tdiv_eq_ediv_of_nonneg h
theorem mul_bd {x y M N : Int} (hx : -M ≤ x ∧ x ≤ M) (hy : -N ≤ y ∧ y ≤ N) : -(M * N) ≤ x * y ∧ x * y ≤ M * N := by
  have h1 : x.natAbs ≤ M.natAbs := by omega
  have h2 : y.natAbs ≤ N.natAbs := by omega
  have h3 := Nat.mul_le_mul h1 h2
  rw [← Int.natAbs_mul, ← Int.natAbs_mul] at h3
  have h4 : 0 ≤ M * N := Int.mul_nonneg (by omega) (by omega)
  omega
theorem l1In_val (a b c : Int) : spec_l1In.f a b c = some (decide (b ≤ a ∧ a ≤ c)) := by
  unfold spec_l1In.f
  by_cases h : a ≥ b
  · have e : (b ≤ a ∧ a ≤ c) ↔ a ≤ c := ⟨fun x => x.2, fun x => ⟨h, x⟩⟩
    rw [if_pos h, decide_eq_decide.mpr e]
  · rw [if_neg h, decide_eq_false (fun x => h x.1)]
/-! tmath: parts of a turn, in lowest terms -/
/-- The greatest common divisor, as a whole number. -/
def gI (a b : Int) : Int := (Int.gcd a b : Int)
theorem gI_nonneg (a b : Int) : 0 ≤ gI a b := by unfold gI; omega
theorem gI_pos {a b : Int} (hb : b ≠ 0) : 0 < gI a b := by
  unfold gI
  have : 0 < Int.gcd a b := Int.gcd_pos_of_ne_zero_right a hb
  omega
theorem gI_dvd_left (a b : Int) : gI a b ∣ a := Int.gcd_dvd_left ..
theorem gI_dvd_right (a b : Int) : gI a b ∣ b := Int.gcd_dvd_right ..
theorem gI_le {a b : Int} (hb : 0 < b) : gI a b ≤ b := Int.le_of_dvd hb (gI_dvd_right a b)
/-- n / d without whole turns, in lowest terms. -/
def mkT (n d : Int) : Int × Int := (n % d / gI (n % d) d, d / gI (n % d) d)
/-- Is it in lowest terms, and less than a turn? -/
def low (p q : Int) : Prop := 0 < q ∧ 0 ≤ p ∧ p < q ∧ gI p q = 1
theorem gI_div {a b g : Int} (hg : 0 < g) (e : gI a b = g) : gI (a / g) (b / g) = 1 := by
  unfold gI at *
  have h := Int.gcd_ediv_gcd_ediv_gcd (i := a) (j := b) (by omega)
  rw [e] at h
  rw [h]; rfl
theorem mkT_low (n : Int) {d : Int} (hd : 0 < d) : low (mkT n d).1 (mkT n d).2 := by
  have hg := gI_pos (a := n % d) (show d ≠ 0 by omega)
  have h0 : 0 ≤ n % d := Int.emod_nonneg _ (by omega)
  have h1 : n % d < d := Int.emod_lt_of_pos _ hd
  have dl := gI_dvd_left (n % d) d
  have dr := gI_dvd_right (n % d) d
  refine ⟨?_, Int.ediv_nonneg h0 (by omega), ?_, gI_div hg rfl⟩
  · exact Int.ediv_pos_of_pos_of_dvd hd (by omega) dr
  · show n % d / gI (n % d) d < d / gI (n % d) d
    rw [Int.ediv_lt_iff_lt_mul hg, Int.ediv_mul_cancel dr]
    exact h1
theorem mkT_eq (n : Int) {d : Int} (hd : 0 < d) : (mkT n d).1 * d = (mkT n d).2 * (n % d) := by
  have hg := gI_pos (a := n % d) (show d ≠ 0 by omega)
  obtain ⟨x, hx⟩ := gI_dvd_left (n % d) d
  obtain ⟨y, hy⟩ := gI_dvd_right (n % d) d
  have e1 : n % d / gI (n % d) d = x := Int.ediv_eq_of_eq_mul_right (by omega) hx
  have e2 : d / gI (n % d) d = y := Int.ediv_eq_of_eq_mul_right (by omega) hy
  show n % d / gI (n % d) d * d = d / gI (n % d) d * (n % d)
  rw [e1, e2]
  generalize gI (n % d) d = g at hx hy
  rw [hx, Int.mul_comm x d, hy]
  ac_rfl
theorem mkT_dvd (n : Int) {d : Int} : (mkT n d).2 ∣ d := by
  obtain ⟨y, hy⟩ := gI_dvd_right (n % d) d
  by_cases h : gI (n % d) d = 0
  · show d / gI (n % d) d ∣ d
    rw [h] at hy ⊢; simp at hy; rw [hy]; simp
  · have e2 : d / gI (n % d) d = y := Int.ediv_eq_of_eq_mul_right h hy
    show d / gI (n % d) d ∣ d
    rw [e2]
    exact ⟨gI (n % d) d, by rw [Int.mul_comm]; exact hy⟩
theorem dvd_cancel {k m n : Int} (c : Int.gcd k m = 1) (h : k ∣ m * n) : k ∣ n := by
  have h2 : k.natAbs ∣ m.natAbs * n.natAbs := by rw [← Int.natAbs_mul]; exact Int.natAbs_dvd_natAbs.mpr h
  exact Int.natAbs_dvd_natAbs.mp (Nat.Coprime.dvd_of_dvd_mul_left (show Nat.Coprime k.natAbs m.natAbs from c) h2)
/-- Two in lowest terms that are alike are one. -/
theorem low_ext {p q r s : Int} (h : low p q) (k : low r s) (e : p * s = r * q) : p = r ∧ q = s := by
  obtain ⟨q0, p0, _, hg⟩ := h
  obtain ⟨s0, r0, _, kg⟩ := k
  have c1 : Int.gcd q p = 1 := by rw [Int.gcd_comm]; unfold gI at hg; omega
  have c2 : Int.gcd s r = 1 := by rw [Int.gcd_comm]; unfold gI at kg; omega
  have d1 : q ∣ s := dvd_cancel c1 (show q ∣ p * s from ⟨r, by rw [e, Int.mul_comm]⟩)
  have d2 : s ∣ q := dvd_cancel c2 (show s ∣ r * q from ⟨p, by rw [← e, Int.mul_comm]⟩)
  have es : q = s := Int.dvd_antisymm (by omega) (by omega) d1 d2
  subst es
  exact ⟨Int.eq_of_mul_eq_mul_right (by omega) e, rfl⟩
/-- What n / d is, told by what it is alike to. -/
theorem mkT_of {n d p q m : Int} (hd : 0 < d) (h : low p q) (e : p * d = q * n + q * d * m) : mkT n d = (p, q) := by
  have l := mkT_low n hd
  have e1 := mkT_eq n hd
  have em := Int.mul_ediv_add_emod n d
  obtain ⟨q0, p0, pq, hg⟩ := h
  have h0 : 0 ≤ n % d := Int.emod_nonneg _ (by omega)
  have h1 : n % d < d := Int.emod_lt_of_pos _ hd
  -- p * d = q * (n % d)
  have key : p * d = q * (n % d) := by
    have t : p * d = q * (n % d) + q * d * (n / d + m) := by
      rw [e, Int.mul_add (q * d), ← Int.add_assoc]
      congr 1
      rw [Int.mul_assoc q d, ← Int.mul_add, Int.add_comm (n % d), em]
    have b1 : 0 ≤ p * d := Int.mul_nonneg p0 (by omega)
    have b2 : p * d < q * d := Int.mul_lt_mul_of_pos_right pq hd
    have b3 : 0 ≤ q * (n % d) := Int.mul_nonneg (by omega) h0
    have b4 : q * (n % d) < q * d := Int.mul_lt_mul_of_pos_left h1 q0
    have z : n / d + m = 0 := by
      rcases Int.lt_trichotomy (n / d + m) 0 with hlt | he | hgt
      · exfalso
        have : q * d * (n / d + m) ≤ q * d * (-1) := Int.mul_le_mul_of_nonneg_left (by omega) (Int.mul_nonneg (by omega) (by omega))
        omega
      · exact he
      · exfalso
        have : q * d * 1 ≤ q * d * (n / d + m) := Int.mul_le_mul_of_nonneg_left (by omega) (Int.mul_nonneg (by omega) (by omega))
        omega
    rw [z, Int.mul_zero, Int.add_zero] at t
    exact t
  have k : (mkT n d).1 * q = p * (mkT n d).2 := by
    have : (mkT n d).1 * q * d = p * (mkT n d).2 * d := by
      rw [Int.mul_assoc, Int.mul_comm q d, ← Int.mul_assoc, e1, Int.mul_assoc p, Int.mul_comm _ d, ← Int.mul_assoc p, key, Int.mul_assoc, Int.mul_comm (n % d) q, Int.mul_comm]
    exact Int.eq_of_mul_eq_mul_right (by omega) this
  obtain ⟨a, b⟩ := low_ext l ⟨q0, p0, pq, hg⟩ k
  exact Prod.ext a b
theorem mkT_self {p q : Int} (h : low p q) : mkT p q = (p, q) := mkT_of (m := 0) h.1 h (by rw [Int.mul_zero, Int.add_zero, Int.mul_comm])
/-- Alike up to whole turns: one. -/
theorem mkT_congr {n d n' d' m : Int} (hd : 0 < d) (hd' : 0 < d') (e : n * d' = n' * d + d * d' * m) : mkT n d = mkT n' d' := by
  have l := mkT_low n' hd'
  have e1 := mkT_eq n' hd'
  have em := Int.mul_ediv_add_emod n' d'
  have : mkT n d = ((mkT n' d').1, (mkT n' d').2) := by
    generalize hp : (mkT n' d').1 = p at *
    generalize hq : (mkT n' d').2 = q at *
    refine mkT_of (m := -(n' / d') - m) hd l ?_
    -- p * d = q * n + q * d * (-(n'/d') - m)
    have f : p * d * d' = (q * n + q * d * (-(n' / d') - m)) * d' := by
      have a1 : p * d * d' = q * (n' % d') * d := by rw [Int.mul_assoc, Int.mul_comm d d', ← Int.mul_assoc, e1]
      have a2 : n' % d' = n' - d' * (n' / d') := by omega
      have a3 : (q * n + q * d * (-(n' / d') - m)) * d' = q * (n * d') - q * (d * d' * (n' / d')) - q * (d * d' * m) := by
        rw [Int.add_mul, Int.sub_eq_add_neg, Int.mul_add, Int.add_mul, Int.mul_neg, Int.neg_mul, Int.mul_neg, Int.neg_mul]
        have x1 : q * d * (n' / d') * d' = q * (d * d' * (n' / d')) := by ac_rfl
        have x2 : q * d * m * d' = q * (d * d' * m) := by ac_rfl
        have x3 : q * n * d' = q * (n * d') := by ac_rfl
        rw [x1, x2, x3]; omega
      rw [a1, a2, a3, e, Int.mul_add, Int.mul_sub, Int.sub_mul]
      have y1 : q * (n' * d) = q * n' * d := by ac_rfl
      have y2 : q * (d' * (n' / d')) * d = q * (d * d' * (n' / d')) := by ac_rfl
      rw [y1, y2]; omega
    exact Int.eq_of_mul_eq_mul_right (by omega) f
  rw [this]
theorem mkT_add_turns (n : Int) {d : Int} (m : Int) (hd : 0 < d) : mkT (n + d * m) d = mkT n d :=
  mkT_congr (m := m) hd hd (by rw [Int.add_mul]; congr 1; ac_rfl)
theorem mkT_scale (n : Int) {d c : Int} (hd : 0 < d) (hc : 0 < c) : mkT (c * n) (c * d) = mkT n d :=
  mkT_congr (m := 0) (Int.mul_pos hc hd) hd (by rw [Int.mul_zero, Int.add_zero]; ac_rfl)
theorem gI_tmod (a : Int) {b : Int} : gI b (Int.tmod a b) = gI a b := by
  unfold gI
  congr 1
  rw [Int.gcd, Int.gcd, Int.natAbs_tmod, Nat.gcd_comm, ← Nat.gcd_rec, Nat.gcd_comm]
theorem tmod_bd (n : Int) {d : Int} (hd : 0 < d) : -d < Int.tmod n d ∧ Int.tmod n d < d := by
  have h : (Int.tmod n d).natAbs < d.natAbs := by rw [Int.natAbs_tmod]; exact Nat.mod_lt _ (by omega)
  omega
/-- A span. -/
def isS (a b : Int) : Prop := (0 ≤ a ∧ a ≤ 1000000) ∧ (1 ≤ b ∧ b ≤ 10000) ∧ gI a b = 1
instance (a b : Int) : Decidable (isS a b) := by unfold isS; exact inferInstance
/-- A span in lowest terms, if it is one. -/
def spanT (n d : Int) : Int × Int × Bool := if isS (n / gI n d) (d / gI n d) then (n / gI n d, d / gI n d, true) else (0, 0, false)
theorem isS_bd {a b : Int} (h : isS a b) : (0 ≤ a ∧ a ≤ 1000000) ∧ (1 ≤ b ∧ b ≤ 10000) := ⟨h.1, h.2.1⟩
theorem diCommon_ev : ∀ (n : Nat) (a b : Int), 0 ≤ a → 0 ≤ b → b.toNat ≤ n → ∀ k, n < k → spec_diCommon.l0 k a b = some (gI a b)
  | 0, a, b, ha, hb, hn, k, hk => by
    obtain ⟨k, rfl⟩ : ∃ m, k = m + 1 := ⟨k - 1, by omega⟩
    have : b = 0 := by omega
    subst this
    simp only [spec_diCommon.l0]
    rw [if_neg (by omega)]
    unfold gI
    rw [Int.gcd_zero_right]; congr 1; omega
  | n + 1, a, b, ha, hb, hn, k, hk => by
    obtain ⟨k, rfl⟩ : ∃ m, k = m + 1 := ⟨k - 1, by omega⟩
    simp only [spec_diCommon.l0]
    by_cases h0 : b = 0
    · subst h0
      rw [if_neg (by omega)]
      unfold gI
      rw [Int.gcd_zero_right]; congr 1; omega
    · have h1 : 0 ≤ Int.tmod a b := by rw [tmod_nn _ ha]; exact Int.emod_nonneg _ h0
      have h2 : Int.tmod a b < b := by rw [tmod_nn _ ha]; exact Int.emod_lt_of_pos _ (by omega)
      rw [if_pos (by omega), if_neg h0, diCommon_ev n b (Int.tmod a b) hb h1 (by omega) k (by omega), gI_tmod]
theorem diCommon_val {a b : Int} (ha : 0 ≤ a) (hb : 0 ≤ b) : Ev (fun k => spec_diCommon.f k a b) (gI a b) :=
  ⟨b.toNat + 1, fun k hk => diCommon_ev b.toNat a b ha hb (Nat.le_refl _) k (by omega)⟩
theorem drGood_val (a b : Int) : Ev (fun k => spec_drGood.f k a b) (decide (isS a b)) := by
  unfold spec_drGood.f
  simp only [l1In_val, Option.bind_some]
  by_cases h1 : 0 ≤ a ∧ a ≤ 1000000
  · simp only [decide_eq_true h1, if_true]
    by_cases h2 : 1 ≤ b ∧ b ≤ 10000
    · simp only [decide_eq_true h2, if_true]
      refine Ev.bind (diCommon_val h1.1 (by omega)) ⟨0, fun _ _ => ?_⟩
      unfold isS
      rw [show (gI a b == 1) = decide (gI a b = 1) from Bool.eq_iff_iff.mpr (by simp)]
      simp [h1, h2]
    · simp only [decide_eq_false h2]
      exact ⟨0, fun _ _ => by unfold isS; simp [h2]⟩
  · simp only [decide_eq_false h1]
    exact ⟨0, fun _ _ => by unfold isS; simp [h1]⟩
theorem mx_abs {a : Int} (h0 : -9223372036854775808 < a) (h1 : a ≤ 9223372036854775807) : mx a (wrap64 (-a)) = (a.natAbs : Int) := by
  rw [wid (by omega) (by omega)]
  unfold mx; split <;> omega
theorem igcd_ev : ∀ (n : Nat) (a b : Int), -9223372036854775808 < a → a ≤ 9223372036854775807 → -9223372036854775808 < b → b ≤ 9223372036854775807 → b.natAbs ≤ n → ∀ k, n < k → impl_gcd.l0 k a b = some (gI a b)
  | 0, a, b, a0, a1, b0, b1, hn, k, hk => by
    obtain ⟨k, rfl⟩ : ∃ m, k = m + 1 := ⟨k - 1, by omega⟩
    have : b = 0 := by omega
    subst this
    simp only [impl_gcd.l0, if_true]
    rw [mx_abs a0 a1]
    unfold gI
    rw [Int.gcd_zero_right]
  | n + 1, a, b, a0, a1, b0, b1, hn, k, hk => by
    obtain ⟨k, rfl⟩ : ∃ m, k = m + 1 := ⟨k - 1, by omega⟩
    simp only [impl_gcd.l0]
    by_cases h0 : b = 0
    · subst h0
      rw [if_pos rfl, mx_abs a0 a1]
      unfold gI
      rw [Int.gcd_zero_right]
    · have h2 : (Int.tmod a b).natAbs < b.natAbs := by rw [Int.natAbs_tmod]; exact Nat.mod_lt _ (by omega)
      rw [if_neg h0, igcd_ev n b (Int.tmod a b) b0 b1 (by omega) (by omega) (by omega) k (by omega), gI_tmod]
theorem igcd_val {a b : Int} (a0 : -9223372036854775808 < a) (a1 : a ≤ 9223372036854775807) (b0 : -9223372036854775808 < b) (b1 : b ≤ 9223372036854775807) : Ev (fun k => impl_gcd.f k a b) (gI a b) :=
  ⟨b.natAbs + 1, fun k hk => igcd_ev b.natAbs a b a0 a1 b0 b1 (Nat.le_refl _) k (by omega)⟩
theorem IsSpan_val (a b : Int) : Ev (fun k => impl_IsSpan.f k a b) (decide (isS a b)) := by
  unfold impl_IsSpan.f
  simp only [within_val, Option.bind_some]
  by_cases h1 : 0 ≤ a ∧ a ≤ 1000000
  · simp only [decide_eq_true h1, if_true]
    by_cases h2 : 1 ≤ b ∧ b ≤ 10000
    · simp only [decide_eq_true h2, if_true]
      refine Ev.bind (igcd_val (by omega) (by omega) (by omega) (by omega)) ⟨0, fun _ _ => ?_⟩
      unfold isS
      rw [show (gI a b == 1) = decide (gI a b = 1) from Bool.eq_iff_iff.mpr (by simp)]
      simp [h1, h2]
    · simp only [decide_eq_false h2]
      exact ⟨0, fun _ _ => by unfold isS; simp [h2]⟩
  · simp only [decide_eq_false h1]
    exact ⟨0, fun _ _ => by unfold isS; simp [h1]⟩
/-! l1num: the reference's numeral is the library's -/
theorem bytes_app (xs ys : List UInt8) : (⟨xs.toArray⟩ : ByteArray) ++ (⟨ys.toArray⟩ : ByteArray) = ⟨(xs ++ ys).toArray⟩ := by
  apply ByteArray.ext
  simp [ByteArray.data_append]
theorem bytes_size (xs : List UInt8) : (⟨xs.toArray⟩ : ByteArray).size = xs.length := by simp [ByteArray.size]
theorem strOf1 (x : Int) : strOfNums [x] = ⟨[UInt8.ofNat x.toNat].toArray⟩ := rfl
theorem l1Num_val : ∀ (d n : Nat), n < 10 ^ d → 1 ≤ d → d ≤ 18 → ∀ k, d ≤ k → spec_l1Num.f k (n : Int) = some (⟨(Go.Lib.itoa (n : Int)).toArray⟩ : ByteArray)
  | 0, n, h, h1, _, k, hk => by omega
  | d + 1, n, h, h1, hd, k, hk => by
    obtain ⟨k, rfl⟩ : ∃ m, k = m + 1 := ⟨k - 1, by omega⟩
    simp only [spec_l1Num.f]
    rw [Go.Lib.itoa_nonneg, Go.Lib.decDigits]
    have hp : (10 : Nat) ^ (d + 1) ≤ 10 ^ 18 := Nat.pow_le_pow_right (by omega) hd
    have hp2 : (10 : Nat) ^ 18 = 1000000000000000000 := by decide
    by_cases c : n < 10
    · rw [if_pos (show (n : Int) < 10 by omega), dif_pos c, wid (x := 48 + (n : Int)) (by omega) (by omega), show (48 + (n : Int)) % 256 = ((48 + n : Nat) : Int) by omega, strOf1]
      rfl
    · have hd1 : 1 ≤ d := by
        rcases Nat.eq_zero_or_pos d with rfl | h0
        · simp at h; omega
        · exact h0
      have hn : n / 10 < 10 ^ d := by rw [Nat.pow_succ] at h; omega
      have hr := l1Num_val d (n / 10) hn hd1 (by omega) k (by omega)
      rw [Go.Lib.itoa_nonneg] at hr
      rw [if_neg (show ¬ (n : Int) < 10 by omega), dif_neg c, tdiv_nn _ (by omega), tmod_nn _ (by omega), wid (x := (n : Int) / 10) (by omega) (by omega), wid (x := 48 + (n : Int) % 10) (by omega) (by omega), show (n : Int) / 10 = ((n / 10 : Nat) : Int) by omega, hr, show (48 + (n : Int) % 10) % 256 = ((48 + n % 10 : Nat) : Int) by omega]
      simp only [Option.bind_some]
      have hl := Go.Lib.itoa_length_le ((n / 10 : Nat) : Int) (by omega) (by omega)
      rw [Go.Lib.itoa_nonneg] at hl
      rw [strOf1, bytes_size, bytes_size, if_pos (by simp; omega), bytes_app, Int.toNat_natCast]
theorem FnExactSpanText : laws_FnExactSpanText.Pure := by
  intro a b w _ _ ht
  obtain ⟨K1, h1⟩ := drGood_val a b
  obtain ⟨K2, h2⟩ := IsSpan_val a b
  have e1 := h1 (max (max K1 K2) 20) (by omega)
  have e2 := h2 (max (max K1 K2) 20) (by omega)
  have hk : 20 ≤ max (max K1 K2) 20 := by omega
  generalize max (max K1 K2) 20 = k at e1 e2 hk
  dsimp only at e1 e2
  by_cases c : isS a b
  · rw [decide_eq_true c] at e1 e2
    obtain ⟨ca, cb⟩ := isS_bd c
    obtain ⟨a, rfl⟩ := Int.eq_ofNat_of_zero_le ca.1
    obtain ⟨b, rfl⟩ := Int.eq_ofNat_of_zero_le (show 0 ≤ b by omega)
    have n1 := l1Num_val 7 a (by omega) (by omega) (by omega) k (by omega)
    have n2 := l1Num_val 7 b (by omega) (by omega) (by omega) k (by omega)
    have l1 := Go.Lib.itoa_length_le (a : Int) (by omega) (by omega)
    have l2 := Go.Lib.itoa_length_le (b : Int) (by omega) (by omega)
    refine walkV k a b true w (textOf a b) ht ?_ ?_
    · unfold spec_SpanText.f
      rw [e1]
      simp only [Option.bind_some, if_true]
      rw [n1]
      simp only [Option.bind_some]
      rw [if_pos (by rw [bytes_size]; omega), n2]
      simp only [Option.bind_some]
      rw [if_pos (by rw [ByteArray.size_append, bytes_size, bytes_size]; show (Go.Lib.itoa (a : Int)).length + 1 + (Go.Lib.itoa (b : Int)).length ≤ _; omega)]
      rfl
    · unfold impl_SpanText.f
      rw [e2]
      rfl
  · rw [decide_eq_false c] at e1 e2
    refine walkV k a b false w (⟨#[]⟩) ht ?_ ?_
    · unfold spec_SpanText.f
      rw [e1]; rfl
    · unfold impl_SpanText.f
      rw [e2]; rfl

end Go.Proofs.YtdhifobbaniogadDoor.Pure
