/- For every string the program's ParseSpan answers as the reference does; no condition. -/
import Derived.Test.YtdhifobbaniogafDoorVFnExactParseSpan
import Derived.Test.YtdhifobbaniogafDoorPFnExactParseSpanx6
set_option linter.unusedVariables false
set_option linter.unusedSimpArgs false
namespace Go.Proofs.YtdhifobbaniogafDoor.Pure
open Go.RowKit Go.Proofs.YtdhifobbaniogafDoor.PFnExactParseSpan Go.Proofs.YtdhifobbaniogafDoorW.PrintWords Go.Proofs.YtdhifobbaniogafDoorW.PrintLast Go.Proofs.YtdhifobbaniogafDoorW.PrintMore

/-! base: whole numbers of 64 bits -/
theorem wid {x : Int} (h0 : -9223372036854775808 ≤ x) (h1 : x ≤ 9223372036854775807) : wrap64 x = x := by unfold wrap64; omega
theorem wf_bd {a : Int} (h : (Lit.int .i64 a).wf = true) : -9223372036854775808 ≤ a ∧ a ≤ 9223372036854775807 := by
  simp only [Lit.wf, IntKind.min, IntKind.max, IntKind.signed, IntKind.bits, Bool.and_eq_true, decide_eq_true_eq] at h
  simp at h
  exact h
theorem tmod_nn {a : Int} (b : Int) (h : 0 ≤ a) : Int.tmod a b = a % b := Int.tmod_eq_emod_of_nonneg h
theorem tdiv_nn {a : Int} (b : Int) (h : 0 ≤ a) : Int.tdiv a b = a / b := Int.tdiv_eq_ediv_of_nonneg h
theorem mul_bd {x y M N : Int} (hx : -M ≤ x ∧ x ≤ M) (hy : -N ≤ y ∧ y ≤ N) : -(M * N) ≤ x * y ∧ x * y ≤ M * N := by
  have h1 : x.natAbs ≤ M.natAbs := by omega
  have h2 : y.natAbs ≤ N.natAbs := by omega
  have h3 := Nat.mul_le_mul h1 h2
  rw [← Int.natAbs_mul, ← Int.natAbs_mul] at h3
  have h4 : 0 ≤ M * N := Int.mul_nonneg (by omega) (by omega)
  omega
theorem l1In_val (a b c : Int) : spec_l1In.f a b c = some (decide (b ≤ a ∧ a ≤ c)) := by
  unfold spec_l1In.f
  by_cases h : a ≥ b
  · have e : (b ≤ a ∧ a ≤ c) ↔ a ≤ c := ⟨fun x => x.2, fun x => ⟨h, x⟩⟩
    rw [if_pos h, decide_eq_decide.mpr e]
  · rw [if_neg h, decide_eq_false (fun x => h x.1)]
/-! tmath: parts of a turn, in lowest terms -/
/-- The greatest common divisor, as a whole number. -/
def gI (a b : Int) : Int := (Int.gcd a b : Int)
theorem gI_nonneg (a b : Int) : 0 ≤ gI a b := by unfold gI; omega
theorem gI_pos {a b : Int} (hb : b ≠ 0) : 0 < gI a b := by
  unfold gI
  have : 0 < Int.gcd a b := Int.gcd_pos_of_ne_zero_right a hb
  omega
theorem gI_dvd_left (a b : Int) : gI a b ∣ a := Int.gcd_dvd_left ..
theorem gI_dvd_right (a b : Int) : gI a b ∣ b := Int.gcd_dvd_right ..
theorem gI_le {a b : Int} (hb : 0 < b) : gI a b ≤ b := Int.le_of_dvd hb (gI_dvd_right a b)
/-- n / d without whole turns, in lowest terms. -/
def mkT (n d : Int) : Int × Int := (n % d / gI (n % d) d, d / gI (n % d) d)
/-- Is it in lowest terms, and less than a turn? -/
def low (p q : Int) : Prop := 0 < q ∧ 0 ≤ p ∧ p < q ∧ gI p q = 1
theorem gI_div {a b g : Int} (hg : 0 < g) (e : gI a b = g) : gI (a / g) (b / g) = 1 := by
  unfold gI at *
  have h := Int.gcd_ediv_gcd_ediv_gcd (i := a) (j := b) (by omega)
  rw [e] at h
  rw [h]; rfl
theorem mkT_low (n : Int) {d : Int} (hd : 0 < d) : low (mkT n d).1 (mkT n d).2 := by
  have hg := gI_pos (a := n % d) (show d ≠ 0 by omega)
  have h0 : 0 ≤ n % d := Int.emod_nonneg _ (by omega)
  have h1 : n % d < d := Int.emod_lt_of_pos _ hd
  have dl := gI_dvd_left (n % d) d
  have dr := gI_dvd_right (n % d) d
  refine ⟨?_, Int.ediv_nonneg h0 (by omega), ?_, gI_div hg rfl⟩
  · exact Int.ediv_pos_of_pos_of_dvd hd (by omega) dr
  · show n % d / gI (n % d) d < d / gI (n % d) d
    rw [Int.ediv_lt_iff_lt_mul hg, Int.ediv_mul_cancel dr]
    exact h1
theorem mkT_eq (n : Int) {d : Int} (hd : 0 < d) : (mkT n d).1 * d = (mkT n d).2 * (n % d) := by
  have hg := gI_pos (a := n % d) (show d ≠ 0 by omega)
  obtain ⟨x, hx⟩ := gI_dvd_left (n % d) d
  obtain ⟨y, hy⟩ := gI_dvd_right (n % d) d
  have e1 : n % d / gI (n % d) d = x := Int.ediv_eq_of_eq_mul_right (by omega) hx
  have e2 : d / gI (n % d) d = y := Int.ediv_eq_of_eq_mul_right (by omega) hy
  show n % d / gI (n % d) d * d = d / gI (n % d) d * (n % d)
  rw [e1, e2]
  generalize gI (n % d) d = g at hx hy
  rw [hx, Int.mul_comm x d, hy]
  ac_rfl
theorem mkT_dvd (n : Int) {d : Int} : (mkT n d).2 ∣ d := by
  obtain ⟨y, hy⟩ := gI_dvd_right (n % d) d
  by_cases h : gI (n % d) d = 0
  · show d / gI (n % d) d ∣ d
    rw [h] at hy ⊢; simp at hy; rw [hy]; simp
  · have e2 : d / gI (n % d) d = y := Int.ediv_eq_of_eq_mul_right h hy
    show d / gI (n % d) d ∣ d
    rw [e2]
    exact ⟨gI (n % d) d, by rw [Int.mul_comm]; exact hy⟩
theorem dvd_cancel {k m n : Int} (c : Int.gcd k m = 1) (h : k ∣ m * n) : k ∣ n := by
  have h2 : k.natAbs ∣ m.natAbs * n.natAbs := by rw [← Int.natAbs_mul]; exact Int.natAbs_dvd_natAbs.mpr h
  exact Int.natAbs_dvd_natAbs.mp (Nat.Coprime.dvd_of_dvd_mul_left (show Nat.Coprime k.natAbs m.natAbs from c) h2)
/-- Two in lowest terms that are alike are one. -/
theorem low_ext {p q r s : Int} (h : low p q) (k : low r s) (e : p * s = r * q) : p = r ∧ q = s := by
  obtain ⟨q0, p0, _, hg⟩ := h
  obtain ⟨s0, r0, _, kg⟩ := k
  have c1 : Int.gcd q p = 1 := by rw [Int.gcd_comm]; unfold gI at hg; omega
  have c2 : Int.gcd s r = 1 := by rw [Int.gcd_comm]; unfold gI at kg; omega
  have d1 : q ∣ s := dvd_cancel c1 (show q ∣ p * s from ⟨r, by rw [e, Int.mul_comm]⟩)
  have d2 : s ∣ q := dvd_cancel c2 (show s ∣ r * q from ⟨p, by rw [← e, Int.mul_comm]⟩)
  have es : q = s := Int.dvd_antisymm (by omega) (by omega) d1 d2
  subst es
  exact ⟨Int.eq_of_mul_eq_mul_right (by omega) e, rfl⟩
/-- What n / d is, told by what it is alike to. -/
theorem mkT_of {n d p q m : Int} (hd : 0 < d) (h : low p q) (e : p * d = q * n + q * d * m) : mkT n d = (p, q) := by
  have l := mkT_low n hd
  have e1 := mkT_eq n hd
  have em := Int.mul_ediv_add_emod n d
  obtain ⟨q0, p0, pq, hg⟩ := h
  have h0 : 0 ≤ n % d := Int.emod_nonneg _ (by omega)
  have h1 : n % d < d := Int.emod_lt_of_pos _ hd
  -- p * d = q * (n % d)
  have key : p * d = q * (n % d) := by
    have t : p * d = q * (n % d) + q * d * (n / d + m) := by
      rw [e, Int.mul_add (q * d), ← Int.add_assoc]
      congr 1
      rw [Int.mul_assoc q d, ← Int.mul_add, Int.add_comm (n % d), em]
    have b1 : 0 ≤ p * d := Int.mul_nonneg p0 (by omega)
    have b2 : p * d < q * d := Int.mul_lt_mul_of_pos_right pq hd
    have b3 : 0 ≤ q * (n % d) := Int.mul_nonneg (by omega) h0
    have b4 : q * (n % d) < q * d := Int.mul_lt_mul_of_pos_left h1 q0
    have z : n / d + m = 0 := by
      rcases Int.lt_trichotomy (n / d + m) 0 with hlt | he | hgt
      · exfalso
        have : q * d * (n / d + m) ≤ q * d * (-1) := Int.mul_le_mul_of_nonneg_left (by omega) (Int.mul_nonneg (by omega) (by omega))
        omega
      · exact he
      · exfalso
        have : q * d * 1 ≤ q * d * (n / d + m) := Int.mul_le_mul_of_nonneg_left (by omega) (Int.mul_nonneg (by omega) (by omega))
        omega
    rw [z, Int.mul_zero, Int.add_zero] at t
    exact t
  have k : (mkT n d).1 * q = p * (mkT n d).2 := by
    have : (mkT n d).1 * q * d = p * (mkT n d).2 * d := by
      rw [Int.mul_assoc, Int.mul_comm q d, ← Int.mul_assoc, e1, Int.mul_assoc p, Int.mul_comm _ d, ← Int.mul_assoc p, key, Int.mul_assoc, Int.mul_comm (n % d) q, Int.mul_comm]
    exact Int.eq_of_mul_eq_mul_right (by omega) this
  obtain ⟨a, b⟩ := low_ext l ⟨q0, p0, pq, hg⟩ k
  exact Prod.ext a b
theorem mkT_self {p q : Int} (h : low p q) : mkT p q = (p, q) := mkT_of (m := 0) h.1 h (by rw [Int.mul_zero, Int.add_zero, Int.mul_comm])
/-- Alike up to whole turns: one. -/
theorem mkT_congr {n d n' d' m : Int} (hd : 0 < d) (hd' : 0 < d') (e : n * d' = n' * d + d * d' * m) : mkT n d = mkT n' d' := by
  have l := mkT_low n' hd'
  have e1 := mkT_eq n' hd'
  have em := Int.mul_ediv_add_emod n' d'
  have : mkT n d = ((mkT n' d').1, (mkT n' d').2) := by
    generalize hp : (mkT n' d').1 = p at *
    generalize hq : (mkT n' d').2 = q at *
    refine mkT_of (m := -(n' / d') - m) hd l ?_
    -- p * d = q * n + q * d * (-(n'/d') - m)
    have f : p * d * d' = (q * n + q * d * (-(n' / d') - m)) * d' := by
      have a1 : p * d * d' = q * (n' % d') * d := by rw [Int.mul_assoc, Int.mul_comm d d', ← Int.mul_assoc, e1]
      have a2 : n' % d' = n' - d' * (n' / d') := by omega
      have a3 : (q * n + q * d * (-(n' / d') - m)) * d' = q * (n * d') - q * (d * d' * (n' / d')) - q * (d * d' * m) := by
        rw [Int.add_mul, Int.sub_eq_add_neg, Int.mul_add, Int.add_mul, Int.mul_neg, Int.neg_mul, Int.mul_neg, Int.neg_mul]
        have x1 : q * d * (n' / d') * d' = q * (d * d' * (n' / d')) := by ac_rfl
        have x2 : q * d * m * d' = q * (d * d' * m) := by ac_rfl
        have x3 : q * n * d' = q * (n * d') := by ac_rfl
        rw [x1, x2, x3]; omega
      rw [a1, a2, a3, e, Int.mul_add, Int.mul_sub, Int.sub_mul]
      have y1 : q * (n' * d) = q * n' * d := by ac_rfl
      have y2 : q * (d' * (n' / d')) * d = q * (d * d' * (n' / d')) := by ac_rfl
      rw [y1, y2]; omega
    exact Int.eq_of_mul_eq_mul_right (by omega) f
  rw [this]
theorem mkT_add_turns (n : Int) {d : Int} (m : Int) (hd : 0 < d) : mkT (n + d * m) d = mkT n d :=
  mkT_congr (m := m) hd hd (by rw [Int.add_mul]; congr 1; ac_rfl)
theorem mkT_scale (n : Int) {d c : Int} (hd : 0 < d) (hc : 0 < c) : mkT (c * n) (c * d) = mkT n d :=
  mkT_congr (m := 0) (Int.mul_pos hc hd) hd (by rw [Int.mul_zero, Int.add_zero]; ac_rfl)
theorem gI_tmod (a : Int) {b : Int} : gI b (Int.tmod a b) = gI a b := by
  unfold gI
  congr 1
  rw [Int.gcd, Int.gcd, Int.natAbs_tmod, Nat.gcd_comm, ← Nat.gcd_rec, Nat.gcd_comm]
theorem tmod_bd (n : Int) {d : Int} (hd : 0 < d) : -d < Int.tmod n d ∧ Int.tmod n d < d := by
  have h : (Int.tmod n d).natAbs < d.natAbs := by rw [Int.natAbs_tmod]; exact Nat.mod_lt _ (by omega)
  omega
/-- A span. -/
def isS (a b : Int) : Prop := (0 ≤ a ∧ a ≤ 1000000) ∧ (1 ≤ b ∧ b ≤ 10000) ∧ gI a b = 1
instance (a b : Int) : Decidable (isS a b) := by unfold isS; exact inferInstance
/-- A span in lowest terms, if it is one. -/
def spanT (n d : Int) : Int × Int × Bool := if isS (n / gI n d) (d / gI n d) then (n / gI n d, d / gI n d, true) else (0, 0, false)
theorem isS_bd {a b : Int} (h : isS a b) : (0 ≤ a ∧ a ≤ 1000000) ∧ (1 ≤ b ∧ b ≤ 10000) := ⟨h.1, h.2.1⟩
theorem diCommon_ev : ∀ (n : Nat) (a b : Int), 0 ≤ a → 0 ≤ b → b.toNat ≤ n → ∀ k, n < k → spec_diCommon.l0 k a b = some (gI a b)
  | 0, a, b, ha, hb, hn, k, hk => by
    obtain ⟨k, rfl⟩ : ∃ m, k = m + 1 := ⟨k - 1, by omega⟩
    have : b = 0 := by omega
    subst this
    simp only [spec_diCommon.l0]
    rw [if_neg (by omega)]
    unfold gI
    rw [Int.gcd_zero_right]; congr 1; omega
  | n + 1, a, b, ha, hb, hn, k, hk => by
    obtain ⟨k, rfl⟩ : ∃ m, k = m + 1 := ⟨k - 1, by omega⟩
    simp only [spec_diCommon.l0]
    by_cases h0 : b = 0
    · subst h0
      rw [if_neg (by omega)]
      unfold gI
      rw [Int.gcd_zero_right]; congr 1; omega
    · have h1 : 0 ≤ Int.tmod a b := by rw [tmod_nn _ ha]; exact Int.emod_nonneg _ h0
      have h2 : Int.tmod a b < b := by rw [tmod_nn _ ha]; exact Int.emod_lt_of_pos _ (by omega)
      rw [if_pos (by omega), if_neg h0, diCommon_ev n b (Int.tmod a b) hb h1 (by omega) k (by omega), gI_tmod]
theorem diCommon_val {a b : Int} (ha : 0 ≤ a) (hb : 0 ≤ b) : Ev (fun k => spec_diCommon.f k a b) (gI a b) :=
  ⟨b.toNat + 1, fun k hk => diCommon_ev b.toNat a b ha hb (Nat.le_refl _) k (by omega)⟩
theorem drGood_val (a b : Int) : Ev (fun k => spec_drGood.f k a b) (decide (isS a b)) := by
  unfold spec_drGood.f
  simp only [l1In_val, Option.bind_some]
  by_cases h1 : 0 ≤ a ∧ a ≤ 1000000
  · simp only [decide_eq_true h1, if_true]
    by_cases h2 : 1 ≤ b ∧ b ≤ 10000
    · simp only [decide_eq_true h2, if_true]
      refine Ev.bind (diCommon_val h1.1 (by omega)) ⟨0, fun _ _ => ?_⟩
      unfold isS
      rw [show (gI a b == 1) = decide (gI a b = 1) from Bool.eq_iff_iff.mpr (by simp)]
      simp [h1, h2]
    · simp only [decide_eq_false h2]
      exact ⟨0, fun _ _ => by unfold isS; simp [h2]⟩
  · simp only [decide_eq_false h1]
    exact ⟨0, fun _ _ => by unfold isS; simp [h1]⟩
theorem mx_abs {a : Int} (h0 : -9223372036854775808 < a) (h1 : a ≤ 9223372036854775807) : mx a (wrap64 (-a)) = (a.natAbs : Int) := by
  rw [wid (by omega) (by omega)]
  unfold mx; split <;> omega
theorem igcd_ev : ∀ (n : Nat) (a b : Int), -9223372036854775808 < a → a ≤ 9223372036854775807 → -9223372036854775808 < b → b ≤ 9223372036854775807 → b.natAbs ≤ n → ∀ k, n < k → impl_gcd.l0 k a b = some (gI a b)
  | 0, a, b, a0, a1, b0, b1, hn, k, hk => by
    obtain ⟨k, rfl⟩ : ∃ m, k = m + 1 := ⟨k - 1, by omega⟩
    have : b = 0 := by omega
    subst this
    simp only [impl_gcd.l0, if_true]
    rw [mx_abs a0 a1]
    unfold gI
    rw [Int.gcd_zero_right]
  | n + 1, a, b, a0, a1, b0, b1, hn, k, hk => by
    obtain ⟨k, rfl⟩ : ∃ m, k = m + 1 := ⟨k - 1, by omega⟩
    simp only [impl_gcd.l0]
    by_cases h0 : b = 0
    · subst h0
      rw [if_pos rfl, mx_abs a0 a1]
      unfold gI
      rw [Int.gcd_zero_right]
    · have h2 : (Int.tmod a b).natAbs < b.natAbs := by rw [Int.natAbs_tmod]; exact Nat.mod_lt _ (by omega)
      rw [if_neg h0, igcd_ev n b (Int.tmod a b) b0 b1 (by omega) (by omega) (by omega) k (by omega), gI_tmod]
theorem igcd_val {a b : Int} (a0 : -9223372036854775808 < a) (a1 : a ≤ 9223372036854775807) (b0 : -9223372036854775808 < b) (b1 : b ≤ 9223372036854775807) : Ev (fun k => impl_gcd.f k a b) (gI a b) :=
  ⟨b.natAbs + 1, fun k hk => igcd_ev b.natAbs a b a0 a1 b0 b1 (Nat.le_refl _) k (by omega)⟩
theorem IsSpan_val (a b : Int) : Ev (fun k => impl_IsSpan.f k a b) (decide (isS a b)) := by
  unfold impl_IsSpan.f
  simp only [within_val, Option.bind_some]
  by_cases h1 : 0 ≤ a ∧ a ≤ 1000000
  · simp only [decide_eq_true h1, if_true]
    by_cases h2 : 1 ≤ b ∧ b ≤ 10000
    · simp only [decide_eq_true h2, if_true]
      refine Ev.bind (igcd_val (by omega) (by omega) (by omega) (by omega)) ⟨0, fun _ _ => ?_⟩
      unfold isS
      rw [show (gI a b == 1) = decide (gI a b = 1) from Bool.eq_iff_iff.mpr (by simp)]
      simp [h1, h2]
    · simp only [decide_eq_false h2]
      exact ⟨0, fun _ _ => by unfold isS; simp [h2]⟩
  · simp only [decide_eq_false h1]
    exact ⟨0, fun _ _ => by unfold isS; simp [h1]⟩
/-! numeral: decimal numerals as lists of bytes -/
def isDig (c : UInt8) : Prop := 48 ≤ c.toNat ∧ c.toNat ≤ 57
instance (c : UInt8) : Decidable (isDig c) := by unfold isDig; exact inferInstance
def dv (a : Nat) (l : List UInt8) : Nat := l.foldl (fun a c => 10 * a + (c.toNat - 48)) a
theorem dv_nil (a : Nat) : dv a [] = a := by unfold dv; exact List.foldl_nil
theorem dv_cons (a : Nat) (c : UInt8) (r : List UInt8) : dv a (c :: r) = dv (10 * a + (c.toNat - 48)) r := by unfold dv; exact List.foldl_cons ..
theorem dv_one (a : Nat) (c : UInt8) : dv a [c] = 10 * a + (c.toNat - 48) := by rw [dv_cons, dv_nil]
theorem dv_snoc (l : List UInt8) (c : UInt8) (a : Nat) : dv a (l ++ [c]) = 10 * dv a l + (c.toNat - 48) := by unfold dv; rw [List.foldl_append, List.foldl_cons, List.foldl_nil]
structure Canon (l : List UInt8) : Prop where
  ne : l ≠ []
  dig : ∀ c ∈ l, isDig c
  lead : l.head? = some 48 → l.length = 1
theorem of48 {n : Nat} (h : n < 10) : (UInt8.ofNat (48 + n)).toNat = 48 + n := by
  rw [UInt8.toNat_ofNat']; omega
theorem dec_canon : ∀ n : Nat, Canon (Go.Lib.decDigits n) ∧ dv 0 (Go.Lib.decDigits n) = n := by
  intro n
  induction n using Nat.strongRecOn with
  | _ n ih =>
    rw [Go.Lib.decDigits]
    by_cases c : n < 10
    · rw [dif_pos c]
      refine ⟨⟨by simp, fun x hx => ?_, fun _ => rfl⟩, ?_⟩
      · rw [List.mem_singleton] at hx; subst hx; unfold isDig; rw [of48 c]; omega
      · rw [dv_one, of48 c]; omega
    · rw [dif_neg c]
      obtain ⟨h1, h2⟩ := ih (n / 10) (by omega)
      have e10 := of48 (n := n % 10) (by omega)
      refine ⟨⟨by simp, fun x hx => ?_, fun hh => ?_⟩, ?_⟩
      · rcases List.mem_append.1 hx with hx | hx
        · exact h1.dig x hx
        · rw [List.mem_singleton] at hx; subst hx; unfold isDig; rw [e10]; omega
      · exfalso
        rw [List.head?_append] at hh
        cases hd : (Go.Lib.decDigits (n / 10)).head? with
        | none => exact h1.ne (by simpa using hd)
        | some y =>
          rw [hd] at hh
          simp at hh
          subst hh
          have hl := h1.lead hd
          obtain ⟨z, hz⟩ := List.length_eq_one_iff.1 hl
          rw [hz] at hd h2
          have hz2 : z = 48 := by simpa using hd
          subst hz2
          have e0 : dv 0 [(48 : UInt8)] = 0 := by rw [dv_one]; rfl
          omega
      · rw [dv_snoc, h2, e10]; omega
theorem canon_dec : ∀ (k : Nat) (l : List UInt8), l.length = k → Canon l → Go.Lib.decDigits (dv 0 l) = l := by
  intro k
  induction k with
  | zero => intro l hl h; exact absurd (List.eq_nil_of_length_eq_zero hl) h.ne
  | succ k ih =>
    intro l hl h
    obtain ⟨m, c, rfl⟩ : ∃ m c, l = m ++ [c] := ⟨l.dropLast, l.getLast h.ne, (List.dropLast_concat_getLast h.ne).symm⟩
    have hc : isDig c := h.dig c (by simp)
    unfold isDig at hc
    have ec : UInt8.ofNat (48 + (c.toNat - 48)) = c := by rw [show 48 + (c.toNat - 48) = c.toNat by omega]; simp
    rw [dv_snoc, Go.Lib.decDigits]
    cases m with
    | nil =>
      have e0 : dv 0 [] = 0 := dv_nil 0
      rw [e0, dif_pos (by omega), show 48 + (10 * 0 + (c.toNat - 48)) = 48 + (c.toNat - 48) by omega, ec]
      rfl
    | cons x m =>
      have hm : Canon (x :: m) := ⟨by simp, fun y hy => h.dig y (List.mem_append_left _ hy), fun e => absurd (h.lead (by simpa using e)) (by simp)⟩
      have em := ih (x :: m) (by simpa using hl) hm
      have pos : dv 0 (x :: m) ≠ 0 := by
        intro e0
        rw [e0] at em
        have e1 : Go.Lib.decDigits 0 = [48] := by rw [Go.Lib.decDigits_one (by omega)]; rfl
        rw [e1] at em
        have : (x :: m).head? = some 48 := by rw [← em]; rfl
        have := h.lead (by rw [List.head?_append, this]; rfl)
        simp at this
      rw [dif_neg (by omega), show (10 * dv 0 (x :: m) + (c.toNat - 48)) / 10 = dv 0 (x :: m) by omega, show (10 * dv 0 (x :: m) + (c.toNat - 48)) % 10 = c.toNat - 48 by omega, em, ec]
theorem dec_inj {n m : Nat} (h : Go.Lib.decDigits n = Go.Lib.decDigits m) : n = m := by
  have a := (dec_canon n).2
  rw [h, (dec_canon m).2] at a
  exact a.symm
theorem dv_lt : ∀ (l : List UInt8) (a k : Nat), (∀ c ∈ l, isDig c) → a < 10 ^ k → dv a l < 10 ^ (k + l.length)
  | [], a, k, _, h => by rw [dv_nil]; exact h
  | c :: r, a, k, hd, h => by
    have hc : isDig c := hd c List.mem_cons_self
    unfold isDig at hc
    have := dv_lt r (10 * a + (c.toNat - 48)) (k + 1) (fun x hx => hd x (List.mem_cons_of_mem _ hx)) (by rw [Nat.pow_succ]; omega)
    rw [dv_cons, List.length_cons, show k + (r.length + 1) = k + 1 + r.length by omega]
    exact this
theorem dec_len {n d : Nat} (h : n < 10 ^ d) (hd : 1 ≤ d) : (Go.Lib.decDigits n).length ≤ d := by
  induction d generalizing n with
  | zero => omega
  | succ d ih =>
    rw [Go.Lib.decDigits]
    by_cases c : n < 10
    · rw [dif_pos c]; simp
    · rw [dif_neg c, List.length_append, List.length_singleton]
      rcases Nat.eq_zero_or_pos d with rfl | h0
      · simp at h; omega
      · have := ih (n := n / 10) (by rw [Nat.pow_succ] at h; omega) h0
        omega
theorem parse_dv : ∀ (l : List UInt8) (a k : Nat), (∀ c ∈ l, isDig c) → a < 10 ^ k → l.length + k ≤ 18 → Go.Lib.parseUint10 a l = .ok (dv a l)
  | [], a, k, _, h, _ => by rw [dv_nil]; rfl
  | c :: r, a, k, hd, h, hl => by
    have hc : isDig c := hd c List.mem_cons_self
    unfold isDig at hc
    simp only [List.length_cons] at hl
    have hp : (10 : Nat) ^ (k + 1) ≤ 10 ^ 18 := Nat.pow_le_pow_right (by omega) (by omega)
    have hp2 : (10 : Nat) ^ 18 = 1000000000000000000 := by decide
    have hk : 10 * 10 ^ k ≤ 1000000000000000000 := by rw [Nat.pow_succ] at hp; omega
    have := parse_dv r (10 * a + (c.toNat - 48)) (k + 1) (fun x hx => hd x (List.mem_cons_of_mem _ hx)) (by rw [Nat.pow_succ]; omega) (by omega)
    rw [dv_cons, Go.Lib.parseUint10, if_pos hc, if_neg (by omega), if_neg (by omega), Nat.mul_comm a 10]
    exact this
theorem atoi_dec {n : Nat} (h : n ≤ 1000000) : Go.Lib.atoiAll (Go.Lib.decDigits n) = .ok (n : Int) := by
  obtain ⟨hc, hv⟩ := dec_canon n
  have hl := dec_len (n := n) (d := 7) (by omega) (by omega)
  generalize Go.Lib.decDigits n = l at hc hv hl
  match l, hc with
  | [], hc => exact absurd rfl hc.ne
  | c :: r, hc =>
    have h1 : isDig c := hc.dig c List.mem_cons_self
    unfold isDig at h1
    have hp := parse_dv (c :: r) 0 0 hc.dig (by decide) (by omega)
    rw [hv] at hp
    simp only [Go.Lib.atoiAll, Go.Lib.parseMag]
    rw [if_neg (show ¬ (c.toNat = 43 ∨ c.toNat = 45) by omega), if_neg (show ¬ (c :: r) = [] by simp), hp]
    simp only
    rw [if_neg (by omega), if_neg (by omega), if_neg (by omega)]
theorem toL (s : ByteArray) : s.toList = s.data.toList := ByteArray.toList_eq s
theorem readN_cases (s : ByteArray) (m : Nat) (hm : m ≤ 1000000) : (∃ n : Nat, n ≤ m ∧ s.data.toList = Go.Lib.decDigits n ∧ readN s (m : Int) = ((n : Int), true)) ∨ ((∀ n : Nat, n ≤ m → s.data.toList ≠ Go.Lib.decDigits n) ∧ readN s (m : Int) = (0, false)) := by
  by_cases h : ∃ n : Nat, n ≤ m ∧ s.data.toList = Go.Lib.decDigits n
  · obtain ⟨n, hn, e⟩ := h
    refine Or.inl ⟨n, hn, e, ?_⟩
    unfold readN
    rw [e, atoi_dec (by omega)]
    simp only
    rw [if_pos ⟨by omega, by omega, by rw [Go.Lib.itoa_nonneg, toL, e]⟩]
  · refine Or.inr ⟨fun n hn e => h ⟨n, hn, e⟩, ?_⟩
    unfold readN
    split
    · rename_i v hv
      rw [if_neg]
      rintro ⟨v0, v1, e⟩
      obtain ⟨v, rfl⟩ := Int.eq_ofNat_of_zero_le v0
      exact h ⟨v, by omega, by rw [← toL, ← e, Go.Lib.itoa_nonneg]⟩
    · rfl
/-! l1read: the reference reads a numeral -/
theorem bt_list (s : ByteArray) (i : Nat) (h : i < s.size) (hl : i < s.data.toList.length) : bt s (i : Int) = ((s.data.toList[i]'hl).toNat : Int) := by
  unfold bt
  rw [dif_pos (by simpa using h)]
  rfl
theorem len_size (s : ByteArray) : s.data.toList.length = s.size := (Go.Lib.size_eq s).symm
theorem l1Read_loop (s : ByteArray) (hs : s.size ≤ 6) : ∀ (g i a k : Nat), i + g = s.size → a < 10 ^ i → g < k → spec_l1Read.l0 k s (a : Int) (i : Int) = some (if ∀ c ∈ s.data.toList.drop i, isDig c then (dv a (s.data.toList.drop i) : Int) else -1) := by
  intro g
  induction g with
  | zero =>
    intro i a k hi ha hk
    obtain ⟨k, rfl⟩ : ∃ m, k = m + 1 := ⟨k - 1, by omega⟩
    have hl := len_size s
    simp only [spec_l1Read.l0]
    rw [if_neg (by omega), List.drop_of_length_le (by omega), if_pos (by simp), dv_nil]
  | succ g ih =>
    intro i a k hi ha hk
    obtain ⟨k, rfl⟩ : ∃ m, k = m + 1 := ⟨k - 1, by omega⟩
    have hl := len_size s
    have h6 : (10 : Nat) ^ i ≤ 10 ^ 6 := Nat.pow_le_pow_right (by omega) (by omega)
    have h66 : (10 : Nat) ^ 6 = 1000000 := by decide
    simp only [spec_l1Read.l0]
    rw [if_pos (by omega), if_pos (by omega), bt_list s i (by omega) (by omega), List.drop_eq_getElem_cons (show i < s.data.toList.length by omega)]
    generalize hc : s.data.toList[i]'(by omega) = c
    by_cases hd : isDig c
    · have hd' := hd
      unfold isDig at hd'
      have hr := ih (i + 1) (10 * a + (c.toNat - 48)) k (by omega) (by rw [Nat.pow_succ]; omega) (by omega)
      rw [if_neg (by omega), if_neg (by omega), wid (x := 10 * (a : Int)) (by omega) (by omega), show ((c.toNat : Int) - 48) % 256 = ((c.toNat - 48 : Nat) : Int) by omega, wid (x := 10 * (a : Int) + ((c.toNat - 48 : Nat) : Int)) (by omega) (by omega), wid (x := (i : Int) + 1) (by omega) (by omega), show 10 * (a : Int) + ((c.toNat - 48 : Nat) : Int) = ((10 * a + (c.toNat - 48) : Nat) : Int) by omega, show (i : Int) + 1 = ((i + 1 : Nat) : Int) by omega, hr, dv_cons]
      congr 1
      by_cases ha2 : ∀ x ∈ s.data.toList.drop (i + 1), isDig x
      · rw [if_pos ha2, if_pos (fun x hx => by rcases List.mem_cons.1 hx with rfl | hx; exact hd; exact ha2 x hx)]
      · rw [if_neg ha2, if_neg (fun h => ha2 (fun x hx => h x (List.mem_cons_of_mem _ hx)))]
    · rw [if_neg (show ¬ ∀ x ∈ c :: s.data.toList.drop (i + 1), isDig x from fun h => hd (h c List.mem_cons_self))]
      unfold isDig at hd
      by_cases h1 : (c.toNat : Int) < 48
      · rw [if_pos h1]
      · rw [if_neg h1, if_pos (by omega)]
theorem l1Read_cases (s : ByteArray) (k : Nat) (hk : 10 ≤ k) : (∃ n : Nat, n < 1000000 ∧ s.data.toList = Go.Lib.decDigits n ∧ spec_l1Read.f k s = some (n : Int)) ∨ ((∀ n : Nat, n < 1000000 → s.data.toList ≠ Go.Lib.decDigits n) ∧ spec_l1Read.f k s = some (-1)) := by
  obtain ⟨k, rfl⟩ : ∃ m, k = m + 1 := ⟨k - 1, by omega⟩
  have hl := len_size s
  unfold spec_l1Read.f
  rw [l1In_val]
  simp only [Option.bind_some]
  by_cases h1 : (1 : Int) ≤ (s.size : Int) ∧ (s.size : Int) ≤ 6
  · rw [decide_eq_true h1, if_pos rfl, if_pos (by omega)]
    have e0 : bt s 0 = ((s.data.toList[0]'(by omega)).toNat : Int) := bt_list s 0 (by omega) (by omega)
    have hh : s.data.toList.head? = some (s.data.toList[0]'(by omega)) := by rw [List.head?_eq_getElem?, List.getElem?_eq_getElem]
    have key : ∀ b : Bool, (b = true ↔ (s.data.toList.head? = some 48 ∧ s.data.toList.length ≠ 1)) → ((∃ n : Nat, n < 1000000 ∧ s.data.toList = Go.Lib.decDigits n ∧ spec_l1Read.j0 (k + 1) s b = some (n : Int)) ∨ ((∀ n : Nat, n < 1000000 → s.data.toList ≠ Go.Lib.decDigits n) ∧ spec_l1Read.j0 (k + 1) s b = some (-1))) := by
      intro b hb
      simp only [spec_l1Read.j0]
      cases b with
      | true =>
        obtain ⟨b1, b2⟩ := hb.1 rfl
        refine Or.inr ⟨fun n _ e => ?_, by rw [if_pos rfl]⟩
        have hcan := (dec_canon n).1
        rw [← e] at hcan
        exact b2 (hcan.lead b1)
      | false =>
        have hlp := l1Read_loop s (by omega) s.size 0 0 k (by omega) (by omega) (by omega)
        rw [List.drop_zero] at hlp
        rw [if_neg (by simp), show (0 : Int) = ((0 : Nat) : Int) from rfl, hlp]
        by_cases hd : ∀ c ∈ s.data.toList, isDig c
        · rw [if_pos hd]
          have hcan : Canon s.data.toList := ⟨by intro e; rw [e] at hl; simp at hl; omega, hd, fun e => Classical.byContradiction fun hn => by simpa using hb.2 ⟨e, hn⟩⟩
          have hlt := dv_lt s.data.toList 0 0 hd (by decide)
          have h6 : (10 : Nat) ^ (0 + s.data.toList.length) ≤ 10 ^ 6 := Nat.pow_le_pow_right (by omega) (by omega)
          have h66 : (10 : Nat) ^ 6 = 1000000 := by decide
          exact Or.inl ⟨dv 0 s.data.toList, by omega, (canon_dec _ _ rfl hcan).symm, rfl⟩
        · rw [if_neg hd]
          refine Or.inr ⟨fun n _ e => hd ?_, rfl⟩
          rw [e]
          exact (dec_canon n).1.dig
    by_cases h0 : bt s 0 = 48
    · rw [if_pos h0]
      refine key _ ?_
      have hx : s.data.toList[0]'(by omega) = 48 := by
        apply UInt8.toNat_inj.1
        rw [e0] at h0
        show _ = 48
        omega
      rw [hh, hx, decide_eq_true_eq]
      constructor
      · intro h; exact ⟨rfl, by omega⟩
      · intro h; have := h.2; omega
    · rw [if_neg h0]
      refine key _ ?_
      have hx : s.data.toList[0]'(by omega) ≠ 48 := by
        intro e
        rw [e0, e] at h0
        exact h0 rfl
      rw [hh]
      constructor
      · intro h; cases h
      · intro h; exact absurd (Option.some.inj h.1) hx
  · rw [decide_eq_false h1, if_neg (by simp)]
    simp only [spec_l1Read.j0]
    refine Or.inr ⟨fun n hn e => ?_, by simp⟩
    have h2 := dec_len (n := n) (d := 6) (by omega) (by omega)
    have h3 := (dec_canon n).1.ne
    rw [← e] at h2 h3
    have := List.length_pos_iff.2 h3
    omega
/-! l1split: the reference parts a text at each '/' -/
theorem ix_cases : ∀ l : List UInt8, (Go.Lib.indexByte l 47 = -1 ∧ (47 : UInt8) ∉ l) ∨ ∃ i : Nat, Go.Lib.indexByte l 47 = (i : Int) ∧ l[i]? = some 47 ∧ ∀ t, t < i → l[t]? ≠ some 47
  | [] => Or.inl ⟨rfl, by simp⟩
  | b :: l => by
    simp only [Go.Lib.indexByte]
    by_cases hb : b = 47
    · subst hb
      exact Or.inr ⟨0, by simp, by simp, fun t ht => by omega⟩
    · have e : (b == 47) = false := by simpa using hb
      rw [e]
      rcases ix_cases l with ⟨h1, h2⟩ | ⟨i, h1, h2, h3⟩
      · refine Or.inl ⟨by rw [h1]; simp, ?_⟩
        intro hm
        rcases List.mem_cons.1 hm with h | h
        · exact hb h.symm
        · exact h2 h
      · refine Or.inr ⟨i + 1, ?_, by simpa using h2, fun t ht => ?_⟩
        · rw [h1]
          have : ((i : Int) == -1) = false := by
            rw [beq_eq_false_iff_ne]; omega
          rw [this]
          simp
        · rcases t with _ | t
          · simpa using hb
          · simpa using h3 t (by omega)
theorem bt_ne (s : ByteArray) (t : Nat) (ht : t < s.size) : bt s (t : Int) = 47 ↔ s.data.toList[t]? = some 47 := by
  have hl := len_size s
  rw [bt_list s t ht (by omega), List.getElem?_eq_getElem (by omega)]
  constructor
  · intro h
    have : s.data.toList[t]'(by omega) = 47 := UInt8.toNat_inj.1 (by show _ = 47; omega)
    rw [this]
  · intro h
    rw [Option.some.inj h]
    rfl
/-- No more signs from j on. -/
theorem split_end (s : ByteArray) (hs : s.size ≤ 1048576) (from_ : Nat) : ∀ (g j k : Nat) (acc : List ByteArray), j + g = s.size → from_ ≤ j → acc.length ≤ j → (∀ t, j ≤ t → t < s.size → s.data.toList[t]? ≠ some 47) → g < k → spec_l1Split.l0 k s 47 acc (from_ : Int) (j : Int) = some (acc ++ [s.extract from_ s.size]) := by
  intro g
  induction g with
  | zero =>
    intro j k acc hj hf ha hn hk
    obtain ⟨k, rfl⟩ : ∃ m, k = m + 1 := ⟨k - 1, by omega⟩
    simp only [spec_l1Split.l0]
    rw [if_neg (by omega), if_pos (by omega), if_pos (by omega), if_pos (by omega)]
    rfl
  | succ g ih =>
    intro j k acc hj hf ha hn hk
    obtain ⟨k, rfl⟩ : ∃ m, k = m + 1 := ⟨k - 1, by omega⟩
    simp only [spec_l1Split.l0]
    rw [if_pos (by omega), if_pos (by omega), if_neg (fun h => hn j (Nat.le_refl _) (by omega) ((bt_ne s j (by omega)).1 h)), wid (x := (j : Int) + 1) (by omega) (by omega), show (j : Int) + 1 = ((j + 1 : Nat) : Int) by omega]
    exact ih (j + 1) k acc (by omega) (by omega) (by omega) (fun t h1 h2 => hn t (by omega) h2) (by omega)
/-- On to the next sign. -/
theorem split_next (s : ByteArray) (hs : s.size ≤ 1048576) (from_ i : Nat) (hi : i < s.size) (h47 : s.data.toList[i]? = some 47) : ∀ (g j k : Nat) (acc : List ByteArray), j + g = i → from_ ≤ j → acc.length ≤ j → (∀ t, j ≤ t → t < i → s.data.toList[t]? ≠ some 47) → spec_l1Split.l0 (k + g + 1) s 47 acc (from_ : Int) (j : Int) = spec_l1Split.l0 k s 47 (acc ++ [s.extract from_ i]) ((i + 1 : Nat) : Int) ((i + 1 : Nat) : Int) := by
  intro g
  induction g with
  | zero =>
    intro j k acc hj hf ha hn
    obtain rfl : j = i := by omega
    simp only [Nat.add_zero, spec_l1Split.l0]
    rw [if_pos (by omega), if_pos (by omega), if_pos ((bt_ne s j hi).2 h47), if_pos (by omega), if_pos (by omega), if_pos (by omega), if_pos (by omega), wid (x := (j : Int) + 1) (by omega) (by omega)]
    rfl
  | succ g ih =>
    intro j k acc hj hf ha hn
    rw [show k + (g + 1) + 1 = (k + g + 1) + 1 by omega]
    simp only [spec_l1Split.l0]
    rw [if_pos (by omega), if_pos (by omega), if_neg (fun h => hn j (Nat.le_refl _) (by omega) ((bt_ne s j (by omega)).1 h)), wid (x := (j : Int) + 1) (by omega) (by omega), show (j : Int) + 1 = ((j + 1 : Nat) : Int) by omega]
    exact ih (j + 1) k acc (by omega) (by omega) (by omega) (fun t h1 h2 => hn t (by omega) h2)
/-- It ends, and each piece is one more. -/
theorem split_some (s : ByteArray) (hs : s.size ≤ 1048576) : ∀ (g from_ j k : Nat) (acc : List ByteArray), j + g = s.size → from_ ≤ j → acc.length ≤ j → g < k → ∃ ps, spec_l1Split.l0 k s 47 acc (from_ : Int) (j : Int) = some ps ∧ acc.length + 1 ≤ ps.length := by
  intro g
  induction g with
  | zero =>
    intro from_ j k acc hj hf ha hk
    obtain ⟨k, rfl⟩ : ∃ m, k = m + 1 := ⟨k - 1, by omega⟩
    simp only [spec_l1Split.l0]
    rw [if_neg (by omega), if_pos (by omega), if_pos (by omega), if_pos (by omega)]
    exact ⟨_, rfl, by simp⟩
  | succ g ih =>
    intro from_ j k acc hj hf ha hk
    obtain ⟨k, rfl⟩ : ∃ m, k = m + 1 := ⟨k - 1, by omega⟩
    simp only [spec_l1Split.l0]
    rw [if_pos (by omega), if_pos (by omega)]
    by_cases h : bt s (j : Int) = 47
    · rw [if_pos h, if_pos (by omega), if_pos (by omega), if_pos (by omega), if_pos (by omega), wid (x := (j : Int) + 1) (by omega) (by omega), show (j : Int) + 1 = ((j + 1 : Nat) : Int) by omega]
      obtain ⟨ps, e, hl⟩ := ih (j + 1) (j + 1) k (acc ++ [s.extract (from_ : Int).toNat (j : Int).toNat]) (by omega) (by omega) (by simp; omega) (by omega)
      refine ⟨ps, e, ?_⟩
      rw [List.length_append, List.length_singleton] at hl
      omega
    · rw [if_neg h, wid (x := (j : Int) + 1) (by omega) (by omega), show (j : Int) + 1 = ((j + 1 : Nat) : Int) by omega]
      exact ih from_ (j + 1) k acc (by omega) (by omega) (by omega) (by omega)
theorem extract_list (s : ByteArray) (a b : Nat) : (s.extract a b).data.toList = (s.data.toList.take b).drop a := by
  rw [ByteArray.data_extract]
  simp [List.extract_eq_take_drop, List.drop_take]
/-! parsespan: both read a span alike -/
theorem parse_no (s : ByteArray) (k : Nat) (h : (readN (cutL s).1 1000000).2 = true → (readN (cutL s).2.1 10000).2 = true → False) : impl_ParseSpan.f k s = some (0, 0, false) := by
  unfold impl_ParseSpan.f
  by_cases h1 : (readN (cutL s).1 1000000).2 = true
  · rw [if_pos h1, if_neg (fun h2 => h h1 h2)]
  · rw [if_neg h1]
theorem not_dig47 : ¬ isDig 47 := by decide
theorem dec_million : Go.Lib.decDigits 1000000 = [49, 48, 48, 48, 48, 48, 48] := by
  have h : Canon [49, 48, 48, 48, 48, 48, 48] := ⟨by simp, by decide, by decide⟩
  have e : dv 0 [49, 48, 48, 48, 48, 48, 48] = 1000000 := by simp only [dv_cons, dv_nil]; decide
  have := canon_dec 7 _ rfl h
  rwa [e] at this
theorem parse_both (s : ByteArray) (hs : s.size ≤ 1048576) : ∃ k x y ok, spec_ParseSpan.f k s = some (x, y, ok) ∧ impl_ParseSpan.f k s = some (x, y, ok) := by
  have hl := len_size s
  have no : ∀ k ps, spec_l1Split.f (k + 1) s 47 = some ps → ((s.size : Int) > 20 ∨ ps.length ≠ 2) → spec_ParseSpan.f (k + 1) s = some (0, 0, false) := by
    intro k ps e h
    unfold spec_ParseSpan.f
    rw [e]
    simp only [Option.bind_some, spec_ParseSpan.j0]
    by_cases c : (s.size : Int) > 20
    · rw [if_pos c]; simp
    · rw [if_neg c]
      have : ((ps.length : Int) != 2) = true := by rw [bne_iff_ne]; intro e; exact (h.resolve_left c) (by omega)
      rw [this]; simp
  rcases ix_cases s.data.toList with ⟨h1, h2⟩ | ⟨i, h1, h2, h3⟩
  · have ec : cutL s = (s, ⟨#[]⟩, false) := by unfold cutL ixS; rw [if_pos h1]
    have e := split_end s hs 0 s.size 0 1048601 [] (by omega) (by omega) (by simp) (fun t _ _ he => h2 (List.mem_of_getElem? he)) (by omega)
    refine ⟨1048601, 0, 0, false, no 1048600 _ e (Or.inr (by simp)), parse_no s _ fun _ hb => ?_⟩
    rw [ec] at hb
    rcases readN_cases ⟨#[]⟩ 10000 (by omega) with ⟨n, _, e1, _⟩ | ⟨_, e1⟩
    · exact (dec_canon n).1.ne e1.symm
    · have e1' : readN ⟨#[]⟩ 10000 = (0, false) := e1
      rw [e1'] at hb; cases hb
  · have hi : i < s.size := by
      rw [← hl]
      exact (List.getElem?_eq_some_iff.1 h2).1
    have ec : cutL s = (s.extract 0 i, s.extract (i + 1) s.size, true) := by
      unfold cutL ixS
      rw [h1, if_neg (by omega)]
      rfl
    have lt : (s.extract 0 i).data.toList = s.data.toList.take i := by rw [extract_list, List.drop_zero]
    have lb : (s.extract (i + 1) s.size).data.toList = s.data.toList.drop (i + 1) := by rw [extract_list, List.take_of_length_le (by omega)]
    have n1 : ∀ k, spec_l1Split.l0 (k + i + 1) s 47 [] 0 0 = spec_l1Split.l0 k s 47 [s.extract 0 i] ((i + 1 : Nat) : Int) ((i + 1 : Nat) : Int) := fun k => split_next s hs 0 i hi h2 i 0 k [] (by omega) (by omega) (by simp) (fun t _ ht => h3 t ht)
    rcases ix_cases (s.data.toList.drop (i + 1)) with ⟨_, hb⟩ | ⟨j, _, j2, j3⟩
    · have n2 := split_end s hs (i + 1) (s.size - (i + 1)) (i + 1) 1048601 [s.extract 0 i] (by omega) (by omega) (by simp) (fun t h4 h5 he => hb (by
        rw [show t = i + 1 + (t - (i + 1)) by omega, ← List.getElem?_drop] at he
        exact List.mem_of_getElem? he)) (by omega)
      rw [← n1] at n2
      have n3 : ∀ k, 1048601 + i + 1 ≤ k → spec_l1Split.f k s 47 = some [s.extract 0 i, s.extract (i + 1) s.size] := fun k hk => at_rounds (g := fun k => spec_l1Split.f k s 47) (fun k => spec_l1Split.mono s 47 k) hk n2
      have RT := readN_cases (s.extract 0 i) 1000000 (by omega)
      have RB := readN_cases (s.extract (i + 1) s.size) 10000 (by omega)
      rw [lt] at RT
      rw [lb] at RB
      by_cases c20 : (s.size : Int) > 20
      · refine ⟨1048601 + i + 1, 0, 0, false, no _ _ (n3 _ (by omega)) (Or.inl c20), parse_no s _ fun ha hb' => ?_⟩
        rw [ec] at ha hb'
        rcases RT with ⟨n, hn, e1, _⟩ | ⟨_, e1⟩
        · rcases RB with ⟨d, hd, e2, _⟩ | ⟨_, e2⟩
          · have l1 := dec_len (n := n) (d := 7) (by omega) (by omega)
            have l2 := dec_len (n := d) (d := 5) (by omega) (by omega)
            rw [← e1, List.length_take] at l1
            rw [← e2, List.length_drop] at l2
            omega
          · have e2' : readN (s.extract (i + 1) s.size) 10000 = (0, false) := e2
            rw [e2'] at hb'; cases hb'
        · have e1' : readN (s.extract 0 i) 1000000 = (0, false) := e1
          rw [e1'] at ha; cases ha
      · -- two pieces, short: what each reads
        obtain ⟨t0, T0⟩ : ∃ t0 : Int, ∀ k, 10 ≤ k → spec_l1Read.f k (s.extract 0 i) = some t0 := by
          rcases l1Read_cases (s.extract 0 i) 10 (by omega) with ⟨n, _, _, e⟩ | ⟨_, e⟩
          · exact ⟨_, fun k hk => at_rounds (g := fun k => spec_l1Read.f k _) (fun k => spec_l1Read.mono _ k) hk e⟩
          · exact ⟨_, fun k hk => at_rounds (g := fun k => spec_l1Read.f k _) (fun k => spec_l1Read.mono _ k) hk e⟩
        obtain ⟨t1, T1⟩ : ∃ t1 : Int, ∀ k, 10 ≤ k → spec_l1Read.f k (s.extract (i + 1) s.size) = some t1 := by
          rcases l1Read_cases (s.extract (i + 1) s.size) 10 (by omega) with ⟨n, _, _, e⟩ | ⟨_, e⟩
          · exact ⟨_, fun k hk => at_rounds (g := fun k => spec_l1Read.f k _) (fun k => spec_l1Read.mono _ k) hk e⟩
          · exact ⟨_, fun k hk => at_rounds (g := fun k => spec_l1Read.f k _) (fun k => spec_l1Read.mono _ k) hk e⟩
        have QT := l1Read_cases (s.extract 0 i) 10 (by omega)
        have QB := l1Read_cases (s.extract (i + 1) s.size) 10 (by omega)
        rw [T0 10 (by omega), lt] at QT
        rw [T1 10 (by omega), lb] at QB
        obtain ⟨N, hN⟩ : ∃ N : Int, N = if (s.extract 0 i).toList = ([49, 48, 48, 48, 48, 48, 48] : List UInt8) then 1000000 else t0 := ⟨_, rfl⟩
        obtain ⟨G1, g1⟩ := drGood_val N t1
        obtain ⟨G2, g2⟩ := IsSpan_val (readN (s.extract 0 i) 1000000).1 (readN (s.extract (i + 1) s.size) 10000).1
        obtain ⟨k, hk1, hk2, hk3⟩ : ∃ k, 1048601 + i + 1 ≤ k + 1 ∧ max G1 G2 ≤ k ∧ 10 ≤ k := ⟨1048601 + i + 1 + max G1 G2, by omega, by omega, by omega⟩
        have d1 := g1 k (by omega)
        have d2 := g2 (k + 1) (by omega)
        dsimp only at d1 d2
        have SV : spec_ParseSpan.f (k + 1) s = some (if isS N t1 then (N, t1, true) else (0, 0, false)) := by
          unfold spec_ParseSpan.f
          rw [n3 (k + 1) hk1]
          simp only [Option.bind_some, spec_ParseSpan.j0]
          rw [if_neg c20]
          have r0 : rdOf ByteArray.empty [s.extract 0 i, s.extract (i + 1) s.size] 0 = s.extract 0 i := rfl
          have r1 : rdOf ByteArray.empty [s.extract 0 i, s.extract (i + 1) s.size] 1 = s.extract (i + 1) s.size := rfl
          have b2 : ((([s.extract 0 i, s.extract (i + 1) s.size] : List ByteArray).length : Int) != 2) = false := rfl
          rw [b2, if_neg (by simp), if_pos (by simp), r0, r1, T0 k hk3]
          simp only [Option.bind_some]
          rw [if_pos (by simp), T1 k hk3]
          simp only [Option.bind_some]
          by_cases m : (s.extract 0 i).toList = ([49, 48, 48, 48, 48, 48, 48] : List UInt8)
          · rw [if_pos m] at hN ⊢
            subst hN
            rw [d1]
            simp only [Option.bind_some, decide_eq_true_eq]
            by_cases q : isS 1000000 t1
            · rw [if_pos q, if_pos q]
            · rw [if_neg q, if_neg q]
          · rw [if_neg m] at hN ⊢
            subst hN
            rw [d1]
            simp only [Option.bind_some, decide_eq_true_eq]
            by_cases q : isS N t1
            · rw [if_pos q, if_pos q]
            · rw [if_neg q, if_neg q]
        rw [toL, lt] at hN
        have fail : ¬ isS N t1 → ((readN (cutL s).1 1000000).2 = true → (readN (cutL s).2.1 10000).2 = true → False) → ∃ k x y ok, spec_ParseSpan.f k s = some (x, y, ok) ∧ impl_ParseSpan.f k s = some (x, y, ok) := fun h h' => ⟨k + 1, 0, 0, false, by rw [SV, if_neg h], parse_no s _ h'⟩
        rcases RT with ⟨n, hn, e1, e2⟩ | ⟨e1, e2⟩
        · have e2' : readN (s.extract 0 i) 1000000 = ((n : Int), true) := e2
          have eN : N = (n : Int) := by
            rw [hN]
            by_cases c : n = 1000000
            · rw [if_pos (by rw [e1, c, dec_million]), c]; rfl
            · rw [if_neg (by rw [e1, ← dec_million]; exact fun h => c (dec_inj h))]
              rcases QT with ⟨m, _, f1, f2⟩ | ⟨f1, _⟩
              · have := dec_inj (e1.symm.trans f1)
                rw [Option.some.inj f2, this]
              · exact absurd e1 (f1 n (by omega))
          rcases RB with ⟨d, hd, e3, e4⟩ | ⟨e3, e4⟩
          · have e4' : readN (s.extract (i + 1) s.size) 10000 = ((d : Int), true) := e4
            have eD : t1 = (d : Int) := by
              rcases QB with ⟨m, _, f1, f2⟩ | ⟨f1, _⟩
              · have := dec_inj (e3.symm.trans f1)
                rw [Option.some.inj f2, this]
              · exact absurd e3 (f1 d (by omega))
            rw [e2', e4'] at d2
            refine ⟨k + 1, if isS (n : Int) (d : Int) then (n : Int) else 0, if isS (n : Int) (d : Int) then (d : Int) else 0, decide (isS (n : Int) (d : Int)), ?_, ?_⟩
            · rw [SV, eN, eD]
              by_cases q : isS (n : Int) (d : Int)
              · simp only [if_pos q, decide_eq_true q]
              · simp only [if_neg q, decide_eq_false q]
            · unfold impl_ParseSpan.f
              rw [ec]
              simp only [e2', e4', if_true]
              rw [d2]
              simp only [Option.bind_some, decide_eq_true_eq]
              by_cases q : isS (n : Int) (d : Int)
              · simp only [if_pos q, decide_eq_true q]
              · simp only [if_neg q, decide_eq_false q]
          · have e4' : readN (s.extract (i + 1) s.size) 10000 = (0, false) := e4
            refine fail (fun h => ?_) (fun _ h => by rw [ec] at h; simp only [e4'] at h; cases h)
            obtain ⟨_, hb2⟩ := isS_bd h
            rcases QB with ⟨m, _, f1, f2⟩ | ⟨_, f2⟩
            · have := Option.some.inj f2
              exact e3 m (by omega) f1
            · have := Option.some.inj f2
              omega
        · have e2' : readN (s.extract 0 i) 1000000 = (0, false) := e2
          refine fail (fun h => ?_) (fun h _ => by rw [ec] at h; simp only [e2'] at h; cases h)
          obtain ⟨ha2, _⟩ := isS_bd h
          rw [if_neg (by rw [← dec_million]; exact e1 1000000 (by omega))] at hN
          rcases QT with ⟨m, hm, f1, _⟩ | ⟨_, f2⟩
          · exact e1 m (by omega) f1
          · have := Option.some.inj f2
            omega
    · -- a sign behind the sign
      obtain ⟨p, hp⟩ : ∃ p, p = i + 1 + j := ⟨_, rfl⟩
      have hp47 : s.data.toList[p]? = some 47 := by rw [hp, ← List.getElem?_drop]; exact j2
      have hps : p < s.size := by rw [← hl]; exact (List.getElem?_eq_some_iff.1 hp47).1
      have n2 : ∀ k, spec_l1Split.l0 (k + j + 1) s 47 [s.extract 0 i] ((i + 1 : Nat) : Int) ((i + 1 : Nat) : Int) = spec_l1Split.l0 k s 47 ([s.extract 0 i] ++ [s.extract (i + 1) p]) ((p + 1 : Nat) : Int) ((p + 1 : Nat) : Int) := fun k => split_next s hs (i + 1) p hps hp47 j (i + 1) k [s.extract 0 i] (by omega) (by omega) (by simp) (fun t h4 h5 he => j3 (t - (i + 1)) (by omega) (by rw [List.getElem?_drop, show i + 1 + (t - (i + 1)) = t by omega]; exact he))
      obtain ⟨ps, e, hlen⟩ := split_some s hs (s.size - (p + 1)) (p + 1) (p + 1) 1048601 ([s.extract 0 i] ++ [s.extract (i + 1) p]) (by omega) (by omega) (by simp; omega) (by omega)
      have e' : spec_l1Split.f (1048601 + j + 1 + i + 1) s 47 = some ps := by
        show spec_l1Split.l0 (1048601 + j + 1 + i + 1) s 47 [] 0 0 = some ps
        rw [n1, n2]; exact e
      refine ⟨_, 0, 0, false, no _ _ e' (Or.inr (by simp at hlen; omega)), parse_no s _ fun _ hb' => ?_⟩
      rw [ec] at hb'
      rcases readN_cases (s.extract (i + 1) s.size) 10000 (by omega) with ⟨d, _, e2, _⟩ | ⟨_, e2⟩
      · rw [lb] at e2
        have hm : (47 : UInt8) ∈ s.data.toList.drop (i + 1) := List.mem_of_getElem? j2
        rw [e2] at hm
        exact not_dig47 ((dec_canon d).1.dig _ hm)
      · have e2' : readN (s.extract (i + 1) s.size) 10000 = (0, false) := e2
        rw [e2'] at hb'; cases hb'
theorem FnExactParseSpan : laws_FnExactParseSpan.Pure := by
  intro s w _ ht he
  by_cases hs : s.size ≤ 1048576
  · obtain ⟨k, x, y, ok, e1, e2⟩ := parse_both s hs
    exact walkV k x y ok w s ht he (fun _ => e1) (fun _ => e2)
  · exact walkV 0 0 0 false w s ht he (fun h => absurd h hs) (fun h => absurd h hs)

end Go.Proofs.YtdhifobbaniogafDoor.Pure
