/- A part of the walk of FnHandsMeet: which Lean function each Go function comes to, and that the machine's call does so. Written by a program of this repo (wip/gen/xprint.py). -/
import Derived.Test.YtoneipoioiokcaaPFnHandsMeetx0
import Derived.Test.YtoneipoioiokcaaPFnHandsMeetx5
namespace Go.Proofs.Ytoneipoioiokcaa.PFnHandsMeet
open Go.RowKit Go.Proofs.YtoneipoioiokcaaW.PrintWords Go.Proofs.YtoneipoioiokcaaW.PrintLast Go.Proofs.YtoneipoioiokcaaW.PrintMore
attribute [local go_sem] max2_int min2_int max_two min_two max_three min_three max_four min_four   -- for this text's walks alone
set_option linter.unusedVariables false
set_option linter.unusedSimpArgs false

/-! ### impl_isCoarse: function 36 -/
def impl_isCoarse.f (k : Nat) (a0_0 : Int) (a0_1 : Int) : Option (Bool) := (impl_IsTurn.f k a0_0 a0_1).bind fun t200 => (if t200 = true then (some (decide (a0_1 ≤ 1000))) else (some false))
theorem impl_isCoarse.mono : ∀ a0 a1 k, LeO (impl_isCoarse.f k a0 a1) (impl_isCoarse.f (k + 1) a0 a1) := by
  intro a0 a1 k
  unfold impl_isCoarse.f
  repeat' first
      | (with_reducible exact impl_IsTurn.mono _ _ _)
      | (with_reducible exact LeO.refl _)
      | (with_reducible exact LeO.none _)
      | (with_reducible refine LeO.ite ?_ ?_)
      | (with_reducible refine LeO.bind ?_ (fun _ => ?_))
      | exact impl_IsTurn.mono _ _ _
      | exact LeO.none _
      | refine LeO.ite ?_ ?_
      | refine LeO.bind ?_ (fun _ => ?_)
set_option maxHeartbeats 8000000 in
set_option maxRecDepth 100000 in
theorem impl_isCoarse.calls (k : Nat) (a0_0 : Int) (a0_1 : Int) (r : Bool) (w : World) (h : impl_isCoarse.f k a0_0 a0_1 = some r) :
    Calls Try.prog 36 #[.agg #[.int .i64 a0_0, .int .i64 a0_1]] w fun e w' => e = .returned (.bool r) ∧ Below w.heap.size w w' := by
  have hu25 := Try.underlying25
  have HB := Aside0.mk (Below.refl w.heap.size w)
  have H : ((impl_IsTurn.f k a0_0 a0_1).bind fun t200 => (if t200 = true then (some (decide (a0_1 ≤ 1000))) else (some false))) = some r := h
  clear h
  replace H := Option.bind_eq_some_iff.mp H
  obtain ⟨t200, A20, H⟩ := H
  (try dsimp only at H)
  have A2 := Aside0.mk A20
  clear A20
  by_cases c3 : t200 = true
  · subst c3
    rw [if_pos rfl] at H
    obtain rfl := Option.some.inj H
    go_enter Try.func36, Try.ntmps36
    go_wp2_with (first | ((with_reducible refine gate_dst (N := 1) rfl ?_); refine be #[.int .i64 a0_0, .int .i64 a0_1] 25 ?_; intro gb199 hg w4 hbox hb; have BK199 := Aside0.mk hbox; have GW199 := zs HB hg; have GE199 := zs HB hg; replace HB := zB HB hb; clear hb hbox hg; obtain ⟨hcz5_0, hcz5_1, hfz5_0, hfz5_1⟩ := zc2 BK199) | ((with_reducible refine gate_callee (f := 39) rfl ?_); refine gl (some 4) Try.func39 #[.agg #[.int .i64 a0_0, .int .i64 a0_1]] ?_; (with_reducible refine (impl_IsTurn.calls k a0_0 a0_1 true _ A2.1).mono ?_); rintro e w6 ⟨rfl, hb⟩; refine ⟨_, rfl, ?_⟩; replace BK199 := zb BK199 hb; replace HB := zB HB hb; clear hb; obtain ⟨hcz7_0, hcz7_1, hfz7_0, hfz7_1⟩ := zc2 BK199))
    go_ret
    exact ⟨er, bq HB⟩
  replace c3 := Bool.eq_false_iff.mpr c3
  subst c3
  rw [if_neg (show ¬ (false = true) by decide)] at H
  obtain rfl := Option.some.inj H
  go_enter Try.func36, Try.ntmps36
  go_wp2_with (first | ((with_reducible refine gate_dst (N := 1) rfl ?_); refine be #[.int .i64 a0_0, .int .i64 a0_1] 25 ?_; intro gb199 hg w8 hbox hb; have BK199 := Aside0.mk hbox; have GW199 := zs HB hg; have GE199 := zs HB hg; replace HB := zB HB hb; clear hb hbox hg; obtain ⟨hcz9_0, hcz9_1, hfz9_0, hfz9_1⟩ := zc2 BK199) | ((with_reducible refine gate_callee (f := 39) rfl ?_); refine gl (some 4) Try.func39 #[.agg #[.int .i64 a0_0, .int .i64 a0_1]] ?_; (with_reducible refine (impl_IsTurn.calls k a0_0 a0_1 false _ A2.1).mono ?_); rintro e w10 ⟨rfl, hb⟩; refine ⟨_, rfl, ?_⟩; replace BK199 := zb BK199 hb; replace HB := zB HB hb; clear hb))
  go_ret
  exact ⟨er, bq HB⟩

/-! ### impl_IsHand: function 15 -/
def impl_IsHand.f (k : Nat) (a0_0 : Int) (a0_1 : Int) (a0_2 : Int) : Option (Bool) := (impl_isCoarse.f k a0_0 a0_1).bind fun t202 => (if t202 = true then ((impl_within.f a0_2 (-400) 400).bind fun t203 => (some t203)) else (some false))
theorem impl_IsHand.mono : ∀ a0 a1 a2 k, LeO (impl_IsHand.f k a0 a1 a2) (impl_IsHand.f (k + 1) a0 a1 a2) := by
  intro a0 a1 a2 k
  unfold impl_IsHand.f
  repeat' first
      | (with_reducible exact impl_isCoarse.mono _ _ _)
      | (with_reducible exact LeO.refl _)
      | (with_reducible exact LeO.none _)
      | (with_reducible refine LeO.ite ?_ ?_)
      | (with_reducible refine LeO.bind ?_ (fun _ => ?_))
      | exact impl_isCoarse.mono _ _ _
      | exact LeO.none _
      | refine LeO.ite ?_ ?_
      | refine LeO.bind ?_ (fun _ => ?_)
set_option maxHeartbeats 8000000 in
set_option maxRecDepth 100000 in
theorem impl_IsHand.calls (k : Nat) (a0_0 : Int) (a0_1 : Int) (a0_2 : Int) (r : Bool) (w : World) (h : impl_IsHand.f k a0_0 a0_1 a0_2 = some r) :
    Calls Try.prog 15 #[.agg #[.int .i64 a0_0, .int .i64 a0_1, .int .i64 a0_2]] w fun e w' => e = .returned (.bool r) ∧ Below w.heap.size w w' := by
  have hu27 := Try.underlying27
  have hu25 := Try.underlying25
  have HB := Aside0.mk (Below.refl w.heap.size w)
  have H : ((impl_isCoarse.f k a0_0 a0_1).bind fun t202 => (if t202 = true then ((impl_within.f a0_2 (-400) 400).bind fun t203 => (some t203)) else (some false))) = some r := h
  clear h
  replace H := Option.bind_eq_some_iff.mp H
  obtain ⟨t202, A20, H⟩ := H
  (try dsimp only at H)
  have A2 := Aside0.mk A20
  clear A20
  by_cases c3 : t202 = true
  · subst c3
    rw [if_pos rfl] at H
    replace H := Option.bind_eq_some_iff.mp H
    obtain ⟨t203, A40, H⟩ := H
    (try dsimp only at H)
    have A4 := Aside0.mk A40
    clear A40
    obtain rfl := Option.some.inj H
    go_enter Try.func15, Try.ntmps15
    go_wp2_with (first | ((with_reducible refine gate_dst (N := 1) rfl ?_); refine be #[.int .i64 a0_0, .int .i64 a0_1, .int .i64 a0_2] 27 ?_; intro gb201 hg w5 hbox hb; have BK201 := Aside0.mk hbox; have GW201 := zs HB hg; have GE201 := zs HB hg; replace HB := zB HB hb; clear hb hbox hg; obtain ⟨hcz6_0, hcz6_1, hcz6_2, hfz6_0, hfz6_1, hfz6_2⟩ := zc3 BK201) | ((with_reducible refine gate_callee (f := 36) rfl ?_); refine gl (some 5) Try.func36 #[.agg #[.int .i64 a0_0, .int .i64 a0_1]] ?_; (with_reducible refine (impl_isCoarse.calls k a0_0 a0_1 true _ A2.1).mono ?_); rintro e w7 ⟨rfl, hb⟩; refine ⟨_, rfl, ?_⟩; replace BK201 := zb BK201 hb; replace HB := zB HB hb; clear hb; obtain ⟨hcz8_0, hcz8_1, hcz8_2, hfz8_0, hfz8_1, hfz8_2⟩ := zc3 BK201) | (go_at_call 37; (with_reducible refine (impl_within.calls a0_2 (-400) 400 t203 _ A4.1).mono ?_); rintro e w' ⟨rfl, ⟨nd, rfl⟩⟩))
    go_ret
    exact ⟨er, bq HB⟩
  replace c3 := Bool.eq_false_iff.mpr c3
  subst c3
  rw [if_neg (show ¬ (false = true) by decide)] at H
  obtain rfl := Option.some.inj H
  go_enter Try.func15, Try.ntmps15
  go_wp2_with (first | ((with_reducible refine gate_dst (N := 1) rfl ?_); refine be #[.int .i64 a0_0, .int .i64 a0_1, .int .i64 a0_2] 27 ?_; intro gb201 hg w9 hbox hb; have BK201 := Aside0.mk hbox; have GW201 := zs HB hg; have GE201 := zs HB hg; replace HB := zB HB hb; clear hb hbox hg; obtain ⟨hcz10_0, hcz10_1, hcz10_2, hfz10_0, hfz10_1, hfz10_2⟩ := zc3 BK201) | ((with_reducible refine gate_callee (f := 36) rfl ?_); refine gl (some 5) Try.func36 #[.agg #[.int .i64 a0_0, .int .i64 a0_1]] ?_; (with_reducible refine (impl_isCoarse.calls k a0_0 a0_1 false _ A2.1).mono ?_); rintro e w11 ⟨rfl, hb⟩; refine ⟨_, rfl, ?_⟩; replace BK201 := zb BK201 hb; replace HB := zB HB hb; clear hb))
  go_ret
  exact ⟨er, bq HB⟩

/-! ### impl_areHands_1: function 57 -/
def impl_areHands_1.f (k : Nat) (a0_0 : Int) (a0_1 : Int) (a0_2 : Int) : Option (Bool) := (impl_IsHand.f k a0_0 a0_1 a0_2).bind fun t205 => (some (!t205))
theorem impl_areHands_1.mono : ∀ a0 a1 a2 k, LeO (impl_areHands_1.f k a0 a1 a2) (impl_areHands_1.f (k + 1) a0 a1 a2) := by
  intro a0 a1 a2 k
  unfold impl_areHands_1.f
  repeat' first
      | (with_reducible exact impl_IsHand.mono _ _ _ _)
      | (with_reducible exact LeO.refl _)
      | (with_reducible exact LeO.none _)
      | (with_reducible refine LeO.ite ?_ ?_)
      | (with_reducible refine LeO.bind ?_ (fun _ => ?_))
      | exact impl_IsHand.mono _ _ _ _
      | exact LeO.none _
      | refine LeO.ite ?_ ?_
      | refine LeO.bind ?_ (fun _ => ?_)
set_option maxHeartbeats 8000000 in
set_option maxRecDepth 100000 in
theorem impl_areHands_1.calls (k : Nat) (a0_0 : Int) (a0_1 : Int) (a0_2 : Int) (r : Bool) (w : World) (h : impl_areHands_1.f k a0_0 a0_1 a0_2 = some r) :
    Calls Try.prog 57 #[.agg #[.int .i64 a0_0, .int .i64 a0_1, .int .i64 a0_2]] w fun e w' => e = .returned (.bool r) ∧ Below w.heap.size w w' := by
  have hu27 := Try.underlying27
  have HB := Aside0.mk (Below.refl w.heap.size w)
  have H : ((impl_IsHand.f k a0_0 a0_1 a0_2).bind fun t205 => (some (!t205))) = some r := h
  clear h
  replace H := Option.bind_eq_some_iff.mp H
  obtain ⟨t205, A20, H⟩ := H
  (try dsimp only at H)
  have A2 := Aside0.mk A20
  clear A20
  obtain rfl := Option.some.inj H
  go_enter Try.func57, Try.ntmps57
  go_wp2_with (first | ((with_reducible refine gate_dst (N := 1) rfl ?_); refine be #[.int .i64 a0_0, .int .i64 a0_1, .int .i64 a0_2] 27 ?_; intro gb204 hg w3 hbox hb; have BK204 := Aside0.mk hbox; have GW204 := zs HB hg; have GE204 := zs HB hg; replace HB := zB HB hb; clear hb hbox hg; obtain ⟨hcz4_0, hcz4_1, hcz4_2, hfz4_0, hfz4_1, hfz4_2⟩ := zc3 BK204) | ((with_reducible refine gate_callee (f := 15) rfl ?_); refine gl (some 4) Try.func15 #[.agg #[.int .i64 a0_0, .int .i64 a0_1, .int .i64 a0_2]] ?_; (with_reducible refine (impl_IsHand.calls k a0_0 a0_1 a0_2 t205 _ A2.1).mono ?_); rintro e w5 ⟨rfl, hb⟩; refine ⟨_, rfl, ?_⟩; replace BK204 := zb BK204 hb; replace HB := zB HB hb; clear hb))
  go_ret
  exact ⟨er, bq HB⟩

/-! ### impl_areHands: function 29 -/
/-! base: whole numbers of 64 bits -/
theorem wid {x : Int} (h0 : -9223372036854775808 ≤ x) (h1 : x ≤ 9223372036854775807) : wrap64 x = x := by unfold wrap64; omega
theorem wf_bd {a : Int} (h : (Lit.int .i64 a).wf = true) : -9223372036854775808 ≤ a ∧ a ≤ 9223372036854775807 := by
  simp only [Lit.wf, IntKind.min, IntKind.max, IntKind.signed, IntKind.bits, Bool.and_eq_true, decide_eq_true_eq] at h
  simp at h
  exact h
theorem tmod_nn {a : Int} (b : Int) (h : 0 ≤ a) : Int.tmod a b = a % b := Int.tmod_eq_emod_of_nonneg h
theorem tdiv_nn {a : Int} (b : Int) (h : 0 ≤ a) : Int.tdiv a b = a / b := Int.tdiv_eq_ediv_of_nonneg h
theorem mul_bd {x y M N : Int} (hx : -M ≤ x ∧ x ≤ M) (hy : -N ≤ y ∧ y ≤ N) : -(M * N) ≤ x * y ∧ x * y ≤ M * N := by
  have h1 : x.natAbs ≤ M.natAbs := by omega
  have h2 : y.natAbs ≤ N.natAbs := by omega
  have h3 := Nat.mul_le_mul h1 h2
  rw [← Int.natAbs_mul, ← Int.natAbs_mul] at h3
  have h4 : 0 ≤ M * N := Int.mul_nonneg (by omega) (by omega)
  omega
/-! tmath: parts of a turn, in lowest terms -/
/-- The greatest common divisor, as a whole number. -/
def gI (a b : Int) : Int := (Int.gcd a b : Int)
theorem gI_nonneg (a b : Int) : 0 ≤ gI a b := by unfold gI; omega
theorem gI_pos {a b : Int} (hb : b ≠ 0) : 0 < gI a b := by
  unfold gI
  have : 0 < Int.gcd a b := Int.gcd_pos_of_ne_zero_right a hb
  omega
theorem gI_dvd_left (a b : Int) : gI a b ∣ a := Int.gcd_dvd_left ..
theorem gI_dvd_right (a b : Int) : gI a b ∣ b := Int.gcd_dvd_right ..
theorem gI_le {a b : Int} (hb : 0 < b) : gI a b ≤ b := Int.le_of_dvd hb (gI_dvd_right a b)
/-- n / d without whole turns, in lowest terms. -/
def mkT (n d : Int) : Int × Int := (n % d / gI (n % d) d, d / gI (n % d) d)
/-- Is it in lowest terms, and less than a turn? -/
def low (p q : Int) : Prop := 0 < q ∧ 0 ≤ p ∧ p < q ∧ gI p q = 1
theorem gI_div {a b g : Int} (hg : 0 < g) (e : gI a b = g) : gI (a / g) (b / g) = 1 := by
  unfold gI at *
  have h := Int.gcd_ediv_gcd_ediv_gcd (i := a) (j := b) (by omega)
  rw [e] at h
  rw [h]; rfl
theorem mkT_low (n : Int) {d : Int} (hd : 0 < d) : low (mkT n d).1 (mkT n d).2 := by
  have hg := gI_pos (a := n % d) (show d ≠ 0 by omega)
  have h0 : 0 ≤ n % d := Int.emod_nonneg _ (by omega)
  have h1 : n % d < d := Int.emod_lt_of_pos _ hd
  have dl := gI_dvd_left (n % d) d
  have dr := gI_dvd_right (n % d) d
  refine ⟨?_, Int.ediv_nonneg h0 (by omega), ?_, gI_div hg rfl⟩
  · exact Int.ediv_pos_of_pos_of_dvd hd (by omega) dr
  show n % d / gI (n % d) d < d / gI (n % d) d
  rw [Int.ediv_lt_iff_lt_mul hg, Int.ediv_mul_cancel dr]
  exact h1
theorem mkT_eq (n : Int) {d : Int} (hd : 0 < d) : (mkT n d).1 * d = (mkT n d).2 * (n % d) := by
  have hg := gI_pos (a := n % d) (show d ≠ 0 by omega)
  obtain ⟨x, hx⟩ := gI_dvd_left (n % d) d
  obtain ⟨y, hy⟩ := gI_dvd_right (n % d) d
  have e1 : n % d / gI (n % d) d = x := Int.ediv_eq_of_eq_mul_right (by omega) hx
  have e2 : d / gI (n % d) d = y := Int.ediv_eq_of_eq_mul_right (by omega) hy
  show n % d / gI (n % d) d * d = d / gI (n % d) d * (n % d)
  rw [e1, e2]
  generalize gI (n % d) d = g at hx hy
  rw [hx, Int.mul_comm x d, hy]
  ac_rfl
theorem mkT_dvd (n : Int) {d : Int} : (mkT n d).2 ∣ d := by
  obtain ⟨y, hy⟩ := gI_dvd_right (n % d) d
  by_cases h : gI (n % d) d = 0
  · show d / gI (n % d) d ∣ d
    rw [h] at hy ⊢; simp at hy; rw [hy]; simp
  have e2 : d / gI (n % d) d = y := Int.ediv_eq_of_eq_mul_right h hy
  show d / gI (n % d) d ∣ d
  rw [e2]
  exact ⟨gI (n % d) d, by rw [Int.mul_comm]; exact hy⟩
theorem dvd_cancel {k m n : Int} (c : Int.gcd k m = 1) (h : k ∣ m * n) : k ∣ n := by
  have h2 : k.natAbs ∣ m.natAbs * n.natAbs := by rw [← Int.natAbs_mul]; exact Int.natAbs_dvd_natAbs.mpr h
  exact Int.natAbs_dvd_natAbs.mp (Nat.Coprime.dvd_of_dvd_mul_left (show Nat.Coprime k.natAbs m.natAbs from c) h2)
/-- Two in lowest terms that are alike are one. -/
theorem low_ext {p q r s : Int} (h : low p q) (k : low r s) (e : p * s = r * q) : p = r ∧ q = s := by
  obtain ⟨q0, p0, _, hg⟩ := h
  obtain ⟨s0, r0, _, kg⟩ := k
  have c1 : Int.gcd q p = 1 := by rw [Int.gcd_comm]; unfold gI at hg; omega
  have c2 : Int.gcd s r = 1 := by rw [Int.gcd_comm]; unfold gI at kg; omega
  have d1 : q ∣ s := dvd_cancel c1 (show q ∣ p * s from ⟨r, by rw [e, Int.mul_comm]⟩)
  have d2 : s ∣ q := dvd_cancel c2 (show s ∣ r * q from ⟨p, by rw [← e, Int.mul_comm]⟩)
  have es : q = s := Int.dvd_antisymm (by omega) (by omega) d1 d2
  subst es
  exact ⟨Int.eq_of_mul_eq_mul_right (by omega) e, rfl⟩
/-- What n / d is, told by what it is alike to. -/
theorem mkT_of {n d p q m : Int} (hd : 0 < d) (h : low p q) (e : p * d = q * n + q * d * m) : mkT n d = (p, q) := by
  have l := mkT_low n hd
  have e1 := mkT_eq n hd
  have em := Int.mul_ediv_add_emod n d
  obtain ⟨q0, p0, pq, hg⟩ := h
  have h0 : 0 ≤ n % d := Int.emod_nonneg _ (by omega)
  have h1 : n % d < d := Int.emod_lt_of_pos _ hd
  -- p * d = q * (n % d)
  have key : p * d = q * (n % d) := by
    have t : p * d = q * (n % d) + q * d * (n / d + m) := by
      rw [e, Int.mul_add (q * d), ← Int.add_assoc]
      congr 1
      rw [Int.mul_assoc q d, ← Int.mul_add, Int.add_comm (n % d), em]
    have b1 : 0 ≤ p * d := Int.mul_nonneg p0 (by omega)
    have b2 : p * d < q * d := Int.mul_lt_mul_of_pos_right pq hd
    have b3 : 0 ≤ q * (n % d) := Int.mul_nonneg (by omega) h0
    have b4 : q * (n % d) < q * d := Int.mul_lt_mul_of_pos_left h1 q0
    have z : n / d + m = 0 := by
      rcases Int.lt_trichotomy (n / d + m) 0 with hlt | he | hgt
      · exfalso
        have : q * d * (n / d + m) ≤ q * d * (-1) := Int.mul_le_mul_of_nonneg_left (by omega) (Int.mul_nonneg (by omega) (by omega))
        omega
      · exact he
      exfalso
      have : q * d * 1 ≤ q * d * (n / d + m) := Int.mul_le_mul_of_nonneg_left (by omega) (Int.mul_nonneg (by omega) (by omega))
      omega
    rw [z, Int.mul_zero, Int.add_zero] at t
    exact t
  have k : (mkT n d).1 * q = p * (mkT n d).2 := by
    have : (mkT n d).1 * q * d = p * (mkT n d).2 * d := by
      rw [Int.mul_assoc, Int.mul_comm q d, ← Int.mul_assoc, e1, Int.mul_assoc p, Int.mul_comm _ d, ← Int.mul_assoc p, key, Int.mul_assoc, Int.mul_comm (n % d) q, Int.mul_comm]
    exact Int.eq_of_mul_eq_mul_right (by omega) this
  obtain ⟨a, b⟩ := low_ext l ⟨q0, p0, pq, hg⟩ k
  exact Prod.ext a b
theorem mkT_self {p q : Int} (h : low p q) : mkT p q = (p, q) := mkT_of (m := 0) h.1 h (by rw [Int.mul_zero, Int.add_zero, Int.mul_comm])
/-- Alike up to whole turns: one. -/
theorem mkT_congr {n d n' d' m : Int} (hd : 0 < d) (hd' : 0 < d') (e : n * d' = n' * d + d * d' * m) : mkT n d = mkT n' d' := by
  have l := mkT_low n' hd'
  have e1 := mkT_eq n' hd'
  have em := Int.mul_ediv_add_emod n' d'
  have : mkT n d = ((mkT n' d').1, (mkT n' d').2) := by
    generalize hp : (mkT n' d').1 = p at *
    generalize hq : (mkT n' d').2 = q at *
    refine mkT_of (m := -(n' / d') - m) hd l ?_
    -- p * d = q * n + q * d * (-(n'/d') - m)
    have f : p * d * d' = (q * n + q * d * (-(n' / d') - m)) * d' := by
      have a1 : p * d * d' = q * (n' % d') * d := by rw [Int.mul_assoc, Int.mul_comm d d', ← Int.mul_assoc, e1]
      have a2 : n' % d' = n' - d' * (n' / d') := by omega
      have a3 : (q * n + q * d * (-(n' / d') - m)) * d' = q * (n * d') - q * (d * d' * (n' / d')) - q * (d * d' * m) := by
        rw [Int.add_mul, Int.sub_eq_add_neg, Int.mul_add, Int.add_mul, Int.mul_neg, Int.neg_mul, Int.mul_neg, Int.neg_mul]
        have x1 : q * d * (n' / d') * d' = q * (d * d' * (n' / d')) := by ac_rfl
        have x2 : q * d * m * d' = q * (d * d' * m) := by ac_rfl
        have x3 : q * n * d' = q * (n * d') := by ac_rfl
        rw [x1, x2, x3]; omega
      rw [a1, a2, a3, e, Int.mul_add, Int.mul_sub, Int.sub_mul]
      have y1 : q * (n' * d) = q * n' * d := by ac_rfl
      have y2 : q * (d' * (n' / d')) * d = q * (d * d' * (n' / d')) := by ac_rfl
      rw [y1, y2]; omega
    exact Int.eq_of_mul_eq_mul_right (by omega) f
  rw [this]
theorem mkT_add_turns (n : Int) {d : Int} (m : Int) (hd : 0 < d) : mkT (n + d * m) d = mkT n d :=
  mkT_congr (m := m) hd hd (by rw [Int.add_mul]; congr 1; ac_rfl)
theorem mkT_scale (n : Int) {d c : Int} (hd : 0 < d) (hc : 0 < c) : mkT (c * n) (c * d) = mkT n d :=
  mkT_congr (m := 0) (Int.mul_pos hc hd) hd (by rw [Int.mul_zero, Int.add_zero]; ac_rfl)
theorem gI_tmod (a : Int) {b : Int} : gI b (Int.tmod a b) = gI a b := by
  unfold gI
  congr 1
  rw [Int.gcd, Int.gcd, Int.natAbs_tmod, Nat.gcd_comm, ← Nat.gcd_rec, Nat.gcd_comm]
theorem tmod_bd (n : Int) {d : Int} (hd : 0 < d) : -d < Int.tmod n d ∧ Int.tmod n d < d := by
  have h : (Int.tmod n d).natAbs < d.natAbs := by rw [Int.natAbs_tmod]; exact Nat.mod_lt _ (by omega)
  omega
/-- A turn: a part in lowest terms, its lower number up to a million. -/
def isT (a b : Int) : Prop := (1 ≤ b ∧ b ≤ 1000000) ∧ (0 ≤ a ∧ a ≤ b - 1) ∧ gI a b = 1
instance (a b : Int) : Decidable (isT a b) := by unfold isT; exact inferInstance
theorem isT_low {a b : Int} (h : isT a b) : low a b := ⟨by have := h.1; omega, h.2.1.1, by have := h.2.1; omega, h.2.2⟩
theorem isT_of_low {a b : Int} (h : low a b) (hb : b ≤ 1000000) : isT a b := ⟨⟨by have := h.1; omega, hb⟩, ⟨h.2.1, by have := h.2.2.1; omega⟩, h.2.2.2⟩
theorem within_val (a b c : Int) : impl_within.f a b c = some (decide (b ≤ a ∧ a ≤ c)) := by
  unfold impl_within.f
  by_cases h : a ≥ b
  · have e : (b ≤ a ∧ a ≤ c) ↔ a ≤ c := ⟨fun x => x.2, fun x => ⟨h, x⟩⟩
    rw [if_pos h, decide_eq_decide.mpr e]
  rw [if_neg h, decide_eq_false (fun x => h x.1)]
theorem mx_abs {a : Int} (h0 : -9223372036854775808 < a) (h1 : a ≤ 9223372036854775807) : mx a (wrap64 (-a)) = (a.natAbs : Int) := by
  rw [wid (by omega) (by omega)]
  unfold mx; split <;> omega
theorem igcd_ev : ∀ (n : Nat) (a b : Int), -9223372036854775808 < a → a ≤ 9223372036854775807 → -9223372036854775808 < b → b ≤ 9223372036854775807 → b.natAbs ≤ n → ∀ k, n < k → impl_gcd.l0 k a b = some (gI a b)
  | 0, a, b, a0, a1, b0, b1, hn, k, hk => by
    obtain ⟨k, rfl⟩ : ∃ m, k = m + 1 := ⟨k - 1, by omega⟩
    have : b = 0 := by omega
    subst this
    simp only [impl_gcd.l0, if_true]
    rw [mx_abs a0 a1]
    unfold gI
    rw [Int.gcd_zero_right]
  | n + 1, a, b, a0, a1, b0, b1, hn, k, hk => by
    obtain ⟨k, rfl⟩ : ∃ m, k = m + 1 := ⟨k - 1, by omega⟩
    simp only [impl_gcd.l0]
    by_cases h0 : b = 0
    · subst h0
      rw [if_pos rfl, mx_abs a0 a1]
      unfold gI
      rw [Int.gcd_zero_right]
    have h2 : (Int.tmod a b).natAbs < b.natAbs := by rw [Int.natAbs_tmod]; exact Nat.mod_lt _ (by omega)
    rw [if_neg h0, igcd_ev n b (Int.tmod a b) b0 b1 (by omega) (by omega) (by omega) k (by omega), gI_tmod]
theorem igcd_val {a b : Int} (a0 : -9223372036854775808 < a) (a1 : a ≤ 9223372036854775807) (b0 : -9223372036854775808 < b) (b1 : b ≤ 9223372036854775807) : Ev (fun k => impl_gcd.f k a b) (gI a b) :=
  ⟨b.natAbs + 1, fun k hk => igcd_ev b.natAbs a b a0 a1 b0 b1 (Nat.le_refl _) k (by omega)⟩
theorem IsTurn_val (a b : Int) : Ev (fun k => impl_IsTurn.f k a b) (decide (isT a b)) := by
  unfold impl_IsTurn.f
  simp only [within_val, Option.bind_some]
  by_cases h1 : 1 ≤ b ∧ b ≤ 1000000
  · simp only [decide_eq_true h1, if_true]
    rw [wid (x := b - 1) (by omega) (by omega)]
    by_cases h2 : 0 ≤ a ∧ a ≤ b - 1
    · simp only [decide_eq_true h2, if_true]
      refine Ev.bind (igcd_val (by omega) (by omega) (by omega) (by omega)) ?_
      refine ⟨0, fun _ _ => ?_⟩
      unfold isT
      rw [show (gI a b == 1) = decide (gI a b = 1) from Bool.eq_iff_iff.mpr (by simp)]
      simp [h1, h2]
    simp only [decide_eq_false h2]
    exact ⟨0, fun _ _ => by unfold isT; simp [h2]⟩
  simp only [decide_eq_false h1]
  exact ⟨0, fun _ _ => by unfold isT; simp [h1]⟩
def isH (a b c : Int) : Prop := isT a b ∧ b ≤ 1000 ∧ -400 ≤ c ∧ c ≤ 400
instance isH_dec (a b c : Int) : Decidable (isH a b c) := by unfold isH; infer_instance
theorem isCoarse_val (a b : Int) : Ev (fun k => impl_isCoarse.f k a b) (decide (isT a b ∧ b ≤ 1000)) := by
  unfold impl_isCoarse.f
  refine Ev.bind (IsTurn_val a b) ?_
  refine ⟨0, fun _ _ => ?_⟩
  by_cases h : isT a b
  · simp [h]
  simp [h]
theorem IsHand_val (a b c : Int) : Ev (fun k => impl_IsHand.f k a b c) (decide (isH a b c)) := by
  unfold impl_IsHand.f
  refine Ev.bind (isCoarse_val a b) ?_
  refine ⟨0, fun _ _ => ?_⟩
  unfold isH
  simp only [within_val, Option.bind_some]
  by_cases h : isT a b ∧ b ≤ 1000
  · by_cases h2 : -400 ≤ c ∧ c ≤ 400
    · simp [h, h2]
    simp [h, h2]
  have h3 : ¬ (isT a b ∧ b ≤ 1000 ∧ -400 ≤ c ∧ c ≤ 400) := fun x => h ⟨x.1, x.2.1⟩
  simp [h, h3]
def impl_areHands.f (l0 : List S27) : Option Bool := some (l0.all fun t => decide (isH t.f0.f0 t.f0.f1 t.f1))
/-- What the search for one that is no turn tells. -/
def impl_areHands.Found (l0 : List S27) (w : World) (e : Ending) (w' : World) : Prop := ∃ i : Int, e = .returned (.int .i64 i) ∧ (0 ≤ i ↔ (l0.all fun t => decide (isH t.f0.f0 t.f0.f1 t.f1)) = false) ∧ Below w.heap.size w w'
theorem impl_areHands.one (t : S27) (w : World) : Calls Try.prog 57 #[.agg #[.int .i64 t.f0.f0, .int .i64 t.f0.f1, .int .i64 t.f1]] w fun e w' => e = .returned (.bool (!decide (isH t.f0.f0 t.f0.f1 t.f1))) ∧ Below w.heap.size w w' := by
  obtain ⟨K, h⟩ := IsHand_val t.f0.f0 t.f0.f1 t.f1
  exact impl_areHands_1.calls K t.f0.f0 t.f0.f1 t.f1 _ w (by unfold impl_areHands_1.f; have h1 := h K (Nat.le_refl _); dsimp only at h1; rw [h1]; rfl)
set_option maxHeartbeats 8000000 in
set_option maxRecDepth 100000 in
theorem impl_areHands.search (A0 : Option Addr) (c0 : Nat) (l0 : List S27) (w : World) (hr0 : Kd.C k27 w A0 l0.length l0) :
    Calls Try.prog 79 #[.slice A0 l0.length c0, .func (.func 57) #[] #[]] w (impl_areHands.Found l0 w) := by
  have hM : l0.length ≤ 9223372036854775807 := Kd.C_max hr0
  have HR0 := Aside0.mk hr0
  clear hr0
  go_enter Try.func79, Try.ntmps79
  go_wp2
  go_loopg [5, 8] l0.length (fun gg _ s8 wr => ∃ kk : Nat, kk ≤ l0.length ∧ l0.length - kk ≤ gg ∧ s8 = .int .i64 kk ∧ Aside0 (Below w.heap.size w wr) ∧ Aside0 (∀ t ∈ l0.take kk, isH t.f0.f0 t.f0.f1 t.f1))
  case atStart => exact ⟨0, Nat.zero_le _, by omega, rfl, ⟨Below.refl _ w⟩, ⟨fun t ht => by simp at ht⟩⟩
  case round =>
    obtain ⟨kk, hkk, hg, rfl, BW, A⟩ := hrel
    by_cases hlt : kk < l0.length
    · have hltz : (kk : Int) < (l0.length : Int) := by omega
      have p435 : 0 ≤ (kk : Int) := by omega
      obtain ⟨ad435, e435, hx0, hx1, hx2⟩ := at_T27 (Kd.C_below HR0.1 BW.1) (kk : Int) p435 hltz
      cases e435
      have hget : rd_T27 l0 (kk : Int) = l0[kk] := by unfold rd_T27; rw [show ((kk : Int)).toNat = kk by omega, List.getD_eq_getElem?_getD, List.getElem?_eq_getElem hlt]; rfl
      rw [hget] at hx0 hx1 hx2
      rw [show ((kk : Int)).toNat = kk by omega] at hx0 hx1 hx2
      have hcall := impl_areHands.one l0[kk] wr
      have HT := Aside0.mk (List.take_succ_eq_append_getElem hlt)
      have HM := Aside0.mk (List.getElem_mem hlt)
      clear hget
      generalize hy : l0[kk] = y at hx0 hx1 hx2 hcall HT HM
      clear hy
      by_cases hq : isH y.f0.f0 y.f0.f1 y.f1
      · rw [decide_eq_true hq] at hcall
        have HQ := Aside0.mk hq
        clear hq
        go_wp2_with (go_at_call 57; refine hcall.mono ?_; rintro e w' ⟨rfl, hb'⟩)
        go_roundg (l0.length - (kk + 1))
        case measure => omega
        case rel =>
          refine ⟨kk + 1, by omega, by omega, by go_num, ⟨below_then BW.1 BW.1.size hb'⟩, ⟨fun t ht => ?_⟩⟩
          rw [HT.1] at ht
          rcases List.mem_append.1 ht with ht | ht
          · exact A.1 t ht
          rw [List.mem_singleton.1 ht]; exact HQ.1
      rw [decide_eq_false hq] at hcall
      have HQ := Aside0.mk hq
      clear hq
      go_wp2_with (go_at_call 57; refine hcall.mono ?_; rintro e w' ⟨rfl, hb'⟩)
      go_ret
      refine ⟨kk, rfl, ⟨fun _ => ?_, fun _ => p435⟩, below_then BW.1 BW.1.size hb'⟩
      rw [List.all_eq_false]
      exact ⟨y, HM.1, by simp [HQ.1]⟩
    have hltz : ¬ (kk : Int) < (l0.length : Int) := by omega
    go_wp2
    go_ret
    refine ⟨-1, rfl, ⟨fun h => by omega, fun h => ?_⟩, BW.1⟩
    rw [List.all_eq_false] at h
    obtain ⟨t, ht, hn⟩ := h
    exact absurd (A.1 t (by rw [List.take_of_length_le (by omega)]; exact ht)) (by simpa using hn)
set_option maxHeartbeats 8000000 in
set_option maxRecDepth 100000 in
theorem impl_areHands.calls (A0 : Option Addr) (c0 : Nat) (l0 : List S27) (r : Bool) (w : World) (hr0 : Kd.C k27 w A0 l0.length l0) (hc0 : l0.length ≤ c0) (h : impl_areHands.f l0 = some r) :
    Calls Try.prog 29 #[.slice A0 l0.length c0] w fun e w' => e = .returned (.bool r) ∧ Below w.heap.size w w' := by
  have hs := impl_areHands.search A0 c0 l0 w hr0
  obtain rfl := Option.some.inj h
  have H2 : Calls Try.prog 56 #[.slice A0 l0.length c0, .func (.func 57) #[] #[]] w fun e w' => e = .returned (.bool (!(l0.all fun t => decide (isH t.f0.f0 t.f0.f1 t.f1)))) ∧ Below w.heap.size w w' := by
    cases hb : (l0.all fun t => decide (isH t.f0.f0 t.f0.f1 t.f1)) with
    | false =>
      have hs2 : Calls Try.prog 79 #[.slice A0 l0.length c0, .func (.func 57) #[] #[]] w fun e w' => (∃ i : Nat, e = .returned (.int .i64 (i : Int))) ∧ Below w.heap.size w w' := by
        refine hs.mono fun e w' ⟨i, he, hi, hw⟩ => ⟨?_, hw⟩
        rw [hb] at hi
        obtain ⟨n, rfl⟩ := Int.eq_ofNat_of_zero_le (hi.2 rfl)
        exact ⟨n, he⟩
      clear hs hb hr0 hc0
      go_enter Try.func56, Try.ntmps56
      go_wp2_with (go_at_call 79; refine hs2.mono ?_; rintro e w' ⟨⟨i, rfl⟩, hw⟩)
      go_ret
      exact ⟨by simp, hw⟩
    | true =>
      have hs2 : Calls Try.prog 79 #[.slice A0 l0.length c0, .func (.func 57) #[] #[]] w fun e w' => (∃ i : Int, e = .returned (.int .i64 i) ∧ i < 0) ∧ Below w.heap.size w w' := by
        refine hs.mono fun e w' ⟨i, he, hi, hw⟩ => ⟨⟨i, he, ?_⟩, hw⟩
        rw [hb] at hi
        have : ¬ 0 ≤ i := fun h => by have := hi.1 h; simp at this
        omega
      clear hs hb hr0 hc0
      go_enter Try.func56, Try.ntmps56
      go_wp2_with (go_at_call 79; refine hs2.mono ?_; rintro e w' ⟨⟨i, rfl, hi⟩, hw⟩; have hi2 : decide (0 ≤ i) = false := decide_eq_false (by omega); clear hi)
      go_ret
      exact ⟨by simp [hi2], hw⟩
  clear hs hr0 hc0
  generalize (l0.all fun t => decide (isH t.f0.f0 t.f0.f1 t.f1)) = b at H2 ⊢
  go_enter Try.func29, Try.ntmps29
  go_wp2_with (go_at_call 56; refine H2.mono ?_; rintro e w' ⟨rfl, hw⟩)
  go_ret
  exact ⟨by simp, hw⟩

/-! ### impl_floorDiv: function 84 -/
def impl_floorDiv.f (a0 : Int) (a1 : Int) : Option (Int × Int) := if a1 = 0 then (none) else (if (Int.tmod a0 a1) < 0 then (some (wrap64 ((wrap64 (Int.tdiv a0 a1)) - 1), wrap64 ((Int.tmod a0 a1) + a1))) else (some (wrap64 (Int.tdiv a0 a1), Int.tmod a0 a1)))
set_option maxHeartbeats 8000000 in
set_option maxRecDepth 100000 in
theorem impl_floorDiv.calls (a0 : Int) (a1 : Int) (r1 : Int) (r2 : Int) (w : World) (h : impl_floorDiv.f a0 a1 = some (r1, r2)) :
    Calls Try.prog 84 #[.int .i64 a0, .int .i64 a1] w fun e w' => e = .returned (.tuple #[.int .i64 r1, .int .i64 r2]) ∧ Drawn0 w w' := by
  have H : (if a1 = 0 then (none) else (if (Int.tmod a0 a1) < 0 then (some (wrap64 ((wrap64 (Int.tdiv a0 a1)) - 1), wrap64 ((Int.tmod a0 a1) + a1))) else (some (wrap64 (Int.tdiv a0 a1), Int.tmod a0 a1)))) = some (r1, r2) := h
  clear h
  by_cases c3 : a1 = 0
  · rw [if_pos c3] at H
    exact absurd H (by simp)
  rw [if_neg c3] at H
  have c3b0 : (a1 == 0) = false := beq_eq_false_iff_ne.mpr c3
  have c3b1 : (a1 != 0) = true := bne_iff_ne.mpr c3
  by_cases c4 : (Int.tmod a0 a1) < 0
  · rw [if_pos c4] at H
    have c4b0 : decide ((Int.tmod a0 a1) < 0) = true := decide_eq_true c4
    clear c4
    simp only [Option.some.injEq, Prod.mk.injEq] at H
    obtain ⟨rfl, rfl⟩ := H
    go_enter Try.func84, Try.ntmps84
    go_wp2
    repeat (go_quiet (fail); try go_wp2)
    go_ret2
    exact ⟨by first | rfl | (simp; done) | (simp [*]; done), by repeat (first | exact Drawn0.refl _ | apply Drawn0.step)⟩
  rw [if_neg c4] at H
  have c4b0 : decide ((Int.tmod a0 a1) < 0) = false := decide_eq_false c4
  clear c4
  simp only [Option.some.injEq, Prod.mk.injEq] at H
  obtain ⟨rfl, rfl⟩ := H
  go_enter Try.func84, Try.ntmps84
  go_wp2
  repeat (go_quiet (fail); try go_wp2)
  go_ret2
  exact ⟨by first | rfl | (simp; done) | (simp [*]; done), by repeat (first | exact Drawn0.refl _ | apply Drawn0.step)⟩

end Go.Proofs.Ytoneipoioiokcaa.PFnHandsMeet
