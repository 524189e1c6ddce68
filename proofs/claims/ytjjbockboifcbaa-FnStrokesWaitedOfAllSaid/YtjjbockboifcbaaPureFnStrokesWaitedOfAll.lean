/- Over all dials the waits, the heard halves, the most in halves and the strokes are the reference's, and they are what the strokes say; no condition. -/
import Derived.Test.YtjjbockboifcbaaPFnStrokesWaitedOfAllx6
set_option linter.unusedVariables false
set_option linter.unusedSimpArgs false
namespace Go.Proofs.Ytjjbockboifcbaa.Pure
open Go.RowKit Go.Proofs.Ytjjbockboifcbaa.PFnStrokesWaitedOfAll Go.Proofs.YtjjbockboifcbaaW.PrintWords Go.Proofs.YtjjbockboifcbaaW.PrintLast Go.Proofs.YtjjbockboifcbaaW.PrintMore

/-! base: whole numbers of 64 bits -/
theorem wid {x : Int} (h0 : -9223372036854775808 ≤ x) (h1 : x ≤ 9223372036854775807) : wrap64 x = x := by unfold wrap64; omega
theorem wf_bd {a : Int} (h : (Lit.int .i64 a).wf = true) : -9223372036854775808 ≤ a ∧ a ≤ 9223372036854775807 := by
  simp only [Lit.wf, IntKind.min, IntKind.max, IntKind.signed, IntKind.bits, Bool.and_eq_true, decide_eq_true_eq] at h
  simp at h
  exact h
theorem tmod_nn {a : Int} (b : Int) (h : 0 ≤ a) : Int.tmod a b = a % b := Int.tmod_eq_emod_of_nonneg h
theorem tdiv_nn {a : Int} (b : Int) (h : 0 ≤ a) : Int.tdiv a b = a / b := Int.tdiv_eq_ediv_of_nonneg h
theorem mul_bd {x y M N : Int} (hx : -M ≤ x ∧ x ≤ M) (hy : -N ≤ y ∧ y ≤ N) : -(M * N) ≤ x * y ∧ x * y ≤ M * N := by
  have h1 : x.natAbs ≤ M.natAbs := by omega
  have h2 : y.natAbs ≤ N.natAbs := by omega
  have h3 := Nat.mul_le_mul h1 h2
  rw [← Int.natAbs_mul, ← Int.natAbs_mul] at h3
  have h4 : 0 ≤ M * N := Int.mul_nonneg (by omega) (by omega)
  omega
theorem l1In_val (a b c : Int) : spec_l1In.f a b c = some (decide (b ≤ a ∧ a ≤ c)) := by
  unfold spec_l1In.f
  by_cases h : a ≥ b
  · have e : (b ≤ a ∧ a ≤ c) ↔ a ≤ c := ⟨fun x => x.2, fun x => ⟨h, x⟩⟩
    rw [if_pos h, decide_eq_decide.mpr e]
  · rw [if_neg h, decide_eq_false (fun x => h x.1)]
theorem within_val (a b c : Int) : impl_within.f a b c = some (decide (b ≤ a ∧ a ≤ c)) := by
  unfold impl_within.f
  by_cases h : a ≥ b
  · have e : (b ≤ a ∧ a ≤ c) ↔ a ≤ c := ⟨fun x => x.2, fun x => ⟨h, x⟩⟩
    rw [if_pos h, decide_eq_decide.mpr e]
  · rw [if_neg h, decide_eq_false (fun x => h x.1)]
theorem diHours_val (h : Int) : spec_diHours.f h = some (decide (2 ≤ h ∧ h ≤ 24)) := by
  unfold spec_diHours.f; rw [l1In_val]; rfl
theorem isDial_val (h : Int) : impl_isDial.f h = some (decide (2 ≤ h ∧ h ≤ 24)) := by
  unfold impl_isDial.f; rw [within_val]; rfl
def isH (h x : Int) : Prop := (2 ≤ h ∧ h ≤ 24) ∧ 0 ≤ x ∧ x ≤ 2 * h - 1
instance (h x : Int) : Decidable (isH h x) := by unfold isH; exact inferInstance
theorem stHalf_val (h x : Int) : spec_stHalf.f h x = some (decide (isH h x)) := by
  unfold spec_stHalf.f isH; rw [diHours_val]
  simp only [Option.bind_some]
  by_cases hd : 2 ≤ h ∧ h ≤ 24
  · simp only [decide_eq_true hd, if_true]
    rw [l1In_val, wid (x := 2 * h) (by omega) (by omega), wid (by omega) (by omega)]
    simp [hd]
  · simp only [decide_eq_false hd]
    simp [hd]
theorem isHalf_val (h x : Int) : impl_isHalf.f h x = some (decide (isH h x)) := by
  unfold impl_isHalf.f isH; rw [isDial_val]
  simp only [Option.bind_some]
  by_cases hd : 2 ≤ h ∧ h ≤ 24
  · simp only [decide_eq_true hd, if_true]
    rw [within_val, wid (x := 2 * h) (by omega) (by omega), wid (by omega) (by omega)]
    simp [hd]
  · simp only [decide_eq_false hd]
    simp [hd]
def st (h j : Int) : Int := if j % 2 = 1 then 1 else if j = 0 then h else j / 2
theorem st_pos {h j : Int} (hh : 2 ≤ h) (h0 : 0 ≤ j) : 1 ≤ st h j := by
  unfold st; split
  · omega
  · split <;> omega
theorem st_le {h j : Int} (hh : 2 ≤ h) (h1 : j < 2 * h) : st h j ≤ h := by
  unfold st; split
  · omega
  · split <;> omega
theorem stAt_val (h : Int) {j : Int} (h0 : 0 ≤ j) (h1 : j ≤ 4611686018427387904) : spec_stAt.f h j = some (st h j) := by
  unfold spec_stAt.f st
  rw [tmod_nn _ h0, tdiv_nn _ h0]
  split
  · rfl
  · split
    · rfl
    · rw [wid (by omega) (by omega)]
theorem strokes_val {h j : Int} (hd : 2 ≤ h ∧ h ≤ 24) (h0 : 0 ≤ j) : impl_strokes.f h j = some (st h (j % (2 * h))) := by
  have hw : wrap64 (2 * h) = 2 * h := wid (by omega) (by omega)
  have hm : 0 ≤ j % (2 * h) := Int.emod_nonneg _ (by omega)
  have hl : j % (2 * h) < 2 * h := Int.emod_lt_of_pos _ (by omega)
  unfold impl_strokes.f st
  rw [hw, tmod_nn _ h0, tmod_nn _ hm, tdiv_nn _ hm, if_neg (by omega)]
  by_cases h1 : j % (2 * h) = 0
  · rw [if_pos h1, h1]; simp
  · rw [if_neg h1]
    by_cases h2 : j % (2 * h) % 2 = 1
    · rw [if_pos h2, if_pos h2]
    · rw [if_neg h2, if_neg h2, if_neg h1, wid (by omega) (by omega)]
/-- What is heard at n halves from x on. -/
def heardL (h x : Int) (n : Nat) : List Int := (List.range n).map fun (i : Nat) => st h ((x + (i : Int)) % (2 * h))
theorem heardL_length (h x : Int) (n : Nat) : (heardL h x n).length = n := by simp [heardL]
theorem heardL_succ (h x : Int) (n : Nat) : heardL h x (n + 1) = heardL h x n ++ [st h ((x + (n : Int)) % (2 * h))] := by
  simp [heardL, List.range_succ]
theorem stFrom_loop {h x : Int} {n : Nat} (hd : 2 ≤ h ∧ h ≤ 24) (hx : 0 ≤ x) (hx' : x ≤ 1000000) (hn : n ≤ 1000) (d : Nat) : ∀ (i k : Nat), i + d = n → d < k →
    spec_stFrom.l0 k h x n (heardL h x i) i = some (heardL h x n) := by
  induction d with
  | zero =>
    intro i k hi hk
    obtain ⟨k, rfl⟩ : ∃ m, k = m + 1 := ⟨k - 1, by omega⟩
    simp only [spec_stFrom.l0]
    rw [if_neg (by omega), show i = n by omega]
  | succ d ih =>
    intro i k hi hk
    obtain ⟨k, rfl⟩ : ∃ m, k = m + 1 := ⟨k - 1, by omega⟩
    have hm : 0 ≤ (x + i) % (2 * h) := Int.emod_nonneg _ (by omega)
    have hl : (x + i) % (2 * h) < 2 * h := Int.emod_lt_of_pos _ (by omega)
    simp only [spec_stFrom.l0]
    rw [if_pos (by omega), wid (x := 2 * h) (by omega) (by omega), if_neg (by omega), wid (x := x + i) (by omega) (by omega), tmod_nn _ (by omega), stAt_val _ hm (by omega)]
    simp only [Option.bind_some]
    rw [heardL_length, if_pos (by omega), wid (x := (i : Int) + 1) (by omega) (by omega), ← heardL_succ]
    exact ih (i + 1) k (by omega) (by omega)
theorem stFrom_val {h x : Int} {n : Nat} (hd : 2 ≤ h ∧ h ≤ 24) (hx : 0 ≤ x) (hx' : x ≤ 1000000) (hn : n ≤ 1000) (k : Nat) (hk : n < k) : spec_stFrom.f k h x n = some (heardL h x n) :=
  stFrom_loop hd hx hx' hn n 0 k (by omega) hk
theorem heardFrom_loop {h x : Int} {n : Nat} (hd : 2 ≤ h ∧ h ≤ 24) (hx : 0 ≤ x) (hx' : x ≤ 1000000) (hn : n ≤ 1000) (d : Nat) : ∀ (i k : Nat), i + d = n → d < k →
    impl_heardFrom.l0 k h x (heardL h x i) n i = some (heardL h x n) := by
  induction d with
  | zero =>
    intro i k hi hk
    obtain ⟨k, rfl⟩ : ∃ m, k = m + 1 := ⟨k - 1, by omega⟩
    simp only [impl_heardFrom.l0]
    rw [if_neg (by omega), show i = n by omega]
  | succ d ih =>
    intro i k hi hk
    obtain ⟨k, rfl⟩ : ∃ m, k = m + 1 := ⟨k - 1, by omega⟩
    simp only [impl_heardFrom.l0]
    rw [if_pos (by omega), wid (x := x + i) (by omega) (by omega), strokes_val hd (by omega)]
    simp only [Option.bind_some]
    rw [heardL_length, if_pos (by omega), wid (x := (i : Int) + 1) (by omega) (by omega), ← heardL_succ]
    exact ih (i + 1) k (by omega) (by omega)
theorem heardFrom_val {h x : Int} {n : Nat} (hd : 2 ≤ h ∧ h ≤ 24) (hx : 0 ≤ x) (hx' : x ≤ 1000000) (hn : n ≤ 1000) (k : Nat) (hk : n < k) : impl_heardFrom.f k h x n = some (heardL h x n) :=
  heardFrom_loop hd hx hx' hn n 0 k (by omega) hk
/-- The strokes at the first n halves. -/
def S (h : Int) : Nat → Int
  | 0 => 0
  | n + 1 => S h n + st h ((n : Int) % (2 * h))
def T (h : Int) : Int := h * (h + 1) / 2 + h
theorem S_le {h : Int} (hh : 2 ≤ h) (n : Nat) : ∀ m, S h n ≤ S h (n + m)
  | 0 => Int.le_refl _
  | m + 1 => by
    have h1 := S_le hh n m
    have h2 := st_pos hh (Int.emod_nonneg ((n + m : Nat) : Int) (show 2 * h ≠ 0 by omega))
    show S h n ≤ S h (n + m) + st h (((n + m : Nat) : Int) % (2 * h))
    omega
theorem S_mono {h : Int} (hh : 2 ≤ h) {n m : Nat} (hm : n ≤ m) : S h n ≤ S h m := by
  obtain ⟨d, rfl⟩ := Nat.exists_eq_add_of_le hm
  exact S_le hh n d
theorem S_up {h : Int} (hh : 2 ≤ h ∧ h ≤ 24) : ∀ n : Nat, 0 ≤ S h n ∧ S h n ≤ 24 * n
  | 0 => ⟨Int.le_refl _, Int.le_refl _⟩
  | n + 1 => by
    have h1 := S_up hh n
    have h2 := st_pos hh.1 (Int.emod_nonneg (n : Int) (show 2 * h ≠ 0 by omega))
    have h3 := st_le (j := (n : Int) % (2 * h)) hh.1 (Int.emod_lt_of_pos _ (by omega))
    show 0 ≤ S h n + _ ∧ S h n + st h ((n : Int) % (2 * h)) ≤ 24 * ((n + 1 : Nat) : Int)
    omega
theorem S_turn_all : ∀ x : Fin 25, 2 ≤ x.val → S (x.val : Int) (2 * x.val) = T (x.val : Int) := by decide +kernel
theorem S_turn {h : Int} (hh : 2 ≤ h ∧ h ≤ 24) {m : Nat} (hm : (m : Int) = 2 * h) : S h m = T h := by
  have := S_turn_all ⟨h.toNat, by omega⟩ (by show 2 ≤ h.toNat; omega)
  have e : ((h.toNat : Nat) : Int) = h := by omega
  have e2 : 2 * h.toNat = m := by omega
  simp only [e, e2] at this
  exact this
theorem S_add {h : Int} (hh : 2 ≤ h ∧ h ≤ 24) {m : Nat} (hm : (m : Int) = 2 * h) : ∀ n : Nat, S h (m + n) = T h + S h n
  | 0 => by rw [Nat.add_zero, S_turn hh hm]; show _ = T h + 0; omega
  | n + 1 => by
    show S h (m + n) + st h (((m + n : Nat) : Int) % (2 * h)) = T h + (S h n + st h ((n : Int) % (2 * h)))
    rw [S_add hh hm n]
    have e : ((m + n : Nat) : Int) % (2 * h) = (n : Int) % (2 * h) := by
      have : ((m + n : Nat) : Int) = (n : Int) + (2 * h) := by omega
      rw [this, Int.add_emod_right]
    rw [e]; omega
theorem S_mul {h : Int} (hh : 2 ≤ h ∧ h ≤ 24) {m : Nat} (hm : (m : Int) = 2 * h) (n : Nat) : ∀ q : Nat, S h (m * q + n) = T h * q + S h n
  | 0 => by simp
  | q + 1 => by
    have : m * (q + 1) + n = m + (m * q + n) := by rw [Nat.mul_succ]; omega
    rw [this, S_add hh hm, S_mul hh hm n q]
    have : T h * ((q + 1 : Nat) : Int) = T h * q + T h := by rw [show ((q + 1 : Nat) : Int) = (q : Int) + 1 from rfl, Int.mul_add, Int.mul_one]
    omega
theorem T_bd {h : Int} (hh : 2 ≤ h ∧ h ≤ 24) : 5 ≤ T h ∧ T h ≤ 324 := by
  unfold T
  have h1 : h * (h + 1) ≤ 24 * 25 := Int.mul_le_mul hh.2 (by omega) (by omega) (by omega)
  have h2 : 2 * 3 ≤ h * (h + 1) := Int.mul_le_mul hh.1 (by omega) (by omega) (by omega)
  omega
theorem T_wrap {h : Int} (hh : 2 ≤ h ∧ h ≤ 24) : wrap64 (wrap64 ((wrap64 (h * wrap64 (h + 1))).tdiv 2) + h) = T h := by
  have h1 : h * (h + 1) ≤ 24 * 25 := Int.mul_le_mul hh.2 (by omega) (by omega) (by omega)
  have h2 : 2 * 3 ≤ h * (h + 1) := Int.mul_le_mul hh.1 (by omega) (by omega) (by omega)
  rw [wid (x := h + 1) (by omega) (by omega), wid (x := h * (h + 1)) (by omega) (by omega), tdiv_nn _ (by omega), wid (x := h * (h + 1) / 2) (by omega) (by omega), wid (by omega) (by omega)]
  rfl
/-- A number of halves, by turns and the rest. -/
theorem S_split {h : Int} (hh : 2 ≤ h ∧ h ≤ 24) (n : Nat) : S h n = (n : Int) / (2 * h) * T h + S h (((n : Int) % (2 * h)).toNat) := by
  obtain ⟨m, hm⟩ : ∃ m : Nat, (m : Int) = 2 * h := ⟨(2 * h).toNat, by omega⟩
  have hq : 0 ≤ (n : Int) / (2 * h) := Int.ediv_nonneg (by omega) (by omega)
  have hr : 0 ≤ (n : Int) % (2 * h) := Int.emod_nonneg _ (by omega)
  have := S_mul hh hm ((n : Int) % (2 * h)).toNat ((n : Int) / (2 * h)).toNat
  have e : m * ((n : Int) / (2 * h)).toNat + ((n : Int) % (2 * h)).toNat = n := by
    have h1 := Int.mul_ediv_add_emod (n : Int) (2 * h)
    apply Int.ofNat.inj
    show ((m * ((n : Int) / (2 * h)).toNat + ((n : Int) % (2 * h)).toNat : Nat) : Int) = (n : Int)
    rw [Int.natCast_add, Int.natCast_mul, hm, Int.toNat_of_nonneg hq, Int.toNat_of_nonneg hr]
    exact h1
  rw [e, Int.toNat_of_nonneg hq, Int.mul_comm] at this
  exact this
theorem S_next {h : Int} (n : Nat) (hn : (n : Int) < 2 * h) : S h (n + 1) = S h n + st h (n : Int) := by
  have e : S h (n + 1) = S h n + st h ((n : Int) % (2 * h)) := rfl
  rwa [Int.emod_eq_of_lt (by omega) (by omega)] at e
theorem turns_bd {h X : Int} (hd : 2 ≤ h ∧ h ≤ 24) (hX : 0 ≤ X) (hX' : X ≤ 4000000000) : 0 ≤ X / (2 * h) * T h ∧ X / (2 * h) * T h ≤ 4000000000 * 324 := by
  have t := T_bd hd
  have q0 : 0 ≤ X / (2 * h) := Int.ediv_nonneg hX (by omega)
  have q1 : X / (2 * h) ≤ X := Int.ediv_le_self _ hX
  exact ⟨Int.mul_nonneg q0 (by omega), Int.mul_le_mul (by omega) t.2 (by omega) (by omega)⟩
theorem before_loop {h X : Int} (hd : 2 ≤ h ∧ h ≤ 24) (hX' : X < 2 * h) (d : Nat) : ∀ (n : Nat) (a : Int) (k : Nat), (n : Int) + d = X → 0 ≤ a → a + 24 * d ≤ 4000000000000 → d < k →
    impl_before.l0 k h a X n = some (a + (S h (n + d) - S h n)) := by
  induction d with
  | zero =>
    intro n a k hn h0 ha hk
    obtain ⟨k, rfl⟩ : ∃ m, k = m + 1 := ⟨k - 1, by omega⟩
    simp only [impl_before.l0]
    rw [if_neg (by omega)]
    simp
  | succ d ih =>
    intro n a k hn h0 ha hk
    obtain ⟨k, rfl⟩ : ∃ m, k = m + 1 := ⟨k - 1, by omega⟩
    have p := st_pos (h := h) (j := n) hd.1 (by omega)
    have q := st_le (h := h) (j := n) hd.1 (by omega)
    simp only [impl_before.l0]
    rw [if_pos (by omega), strokes_val hd (by omega), Int.emod_eq_of_lt (by omega) (by omega)]
    simp only [Option.bind_some]
    rw [wid (x := a + st h n) (by omega) (by omega), wid (x := (n : Int) + 1) (by omega) (by omega)]
    have := ih (n + 1) (a + st h n) k (by omega) (by omega) (by omega) (by omega)
    rw [show ((n + 1 : Nat) : Int) = (n : Int) + 1 from rfl] at this
    have e := S_next (h := h) n (by omega)
    rw [this, show n + 1 + d = n + (d + 1) by omega, e]; congr 1; omega
theorem before_val {h : Int} (hd : 2 ≤ h ∧ h ≤ 24) (n : Nat) (hn : n ≤ 4000000000) (k : Nat) (hk : 50 ≤ k) : impl_before.f k h n = some (S h n) := by
  have hr : 0 ≤ (n : Int) % (2 * h) := Int.emod_nonneg _ (by omega)
  have hl : (n : Int) % (2 * h) < 2 * h := Int.emod_lt_of_pos _ (by omega)
  have q0 : 0 ≤ (n : Int) / (2 * h) := Int.ediv_nonneg (by omega) (by omega)
  have q1 : (n : Int) / (2 * h) ≤ n := Int.ediv_le_self _ (by omega)
  have t := turns_bd hd (X := n) (by omega) (by omega)
  unfold impl_before.f impl_ofTurn.f
  rw [wid (x := 2 * h) (by omega) (by omega), if_neg (by omega), T_wrap hd]
  simp only [Option.bind_some]
  rw [tdiv_nn _ (by omega), tmod_nn _ (by omega), wid (x := (n : Int) / (2 * h)) (by omega) (by omega), wid (x := (n : Int) / (2 * h) * T h) (by omega) (by omega)]
  have := before_loop hd (X := (n : Int) % (2 * h)) (by omega) ((n : Int) % (2 * h)).toNat 0 ((n : Int) / (2 * h) * T h) k (by omega) (by omega) (by omega) (by omega)
  rw [Int.natCast_zero] at this
  rw [this, S_split hd n, Nat.zero_add]
  show some (_ + (_ - 0)) = _
  congr 1; omega
theorem before_val' {h x : Int} (hd : 2 ≤ h ∧ h ≤ 24) (h0 : 0 ≤ x) (hx : x ≤ 4000000000) (k : Nat) (hk : 50 ≤ k) : impl_before.f k h x = some (S h x.toNat) := by
  have := before_val hd x.toNat (by omega) k hk
  rwa [Int.toNat_of_nonneg h0] at this
/-- What is struck at n halves from x on, together. -/
theorem S_from {h : Int} (x : Nat) : ∀ n : Nat, (heardL h x n).sum = S h (x + n) - S h x
  | 0 => by simp [heardL]
  | n + 1 => by
    rw [heardL_succ, List.sum_append, S_from x n]
    show _ + (_ + 0) = S h (x + n) + st h (((x + n : Nat) : Int) % (2 * h)) - S h x
    rw [Int.natCast_add]; omega
theorem rd_nat (xs : List Int) (i : Nat) : rd xs (i : Int) = xs.getD i 0 := rfl
theorem sum_take (xs : List Int) (i : Nat) (hi : i < xs.length) : (xs.take (i + 1)).sum = (xs.take i).sum + rd xs i := by
  rw [rd_nat, List.take_succ_eq_append_getElem hi, List.getD_eq_getElem?_getD, List.getElem?_eq_getElem hi, List.sum_append]
  simp
theorem sum_bd (xs : List Int) (hb : ∀ y ∈ xs, 0 ≤ y ∧ y ≤ 100) : 0 ≤ xs.sum ∧ xs.sum ≤ 100 * xs.length := by
  induction xs with
  | nil => simp
  | cons y ys ih =>
    have := ih (fun z hz => hb z (List.mem_cons_of_mem _ hz))
    have := hb y (List.mem_cons_self ..)
    simp only [List.sum_cons, List.length_cons]; omega
/-- The inner sum, and on. -/
theorem most_inner {h n best most half : Int} {xs : List Int} (hl : xs.length ≤ 48) (hb : ∀ y ∈ xs, 0 ≤ y ∧ y ≤ 100) (hh : 0 ≤ half) (hh' : half ≤ 1000) (d : Nat) : ∀ (i k : Nat), i + d = xs.length →
    spec_MostInHalves.l1 (k + d + 1) h n best most half (xs.take i).sum xs (xs.length : Int) i = (if xs.sum > most then spec_MostInHalves.l0 k h n half xs.sum (half + 1) else spec_MostInHalves.l0 k h n best most (half + 1)) := by
  induction d with
  | zero =>
    intro i k hi
    simp only [spec_MostInHalves.l1]
    rw [if_neg (by omega), List.take_of_length_le (by omega), wid (x := half + 1) (by omega) (by omega)]
  | succ d ih =>
    intro i k hi
    show spec_MostInHalves.l1 (k + d + 1 + 1) h n best most half (xs.take i).sum xs (xs.length : Int) i = _
    simp only [spec_MostInHalves.l1]
    have b2 := sum_bd (xs.take (i + 1)) (fun y hy => hb y (List.mem_of_mem_take hy))
    have b3 : (xs.take (i + 1)).length ≤ 48 := by rw [List.length_take]; omega
    rw [if_pos (by omega), if_pos (by omega), if_pos (by omega), ← sum_take xs i (by omega), wid (x := (xs.take (i + 1)).sum) (by omega) (by omega), wid (x := (i : Int) + 1) (by omega) (by omega)]
    exact ih (i + 1) k (by omega)
/-- Two functions that come to the same: the law over them. -/
theorem same_ib {g f : Nat → Option (Int × Bool)} {v : Int × Bool} (hg : Ev g v) (hf : Ev f v) :
    ∃ k, ((g k).bind fun b => ((f k).bind fun c => (if c.1 = b.1 then (if (c.2 != b.2) = true then (some false) else (some true)) else (some false)))) = some true := by
  obtain ⟨K, h1⟩ := hg
  obtain ⟨K', h2⟩ := hf
  refine ⟨max K K', ?_⟩
  rw [h1 _ (by omega), h2 _ (by omega)]
  simp
theorem same_iib {g f : Nat → Option (Int × Int × Bool)} {v : Int × Int × Bool} (hg : Ev g v) (hf : Ev f v) :
    ∃ k, ((g k).bind fun b => ((f k).bind fun c => (if c.1 = b.1 then (if c.2.1 = b.2.1 then (if (c.2.2 != b.2.2) = true then (some false) else (some true)) else (some false)) else (some false)))) = some true := by
  obtain ⟨K, h1⟩ := hg
  obtain ⟨K', h2⟩ := hf
  refine ⟨max K K', ?_⟩
  rw [h1 _ (by omega), h2 _ (by omega)]
  simp
theorem Ev.mk {α : Type} {g : Nat → Option α} {r : α} (K : Nat) (h : ∀ k, K ≤ k → g k = some r) : Ev g r := ⟨K, h⟩
theorem found {h s : Int} (hh : 2 ≤ h) (h1 : 1 ≤ s) (h2 : s ≤ h) : ∃ j, 0 ≤ j ∧ j < 2 * h ∧ st h j = s := by
  by_cases e : s = 1
  · exact ⟨1, by omega, by omega, by unfold st; rw [if_pos (by omega)]; omega⟩
  · by_cases e' : s = h
    · exact ⟨0, by omega, by omega, by unfold st; rw [if_neg (by omega), if_pos rfl]; omega⟩
    · exact ⟨2 * s, by omega, by omega, by unfold st; rw [if_neg (by omega), if_neg (by omega)]; omega⟩
theorem loops {h x s : Int} (hd : 2 ≤ h ∧ h ≤ 24) (hx : 0 ≤ x) (hx' : x ≤ 100) (d : Nat) : ∀ n : Int, 0 ≤ n → n + d ≤ 100 → st h ((x + n + d) % (2 * h)) = s →
    ∃ n', n ≤ n' ∧ n' ≤ n + d ∧ st h ((x + n') % (2 * h)) = s ∧ (∀ m, n ≤ m → m < n' → st h ((x + m) % (2 * h)) ≠ s) ∧ ∀ k, d < k → spec_WaitForStrokes.l0 k h x s n = some (n', true) ∧ impl_WaitForStrokes.l0 k h x s n = some (n', true) := by
  induction d with
  | zero =>
    intro n h0 hn hs
    have hm : 0 ≤ (x + n) % (2 * h) := Int.emod_nonneg _ (by omega)
    have hl : (x + n) % (2 * h) < 2 * h := Int.emod_lt_of_pos _ (by omega)
    simp only [Int.natCast_zero, Int.add_zero] at hs
    refine ⟨n, by omega, by omega, hs, fun m h1 h2 => by omega, fun k hk => ?_⟩
    obtain ⟨k, rfl⟩ : ∃ m, k = m + 1 := ⟨k - 1, by omega⟩
    simp only [spec_WaitForStrokes.l0, impl_WaitForStrokes.l0]
    rw [wid (x := 2 * h) (by omega) (by omega), wid (x := x + n) (by omega) (by omega), tmod_nn _ (by omega), if_neg (by omega), stAt_val _ hm (by omega), strokes_val hd (by omega)]
    simp only [Option.bind_some]
    simp only [if_pos hs, and_self]
  | succ d ih =>
    intro n h0 hn hs
    have hm : 0 ≤ (x + n) % (2 * h) := Int.emod_nonneg _ (by omega)
    have hl : (x + n) % (2 * h) < 2 * h := Int.emod_lt_of_pos _ (by omega)
    by_cases e : st h ((x + n) % (2 * h)) = s
    · refine ⟨n, by omega, by omega, e, fun m h1 h2 => by omega, fun k hk => ?_⟩
      obtain ⟨k, rfl⟩ : ∃ m, k = m + 1 := ⟨k - 1, by omega⟩
      simp only [spec_WaitForStrokes.l0, impl_WaitForStrokes.l0]
      rw [wid (x := 2 * h) (by omega) (by omega), wid (x := x + n) (by omega) (by omega), tmod_nn _ (by omega), if_neg (by omega), stAt_val _ hm (by omega), strokes_val hd (by omega)]
      simp only [Option.bind_some]
      simp only [if_pos e, and_self]
    · obtain ⟨n', a1, a2, a3, a4, hr⟩ := ih (n + 1) (by omega) (by omega) (by rw [← hs]; congr 2; omega)
      refine ⟨n', by omega, by omega, a3, fun m h1 h2 => ?_, fun k hk => ?_⟩
      · by_cases em : m = n
        · rw [em]; exact e
        · exact a4 m (by omega) h2
      · obtain ⟨k, rfl⟩ : ∃ m, k = m + 1 := ⟨k - 1, by omega⟩
        simp only [spec_WaitForStrokes.l0, impl_WaitForStrokes.l0]
        rw [wid (x := 2 * h) (by omega) (by omega), wid (x := x + n) (by omega) (by omega), tmod_nn _ (by omega), if_neg (by omega), stAt_val _ hm (by omega), strokes_val hd (by omega)]
        simp only [Option.bind_some]
        simp only [if_neg e]
        rw [wid (x := n + 1) (by omega) (by omega)]
        exact hr k (by omega)
/-- What the wait is. -/
def waits (h x s n : Int) : Prop := isH h x ∧ 0 ≤ n ∧ n < 2 * h ∧ st h ((x + n) % (2 * h)) = s ∧ ∀ m, 0 ≤ m → m < n → st h ((x + m) % (2 * h)) ≠ s
theorem wait_both (h x s : Int) : ∃ n ok, Ev (fun k => spec_WaitForStrokes.f k h x s) (n, ok) ∧ Ev (fun k => impl_WaitForStrokes.f k h x s) (n, ok) ∧ (ok = true → waits h x s n) := by
  unfold spec_WaitForStrokes.f impl_WaitForStrokes.f
  simp only [stHalf_val, isHalf_val, l1In_val, within_val, Option.bind_some]
  by_cases hi : isH h x
  · simp only [decide_eq_true hi, if_true]
    by_cases hs : 1 ≤ s ∧ s ≤ h
    · simp only [decide_eq_true hs, Bool.not_true]
      obtain ⟨hd, h0, hx⟩ := id hi
      obtain ⟨j, hj0, hj1, hj⟩ := found hd.1 hs.1 hs.2
      have e0 : 0 ≤ (j - x) % (2 * h) := Int.emod_nonneg _ (by omega)
      have e1 : ((j - x) % (2 * h)).toNat = (j - x) % (2 * h) := Int.toNat_of_nonneg e0
      have e2 : (j - x) % (2 * h) < 2 * h := Int.emod_lt_of_pos _ (by omega)
      obtain ⟨n', a1, a2, a3, a4, hr⟩ := loops (s := s) hd h0 (by omega) ((j - x) % (2 * h)).toNat 0 (by omega) (by omega) (by
        rw [e1, Int.add_zero, Int.add_emod_emod, show x + (j - x) = j by omega, Int.emod_eq_of_lt hj0 hj1]; exact hj)
      refine ⟨n', true, ⟨((j - x) % (2 * h)).toNat + 2, fun k hk => ?_⟩, ⟨((j - x) % (2 * h)).toNat + 2, fun k hk => ?_⟩, fun _ => ⟨hi, a1, by omega, a3, a4⟩⟩ <;> obtain ⟨k, rfl⟩ : ∃ m, k = m + 1 := ⟨k - 1, by omega⟩
      · simp only [spec_WaitForStrokes.j0]; exact (hr k (by omega)).1
      · simp only [impl_WaitForStrokes.j0]; exact (hr k (by omega)).2
    · simp only [decide_eq_false hs, Bool.not_false]
      refine ⟨0, false, ⟨1, fun k hk => ?_⟩, ⟨1, fun k hk => ?_⟩, by simp⟩ <;> obtain ⟨k, rfl⟩ : ∃ m, k = m + 1 := ⟨k - 1, by omega⟩ <;> rfl
  · simp only [decide_eq_false hi]
    refine ⟨0, false, ⟨1, fun k hk => ?_⟩, ⟨1, fun k hk => ?_⟩, by simp⟩ <;> obtain ⟨k, rfl⟩ : ∃ m, k = m + 1 := ⟨k - 1, by omega⟩ <;> rfl
theorem heard_both (h x n : Int) : ∃ xs b, (∀ k, 61 < k → spec_HeardFrom.f k h x n = some (xs, b) ∧ impl_HeardFrom.f k h x n = some (xs, b)) ∧ xs.length ≤ 60 ∧ (b = true → isH h x ∧ 0 ≤ n ∧ n ≤ 60 ∧ xs = heardL h x n.toNat) := by
  unfold spec_HeardFrom.f impl_HeardFrom.f
  simp only [stHalf_val, isHalf_val, l1In_val, within_val, Option.bind_some]
  by_cases hi : isH h x
  · simp only [decide_eq_true hi, if_true]
    by_cases hn : 1 ≤ n ∧ n ≤ 60
    · simp only [decide_eq_true hn, if_true]
      obtain ⟨hd, h0, hx⟩ := id hi
      obtain ⟨n, rfl⟩ := Int.eq_ofNat_of_zero_le (show 0 ≤ n by omega)
      refine ⟨heardL h x n, true, fun k hk => ?_, by rw [heardL_length]; omega, fun _ => ⟨hi, by omega, by omega, rfl⟩⟩
      rw [stFrom_val hd h0 (by omega) (by omega) k (by omega), heardFrom_val hd h0 (by omega) (by omega) k (by omega)]
      exact ⟨rfl, rfl⟩
    · simp only [decide_eq_false hn]
      exact ⟨[], false, fun k _ => ⟨rfl, rfl⟩, by simp, by simp⟩
  · simp only [decide_eq_false hi]
    exact ⟨[], false, fun k _ => ⟨rfl, rfl⟩, by simp, by simp⟩
/-- What is struck at n halves from x on. -/
def M (h : Int) (n x : Nat) : Int := S h (x + n) - S h x
/-- The first of the most so far. -/
def Inv (h : Int) (n x : Nat) (best most : Int) : Prop := (∀ y : Nat, y < x → M h n y ≤ most) ∧ (∀ y : Nat, (y : Int) < best → M h n y < most) ∧ ((x = 0 ∧ best = 0 ∧ most = 0) ∨ ∃ b : Nat, (b : Int) = best ∧ b < x ∧ M h n b = most)
theorem Inv.next {h : Int} {n x : Nat} {best most : Int} (hp : 0 < M h n x) (I : Inv h n x best most) : Inv h n (x + 1) (if M h n x > most then (x : Int) else best) (if M h n x > most then M h n x else most) := by
  obtain ⟨i1, i2, i3⟩ := I
  by_cases c : M h n x > most
  · rw [if_pos c, if_pos c]
    refine ⟨fun y hy => ?_, fun y hy => ?_, Or.inr ⟨x, rfl, by omega, rfl⟩⟩
    · by_cases e : y = x
      · rw [e]; omega
      · have := i1 y (by omega); omega
    · have := i1 y (by omega); omega
  · rw [if_neg c, if_neg c]
    refine ⟨fun y hy => ?_, i2, ?_⟩
    · by_cases e : y = x
      · rw [e]; omega
      · exact i1 y (by omega)
    · rcases i3 with ⟨a, b, d⟩ | ⟨b, e, f, g⟩
      · omega
      · exact Or.inr ⟨b, e, by omega, g⟩
theorem S_lt {h : Int} (hh : 2 ≤ h) (n : Nat) : S h n < S h (n + 1) := by
  show S h n < S h n + st h ((n : Int) % (2 * h))
  have := st_pos (h := h) (j := (n : Int) % (2 * h)) hh (Int.emod_nonneg _ (by omega))
  omega
theorem most_loop {h : Int} {n : Nat} (hd : 2 ≤ h ∧ h ≤ 24) (hn1 : 1 ≤ n) (hn : n ≤ 48) (d : Nat) : ∀ (best most : Int) (x : Nat), (x : Int) + d = 2 * h → Inv h n x best most →
    ∃ b2 m2, Inv h n (2 * h).toNat b2 m2 ∧ ∀ k, 60 * (d + 2) ≤ k → spec_MostInHalves.l0 k h n best most x = some (b2, m2, true) ∧ impl_MostInHalves.l0 k h n best most (2 * h) x = some (b2, m2, true) := by
  induction d with
  | zero =>
    intro best most x hx I
    refine ⟨best, most, by rwa [show (2 * h).toNat = x by omega], fun k hk => ?_⟩
    obtain ⟨k, rfl⟩ : ∃ m, k = m + 1 := ⟨k - 1, by omega⟩
    simp only [spec_MostInHalves.l0, impl_MostInHalves.l0]
    rw [wid (x := 2 * h) (by omega) (by omega), if_neg (by omega), if_neg (by omega)]
    exact ⟨rfl, rfl⟩
  | succ d ih =>
    intro best most x hx I
    have hs := S_from (h := h) x n
    have hb : ∀ y ∈ heardL h x n, 0 ≤ y ∧ y ≤ 100 := by
      intro y hy
      obtain ⟨i, _, rfl⟩ := List.mem_map.1 hy
      have hm : 0 ≤ ((x : Int) + i) % (2 * h) := Int.emod_nonneg _ (by omega)
      have hl : ((x : Int) + i) % (2 * h) < 2 * h := Int.emod_lt_of_pos _ (by omega)
      have p := st_pos (h := h) hd.1 hm
      have q := st_le (h := h) hd.1 hl
      omega
    have u1 := S_up hd x
    have u2 := S_up hd (x + n)
    have step : ∀ k r best' most', 60 * (d + 3) ≤ k + 1 → (if S h (x + n) - S h x > most then (x : Int) else best) = best' → (if S h (x + n) - S h x > most then S h (x + n) - S h x else most) = most' → (∀ k', 60 * (d + 2) ≤ k' → spec_MostInHalves.l0 k' h n best' most' ((x : Int) + 1) = some r ∧ impl_MostInHalves.l0 k' h n best' most' (2 * h) ((x : Int) + 1) = some r) →
        spec_MostInHalves.l0 (k + 1) h n best most x = some r ∧ impl_MostInHalves.l0 (k + 1) h n best most (2 * h) x = some r := by
      intro k r best' most' hk e1 e2 hr
      simp only [spec_MostInHalves.l0, impl_MostInHalves.l0]
      rw [wid (x := 2 * h) (by omega) (by omega), if_pos (by omega), if_pos (by omega), stFrom_val hd (by omega) (by omega) (by omega) k (by omega), wid (x := (x : Int) + n) (by omega) (by omega),
        ← Int.natCast_add, before_val hd (x + n) (by omega) k (by omega), before_val hd x (by omega) k (by omega)]
      simp only [Option.bind_some]
      obtain ⟨k2, rfl⟩ : ∃ m, k = m + n + 1 := ⟨k - n - 1, by omega⟩
      have hi := most_inner (h := h) (n := n) (best := best) (most := most) (half := x) (xs := heardL h x n) (by rw [heardL_length]; omega) hb (by omega) (by omega) n 0 k2 (by rw [heardL_length]; omega)
      rw [List.take_zero] at hi
      rw [show ((0 : Nat) : Int) = 0 from rfl] at hi
      rw [show (List.sum ([] : List Int)) = 0 from rfl, hs] at hi
      rw [hi, wid (x := S h (x + n) - S h x) (by omega) (by omega), wid (x := (x : Int) + 1) (by omega) (by omega)]
      by_cases hgt : S h (x + n) - S h x > most
      · rw [if_pos hgt] at e1 e2 ⊢
        rw [if_pos hgt]
        subst e1; subst e2
        exact ⟨(hr k2 (by omega)).1, (hr (k2 + n + 1) (by omega)).2⟩
      · rw [if_neg hgt] at e1 e2 ⊢
        rw [if_neg hgt]
        subst e1; subst e2
        exact ⟨(hr k2 (by omega)).1, (hr (k2 + n + 1) (by omega)).2⟩
    have hp : 0 < M h n x := by
      have g1 := S_mono hd.1 (n := x + 1) (m := x + n) (by omega)
      have g2 := S_lt hd.1 x
      unfold M; omega
    obtain ⟨b2, m2, J, hr⟩ := ih (if S h (x + n) - S h x > most then (x : Int) else best) (if S h (x + n) - S h x > most then S h (x + n) - S h x else most) (x + 1) (by omega) (I.next hp)
    refine ⟨b2, m2, J, fun k hk => ?_⟩
    obtain ⟨k, rfl⟩ : ∃ m, k = m + 1 := ⟨k - 1, by omega⟩
    exact step k (b2, m2, true) _ _ (by omega) rfl rfl hr
theorem most_both (h n : Int) : ∃ b2 m2 ok, Ev (fun k => spec_MostInHalves.f k h n) (b2, m2, ok) ∧ Ev (fun k => impl_MostInHalves.f k h n) (b2, m2, ok) ∧ (ok = true → (2 ≤ h ∧ h ≤ 24) ∧ 1 ≤ n ∧ n ≤ 48 ∧ Inv h n.toNat (2 * h).toNat b2 m2) := by
  have no : ∃ b2 m2 ok, Ev (fun k => spec_MostInHalves.j0 k h n true) (b2, m2, ok) ∧ Ev (fun k => impl_MostInHalves.j0 k h n true) (b2, m2, ok) ∧ (ok = true → (2 ≤ h ∧ h ≤ 24) ∧ 1 ≤ n ∧ n ≤ 48 ∧ Inv h n.toNat (2 * h).toNat b2 m2) := by
    refine ⟨0, 0, false, ⟨1, fun k hk => ?_⟩, ⟨1, fun k hk => ?_⟩, by simp⟩ <;> obtain ⟨k, rfl⟩ : ∃ m, k = m + 1 := ⟨k - 1, by omega⟩ <;> rfl
  unfold spec_MostInHalves.f impl_MostInHalves.f
  simp only [diHours_val, isDial_val, l1In_val, within_val, Option.bind_some]
  by_cases hd : 2 ≤ h ∧ h ≤ 24
  · simp only [decide_eq_true hd, if_true]
    rw [wid (x := 2 * h) (by omega) (by omega)]
    by_cases hn : 1 ≤ n ∧ n ≤ 2 * h
    · simp only [decide_eq_true hn, Bool.not_true]
      obtain ⟨n, rfl⟩ := Int.eq_ofNat_of_zero_le (show 0 ≤ n by omega)
      obtain ⟨b2, m2, I, hr⟩ := most_loop hd (n := n) (by omega) (by omega) (2 * h).toNat 0 0 0 (by omega) ⟨fun y hy => by omega, fun y hy => by omega, Or.inl ⟨rfl, rfl, rfl⟩⟩
      refine ⟨b2, m2, true, ⟨60 * ((2 * h).toNat + 2) + 1, fun k hk => ?_⟩, ⟨60 * ((2 * h).toNat + 2) + 1, fun k hk => ?_⟩, fun _ => ⟨hd, hn.1, by omega, I⟩⟩ <;> obtain ⟨k, rfl⟩ : ∃ m, k = m + 1 := ⟨k - 1, by omega⟩
      · simp only [spec_MostInHalves.j0]
        exact (hr k (by omega)).1
      · simp only [impl_MostInHalves.j0]
        rw [wid (x := 2 * h) (by omega) (by omega)]
        exact (hr k (by omega)).2
    · simp only [decide_eq_false hn, Bool.not_false]; exact no
  · simp only [decide_eq_false hd]; exact no
theorem at_both (h x : Int) : ∃ n ok, spec_StrokesAt.f h x = some (n, ok) ∧ impl_StrokesAt.f h x = some (n, ok) := by
  unfold spec_StrokesAt.f impl_StrokesAt.f
  rw [stHalf_val, isHalf_val]
  simp only [Option.bind_some]
  by_cases h1 : isH h x
  · obtain ⟨hd, h0, hx⟩ := id h1
    rw [stAt_val _ h0 (by omega), strokes_val hd h0, Int.emod_eq_of_lt h0 (by omega)]
    simp only [decide_eq_true h1, if_true, Option.bind_some]
    exact ⟨_, _, rfl, rfl⟩
  · simp only [decide_eq_false h1]
    exact ⟨_, _, rfl, rfl⟩
theorem iAt_val {h x : Int} (h1 : isH h x) : impl_StrokesAt.f h x = some (st h x, true) := by
  obtain ⟨hd, h0, hx⟩ := id h1
  unfold impl_StrokesAt.f
  rw [isHalf_val]
  simp only [Option.bind_some, decide_eq_true h1, if_true]
  rw [strokes_val hd h0, Int.emod_eq_of_lt h0 (by omega)]
  rfl
theorem iBetween_val {h : Int} {x n : Nat} (hd : 2 ≤ h ∧ h ≤ 24) (hx : x ≤ 100) (hn : 1 ≤ n) (hn' : n ≤ 48) (k : Nat) (hk : 52 ≤ k) : impl_StrokesBetween.f k h x ((x : Int) + n - 1) = some (M h n x, true) := by
  obtain ⟨k, rfl⟩ : ∃ m, k = m + 1 := ⟨k - 1, by omega⟩
  unfold impl_StrokesBetween.f
  simp only [isDial_val, within_val, Option.bind_some, decide_eq_true hd, if_true]
  have u1 := S_up hd x
  have u2 := S_up hd (x + n)
  have m1 := S_mono hd.1 (n := x) (m := x + n) (by omega)
  rw [if_pos (by simp only [decide_eq_true_eq]; omega), decide_eq_true (show 0 ≤ (x : Int) + n - 1 ∧ (x : Int) + n - 1 ≤ 1000000 by omega)]
  simp only [Bool.not_true, impl_StrokesBetween.j0, Bool.false_eq_true, if_false]
  have w1 : wrap64 ((x : Int) + n - 1 + 1) = ((x + n : Nat) : Int) := by rw [wid (x := (x : Int) + n - 1 + 1) (by omega) (by omega)]; omega
  rw [w1, before_val hd (x + n) (by omega) k (by omega), before_val hd x (by omega) k (by omega)]
  simp only [Option.bind_some]
  rw [wid (x := S h (x + n) - S h x) (by omega) (by omega)]
  show some (mx 0 (M h n x), true) = _
  have : 0 ≤ M h n x := by unfold M; omega
  unfold mx; split <;> simp <;> omega
theorem kSame_loop (xs : List Int) (hl : xs.length ≤ 1000) (d : Nat) : ∀ (i k : Nat), i + d = xs.length → d < k → laws_kSame.l0 k xs xs (xs.length : Int) i = some true := by
  induction d with
  | zero =>
    intro i k hi hk
    obtain ⟨k, rfl⟩ : ∃ m, k = m + 1 := ⟨k - 1, by omega⟩
    simp only [laws_kSame.l0]
    rw [if_neg (by omega)]
  | succ d ih =>
    intro i k hi hk
    obtain ⟨k, rfl⟩ : ∃ m, k = m + 1 := ⟨k - 1, by omega⟩
    simp only [laws_kSame.l0]
    rw [if_pos (by omega), if_pos (by omega), if_pos (by omega), if_pos (by omega), if_pos trivial, wid (x := (i : Int) + 1) (by omega) (by omega)]
    exact ih (i + 1) k (by omega) (by omega)
theorem kSame_refl (xs : List Int) (hl : xs.length ≤ 1000) (k : Nat) (hk : xs.length < k) : laws_kSame.f k xs xs = some true := by
  unfold laws_kSame.f
  rw [if_pos rfl]
  exact kSame_loop xs hl xs.length 0 k (by omega) hk
theorem l2_val {e n : Int} {from_ most : Int} (hd : 2 ≤ e ∧ e ≤ 24) (hn : 1 ≤ n) (hn' : n ≤ 48) (I : Inv e n.toNat (2 * e).toNat from_ most) (d : Nat) : ∀ (x k : Nat), (x : Int) + d = 2 * e → 60 + d ≤ k → laws_FnStrokesWaitedOfAll.l2 k e n from_ most x = some true := by
  obtain ⟨n, rfl⟩ := Int.eq_ofNat_of_zero_le (show 0 ≤ n by omega)
  obtain ⟨i1, i2, i3⟩ := id I
  induction d with
  | zero =>
    intro x k hx hk
    obtain ⟨k, rfl⟩ : ∃ m, k = m + 1 := ⟨k - 1, by omega⟩
    simp only [laws_FnStrokesWaitedOfAll.l2]
    rw [wid (x := 2 * e) (by omega) (by omega), if_neg (by omega)]
  | succ d ih =>
    intro x k hx hk
    obtain ⟨k, rfl⟩ : ∃ m, k = m + 1 := ⟨k - 1, by omega⟩
    have a1 := i1 x (by omega)
    simp only [Int.toNat_natCast] at a1 i2 i3
    have hr := ih (x + 1) k (by omega) (by omega)
    rw [show ((x + 1 : Nat) : Int) = (x : Int) + 1 from rfl] at hr
    simp only [laws_FnStrokesWaitedOfAll.l2]
    rw [wid (x := 2 * e) (by omega) (by omega), if_pos (by omega), wid (x := (x : Int) + n) (by omega) (by omega), wid (x := (x : Int) + n - 1) (by omega) (by omega), iBetween_val hd (by omega) (by omega) (by omega) k (by omega), wid (x := (x : Int) + 1) (by omega) (by omega)]
    simp only [Option.bind_some, if_true]
    rw [if_neg (show ¬ M e n x > most by omega)]
    rcases i3 with ⟨z, _⟩ | ⟨b, eb, lb, mb⟩
    · omega
    · subst eb
      by_cases c : (x : Int) < b
      · have := i2 x c
        rw [if_pos c, if_neg (show ¬ M e n x = most by omega), if_neg (by omega)]
        exact hr
      · rw [if_neg c]
        by_cases c2 : (x : Int) = b
        · obtain rfl : x = b := by omega
          rw [if_pos rfl, if_pos mb]; exact hr
        · rw [if_neg c2]; exact hr
theorem j5_val {e n from_ most : Int} {ok : Bool} (hm : ok = true → (2 ≤ e ∧ e ≤ 24) ∧ 1 ≤ n ∧ n ≤ 48 ∧ Inv e n.toNat (2 * e).toNat from_ most) (k : Nat) (hk : 120 ≤ k) : laws_FnStrokesWaitedOfAll.j5 k e n from_ most ok = some true := by
  obtain ⟨k, rfl⟩ : ∃ m, k = m + 1 := ⟨k - 1, by omega⟩
  simp only [laws_FnStrokesWaitedOfAll.j5]
  cases ok with
  | false => rfl
  | true =>
    obtain ⟨hd, a, b, I⟩ := hm rfl
    rw [if_pos rfl]
    exact l2_val hd a b I (2 * e).toNat 0 k (by omega) (by omega)
theorem rd_heard (h x : Int) (n i : Nat) (hi : i < n) : rd (heardL h x n) i = st h ((x + (i : Int)) % (2 * h)) := by
  unfold rd heardL
  rw [show (i : Int).toNat = i by omega, List.getD_eq_getElem?_getD, List.getElem?_eq_getElem (by simpa using hi)]
  simp
theorem l1_val {d x c e n from_ most : Int} {ok : Bool} (hi : isH d x) (c0 : 0 ≤ c) (c1 : c ≤ 60) (hm : ok = true → (2 ≤ e ∧ e ≤ 24) ∧ 1 ≤ n ∧ n ≤ 48 ∧ Inv e n.toNat (2 * e).toNat from_ most) (r : Nat) : ∀ (i k : Nat), i + r = c.toNat → 130 + r ≤ k →
    laws_FnStrokesWaitedOfAll.l1 k d x c e n (heardL d x c.toNat) from_ most ok (heardL d x c.toNat) ((heardL d x c.toNat).length : Int) i = some true := by
  obtain ⟨hd, h0, hx⟩ := id hi
  induction r with
  | zero =>
    intro i k hi' hk
    obtain ⟨k, rfl⟩ : ∃ m, k = m + 1 := ⟨k - 1, by omega⟩
    simp only [laws_FnStrokesWaitedOfAll.l1]
    rw [heardL_length, if_neg (by omega), if_pos (by omega)]
    exact j5_val hm k (by omega)
  | succ r ih =>
    intro i k hi' hk
    obtain ⟨k, rfl⟩ : ∃ m, k = m + 1 := ⟨k - 1, by omega⟩
    have hr := ih (i + 1) k (by omega) (by omega)
    rw [show ((i + 1 : Nat) : Int) = (i : Int) + 1 from rfl, heardL_length] at hr
    have hm0 : 0 ≤ (x + i) % (2 * d) := Int.emod_nonneg _ (by omega)
    have hl : (x + i) % (2 * d) < 2 * d := Int.emod_lt_of_pos _ (by omega)
    simp only [laws_FnStrokesWaitedOfAll.l1]
    rw [heardL_length, if_pos (by omega), if_pos (by omega), if_pos (by omega), wid (x := 2 * d) (by omega) (by omega), if_neg (by omega), wid (x := x + i) (by omega) (by omega), tmod_nn _ (by omega), iAt_val ⟨hd, hm0, by omega⟩]
    simp only [Option.bind_some, if_true]
    rw [rd_heard _ _ _ _ (by omega), if_pos rfl, wid (x := (i : Int) + 1) (by omega) (by omega)]
    exact hr
theorem j3_val {d x c e n from_ most : Int} {xs : List Int} {one ok : Bool} (h1 : one = true → isH d x ∧ 0 ≤ c ∧ c ≤ 60 ∧ xs = heardL d x c.toNat) (hm : ok = true → (2 ≤ e ∧ e ≤ 24) ∧ 1 ≤ n ∧ n ≤ 48 ∧ Inv e n.toNat (2 * e).toNat from_ most) (k : Nat) (hk : 200 ≤ k) :
    laws_FnStrokesWaitedOfAll.j3 k d x c e n xs one from_ most ok = some true := by
  obtain ⟨k, rfl⟩ : ∃ m, k = m + 1 := ⟨k - 1, by omega⟩
  simp only [laws_FnStrokesWaitedOfAll.j3]
  cases one with
  | false => exact j5_val hm k (by omega)
  | true =>
    obtain ⟨hi, a, b, rfl⟩ := h1 rfl
    rw [if_pos rfl]
    exact l1_val hi a b hm c.toNat 0 k (by omega) (by omega)
theorem l0_val {h y s w d x c e n from_ most : Int} {xs : List Int} {one ok : Bool} (hw : waits h y s w) (h1 : one = true → isH d x ∧ 0 ≤ c ∧ c ≤ 60 ∧ xs = heardL d x c.toNat) (hm : ok = true → (2 ≤ e ∧ e ≤ 24) ∧ 1 ≤ n ∧ n ≤ 48 ∧ Inv e n.toNat (2 * e).toNat from_ most) (r : Nat) : ∀ (i k : Nat), (i : Int) + r = w + 1 → 210 + 2 * r ≤ k →
    laws_FnStrokesWaitedOfAll.l0 k h y s d x c e n w xs one from_ most ok i = some true := by
  obtain ⟨⟨hd, h0, hx⟩, w0, w1, w2, w3⟩ := id hw
  induction r with
  | zero =>
    intro i k hi' hk
    obtain ⟨k, rfl⟩ : ∃ m, k = m + 1 := ⟨k - 1, by omega⟩
    simp only [laws_FnStrokesWaitedOfAll.l0]
    rw [if_neg (by omega)]
    exact j3_val h1 hm k (by omega)
  | succ r ih =>
    intro i k hi' hk
    obtain ⟨k, rfl⟩ : ∃ m, k = m + 1 + 1 := ⟨k - 2, by omega⟩
    have hr := ih (i + 1) k (by omega) (by omega)
    rw [show ((i + 1 : Nat) : Int) = (i : Int) + 1 from rfl] at hr
    have hm0 : 0 ≤ (y + i) % (2 * h) := Int.emod_nonneg _ (by omega)
    have hl : (y + i) % (2 * h) < 2 * h := Int.emod_lt_of_pos _ (by omega)
    have ee : ((st h ((y + i) % (2 * h)) == s) != ((i : Int) == w)) = false := by
      by_cases c : (i : Int) = w
      · rw [c, w2]; simp
      · have := w3 i (by omega) (by omega)
        rw [beq_eq_false_iff_ne.mpr this, beq_eq_false_iff_ne.mpr c]; rfl
    simp only [laws_FnStrokesWaitedOfAll.l0]
    rw [if_pos (by omega), wid (x := 2 * h) (by omega) (by omega), if_neg (by omega), wid (x := y + i) (by omega) (by omega), tmod_nn _ (by omega), iAt_val ⟨hd, hm0, by omega⟩]
    simp only [Option.bind_some, if_true]
    rw [ee]
    simp only [laws_FnStrokesWaitedOfAll.j2, Bool.false_eq_true, if_false]
    rw [wid (x := 2 * h) (by omega) (by omega), if_neg (by omega), wid (x := (i : Int) + 1) (by omega) (by omega)]
    exact hr
theorem FnStrokesWaitedOfAll : laws_FnStrokesWaitedOfAll.Pure := by
  intro h y s d x c e n a b _ _ _ _ _ _ _ _ _ _
  obtain ⟨w, okw, ⟨K1, p1⟩, ⟨K2, p2⟩, hw⟩ := wait_both h y s
  obtain ⟨xs, one, p3, hl, h1⟩ := heard_both d x c
  obtain ⟨b2, m2, ok, ⟨K3, p4⟩, ⟨K4, p5⟩, hm⟩ := most_both e n
  obtain ⟨v, ok6, p6, p7⟩ := at_both a b
  obtain ⟨K, hK⟩ : ∃ K, K1 ≤ K ∧ K2 ≤ K ∧ K3 ≤ K ∧ K4 ≤ K ∧ 400 ≤ K := ⟨K1 + K2 + K3 + K4 + 400, by omega⟩
  refine ⟨K + 1, ?_⟩
  have q1 := p1 (K + 1) (by omega)
  have q2 := p2 (K + 1) (by omega)
  have q4 := p4 (K + 1) (by omega)
  have q5 := p5 (K + 1) (by omega)
  dsimp only at q1 q2 q4 q5
  unfold laws_FnStrokesWaitedOfAll.f
  rw [q1, q2, (p3 (K + 1) (by omega)).1, (p3 (K + 1) (by omega)).2, q4, q5, p6, p7]
  simp only [Option.bind_some, bne_self_eq_false, Bool.false_eq_true, if_false, if_true]
  rw [kSame_refl xs (by omega) _ (by omega)]
  simp only [Option.bind_some, if_true, laws_FnStrokesWaitedOfAll.j0, Bool.false_eq_true, if_false]
  cases okw with
  | false => exact j3_val h1 hm K (by omega)
  | true =>
    rw [if_pos rfl]
    have W := hw rfl
    obtain ⟨⟨hd, _, _⟩, w0, w1, _⟩ := id W
    exact l0_val W h1 hm (w + 1).toNat 0 K (by omega) (by omega)

end Go.Proofs.Ytjjbockboifcbaa.Pure
