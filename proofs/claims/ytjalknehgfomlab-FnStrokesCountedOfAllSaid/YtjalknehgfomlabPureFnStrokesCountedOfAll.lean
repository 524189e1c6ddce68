/- Over all dials the counts of strokes are the reference's, and they add up; no condition. -/
import Derived.Test.YtjalknehgfomlabVFnStrokesCountedOfAll
import Derived.Test.YtjalknehgfomlabPFnStrokesCountedOfAllx9
set_option linter.unusedVariables false
set_option linter.unusedSimpArgs false
namespace Go.Proofs.Ytjalknehgfomlab.Pure
open Go.RowKit Go.Proofs.Ytjalknehgfomlab.PFnStrokesCountedOfAll Go.Proofs.YtjalknehgfomlabW.PrintWords Go.Proofs.YtjalknehgfomlabW.PrintLast Go.Proofs.YtjalknehgfomlabW.PrintMore

theorem l1In_val (a b c : Int) : spec_l1In.f a b c = some (decide (b ≤ a ∧ a ≤ c)) := by
  unfold spec_l1In.f
  by_cases h : a ≥ b
  · have e : (b ≤ a ∧ a ≤ c) ↔ a ≤ c := ⟨fun x => x.2, fun x => ⟨h, x⟩⟩
    rw [if_pos h, decide_eq_decide.mpr e]
  · rw [if_neg h, decide_eq_false (fun x => h x.1)]
theorem diHours_val (h : Int) : spec_diHours.f h = some (decide (2 ≤ h ∧ h ≤ 24)) := by
  unfold spec_diHours.f; rw [l1In_val]; rfl
def isH (h x : Int) : Prop := (2 ≤ h ∧ h ≤ 24) ∧ 0 ≤ x ∧ x ≤ 2 * h - 1
instance (h x : Int) : Decidable (isH h x) := by unfold isH; exact inferInstance
theorem stHalf_val (h x : Int) : spec_stHalf.f h x = some (decide (isH h x)) := by
  unfold spec_stHalf.f isH; rw [diHours_val]
  simp only [Option.bind_some]
  by_cases hd : 2 ≤ h ∧ h ≤ 24
  · simp only [decide_eq_true hd, if_true]
    rw [l1In_val, wid (x := 2 * h) (by omega) (by omega), wid (by omega) (by omega)]
    simp [hd]
  · simp only [decide_eq_false hd]
    simp [hd]
theorem isHalf_val (h x : Int) : impl_isHalf.f h x = some (decide (isH h x)) := by
  unfold impl_isHalf.f isH; rw [isDial_val]
  simp only [Option.bind_some]
  by_cases hd : 2 ≤ h ∧ h ≤ 24
  · simp only [decide_eq_true hd, if_true]
    rw [within_val, wid (x := 2 * h) (by omega) (by omega), wid (by omega) (by omega)]
    simp [hd]
  · simp only [decide_eq_false hd]
    simp [hd]
def st (h j : Int) : Int := if j % 2 = 1 then 1 else if j = 0 then h else j / 2
theorem st_pos {h j : Int} (hh : 2 ≤ h) (h0 : 0 ≤ j) : 1 ≤ st h j := by
  unfold st; split
  · omega
  · split <;> omega
theorem st_le {h j : Int} (hh : 2 ≤ h) (h1 : j < 2 * h) : st h j ≤ h := by
  unfold st; split
  · omega
  · split <;> omega
theorem stAt_val (h : Int) {j : Int} (h0 : 0 ≤ j) (h1 : j ≤ 4611686018427387904) : spec_stAt.f h j = some (st h j) := by
  unfold spec_stAt.f st
  rw [tmod_nn _ h0, tdiv_nn _ h0]
  split
  · rfl
  · split
    · rfl
    · rw [wid (by omega) (by omega)]
theorem strokes_val {h j : Int} (hd : 2 ≤ h ∧ h ≤ 24) (h0 : 0 ≤ j) : impl_strokes.f h j = some (st h (j % (2 * h))) := by
  have hw : wrap64 (2 * h) = 2 * h := wid (by omega) (by omega)
  have hm : 0 ≤ j % (2 * h) := Int.emod_nonneg _ (by omega)
  have hl : j % (2 * h) < 2 * h := Int.emod_lt_of_pos _ (by omega)
  unfold impl_strokes.f st
  rw [hw, tmod_nn _ h0, tmod_nn _ hm, tdiv_nn _ hm, if_neg (by omega)]
  by_cases h1 : j % (2 * h) = 0
  · rw [if_pos h1, h1]; simp
  · rw [if_neg h1]
    by_cases h2 : j % (2 * h) % 2 = 1
    · rw [if_pos h2, if_pos h2]
    · rw [if_neg h2, if_neg h2, if_neg h1, wid (by omega) (by omega)]
/-- The strokes at the first n halves. -/
def S (h : Int) : Nat → Int
  | 0 => 0
  | n + 1 => S h n + st h ((n : Int) % (2 * h))
def T (h : Int) : Int := h * (h + 1) / 2 + h
theorem S_le {h : Int} (hh : 2 ≤ h) (n : Nat) : ∀ m, S h n ≤ S h (n + m)
  | 0 => Int.le_refl _
  | m + 1 => by
    have h1 := S_le hh n m
    have h2 := st_pos hh (Int.emod_nonneg ((n + m : Nat) : Int) (show 2 * h ≠ 0 by omega))
    show S h n ≤ S h (n + m) + st h (((n + m : Nat) : Int) % (2 * h))
    omega
theorem S_mono {h : Int} (hh : 2 ≤ h) {n m : Nat} (hm : n ≤ m) : S h n ≤ S h m := by
  obtain ⟨d, rfl⟩ := Nat.exists_eq_add_of_le hm
  exact S_le hh n d
theorem S_up {h : Int} (hh : 2 ≤ h ∧ h ≤ 24) : ∀ n : Nat, 0 ≤ S h n ∧ S h n ≤ 24 * n
  | 0 => ⟨Int.le_refl _, Int.le_refl _⟩
  | n + 1 => by
    have h1 := S_up hh n
    have h2 := st_pos hh.1 (Int.emod_nonneg (n : Int) (show 2 * h ≠ 0 by omega))
    have h3 := st_le (j := (n : Int) % (2 * h)) hh.1 (Int.emod_lt_of_pos _ (by omega))
    show 0 ≤ S h n + _ ∧ S h n + st h ((n : Int) % (2 * h)) ≤ 24 * ((n + 1 : Nat) : Int)
    omega
theorem S_turn_all : ∀ x : Fin 25, 2 ≤ x.val → S (x.val : Int) (2 * x.val) = T (x.val : Int) := by decide +kernel
theorem S_turn {h : Int} (hh : 2 ≤ h ∧ h ≤ 24) {m : Nat} (hm : (m : Int) = 2 * h) : S h m = T h := by
  have := S_turn_all ⟨h.toNat, by omega⟩ (by show 2 ≤ h.toNat; omega)
  have e : ((h.toNat : Nat) : Int) = h := by omega
  have e2 : 2 * h.toNat = m := by omega
  simp only [e, e2] at this
  exact this
theorem S_add {h : Int} (hh : 2 ≤ h ∧ h ≤ 24) {m : Nat} (hm : (m : Int) = 2 * h) : ∀ n : Nat, S h (m + n) = T h + S h n
  | 0 => by rw [Nat.add_zero, S_turn hh hm]; show _ = T h + 0; omega
  | n + 1 => by
    show S h (m + n) + st h (((m + n : Nat) : Int) % (2 * h)) = T h + (S h n + st h ((n : Int) % (2 * h)))
    rw [S_add hh hm n]
    have e : ((m + n : Nat) : Int) % (2 * h) = (n : Int) % (2 * h) := by
      have : ((m + n : Nat) : Int) = (n : Int) + (2 * h) := by omega
      rw [this, Int.add_emod_right]
    rw [e]; omega
theorem S_mul {h : Int} (hh : 2 ≤ h ∧ h ≤ 24) {m : Nat} (hm : (m : Int) = 2 * h) (n : Nat) : ∀ q : Nat, S h (m * q + n) = T h * q + S h n
  | 0 => by simp
  | q + 1 => by
    have : m * (q + 1) + n = m + (m * q + n) := by rw [Nat.mul_succ]; omega
    rw [this, S_add hh hm, S_mul hh hm n q]
    have : T h * ((q + 1 : Nat) : Int) = T h * q + T h := by rw [show ((q + 1 : Nat) : Int) = (q : Int) + 1 from rfl, Int.mul_add, Int.mul_one]
    omega
theorem T_bd {h : Int} (hh : 2 ≤ h ∧ h ≤ 24) : 5 ≤ T h ∧ T h ≤ 324 := by
  unfold T
  have h1 : h * (h + 1) ≤ 24 * 25 := Int.mul_le_mul hh.2 (by omega) (by omega) (by omega)
  have h2 : 2 * 3 ≤ h * (h + 1) := Int.mul_le_mul hh.1 (by omega) (by omega) (by omega)
  omega
theorem T_wrap {h : Int} (hh : 2 ≤ h ∧ h ≤ 24) : wrap64 (wrap64 ((wrap64 (h * wrap64 (h + 1))).tdiv 2) + h) = T h := by
  have h1 : h * (h + 1) ≤ 24 * 25 := Int.mul_le_mul hh.2 (by omega) (by omega) (by omega)
  have h2 : 2 * 3 ≤ h * (h + 1) := Int.mul_le_mul hh.1 (by omega) (by omega) (by omega)
  rw [wid (x := h + 1) (by omega) (by omega), wid (x := h * (h + 1)) (by omega) (by omega), tdiv_nn _ (by omega), wid (x := h * (h + 1) / 2) (by omega) (by omega), wid (by omega) (by omega)]
  rfl
/-- A number of halves, by turns and the rest. -/
theorem S_split {h : Int} (hh : 2 ≤ h ∧ h ≤ 24) (n : Nat) : S h n = (n : Int) / (2 * h) * T h + S h (((n : Int) % (2 * h)).toNat) := by
  obtain ⟨m, hm⟩ : ∃ m : Nat, (m : Int) = 2 * h := ⟨(2 * h).toNat, by omega⟩
  have hq : 0 ≤ (n : Int) / (2 * h) := Int.ediv_nonneg (by omega) (by omega)
  have hr : 0 ≤ (n : Int) % (2 * h) := Int.emod_nonneg _ (by omega)
  have := S_mul hh hm ((n : Int) % (2 * h)).toNat ((n : Int) / (2 * h)).toNat
  have e : m * ((n : Int) / (2 * h)).toNat + ((n : Int) % (2 * h)).toNat = n := by
    have h1 := Int.mul_ediv_add_emod (n : Int) (2 * h)
    apply Int.ofNat.inj
    show ((m * ((n : Int) / (2 * h)).toNat + ((n : Int) % (2 * h)).toNat : Nat) : Int) = (n : Int)
    rw [Int.natCast_add, Int.natCast_mul, hm, Int.toNat_of_nonneg hq, Int.toNat_of_nonneg hr]
    exact h1
  rw [e, Int.toNat_of_nonneg hq, Int.mul_comm] at this
  exact this
theorem S_next {h : Int} (n : Nat) (hn : (n : Int) < 2 * h) : S h (n + 1) = S h n + st h (n : Int) := by
  have e : S h (n + 1) = S h n + st h ((n : Int) % (2 * h)) := rfl
  rwa [Int.emod_eq_of_lt (by omega) (by omega)] at e
theorem turns_bd {h X : Int} (hd : 2 ≤ h ∧ h ≤ 24) (hX : 0 ≤ X) (hX' : X ≤ 4000000000) : 0 ≤ X / (2 * h) * T h ∧ X / (2 * h) * T h ≤ 4000000000 * 324 := by
  have t := T_bd hd
  have q0 : 0 ≤ X / (2 * h) := Int.ediv_nonneg hX (by omega)
  have q1 : X / (2 * h) ≤ X := Int.ediv_le_self _ hX
  exact ⟨Int.mul_nonneg q0 (by omega), Int.mul_le_mul (by omega) t.2 (by omega) (by omega)⟩
theorem before_loop {h X : Int} (hd : 2 ≤ h ∧ h ≤ 24) (hX' : X < 2 * h) (d : Nat) : ∀ (n : Nat) (a : Int) (k : Nat), (n : Int) + d = X → 0 ≤ a → a + 24 * d ≤ 4000000000000 → d < k →
    impl_before.l0 k h a X n = some (a + (S h (n + d) - S h n)) := by
  induction d with
  | zero =>
    intro n a k hn h0 ha hk
    obtain ⟨k, rfl⟩ : ∃ m, k = m + 1 := ⟨k - 1, by omega⟩
    simp only [impl_before.l0]
    rw [if_neg (by omega)]
    simp
  | succ d ih =>
    intro n a k hn h0 ha hk
    obtain ⟨k, rfl⟩ : ∃ m, k = m + 1 := ⟨k - 1, by omega⟩
    have p := st_pos (h := h) (j := n) hd.1 (by omega)
    have q := st_le (h := h) (j := n) hd.1 (by omega)
    simp only [impl_before.l0]
    rw [if_pos (by omega), strokes_val hd (by omega), Int.emod_eq_of_lt (by omega) (by omega)]
    simp only [Option.bind_some]
    rw [wid (x := a + st h n) (by omega) (by omega), wid (x := (n : Int) + 1) (by omega) (by omega)]
    have := ih (n + 1) (a + st h n) k (by omega) (by omega) (by omega) (by omega)
    rw [show ((n + 1 : Nat) : Int) = (n : Int) + 1 from rfl] at this
    have e := S_next (h := h) n (by omega)
    rw [this, show n + 1 + d = n + (d + 1) by omega, e]; congr 1; omega
theorem before_val {h : Int} (hd : 2 ≤ h ∧ h ≤ 24) (n : Nat) (hn : n ≤ 4000000000) (k : Nat) (hk : 50 ≤ k) : impl_before.f k h n = some (S h n) := by
  have hr : 0 ≤ (n : Int) % (2 * h) := Int.emod_nonneg _ (by omega)
  have hl : (n : Int) % (2 * h) < 2 * h := Int.emod_lt_of_pos _ (by omega)
  have q0 : 0 ≤ (n : Int) / (2 * h) := Int.ediv_nonneg (by omega) (by omega)
  have q1 : (n : Int) / (2 * h) ≤ n := Int.ediv_le_self _ (by omega)
  have t := turns_bd hd (X := n) (by omega) (by omega)
  unfold impl_before.f impl_ofTurn.f
  rw [wid (x := 2 * h) (by omega) (by omega), if_neg (by omega), T_wrap hd]
  simp only [Option.bind_some]
  rw [tdiv_nn _ (by omega), tmod_nn _ (by omega), wid (x := (n : Int) / (2 * h)) (by omega) (by omega), wid (x := (n : Int) / (2 * h) * T h) (by omega) (by omega)]
  have := before_loop hd (X := (n : Int) % (2 * h)) (by omega) ((n : Int) % (2 * h)).toNat 0 ((n : Int) / (2 * h) * T h) k (by omega) (by omega) (by omega) (by omega)
  rw [Int.natCast_zero] at this
  rw [this, S_split hd n, Nat.zero_add]
  show some (_ + (_ - 0)) = _
  congr 1; omega
theorem before_val' {h x : Int} (hd : 2 ≤ h ∧ h ≤ 24) (h0 : 0 ≤ x) (hx : x ≤ 4000000000) (k : Nat) (hk : 50 ≤ k) : impl_before.f k h x = some (S h x.toNat) := by
  have := before_val hd x.toNat (by omega) k hk
  rwa [Int.toNat_of_nonneg h0] at this
theorem stUpTo_loop {h X : Int} (hd : 2 ≤ h ∧ h ≤ 24) (hX : 0 ≤ X) (hX' : X ≤ 4000000000) (d : Nat) : ∀ (n : Nat) (a : Int) (k : Nat), (n : Int) + d = X % (2 * h) → 0 ≤ a → a + 24 * d ≤ 4000000000000 → d < k →
    spec_stUpTo.l0 k h X a n = some (a + (S h (n + d) - S h n)) := by
  have hl : X % (2 * h) < 2 * h := Int.emod_lt_of_pos _ (by omega)
  induction d with
  | zero =>
    intro n a k hn h0 ha hk
    obtain ⟨k, rfl⟩ : ∃ m, k = m + 1 := ⟨k - 1, by omega⟩
    simp only [spec_stUpTo.l0]
    rw [wid (x := 2 * h) (by omega) (by omega), if_neg (by omega), tmod_nn _ hX, if_neg (by omega)]
    simp
  | succ d ih =>
    intro n a k hn h0 ha hk
    obtain ⟨k, rfl⟩ : ∃ m, k = m + 1 := ⟨k - 1, by omega⟩
    have p := st_pos (h := h) (j := n) hd.1 (by omega)
    have q := st_le (h := h) (j := n) hd.1 (by omega)
    simp only [spec_stUpTo.l0]
    rw [wid (x := 2 * h) (by omega) (by omega), if_neg (by omega), tmod_nn _ hX, if_pos (by omega), stAt_val _ (by omega) (by omega)]
    simp only [Option.bind_some]
    rw [wid (x := a + st h n) (by omega) (by omega), wid (x := (n : Int) + 1) (by omega) (by omega)]
    have := ih (n + 1) (a + st h n) k (by omega) (by omega) (by omega) (by omega)
    rw [show ((n + 1 : Nat) : Int) = (n : Int) + 1 from rfl] at this
    have e := S_next (h := h) n (by omega)
    rw [this, show n + 1 + d = n + (d + 1) by omega, e]; congr 1; omega
theorem stUpTo_val {h : Int} (hd : 2 ≤ h ∧ h ≤ 24) (n : Nat) (hn : n ≤ 4000000000) (k : Nat) (hk : 50 ≤ k) : spec_stUpTo.f k h n = some (S h n) := by
  have hr : 0 ≤ (n : Int) % (2 * h) := Int.emod_nonneg _ (by omega)
  have hl : (n : Int) % (2 * h) < 2 * h := Int.emod_lt_of_pos _ (by omega)
  have q0 : 0 ≤ (n : Int) / (2 * h) := Int.ediv_nonneg (by omega) (by omega)
  have q1 : (n : Int) / (2 * h) ≤ n := Int.ediv_le_self _ (by omega)
  have t := turns_bd hd (X := n) (by omega) (by omega)
  unfold spec_stUpTo.f spec_stTurn.f
  rw [wid (x := 2 * h) (by omega) (by omega), if_neg (by omega), T_wrap hd]
  simp only [Option.bind_some]
  rw [tdiv_nn _ (by omega), wid (x := (n : Int) / (2 * h)) (by omega) (by omega), wid (x := (n : Int) / (2 * h) * T h) (by omega) (by omega)]
  have := stUpTo_loop hd (X := n) (by omega) (by omega) ((n : Int) % (2 * h)).toNat 0 ((n : Int) / (2 * h) * T h) k (by omega) (by omega) (by omega) (by omega)
  rw [Int.natCast_zero] at this
  rw [this, S_split hd n, Nat.zero_add]
  show some (_ + (_ - 0)) = _
  congr 1; omega
/-- What is heard at n halves from x on. -/
def heardL (h x : Int) (n : Nat) : List Int := (List.range n).map fun (i : Nat) => st h ((x + (i : Int)) % (2 * h))
theorem heardL_length (h x : Int) (n : Nat) : (heardL h x n).length = n := by simp [heardL]
theorem heardL_succ (h x : Int) (n : Nat) : heardL h x (n + 1) = heardL h x n ++ [st h ((x + (n : Int)) % (2 * h))] := by
  simp [heardL, List.range_succ]
/-- The halves below m from which a list is heard. -/
def halvesL (h : Int) (xs : List Int) (m : Nat) : List Int := ((List.range m).filter fun (i : Nat) => decide (heardL h (i : Int) xs.length = xs)).map fun (i : Nat) => (i : Int)
theorem halvesL_succ (h : Int) (xs : List Int) (m : Nat) : halvesL h xs (m + 1) = if heardL h (m : Int) xs.length = xs then halvesL h xs m ++ [(m : Int)] else halvesL h xs m := by
  unfold halvesL
  rw [List.range_succ, List.filter_append, List.map_append]
  by_cases e : heardL h (m : Int) xs.length = xs
  · rw [if_pos e]; simp [e]
  · rw [if_neg e]; simp [e]
theorem halvesL_le (h : Int) (xs : List Int) (m : Nat) : (halvesL h xs m).length ≤ m := by
  unfold halvesL
  rw [List.length_map]
  exact Nat.le_trans (List.length_filter_le _ _) (by simp)
theorem heardFrom_loop {h x : Int} {n : Nat} (hd : 2 ≤ h ∧ h ≤ 24) (hx : 0 ≤ x) (hx' : x ≤ 1000000) (hn : n ≤ 1000) (d : Nat) : ∀ (i k : Nat), i + d = n → d < k →
    impl_heardFrom.l0 k h x (heardL h x i) n i = some (heardL h x n) := by
  induction d with
  | zero =>
    intro i k hi hk
    obtain ⟨k, rfl⟩ : ∃ m, k = m + 1 := ⟨k - 1, by omega⟩
    simp only [impl_heardFrom.l0]
    rw [if_neg (by omega), show i = n by omega]
  | succ d ih =>
    intro i k hi hk
    obtain ⟨k, rfl⟩ : ∃ m, k = m + 1 := ⟨k - 1, by omega⟩
    simp only [impl_heardFrom.l0]
    rw [if_pos (by omega), wid (x := x + i) (by omega) (by omega), strokes_val hd (by omega)]
    simp only [Option.bind_some]
    rw [heardL_length, if_pos (by omega), wid (x := (i : Int) + 1) (by omega) (by omega), ← heardL_succ]
    exact ih (i + 1) k (by omega) (by omega)
theorem heardFrom_val {h x : Int} {n : Nat} (hd : 2 ≤ h ∧ h ≤ 24) (hx : 0 ≤ x) (hx' : x ≤ 1000000) (hn : n ≤ 1000) (k : Nat) (hk : n < k) : impl_heardFrom.f k h x n = some (heardL h x n) :=
  heardFrom_loop hd hx hx' hn n 0 k (by omega) hk
theorem equalInt_loop (xs ys : List Int) (hl : xs.length ≤ 1000000000000) (he : xs.length = ys.length) (d : Nat) : ∀ (i k : Nat), i + d = xs.length → d < k → (xs.take i = ys.take i) → slices_Equal_int_int.l0 k xs ys (xs.length : Int) i = some (decide (xs = ys)) := by
  induction d with
  | zero =>
    intro i k hi hk ht
    obtain ⟨k, rfl⟩ : ∃ m, k = m + 1 := ⟨k - 1, by omega⟩
    simp only [slices_Equal_int_int.l0]
    rw [List.take_of_length_le (by omega), List.take_of_length_le (by omega)] at ht
    rw [if_neg (by omega), decide_eq_true ht]
  | succ d ih =>
    intro i k hi hk ht
    obtain ⟨k, rfl⟩ : ∃ m, k = m + 1 := ⟨k - 1, by omega⟩
    simp only [slices_Equal_int_int.l0]
    have hx : rd xs (i : Int) = xs[i]'(by omega) := by
      show xs.getD ((i : Int).toNat) 0 = _
      rw [show (i : Int).toNat = i by omega, List.getD_eq_getElem?_getD, List.getElem?_eq_getElem (by omega)]; rfl
    have hy : rd ys (i : Int) = ys[i]'(by omega) := by
      show ys.getD ((i : Int).toNat) 0 = _
      rw [show (i : Int).toNat = i by omega, List.getD_eq_getElem?_getD, List.getElem?_eq_getElem (by omega)]; rfl
    rw [if_pos (by omega), if_pos (by omega), if_pos (by omega), if_pos (by omega), hx, hy, wid (x := (i : Int) + 1) (by omega) (by omega)]
    by_cases e : xs[i]'(by omega) = ys[i]'(by omega)
    · rw [if_pos e]
      exact ih (i + 1) k (by omega) (by omega) (by rw [List.take_succ_eq_append_getElem (by omega), List.take_succ_eq_append_getElem (by omega), ht, e])
    · rw [if_neg e, decide_eq_false (fun h => e (by subst h; rfl))]
theorem equalInt_val (xs ys : List Int) (hl : xs.length ≤ 1000000000000) (k : Nat) (hk : xs.length < k) : slices_Equal_int_int.f k xs ys = some (decide (xs = ys)) := by
  unfold slices_Equal_int_int.f
  by_cases e : xs.length = ys.length
  · rw [if_pos (by omega)]
    exact equalInt_loop xs ys hl e xs.length 0 k (by omega) hk (by simp)
  · rw [if_neg (by omega), decide_eq_false (fun h => e (by rw [h]))]
theorem halvesOf_loop {h : Int} {xs : List Int} {n : Nat} (hd : 2 ≤ h ∧ h ≤ 24) (hn : (n : Int) = 2 * h) (hl : xs.length ≤ 1000) (d : Nat) : ∀ (i k : Nat), i + d = n → d + xs.length + 10 < k → impl_halvesOf.l0 k h xs (halvesL h xs i) n i = some (halvesL h xs n) := by
  induction d with
  | zero =>
    intro i k hi hk
    obtain ⟨k, rfl⟩ : ∃ m, k = m + 1 := ⟨k - 1, by omega⟩
    simp only [impl_halvesOf.l0]
    rw [if_neg (by omega), show i = n by omega]
  | succ d ih =>
    intro i k hi hk
    obtain ⟨k, rfl⟩ : ∃ m, k = m + 1 := ⟨k - 1, by omega⟩
    simp only [impl_halvesOf.l0]
    rw [if_pos (by omega), heardFrom_val hd (by omega) (by omega) hl k (by omega)]
    simp only [Option.bind_some]
    rw [equalInt_val _ _ (by rw [heardL_length]; omega) k (by rw [heardL_length]; omega)]
    simp only [Option.bind_some]
    rw [wid (x := (i : Int) + 1) (by omega) (by omega), if_pos (show (halvesL h xs i).length < 17592186044416 by have := halvesL_le h xs i; omega)]
    have := ih (i + 1) k (by omega) (by omega)
    rw [halvesL_succ] at this
    by_cases e : heardL h (i : Int) xs.length = xs
    · rw [if_pos e] at this
      rw [decide_eq_true e, if_pos rfl]; exact this
    · rw [if_neg e] at this
      rw [decide_eq_false e, if_neg (by simp)]; exact this
theorem halvesOf_val {h : Int} {xs : List Int} (hd : 2 ≤ h ∧ h ≤ 24) (hl : xs.length ≤ 1000) (k : Nat) (hk : xs.length + 70 < k) : impl_halvesOf.f k h xs = some (halvesL h xs (2 * h).toNat) := by
  unfold impl_halvesOf.f
  rw [wid (x := 2 * h) (by omega) (by omega)]
  have := halvesOf_loop hd (show (((2 * h).toNat : Nat) : Int) = 2 * h by omega) hl (2 * h).toNat 0 k (by omega) (by omega)
  rwa [show (((2 * h).toNat : Nat) : Int) = 2 * h by omega] at this
/-- Two functions that come to the same: the law over them. -/
theorem same_ib {g f : Nat → Option (Int × Bool)} {v : Int × Bool} (hg : Ev g v) (hf : Ev f v) :
    ∃ k, ((g k).bind fun b => ((f k).bind fun c => (if c.1 = b.1 then (if (c.2 != b.2) = true then (some false) else (some true)) else (some false)))) = some true := by
  obtain ⟨K, h1⟩ := hg
  obtain ⟨K', h2⟩ := hf
  refine ⟨max K K', ?_⟩
  rw [h1 _ (by omega), h2 _ (by omega)]
  simp
theorem same_iib {g f : Nat → Option (Int × Int × Bool)} {v : Int × Int × Bool} (hg : Ev g v) (hf : Ev f v) :
    ∃ k, ((g k).bind fun b => ((f k).bind fun c => (if c.1 = b.1 then (if c.2.1 = b.2.1 then (if (c.2.2 != b.2.2) = true then (some false) else (some true)) else (some false)) else (some false)))) = some true := by
  obtain ⟨K, h1⟩ := hg
  obtain ⟨K', h2⟩ := hf
  refine ⟨max K K', ?_⟩
  rw [h1 _ (by omega), h2 _ (by omega)]
  simp
theorem Ev.mk {α : Type} {g : Nat → Option α} {r : α} (K : Nat) (h : ∀ k, K ≤ k → g k = some r) : Ev g r := ⟨K, h⟩
/-- Both searches, told as one: at which half the n-th stroke is struck (from half x on), and where the wheel stands. -/
def numL (h : Int) : Nat → Int → Int → Option Int
  | 0, _, _ => none
  | k + 1, n, x => if n > st h (x % (2 * h)) then numL h k (n - st h (x % (2 * h))) (x + 1) else some x
def wheL (h : Int) : Nat → Int → Int → Option Int
  | 0, _, _ => none
  | k + 1, l, x => if l > 0 then wheL h k (l - st h ((x + 1) % (2 * h))) ((x + 1) % (2 * h)) else some x
theorem num_loop {h : Int} (hd : 2 ≤ h ∧ h ≤ 24) (k : Nat) : ∀ (n x r : Int), 1 ≤ n → n ≤ 4000 → 0 ≤ x → x + k ≤ 400000000000 → numL h k n x = some r →
    ∃ m, impl_strokeNumber.l0 k h n x = some (r, m) := by
  induction k with
  | zero => intro n x r _ _ _ _ h; simp [numL] at h
  | succ k ih =>
    intro n x r h1 h2 h3 h4 H
    have hm : 0 ≤ x % (2 * h) := Int.emod_nonneg _ (by omega)
    have hl : x % (2 * h) < 2 * h := Int.emod_lt_of_pos _ (by omega)
    have p := st_pos (h := h) (j := x % (2 * h)) hd.1 hm
    have q := st_le (h := h) (j := x % (2 * h)) hd.1 hl
    simp only [numL] at H
    simp only [impl_strokeNumber.l0]
    rw [strokes_val hd h3]
    simp only [Option.bind_some]
    by_cases hgt : n > st h (x % (2 * h))
    · rw [if_pos hgt] at H
      simp only [if_pos hgt]
      rw [wid (x := n - st h (x % (2 * h))) (by omega) (by omega), wid (x := x + 1) (by omega) (by omega)]
      exact ih _ _ _ (by omega) (by omega) (by omega) (by omega) H
    · rw [if_neg hgt] at H
      injection H with H
      simp only [if_neg hgt]
      exact ⟨n, by rw [H]⟩
theorem whe_loop {h : Int} (hd : 2 ≤ h ∧ h ≤ 24) (k : Nat) : ∀ (l x r : Int), -100 ≤ l → l ≤ 4000 → 0 ≤ x → x ≤ 100 → wheL h k l x = some r →
    spec_HalfOfWheel.l0 k h x l = some (r, true) := by
  induction k with
  | zero => intro n x r _ _ _ _ h; simp [wheL] at h
  | succ k ih =>
    intro l x r h1 h2 h3 h4 H
    have hm : 0 ≤ (x + 1) % (2 * h) := Int.emod_nonneg _ (by omega)
    have hl : (x + 1) % (2 * h) < 2 * h := Int.emod_lt_of_pos _ (by omega)
    have p := st_pos (h := h) (j := (x + 1) % (2 * h)) hd.1 hm
    have q := st_le (h := h) (j := (x + 1) % (2 * h)) hd.1 hl
    simp only [wheL] at H
    simp only [spec_HalfOfWheel.l0]
    by_cases hgt : l > 0
    · rw [if_pos hgt] at H
      rw [if_pos hgt, wid (x := 2 * h) (by omega) (by omega), if_neg (by omega), wid (x := x + 1) (by omega) (by omega), tmod_nn _ (by omega), stAt_val _ hm (by omega)]
      simp only [Option.bind_some]
      rw [wid (x := l - st h ((x + 1) % (2 * h))) (by omega) (by omega)]
      exact ih _ _ _ (by omega) (by omega) (by omega) (by omega) H
    · rw [if_neg hgt] at H
      injection H with H
      rw [if_neg hgt, H]
/-- Whole turns ahead change nothing but the half's number. -/
theorem num_turns {h : Int} (hd : 2 ≤ h ∧ h ≤ 24) (q : Int) (k : Nat) : ∀ (n x r : Int), numL h k n x = some r → numL h k n (q * (2 * h) + x) = some (q * (2 * h) + r) := by
  induction k with
  | zero => intro n x r h; simp [numL] at h
  | succ k ih =>
    intro n x r H
    have e : (q * (2 * h) + x) % (2 * h) = x % (2 * h) := by rw [Int.add_comm, Int.add_mul_emod_self_right]
    simp only [numL] at H ⊢
    rw [e]
    by_cases hgt : n > st h (x % (2 * h))
    · rw [if_pos hgt] at H ⊢
      rw [show q * (2 * h) + x + 1 = q * (2 * h) + (x + 1) by omega]
      exact ih _ _ _ H
    · rw [if_neg hgt] at H ⊢
      injection H with H
      rw [H]
/-- At each number of strokes within a turn both come to one half. -/
def alike (h s : Nat) : Bool :=
  match wheL h 60 s 0, numL h 60 (((h : Int) + s - 1) % T h + 1) 0 with
  | some a, some b => decide (a = b % (2 * h))
  | _, _ => false
theorem alike_all : ∀ h : Fin 25, 2 ≤ h.val → ∀ s : Fin 324, (s.val : Int) < T h.val → alike h.val s.val = true := by decide +kernel
theorem alike_at {h s : Int} (hd : 2 ≤ h ∧ h ≤ 24) (s0 : 0 ≤ s) (s1 : s < T h) : ∃ a b, wheL h 60 s 0 = some a ∧ numL h 60 ((h + s - 1) % T h + 1) 0 = some b ∧ a = b % (2 * h) := by
  have t := T_bd hd
  have eh : ((h.toNat : Nat) : Int) = h := by omega
  have es : ((s.toNat : Nat) : Int) = s := by omega
  have H := alike_all ⟨h.toNat, by omega⟩ (by show 2 ≤ h.toNat; omega) ⟨s.toNat, by omega⟩ (by show ((s.toNat : Nat) : Int) < T ((h.toNat : Nat) : Int); rw [eh, es]; exact s1)
  unfold alike at H
  simp only [eh, es] at H
  split at H
  · rename_i a b e1 e2
    exact ⟨a, b, e1, e2, of_decide_eq_true H⟩
  · cases H
theorem wheel_both (h n : Int) : ∃ v, (∀ k, 62 ≤ k → spec_HalfOfWheel.f k h n = some v) ∧ (∀ k, 62 ≤ k → impl_HalfOfWheel.f k h n = some v) := by
  have no : ∀ k, 62 ≤ k → spec_HalfOfWheel.j0 k h n true = some (0, false) := by
    intro k hk; obtain ⟨k, rfl⟩ : ∃ m, k = m + 1 := ⟨k - 1, by omega⟩; rfl
  unfold spec_HalfOfWheel.f impl_HalfOfWheel.f impl_strokeNumber.f impl_ofTurn.f
  simp only [diHours_val, isDial_val, l1In_val, within_val, Option.bind_some]
  by_cases hd : 2 ≤ h ∧ h ≤ 24
  · simp only [decide_eq_true hd, if_true]
    by_cases hn : 0 ≤ n ∧ n ≤ 1000000000
    · simp only [decide_eq_true hn, Bool.not_true, if_true]
      have t := T_bd hd
      simp only [T_wrap hd]
      have q0 : 0 ≤ (h + n - 1) / T h := Int.ediv_nonneg (by omega) (by omega)
      have q1 : (h + n - 1) / T h ≤ h + n - 1 := Int.ediv_le_self _ (by omega)
      have m0 : 0 ≤ (h + n - 1) % T h := Int.emod_nonneg _ (by omega)
      have m1 : (h + n - 1) % T h < T h := Int.emod_lt_of_pos _ (by omega)
      have s0 : 0 ≤ n % T h := Int.emod_nonneg _ (by omega)
      have s1 : n % T h < T h := Int.emod_lt_of_pos _ (by omega)
      have x0 : 0 ≤ (h + n - 1) / T h * 2 * h := Int.mul_nonneg (by omega) (by omega)
      have x1 : (h + n - 1) / T h * 2 * h ≤ (2000000000 * 2) * 24 := Int.mul_le_mul (by omega) hd.2 (by omega) (by omega)
      obtain ⟨a, b, ha, hb, hab⟩ := alike_at hd s0 s1
      have em : (h + n % T h - 1) % T h = (h + n - 1) % T h := by
        rw [show h + n % T h - 1 = n % T h + (h - 1) by omega, Int.emod_add_emod, show n + (h - 1) = h + n - 1 by omega]
      rw [em] at hb
      have hb2 := num_turns hd ((h + n - 1) / T h) 60 _ _ _ hb
      rw [Int.add_zero, ← Int.mul_assoc] at hb2
      obtain ⟨m, hb3⟩ := num_loop hd 60 _ _ _ (by omega) (by omega) (by omega) (by omega) hb2
      have hw := whe_loop hd 60 _ _ _ (by omega) (by omega) (by omega) (by omega) ha
      have b0 : 0 ≤ b := by
        rcases Int.lt_or_le b 0 with hlt | hle
        · exfalso
          have mono : ∀ (k : Nat) (n x r : Int), numL h k n x = some r → x ≤ r := by
            intro k
            induction k with
            | zero => intro n x r h; simp [numL] at h
            | succ k ih =>
              intro n x r H
              simp only [numL] at H
              split at H
              · have := ih _ _ _ H; omega
              · injection H with H; omega
          have := mono _ _ _ _ hb
          omega
        · exact hle
      have eb : ((h + n - 1) / T h * 2 * h + b) % (2 * h) = a := by
        rw [hab, Int.mul_assoc, Int.add_comm, Int.add_mul_emod_self_right]
      refine ⟨(a, true), fun k hk => ?_, fun k hk => ?_⟩
      · obtain ⟨k, rfl⟩ : ∃ m, k = m + 1 := ⟨k - 1, by omega⟩
        simp only [spec_HalfOfWheel.j0, spec_stTurn.f, T_wrap hd, Option.bind_some]
        rw [if_neg (by simp), if_neg (by omega), tmod_nn _ hn.1]
        exact at_rounds (g := fun k => spec_HalfOfWheel.l0 k h 0 (n % T h)) (fun k => (spec_HalfOfWheel.mono_l k).2 _ _ _) (show 60 ≤ k by omega) hw
      · try dsimp only
        rw [if_neg (by omega)]
        try rw [if_neg (show ¬ T h = 0 by omega)]
        rw [wid (x := h + n) (by omega) (by omega), wid (x := h + n - 1) (by omega) (by omega), tdiv_nn _ (by omega), tmod_nn _ (by omega), wid (x := (h + n - 1) / T h) (by omega) (by omega), wid (x := (h + n - 1) / T h * 2) (by omega) (by omega), wid (x := (h + n - 1) / T h * 2 * h) (by omega) (by omega), wid (x := (h + n - 1) % T h + 1) (by omega) (by omega)]
        have hk2 := at_rounds (g := fun k => impl_strokeNumber.l0 k h ((h + n - 1) % T h + 1) ((h + n - 1) / T h * 2 * h)) (fun k => impl_strokeNumber.mono_l k _ _ _) (show 60 ≤ k by omega) hb3
        rw [hk2]
        simp only [Option.bind_some]
        rw [wid (x := 2 * h) (by omega) (by omega), if_neg (by omega), tmod_nn _ (by omega), eb]
    · simp only [decide_eq_false hn, Bool.not_false]
      exact ⟨_, no, fun k _ => by simp⟩
  · simp only [decide_eq_false hd]
    exact ⟨_, no, fun k _ => by simp⟩
/-- One more turn back than there are halves changes nothing. -/
theorem stepsBack_val {h x y : Int} (hx : isH h x) (hy : isH h y) : impl_stepsBack.f h x y = some ((x - y) % (2 * h)) := by
  obtain ⟨hd, x0, x1⟩ := hx
  obtain ⟨_, y0, y1⟩ := hy
  unfold impl_stepsBack.f
  rw [wid (x := 2 * h) (by omega) (by omega), if_neg (by omega), wid (x := x - y) (by omega) (by omega), wid (x := x - y + 2 * h) (by omega) (by omega), tmod_nn _ (by omega), Int.add_emod_right]
theorem S_step {h : Int} (n : Nat) : S h (n + 1) = S h n + st h ((n : Int) % (2 * h)) := rfl
theorem mend_loop {h x : Int} (hx : isH h x) (d : Nat) : ∀ (y : Int) (a : Int) (n : Nat) (k : Nat), isH h y → (n : Int) % (2 * h) = y → (x - y) % (2 * h) = d → 0 ≤ a → a + 24 * d ≤ 4000 → d < k →
    spec_StrokesToMend.l0 k h x y a = some (a + (S h (n + 1 + d) - S h (n + 1)), true) := by
  obtain ⟨hd, x0, x1⟩ := hx
  induction d with
  | zero =>
    intro y a n k hy hn he h0 ha hk
    obtain ⟨k, rfl⟩ : ∃ m, k = m + 1 := ⟨k - 1, by omega⟩
    obtain ⟨_, y0, y1⟩ := hy
    have e : x = y := by
      rcases Int.lt_or_le (x - y) 0 with hlt | hle
      · have : (x - y) % (2 * h) = x - y + 2 * h := by
          rw [← Int.add_emod_right, Int.emod_eq_of_lt (by omega) (by omega)]
        omega
      · rw [Int.emod_eq_of_lt (by omega) (by omega)] at he; omega
    simp only [spec_StrokesToMend.l0]
    rw [if_pos e.symm]
    simp
  | succ d ih =>
    intro y a n k hy hn he h0 ha hk
    obtain ⟨k, rfl⟩ : ∃ m, k = m + 1 := ⟨k - 1, by omega⟩
    obtain ⟨_, y0, y1⟩ := hy
    have ne : ¬ y = x := by
      rintro rfl
      rw [Int.sub_self, Int.zero_emod] at he
      omega
    have hm : 0 ≤ (y + 1) % (2 * h) := Int.emod_nonneg _ (by omega)
    have hl : (y + 1) % (2 * h) < 2 * h := Int.emod_lt_of_pos _ (by omega)
    have en : (((n + 1 : Nat) : Int)) % (2 * h) = (y + 1) % (2 * h) := by
      rw [← hn, show ((n + 1 : Nat) : Int) = (n : Int) + 1 from rfl, Int.emod_add_emod]
    have p := st_pos (h := h) (j := (y + 1) % (2 * h)) hd.1 hm
    have q := st_le (h := h) (j := (y + 1) % (2 * h)) hd.1 hl
    have ed : (x - (y + 1) % (2 * h)) % (2 * h) = d := by
      rw [Int.sub_emod_emod, show x - (y + 1) = (x - y) - 1 by omega, ← Int.emod_sub_emod, he, show ((d + 1 : Nat) : Int) - 1 = d by omega]
      have h3 : (x - y) % (2 * h) < 2 * h := Int.emod_lt_of_pos _ (by omega)
      exact Int.emod_eq_of_lt (by omega) (by omega)
    simp only [spec_StrokesToMend.l0]
    rw [if_neg ne, wid (x := 2 * h) (by omega) (by omega), if_neg (by omega), wid (x := y + 1) (by omega) (by omega), tmod_nn _ (by omega), stAt_val _ hm (by omega)]
    simp only [Option.bind_some]
    rw [wid (x := a + st h ((y + 1) % (2 * h))) (by omega) (by omega), ih ((y + 1) % (2 * h)) (a + st h ((y + 1) % (2 * h))) (n + 1) k ⟨hd, hm, by omega⟩ en ed (by omega) (by omega) (by omega)]
    rw [S_step (n + 1), en, show n + 1 + 1 + d = n + 1 + (d + 1) by omega]
    congr 2; omega
theorem mend_both (h x y : Int) : ∃ v, (∀ k, 100 ≤ k → spec_StrokesToMend.f k h x y = some v) ∧ (∀ k, 100 ≤ k → impl_StrokesToMend.f k h x y = some v) ∧ v = (if isH h x ∧ isH h y then (S h (y + (x - y) % (2 * h) + 1).toNat - S h (y + 1).toNat, true) else (0, false)) := by
  have no : ∀ k, 100 ≤ k → spec_StrokesToMend.j0 k h x y true = some (0, false) := by
    intro k hk; obtain ⟨k, rfl⟩ : ∃ m, k = m + 1 := ⟨k - 1, by omega⟩; rfl
  unfold spec_StrokesToMend.f impl_StrokesToMend.f impl_StepsBack.f
  simp only [stHalf_val, isHalf_val, Option.bind_some]
  by_cases hx : isH h x
  · simp only [decide_eq_true hx, if_true]
    by_cases hy : isH h y
    · simp only [decide_eq_true hy, Bool.not_true, if_true, stepsBack_val hx hy, Option.bind_some]
      obtain ⟨hd, y0, y1⟩ := id hy
      have hm : 0 ≤ (x - y) % (2 * h) := Int.emod_nonneg _ (by omega)
      have hl : (x - y) % (2 * h) < 2 * h := Int.emod_lt_of_pos _ (by omega)
      have u1 := S_up hd (y + (x - y) % (2 * h) + 1).toNat
      have u2 := S_up hd (y + 1).toNat
      refine ⟨(S h (y + (x - y) % (2 * h) + 1).toNat - S h (y + 1).toNat, true), fun k hk => ?_, fun k hk => ?_, (if_pos ⟨hx, hy⟩).symm⟩
      · obtain ⟨k, rfl⟩ : ∃ m, k = m + 1 := ⟨k - 1, by omega⟩
        simp only [spec_StrokesToMend.j0]
        rw [if_neg (by simp), mend_loop hx ((x - y) % (2 * h)).toNat y 0 y.toNat k hy (by rw [Int.toNat_of_nonneg y0, Int.emod_eq_of_lt y0 (by omega)]) (by omega) (by omega) (by omega) (by omega)]
        rw [show y.toNat + 1 + ((x - y) % (2 * h)).toNat = (y + (x - y) % (2 * h) + 1).toNat by omega, show y.toNat + 1 = (y + 1).toNat by omega]
        congr 2; omega
      · rw [wid (x := y + (x - y) % (2 * h)) (by omega) (by omega), wid (x := y + (x - y) % (2 * h) + 1) (by omega) (by omega), wid (x := y + 1) (by omega) (by omega)]
        show ((impl_before.f k h (y + (x - y) % (2 * h) + 1)).bind fun t117 => (impl_before.f k h (y + 1)).bind fun t118 => some (wrap64 (t117 - t118), true)) = _
        rw [before_val' hd (by omega) (by omega) k (by omega), before_val' hd (by omega) (by omega) k (by omega)]
        simp only [Option.bind_some]
        rw [wid (x := S h (y + (x - y) % (2 * h) + 1).toNat - S h (y + 1).toNat) (by omega) (by omega)]
    · simp only [decide_eq_false hy, Bool.not_false]
      exact ⟨_, no, fun k _ => by simp, (if_neg fun c => hy c.2).symm⟩
  · simp only [decide_eq_false hx]
    exact ⟨_, no, fun k _ => by simp, (if_neg fun c => hx c.1).symm⟩
/-- What is told of the strokes between two halves. -/
def isB (h x y : Int) : Prop := (2 ≤ h ∧ h ≤ 24) ∧ (0 ≤ x ∧ x ≤ 1000000) ∧ 0 ≤ y ∧ y ≤ 1000000
instance (h x y : Int) : Decidable (isB h x y) := by unfold isB; infer_instance
def bv (h x y : Int) : Int := if y < x then 0 else S h (y + 1).toNat - S h x.toNat
theorem iBetween_yes {h x y : Int} (q : isB h x y) (k : Nat) (hk : 51 ≤ k) : impl_StrokesBetween.f k h x y = some (bv h x y, true) := by
  obtain ⟨hd, hx, hy⟩ := q
  obtain ⟨k, rfl⟩ : ∃ m, k = m + 1 := ⟨k - 1, by omega⟩
  obtain ⟨m, rfl⟩ := Int.eq_ofNat_of_zero_le hx.1
  obtain ⟨n, rfl⟩ := Int.eq_ofNat_of_zero_le hy.1
  have u1 := S_up hd m
  have u2 := S_up hd (n + 1)
  have w1 : wrap64 ((n : Int) + 1) = ((n + 1 : Nat) : Int) := wid (by omega) (by omega)
  unfold impl_StrokesBetween.f bv
  simp only [isDial_val, within_val, Option.bind_some, decide_eq_true hd, decide_eq_true hx, decide_eq_true hy, if_true, Bool.not_true, impl_StrokesBetween.j0, Bool.false_eq_true, if_false]
  rw [w1, before_val hd (n + 1) (by omega) k (by omega), before_val hd m (by omega) k (by omega)]
  simp only [Option.bind_some]
  rw [wid (x := S h (n + 1) - S h m) (by omega) (by omega), show ((n : Int) + 1).toNat = n + 1 by omega, show (m : Int).toNat = m by omega]
  by_cases hlt : (n : Int) < m
  · have := S_mono hd.1 (n := n + 1) (m := m) (by omega)
    rw [if_pos hlt]
    unfold mx; split <;> simp <;> omega
  · have := S_mono hd.1 (n := m) (m := n + 1) (by omega)
    rw [if_neg hlt]
    unfold mx; split <;> simp <;> omega
theorem sBetween_yes {h x y : Int} (q : isB h x y) (k : Nat) (hk : 51 ≤ k) : spec_StrokesBetween.f k h x y = some (bv h x y, true) := by
  obtain ⟨hd, hx, hy⟩ := q
  obtain ⟨k, rfl⟩ : ∃ m, k = m + 1 := ⟨k - 1, by omega⟩
  obtain ⟨m, rfl⟩ := Int.eq_ofNat_of_zero_le hx.1
  obtain ⟨n, rfl⟩ := Int.eq_ofNat_of_zero_le hy.1
  have u1 := S_up hd m
  have u2 := S_up hd (n + 1)
  have w1 : wrap64 ((n : Int) + 1) = ((n + 1 : Nat) : Int) := wid (by omega) (by omega)
  unfold spec_StrokesBetween.f bv
  simp only [diHours_val, l1In_val, Option.bind_some, decide_eq_true hd, decide_eq_true hx, decide_eq_true hy, if_true, Bool.not_true, spec_StrokesBetween.j0, Bool.false_eq_true, if_false]
  rw [show ((n : Int) + 1).toNat = n + 1 by omega, show (m : Int).toNat = m by omega]
  by_cases hlt : (n : Int) < m
  · rw [if_pos hlt, if_pos hlt]
  · rw [if_neg hlt, if_neg hlt, w1, stUpTo_val hd (n + 1) (by omega) k (by omega), stUpTo_val hd m (by omega) k (by omega)]
    simp only [Option.bind_some]
    rw [wid (x := S h (n + 1) - S h m) (by omega) (by omega)]
theorem between_no {h x y : Int} (q : ¬ isB h x y) (k : Nat) (hk : 51 ≤ k) : impl_StrokesBetween.f k h x y = some (0, false) ∧ spec_StrokesBetween.f k h x y = some (0, false) := by
  obtain ⟨k, rfl⟩ : ∃ m, k = m + 1 := ⟨k - 1, by omega⟩
  unfold impl_StrokesBetween.f spec_StrokesBetween.f
  simp only [isDial_val, within_val, diHours_val, l1In_val, Option.bind_some]
  by_cases hd : 2 ≤ h ∧ h ≤ 24
  · simp only [decide_eq_true hd, if_true]
    by_cases hx : 0 ≤ x ∧ x ≤ 1000000
    · simp only [decide_eq_true hx, if_true]
      have hy : ¬ (0 ≤ y ∧ y ≤ 1000000) := fun c => q ⟨hd, hx, c⟩
      simp only [decide_eq_false hy, Bool.not_false]
      exact ⟨rfl, rfl⟩
    · simp only [decide_eq_false hx]; exact ⟨rfl, rfl⟩
  · simp only [decide_eq_false hd]; exact ⟨rfl, rfl⟩
theorem turn_val (h : Int) : impl_StrokesOfTurn.f h = some (if 2 ≤ h ∧ h ≤ 24 then T h else 0, decide (2 ≤ h ∧ h ≤ 24)) ∧ spec_StrokesOfTurn.f h = some (if 2 ≤ h ∧ h ≤ 24 then T h else 0, decide (2 ≤ h ∧ h ≤ 24)) := by
  unfold spec_StrokesOfTurn.f impl_StrokesOfTurn.f spec_stTurn.f impl_ofTurn.f
  rw [diHours_val, isDial_val]
  by_cases hd : 2 ≤ h ∧ h ≤ 24
  · simp [decide_eq_true hd, T_wrap hd, hd]
  · simp [decide_eq_false hd, hd]
/-- How many of 1 to n are heard at one half alone. -/
def aloneN (h : Int) : Nat → Int
  | 0 => 0
  | n + 1 => if (halvesL h [((n + 1 : Nat) : Int)] (2 * h).toNat).length = 1 then aloneN h n + 1 else aloneN h n
theorem alone_all : ∀ x : Fin 25, 2 ≤ x.val → impl_CountHeardOnce.f 110 (x.val : Int) = some (aloneN (x.val : Int) x.val, true) ∧ spec_CountHeardOnce.f 110 (x.val : Int) = some (aloneN (x.val : Int) x.val, true) := by decide +kernel
theorem alone_bd (h : Int) (n : Nat) : 0 ≤ aloneN h n ∧ aloneN h n ≤ n := by
  induction n with
  | zero => exact ⟨Int.le_refl _, Int.le_refl _⟩
  | succ n ih =>
    simp only [aloneN]
    split <;> omega
theorem once_val (h : Int) (k : Nat) (hk : 110 ≤ k) : ∃ c, impl_CountHeardOnce.f k h = some (c, decide (2 ≤ h ∧ h ≤ 24)) ∧ spec_CountHeardOnce.f k h = some (c, decide (2 ≤ h ∧ h ≤ 24)) ∧ (2 ≤ h ∧ h ≤ 24 → c = aloneN h h.toNat) := by
  by_cases hd : 2 ≤ h ∧ h ≤ 24
  · obtain ⟨a1, a2⟩ := alone_all ⟨h.toNat, by omega⟩ (by show 2 ≤ h.toNat; omega)
    simp only [show ((h.toNat : Nat) : Int) = h by omega] at a1 a2
    rw [decide_eq_true hd]
    exact ⟨_, at_rounds (g := fun k => impl_CountHeardOnce.f k h) (fun k => impl_CountHeardOnce.mono h k) hk a1, at_rounds (g := fun k => spec_CountHeardOnce.f k h) (fun k => spec_CountHeardOnce.mono h k) hk a2, fun _ => rfl⟩
  · unfold impl_CountHeardOnce.f spec_CountHeardOnce.f
    rw [isDial_val, diHours_val, decide_eq_false hd]
    exact ⟨0, rfl, rfl, fun c => absurd c hd⟩
theorem halves_one {h n : Int} (hd : 2 ≤ h ∧ h ≤ 24) (h1 : 1 ≤ n) (hn : n ≤ 24) (k : Nat) (hk : 80 ≤ k) : impl_HalvesOfHeard.f k h [n] = some (halvesL h [n] (2 * h).toNat, true) := by
  unfold impl_HalvesOfHeard.f
  have e : impl_isHeardList.f h [n] = some true := by
    unfold impl_isHeardList.f isN
    simp [hd, h1, hn]
  rw [e]
  simp only [Option.bind_some, if_true]
  rw [halvesOf_val hd (by simp) k (by simp; omega)]
  rfl
theorem number_loop {h : Int} (hd : 2 ≤ h ∧ h ≤ 24) (d : Nat) : ∀ (n : Int) (x : Nat), 1 ≤ n → n ≤ d → (x : Int) + d ≤ 400000000000 →
    ∃ (y : Nat) (m : Int), x ≤ y ∧ 1 ≤ m ∧ m ≤ st h ((y : Int) % (2 * h)) ∧ S h y - S h x + m = n ∧ (y : Int) ≤ x + d ∧ ∀ k, d < k → impl_strokeNumber.l0 k h n x = some ((y : Int), m) ∧ spec_StrokeNumber.l0 k h n x = some ((y : Int), m, true) := by
  induction d with
  | zero => intro n x h1 h2; omega
  | succ d ih =>
    intro n x h1 h2 h4
    have hm : 0 ≤ (x : Int) % (2 * h) := Int.emod_nonneg _ (by omega)
    have hl : (x : Int) % (2 * h) < 2 * h := Int.emod_lt_of_pos _ (by omega)
    have p := st_pos (h := h) (j := (x : Int) % (2 * h)) hd.1 hm
    have q := st_le (h := h) (j := (x : Int) % (2 * h)) hd.1 hl
    by_cases hgt : n > st h ((x : Int) % (2 * h))
    · obtain ⟨y, m, a1, a2, a3, a4, a5, hr⟩ := ih (n - st h ((x : Int) % (2 * h))) (x + 1) (by omega) (by omega) (by omega)
      have e : S h (x + 1) = S h x + st h ((x : Int) % (2 * h)) := rfl
      refine ⟨y, m, by omega, a2, a3, by omega, by omega, fun k hk => ?_⟩
      obtain ⟨k, rfl⟩ : ∃ m, k = m + 1 := ⟨k - 1, by omega⟩
      have := hr k (by omega)
      simp only [spec_StrokeNumber.l0, impl_strokeNumber.l0]
      rw [wid (x := 2 * h) (by omega) (by omega), if_neg (by omega), tmod_nn _ (by omega), stAt_val _ hm (by omega), strokes_val hd (by omega)]
      simp only [Option.bind_some, if_pos hgt]
      rw [wid (x := n - st h ((x : Int) % (2 * h))) (by omega) (by omega), wid (x := (x : Int) + 1) (by omega) (by omega)]
      exact this
    · refine ⟨x, n, by omega, h1, by omega, by omega, by omega, fun k hk => ?_⟩
      obtain ⟨k, rfl⟩ : ∃ m, k = m + 1 := ⟨k - 1, by omega⟩
      simp only [spec_StrokeNumber.l0, impl_strokeNumber.l0]
      rw [wid (x := 2 * h) (by omega) (by omega), if_neg (by omega), tmod_nn _ (by omega), stAt_val _ hm (by omega), strokes_val hd (by omega)]
      simp only [Option.bind_some, if_neg hgt, and_self]
theorem S_turns {h : Int} (hd : 2 ≤ h ∧ h ≤ 24) {q : Int} (q0 : 0 ≤ q) : S h (q * 2 * h).toNat = q * T h := by
  have e0 : 0 ≤ q * 2 * h := Int.mul_nonneg (by omega) (by omega)
  have e1 : ((q * 2 * h).toNat : Int) = q * (2 * h) := by rw [Int.toNat_of_nonneg e0, Int.mul_assoc]
  rw [S_split hd, e1, Int.mul_emod_left, Int.mul_ediv_cancel _ (by omega)]
  show q * T h + 0 = _
  omega
/-- The stroke's number, told by the half and the stroke there. -/
theorem number_val {h n : Int} (hd : 2 ≤ h ∧ h ≤ 24) (n1 : 1 ≤ n) (n2 : n ≤ 2000000000) : ∃ (y : Nat) (m : Int), 1 ≤ m ∧ m ≤ st h ((y : Int) % (2 * h)) ∧ S h y + m = n ∧ (y : Int) ≤ 100000000000 ∧ ∀ k, 400 ≤ k → impl_strokeNumber.f k h n = some ((y : Int), m) ∧ (n ≤ 1000000000 → spec_StrokeNumber.f k h n = some ((y : Int), m, true)) := by
  have t := T_bd hd
  have q0 : 0 ≤ (n - 1) / T h := Int.ediv_nonneg (by omega) (by omega)
  have q1 : (n - 1) / T h ≤ n - 1 := Int.ediv_le_self _ (by omega)
  have m0 : 0 ≤ (n - 1) % T h := Int.emod_nonneg _ (by omega)
  have m1 : (n - 1) % T h < T h := Int.emod_lt_of_pos _ (by omega)
  have e := Int.mul_ediv_add_emod (n - 1) (T h)
  have x0 : 0 ≤ (n - 1) / T h * 2 * h := Int.mul_nonneg (by omega) (by omega)
  have x1 : (n - 1) / T h * 2 * h ≤ (2000000000 * 2) * 24 := Int.mul_le_mul (by omega) hd.2 (by omega) (by omega)
  have y0 : 0 ≤ (n - 1) / T h * T h := Int.mul_nonneg q0 (by omega)
  have y1 : (n - 1) / T h * T h ≤ 2000000000 * 324 := Int.mul_le_mul (by omega) t.2 (by omega) (by omega)
  have ey : T h * ((n - 1) / T h) = (n - 1) / T h * T h := Int.mul_comm _ _
  have ex : (((n - 1) / T h * 2 * h).toNat : Int) = (n - 1) / T h * 2 * h := Int.toNat_of_nonneg x0
  obtain ⟨y, m, a1, a2, a3, a4, a5, hr⟩ := number_loop hd 324 ((n - 1) % T h + 1) ((n - 1) / T h * 2 * h).toNat (by omega) (by omega) (by omega)
  rw [S_turns hd q0] at a4
  rw [ex] at hr
  refine ⟨y, m, a2, a3, by omega, by omega, fun k hk => ⟨?_, fun hn => ?_⟩⟩
  · unfold impl_strokeNumber.f impl_ofTurn.f
    simp only [T_wrap hd, Option.bind_some]
    rw [if_neg (by omega), wid (x := n - 1) (by omega) (by omega), tdiv_nn _ (by omega), tmod_nn _ (by omega), wid (x := (n - 1) / T h) (by omega) (by omega), wid (x := (n - 1) / T h * 2) (by omega) (by omega), wid (x := (n - 1) / T h * 2 * h) (by omega) (by omega), wid (x := (n - 1) % T h + 1) (by omega) (by omega)]
    exact (hr k (by omega)).1
  · obtain ⟨k, rfl⟩ : ∃ m, k = m + 1 := ⟨k - 1, by omega⟩
    unfold spec_StrokeNumber.f
    simp only [diHours_val, l1In_val, Option.bind_some, decide_eq_true hd, if_true, decide_eq_true (show 1 ≤ n ∧ n ≤ 1000000000 from ⟨n1, hn⟩), Bool.not_true, spec_StrokeNumber.j0, spec_stTurn.f, T_wrap hd]
    rw [if_neg (by simp), if_neg (by omega), wid (x := n - 1) (by omega) (by omega), tdiv_nn _ (by omega), wid (x := (n - 1) / T h) (by omega) (by omega), wid (x := (n - 1) / T h * 2) (by omega) (by omega), wid (x := (n - 1) / T h * 2 * h) (by omega) (by omega), wid (x := (n - 1) / T h * T h) (by omega) (by omega), wid (x := n - (n - 1) / T h * T h) (by omega) (by omega)]
    rw [show n - (n - 1) / T h * T h = (n - 1) % T h + 1 by omega]
    exact (hr k (by omega)).2
def isNum (h n : Int) : Prop := (2 ≤ h ∧ h ≤ 24) ∧ 1 ≤ n ∧ n ≤ 1000000000
theorem iNumber_yes {h n y m : Int} (q : isNum h n) (k : Nat) (e : impl_strokeNumber.f k h n = some (y, m)) : impl_StrokeNumber.f k h n = some (y, m, true) := by
  unfold impl_StrokeNumber.f
  simp only [isDial_val, within_val, Option.bind_some, decide_eq_true q.1, if_true, decide_eq_true q.2, e]
theorem number_no {h n : Int} (q : ¬ isNum h n) (k : Nat) (hk : 1 ≤ k) : impl_StrokeNumber.f k h n = some (0, 0, false) ∧ spec_StrokeNumber.f k h n = some (0, 0, false) := by
  obtain ⟨k, rfl⟩ : ∃ m, k = m + 1 := ⟨k - 1, by omega⟩
  unfold impl_StrokeNumber.f spec_StrokeNumber.f
  simp only [isDial_val, within_val, diHours_val, l1In_val, Option.bind_some]
  by_cases hd : 2 ≤ h ∧ h ≤ 24
  · have hn : ¬ (1 ≤ n ∧ n ≤ 1000000000) := fun c => q ⟨hd, c⟩
    simp only [decide_eq_true hd, if_true, decide_eq_false hn, Bool.not_false]
    exact ⟨rfl, rfl⟩
  · simp only [decide_eq_false hd]; exact ⟨rfl, rfl⟩
theorem iAt_val {h x : Int} (h1 : isH h x) : impl_StrokesAt.f h x = some (st h x, true) := by
  obtain ⟨hd, h0, hx⟩ := id h1
  unfold impl_StrokesAt.f
  rw [isHalf_val]
  simp only [Option.bind_some, decide_eq_true h1, if_true]
  rw [strokes_val hd h0, Int.emod_eq_of_lt h0 (by omega)]
  rfl
theorem mend_val (p q r : Int) (k : Nat) (hk : 100 ≤ k) : ∃ v, impl_StrokesToMend.f k p q r = some v ∧ spec_StrokesToMend.f k p q r = some v ∧ v = (if isH p q ∧ isH p r then (S p (r + (q - r) % (2 * p) + 1).toNat - S p (r + 1).toNat, true) else (0, false)) := by
  obtain ⟨v, e1, e2, ev⟩ := mend_both p q r
  exact ⟨v, e2 k hk, e1 k hk, ev⟩
theorem back_val (p q r : Int) : impl_StepsBack.f p q r = some (if isH p q ∧ isH p r then (q - r) % (2 * p) else 0, decide (isH p q ∧ isH p r)) ∧ spec_StepsBack.f p q r = some (if isH p q ∧ isH p r then (q - r) % (2 * p) else 0, decide (isH p q ∧ isH p r)) := by
  unfold spec_StepsBack.f impl_StepsBack.f
  rw [stHalf_val, isHalf_val, stHalf_val, isHalf_val]
  simp only [Option.bind_some]
  by_cases h1 : isH p q
  · by_cases h2 : isH p r
    · obtain ⟨hd, x0, x1⟩ := id h1
      obtain ⟨_, y0, y1⟩ := id h2
      simp only [decide_eq_true h1, decide_eq_true h2, if_true, Option.bind_some]
      rw [stepsBack_val h1 h2, wid (x := 2 * p) (by omega) (by omega), if_neg (show ¬ 2 * p = 0 by omega), wid (x := q - r) (by omega) (by omega), wid (x := q - r + 2 * p) (by omega) (by omega), tmod_nn _ (by omega), Int.add_emod_right]
      simp [h1, h2]
    · simp [h1, h2]
  · simp [h1]
theorem f2 {h x y : Int} (q1 : isB h x y) (le : x ≤ y) (k : Nat) (hk : 60 ≤ k) : wrap64 (2 * h) ≠ 0 ∧ ∃ ls, impl_StrokesAt.f h (Int.tmod y (wrap64 (2 * h))) = some (ls, true) ∧ (x < y → ∃ xx, impl_StrokesBetween.f k h x (wrap64 (y - 1)) = some (xx, true) ∧ wrap64 (xx + ls) = bv h x y) ∧ (¬ x < y → wrap64 ls = bv h x y) := by
  obtain ⟨hd, hx, hy⟩ := id q1
  have m0 : 0 ≤ y % (2 * h) := Int.emod_nonneg _ (by omega)
  have m1 : y % (2 * h) < 2 * h := Int.emod_lt_of_pos _ (by omega)
  have l1 := st_le (h := h) hd.1 m1
  have l2 := st_pos (h := h) hd.1 m0
  have eS : S h (y + 1).toNat = S h y.toNat + st h (y % (2 * h)) := by
    rw [show (y + 1).toNat = y.toNat + 1 by omega]
    show S h y.toNat + st h (((y.toNat : Nat) : Int) % (2 * h)) = _
    rw [Int.toNat_of_nonneg hy.1]
  have u1 := S_up hd x.toNat
  have u2 := S_up hd y.toNat
  have mo := S_mono hd.1 (n := x.toNat) (m := y.toNat) (by omega)
  rw [wid (x := 2 * h) (by omega) (by omega), tmod_nn _ hy.1, iAt_val ⟨hd, m0, by omega⟩]
  refine ⟨by omega, _, rfl, fun lt => ?_, fun lt => ?_⟩
  · rw [wid (x := y - 1) (by omega) (by omega), iBetween_yes ⟨hd, hx, by omega⟩ k (by omega)]
    have b1 : bv h x (y - 1) = S h y.toNat - S h x.toNat := by unfold bv; rw [if_neg (show ¬ y - 1 < x by omega), show y - 1 + 1 = y by omega]
    have b2 : bv h x y = S h y.toNat + st h (y % (2 * h)) - S h x.toNat := by unfold bv; rw [if_neg (show ¬ y < x by omega), eS]
    refine ⟨_, rfl, ?_⟩
    rw [b1, b2, wid (x := S h y.toNat - S h x.toNat + st h (y % (2 * h))) (by omega) (by omega)]; omega
  · obtain rfl : x = y := by omega
    have b2 : bv h x x = S h x.toNat + st h (x % (2 * h)) - S h x.toNat := by unfold bv; rw [if_neg (show ¬ x < x by omega), eS]
    rw [b2, wid (x := st h (x % (2 * h))) (by omega) (by omega)]; omega
theorem f3 {h : Int} (hd : 2 ≤ h ∧ h ≤ 24) (k : Nat) (hk : 100 ≤ k) : impl_StrokesBetween.f k h 0 (wrap64 (wrap64 (2 * h) - 1)) = some (T h, true) ∧ T h = wrap64 (wrap64 (Int.tdiv (wrap64 (h * wrap64 (h + 1))) 2) + h) ∧ ∀ i : Nat, (i : Int) < h → ∃ l : List Int, impl_HalvesOfHeard.f k h [(i : Int) + 1] = some (l, true) ∧ aloneN h (i + 1) = (if (l.length : Int) = 1 then wrap64 (aloneN h i + 1) else aloneN h i) := by
  refine ⟨?_, (T_wrap hd).symm, fun i hi => ?_⟩
  · rw [wid (x := 2 * h) (by omega) (by omega), wid (x := 2 * h - 1) (by omega) (by omega), iBetween_yes ⟨hd, by omega, by omega⟩ k (by omega)]
    have e1 : S h (2 * h - 1 + 1).toNat = T h := S_turn hd (by omega)
    have e0 : S h (Int.toNat 0) = 0 := rfl
    simp only [bv]
    rw [if_neg (show ¬ 2 * h - 1 < 0 by omega), e1, e0, Int.sub_zero]
  · have bd := alone_bd h i
    refine ⟨_, halves_one hd (by omega) (by omega) k (by omega), ?_⟩
    simp only [aloneN]
    rw [show ((i + 1 : Nat) : Int) = (i : Int) + 1 from rfl, wid (x := aloneN h i + 1) (by omega) (by omega)]
    by_cases c1 : (halvesL h [(i : Int) + 1] (2 * h).toNat).length = 1
    · rw [if_pos c1, if_pos (by omega)]
    · rw [if_neg c1, if_neg (by omega)]
/-- Where the wheel stands, told by the search. -/
theorem wheel_ev (e s : Int) : ∃ w ok, (∀ k, 500 ≤ k → impl_HalfOfWheel.f k e s = some (w, ok) ∧ spec_HalfOfWheel.f k e s = some (w, ok)) ∧ (ok = true → 0 < s → (2 ≤ e ∧ e ≤ 24) ∧ 0 < s ∧ s ≤ 1000000000 ∧ ∀ k, 400 ≤ k → ∃ y m, impl_strokeNumber.f k e (e + s) = some (y, m) ∧ 0 ≤ y ∧ w = y % (2 * e)) := by
  obtain ⟨⟨w, ok⟩, w1, w2⟩ := wheel_both e s
  refine ⟨w, ok, fun k hk => ⟨w2 k (by omega), w1 k (by omega)⟩, fun ho hs => ?_⟩
  have w3 := w2 400 (by omega)
  unfold impl_HalfOfWheel.f at w3
  simp only [isDial_val, within_val, Option.bind_some] at w3
  by_cases hd : 2 ≤ e ∧ e ≤ 24
  · by_cases hn : 0 ≤ s ∧ s ≤ 1000000000
    · obtain ⟨y, m, _, _, _, _, H⟩ := number_val hd (n := e + s) (by omega) (by omega)
      have a := (H 400 (by omega)).1
      refine ⟨hd, hs, hn.2, fun k hk => ⟨_, _, (H k hk).1, by omega, ?_⟩⟩
      simp only [decide_eq_true hd, decide_eq_true hn, if_true] at w3
      rw [wid (x := e + s) (by omega) (by omega), a] at w3
      simp only [Option.bind_some] at w3
      rw [wid (x := 2 * e) (by omega) (by omega), if_neg (by omega), tmod_nn _ (by omega)] at w3
      simp only [Option.some.injEq, Prod.mk.injEq] at w3
      exact w3.1.symm
    · simp only [decide_eq_true hd, decide_eq_false hn, if_true, Bool.false_eq_true, if_false, Option.some.injEq, Prod.mk.injEq] at w3
      rw [← w3.2] at ho; cases ho
  · simp only [decide_eq_false hd, Bool.false_eq_true, if_false, Option.some.injEq, Prod.mk.injEq] at w3
    rw [← w3.2] at ho; cases ho
theorem number_ev (d n : Int) (k : Nat) (hk : 500 ≤ k) : ∃ hf sk five, impl_StrokeNumber.f k d n = some (hf, sk, five) ∧ spec_StrokeNumber.f k d n = some (hf, sk, five) ∧ (five = true → hf ≤ 1000000 → wrap64 (2 * d) ≠ 0 ∧ ∃ ss uu, impl_StrokesAt.f d (Int.tmod hf (wrap64 (2 * d))) = some (ss, true) ∧ impl_StrokesBetween.f k d 0 hf = some (uu, true) ∧ ¬ sk < 1 ∧ ¬ sk > ss ∧ wrap64 (wrap64 (uu - ss) + sk) = n) := by
  by_cases c : isNum d n
  · obtain ⟨y, m, a1, a2, a3, a4, H⟩ := number_val c.1 c.2.1 (by have := c.2.2; omega)
    obtain ⟨hd, n1, n2⟩ := id c
    have b1 := S_up hd y
    refine ⟨y, m, true, iNumber_yes c _ (H k (by omega)).1, (H k (by omega)).2 c.2.2, fun _ cy => ?_⟩
    have m0 : 0 ≤ (y : Int) % (2 * d) := Int.emod_nonneg _ (by omega)
    have m1 : (y : Int) % (2 * d) < 2 * d := Int.emod_lt_of_pos _ (by omega)
    have lt := st_le (h := d) hd.1 m1
    rw [wid (x := 2 * d) (by omega) (by omega), tmod_nn _ (by omega), iAt_val ⟨hd, m0, by omega⟩, iBetween_yes ⟨hd, by omega, by omega, cy⟩ k (by omega)]
    have eS : S d ((y : Int) + 1).toNat = S d y + st d ((y : Int) % (2 * d)) := by
      rw [show ((y : Int) + 1).toNat = y + 1 by omega]; rfl
    have e0 : S d (Int.toNat 0) = 0 := rfl
    refine ⟨by omega, _, _, rfl, rfl, by omega, by omega, ?_⟩
    simp only [bv]
    rw [if_neg (show ¬ (y : Int) < 0 by omega), eS, e0]
    rw [wid (x := S d y + st d ((y : Int) % (2 * d)) - 0 - st d ((y : Int) % (2 * d))) (by omega) (by omega), wid (by omega) (by omega)]
    omega
  · exact ⟨0, 0, false, (number_no c k (by omega)).1, (number_no c k (by omega)).2, fun x => by simp at x⟩
theorem f5 {e s w : Int} (H : (2 ≤ e ∧ e ≤ 24) ∧ 0 < s ∧ s ≤ 1000000000 ∧ ∀ k, 400 ≤ k → ∃ y m, impl_strokeNumber.f k e (e + s) = some (y, m) ∧ 0 ≤ y ∧ w = y % (2 * e)) (k : Nat) (hk : 410 ≤ k) : ∃ tp, impl_StrokesAt.f e 0 = some (tp, true) ∧ (s ≤ wrap64 (1000000000 - tp) → ∃ at_ zz, impl_StrokeNumber.f k e (wrap64 (s + tp)) = some (at_, zz, true) ∧ wrap64 (2 * e) ≠ 0 ∧ Int.tmod at_ (wrap64 (2 * e)) = w) := by
  obtain ⟨hd, s0, s1, H⟩ := H
  rw [iAt_val ⟨hd, by omega, by omega⟩]
  have e0 : st e 0 = e := by unfold st; rw [if_neg (by omega), if_pos rfl]
  rw [e0]
  refine ⟨_, rfl, fun c => ?_⟩
  rw [wid (x := 1000000000 - e) (by omega) (by omega)] at c
  obtain ⟨y, m, f1, f2, f3⟩ := H k (by omega)
  rw [Int.add_comm] at f1
  rw [wid (x := s + e) (by omega) (by omega), iNumber_yes ⟨hd, by omega, by omega⟩ k f1, wid (x := 2 * e) (by omega) (by omega)]
  exact ⟨_, _, rfl, by omega, by rw [tmod_nn _ f2]; exact f3.symm⟩
theorem f6 {p q r : Int} (h1 : isH p q) (h2 : isH p r) (k : Nat) (hk : 60 ≤ k) : ¬ (q - r) % (2 * p) < 0 ∧ ¬ (q - r) % (2 * p) ≥ wrap64 (2 * p) ∧ wrap64 (2 * p) ≠ 0 ∧ Int.tmod (wrap64 (r + (q - r) % (2 * p))) (wrap64 (2 * p)) = q ∧ ((q - r) % (2 * p) > 0 → impl_StrokesBetween.f k p (wrap64 (r + 1)) (wrap64 (r + (q - r) % (2 * p))) = some (S p (r + (q - r) % (2 * p) + 1).toNat - S p (r + 1).toNat, true)) ∧ (¬ (q - r) % (2 * p) > 0 → S p (r + (q - r) % (2 * p) + 1).toNat - S p (r + 1).toNat = 0) := by
  obtain ⟨hd, x0, x1⟩ := id h1
  obtain ⟨_, y0, y1⟩ := id h2
  have m0 : 0 ≤ (q - r) % (2 * p) := Int.emod_nonneg _ (by omega)
  have m1 : (q - r) % (2 * p) < 2 * p := Int.emod_lt_of_pos _ (by omega)
  rw [wid (x := 2 * p) (by omega) (by omega), wid (x := r + (q - r) % (2 * p)) (by omega) (by omega)]
  refine ⟨by omega, by omega, by omega, ?_, fun c => ?_, fun c => ?_⟩
  · rw [tmod_nn _ (by omega), Int.add_emod_emod, show r + (q - r) = q by omega, Int.emod_eq_of_lt x0 (by omega)]
  · rw [wid (x := r + 1) (by omega) (by omega), iBetween_yes ⟨hd, by omega, by omega⟩ k (by omega)]
    simp only [bv]
    rw [if_neg (show ¬ r + (q - r) % (2 * p) < r + 1 by omega)]
  · rw [show (q - r) % (2 * p) = 0 by omega, Int.add_zero, Int.sub_self]
theorem FnStrokesCountedOfAll : laws_FnStrokesCountedOfAll.Pure := by
  intro h x y d n e s p q r w _ _ _ _ _ _ _ _ _ _
  obtain ⟨c, c1, c2, c3⟩ := once_val h 801 (by omega)
  have B : impl_StrokesBetween.f 801 h x y = some (if isB h x y then bv h x y else 0, decide (isB h x y)) ∧ spec_StrokesBetween.f 801 h x y = some (if isB h x y then bv h x y else 0, decide (isB h x y)) := by
    by_cases q1 : isB h x y
    · rw [if_pos q1, decide_eq_true q1]; exact ⟨iBetween_yes q1 _ (by omega), sBetween_yes q1 _ (by omega)⟩
    · rw [if_neg q1, decide_eq_false q1]; exact between_no q1 _ (by omega)
  obtain ⟨hf, sk, five, N1, N2, N3⟩ := number_ev d n 801 (by omega)
  obtain ⟨wl, seven, W, hw⟩ := wheel_ev e s
  obtain ⟨v, e1, e2, ev⟩ := mend_val p q r 801 (by omega)
  subst ev
  have M : ∀ {z : Option (Int × Bool)}, z = some (if isH p q ∧ isH p r then (S p (r + (q - r) % (2 * p) + 1).toNat - S p (r + 1).toNat, true) else (0, false)) → z = some (if isH p q ∧ isH p r then S p (r + (q - r) % (2 * p) + 1).toNat - S p (r + 1).toNat else 0, decide (isH p q ∧ isH p r)) := by
    intro z hz
    rw [hz]
    by_cases g : isH p q ∧ isH p r
    · rw [if_pos g, if_pos g, decide_eq_true g]
    · rw [if_neg g, if_neg g, decide_eq_false g]
  refine walkV 801 h x y d n e s p q r (if isB h x y then bv h x y else 0) (if 2 ≤ h ∧ h ≤ 24 then T h else 0) c hf sk wl (if isH p q ∧ isH p r then (q - r) % (2 * p) else 0) (if isH p q ∧ isH p r then S p (r + (q - r) % (2 * p) + 1).toNat - S p (r + 1).toNat else 0) (decide (isB h x y)) (decide (2 ≤ h ∧ h ≤ 24)) five seven (decide (isH p q ∧ isH p r)) w (aloneN h)
    B.1 B.2 (turn_val h).1 (turn_val h).2 c1 c2 ?_ ?_ ?_ N1 N2 (W 801 (by omega)).1 (W 801 (by omega)).2 N3 ?_ (back_val p q r).1 (back_val p q r).2 (M e1) (M e2) ?_
  · intro g; exact decide_eq_true (of_decide_eq_true g).1
  · intro g le
    have g' := of_decide_eq_true g
    rw [if_pos g']
    exact f2 g' le 801 (by omega)
  · intro g
    have g' := of_decide_eq_true g
    rw [if_pos g']
    obtain ⟨a1, a2, a3⟩ := f3 g' 801 (by omega)
    exact ⟨a1, a2, by omega, rfl, (c3 g').symm, a3⟩
  · intro g hs
    exact f5 (hw g hs) 801 (by omega)
  · intro g
    have g' := of_decide_eq_true g
    rw [if_pos g', if_pos g']
    exact f6 g'.1 g'.2 801 (by omega)

end Go.Proofs.Ytjalknehgfomlab.Pure
