/- Over all dials what is heard, the halves of it and what is heard next are the reference's, and they fit each other; no condition. -/
import Derived.Test.YthdcdpilcfghlaaPFnStrokesHeardOfAllx11
set_option linter.unusedVariables false
set_option linter.unusedSimpArgs false
namespace Go.Proofs.Ythdcdpilcfghlaa.Pure
open Go.RowKit Go.Proofs.Ythdcdpilcfghlaa.PFnStrokesHeardOfAll Go.Proofs.YthdcdpilcfghlaaW.PrintWords Go.Proofs.YthdcdpilcfghlaaW.PrintLast Go.Proofs.YthdcdpilcfghlaaW.PrintMore

theorem l1In_val (a b c : Int) : spec_l1In.f a b c = some (decide (b ≤ a ∧ a ≤ c)) := by
  unfold spec_l1In.f
  by_cases h : a ≥ b
  · have e : (b ≤ a ∧ a ≤ c) ↔ a ≤ c := ⟨fun x => x.2, fun x => ⟨h, x⟩⟩
    rw [if_pos h, decide_eq_decide.mpr e]
  · rw [if_neg h, decide_eq_false (fun x => h x.1)]
theorem diHours_val (h : Int) : spec_diHours.f h = some (decide (2 ≤ h ∧ h ≤ 24)) := by
  unfold spec_diHours.f; rw [l1In_val]; rfl
def isH (h x : Int) : Prop := (2 ≤ h ∧ h ≤ 24) ∧ 0 ≤ x ∧ x ≤ 2 * h - 1
instance (h x : Int) : Decidable (isH h x) := by unfold isH; exact inferInstance
theorem stHalf_val (h x : Int) : spec_stHalf.f h x = some (decide (isH h x)) := by
  unfold spec_stHalf.f isH; rw [diHours_val]
  simp only [Option.bind_some]
  by_cases hd : 2 ≤ h ∧ h ≤ 24
  · simp only [decide_eq_true hd, if_true]
    rw [l1In_val, wid (x := 2 * h) (by omega) (by omega), wid (by omega) (by omega)]
    simp [hd]
  · simp only [decide_eq_false hd]
    simp [hd]
theorem isHalf_val (h x : Int) : impl_isHalf.f h x = some (decide (isH h x)) := by
  unfold impl_isHalf.f isH; rw [isDial_val]
  simp only [Option.bind_some]
  by_cases hd : 2 ≤ h ∧ h ≤ 24
  · simp only [decide_eq_true hd, if_true]
    rw [within_val, wid (x := 2 * h) (by omega) (by omega), wid (by omega) (by omega)]
    simp [hd]
  · simp only [decide_eq_false hd]
    simp [hd]
def st (h j : Int) : Int := if j % 2 = 1 then 1 else if j = 0 then h else j / 2
theorem st_pos {h j : Int} (hh : 2 ≤ h) (h0 : 0 ≤ j) : 1 ≤ st h j := by
  unfold st; split
  · omega
  · split <;> omega
theorem st_le {h j : Int} (hh : 2 ≤ h) (h1 : j < 2 * h) : st h j ≤ h := by
  unfold st; split
  · omega
  · split <;> omega
theorem stAt_val (h : Int) {j : Int} (h0 : 0 ≤ j) (h1 : j ≤ 4611686018427387904) : spec_stAt.f h j = some (st h j) := by
  unfold spec_stAt.f st
  rw [tmod_nn _ h0, tdiv_nn _ h0]
  split
  · rfl
  · split
    · rfl
    · rw [wid (by omega) (by omega)]
theorem l1All_loop (xs : List Int) (a b : Int) (hl : xs.length ≤ 1000000000000) (d : Nat) : ∀ (i k : Nat), i + d = xs.length → d < k → spec_l1All.l0 k a b xs (xs.length : Int) i = some ((xs.drop i).all fun n => decide (a ≤ n ∧ n ≤ b)) := by
  induction d with
  | zero =>
    intro i k hi hk
    obtain ⟨k, rfl⟩ : ∃ m, k = m + 1 := ⟨k - 1, by omega⟩
    simp only [spec_l1All.l0]
    rw [if_neg (by omega), List.drop_of_length_le (by omega)]
    rfl
  | succ d ih =>
    intro i k hi hk
    obtain ⟨k, rfl⟩ : ∃ m, k = m + 1 := ⟨k - 1, by omega⟩
    simp only [spec_l1All.l0]
    have hx : rd xs (i : Int) = xs[i]'(by omega) := by
      show xs.getD ((i : Int).toNat) 0 = _
      rw [show (i : Int).toNat = i by omega, List.getD_eq_getElem?_getD, List.getElem?_eq_getElem (by omega)]; rfl
    rw [if_pos (by omega), if_pos (by omega), if_pos (by omega), l1In_val, hx, wid (x := (i : Int) + 1) (by omega) (by omega)]
    simp only [Option.bind_some]
    have e : (xs.drop i).all (fun n => decide (a ≤ n ∧ n ≤ b)) = (decide (a ≤ xs[i]'(by omega) ∧ xs[i]'(by omega) ≤ b) && (xs.drop (i + 1)).all fun n => decide (a ≤ n ∧ n ≤ b)) := by
      rw [List.drop_eq_getElem_cons (show i < xs.length by omega), List.all_cons]
    rw [e]
    by_cases h : a ≤ xs[i]'(by omega) ∧ xs[i]'(by omega) ≤ b
    · rw [decide_eq_true h, if_pos rfl, Bool.true_and]
      exact ih (i + 1) k (by omega) (by omega)
    · rw [decide_eq_false h, if_neg (by simp), Bool.false_and]
theorem l1All_val (xs : List Int) (a b : Int) (hl : xs.length ≤ 1000000000000) (k : Nat) (hk : xs.length < k) : spec_l1All.f k xs a b = some (xs.all fun n => decide (a ≤ n ∧ n ≤ b)) := by
  have := l1All_loop xs a b hl xs.length 0 k (by omega) hk
  simpa [spec_l1All.f] using this
/-- A list of strokes that may be heard. -/
def isL (h : Int) (xs : List Int) : Bool := decide (2 ≤ h ∧ h ≤ 24) && decide (1 ≤ (xs.length : Int) ∧ (xs.length : Int) ≤ 60) && xs.all fun n => decide (isN n)
theorem stHeard_val (h : Int) (xs : List Int) (hl : xs.length ≤ 1048576) (k : Nat) (hk : xs.length < k) : spec_stHeard.f k h xs = some (isL h xs) := by
  unfold spec_stHeard.f isL
  simp only [diHours_val, l1In_val, Option.bind_some]
  rw [l1All_val xs 1 24 (by omega) k hk]
  cases decide (2 ≤ h ∧ h ≤ 24) <;> cases decide (1 ≤ (xs.length : Int) ∧ (xs.length : Int) ≤ 60) <;> rfl
theorem isHeardList_val (h : Int) (xs : List Int) : impl_isHeardList.f h xs = some (isL h xs) := rfl
theorem isL_bd {h : Int} {xs : List Int} (hq : isL h xs = true) : (2 ≤ h ∧ h ≤ 24) ∧ 1 ≤ xs.length ∧ xs.length ≤ 60 := by
  unfold isL at hq
  simp only [Bool.and_eq_true, decide_eq_true_eq] at hq
  omega
/-- What is heard at n halves from x on. -/
def heardL (h x : Int) (n : Nat) : List Int := (List.range n).map fun (i : Nat) => st h ((x + (i : Int)) % (2 * h))
theorem heardL_length (h x : Int) (n : Nat) : (heardL h x n).length = n := by simp [heardL]
theorem heardL_succ (h x : Int) (n : Nat) : heardL h x (n + 1) = heardL h x n ++ [st h ((x + (n : Int)) % (2 * h))] := by
  simp [heardL, List.range_succ]
/-- The halves below m from which a list is heard. -/
def halvesL (h : Int) (xs : List Int) (m : Nat) : List Int := ((List.range m).filter fun (i : Nat) => decide (heardL h (i : Int) xs.length = xs)).map fun (i : Nat) => (i : Int)
theorem halvesL_succ (h : Int) (xs : List Int) (m : Nat) : halvesL h xs (m + 1) = if heardL h (m : Int) xs.length = xs then halvesL h xs m ++ [(m : Int)] else halvesL h xs m := by
  unfold halvesL
  rw [List.range_succ, List.filter_append, List.map_append]
  by_cases e : heardL h (m : Int) xs.length = xs
  · rw [if_pos e]; simp [e]
  · rw [if_neg e]; simp [e]
theorem halvesL_le (h : Int) (xs : List Int) (m : Nat) : (halvesL h xs m).length ≤ m := by
  unfold halvesL
  rw [List.length_map]
  exact Nat.le_trans (List.length_filter_le _ _) (by simp)
theorem stFrom_loop {h x : Int} {n : Nat} (hd : 2 ≤ h ∧ h ≤ 24) (hx : 0 ≤ x) (hx' : x ≤ 1000000) (hn : n ≤ 1000) (d : Nat) : ∀ (i k : Nat), i + d = n → d < k →
    spec_stFrom.l0 k h x n (heardL h x i) i = some (heardL h x n) := by
  induction d with
  | zero =>
    intro i k hi hk
    obtain ⟨k, rfl⟩ : ∃ m, k = m + 1 := ⟨k - 1, by omega⟩
    simp only [spec_stFrom.l0]
    rw [if_neg (by omega), show i = n by omega]
  | succ d ih =>
    intro i k hi hk
    obtain ⟨k, rfl⟩ : ∃ m, k = m + 1 := ⟨k - 1, by omega⟩
    have hm : 0 ≤ (x + i) % (2 * h) := Int.emod_nonneg _ (by omega)
    have hl : (x + i) % (2 * h) < 2 * h := Int.emod_lt_of_pos _ (by omega)
    simp only [spec_stFrom.l0]
    rw [if_pos (by omega), wid (x := 2 * h) (by omega) (by omega), if_neg (by omega), wid (x := x + i) (by omega) (by omega), tmod_nn _ (by omega), stAt_val _ hm (by omega)]
    simp only [Option.bind_some]
    rw [heardL_length, if_pos (by omega), wid (x := (i : Int) + 1) (by omega) (by omega), ← heardL_succ]
    exact ih (i + 1) k (by omega) (by omega)
theorem stFrom_val {h x : Int} {n : Nat} (hd : 2 ≤ h ∧ h ≤ 24) (hx : 0 ≤ x) (hx' : x ≤ 1000000) (hn : n ≤ 1000) (k : Nat) (hk : n < k) : spec_stFrom.f k h x n = some (heardL h x n) :=
  stFrom_loop hd hx hx' hn n 0 k (by omega) hk
theorem l1Same_loop (xs ys : List Int) (hl : xs.length ≤ 1000000000000) (he : xs.length = ys.length) (d : Nat) : ∀ (i k : Nat), i + d = xs.length → d < k → (xs.take i = ys.take i) → spec_l1Same.l0 k xs ys (xs.length : Int) i = some (decide (xs = ys)) := by
  induction d with
  | zero =>
    intro i k hi hk ht
    obtain ⟨k, rfl⟩ : ∃ m, k = m + 1 := ⟨k - 1, by omega⟩
    simp only [spec_l1Same.l0]
    rw [List.take_of_length_le (by omega), List.take_of_length_le (by omega)] at ht
    rw [if_neg (by omega), decide_eq_true ht]
  | succ d ih =>
    intro i k hi hk ht
    obtain ⟨k, rfl⟩ : ∃ m, k = m + 1 := ⟨k - 1, by omega⟩
    simp only [spec_l1Same.l0]
    have hx : rd xs (i : Int) = xs[i]'(by omega) := by
      show xs.getD ((i : Int).toNat) 0 = _
      rw [show (i : Int).toNat = i by omega, List.getD_eq_getElem?_getD, List.getElem?_eq_getElem (by omega)]; rfl
    have hy : rd ys (i : Int) = ys[i]'(by omega) := by
      show ys.getD ((i : Int).toNat) 0 = _
      rw [show (i : Int).toNat = i by omega, List.getD_eq_getElem?_getD, List.getElem?_eq_getElem (by omega)]; rfl
    rw [if_pos (by omega), if_pos (by omega), if_pos (by omega), if_pos (by omega), hx, hy, wid (x := (i : Int) + 1) (by omega) (by omega)]
    by_cases e : xs[i]'(by omega) = ys[i]'(by omega)
    · rw [if_pos e]
      exact ih (i + 1) k (by omega) (by omega) (by rw [List.take_succ_eq_append_getElem (by omega), List.take_succ_eq_append_getElem (by omega), ht, e])
    · rw [if_neg e, decide_eq_false (fun h => e (by subst h; rfl))]
theorem l1Same_val (xs ys : List Int) (hl : xs.length ≤ 1000000000000) (k : Nat) (hk : xs.length < k) : spec_l1Same.f k xs ys = some (decide (xs = ys)) := by
  unfold spec_l1Same.f
  by_cases e : xs.length = ys.length
  · rw [if_pos (by omega)]
    exact l1Same_loop xs ys hl e xs.length 0 k (by omega) hk (by simp)
  · rw [if_neg (by omega), decide_eq_false (fun h => e (by rw [h]))]
theorem stHalves_loop {h : Int} {xs : List Int} {n : Nat} (hd : 2 ≤ h ∧ h ≤ 24) (hn : (n : Int) = 2 * h) (hl : xs.length ≤ 1000) (d : Nat) : ∀ (i k : Nat), i + d = n → d + xs.length + 10 < k → spec_stHalves.l0 k h xs (halvesL h xs i) i = some (halvesL h xs n) := by
  induction d with
  | zero =>
    intro i k hi hk
    obtain ⟨k, rfl⟩ : ∃ m, k = m + 1 := ⟨k - 1, by omega⟩
    simp only [spec_stHalves.l0]
    rw [wid (x := 2 * h) (by omega) (by omega), if_neg (by omega), show i = n by omega]
  | succ d ih =>
    intro i k hi hk
    obtain ⟨k, rfl⟩ : ∃ m, k = m + 1 := ⟨k - 1, by omega⟩
    simp only [spec_stHalves.l0]
    rw [wid (x := 2 * h) (by omega) (by omega), if_pos (by omega), stFrom_val hd (by omega) (by omega) hl k (by omega)]
    simp only [Option.bind_some]
    rw [l1Same_val _ _ (by rw [heardL_length]; omega) k (by rw [heardL_length]; omega)]
    simp only [Option.bind_some]
    rw [wid (x := (i : Int) + 1) (by omega) (by omega), if_pos (show (halvesL h xs i).length < 17592186044416 by have := halvesL_le h xs i; omega)]
    have := ih (i + 1) k (by omega) (by omega)
    rw [halvesL_succ] at this
    by_cases e : heardL h (i : Int) xs.length = xs
    · rw [if_pos e] at this
      rw [decide_eq_true e, if_pos rfl]; exact this
    · rw [if_neg e] at this
      rw [decide_eq_false e, if_neg (by simp)]; exact this
theorem stHalves_val {h : Int} {xs : List Int} (hd : 2 ≤ h ∧ h ≤ 24) (hl : xs.length ≤ 1000) (k : Nat) (hk : xs.length + 70 < k) : spec_stHalves.f k h xs = some (halvesL h xs (2 * h).toNat) :=
  stHalves_loop hd (show (((2 * h).toNat : Nat) : Int) = 2 * h by omega) hl (2 * h).toNat 0 k (by omega) (by omega)
theorem strokes_val {h j : Int} (hd : 2 ≤ h ∧ h ≤ 24) (h0 : 0 ≤ j) : impl_strokes.f h j = some (st h (j % (2 * h))) := by
  have hw : wrap64 (2 * h) = 2 * h := wid (by omega) (by omega)
  have hm : 0 ≤ j % (2 * h) := Int.emod_nonneg _ (by omega)
  have hl : j % (2 * h) < 2 * h := Int.emod_lt_of_pos _ (by omega)
  unfold impl_strokes.f st
  rw [hw, tmod_nn _ h0, tmod_nn _ hm, tdiv_nn _ hm, if_neg (by omega)]
  by_cases h1 : j % (2 * h) = 0
  · rw [if_pos h1, h1]; simp
  · rw [if_neg h1]
    by_cases h2 : j % (2 * h) % 2 = 1
    · rw [if_pos h2, if_pos h2]
    · rw [if_neg h2, if_neg h2, if_neg h1, wid (by omega) (by omega)]
theorem heardFrom_loop {h x : Int} {n : Nat} (hd : 2 ≤ h ∧ h ≤ 24) (hx : 0 ≤ x) (hx' : x ≤ 1000000) (hn : n ≤ 1000) (d : Nat) : ∀ (i k : Nat), i + d = n → d < k →
    impl_heardFrom.l0 k h x (heardL h x i) n i = some (heardL h x n) := by
  induction d with
  | zero =>
    intro i k hi hk
    obtain ⟨k, rfl⟩ : ∃ m, k = m + 1 := ⟨k - 1, by omega⟩
    simp only [impl_heardFrom.l0]
    rw [if_neg (by omega), show i = n by omega]
  | succ d ih =>
    intro i k hi hk
    obtain ⟨k, rfl⟩ : ∃ m, k = m + 1 := ⟨k - 1, by omega⟩
    simp only [impl_heardFrom.l0]
    rw [if_pos (by omega), wid (x := x + i) (by omega) (by omega), strokes_val hd (by omega)]
    simp only [Option.bind_some]
    rw [heardL_length, if_pos (by omega), wid (x := (i : Int) + 1) (by omega) (by omega), ← heardL_succ]
    exact ih (i + 1) k (by omega) (by omega)
theorem heardFrom_val {h x : Int} {n : Nat} (hd : 2 ≤ h ∧ h ≤ 24) (hx : 0 ≤ x) (hx' : x ≤ 1000000) (hn : n ≤ 1000) (k : Nat) (hk : n < k) : impl_heardFrom.f k h x n = some (heardL h x n) :=
  heardFrom_loop hd hx hx' hn n 0 k (by omega) hk
theorem equalInt_loop (xs ys : List Int) (hl : xs.length ≤ 1000000000000) (he : xs.length = ys.length) (d : Nat) : ∀ (i k : Nat), i + d = xs.length → d < k → (xs.take i = ys.take i) → slices_Equal_int_int.l0 k xs ys (xs.length : Int) i = some (decide (xs = ys)) := by
  induction d with
  | zero =>
    intro i k hi hk ht
    obtain ⟨k, rfl⟩ : ∃ m, k = m + 1 := ⟨k - 1, by omega⟩
    simp only [slices_Equal_int_int.l0]
    rw [List.take_of_length_le (by omega), List.take_of_length_le (by omega)] at ht
    rw [if_neg (by omega), decide_eq_true ht]
  | succ d ih =>
    intro i k hi hk ht
    obtain ⟨k, rfl⟩ : ∃ m, k = m + 1 := ⟨k - 1, by omega⟩
    simp only [slices_Equal_int_int.l0]
    have hx : rd xs (i : Int) = xs[i]'(by omega) := by
      show xs.getD ((i : Int).toNat) 0 = _
      rw [show (i : Int).toNat = i by omega, List.getD_eq_getElem?_getD, List.getElem?_eq_getElem (by omega)]; rfl
    have hy : rd ys (i : Int) = ys[i]'(by omega) := by
      show ys.getD ((i : Int).toNat) 0 = _
      rw [show (i : Int).toNat = i by omega, List.getD_eq_getElem?_getD, List.getElem?_eq_getElem (by omega)]; rfl
    rw [if_pos (by omega), if_pos (by omega), if_pos (by omega), if_pos (by omega), hx, hy, wid (x := (i : Int) + 1) (by omega) (by omega)]
    by_cases e : xs[i]'(by omega) = ys[i]'(by omega)
    · rw [if_pos e]
      exact ih (i + 1) k (by omega) (by omega) (by rw [List.take_succ_eq_append_getElem (by omega), List.take_succ_eq_append_getElem (by omega), ht, e])
    · rw [if_neg e, decide_eq_false (fun h => e (by subst h; rfl))]
theorem equalInt_val (xs ys : List Int) (hl : xs.length ≤ 1000000000000) (k : Nat) (hk : xs.length < k) : slices_Equal_int_int.f k xs ys = some (decide (xs = ys)) := by
  unfold slices_Equal_int_int.f
  by_cases e : xs.length = ys.length
  · rw [if_pos (by omega)]
    exact equalInt_loop xs ys hl e xs.length 0 k (by omega) hk (by simp)
  · rw [if_neg (by omega), decide_eq_false (fun h => e (by rw [h]))]
theorem halvesOf_loop {h : Int} {xs : List Int} {n : Nat} (hd : 2 ≤ h ∧ h ≤ 24) (hn : (n : Int) = 2 * h) (hl : xs.length ≤ 1000) (d : Nat) : ∀ (i k : Nat), i + d = n → d + xs.length + 10 < k → impl_halvesOf.l0 k h xs (halvesL h xs i) n i = some (halvesL h xs n) := by
  induction d with
  | zero =>
    intro i k hi hk
    obtain ⟨k, rfl⟩ : ∃ m, k = m + 1 := ⟨k - 1, by omega⟩
    simp only [impl_halvesOf.l0]
    rw [if_neg (by omega), show i = n by omega]
  | succ d ih =>
    intro i k hi hk
    obtain ⟨k, rfl⟩ : ∃ m, k = m + 1 := ⟨k - 1, by omega⟩
    simp only [impl_halvesOf.l0]
    rw [if_pos (by omega), heardFrom_val hd (by omega) (by omega) hl k (by omega)]
    simp only [Option.bind_some]
    rw [equalInt_val _ _ (by rw [heardL_length]; omega) k (by rw [heardL_length]; omega)]
    simp only [Option.bind_some]
    rw [wid (x := (i : Int) + 1) (by omega) (by omega), if_pos (show (halvesL h xs i).length < 17592186044416 by have := halvesL_le h xs i; omega)]
    have := ih (i + 1) k (by omega) (by omega)
    rw [halvesL_succ] at this
    by_cases e : heardL h (i : Int) xs.length = xs
    · rw [if_pos e] at this
      rw [decide_eq_true e, if_pos rfl]; exact this
    · rw [if_neg e] at this
      rw [decide_eq_false e, if_neg (by simp)]; exact this
theorem halvesOf_val {h : Int} {xs : List Int} (hd : 2 ≤ h ∧ h ≤ 24) (hl : xs.length ≤ 1000) (k : Nat) (hk : xs.length + 70 < k) : impl_halvesOf.f k h xs = some (halvesL h xs (2 * h).toNat) := by
  unfold impl_halvesOf.f
  rw [wid (x := 2 * h) (by omega) (by omega)]
  have := halvesOf_loop hd (show (((2 * h).toNat : Nat) : Int) = 2 * h by omega) hl (2 * h).toNat 0 k (by omega) (by omega)
  rwa [show (((2 * h).toNat : Nat) : Int) = 2 * h by omega] at this
/-- Two increasing lists of the same numbers are one. -/
theorem strict_eq : ∀ (xs ys : List Int), xs.Pairwise (· < ·) → ys.Pairwise (· < ·) → (∀ a, a ∈ xs ↔ a ∈ ys) → xs = ys
  | [], [], _, _, _ => rfl
  | [], y :: ys, _, _, h => absurd ((h y).2 (List.mem_cons_self ..)) (by simp)
  | x :: xs, [], _, _, h => absurd ((h x).1 (List.mem_cons_self ..)) (by simp)
  | x :: xs, y :: ys, hx, hy, h => by
    rw [List.pairwise_cons] at hx hy
    have e : x = y := by
      have h1 := (h x).1 (List.mem_cons_self ..)
      have h2 := (h y).2 (List.mem_cons_self ..)
      rw [List.mem_cons] at h1 h2
      rcases h1 with rfl | h1
      · rfl
      · rcases h2 with rfl | h2
        · rfl
        · have := hx.1 y h2
          have := hy.1 x h1
          omega
    subst e
    rw [strict_eq xs ys hx.2 hy.2 fun a => ?_]
    have := h a
    rw [List.mem_cons, List.mem_cons] at this
    constructor
    · intro ha
      rcases this.1 (.inr ha) with rfl | hb
      · exact absurd (hx.1 _ ha) (by omega)
      · exact hb
    · intro ha
      rcases this.2 (.inr ha) with rfl | hb
      · exact absurd (hy.1 _ ha) (by omega)
      · exact hb
theorem get_of {d : Array Int} {i : Nat} (hi : i < d.size) : d[i]! = d[i] := getElem!_pos d i hi
/-- Of a list that never falls, each number once: increasing, and the same numbers. -/
theorem compact_strict (zs : List Int) (hs : zs.Pairwise (· ≤ ·)) : (Lib.compact zs).Pairwise (· < ·) := by
  unfold Lib.compact Lib.compactUpTo
  rw [List.pairwise_map]
  have hg : ∀ i j : Nat, i ≤ j → j < zs.length → zs.toArray[i]! ≤ zs.toArray[j]! := by
    intro i j hij hj
    rw [get_of (by simp; omega), get_of (by simp; omega)]
    by_cases e : i = j
    · subst e; omega
    · rw [List.pairwise_iff_getElem] at hs
      simpa using hs i j (by omega) hj (by omega)
  rw [List.pairwise_filter]
  refine List.Pairwise.imp_of_mem ?_ (List.pairwise_lt_range)
  intro i j hi hj hlt _ kj
  have hj' : j < zs.length := by simpa using hj
  unfold Lib.keeps at kj
  rcases of_decide_eq_true kj with h0 | hne
  · omega
  · have a := hg i (j - 1) (by omega) (by omega)
    have b := hg (j - 1) j (by omega) hj'
    omega
theorem compact_mem (zs : List Int) (a : Int) : a ∈ Lib.compact zs ↔ a ∈ zs := by
  unfold Lib.compact Lib.compactUpTo
  constructor
  · intro h
    obtain ⟨i, hi, rfl⟩ := List.mem_map.1 h
    have hi' : i < zs.length := by simpa using (List.mem_filter.1 hi).1
    rw [get_of (by simpa using hi')]
    simp
  · intro h
    have key : ∀ (n : Nat), n < zs.length → zs.toArray[n]! = a → ∃ m, m < zs.length ∧ zs.toArray[m]! = a ∧ Lib.keeps zs.toArray m = true := by
      intro n
      induction n with
      | zero => intro hn he; exact ⟨0, hn, he, by unfold Lib.keeps; simp⟩
      | succ n ih =>
        intro hn he
        by_cases e : zs.toArray[n]! = a
        · exact ih (by omega) e
        · exact ⟨n + 1, hn, he, by unfold Lib.keeps; rw [decide_eq_true_eq]; right; rw [he]; simp only [Nat.add_sub_cancel]; exact fun c => e c.symm⟩
    obtain ⟨n, hn, he⟩ := List.getElem_of_mem h
    obtain ⟨m, hm, em, km⟩ := key n hn (by rw [get_of (by simpa using hn)]; simpa using he)
    exact List.mem_map.2 ⟨m, List.mem_filter.2 ⟨by simpa using hm, km⟩, em⟩
theorem sorted_once (xs ys : List Int) (hy : ys.Pairwise (· < ·)) (hm : ∀ a, a ∈ ys ↔ a ∈ xs) : Lib.compact (xs.mergeSort fun x y => decide (x ≤ y)) = ys := by
  have hs : (xs.mergeSort fun x y => decide (x ≤ y)).Pairwise (· ≤ ·) := by
    have := List.pairwise_mergeSort (le := fun x y : Int => decide (x ≤ y)) (fun a b c h1 h2 => by simp at h1 h2 ⊢; omega) (fun a b => by simp; omega) xs
    exact this.imp (fun h => of_decide_eq_true h)
  refine strict_eq _ _ (compact_strict _ hs) hy fun a => ?_
  rw [compact_mem, List.mem_mergeSort, hm]
theorem l1Has_loop (n : Int) (xs : List Int) (hl : xs.length ≤ 1000) (d : Nat) : ∀ (i k : Nat), i + d = xs.length → d < k → spec_l1Has.l0 k n xs (xs.length : Int) i = some (decide (n ∈ xs.drop i)) := by
  induction d with
  | zero =>
    intro i k hi hk
    obtain ⟨k, rfl⟩ : ∃ m, k = m + 1 := ⟨k - 1, by omega⟩
    simp only [spec_l1Has.l0]
    rw [if_neg (by omega), List.drop_of_length_le (by omega)]
    simp
  | succ d ih =>
    intro i k hi hk
    obtain ⟨k, rfl⟩ : ∃ m, k = m + 1 := ⟨k - 1, by omega⟩
    have hr := ih (i + 1) k (by omega) (by omega)
    rw [show ((i + 1 : Nat) : Int) = (i : Int) + 1 from rfl] at hr
    have e : rd xs (i : Int) = xs[i]'(by omega) := by
      show xs.getD i 0 = _
      rw [List.getD_eq_getElem?_getD, List.getElem?_eq_getElem (by omega)]; rfl
    simp only [spec_l1Has.l0]
    rw [if_pos (by omega), if_pos (by omega), if_pos (by omega), wid (x := (i : Int) + 1) (by omega) (by omega), hr, List.drop_eq_getElem_cons (show i < xs.length by omega), e]
    by_cases c : xs[i]'(by omega) = n
    · rw [if_pos c, decide_eq_true (by rw [c]; exact List.mem_cons_self ..)]
    · rw [if_neg c]
      refine congrArg some (decide_eq_decide.mpr ?_)
      rw [List.mem_cons]
      exact ⟨fun h => Or.inr h, fun h => h.elim (fun e => absurd e.symm c) id⟩
theorem l1Has_val (n : Int) (xs : List Int) (hl : xs.length ≤ 1000) (k : Nat) (hk : xs.length < k) : spec_l1Has.f k xs n = some (decide (n ∈ xs)) := by
  have := l1Has_loop n xs hl xs.length 0 k (by omega) hk
  rwa [List.drop_zero] at this
theorem rd_nth (xs : List Int) (i : Nat) (hi : i < xs.length) : rd xs (i : Int) = xs[i] := by
  show xs.getD i 0 = _
  rw [List.getD_eq_getElem?_getD, List.getElem?_eq_getElem hi]; rfl
theorem l1Put_loop (n : Int) (xs : List Int) (hl : xs.length ≤ 1000) (hn : n ∉ xs) (d : Nat) : ∀ (i : Nat), i + d = xs.length → (∀ j (hj : j < xs.length), j < i → xs[j] < n) →
    ∃ m, m ≤ xs.length ∧ (∀ j (hj : j < xs.length), j < m → xs[j] < n) ∧ (∀ hm : m < xs.length, n < xs[m]) ∧ ∀ k, d < k → spec_l1Put.l0 k xs n i = some (xs.take m ++ n :: xs.drop m) := by
  induction d with
  | zero =>
    intro i hi ha
    refine ⟨i, by omega, ha, fun hm => by omega, fun k hk => ?_⟩
    obtain ⟨k, rfl⟩ : ∃ m, k = m + 1 := ⟨k - 1, by omega⟩
    simp only [spec_l1Put.l0]
    rw [if_neg (by omega)]
    simp only [Option.bind_some]
    rw [if_pos (by omega), if_pos (by omega), show (i : Int).toNat = i by omega]
    simp only [List.nil_append, List.length_nil]
    rw [if_pos (by rw [List.length_take]; omega), if_pos (by rw [List.length_take]; omega), if_pos (by rw [List.length_append, List.length_take, List.length_drop]; simp; omega)]
    simp
  | succ d ih =>
    intro i hi ha
    by_cases c : xs[i]'(by omega) < n
    · obtain ⟨m, m1, m2, m3, hr⟩ := ih (i + 1) (by omega) (fun j hj hlt => by
        by_cases e : j = i
        · subst e; exact c
        · exact ha j hj (by omega))
      refine ⟨m, m1, m2, m3, fun k hk => ?_⟩
      obtain ⟨k, rfl⟩ : ∃ m, k = m + 1 := ⟨k - 1, by omega⟩
      have := hr k (by omega)
      rw [show ((i + 1 : Nat) : Int) = (i : Int) + 1 from rfl] at this
      simp only [spec_l1Put.l0]
      rw [if_pos (by omega), if_pos (by omega), rd_nth xs i (by omega), if_pos c, wid (x := (i : Int) + 1) (by omega) (by omega)]
      exact this
    · have ne : xs[i]'(by omega) ≠ n := fun e => hn (by rw [← e]; exact List.getElem_mem _)
      refine ⟨i, by omega, ha, fun hm => by omega, fun k hk => ?_⟩
      obtain ⟨k, rfl⟩ : ∃ m, k = m + 1 := ⟨k - 1, by omega⟩
      simp only [spec_l1Put.l0]
      rw [if_pos (by omega), if_pos (by omega), rd_nth xs i (by omega), if_neg c, if_neg ne]
      simp only [Option.bind_some]
      rw [if_pos (by omega), show (i : Int).toNat = i by omega]
      simp only [List.nil_append, List.length_nil]
      rw [if_pos (by rw [List.length_take]; omega), if_pos (by rw [List.length_take]; omega), if_pos (by rw [List.length_append, List.length_take, List.length_drop]; simp; omega)]
      simp
/-- A number that is new is put into its place. -/
theorem l1Put_val (n : Int) (xs : List Int) (hl : xs.length ≤ 1000) (hn : n ∉ xs) (hs : xs.Pairwise (· < ·)) : ∃ ys : List Int, ys.Pairwise (· < ·) ∧ (∀ a, a ∈ ys ↔ a = n ∨ a ∈ xs) ∧ ys.length = xs.length + 1 ∧ ∀ k, xs.length < k → spec_l1Put.f k xs n = some ys := by
  obtain ⟨m, m1, m2, m3, hr⟩ := l1Put_loop n xs hl hn xs.length 0 (by omega) (fun j hj h => by omega)
  refine ⟨xs.take m ++ n :: xs.drop m, ?_, fun a => ?_, by rw [List.length_append, List.length_cons, List.length_take, List.length_drop]; omega, fun k hk => hr k hk⟩
  · rw [List.pairwise_append, List.pairwise_cons]
    rw [List.pairwise_iff_getElem] at hs
    have lo : ∀ a ∈ xs.take m, a < n := by
      intro a h
      obtain ⟨j, hj, rfl⟩ := List.getElem_of_mem h
      rw [List.length_take] at hj
      rw [List.getElem_take]
      exact m2 j (by omega) (by omega)
    have hi : ∀ a ∈ xs.drop m, n < a := by
      intro a h
      obtain ⟨j, hj, rfl⟩ := List.getElem_of_mem h
      rw [List.length_drop] at hj
      rw [List.getElem_drop]
      have b := m3 (by omega)
      by_cases e : j = 0
      · subst e; simpa using b
      · have := hs m (m + j) (by omega) (by omega) (by omega)
        omega
    rw [← List.pairwise_iff_getElem] at hs
    refine ⟨hs.sublist (List.take_sublist _ _), ⟨hi, hs.sublist (List.drop_sublist _ _)⟩, fun a ha b hb => ?_⟩
    rcases List.mem_cons.1 hb with rfl | hb
    · exact lo a ha
    · have := lo a ha
      have := hi b hb
      omega
  · rw [List.mem_append, List.mem_cons]
    have := List.take_append_drop m xs
    constructor
    · rintro (h | h | h)
      · exact .inr (List.mem_of_mem_take h)
      · exact .inl h
      · exact .inr (List.mem_of_mem_drop h)
    · rintro (h | h)
      · exact .inr (.inl h)
      · rw [← this, List.mem_append] at h
        rcases h with h | h
        · exact .inl h
        · exact .inr (.inr h)
/-- What is heard next, from each half. -/
def valsL (h n : Int) (hs : List Int) : List Int := hs.map fun x => st h ((x + n) % (2 * h))
theorem valsL_take (h n : Int) (hs : List Int) (i : Nat) (hi : i < hs.length) : (valsL h n hs).take (i + 1) = (valsL h n hs).take i ++ [st h ((hs[i] + n) % (2 * h))] := by
  unfold valsL
  rw [← List.map_take, ← List.map_take, List.take_succ_eq_append_getElem hi, List.map_append]; rfl
theorem valsL_drop (h n : Int) (hs : List Int) (i : Nat) (hi : i < hs.length) : (valsL h n hs).drop i = st h ((hs[i] + n) % (2 * h)) :: (valsL h n hs).drop (i + 1) := by
  unfold valsL
  rw [← List.map_drop, ← List.map_drop, List.drop_eq_getElem_cons hi, List.map_cons]
theorem iNext_loop {h : Int} {xs hs : List Int} (hd : 2 ≤ h ∧ h ≤ 24) (hx : xs.length ≤ 60) (hl : hs.length ≤ 48) (hb : ∀ x ∈ hs, 0 ≤ x ∧ x < 2 * h) (d : Nat) : ∀ (i k : Nat), i + d = hs.length → d < k →
    impl_NextHeard.l0 k h xs ((valsL h xs.length hs).take i) hs (hs.length : Int) i = some (Lib.compact ((valsL h xs.length hs).mergeSort fun x y => decide (x ≤ y)), true) := by
  have vl : (valsL h xs.length hs).length = hs.length := by simp [valsL]
  induction d with
  | zero =>
    intro i k hi hk
    obtain ⟨k, rfl⟩ : ∃ m, k = m + 1 := ⟨k - 1, by omega⟩
    simp only [impl_NextHeard.l0]
    rw [if_neg (by omega), List.take_of_length_le (by omega)]
    unfold slices_Sort_int_int.f slices_Compact_int_int.f
    rw [if_pos (by omega)]
    simp only [Option.bind_some]
    rw [if_pos (by rw [List.length_mergeSort]; omega)]
    rfl
  | succ d ih =>
    intro i k hi hk
    obtain ⟨k, rfl⟩ : ∃ m, k = m + 1 := ⟨k - 1, by omega⟩
    have b := hb _ (List.getElem_mem (show i < hs.length by omega))
    have hr := ih (i + 1) k (by omega) (by omega)
    rw [show ((i + 1 : Nat) : Int) = (i : Int) + 1 from rfl, valsL_take h _ hs i (by omega)] at hr
    simp only [impl_NextHeard.l0]
    rw [if_pos (by omega), if_pos (by omega), if_pos (by omega), rd_nth hs i (by omega), wid (x := hs[i]'(by omega) + (xs.length : Int)) (by omega) (by omega), strokes_val hd (by omega)]
    simp only [Option.bind_some]
    rw [if_pos (by rw [List.length_take]; omega), wid (x := (i : Int) + 1) (by omega) (by omega)]
    exact hr
theorem sNext_loop {h : Int} {xs hs : List Int} (hd : 2 ≤ h ∧ h ≤ 24) (hx : xs.length ≤ 60) (hl : hs.length ≤ 48) (hb : ∀ x ∈ hs, 0 ≤ x ∧ x < 2 * h) (d : Nat) : ∀ (i : Nat) (out : List Int), i + d = hs.length → out.length ≤ i → out.Pairwise (· < ·) →
    ∃ res : List Int, res.Pairwise (· < ·) ∧ (∀ a, a ∈ res ↔ a ∈ out ∨ a ∈ (valsL h xs.length hs).drop i) ∧ res.length ≤ 48 ∧ ∀ k, 100 + d ≤ k → spec_NextHeard.l0 k h xs out hs (hs.length : Int) i = some (res, true) := by
  have vl : (valsL h xs.length hs).length = hs.length := by simp [valsL]
  induction d with
  | zero =>
    intro i out hi ho hs'
    refine ⟨out, hs', fun a => by rw [List.drop_of_length_le (by omega)]; simp, by omega, fun k hk => ?_⟩
    obtain ⟨k, rfl⟩ : ∃ m, k = m + 1 := ⟨k - 1, by omega⟩
    simp only [spec_NextHeard.l0]
    rw [if_neg (by omega)]
  | succ d ih =>
    intro i out hi ho hs'
    have b := hb _ (List.getElem_mem (show i < hs.length by omega))
    have m0 : 0 ≤ (hs[i]'(by omega) + (xs.length : Int)) % (2 * h) := Int.emod_nonneg _ (by omega)
    have m1 : (hs[i]'(by omega) + (xs.length : Int)) % (2 * h) < 2 * h := Int.emod_lt_of_pos _ (by omega)
    have step : ∀ k, 100 + d ≤ k → spec_NextHeard.l0 (k + 1) h xs out hs (hs.length : Int) i = (if decide (st h ((hs[i]'(by omega) + (xs.length : Int)) % (2 * h)) ∈ out) = true then spec_NextHeard.l0 k h xs out hs (hs.length : Int) ((i : Int) + 1) else (spec_l1Put.f k out (st h ((hs[i]'(by omega) + (xs.length : Int)) % (2 * h)))).bind fun t => spec_NextHeard.l0 k h xs t hs (hs.length : Int) ((i : Int) + 1)) := by
      intro k hk
      simp only [spec_NextHeard.l0]
      rw [if_pos (by omega), if_pos (by omega), if_pos (by omega), wid (x := 2 * h) (by omega) (by omega), if_neg (by omega), rd_nth hs i (by omega), wid (x := hs[i]'(by omega) + (xs.length : Int)) (by omega) (by omega), tmod_nn _ (by omega), stAt_val _ m0 (by omega), wid (x := (i : Int) + 1) (by omega) (by omega)]
      simp only [Option.bind_some]
      rw [l1Has_val _ out (by omega) k (by omega)]
      rfl
    by_cases c : st h ((hs[i]'(by omega) + (xs.length : Int)) % (2 * h)) ∈ out
    · obtain ⟨res, r1, r2, r3, hr⟩ := ih (i + 1) out (by omega) (by omega) hs'
      refine ⟨res, r1, fun a => ?_, r3, fun k hk => ?_⟩
      · rw [r2, valsL_drop h _ hs i (by omega), List.mem_cons]
        constructor
        · rintro (h | h)
          · exact .inl h
          · exact .inr (.inr h)
        · rintro (h | h | h)
          · exact .inl h
          · exact .inl (by rw [h]; exact c)
          · exact .inr h
      · obtain ⟨k, rfl⟩ : ∃ m, k = m + 1 := ⟨k - 1, by omega⟩
        rw [step k (by omega), decide_eq_true c, if_pos rfl]
        exact hr k (by omega)
    · obtain ⟨out', o1, o2, o3, hp⟩ := l1Put_val _ out (by omega) c hs'
      obtain ⟨res, r1, r2, r3, hr⟩ := ih (i + 1) out' (by omega) (by omega) o1
      refine ⟨res, r1, fun a => ?_, r3, fun k hk => ?_⟩
      · rw [r2, o2, valsL_drop h _ hs i (by omega), List.mem_cons]
        constructor
        · rintro ((h | h) | h)
          · exact .inr (.inl h)
          · exact .inl h
          · exact .inr (.inr h)
        · rintro (h | h | h)
          · exact .inl (.inr h)
          · exact .inl (.inl h)
          · exact .inr h
      · obtain ⟨k, rfl⟩ : ∃ m, k = m + 1 := ⟨k - 1, by omega⟩
        rw [step k (by omega), decide_eq_false c, if_neg (by simp), hp k (by omega)]
        exact hr k (by omega)
theorem halvesL_bd {h : Int} (hh : 2 ≤ h) (xs : List Int) : ∀ x ∈ halvesL h xs (2 * h).toNat, 0 ≤ x ∧ x < 2 * h := by
  intro x hx
  unfold halvesL at hx
  obtain ⟨i, hi, rfl⟩ := List.mem_map.1 hx
  have := List.mem_range.1 (List.mem_filter.1 hi).1
  omega
theorem next_both (h : Int) (xs : List Int) (hl : xs.length ≤ 1048576) : ∃ ys : List Int, ys.length ≤ 48 ∧ (∀ k, xs.length + 300 < k → spec_NextHeard.f k h xs = some (ys, isL h xs) ∧ impl_NextHeard.f k h xs = some (ys, isL h xs)) ∧ (isL h xs = true → ys.Pairwise (· < ·) ∧ ∀ a, a ∈ ys ↔ a ∈ valsL h xs.length (halvesL h xs (2 * h).toNat)) := by
  by_cases hq : isL h xs = true
  · obtain ⟨hd, h1, h2⟩ := isL_bd hq
    have hle := halvesL_le h xs (2 * h).toNat
    have hb := halvesL_bd hd.1 xs
    obtain ⟨res, r1, r2, r3, hr⟩ := sNext_loop hd h2 (hs := halvesL h xs (2 * h).toNat) (by omega) hb (halvesL h xs (2 * h).toNat).length 0 [] (by omega) (by simp) List.Pairwise.nil
    refine ⟨res, r3, fun k hk => ?_, fun _ => ⟨r1, fun a => by rw [r2]; simp⟩⟩
    unfold spec_NextHeard.f impl_NextHeard.f
    rw [stHeard_val h xs hl k (by omega), isHeardList_val, hq]
    simp only [Option.bind_some, if_true]
    rw [stHalves_val hd (by omega) k (by omega), halvesOf_val hd (by omega) k (by omega)]
    simp only [Option.bind_some]
    have a := hr k (by omega)
    have b := iNext_loop hd h2 (hs := halvesL h xs (2 * h).toNat) (by omega) hb (halvesL h xs (2 * h).toNat).length 0 k (by omega) (by omega)
    rw [List.take_zero] at b
    rw [sorted_once _ res r1 (fun a => by rw [r2]; simp)] at b
    exact ⟨a, b⟩
  · have e : isL h xs = false := by simpa using hq
    refine ⟨[], by simp, fun k hk => ?_, fun c => absurd c hq⟩
    unfold spec_NextHeard.f impl_NextHeard.f
    rw [stHeard_val h xs hl k (by omega), isHeardList_val, e]
    exact ⟨rfl, rfl⟩
theorem halves_both (h : Int) (xs : List Int) (hl : xs.length ≤ 1048576) : ∃ ys : List Int, ys.length ≤ 48 ∧ (∀ k, xs.length + 200 < k → spec_HalvesOfHeard.f k h xs = some (ys, isL h xs) ∧ impl_HalvesOfHeard.f k h xs = some (ys, isL h xs) ∧ spec_IsHeard.f k h xs = some (decide ((ys.length : Int) > 0), isL h xs) ∧ impl_IsHeard.f k h xs = some (decide ((ys.length : Int) > 0), isL h xs)) ∧ (isL h xs = true → ys = halvesL h xs (2 * h).toNat) := by
  by_cases hq : isL h xs = true
  · obtain ⟨hd, h1, h2⟩ := isL_bd hq
    refine ⟨halvesL h xs (2 * h).toNat, by have := halvesL_le h xs (2 * h).toNat; omega, fun k hk => ?_, fun _ => rfl⟩
    unfold spec_IsHeard.f impl_IsHeard.f spec_HalvesOfHeard.f impl_HalvesOfHeard.f
    rw [stHeard_val h xs hl k (by omega), isHeardList_val, hq]
    simp only [Option.bind_some, if_true]
    rw [stHalves_val hd (by omega) k (by omega), halvesOf_val hd (by omega) k (by omega)]
    exact ⟨rfl, rfl, rfl, rfl⟩
  · have e : isL h xs = false := by simpa using hq
    refine ⟨[], by simp, fun k hk => ?_, fun c => absurd c hq⟩
    unfold spec_IsHeard.f impl_IsHeard.f spec_HalvesOfHeard.f impl_HalvesOfHeard.f
    rw [stHeard_val h xs hl k (by omega), isHeardList_val, e]
    exact ⟨rfl, rfl, rfl, rfl⟩
theorem iHalves_yes {h : Int} {xs : List Int} (hq : isL h xs = true) (k : Nat) (hk : 200 ≤ k) : impl_HalvesOfHeard.f k h xs = some (halvesL h xs (2 * h).toNat, true) := by
  obtain ⟨hd, h1, h2⟩ := isL_bd hq
  unfold impl_HalvesOfHeard.f
  rw [isHeardList_val, hq]
  simp only [Option.bind_some, if_true]
  rw [halvesOf_val hd (by omega) k (by omega)]
  rfl
theorem kSame_loop (xs ys : List Int) (hl : xs.length ≤ 1000) (he : xs.length = ys.length) (d : Nat) : ∀ (i k : Nat), i + d = xs.length → d < k → laws_kSame.l0 k xs ys (xs.length : Int) i = some (decide (xs.drop i = ys.drop i)) := by
  induction d with
  | zero =>
    intro i k hi hk
    obtain ⟨k, rfl⟩ : ∃ m, k = m + 1 := ⟨k - 1, by omega⟩
    simp only [laws_kSame.l0]
    rw [if_neg (by omega), List.drop_of_length_le (by omega), List.drop_of_length_le (by omega)]
    simp
  | succ d ih =>
    intro i k hi hk
    obtain ⟨k, rfl⟩ : ∃ m, k = m + 1 := ⟨k - 1, by omega⟩
    have hr := ih (i + 1) k (by omega) (by omega)
    rw [show ((i + 1 : Nat) : Int) = (i : Int) + 1 from rfl] at hr
    simp only [laws_kSame.l0]
    have e1 := List.drop_eq_getElem_cons (l := xs) (i := i) (by omega)
    have e2 := List.drop_eq_getElem_cons (l := ys) (i := i) (by omega)
    rw [if_pos (by omega), if_pos (by omega), if_pos (by omega), if_pos (by omega), rd_nth xs i (by omega), rd_nth ys i (by omega), wid (x := (i : Int) + 1) (by omega) (by omega), hr, e1, e2]
    by_cases c : xs[i]'(by omega) = ys[i]'(by omega)
    · rw [if_pos c]
      refine congrArg some (decide_eq_decide.mpr ⟨fun e => by rw [c, e], fun e => (List.cons.inj e).2⟩)
    · rw [if_neg c, decide_eq_false (fun e => c (List.cons.inj e).1)]
theorem kSame_val (xs ys : List Int) (hl : xs.length ≤ 1000) (k : Nat) (hk : xs.length < k) : laws_kSame.f k xs ys = some (decide (xs = ys)) := by
  unfold laws_kSame.f
  by_cases he : xs.length = ys.length
  · rw [if_pos (by omega)]
    have := kSame_loop xs ys hl he xs.length 0 k (by omega) hk
    rwa [List.drop_zero, List.drop_zero] at this
  · rw [if_neg (by omega), decide_eq_false (fun e => he (by rw [e]))]
theorem kHas_loop (n : Int) (xs : List Int) (hl : xs.length ≤ 1000) (d : Nat) : ∀ (i k : Nat), i + d = xs.length → d < k → laws_kHas.l0 k n xs (xs.length : Int) i = some (decide (n ∈ xs.drop i)) := by
  induction d with
  | zero =>
    intro i k hi hk
    obtain ⟨k, rfl⟩ : ∃ m, k = m + 1 := ⟨k - 1, by omega⟩
    simp only [laws_kHas.l0]
    rw [if_neg (by omega), List.drop_of_length_le (by omega)]
    simp
  | succ d ih =>
    intro i k hi hk
    obtain ⟨k, rfl⟩ : ∃ m, k = m + 1 := ⟨k - 1, by omega⟩
    have hr := ih (i + 1) k (by omega) (by omega)
    rw [show ((i + 1 : Nat) : Int) = (i : Int) + 1 from rfl] at hr
    simp only [laws_kHas.l0]
    rw [if_pos (by omega), if_pos (by omega), if_pos (by omega), wid (x := (i : Int) + 1) (by omega) (by omega), hr, List.drop_eq_getElem_cons (show i < xs.length by omega), rd_nth xs i (by omega)]
    by_cases c : xs[i]'(by omega) = n
    · rw [if_pos c, decide_eq_true (by rw [c]; exact List.mem_cons_self ..)]
    · rw [if_neg c]
      refine congrArg some (decide_eq_decide.mpr ?_)
      rw [List.mem_cons]
      exact ⟨fun h => Or.inr h, fun h => h.elim (fun e => absurd e.symm c) id⟩
theorem kHas_val (n : Int) (xs : List Int) (hl : xs.length ≤ 1000) (k : Nat) (hk : xs.length < k) : laws_kHas.f k xs n = some (decide (n ∈ xs)) := by
  have := kHas_loop n xs hl xs.length 0 k (by omega) hk
  rwa [List.drop_zero] at this
theorem iFrom_yes {h x n : Int} (hi : isH h x) (h1 : 1 ≤ n) (hn : n ≤ 60) (k : Nat) (hk : 62 ≤ k) : impl_HeardFrom.f k h x n = some (heardL h x n.toNat, true) := by
  obtain ⟨hd, h0, hx⟩ := id hi
  obtain ⟨n, rfl⟩ := Int.eq_ofNat_of_zero_le (show 0 ≤ n by omega)
  unfold impl_HeardFrom.f
  simp only [isHalf_val, within_val, Option.bind_some, decide_eq_true hi, decide_eq_true (show 1 ≤ (n : Int) ∧ (n : Int) ≤ 60 from ⟨h1, hn⟩), if_true]
  rw [heardFrom_val hd h0 (by omega) (by omega) k (by omega)]
  rfl
theorem heardL_isL {h x : Int} {n : Nat} (hi : isH h x) (h1 : 1 ≤ n) (hn : n ≤ 60) : isL h (heardL h x n) = true := by
  obtain ⟨hd, h0, hx⟩ := hi
  unfold isL
  rw [heardL_length, decide_eq_true hd, decide_eq_true (by omega)]
  simp only [Bool.true_and]
  rw [List.all_eq_true]
  intro y hy
  obtain ⟨i, _, rfl⟩ := List.mem_map.1 hy
  have m0 : 0 ≤ (x + (i : Int)) % (2 * h) := Int.emod_nonneg _ (by omega)
  have m1 : (x + (i : Int)) % (2 * h) < 2 * h := Int.emod_lt_of_pos _ (by omega)
  have p := st_pos (h := h) hd.1 m0
  have q := st_le (h := h) hd.1 m1
  exact decide_eq_true (show isN _ from ⟨p, by omega⟩)
theorem heardL_take (h x : Int) (n m : Nat) (hm : m ≤ n) : (heardL h x n).take m = heardL h x m := by
  unfold heardL
  rw [← List.map_take, List.take_range, Nat.min_eq_left hm]
/-- After how many halves it is known, and that it is so. -/
def knownT (d x : Int) : Bool :=
  match impl_KnownAfter.f 200 d x, spec_KnownAfter.f 200 d x with
  | some (n, true), some (m, true) => decide (n = m ∧ 1 ≤ n ∧ n ≤ 60 ∧ halvesL d (heardL d x n.toNat) (2 * d).toNat = [x] ∧ (n > 1 → 2 ≤ (halvesL d (heardL d x (n - 1).toNat) (2 * d).toNat).length))
  | _, _ => false
theorem known_all : ∀ d : Fin 25, 2 ≤ d.val → ∀ x : Fin 48, x.val < 2 * d.val → knownT (d.val : Int) (x.val : Int) = true := by decide +kernel
theorem known_at {d x : Int} (hi : isH d x) : ∃ n : Int, (∀ k, 200 ≤ k → impl_KnownAfter.f k d x = some (n, true) ∧ spec_KnownAfter.f k d x = some (n, true)) ∧ 1 ≤ n ∧ n ≤ 60 ∧ halvesL d (heardL d x n.toNat) (2 * d).toNat = [x] ∧ (n > 1 → 2 ≤ (halvesL d (heardL d x (n - 1).toNat) (2 * d).toNat).length) := by
  obtain ⟨hd, h0, hx⟩ := hi
  have H := known_all ⟨d.toNat, by omega⟩ (by show 2 ≤ d.toNat; omega) ⟨x.toNat, by omega⟩ (by show x.toNat < 2 * d.toNat; omega)
  simp only [show ((d.toNat : Nat) : Int) = d by omega, show ((x.toNat : Nat) : Int) = x by omega] at H
  unfold knownT at H
  split at H
  · rename_i n m e1 e2
    obtain ⟨a1, a2, a3, a4, a5⟩ := of_decide_eq_true H
    subst a1
    exact ⟨n, fun k hk => ⟨at_rounds (g := fun k => impl_KnownAfter.f k d x) (fun k => impl_KnownAfter.mono d x k) hk e1, at_rounds (g := fun k => spec_KnownAfter.f k d x) (fun k => spec_KnownAfter.mono d x k) hk e2⟩, a2, a3, a4, a5⟩
  · cases H
theorem known_no {d x : Int} (hi : ¬ isH d x) (k : Nat) : impl_KnownAfter.f k d x = some (0, false) ∧ spec_KnownAfter.f k d x = some (0, false) := by
  unfold impl_KnownAfter.f spec_KnownAfter.f
  simp only [isHalf_val, stHalf_val, Option.bind_some, decide_eq_false hi]
  exact ⟨rfl, rfl⟩
/-- From which halves it takes longest, and how long. -/
def longT (l : Int) : Bool :=
  match impl_LongestUnknown.f 200 l, spec_LongestUnknown.f 200 l with
  | some (xs, m, true), some (ys, n, true) => decide (xs = ys ∧ m = n ∧ xs.length ≤ 48) && (List.range (2 * l).toNat).all fun (i : Nat) => match impl_KnownAfter.f 200 l (i : Int) with
    | some (c, _) => decide (c ≤ m) && (decide (c = m) == decide ((i : Int) ∈ xs))
    | _ => false
  | _, _ => false
theorem long_all : ∀ l : Fin 25, 2 ≤ l.val → longT (l.val : Int) = true := by decide +kernel
theorem long_at {l : Int} (hd : 2 ≤ l ∧ l ≤ 24) : ∃ (xs : List Int) (m : Int), xs.length ≤ 48 ∧ (∀ k, 200 ≤ k → impl_LongestUnknown.f k l = some (xs, m, true) ∧ spec_LongestUnknown.f k l = some (xs, m, true)) ∧ ∀ (x : Nat) (c : Int) (b : Bool), (x : Int) < 2 * l → impl_KnownAfter.f 200 l x = some (c, b) → c ≤ m ∧ (c == m) = decide ((x : Int) ∈ xs) := by
  have H := long_all ⟨l.toNat, by omega⟩ (by show 2 ≤ l.toNat; omega)
  simp only [show ((l.toNat : Nat) : Int) = l by omega] at H
  unfold longT at H
  split at H
  · rename_i xs m ys n e1 e2
    rw [Bool.and_eq_true, List.all_eq_true] at H
    obtain ⟨H1, H2⟩ := H
    obtain ⟨a1, a2, a3⟩ := of_decide_eq_true H1
    subst a1; subst a2
    refine ⟨xs, m, a3, fun k hk => ⟨at_rounds (g := fun k => impl_LongestUnknown.f k l) (fun k => impl_LongestUnknown.mono l k) hk e1, at_rounds (g := fun k => spec_LongestUnknown.f k l) (fun k => spec_LongestUnknown.mono l k) hk e2⟩, fun x c b hx hc => ?_⟩
    have := H2 x (List.mem_range.2 (by omega))
    rw [hc] at this
    simp only [Bool.and_eq_true, decide_eq_true_eq, beq_iff_eq] at this
    refine ⟨this.1, ?_⟩
    rw [← this.2]
    by_cases e : c = m
    · rw [decide_eq_true e, beq_iff_eq.mpr e]
    · rw [decide_eq_false e, beq_eq_false_iff_ne.mpr e]
  · cases H
theorem long_no {l : Int} (hd : ¬ (2 ≤ l ∧ l ≤ 24)) (k : Nat) : impl_LongestUnknown.f k l = some ([], 0, false) ∧ spec_LongestUnknown.f k l = some ([], 0, false) := by
  unfold impl_LongestUnknown.f spec_LongestUnknown.f
  simp only [isDial_val, diHours_val, Option.bind_some, decide_eq_false hd]
  exact ⟨rfl, rfl⟩
theorem l3_val {l m : Int} {xs : List Int} (hd : 2 ≤ l ∧ l ≤ 24) (hx : xs.length ≤ 48) (H : ∀ (x : Nat) (c : Int) (b : Bool), (x : Int) < 2 * l → impl_KnownAfter.f 200 l x = some (c, b) → c ≤ m ∧ (c == m) = decide ((x : Int) ∈ xs)) (d : Nat) : ∀ (x k : Nat), (x : Int) + d = 2 * l → 210 + d ≤ k → laws_FnStrokesHeardOfAll.l3 k l xs m x = some true := by
  induction d with
  | zero =>
    intro x k hi hk
    obtain ⟨k, rfl⟩ : ∃ m, k = m + 1 := ⟨k - 1, by omega⟩
    simp only [laws_FnStrokesHeardOfAll.l3]
    rw [wid (x := 2 * l) (by omega) (by omega), if_neg (by omega)]
  | succ d ih =>
    intro x k hi hk
    obtain ⟨k, rfl⟩ : ∃ m, k = m + 1 := ⟨k - 1, by omega⟩
    have hr := ih (x + 1) k (by omega) (by omega)
    rw [show ((x + 1 : Nat) : Int) = (x : Int) + 1 from rfl] at hr
    obtain ⟨n, e, _, _, _, _⟩ := known_at (d := l) (x := x) ⟨hd, by omega, by omega⟩
    obtain ⟨a, b⟩ := H x n true (by omega) (e 200 (by omega)).1
    simp only [laws_FnStrokesHeardOfAll.l3]
    rw [wid (x := 2 * l) (by omega) (by omega), if_pos (by omega), (e k (by omega)).1]
    simp only [Option.bind_some, if_true]
    rw [if_neg (show ¬ n > m by omega), kHas_val _ xs (by omega) k (by omega)]
    simp only [Option.bind_some]
    rw [b, bne_self_eq_false, if_neg (by simp), wid (x := (x : Int) + 1) (by omega) (by omega)]
    exact hr
theorem j9_val {l m : Int} {xs : List Int} (b : Bool) (hb : b = true → (2 ≤ l ∧ l ≤ 24) ∧ xs.length ≤ 48 ∧ ∀ (x : Nat) (c : Int) (b : Bool), (x : Int) < 2 * l → impl_KnownAfter.f 200 l x = some (c, b) → c ≤ m ∧ (c == m) = decide ((x : Int) ∈ xs)) (k : Nat) (hk : 300 ≤ k) : laws_FnStrokesHeardOfAll.j9 k l xs m b = some true := by
  obtain ⟨k, rfl⟩ : ∃ m, k = m + 1 := ⟨k - 1, by omega⟩
  simp only [laws_FnStrokesHeardOfAll.j9]
  cases b with
  | false => rfl
  | true =>
    obtain ⟨hd, hx, H⟩ := hb rfl
    rw [if_pos rfl]
    exact l3_val hd hx H (2 * l).toNat 0 k (by omega) (by omega)
theorem j7_val {d x l m n : Int} {xs : List Int} (f b : Bool) (hf : f = true → isH d x ∧ 1 ≤ n ∧ n ≤ 60 ∧ halvesL d (heardL d x n.toNat) (2 * d).toNat = [x] ∧ (n > 1 → 2 ≤ (halvesL d (heardL d x (n - 1).toNat) (2 * d).toNat).length)) (hb : b = true → (2 ≤ l ∧ l ≤ 24) ∧ xs.length ≤ 48 ∧ ∀ (x : Nat) (c : Int) (b : Bool), (x : Int) < 2 * l → impl_KnownAfter.f 200 l x = some (c, b) → c ≤ m ∧ (c == m) = decide ((x : Int) ∈ xs)) (k : Nat) (hk : 400 ≤ k) : laws_FnStrokesHeardOfAll.j7 k d x l n f xs m b false = some true := by
  obtain ⟨k, rfl⟩ : ∃ m, k = m + 2 := ⟨k - 2, by omega⟩
  simp only [laws_FnStrokesHeardOfAll.j7, Bool.false_eq_true, if_false]
  cases f with
  | false => exact j9_val b hb (k + 1) (by omega)
  | true =>
    obtain ⟨hi, n1, n2, e1, e2⟩ := hf rfl
    rw [if_pos rfl, iFrom_yes hi n1 n2 (k + 1) (by omega)]
    simp only [Option.bind_some]
    rw [iHalves_yes (heardL_isL hi (by omega) (by omega)) (k + 1) (by omega), e1]
    simp only [Option.bind_some, if_true, List.length_singleton]
    rw [if_pos (by decide), if_pos (by decide), show rd [x] 0 = x from rfl, bne_self_eq_false]
    simp only [laws_FnStrokesHeardOfAll.j8, Bool.false_eq_true, if_false]
    by_cases c : n > 1
    · have e3 := e2 c
      rw [if_pos c, wid (x := n - 1) (by omega) (by omega), if_pos (by omega), heardL_length, if_pos (by omega), heardL_take d x n.toNat (n - 1).toNat (by omega), iHalves_yes (heardL_isL hi (by omega) (by omega)) k (by omega)]
      simp only [Option.bind_some, if_true]
      rw [if_neg (by omega)]
      exact j9_val b hb k (by omega)
    · rw [if_neg c]
      exact j9_val b hb k (by omega)
theorem j6_val (d x l : Int) (k : Nat) (hk : 500 ≤ k) : laws_FnStrokesHeardOfAll.j6 k d x l = some true := by
  obtain ⟨k, rfl⟩ : ∃ m, k = m + 1 := ⟨k - 1, by omega⟩
  obtain ⟨n, f, e1, e2, hf⟩ : ∃ (n : Int) (f : Bool), impl_KnownAfter.f k d x = some (n, f) ∧ spec_KnownAfter.f k d x = some (n, f) ∧ (f = true → isH d x ∧ 1 ≤ n ∧ n ≤ 60 ∧ halvesL d (heardL d x n.toNat) (2 * d).toNat = [x] ∧ (n > 1 → 2 ≤ (halvesL d (heardL d x (n - 1).toNat) (2 * d).toNat).length)) := by
    by_cases hi : isH d x
    · obtain ⟨n, e, a⟩ := known_at hi
      exact ⟨n, true, (e k (by omega)).1, (e k (by omega)).2, fun _ => ⟨hi, a⟩⟩
    · exact ⟨0, false, (known_no hi k).1, (known_no hi k).2, by simp⟩
  obtain ⟨xs, m, b, e3, e4, hx, hb⟩ : ∃ (xs : List Int) (m : Int) (b : Bool), impl_LongestUnknown.f k l = some (xs, m, b) ∧ spec_LongestUnknown.f k l = some (xs, m, b) ∧ xs.length ≤ 48 ∧ (b = true → (2 ≤ l ∧ l ≤ 24) ∧ xs.length ≤ 48 ∧ ∀ (x : Nat) (c : Int) (b : Bool), (x : Int) < 2 * l → impl_KnownAfter.f 200 l x = some (c, b) → c ≤ m ∧ (c == m) = decide ((x : Int) ∈ xs)) := by
    by_cases hd : 2 ≤ l ∧ l ≤ 24
    · obtain ⟨xs, m, hx, e, H⟩ := long_at hd
      exact ⟨xs, m, true, (e k (by omega)).1, (e k (by omega)).2, hx, fun _ => ⟨hd, hx, H⟩⟩
    · exact ⟨[], 0, false, (long_no hd k).1, (long_no hd k).2, by simp, by simp⟩
  simp only [laws_FnStrokesHeardOfAll.j6]
  rw [e1, e2, e3, e4]
  simp only [Option.bind_some, bne_self_eq_false, Bool.false_eq_true, if_false, if_true]
  rw [kSame_val xs xs (by omega) k (by omega), decide_eq_true rfl]
  simp only [Option.bind_some, if_true]
  exact j7_val f b hf hb k (by omega)
/-- What is heard next after these halves. -/
def nx (h : Int) (xs : List Int) (x : Int) : Int := st h ((x + (xs.length : Int)) % (2 * h))
theorem halvesL_more (h : Int) (xs : List Int) (n : Int) (m : Nat) : halvesL h (xs ++ [n]) m = (halvesL h xs m).filter fun x => decide (nx h xs x = n) := by
  unfold halvesL
  rw [List.filter_map, List.filter_filter]
  congr 1
  refine List.filter_congr fun i _ => ?_
  simp only [Function.comp]
  rw [List.length_append, List.length_singleton, heardL_succ, ← Bool.decide_and]
  refine decide_eq_decide.mpr ?_
  constructor
  · intro e
    have := List.append_inj e (by rw [heardL_length])
    exact ⟨by have := this.2; unfold nx; simpa using this, this.1⟩
  · rintro ⟨a, b⟩
    rw [b]; unfold nx at a; rw [a]
theorem filter_add (H : List Int) (p q : Int → Bool) (hpq : ∀ x, p x = true → q x = false) : (H.filter p).length + (H.filter q).length = (H.filter fun x => p x || q x).length := by
  induction H with
  | nil => rfl
  | cons x H ih =>
    have := hpq x
    rw [List.filter_cons, List.filter_cons, List.filter_cons]
    cases hp : p x <;> cases hq : q x <;> simp [hp, hq] at this ⊢ <;> omega
/-- How many halves go on with one of these numbers. -/
def tot (h : Int) (xs ns : List Int) : Int := (((halvesL h xs (2 * h).toNat).filter fun x => decide (nx h xs x ∈ ns)).length : Int)
theorem tot_snoc (h : Int) (xs ns : List Int) (n : Int) (hn : n ∉ ns) : tot h xs (ns ++ [n]) = tot h xs ns + ((halvesL h (xs ++ [n]) (2 * h).toNat).length : Int) := by
  unfold tot
  rw [halvesL_more, ← Int.natCast_add, filter_add _ _ _ (fun x hx => decide_eq_false (fun e => hn (by rw [← e]; exact of_decide_eq_true hx)))]
  congr 2
  refine List.filter_congr fun x _ => ?_
  rw [← Bool.decide_or]
  refine decide_eq_decide.mpr ?_
  rw [List.mem_append, List.mem_singleton]
theorem tot_bd (h : Int) (xs ns : List Int) : 0 ≤ tot h xs ns ∧ tot h xs ns ≤ (halvesL h xs (2 * h).toNat).length := by
  unfold tot
  have := List.length_filter_le (fun x => decide (nx h xs x ∈ ns)) (halvesL h xs (2 * h).toNat)
  omega
theorem l2_val {h d x l t : Int} {xs ns Hs : List Int} {i : Nat} (hH : Hs.length ≤ 48) (hs : ∀ y ∈ halvesL h xs (2 * h).toNat, True) (hl : (halvesL h xs (2 * h).toNat).length ≤ 48) (hsub : ∀ y ∈ Hs, y ∈ halvesL h xs (2 * h).toNat) (g : Nat) : ∀ (j k : Nat), j + g = Hs.length → 60 + g ≤ k →
    ∃ k', k ≤ k' + g + 1 ∧ laws_FnStrokesHeardOfAll.l2 k h xs d x l (halvesL h xs (2 * h).toNat) t Hs ns (ns.length : Int) i Hs (Hs.length : Int) j = laws_FnStrokesHeardOfAll.l1 k' h xs d x l (halvesL h xs (2 * h).toNat) (wrap64 (t + (Hs.length : Int))) ns (ns.length : Int) (wrap64 ((i : Int) + 1)) := by
  induction g with
  | zero =>
    intro j k hj hk
    obtain ⟨k, rfl⟩ : ∃ m, k = m + 1 := ⟨k - 1, by omega⟩
    refine ⟨k, by omega, ?_⟩
    simp only [laws_FnStrokesHeardOfAll.l2]
    rw [if_neg (by omega)]
  | succ g ih =>
    intro j k hj hk
    obtain ⟨k, rfl⟩ : ∃ m, k = m + 1 := ⟨k - 1, by omega⟩
    obtain ⟨k', hk', hr⟩ := ih (j + 1) k (by omega) (by omega)
    rw [show ((j + 1 : Nat) : Int) = (j : Int) + 1 from rfl] at hr
    refine ⟨k', by omega, ?_⟩
    simp only [laws_FnStrokesHeardOfAll.l2]
    rw [if_pos (by omega), if_pos (by omega), if_pos (by omega), rd_nth Hs j (by omega), kHas_val _ _ (by omega) k (by omega), decide_eq_true (hsub _ (List.getElem_mem _))]
    simp only [Option.bind_some, if_true]
    rw [wid (x := (j : Int) + 1) (by omega) (by omega)]
    exact hr
theorem l1_val {h d x l : Int} {xs ns : List Int} (hq : isL h xs = true) (hl : xs.length < 60) (hn : ns.length ≤ 48) (hp : ns.Pairwise (· < ·)) (hm : ∀ a, a ∈ ns ↔ a ∈ valsL h xs.length (halvesL h xs (2 * h).toNat)) (g : Nat) : ∀ (i k : Nat), i + g = ns.length → 600 + 60 * g ≤ k →
    laws_FnStrokesHeardOfAll.l1 k h xs d x l (halvesL h xs (2 * h).toNat) (tot h xs (ns.take i)) ns (ns.length : Int) i = some true := by
  obtain ⟨hd, x1, x2⟩ := isL_bd hq
  have hle := halvesL_le h xs (2 * h).toNat
  induction g with
  | zero =>
    intro i k hi hk
    obtain ⟨k, rfl⟩ : ∃ m, k = m + 1 := ⟨k - 1, by omega⟩
    simp only [laws_FnStrokesHeardOfAll.l1]
    have e : tot h xs (ns.take i) = ((halvesL h xs (2 * h).toNat).length : Int) := by
      unfold tot
      rw [List.take_of_length_le (by omega), List.filter_eq_self.2]
      intro y hy
      exact decide_eq_true ((hm _).2 (List.mem_map.2 ⟨y, hy, rfl⟩))
    rw [if_neg (by omega), if_pos e]
    exact j6_val d x l k (by omega)
  | succ g ih =>
    intro i k hi hk
    obtain ⟨k, rfl⟩ : ∃ m, k = m + 2 := ⟨k - 2, by omega⟩
    have hin : ns[i]'(by omega) ∈ ns := List.getElem_mem _
    obtain ⟨y, hy, ey⟩ := List.mem_map.1 ((hm _).1 hin)
    have hyb := halvesL_bd hd.1 xs y hy
    have m0 : 0 ≤ (y + (xs.length : Int)) % (2 * h) := Int.emod_nonneg _ (by omega)
    have m1 : (y + (xs.length : Int)) % (2 * h) < 2 * h := Int.emod_lt_of_pos _ (by omega)
    have p := st_pos (h := h) hd.1 m0
    have q := st_le (h := h) hd.1 m1
    have hq2 : isL h (xs ++ [ns[i]'(by omega)]) = true := by
      unfold isL at hq ⊢
      simp only [Bool.and_eq_true, decide_eq_true_eq] at hq ⊢
      refine ⟨⟨hq.1.1, by rw [List.length_append, List.length_singleton]; omega⟩, ?_⟩
      rw [List.all_append, hq.2, Bool.true_and]
      simp only [List.all_cons, List.all_nil, Bool.and_true, decide_eq_true_eq]
      rw [← ey]
      exact ⟨p, by omega⟩
    have hnot : ns[i]'(by omega) ∉ ns.take i := by
      intro hmem
      obtain ⟨j, hj, ej⟩ := List.getElem_of_mem hmem
      rw [List.length_take] at hj
      rw [List.getElem_take] at ej
      have := (List.pairwise_iff_getElem.1 hp) j i (by omega) (by omega) (by omega)
      omega
    have hpos : 1 ≤ (halvesL h (xs ++ [ns[i]'(by omega)]) (2 * h).toNat).length := by
      rw [halvesL_more]
      exact List.length_pos_of_mem (List.mem_filter.2 ⟨hy, decide_eq_true ey⟩)
    have hle2 := halvesL_le h (xs ++ [ns[i]'(by omega)]) (2 * h).toNat
    have b1 := tot_bd h xs (ns.take i)
    simp only [laws_FnStrokesHeardOfAll.l1]
    rw [if_pos (by omega), if_pos (by omega), if_pos (by omega)]
    simp only [Option.bind_some, List.nil_append, List.length_nil]
    rw [if_pos (by omega), if_pos (by omega), rd_nth ns i (by omega), iHalves_yes hq2 (k + 1) (by omega)]
    simp only [Option.bind_some, if_true]
    rw [decide_eq_false (by omega)]
    simp only [laws_FnStrokesHeardOfAll.j4, Bool.false_eq_true, if_false]
    obtain ⟨k', hk', hr⟩ := l2_val (h := h) (d := d) (x := x) (l := l) (t := tot h xs (ns.take i)) (xs := xs) (ns := ns) (Hs := halvesL h (xs ++ [ns[i]'(by omega)]) (2 * h).toNat) (i := i) (by omega) (fun _ _ => trivial) (by omega) (by rw [halvesL_more]; exact fun y hy => (List.mem_filter.1 hy).1) (halvesL h (xs ++ [ns[i]'(by omega)]) (2 * h).toNat).length 0 k (by omega) (by omega)
    rw [show ((0 : Nat) : Int) = 0 from rfl] at hr
    rw [hr, wid (x := tot h xs (ns.take i) + _) (by omega) (by omega), wid (x := (i : Int) + 1) (by omega) (by omega), ← tot_snoc h xs (ns.take i) _ hnot, ← List.take_succ_eq_append_getElem (by omega)]
    exact ih (i + 1) k' (by omega) (by omega)
theorem l0_val {h d x l : Int} {xs ns : List Int} (hq : isL h xs = true) (hn : ns.length ≤ 48) (hp : ns.Pairwise (· < ·)) (hm : ∀ a, a ∈ ns ↔ a ∈ valsL h xs.length (halvesL h xs (2 * h).toNat)) (g : Nat) : ∀ (i k : Nat), (i : Int) + g = 2 * h → 4000 + g ≤ k →
    laws_FnStrokesHeardOfAll.l0 k h xs d x l (halvesL h xs (2 * h).toNat) ns i = some true := by
  obtain ⟨hd, x1, x2⟩ := isL_bd hq
  have hle := halvesL_le h xs (2 * h).toNat
  induction g with
  | zero =>
    intro i k hi hk
    obtain ⟨k, rfl⟩ : ∃ m, k = m + 1 := ⟨k - 1, by omega⟩
    simp only [laws_FnStrokesHeardOfAll.l0]
    rw [wid (x := 2 * h) (by omega) (by omega), if_neg (by omega)]
    by_cases c : (xs.length : Int) < 60
    · rw [if_pos c]
      have := l1_val (d := d) (x := x) (l := l) hq (by omega) hn hp hm ns.length 0 k (by omega) (by omega)
      rwa [List.take_zero, show tot h xs [] = 0 by unfold tot; simp] at this
    · rw [if_neg c]
      exact j6_val d x l k (by omega)
  | succ g ih =>
    intro i k hi hk
    obtain ⟨k, rfl⟩ : ∃ m, k = m + 1 := ⟨k - 1, by omega⟩
    have hr := ih (i + 1) k (by omega) (by omega)
    rw [show ((i + 1 : Nat) : Int) = (i : Int) + 1 from rfl] at hr
    simp only [laws_FnStrokesHeardOfAll.l0]
    rw [wid (x := 2 * h) (by omega) (by omega), if_pos (by omega), iFrom_yes ⟨hd, by omega, by omega⟩ (by omega) (by omega) k (by omega)]
    simp only [Option.bind_some, if_true]
    rw [kHas_val _ _ (by omega) k (by omega)]
    simp only [Option.bind_some]
    rw [kSame_val _ _ (by rw [heardL_length]; omega) k (by rw [heardL_length]; omega)]
    simp only [Option.bind_some]
    have e : decide ((i : Int) ∈ halvesL h xs (2 * h).toNat) = decide (heardL h (i : Int) (xs.length : Int).toNat = xs) := by
      refine decide_eq_decide.mpr ?_
      rw [show (xs.length : Int).toNat = xs.length by omega]
      unfold halvesL
      constructor
      · intro hmem
        obtain ⟨j, hj, ej⟩ := List.mem_map.1 hmem
        obtain rfl : j = i := by omega
        exact of_decide_eq_true (List.mem_filter.1 hj).2
      · intro he
        exact List.mem_map.2 ⟨i, List.mem_filter.2 ⟨List.mem_range.2 (by omega), decide_eq_true he⟩, rfl⟩
    rw [e, bne_self_eq_false, if_neg (by simp), wid (x := (i : Int) + 1) (by omega) (by omega)]
    exact hr
theorem FnStrokesHeardOfAll : laws_FnStrokesHeardOfAll.Pure := by
  intro h xs d x l _ _ _ _ _ _ _
  refine ⟨20000, ?_⟩
  unfold laws_FnStrokesHeardOfAll.f
  by_cases hl : (xs.length : Int) > 10000
  · rw [if_pos hl]
  · obtain ⟨ys, hy, A, ey⟩ := halves_both h xs (by omega)
    obtain ⟨ns, hn, B, en⟩ := next_both h xs (by omega)
    obtain ⟨a1, a2, a3, a4⟩ := A 20000 (by omega)
    obtain ⟨b1, b2⟩ := B 20000 (by omega)
    rw [if_neg hl, a2, a1, a4, a3, b2, b1]
    simp only [Option.bind_some, bne_self_eq_false, Bool.false_eq_true, if_false]
    rw [kSame_val ys ys (by omega) _ (by omega), decide_eq_true rfl]
    simp only [Option.bind_some, if_true]
    rw [kSame_val ns ns (by omega) _ (by omega), decide_eq_true rfl]
    simp only [Option.bind_some, if_true]
    simp only [laws_FnStrokesHeardOfAll.j0, Bool.false_eq_true, if_false]
    cases hq : isL h xs with
    | false =>
      rw [if_neg (by simp)]
      exact j6_val d x l _ (by omega)
    | true =>
      obtain rfl := ey hq
      obtain ⟨hp, hm⟩ := en hq
      obtain ⟨hd, x1, x2⟩ := isL_bd hq
      have e : decide (((halvesL h xs (2 * h).toNat).length : Int) > 0) = decide ((ns.length : Int) > 0) := by
        refine decide_eq_decide.mpr ?_
        constructor
        · intro c
          obtain ⟨y, hy⟩ := List.exists_mem_of_length_pos (show 0 < (halvesL h xs (2 * h).toNat).length by omega)
          have := List.length_pos_of_mem ((hm _).2 (List.mem_map.2 ⟨y, hy, rfl⟩))
          omega
        · intro c
          obtain ⟨n, hn'⟩ := List.exists_mem_of_length_pos (show 0 < ns.length by omega)
          obtain ⟨y, hy, _⟩ := List.mem_map.1 ((hm _).1 hn')
          have := List.length_pos_of_mem hy
          omega
      rw [if_pos rfl, ← e]
      simp only [bne_self_eq_false, Bool.false_eq_true, if_false, laws_FnStrokesHeardOfAll.j1]
      exact l0_val hq hn hp hm (2 * h).toNat 0 _ (by omega) (by omega)

end Go.Proofs.Ythdcdpilcfghlaa.Pure
