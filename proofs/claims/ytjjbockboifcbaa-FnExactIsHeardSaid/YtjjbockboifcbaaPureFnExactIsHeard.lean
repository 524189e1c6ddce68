/- For every dial and list of numbers the program's IsHeard answers as the reference does and leaves the list alone; no condition. -/
import Derived.Test.YtjjbockboifcbaaPFnExactIsHeardx5
set_option linter.unusedVariables false
set_option linter.unusedSimpArgs false
namespace Go.Proofs.Ytjjbockboifcbaa.Pure
open Go.RowKit Go.Proofs.Ytjjbockboifcbaa.PFnExactIsHeard Go.Proofs.YtjjbockboifcbaaW.PrintWords Go.Proofs.YtjjbockboifcbaaW.PrintLast Go.Proofs.YtjjbockboifcbaaW.PrintMore

def st (h j : Int) : Int := if j % 2 = 1 then 1 else if j = 0 then h else j / 2
theorem st_pos {h j : Int} (hh : 2 ≤ h) (h0 : 0 ≤ j) : 1 ≤ st h j := by
  unfold st; split
  · omega
  · split <;> omega
theorem st_le {h j : Int} (hh : 2 ≤ h) (h1 : j < 2 * h) : st h j ≤ h := by
  unfold st; split
  · omega
  · split <;> omega
theorem stAt_val (h : Int) {j : Int} (h0 : 0 ≤ j) (h1 : j ≤ 4611686018427387904) : spec_stAt.f h j = some (st h j) := by
  unfold spec_stAt.f st
  rw [tmod_nn _ h0, tdiv_nn _ h0]
  split
  · rfl
  · split
    · rfl
    · rw [wid (by omega) (by omega)]
theorem l1In_val (a b c : Int) : spec_l1In.f a b c = some (decide (b ≤ a ∧ a ≤ c)) := by
  unfold spec_l1In.f
  by_cases h : a ≥ b
  · have e : (b ≤ a ∧ a ≤ c) ↔ a ≤ c := ⟨fun x => x.2, fun x => ⟨h, x⟩⟩
    rw [if_pos h, decide_eq_decide.mpr e]
  · rw [if_neg h, decide_eq_false (fun x => h x.1)]
theorem diHours_val (h : Int) : spec_diHours.f h = some (decide (2 ≤ h ∧ h ≤ 24)) := by
  unfold spec_diHours.f; rw [l1In_val]; rfl
theorem l1All_loop (xs : List Int) (a b : Int) (hl : xs.length ≤ 1000000000000) (d : Nat) : ∀ (i k : Nat), i + d = xs.length → d < k → spec_l1All.l0 k a b xs (xs.length : Int) i = some ((xs.drop i).all fun n => decide (a ≤ n ∧ n ≤ b)) := by
  induction d with
  | zero =>
    intro i k hi hk
    obtain ⟨k, rfl⟩ : ∃ m, k = m + 1 := ⟨k - 1, by omega⟩
    simp only [spec_l1All.l0]
    rw [if_neg (by omega), List.drop_of_length_le (by omega)]
    rfl
  | succ d ih =>
    intro i k hi hk
    obtain ⟨k, rfl⟩ : ∃ m, k = m + 1 := ⟨k - 1, by omega⟩
    simp only [spec_l1All.l0]
    have hx : rd xs (i : Int) = xs[i]'(by omega) := by
      show xs.getD ((i : Int).toNat) 0 = _
      rw [show (i : Int).toNat = i by omega, List.getD_eq_getElem?_getD, List.getElem?_eq_getElem (by omega)]; rfl
    rw [if_pos (by omega), if_pos (by omega), if_pos (by omega), l1In_val, hx, wid (x := (i : Int) + 1) (by omega) (by omega)]
    simp only [Option.bind_some]
    have e : (xs.drop i).all (fun n => decide (a ≤ n ∧ n ≤ b)) = (decide (a ≤ xs[i]'(by omega) ∧ xs[i]'(by omega) ≤ b) && (xs.drop (i + 1)).all fun n => decide (a ≤ n ∧ n ≤ b)) := by
      rw [List.drop_eq_getElem_cons (show i < xs.length by omega), List.all_cons]
    rw [e]
    by_cases h : a ≤ xs[i]'(by omega) ∧ xs[i]'(by omega) ≤ b
    · rw [decide_eq_true h, if_pos rfl, Bool.true_and]
      exact ih (i + 1) k (by omega) (by omega)
    · rw [decide_eq_false h, if_neg (by simp), Bool.false_and]
theorem l1All_val (xs : List Int) (a b : Int) (hl : xs.length ≤ 1000000000000) (k : Nat) (hk : xs.length < k) : spec_l1All.f k xs a b = some (xs.all fun n => decide (a ≤ n ∧ n ≤ b)) := by
  have := l1All_loop xs a b hl xs.length 0 k (by omega) hk
  simpa [spec_l1All.f] using this
/-- A list of strokes that may be heard. -/
def isL (h : Int) (xs : List Int) : Bool := decide (2 ≤ h ∧ h ≤ 24) && decide (1 ≤ (xs.length : Int) ∧ (xs.length : Int) ≤ 60) && xs.all fun n => decide (isN n)
theorem stHeard_val (h : Int) (xs : List Int) (hl : xs.length ≤ 1048576) (k : Nat) (hk : xs.length < k) : spec_stHeard.f k h xs = some (isL h xs) := by
  unfold spec_stHeard.f isL
  simp only [diHours_val, l1In_val, Option.bind_some]
  rw [l1All_val xs 1 24 (by omega) k hk]
  cases decide (2 ≤ h ∧ h ≤ 24) <;> cases decide (1 ≤ (xs.length : Int) ∧ (xs.length : Int) ≤ 60) <;> rfl
theorem isHeardList_val (h : Int) (xs : List Int) : impl_isHeardList.f h xs = some (isL h xs) := rfl
theorem isL_bd {h : Int} {xs : List Int} (hq : isL h xs = true) : (2 ≤ h ∧ h ≤ 24) ∧ 1 ≤ xs.length ∧ xs.length ≤ 60 := by
  unfold isL at hq
  simp only [Bool.and_eq_true, decide_eq_true_eq] at hq
  omega
/-- What is heard at n halves from x on. -/
def heardL (h x : Int) (n : Nat) : List Int := (List.range n).map fun (i : Nat) => st h ((x + (i : Int)) % (2 * h))
theorem heardL_length (h x : Int) (n : Nat) : (heardL h x n).length = n := by simp [heardL]
theorem heardL_succ (h x : Int) (n : Nat) : heardL h x (n + 1) = heardL h x n ++ [st h ((x + (n : Int)) % (2 * h))] := by
  simp [heardL, List.range_succ]
/-- The halves below m from which a list is heard. -/
def halvesL (h : Int) (xs : List Int) (m : Nat) : List Int := ((List.range m).filter fun (i : Nat) => decide (heardL h (i : Int) xs.length = xs)).map fun (i : Nat) => (i : Int)
theorem halvesL_succ (h : Int) (xs : List Int) (m : Nat) : halvesL h xs (m + 1) = if heardL h (m : Int) xs.length = xs then halvesL h xs m ++ [(m : Int)] else halvesL h xs m := by
  unfold halvesL
  rw [List.range_succ, List.filter_append, List.map_append]
  by_cases e : heardL h (m : Int) xs.length = xs
  · rw [if_pos e]; simp [e]
  · rw [if_neg e]; simp [e]
theorem halvesL_le (h : Int) (xs : List Int) (m : Nat) : (halvesL h xs m).length ≤ m := by
  unfold halvesL
  rw [List.length_map]
  exact Nat.le_trans (List.length_filter_le _ _) (by simp)
theorem stFrom_loop {h x : Int} {n : Nat} (hd : 2 ≤ h ∧ h ≤ 24) (hx : 0 ≤ x) (hx' : x ≤ 1000000) (hn : n ≤ 1000) (d : Nat) : ∀ (i k : Nat), i + d = n → d < k →
    spec_stFrom.l0 k h x n (heardL h x i) i = some (heardL h x n) := by
  induction d with
  | zero =>
    intro i k hi hk
    obtain ⟨k, rfl⟩ : ∃ m, k = m + 1 := ⟨k - 1, by omega⟩
    simp only [spec_stFrom.l0]
    rw [if_neg (by omega), show i = n by omega]
  | succ d ih =>
    intro i k hi hk
    obtain ⟨k, rfl⟩ : ∃ m, k = m + 1 := ⟨k - 1, by omega⟩
    have hm : 0 ≤ (x + i) % (2 * h) := Int.emod_nonneg _ (by omega)
    have hl : (x + i) % (2 * h) < 2 * h := Int.emod_lt_of_pos _ (by omega)
    simp only [spec_stFrom.l0]
    rw [if_pos (by omega), wid (x := 2 * h) (by omega) (by omega), if_neg (by omega), wid (x := x + i) (by omega) (by omega), tmod_nn _ (by omega), stAt_val _ hm (by omega)]
    simp only [Option.bind_some]
    rw [heardL_length, if_pos (by omega), wid (x := (i : Int) + 1) (by omega) (by omega), ← heardL_succ]
    exact ih (i + 1) k (by omega) (by omega)
theorem stFrom_val {h x : Int} {n : Nat} (hd : 2 ≤ h ∧ h ≤ 24) (hx : 0 ≤ x) (hx' : x ≤ 1000000) (hn : n ≤ 1000) (k : Nat) (hk : n < k) : spec_stFrom.f k h x n = some (heardL h x n) :=
  stFrom_loop hd hx hx' hn n 0 k (by omega) hk
theorem l1Same_loop (xs ys : List Int) (hl : xs.length ≤ 1000000000000) (he : xs.length = ys.length) (d : Nat) : ∀ (i k : Nat), i + d = xs.length → d < k → (xs.take i = ys.take i) → spec_l1Same.l0 k xs ys (xs.length : Int) i = some (decide (xs = ys)) := by
  induction d with
  | zero =>
    intro i k hi hk ht
    obtain ⟨k, rfl⟩ : ∃ m, k = m + 1 := ⟨k - 1, by omega⟩
    simp only [spec_l1Same.l0]
    rw [List.take_of_length_le (by omega), List.take_of_length_le (by omega)] at ht
    rw [if_neg (by omega), decide_eq_true ht]
  | succ d ih =>
    intro i k hi hk ht
    obtain ⟨k, rfl⟩ : ∃ m, k = m + 1 := ⟨k - 1, by omega⟩
    simp only [spec_l1Same.l0]
    have hx : rd xs (i : Int) = xs[i]'(by omega) := by
      show xs.getD ((i : Int).toNat) 0 = _
      rw [show (i : Int).toNat = i by omega, List.getD_eq_getElem?_getD, List.getElem?_eq_getElem (by omega)]; rfl
    have hy : rd ys (i : Int) = ys[i]'(by omega) := by
      show ys.getD ((i : Int).toNat) 0 = _
      rw [show (i : Int).toNat = i by omega, List.getD_eq_getElem?_getD, List.getElem?_eq_getElem (by omega)]; rfl
    rw [if_pos (by omega), if_pos (by omega), if_pos (by omega), if_pos (by omega), hx, hy, wid (x := (i : Int) + 1) (by omega) (by omega)]
    by_cases e : xs[i]'(by omega) = ys[i]'(by omega)
    · rw [if_pos e]
      exact ih (i + 1) k (by omega) (by omega) (by rw [List.take_succ_eq_append_getElem (by omega), List.take_succ_eq_append_getElem (by omega), ht, e])
    · rw [if_neg e, decide_eq_false (fun h => e (by subst h; rfl))]
theorem l1Same_val (xs ys : List Int) (hl : xs.length ≤ 1000000000000) (k : Nat) (hk : xs.length < k) : spec_l1Same.f k xs ys = some (decide (xs = ys)) := by
  unfold spec_l1Same.f
  by_cases e : xs.length = ys.length
  · rw [if_pos (by omega)]
    exact l1Same_loop xs ys hl e xs.length 0 k (by omega) hk (by simp)
  · rw [if_neg (by omega), decide_eq_false (fun h => e (by rw [h]))]
theorem stHalves_loop {h : Int} {xs : List Int} {n : Nat} (hd : 2 ≤ h ∧ h ≤ 24) (hn : (n : Int) = 2 * h) (hl : xs.length ≤ 1000) (d : Nat) : ∀ (i k : Nat), i + d = n → d + xs.length + 10 < k → spec_stHalves.l0 k h xs (halvesL h xs i) i = some (halvesL h xs n) := by
  induction d with
  | zero =>
    intro i k hi hk
    obtain ⟨k, rfl⟩ : ∃ m, k = m + 1 := ⟨k - 1, by omega⟩
    simp only [spec_stHalves.l0]
    rw [wid (x := 2 * h) (by omega) (by omega), if_neg (by omega), show i = n by omega]
  | succ d ih =>
    intro i k hi hk
    obtain ⟨k, rfl⟩ : ∃ m, k = m + 1 := ⟨k - 1, by omega⟩
    simp only [spec_stHalves.l0]
    rw [wid (x := 2 * h) (by omega) (by omega), if_pos (by omega), stFrom_val hd (by omega) (by omega) hl k (by omega)]
    simp only [Option.bind_some]
    rw [l1Same_val _ _ (by rw [heardL_length]; omega) k (by rw [heardL_length]; omega)]
    simp only [Option.bind_some]
    rw [wid (x := (i : Int) + 1) (by omega) (by omega), if_pos (show (halvesL h xs i).length < 17592186044416 by have := halvesL_le h xs i; omega)]
    have := ih (i + 1) k (by omega) (by omega)
    rw [halvesL_succ] at this
    by_cases e : heardL h (i : Int) xs.length = xs
    · rw [if_pos e] at this
      rw [decide_eq_true e, if_pos rfl]; exact this
    · rw [if_neg e] at this
      rw [decide_eq_false e, if_neg (by simp)]; exact this
theorem stHalves_val {h : Int} {xs : List Int} (hd : 2 ≤ h ∧ h ≤ 24) (hl : xs.length ≤ 1000) (k : Nat) (hk : xs.length + 70 < k) : spec_stHalves.f k h xs = some (halvesL h xs (2 * h).toNat) :=
  stHalves_loop hd (show (((2 * h).toNat : Nat) : Int) = 2 * h by omega) hl (2 * h).toNat 0 k (by omega) (by omega)
theorem strokes_val {h j : Int} (hd : 2 ≤ h ∧ h ≤ 24) (h0 : 0 ≤ j) : impl_strokes.f h j = some (st h (j % (2 * h))) := by
  have hw : wrap64 (2 * h) = 2 * h := wid (by omega) (by omega)
  have hm : 0 ≤ j % (2 * h) := Int.emod_nonneg _ (by omega)
  have hl : j % (2 * h) < 2 * h := Int.emod_lt_of_pos _ (by omega)
  unfold impl_strokes.f st
  rw [hw, tmod_nn _ h0, tmod_nn _ hm, tdiv_nn _ hm, if_neg (by omega)]
  by_cases h1 : j % (2 * h) = 0
  · rw [if_pos h1, h1]; simp
  · rw [if_neg h1]
    by_cases h2 : j % (2 * h) % 2 = 1
    · rw [if_pos h2, if_pos h2]
    · rw [if_neg h2, if_neg h2, if_neg h1, wid (by omega) (by omega)]
theorem heardFrom_loop {h x : Int} {n : Nat} (hd : 2 ≤ h ∧ h ≤ 24) (hx : 0 ≤ x) (hx' : x ≤ 1000000) (hn : n ≤ 1000) (d : Nat) : ∀ (i k : Nat), i + d = n → d < k →
    impl_heardFrom.l0 k h x (heardL h x i) n i = some (heardL h x n) := by
  induction d with
  | zero =>
    intro i k hi hk
    obtain ⟨k, rfl⟩ : ∃ m, k = m + 1 := ⟨k - 1, by omega⟩
    simp only [impl_heardFrom.l0]
    rw [if_neg (by omega), show i = n by omega]
  | succ d ih =>
    intro i k hi hk
    obtain ⟨k, rfl⟩ : ∃ m, k = m + 1 := ⟨k - 1, by omega⟩
    simp only [impl_heardFrom.l0]
    rw [if_pos (by omega), wid (x := x + i) (by omega) (by omega), strokes_val hd (by omega)]
    simp only [Option.bind_some]
    rw [heardL_length, if_pos (by omega), wid (x := (i : Int) + 1) (by omega) (by omega), ← heardL_succ]
    exact ih (i + 1) k (by omega) (by omega)
theorem heardFrom_val {h x : Int} {n : Nat} (hd : 2 ≤ h ∧ h ≤ 24) (hx : 0 ≤ x) (hx' : x ≤ 1000000) (hn : n ≤ 1000) (k : Nat) (hk : n < k) : impl_heardFrom.f k h x n = some (heardL h x n) :=
  heardFrom_loop hd hx hx' hn n 0 k (by omega) hk
theorem equalInt_loop (xs ys : List Int) (hl : xs.length ≤ 1000000000000) (he : xs.length = ys.length) (d : Nat) : ∀ (i k : Nat), i + d = xs.length → d < k → (xs.take i = ys.take i) → slices_Equal_int_int.l0 k xs ys (xs.length : Int) i = some (decide (xs = ys)) := by
  induction d with
  | zero =>
    intro i k hi hk ht
    obtain ⟨k, rfl⟩ : ∃ m, k = m + 1 := ⟨k - 1, by omega⟩
    simp only [slices_Equal_int_int.l0]
    rw [List.take_of_length_le (by omega), List.take_of_length_le (by omega)] at ht
    rw [if_neg (by omega), decide_eq_true ht]
  | succ d ih =>
    intro i k hi hk ht
    obtain ⟨k, rfl⟩ : ∃ m, k = m + 1 := ⟨k - 1, by omega⟩
    simp only [slices_Equal_int_int.l0]
    have hx : rd xs (i : Int) = xs[i]'(by omega) := by
      show xs.getD ((i : Int).toNat) 0 = _
      rw [show (i : Int).toNat = i by omega, List.getD_eq_getElem?_getD, List.getElem?_eq_getElem (by omega)]; rfl
    have hy : rd ys (i : Int) = ys[i]'(by omega) := by
      show ys.getD ((i : Int).toNat) 0 = _
      rw [show (i : Int).toNat = i by omega, List.getD_eq_getElem?_getD, List.getElem?_eq_getElem (by omega)]; rfl
    rw [if_pos (by omega), if_pos (by omega), if_pos (by omega), if_pos (by omega), hx, hy, wid (x := (i : Int) + 1) (by omega) (by omega)]
    by_cases e : xs[i]'(by omega) = ys[i]'(by omega)
    · rw [if_pos e]
      exact ih (i + 1) k (by omega) (by omega) (by rw [List.take_succ_eq_append_getElem (by omega), List.take_succ_eq_append_getElem (by omega), ht, e])
    · rw [if_neg e, decide_eq_false (fun h => e (by subst h; rfl))]
theorem equalInt_val (xs ys : List Int) (hl : xs.length ≤ 1000000000000) (k : Nat) (hk : xs.length < k) : slices_Equal_int_int.f k xs ys = some (decide (xs = ys)) := by
  unfold slices_Equal_int_int.f
  by_cases e : xs.length = ys.length
  · rw [if_pos (by omega)]
    exact equalInt_loop xs ys hl e xs.length 0 k (by omega) hk (by simp)
  · rw [if_neg (by omega), decide_eq_false (fun h => e (by rw [h]))]
theorem halvesOf_loop {h : Int} {xs : List Int} {n : Nat} (hd : 2 ≤ h ∧ h ≤ 24) (hn : (n : Int) = 2 * h) (hl : xs.length ≤ 1000) (d : Nat) : ∀ (i k : Nat), i + d = n → d + xs.length + 10 < k → impl_halvesOf.l0 k h xs (halvesL h xs i) n i = some (halvesL h xs n) := by
  induction d with
  | zero =>
    intro i k hi hk
    obtain ⟨k, rfl⟩ : ∃ m, k = m + 1 := ⟨k - 1, by omega⟩
    simp only [impl_halvesOf.l0]
    rw [if_neg (by omega), show i = n by omega]
  | succ d ih =>
    intro i k hi hk
    obtain ⟨k, rfl⟩ : ∃ m, k = m + 1 := ⟨k - 1, by omega⟩
    simp only [impl_halvesOf.l0]
    rw [if_pos (by omega), heardFrom_val hd (by omega) (by omega) hl k (by omega)]
    simp only [Option.bind_some]
    rw [equalInt_val _ _ (by rw [heardL_length]; omega) k (by rw [heardL_length]; omega)]
    simp only [Option.bind_some]
    rw [wid (x := (i : Int) + 1) (by omega) (by omega), if_pos (show (halvesL h xs i).length < 17592186044416 by have := halvesL_le h xs i; omega)]
    have := ih (i + 1) k (by omega) (by omega)
    rw [halvesL_succ] at this
    by_cases e : heardL h (i : Int) xs.length = xs
    · rw [if_pos e] at this
      rw [decide_eq_true e, if_pos rfl]; exact this
    · rw [if_neg e] at this
      rw [decide_eq_false e, if_neg (by simp)]; exact this
theorem halvesOf_val {h : Int} {xs : List Int} (hd : 2 ≤ h ∧ h ≤ 24) (hl : xs.length ≤ 1000) (k : Nat) (hk : xs.length + 70 < k) : impl_halvesOf.f k h xs = some (halvesL h xs (2 * h).toNat) := by
  unfold impl_halvesOf.f
  rw [wid (x := 2 * h) (by omega) (by omega)]
  have := halvesOf_loop hd (show (((2 * h).toNat : Nat) : Int) = 2 * h by omega) hl (2 * h).toNat 0 k (by omega) (by omega)
  rwa [show (((2 * h).toNat : Nat) : Int) = 2 * h by omega] at this
theorem toIntS_loop (xs : List Int) (hl : xs.length ≤ 1000000000000) (d : Nat) : ∀ (i k : Nat), i + d = xs.length → d < k → laws_toIntS.l0 k xs (xs.take i ++ List.replicate d 0) i = some xs := by
  induction d with
  | zero =>
    intro i k hi hk
    obtain ⟨k, rfl⟩ : ∃ m, k = m + 1 := ⟨k - 1, by omega⟩
    simp only [laws_toIntS.l0]
    rw [if_neg (by omega), List.take_of_length_le (by omega)]
    simp
  | succ d ih =>
    intro i k hi hk
    obtain ⟨k, rfl⟩ : ∃ m, k = m + 1 := ⟨k - 1, by omega⟩
    simp only [laws_toIntS.l0]
    have hL : (xs.take i ++ List.replicate (d + 1) (0 : Int)).length = xs.length := by rw [List.length_append, List.length_take, List.length_replicate]; omega
    rw [if_pos (by omega), if_pos (by omega), hL, if_pos (by omega), wid (x := (i : Int) + 1) (by omega) (by omega)]
    have e : (xs.take i ++ List.replicate (d + 1) (0 : Int)).set (i : Int).toNat (rd xs i) = xs.take (i + 1) ++ List.replicate d 0 := by
      have ht : (xs.take i).length = i := by rw [List.length_take]; omega
      have hr : rd xs (i : Int) = xs[i]'(by omega) := by
        show xs.getD ((i : Int).toNat) 0 = _
        rw [show (i : Int).toNat = i by omega, List.getD_eq_getElem?_getD, List.getElem?_eq_getElem (by omega)]; rfl
      rw [show (i : Int).toNat = i by omega, List.set_append_right (h := by omega), ht, Nat.sub_self, List.replicate_succ, List.set_cons_zero, hr, List.take_succ_eq_append_getElem (show i < xs.length by omega), List.append_assoc]
      rfl
    rw [e]
    exact ih (i + 1) k (by omega) (by omega)
theorem toIntS_val (xs : List Int) (hl : xs.length ≤ 1048576) (k : Nat) (hk : xs.length < k) : laws_toIntS.f k xs = some xs := by
  unfold laws_toIntS.f
  rw [if_pos (by omega), if_pos (by omega)]
  have := toIntS_loop xs (by omega) xs.length 0 k (by omega) hk
  simpa using this
theorem eqIntS_refl_loop (xs : List Int) (hl : xs.length ≤ 1000000000000) (d : Nat) : ∀ (i k : Nat), i + d = xs.length → d < k → laws_eqIntS.l0 k xs xs i = some true := by
  induction d with
  | zero =>
    intro i k hi hk
    obtain ⟨k, rfl⟩ : ∃ m, k = m + 1 := ⟨k - 1, by omega⟩
    simp only [laws_eqIntS.l0]
    rw [if_neg (by omega)]
  | succ d ih =>
    intro i k hi hk
    obtain ⟨k, rfl⟩ : ∃ m, k = m + 1 := ⟨k - 1, by omega⟩
    simp only [laws_eqIntS.l0]
    rw [if_pos (by omega), if_pos (by omega), if_pos (by omega), if_pos trivial, wid (x := (i : Int) + 1) (by omega) (by omega)]
    exact ih (i + 1) k (by omega) (by omega)
theorem eqIntS_refl (xs : List Int) (hl : xs.length ≤ 1000000000000) (k : Nat) (hk : xs.length < k) : laws_eqIntS.f k xs xs = some true := by
  unfold laws_eqIntS.f
  rw [if_pos rfl]
  exact eqIntS_refl_loop xs hl xs.length 0 k (by omega) hk
theorem both (h : Int) (xs : List Int) (hl : xs.length ≤ 1048576) : ∃ v : Bool × Bool, ∀ k, xs.length + 200 < k → spec_IsHeard.f k h xs = some v ∧ impl_IsHeard.f k h xs = some v := by
  by_cases hq : isL h xs = true
  · obtain ⟨hd, h1, h2⟩ := isL_bd hq
    refine ⟨(decide (((halvesL h xs (2 * h).toNat).length : Int) > 0), true), fun k hk => ?_⟩
    unfold spec_IsHeard.f impl_IsHeard.f impl_HalvesOfHeard.f
    rw [stHeard_val h xs hl k (by omega), isHeardList_val, hq]
    simp only [Option.bind_some, if_true]
    rw [stHalves_val hd (by omega) k (by omega), halvesOf_val hd (by omega) k (by omega)]
    exact ⟨rfl, rfl⟩
  · refine ⟨(false, false), fun k hk => ?_⟩
    unfold spec_IsHeard.f impl_IsHeard.f impl_HalvesOfHeard.f
    rw [stHeard_val h xs hl k (by omega), isHeardList_val]
    have : isL h xs = false := by simpa using hq
    rw [this]
    exact ⟨rfl, rfl⟩
theorem FnExactIsHeard : laws_FnExactIsHeard.Pure := by
  intro h xs _ _ _ _
  refine ⟨xs.length + 300, ?_⟩
  unfold laws_FnExactIsHeard.f
  by_cases hl : (xs.length : Int) > 1048576
  · rw [if_pos hl]
  · obtain ⟨v, H⟩ := both h xs (by omega)
    have t := toIntS_val xs (by omega)
    rw [if_neg hl, t _ (by omega)]
    simp only [Option.bind_some]
    rw [(H _ (by omega)).1, (H _ (by omega)).2]
    simp only [Option.bind_some, bne_self_eq_false, Bool.false_eq_true, if_false, laws_FnExactIsHeard.j0]
    rw [t _ (by omega)]
    simp only [Option.bind_some]
    rw [eqIntS_refl xs (by omega) _ (by omega)]
    rfl

end Go.Proofs.Ytjjbockboifcbaa.Pure
