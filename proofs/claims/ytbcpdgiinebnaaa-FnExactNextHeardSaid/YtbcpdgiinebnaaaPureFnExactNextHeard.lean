/- For every dial and list of numbers the program's NextHeard answers as the reference does, in memory of its own, and leaves the list alone; no condition. -/
import Derived.Test.YtbcpdgiinebnaaaPFnExactNextHeardx9
set_option linter.unusedVariables false
set_option linter.unusedSimpArgs false
namespace Go.Proofs.Ytbcpdgiinebnaaa.Pure
open Go.RowKit Go.Proofs.Ytbcpdgiinebnaaa.PFnExactNextHeard Go.Proofs.YtbcpdgiinebnaaaW.PrintWords Go.Proofs.YtbcpdgiinebnaaaW.PrintLast Go.Proofs.YtbcpdgiinebnaaaW.PrintMore

def st (h j : Int) : Int := if j % 2 = 1 then 1 else if j = 0 then h else j / 2
theorem st_pos {h j : Int} (hh : 2 ≤ h) (h0 : 0 ≤ j) : 1 ≤ st h j := by
  unfold st; split
  · omega
  · split <;> omega
theorem st_le {h j : Int} (hh : 2 ≤ h) (h1 : j < 2 * h) : st h j ≤ h := by
  unfold st; split
  · omega
  · split <;> omega
theorem stAt_val (h : Int) {j : Int} (h0 : 0 ≤ j) (h1 : j ≤ 4611686018427387904) : spec_stAt.f h j = some (st h j) := by
  unfold spec_stAt.f st
  rw [tmod_nn _ h0, tdiv_nn _ h0]
  split
  · rfl
  · split
    · rfl
    · rw [wid (by omega) (by omega)]
theorem l1In_val (a b c : Int) : spec_l1In.f a b c = some (decide (b ≤ a ∧ a ≤ c)) := by
  unfold spec_l1In.f
  by_cases h : a ≥ b
  · have e : (b ≤ a ∧ a ≤ c) ↔ a ≤ c := ⟨fun x => x.2, fun x => ⟨h, x⟩⟩
    rw [if_pos h, decide_eq_decide.mpr e]
  · rw [if_neg h, decide_eq_false (fun x => h x.1)]
theorem diHours_val (h : Int) : spec_diHours.f h = some (decide (2 ≤ h ∧ h ≤ 24)) := by
  unfold spec_diHours.f; rw [l1In_val]; rfl
theorem l1All_loop (xs : List Int) (a b : Int) (hl : xs.length ≤ 1000000000000) (d : Nat) : ∀ (i k : Nat), i + d = xs.length → d < k → spec_l1All.l0 k a b xs (xs.length : Int) i = some ((xs.drop i).all fun n => decide (a ≤ n ∧ n ≤ b)) := by
  induction d with
  | zero =>
    intro i k hi hk
    obtain ⟨k, rfl⟩ : ∃ m, k = m + 1 := ⟨k - 1, by omega⟩
    simp only [spec_l1All.l0]
    rw [if_neg (by omega), List.drop_of_length_le (by omega)]
    rfl
  | succ d ih =>
    intro i k hi hk
    obtain ⟨k, rfl⟩ : ∃ m, k = m + 1 := ⟨k - 1, by omega⟩
    simp only [spec_l1All.l0]
    have hx : rd xs (i : Int) = xs[i]'(by omega) := by
      show xs.getD ((i : Int).toNat) 0 = _
      rw [show (i : Int).toNat = i by omega, List.getD_eq_getElem?_getD, List.getElem?_eq_getElem (by omega)]; rfl
    rw [if_pos (by omega), if_pos (by omega), if_pos (by omega), l1In_val, hx, wid (x := (i : Int) + 1) (by omega) (by omega)]
    simp only [Option.bind_some]
    have e : (xs.drop i).all (fun n => decide (a ≤ n ∧ n ≤ b)) = (decide (a ≤ xs[i]'(by omega) ∧ xs[i]'(by omega) ≤ b) && (xs.drop (i + 1)).all fun n => decide (a ≤ n ∧ n ≤ b)) := by
      rw [List.drop_eq_getElem_cons (show i < xs.length by omega), List.all_cons]
    rw [e]
    by_cases h : a ≤ xs[i]'(by omega) ∧ xs[i]'(by omega) ≤ b
    · rw [decide_eq_true h, if_pos rfl, Bool.true_and]
      exact ih (i + 1) k (by omega) (by omega)
    · rw [decide_eq_false h, if_neg (by simp), Bool.false_and]
theorem l1All_val (xs : List Int) (a b : Int) (hl : xs.length ≤ 1000000000000) (k : Nat) (hk : xs.length < k) : spec_l1All.f k xs a b = some (xs.all fun n => decide (a ≤ n ∧ n ≤ b)) := by
  have := l1All_loop xs a b hl xs.length 0 k (by omega) hk
  simpa [spec_l1All.f] using this
/-- A list of strokes that may be heard. -/
def isL (h : Int) (xs : List Int) : Bool := decide (2 ≤ h ∧ h ≤ 24) && decide (1 ≤ (xs.length : Int) ∧ (xs.length : Int) ≤ 60) && xs.all fun n => decide (isN n)
theorem stHeard_val (h : Int) (xs : List Int) (hl : xs.length ≤ 1048576) (k : Nat) (hk : xs.length < k) : spec_stHeard.f k h xs = some (isL h xs) := by
  unfold spec_stHeard.f isL
  simp only [diHours_val, l1In_val, Option.bind_some]
  rw [l1All_val xs 1 24 (by omega) k hk]
  cases decide (2 ≤ h ∧ h ≤ 24) <;> cases decide (1 ≤ (xs.length : Int) ∧ (xs.length : Int) ≤ 60) <;> rfl
theorem isHeardList_val (h : Int) (xs : List Int) : impl_isHeardList.f h xs = some (isL h xs) := rfl
theorem isL_bd {h : Int} {xs : List Int} (hq : isL h xs = true) : (2 ≤ h ∧ h ≤ 24) ∧ 1 ≤ xs.length ∧ xs.length ≤ 60 := by
  unfold isL at hq
  simp only [Bool.and_eq_true, decide_eq_true_eq] at hq
  omega
/-- What is heard at n halves from x on. -/
def heardL (h x : Int) (n : Nat) : List Int := (List.range n).map fun (i : Nat) => st h ((x + (i : Int)) % (2 * h))
theorem heardL_length (h x : Int) (n : Nat) : (heardL h x n).length = n := by simp [heardL]
theorem heardL_succ (h x : Int) (n : Nat) : heardL h x (n + 1) = heardL h x n ++ [st h ((x + (n : Int)) % (2 * h))] := by
  simp [heardL, List.range_succ]
/-- The halves below m from which a list is heard. -/
def halvesL (h : Int) (xs : List Int) (m : Nat) : List Int := ((List.range m).filter fun (i : Nat) => decide (heardL h (i : Int) xs.length = xs)).map fun (i : Nat) => (i : Int)
theorem halvesL_succ (h : Int) (xs : List Int) (m : Nat) : halvesL h xs (m + 1) = if heardL h (m : Int) xs.length = xs then halvesL h xs m ++ [(m : Int)] else halvesL h xs m := by
  unfold halvesL
  rw [List.range_succ, List.filter_append, List.map_append]
  by_cases e : heardL h (m : Int) xs.length = xs
  · rw [if_pos e]; simp [e]
  · rw [if_neg e]; simp [e]
theorem halvesL_le (h : Int) (xs : List Int) (m : Nat) : (halvesL h xs m).length ≤ m := by
  unfold halvesL
  rw [List.length_map]
  exact Nat.le_trans (List.length_filter_le _ _) (by simp)
theorem stFrom_loop {h x : Int} {n : Nat} (hd : 2 ≤ h ∧ h ≤ 24) (hx : 0 ≤ x) (hx' : x ≤ 1000000) (hn : n ≤ 1000) (d : Nat) : ∀ (i k : Nat), i + d = n → d < k →
    spec_stFrom.l0 k h x n (heardL h x i) i = some (heardL h x n) := by
  induction d with
  | zero =>
    intro i k hi hk
    obtain ⟨k, rfl⟩ : ∃ m, k = m + 1 := ⟨k - 1, by omega⟩
    simp only [spec_stFrom.l0]
    rw [if_neg (by omega), show i = n by omega]
  | succ d ih =>
    intro i k hi hk
    obtain ⟨k, rfl⟩ : ∃ m, k = m + 1 := ⟨k - 1, by omega⟩
    have hm : 0 ≤ (x + i) % (2 * h) := Int.emod_nonneg _ (by omega)
    have hl : (x + i) % (2 * h) < 2 * h := Int.emod_lt_of_pos _ (by omega)
    simp only [spec_stFrom.l0]
    rw [if_pos (by omega), wid (x := 2 * h) (by omega) (by omega), if_neg (by omega), wid (x := x + i) (by omega) (by omega), tmod_nn _ (by omega), stAt_val _ hm (by omega)]
    simp only [Option.bind_some]
    rw [heardL_length, if_pos (by omega), wid (x := (i : Int) + 1) (by omega) (by omega), ← heardL_succ]
    exact ih (i + 1) k (by omega) (by omega)
theorem stFrom_val {h x : Int} {n : Nat} (hd : 2 ≤ h ∧ h ≤ 24) (hx : 0 ≤ x) (hx' : x ≤ 1000000) (hn : n ≤ 1000) (k : Nat) (hk : n < k) : spec_stFrom.f k h x n = some (heardL h x n) :=
  stFrom_loop hd hx hx' hn n 0 k (by omega) hk
theorem l1Same_loop (xs ys : List Int) (hl : xs.length ≤ 1000000000000) (he : xs.length = ys.length) (d : Nat) : ∀ (i k : Nat), i + d = xs.length → d < k → (xs.take i = ys.take i) → spec_l1Same.l0 k xs ys (xs.length : Int) i = some (decide (xs = ys)) := by
  induction d with
  | zero =>
    intro i k hi hk ht
    obtain ⟨k, rfl⟩ : ∃ m, k = m + 1 := ⟨k - 1, by omega⟩
    simp only [spec_l1Same.l0]
    rw [List.take_of_length_le (by omega), List.take_of_length_le (by omega)] at ht
    rw [if_neg (by omega), decide_eq_true ht]
  | succ d ih =>
    intro i k hi hk ht
    obtain ⟨k, rfl⟩ : ∃ m, k = m + 1 := ⟨k - 1, by omega⟩
    simp only [spec_l1Same.l0]
    have hx : rd xs (i : Int) = xs[i]'(by omega) := by
      show xs.getD ((i : Int).toNat) 0 = _
      rw [show (i : Int).toNat = i by omega, List.getD_eq_getElem?_getD, List.getElem?_eq_getElem (by omega)]; rfl
    have hy : rd ys (i : Int) = ys[i]'(by omega) := by
      show ys.getD ((i : Int).toNat) 0 = _
      rw [show (i : Int).toNat = i by omega, List.getD_eq_getElem?_getD, List.getElem?_eq_getElem (by omega)]; rfl
    rw [if_pos (by omega), if_pos (by omega), if_pos (by omega), if_pos (by omega), hx, hy, wid (x := (i : Int) + 1) (by omega) (by omega)]
    by_cases e : xs[i]'(by omega) = ys[i]'(by omega)
    · rw [if_pos e]
      exact ih (i + 1) k (by omega) (by omega) (by rw [List.take_succ_eq_append_getElem (by omega), List.take_succ_eq_append_getElem (by omega), ht, e])
    · rw [if_neg e, decide_eq_false (fun h => e (by subst h; rfl))]
theorem l1Same_val (xs ys : List Int) (hl : xs.length ≤ 1000000000000) (k : Nat) (hk : xs.length < k) : spec_l1Same.f k xs ys = some (decide (xs = ys)) := by
  unfold spec_l1Same.f
  by_cases e : xs.length = ys.length
  · rw [if_pos (by omega)]
    exact l1Same_loop xs ys hl e xs.length 0 k (by omega) hk (by simp)
  · rw [if_neg (by omega), decide_eq_false (fun h => e (by rw [h]))]
theorem stHalves_loop {h : Int} {xs : List Int} {n : Nat} (hd : 2 ≤ h ∧ h ≤ 24) (hn : (n : Int) = 2 * h) (hl : xs.length ≤ 1000) (d : Nat) : ∀ (i k : Nat), i + d = n → d + xs.length + 10 < k → spec_stHalves.l0 k h xs (halvesL h xs i) i = some (halvesL h xs n) := by
  induction d with
  | zero =>
    intro i k hi hk
    obtain ⟨k, rfl⟩ : ∃ m, k = m + 1 := ⟨k - 1, by omega⟩
    simp only [spec_stHalves.l0]
    rw [wid (x := 2 * h) (by omega) (by omega), if_neg (by omega), show i = n by omega]
  | succ d ih =>
    intro i k hi hk
    obtain ⟨k, rfl⟩ : ∃ m, k = m + 1 := ⟨k - 1, by omega⟩
    simp only [spec_stHalves.l0]
    rw [wid (x := 2 * h) (by omega) (by omega), if_pos (by omega), stFrom_val hd (by omega) (by omega) hl k (by omega)]
    simp only [Option.bind_some]
    rw [l1Same_val _ _ (by rw [heardL_length]; omega) k (by rw [heardL_length]; omega)]
    simp only [Option.bind_some]
    rw [wid (x := (i : Int) + 1) (by omega) (by omega), if_pos (show (halvesL h xs i).length < 17592186044416 by have := halvesL_le h xs i; omega)]
    have := ih (i + 1) k (by omega) (by omega)
    rw [halvesL_succ] at this
    by_cases e : heardL h (i : Int) xs.length = xs
    · rw [if_pos e] at this
      rw [decide_eq_true e, if_pos rfl]; exact this
    · rw [if_neg e] at this
      rw [decide_eq_false e, if_neg (by simp)]; exact this
theorem stHalves_val {h : Int} {xs : List Int} (hd : 2 ≤ h ∧ h ≤ 24) (hl : xs.length ≤ 1000) (k : Nat) (hk : xs.length + 70 < k) : spec_stHalves.f k h xs = some (halvesL h xs (2 * h).toNat) :=
  stHalves_loop hd (show (((2 * h).toNat : Nat) : Int) = 2 * h by omega) hl (2 * h).toNat 0 k (by omega) (by omega)
theorem strokes_val {h j : Int} (hd : 2 ≤ h ∧ h ≤ 24) (h0 : 0 ≤ j) : impl_strokes.f h j = some (st h (j % (2 * h))) := by
  have hw : wrap64 (2 * h) = 2 * h := wid (by omega) (by omega)
  have hm : 0 ≤ j % (2 * h) := Int.emod_nonneg _ (by omega)
  have hl : j % (2 * h) < 2 * h := Int.emod_lt_of_pos _ (by omega)
  unfold impl_strokes.f st
  rw [hw, tmod_nn _ h0, tmod_nn _ hm, tdiv_nn _ hm, if_neg (by omega)]
  by_cases h1 : j % (2 * h) = 0
  · rw [if_pos h1, h1]; simp
  · rw [if_neg h1]
    by_cases h2 : j % (2 * h) % 2 = 1
    · rw [if_pos h2, if_pos h2]
    · rw [if_neg h2, if_neg h2, if_neg h1, wid (by omega) (by omega)]
theorem heardFrom_loop {h x : Int} {n : Nat} (hd : 2 ≤ h ∧ h ≤ 24) (hx : 0 ≤ x) (hx' : x ≤ 1000000) (hn : n ≤ 1000) (d : Nat) : ∀ (i k : Nat), i + d = n → d < k →
    impl_heardFrom.l0 k h x (heardL h x i) n i = some (heardL h x n) := by
  induction d with
  | zero =>
    intro i k hi hk
    obtain ⟨k, rfl⟩ : ∃ m, k = m + 1 := ⟨k - 1, by omega⟩
    simp only [impl_heardFrom.l0]
    rw [if_neg (by omega), show i = n by omega]
  | succ d ih =>
    intro i k hi hk
    obtain ⟨k, rfl⟩ : ∃ m, k = m + 1 := ⟨k - 1, by omega⟩
    simp only [impl_heardFrom.l0]
    rw [if_pos (by omega), wid (x := x + i) (by omega) (by omega), strokes_val hd (by omega)]
    simp only [Option.bind_some]
    rw [heardL_length, if_pos (by omega), wid (x := (i : Int) + 1) (by omega) (by omega), ← heardL_succ]
    exact ih (i + 1) k (by omega) (by omega)
theorem heardFrom_val {h x : Int} {n : Nat} (hd : 2 ≤ h ∧ h ≤ 24) (hx : 0 ≤ x) (hx' : x ≤ 1000000) (hn : n ≤ 1000) (k : Nat) (hk : n < k) : impl_heardFrom.f k h x n = some (heardL h x n) :=
  heardFrom_loop hd hx hx' hn n 0 k (by omega) hk
theorem equalInt_loop (xs ys : List Int) (hl : xs.length ≤ 1000000000000) (he : xs.length = ys.length) (d : Nat) : ∀ (i k : Nat), i + d = xs.length → d < k → (xs.take i = ys.take i) → slices_Equal_int_int.l0 k xs ys (xs.length : Int) i = some (decide (xs = ys)) := by
  induction d with
  | zero =>
    intro i k hi hk ht
    obtain ⟨k, rfl⟩ : ∃ m, k = m + 1 := ⟨k - 1, by omega⟩
    simp only [slices_Equal_int_int.l0]
    rw [List.take_of_length_le (by omega), List.take_of_length_le (by omega)] at ht
    rw [if_neg (by omega), decide_eq_true ht]
  | succ d ih =>
    intro i k hi hk ht
    obtain ⟨k, rfl⟩ : ∃ m, k = m + 1 := ⟨k - 1, by omega⟩
    simp only [slices_Equal_int_int.l0]
    have hx : rd xs (i : Int) = xs[i]'(by omega) := by
      show xs.getD ((i : Int).toNat) 0 = _
      rw [show (i : Int).toNat = i by omega, List.getD_eq_getElem?_getD, List.getElem?_eq_getElem (by omega)]; rfl
    have hy : rd ys (i : Int) = ys[i]'(by omega) := by
      show ys.getD ((i : Int).toNat) 0 = _
      rw [show (i : Int).toNat = i by omega, List.getD_eq_getElem?_getD, List.getElem?_eq_getElem (by omega)]; rfl
    rw [if_pos (by omega), if_pos (by omega), if_pos (by omega), if_pos (by omega), hx, hy, wid (x := (i : Int) + 1) (by omega) (by omega)]
    by_cases e : xs[i]'(by omega) = ys[i]'(by omega)
    · rw [if_pos e]
      exact ih (i + 1) k (by omega) (by omega) (by rw [List.take_succ_eq_append_getElem (by omega), List.take_succ_eq_append_getElem (by omega), ht, e])
    · rw [if_neg e, decide_eq_false (fun h => e (by subst h; rfl))]
theorem equalInt_val (xs ys : List Int) (hl : xs.length ≤ 1000000000000) (k : Nat) (hk : xs.length < k) : slices_Equal_int_int.f k xs ys = some (decide (xs = ys)) := by
  unfold slices_Equal_int_int.f
  by_cases e : xs.length = ys.length
  · rw [if_pos (by omega)]
    exact equalInt_loop xs ys hl e xs.length 0 k (by omega) hk (by simp)
  · rw [if_neg (by omega), decide_eq_false (fun h => e (by rw [h]))]
theorem halvesOf_loop {h : Int} {xs : List Int} {n : Nat} (hd : 2 ≤ h ∧ h ≤ 24) (hn : (n : Int) = 2 * h) (hl : xs.length ≤ 1000) (d : Nat) : ∀ (i k : Nat), i + d = n → d + xs.length + 10 < k → impl_halvesOf.l0 k h xs (halvesL h xs i) n i = some (halvesL h xs n) := by
  induction d with
  | zero =>
    intro i k hi hk
    obtain ⟨k, rfl⟩ : ∃ m, k = m + 1 := ⟨k - 1, by omega⟩
    simp only [impl_halvesOf.l0]
    rw [if_neg (by omega), show i = n by omega]
  | succ d ih =>
    intro i k hi hk
    obtain ⟨k, rfl⟩ : ∃ m, k = m + 1 := ⟨k - 1, by omega⟩
    simp only [impl_halvesOf.l0]
    rw [if_pos (by omega), heardFrom_val hd (by omega) (by omega) hl k (by omega)]
    simp only [Option.bind_some]
    rw [equalInt_val _ _ (by rw [heardL_length]; omega) k (by rw [heardL_length]; omega)]
    simp only [Option.bind_some]
    rw [wid (x := (i : Int) + 1) (by omega) (by omega), if_pos (show (halvesL h xs i).length < 17592186044416 by have := halvesL_le h xs i; omega)]
    have := ih (i + 1) k (by omega) (by omega)
    rw [halvesL_succ] at this
    by_cases e : heardL h (i : Int) xs.length = xs
    · rw [if_pos e] at this
      rw [decide_eq_true e, if_pos rfl]; exact this
    · rw [if_neg e] at this
      rw [decide_eq_false e, if_neg (by simp)]; exact this
theorem halvesOf_val {h : Int} {xs : List Int} (hd : 2 ≤ h ∧ h ≤ 24) (hl : xs.length ≤ 1000) (k : Nat) (hk : xs.length + 70 < k) : impl_halvesOf.f k h xs = some (halvesL h xs (2 * h).toNat) := by
  unfold impl_halvesOf.f
  rw [wid (x := 2 * h) (by omega) (by omega)]
  have := halvesOf_loop hd (show (((2 * h).toNat : Nat) : Int) = 2 * h by omega) hl (2 * h).toNat 0 k (by omega) (by omega)
  rwa [show (((2 * h).toNat : Nat) : Int) = 2 * h by omega] at this
theorem toIntS_loop (xs : List Int) (hl : xs.length ≤ 1000000000000) (d : Nat) : ∀ (i k : Nat), i + d = xs.length → d < k → laws_toIntS.l0 k xs (xs.take i ++ List.replicate d 0) i = some xs := by
  induction d with
  | zero =>
    intro i k hi hk
    obtain ⟨k, rfl⟩ : ∃ m, k = m + 1 := ⟨k - 1, by omega⟩
    simp only [laws_toIntS.l0]
    rw [if_neg (by omega), List.take_of_length_le (by omega)]
    simp
  | succ d ih =>
    intro i k hi hk
    obtain ⟨k, rfl⟩ : ∃ m, k = m + 1 := ⟨k - 1, by omega⟩
    simp only [laws_toIntS.l0]
    have hL : (xs.take i ++ List.replicate (d + 1) (0 : Int)).length = xs.length := by rw [List.length_append, List.length_take, List.length_replicate]; omega
    rw [if_pos (by omega), if_pos (by omega), hL, if_pos (by omega), wid (x := (i : Int) + 1) (by omega) (by omega)]
    have e : (xs.take i ++ List.replicate (d + 1) (0 : Int)).set (i : Int).toNat (rd xs i) = xs.take (i + 1) ++ List.replicate d 0 := by
      have ht : (xs.take i).length = i := by rw [List.length_take]; omega
      have hr : rd xs (i : Int) = xs[i]'(by omega) := by
        show xs.getD ((i : Int).toNat) 0 = _
        rw [show (i : Int).toNat = i by omega, List.getD_eq_getElem?_getD, List.getElem?_eq_getElem (by omega)]; rfl
      rw [show (i : Int).toNat = i by omega, List.set_append_right (h := by omega), ht, Nat.sub_self, List.replicate_succ, List.set_cons_zero, hr, List.take_succ_eq_append_getElem (show i < xs.length by omega), List.append_assoc]
      rfl
    rw [e]
    exact ih (i + 1) k (by omega) (by omega)
theorem toIntS_val (xs : List Int) (hl : xs.length ≤ 1048576) (k : Nat) (hk : xs.length < k) : laws_toIntS.f k xs = some xs := by
  unfold laws_toIntS.f
  rw [if_pos (by omega), if_pos (by omega)]
  have := toIntS_loop xs (by omega) xs.length 0 k (by omega) hk
  simpa using this
theorem eqIntS_refl_loop (xs : List Int) (hl : xs.length ≤ 1000000000000) (d : Nat) : ∀ (i k : Nat), i + d = xs.length → d < k → laws_eqIntS.l0 k xs xs i = some true := by
  induction d with
  | zero =>
    intro i k hi hk
    obtain ⟨k, rfl⟩ : ∃ m, k = m + 1 := ⟨k - 1, by omega⟩
    simp only [laws_eqIntS.l0]
    rw [if_neg (by omega)]
  | succ d ih =>
    intro i k hi hk
    obtain ⟨k, rfl⟩ : ∃ m, k = m + 1 := ⟨k - 1, by omega⟩
    simp only [laws_eqIntS.l0]
    rw [if_pos (by omega), if_pos (by omega), if_pos (by omega), if_pos trivial, wid (x := (i : Int) + 1) (by omega) (by omega)]
    exact ih (i + 1) k (by omega) (by omega)
theorem eqIntS_refl (xs : List Int) (hl : xs.length ≤ 1000000000000) (k : Nat) (hk : xs.length < k) : laws_eqIntS.f k xs xs = some true := by
  unfold laws_eqIntS.f
  rw [if_pos rfl]
  exact eqIntS_refl_loop xs hl xs.length 0 k (by omega) hk
/-! exactInt: the law's own words over rows of whole numbers: equal, marked, held -/
theorem rd_at (xs : List Int) (i : Nat) : rd xs (i : Int) = xs.getD i 0 := rfl
/-- A row's marks: 1, 2, 3, .. -/
def marksI (n : Nat) : List Int := (List.range n).map fun (j : Nat) => 1 + (j : Int)
theorem marksI_length (n : Nat) : (marksI n).length = n := by simp [marksI]
theorem marksI_succ (n : Nat) : marksI (n + 1) = marksI n ++ [1 + (n : Int)] := by simp [marksI, List.range_succ]
theorem mark_loop (xs : List Int) (hl : xs.length ≤ 1000000000000) (d : Nat) : ∀ (i k : Nat), i + d = xs.length → d < k →
    laws_markIntS.l0 k (marksI i ++ xs.drop i) (1 + (i : Int)) i = some (1 + (xs.length : Int), marksI xs.length) := by
  induction d with
  | zero =>
    intro i k hi hk
    obtain ⟨k, rfl⟩ : ∃ m, k = m + 1 := ⟨k - 1, by omega⟩
    simp only [laws_markIntS.l0]
    have e : i = xs.length := by omega
    rw [if_neg (by rw [List.length_append, marksI_length, List.length_drop]; omega), e, List.drop_length, List.append_nil]
  | succ d ih =>
    intro i k hi hk
    obtain ⟨k, rfl⟩ : ∃ m, k = m + 1 := ⟨k - 1, by omega⟩
    simp only [laws_markIntS.l0]
    rw [if_pos (by rw [List.length_append, marksI_length, List.length_drop]; omega), if_pos (by omega), wid (x := 1 + (i : Int) + 1) (by omega) (by omega), wid (x := (i : Int) + 1) (by omega) (by omega)]
    have e : (marksI i ++ xs.drop i).set (i : Int).toNat (1 + (i : Int)) = marksI (i + 1) ++ xs.drop (i + 1) := by
      rw [show (i : Int).toNat = i by omega, List.set_append_right (h := by rw [marksI_length]; omega), marksI_length, Nat.sub_self, List.drop_eq_getElem_cons (by omega), List.set_cons_zero, marksI_succ, List.append_assoc]
      rfl
    rw [e, show (1 : Int) + i + 1 = 1 + ((i + 1 : Nat) : Int) by omega]
    exact ih (i + 1) k (by omega) (by omega)
theorem mark_val (xs : List Int) (hl : xs.length ≤ 1000000000000) (k : Nat) (hk : xs.length < k) : laws_markIntS.f k xs 1 = some (1 + (xs.length : Int), marksI xs.length) := by
  have := mark_loop xs hl xs.length 0 k (by omega) hk
  simpa [laws_markIntS.f, marksI] using this
theorem held_loop (n : Nat) (hl : n ≤ 1000000000000) (d : Nat) : ∀ (i k : Nat), i + d = n → d < k → laws_heldIntS.l0 k (marksI n) (1 + (i : Int)) i = some (1 + (n : Int)) := by
  induction d with
  | zero =>
    intro i k hi hk
    obtain ⟨k, rfl⟩ : ∃ m, k = m + 1 := ⟨k - 1, by omega⟩
    simp only [laws_heldIntS.l0]
    rw [if_neg (by rw [marksI_length]; omega), show i = n by omega]
  | succ d ih =>
    intro i k hi hk
    obtain ⟨k, rfl⟩ : ∃ m, k = m + 1 := ⟨k - 1, by omega⟩
    simp only [laws_heldIntS.l0]
    have e : rd (marksI n) (i : Int) = 1 + (i : Int) := by
      rw [rd_at, List.getD_eq_getElem?_getD]
      simp [marksI, List.getElem?_range (show i < n by omega)]
    rw [if_pos (by rw [marksI_length]; omega), if_pos (by omega), if_pos e, wid (x := 1 + (i : Int) + 1) (by omega) (by omega), wid (x := (i : Int) + 1) (by omega) (by omega)]
    have := ih (i + 1) k (by omega) (by omega)
    rw [show (1 : Int) + i + 1 = 1 + ((i + 1 : Nat) : Int) by omega]
    exact this
theorem held_val (n : Nat) (hl : n ≤ 1000000000000) (k : Nat) (hk : n < k) : laws_heldIntS.f k (marksI n) 1 = some (1 + (n : Int)) := by
  have := held_loop n hl n 0 k (by omega) hk
  simpa [laws_heldIntS.f] using this
/-- Two increasing lists of the same numbers are one. -/
theorem strict_eq : ∀ (xs ys : List Int), xs.Pairwise (· < ·) → ys.Pairwise (· < ·) → (∀ a, a ∈ xs ↔ a ∈ ys) → xs = ys
  | [], [], _, _, _ => rfl
  | [], y :: ys, _, _, h => absurd ((h y).2 (List.mem_cons_self ..)) (by simp)
  | x :: xs, [], _, _, h => absurd ((h x).1 (List.mem_cons_self ..)) (by simp)
  | x :: xs, y :: ys, hx, hy, h => by
    rw [List.pairwise_cons] at hx hy
    have e : x = y := by
      have h1 := (h x).1 (List.mem_cons_self ..)
      have h2 := (h y).2 (List.mem_cons_self ..)
      rw [List.mem_cons] at h1 h2
      rcases h1 with rfl | h1
      · rfl
      · rcases h2 with rfl | h2
        · rfl
        · have := hx.1 y h2
          have := hy.1 x h1
          omega
    subst e
    rw [strict_eq xs ys hx.2 hy.2 fun a => ?_]
    have := h a
    rw [List.mem_cons, List.mem_cons] at this
    constructor
    · intro ha
      rcases this.1 (.inr ha) with rfl | hb
      · exact absurd (hx.1 _ ha) (by omega)
      · exact hb
    · intro ha
      rcases this.2 (.inr ha) with rfl | hb
      · exact absurd (hy.1 _ ha) (by omega)
      · exact hb
theorem get_of {d : Array Int} {i : Nat} (hi : i < d.size) : d[i]! = d[i] := getElem!_pos d i hi
/-- Of a list that never falls, each number once: increasing, and the same numbers. -/
theorem compact_strict (zs : List Int) (hs : zs.Pairwise (· ≤ ·)) : (Lib.compact zs).Pairwise (· < ·) := by
  unfold Lib.compact Lib.compactUpTo
  rw [List.pairwise_map]
  have hg : ∀ i j : Nat, i ≤ j → j < zs.length → zs.toArray[i]! ≤ zs.toArray[j]! := by
    intro i j hij hj
    rw [get_of (by simp; omega), get_of (by simp; omega)]
    by_cases e : i = j
    · subst e; omega
    · rw [List.pairwise_iff_getElem] at hs
      simpa using hs i j (by omega) hj (by omega)
  rw [List.pairwise_filter]
  refine List.Pairwise.imp_of_mem ?_ (List.pairwise_lt_range)
  intro i j hi hj hlt _ kj
  have hj' : j < zs.length := by simpa using hj
  unfold Lib.keeps at kj
  rcases of_decide_eq_true kj with h0 | hne
  · omega
  · have a := hg i (j - 1) (by omega) (by omega)
    have b := hg (j - 1) j (by omega) hj'
    omega
theorem compact_mem (zs : List Int) (a : Int) : a ∈ Lib.compact zs ↔ a ∈ zs := by
  unfold Lib.compact Lib.compactUpTo
  constructor
  · intro h
    obtain ⟨i, hi, rfl⟩ := List.mem_map.1 h
    have hi' : i < zs.length := by simpa using (List.mem_filter.1 hi).1
    rw [get_of (by simpa using hi')]
    simp
  · intro h
    have key : ∀ (n : Nat), n < zs.length → zs.toArray[n]! = a → ∃ m, m < zs.length ∧ zs.toArray[m]! = a ∧ Lib.keeps zs.toArray m = true := by
      intro n
      induction n with
      | zero => intro hn he; exact ⟨0, hn, he, by unfold Lib.keeps; simp⟩
      | succ n ih =>
        intro hn he
        by_cases e : zs.toArray[n]! = a
        · exact ih (by omega) e
        · exact ⟨n + 1, hn, he, by unfold Lib.keeps; rw [decide_eq_true_eq]; right; rw [he]; simp only [Nat.add_sub_cancel]; exact fun c => e c.symm⟩
    obtain ⟨n, hn, he⟩ := List.getElem_of_mem h
    obtain ⟨m, hm, em, km⟩ := key n hn (by rw [get_of (by simpa using hn)]; simpa using he)
    exact List.mem_map.2 ⟨m, List.mem_filter.2 ⟨by simpa using hm, km⟩, em⟩
theorem sorted_once (xs ys : List Int) (hy : ys.Pairwise (· < ·)) (hm : ∀ a, a ∈ ys ↔ a ∈ xs) : Lib.compact (xs.mergeSort fun x y => decide (x ≤ y)) = ys := by
  have hs : (xs.mergeSort fun x y => decide (x ≤ y)).Pairwise (· ≤ ·) := by
    have := List.pairwise_mergeSort (le := fun x y : Int => decide (x ≤ y)) (fun a b c h1 h2 => by simp at h1 h2 ⊢; omega) (fun a b => by simp; omega) xs
    exact this.imp (fun h => of_decide_eq_true h)
  refine strict_eq _ _ (compact_strict _ hs) hy fun a => ?_
  rw [compact_mem, List.mem_mergeSort, hm]
theorem l1Has_loop (n : Int) (xs : List Int) (hl : xs.length ≤ 1000) (d : Nat) : ∀ (i k : Nat), i + d = xs.length → d < k → spec_l1Has.l0 k n xs (xs.length : Int) i = some (decide (n ∈ xs.drop i)) := by
  induction d with
  | zero =>
    intro i k hi hk
    obtain ⟨k, rfl⟩ : ∃ m, k = m + 1 := ⟨k - 1, by omega⟩
    simp only [spec_l1Has.l0]
    rw [if_neg (by omega), List.drop_of_length_le (by omega)]
    simp
  | succ d ih =>
    intro i k hi hk
    obtain ⟨k, rfl⟩ : ∃ m, k = m + 1 := ⟨k - 1, by omega⟩
    have hr := ih (i + 1) k (by omega) (by omega)
    rw [show ((i + 1 : Nat) : Int) = (i : Int) + 1 from rfl] at hr
    have e : rd xs (i : Int) = xs[i]'(by omega) := by
      show xs.getD i 0 = _
      rw [List.getD_eq_getElem?_getD, List.getElem?_eq_getElem (by omega)]; rfl
    simp only [spec_l1Has.l0]
    rw [if_pos (by omega), if_pos (by omega), if_pos (by omega), wid (x := (i : Int) + 1) (by omega) (by omega), hr, List.drop_eq_getElem_cons (show i < xs.length by omega), e]
    by_cases c : xs[i]'(by omega) = n
    · rw [if_pos c, decide_eq_true (by rw [c]; exact List.mem_cons_self ..)]
    · rw [if_neg c]
      refine congrArg some (decide_eq_decide.mpr ?_)
      rw [List.mem_cons]
      exact ⟨fun h => Or.inr h, fun h => h.elim (fun e => absurd e.symm c) id⟩
theorem l1Has_val (n : Int) (xs : List Int) (hl : xs.length ≤ 1000) (k : Nat) (hk : xs.length < k) : spec_l1Has.f k xs n = some (decide (n ∈ xs)) := by
  have := l1Has_loop n xs hl xs.length 0 k (by omega) hk
  rwa [List.drop_zero] at this
theorem rd_nth (xs : List Int) (i : Nat) (hi : i < xs.length) : rd xs (i : Int) = xs[i] := by
  show xs.getD i 0 = _
  rw [List.getD_eq_getElem?_getD, List.getElem?_eq_getElem hi]; rfl
theorem l1Put_loop (n : Int) (xs : List Int) (hl : xs.length ≤ 1000) (hn : n ∉ xs) (d : Nat) : ∀ (i : Nat), i + d = xs.length → (∀ j (hj : j < xs.length), j < i → xs[j] < n) →
    ∃ m, m ≤ xs.length ∧ (∀ j (hj : j < xs.length), j < m → xs[j] < n) ∧ (∀ hm : m < xs.length, n < xs[m]) ∧ ∀ k, d < k → spec_l1Put.l0 k xs n i = some (xs.take m ++ n :: xs.drop m) := by
  induction d with
  | zero =>
    intro i hi ha
    refine ⟨i, by omega, ha, fun hm => by omega, fun k hk => ?_⟩
    obtain ⟨k, rfl⟩ : ∃ m, k = m + 1 := ⟨k - 1, by omega⟩
    simp only [spec_l1Put.l0]
    rw [if_neg (by omega)]
    simp only [Option.bind_some]
    rw [if_pos (by omega), if_pos (by omega), show (i : Int).toNat = i by omega]
    simp only [List.nil_append, List.length_nil]
    rw [if_pos (by rw [List.length_take]; omega), if_pos (by rw [List.length_take]; omega), if_pos (by rw [List.length_append, List.length_take, List.length_drop]; simp; omega)]
    simp
  | succ d ih =>
    intro i hi ha
    by_cases c : xs[i]'(by omega) < n
    · obtain ⟨m, m1, m2, m3, hr⟩ := ih (i + 1) (by omega) (fun j hj hlt => by
        by_cases e : j = i
        · subst e; exact c
        · exact ha j hj (by omega))
      refine ⟨m, m1, m2, m3, fun k hk => ?_⟩
      obtain ⟨k, rfl⟩ : ∃ m, k = m + 1 := ⟨k - 1, by omega⟩
      have := hr k (by omega)
      rw [show ((i + 1 : Nat) : Int) = (i : Int) + 1 from rfl] at this
      simp only [spec_l1Put.l0]
      rw [if_pos (by omega), if_pos (by omega), rd_nth xs i (by omega), if_pos c, wid (x := (i : Int) + 1) (by omega) (by omega)]
      exact this
    · have ne : xs[i]'(by omega) ≠ n := fun e => hn (by rw [← e]; exact List.getElem_mem _)
      refine ⟨i, by omega, ha, fun hm => by omega, fun k hk => ?_⟩
      obtain ⟨k, rfl⟩ : ∃ m, k = m + 1 := ⟨k - 1, by omega⟩
      simp only [spec_l1Put.l0]
      rw [if_pos (by omega), if_pos (by omega), rd_nth xs i (by omega), if_neg c, if_neg ne]
      simp only [Option.bind_some]
      rw [if_pos (by omega), show (i : Int).toNat = i by omega]
      simp only [List.nil_append, List.length_nil]
      rw [if_pos (by rw [List.length_take]; omega), if_pos (by rw [List.length_take]; omega), if_pos (by rw [List.length_append, List.length_take, List.length_drop]; simp; omega)]
      simp
/-- A number that is new is put into its place. -/
theorem l1Put_val (n : Int) (xs : List Int) (hl : xs.length ≤ 1000) (hn : n ∉ xs) (hs : xs.Pairwise (· < ·)) : ∃ ys : List Int, ys.Pairwise (· < ·) ∧ (∀ a, a ∈ ys ↔ a = n ∨ a ∈ xs) ∧ ys.length = xs.length + 1 ∧ ∀ k, xs.length < k → spec_l1Put.f k xs n = some ys := by
  obtain ⟨m, m1, m2, m3, hr⟩ := l1Put_loop n xs hl hn xs.length 0 (by omega) (fun j hj h => by omega)
  refine ⟨xs.take m ++ n :: xs.drop m, ?_, fun a => ?_, by rw [List.length_append, List.length_cons, List.length_take, List.length_drop]; omega, fun k hk => hr k hk⟩
  · rw [List.pairwise_append, List.pairwise_cons]
    rw [List.pairwise_iff_getElem] at hs
    have lo : ∀ a ∈ xs.take m, a < n := by
      intro a h
      obtain ⟨j, hj, rfl⟩ := List.getElem_of_mem h
      rw [List.length_take] at hj
      rw [List.getElem_take]
      exact m2 j (by omega) (by omega)
    have hi : ∀ a ∈ xs.drop m, n < a := by
      intro a h
      obtain ⟨j, hj, rfl⟩ := List.getElem_of_mem h
      rw [List.length_drop] at hj
      rw [List.getElem_drop]
      have b := m3 (by omega)
      by_cases e : j = 0
      · subst e; simpa using b
      · have := hs m (m + j) (by omega) (by omega) (by omega)
        omega
    rw [← List.pairwise_iff_getElem] at hs
    refine ⟨hs.sublist (List.take_sublist _ _), ⟨hi, hs.sublist (List.drop_sublist _ _)⟩, fun a ha b hb => ?_⟩
    rcases List.mem_cons.1 hb with rfl | hb
    · exact lo a ha
    · have := lo a ha
      have := hi b hb
      omega
  · rw [List.mem_append, List.mem_cons]
    have := List.take_append_drop m xs
    constructor
    · rintro (h | h | h)
      · exact .inr (List.mem_of_mem_take h)
      · exact .inl h
      · exact .inr (List.mem_of_mem_drop h)
    · rintro (h | h)
      · exact .inr (.inl h)
      · rw [← this, List.mem_append] at h
        rcases h with h | h
        · exact .inl h
        · exact .inr (.inr h)
/-- What is heard next, from each half. -/
def valsL (h n : Int) (hs : List Int) : List Int := hs.map fun x => st h ((x + n) % (2 * h))
theorem valsL_take (h n : Int) (hs : List Int) (i : Nat) (hi : i < hs.length) : (valsL h n hs).take (i + 1) = (valsL h n hs).take i ++ [st h ((hs[i] + n) % (2 * h))] := by
  unfold valsL
  rw [← List.map_take, ← List.map_take, List.take_succ_eq_append_getElem hi, List.map_append]; rfl
theorem valsL_drop (h n : Int) (hs : List Int) (i : Nat) (hi : i < hs.length) : (valsL h n hs).drop i = st h ((hs[i] + n) % (2 * h)) :: (valsL h n hs).drop (i + 1) := by
  unfold valsL
  rw [← List.map_drop, ← List.map_drop, List.drop_eq_getElem_cons hi, List.map_cons]
theorem iNext_loop {h : Int} {xs hs : List Int} (hd : 2 ≤ h ∧ h ≤ 24) (hx : xs.length ≤ 60) (hl : hs.length ≤ 48) (hb : ∀ x ∈ hs, 0 ≤ x ∧ x < 2 * h) (d : Nat) : ∀ (i k : Nat), i + d = hs.length → d < k →
    impl_NextHeard.l0 k h xs ((valsL h xs.length hs).take i) hs (hs.length : Int) i = some (Lib.compact ((valsL h xs.length hs).mergeSort fun x y => decide (x ≤ y)), true) := by
  have vl : (valsL h xs.length hs).length = hs.length := by simp [valsL]
  induction d with
  | zero =>
    intro i k hi hk
    obtain ⟨k, rfl⟩ : ∃ m, k = m + 1 := ⟨k - 1, by omega⟩
    simp only [impl_NextHeard.l0]
    rw [if_neg (by omega), List.take_of_length_le (by omega)]
    unfold slices_Sort_int_int.f slices_Compact_int_int.f
    rw [if_pos (by omega)]
    simp only [Option.bind_some]
    rw [if_pos (by rw [List.length_mergeSort]; omega)]
    rfl
  | succ d ih =>
    intro i k hi hk
    obtain ⟨k, rfl⟩ : ∃ m, k = m + 1 := ⟨k - 1, by omega⟩
    have b := hb _ (List.getElem_mem (show i < hs.length by omega))
    have hr := ih (i + 1) k (by omega) (by omega)
    rw [show ((i + 1 : Nat) : Int) = (i : Int) + 1 from rfl, valsL_take h _ hs i (by omega)] at hr
    simp only [impl_NextHeard.l0]
    rw [if_pos (by omega), if_pos (by omega), if_pos (by omega), rd_nth hs i (by omega), wid (x := hs[i]'(by omega) + (xs.length : Int)) (by omega) (by omega), strokes_val hd (by omega)]
    simp only [Option.bind_some]
    rw [if_pos (by rw [List.length_take]; omega), wid (x := (i : Int) + 1) (by omega) (by omega)]
    exact hr
theorem sNext_loop {h : Int} {xs hs : List Int} (hd : 2 ≤ h ∧ h ≤ 24) (hx : xs.length ≤ 60) (hl : hs.length ≤ 48) (hb : ∀ x ∈ hs, 0 ≤ x ∧ x < 2 * h) (d : Nat) : ∀ (i : Nat) (out : List Int), i + d = hs.length → out.length ≤ i → out.Pairwise (· < ·) →
    ∃ res : List Int, res.Pairwise (· < ·) ∧ (∀ a, a ∈ res ↔ a ∈ out ∨ a ∈ (valsL h xs.length hs).drop i) ∧ res.length ≤ 48 ∧ ∀ k, 100 + d ≤ k → spec_NextHeard.l0 k h xs out hs (hs.length : Int) i = some (res, true) := by
  have vl : (valsL h xs.length hs).length = hs.length := by simp [valsL]
  induction d with
  | zero =>
    intro i out hi ho hs'
    refine ⟨out, hs', fun a => by rw [List.drop_of_length_le (by omega)]; simp, by omega, fun k hk => ?_⟩
    obtain ⟨k, rfl⟩ : ∃ m, k = m + 1 := ⟨k - 1, by omega⟩
    simp only [spec_NextHeard.l0]
    rw [if_neg (by omega)]
  | succ d ih =>
    intro i out hi ho hs'
    have b := hb _ (List.getElem_mem (show i < hs.length by omega))
    have m0 : 0 ≤ (hs[i]'(by omega) + (xs.length : Int)) % (2 * h) := Int.emod_nonneg _ (by omega)
    have m1 : (hs[i]'(by omega) + (xs.length : Int)) % (2 * h) < 2 * h := Int.emod_lt_of_pos _ (by omega)
    have step : ∀ k, 100 + d ≤ k → spec_NextHeard.l0 (k + 1) h xs out hs (hs.length : Int) i = (if decide (st h ((hs[i]'(by omega) + (xs.length : Int)) % (2 * h)) ∈ out) = true then spec_NextHeard.l0 k h xs out hs (hs.length : Int) ((i : Int) + 1) else (spec_l1Put.f k out (st h ((hs[i]'(by omega) + (xs.length : Int)) % (2 * h)))).bind fun t => spec_NextHeard.l0 k h xs t hs (hs.length : Int) ((i : Int) + 1)) := by
      intro k hk
      simp only [spec_NextHeard.l0]
      rw [if_pos (by omega), if_pos (by omega), if_pos (by omega), wid (x := 2 * h) (by omega) (by omega), if_neg (by omega), rd_nth hs i (by omega), wid (x := hs[i]'(by omega) + (xs.length : Int)) (by omega) (by omega), tmod_nn _ (by omega), stAt_val _ m0 (by omega), wid (x := (i : Int) + 1) (by omega) (by omega)]
      simp only [Option.bind_some]
      rw [l1Has_val _ out (by omega) k (by omega)]
      rfl
    by_cases c : st h ((hs[i]'(by omega) + (xs.length : Int)) % (2 * h)) ∈ out
    · obtain ⟨res, r1, r2, r3, hr⟩ := ih (i + 1) out (by omega) (by omega) hs'
      refine ⟨res, r1, fun a => ?_, r3, fun k hk => ?_⟩
      · rw [r2, valsL_drop h _ hs i (by omega), List.mem_cons]
        constructor
        · rintro (h | h)
          · exact .inl h
          · exact .inr (.inr h)
        · rintro (h | h | h)
          · exact .inl h
          · exact .inl (by rw [h]; exact c)
          · exact .inr h
      · obtain ⟨k, rfl⟩ : ∃ m, k = m + 1 := ⟨k - 1, by omega⟩
        rw [step k (by omega), decide_eq_true c, if_pos rfl]
        exact hr k (by omega)
    · obtain ⟨out', o1, o2, o3, hp⟩ := l1Put_val _ out (by omega) c hs'
      obtain ⟨res, r1, r2, r3, hr⟩ := ih (i + 1) out' (by omega) (by omega) o1
      refine ⟨res, r1, fun a => ?_, r3, fun k hk => ?_⟩
      · rw [r2, o2, valsL_drop h _ hs i (by omega), List.mem_cons]
        constructor
        · rintro ((h | h) | h)
          · exact .inr (.inl h)
          · exact .inl h
          · exact .inr (.inr h)
        · rintro (h | h | h)
          · exact .inl (.inr h)
          · exact .inl (.inl h)
          · exact .inr h
      · obtain ⟨k, rfl⟩ : ∃ m, k = m + 1 := ⟨k - 1, by omega⟩
        rw [step k (by omega), decide_eq_false c, if_neg (by simp), hp k (by omega)]
        exact hr k (by omega)
theorem halvesL_bd {h : Int} (hh : 2 ≤ h) (xs : List Int) : ∀ x ∈ halvesL h xs (2 * h).toNat, 0 ≤ x ∧ x < 2 * h := by
  intro x hx
  unfold halvesL at hx
  obtain ⟨i, hi, rfl⟩ := List.mem_map.1 hx
  have := List.mem_range.1 (List.mem_filter.1 hi).1
  omega
theorem both (h : Int) (xs : List Int) (hl : xs.length ≤ 1048576) : ∃ (ys : List Int) (b : Bool), ys.length ≤ 48 ∧ ∀ k, xs.length + 300 < k → spec_NextHeard.f k h xs = some (ys, b) ∧ impl_NextHeard.f k h xs = some (ys, b) := by
  by_cases hq : isL h xs = true
  · obtain ⟨hd, h1, h2⟩ := isL_bd hq
    have hle := halvesL_le h xs (2 * h).toNat
    have hb := halvesL_bd hd.1 xs
    obtain ⟨res, r1, r2, r3, hr⟩ := sNext_loop hd h2 (hs := halvesL h xs (2 * h).toNat) (by omega) hb (halvesL h xs (2 * h).toNat).length 0 [] (by omega) (by simp) List.Pairwise.nil
    refine ⟨res, true, r3, fun k hk => ?_⟩
    unfold spec_NextHeard.f impl_NextHeard.f
    rw [stHeard_val h xs hl k (by omega), isHeardList_val, hq]
    simp only [Option.bind_some, if_true]
    rw [stHalves_val hd (by omega) k (by omega), halvesOf_val hd (by omega) k (by omega)]
    simp only [Option.bind_some]
    have a := hr k (by omega)
    have b := iNext_loop hd h2 (hs := halvesL h xs (2 * h).toNat) (by omega) hb (halvesL h xs (2 * h).toNat).length 0 k (by omega) (by omega)
    rw [List.take_zero] at b
    rw [sorted_once _ res r1 (fun a => by rw [r2]; simp)] at b
    exact ⟨a, b⟩
  · refine ⟨[], false, by simp, fun k hk => ?_⟩
    unfold spec_NextHeard.f impl_NextHeard.f
    rw [stHeard_val h xs hl k (by omega), isHeardList_val]
    have : isL h xs = false := by simpa using hq
    rw [this]
    exact ⟨rfl, rfl⟩
theorem FnExactNextHeard : laws_FnExactNextHeard.Pure := by
  intro h xs _ _ _ _
  refine ⟨xs.length + 500, ?_⟩
  unfold laws_FnExactNextHeard.f
  by_cases hl : (xs.length : Int) > 1048576
  · rw [if_pos hl]
  · obtain ⟨ys, b, hy, H⟩ := both h xs (by omega)
    have t := toIntS_val xs (by omega)
    have m1 := mark_val ys (by omega)
    have m2 := held_val ys.length (by omega)
    have m3 := mark_val xs (by omega)
    rw [if_neg hl, t _ (by omega)]
    simp only [Option.bind_some]
    rw [(H _ (by omega)).1]
    simp only [Option.bind_some]
    rw [(H _ (by omega)).2]
    simp only [Option.bind_some]
    rw [eqIntS_refl ys (by omega) _ (by omega)]
    simp only [Option.bind_some, if_true, bne_self_eq_false, Bool.false_eq_true, if_false, laws_FnExactNextHeard.j0]
    rw [t _ (by omega)]
    simp only [Option.bind_some]
    rw [eqIntS_refl xs (by omega) _ (by omega)]
    simp only [Option.bind_some, if_true]
    rw [m3 _ (by omega)]
    simp only [Option.bind_some]
    rw [if_neg (by omega), eqIntS_refl ys (by omega) _ (by omega)]
    simp only [Option.bind_some, if_true, bne_self_eq_false, Bool.false_eq_true, if_false, laws_FnExactNextHeard.j1]
    rw [m1 _ (by omega)]
    simp only [Option.bind_some]
    rw [m2 _ (by omega)]
    simp only [Option.bind_some]
    rw [if_neg (by omega), if_pos trivial, t _ (by omega)]
    simp only [Option.bind_some]
    rw [(H _ (by omega)).2]
    simp only [Option.bind_some]
    rw [eqIntS_refl ys (by omega) _ (by omega)]
    simp only [Option.bind_some, if_true, bne_self_eq_false, Bool.false_eq_true, if_false, laws_FnExactNextHeard.j2]
    rw [m2 _ (by omega)]
    simp only [Option.bind_some]
    rw [if_neg (by omega), if_pos trivial]

end Go.Proofs.Ytbcpdgiinebnaaa.Pure
