/- For every dial, half and number of halves the program's HeardFrom answers as the reference does, in memory of its own; no condition. -/
import Derived.Test.YtnangmpclikldaaPFnExactHeardFromx2
set_option linter.unusedVariables false
set_option linter.unusedSimpArgs false
namespace Go.Proofs.Ytnangmpclikldaa.Pure
open Go.RowKit Go.Proofs.Ytnangmpclikldaa.PFnExactHeardFrom Go.Proofs.YtnangmpclikldaaW.PrintWords Go.Proofs.YtnangmpclikldaaW.PrintLast Go.Proofs.YtnangmpclikldaaW.PrintMore

/-! base: whole numbers of 64 bits -/
theorem wid {x : Int} (h0 : -9223372036854775808 ≤ x) (h1 : x ≤ 9223372036854775807) : wrap64 x = x := by unfold wrap64; omega
theorem wf_bd {a : Int} (h : (Lit.int .i64 a).wf = true) : -9223372036854775808 ≤ a ∧ a ≤ 9223372036854775807 := by
  simp only [Lit.wf, IntKind.min, IntKind.max, IntKind.signed, IntKind.bits, Bool.and_eq_true, decide_eq_true_eq] at h
  simp at h
  exact h
theorem tmod_nn {a : Int} (b : Int) (h : 0 ≤ a) : Int.tmod a b = a % b := Int.tmod_eq_emod_of_nonneg h
theorem tdiv_nn {a : Int} (b : Int) (h : 0 ≤ a) : Int.tdiv a b = a / b := Int.tdiv_eq_ediv_of_nonneg h
theorem mul_bd {x y M N : Int} (hx : -M ≤ x ∧ x ≤ M) (hy : -N ≤ y ∧ y ≤ N) : -(M * N) ≤ x * y ∧ x * y ≤ M * N := by
  have h1 : x.natAbs ≤ M.natAbs := by omega
  have h2 : y.natAbs ≤ N.natAbs := by omega
  have h3 := Nat.mul_le_mul h1 h2
  rw [← Int.natAbs_mul, ← Int.natAbs_mul] at h3
  have h4 : 0 ≤ M * N := Int.mul_nonneg (by omega) (by omega)
  omega
theorem l1In_val (a b c : Int) : spec_l1In.f a b c = some (decide (b ≤ a ∧ a ≤ c)) := by
  unfold spec_l1In.f
  by_cases h : a ≥ b
  · have e : (b ≤ a ∧ a ≤ c) ↔ a ≤ c := ⟨fun x => x.2, fun x => ⟨h, x⟩⟩
    rw [if_pos h, decide_eq_decide.mpr e]
  · rw [if_neg h, decide_eq_false (fun x => h x.1)]
theorem within_val (a b c : Int) : impl_within.f a b c = some (decide (b ≤ a ∧ a ≤ c)) := by
  unfold impl_within.f
  by_cases h : a ≥ b
  · have e : (b ≤ a ∧ a ≤ c) ↔ a ≤ c := ⟨fun x => x.2, fun x => ⟨h, x⟩⟩
    rw [if_pos h, decide_eq_decide.mpr e]
  · rw [if_neg h, decide_eq_false (fun x => h x.1)]
theorem diHours_val (h : Int) : spec_diHours.f h = some (decide (2 ≤ h ∧ h ≤ 24)) := by
  unfold spec_diHours.f; rw [l1In_val]; rfl
theorem isDial_val (h : Int) : impl_isDial.f h = some (decide (2 ≤ h ∧ h ≤ 24)) := by
  unfold impl_isDial.f; rw [within_val]; rfl
def isH (h x : Int) : Prop := (2 ≤ h ∧ h ≤ 24) ∧ 0 ≤ x ∧ x ≤ 2 * h - 1
instance (h x : Int) : Decidable (isH h x) := by unfold isH; exact inferInstance
theorem stHalf_val (h x : Int) : spec_stHalf.f h x = some (decide (isH h x)) := by
  unfold spec_stHalf.f isH; rw [diHours_val]
  simp only [Option.bind_some]
  by_cases hd : 2 ≤ h ∧ h ≤ 24
  · simp only [decide_eq_true hd, if_true]
    rw [l1In_val, wid (x := 2 * h) (by omega) (by omega), wid (by omega) (by omega)]
    simp [hd]
  · simp only [decide_eq_false hd]
    simp [hd]
theorem isHalf_val (h x : Int) : impl_isHalf.f h x = some (decide (isH h x)) := by
  unfold impl_isHalf.f isH; rw [isDial_val]
  simp only [Option.bind_some]
  by_cases hd : 2 ≤ h ∧ h ≤ 24
  · simp only [decide_eq_true hd, if_true]
    rw [within_val, wid (x := 2 * h) (by omega) (by omega), wid (by omega) (by omega)]
    simp [hd]
  · simp only [decide_eq_false hd]
    simp [hd]
def st (h j : Int) : Int := if j % 2 = 1 then 1 else if j = 0 then h else j / 2
theorem st_pos {h j : Int} (hh : 2 ≤ h) (h0 : 0 ≤ j) : 1 ≤ st h j := by
  unfold st; split
  · omega
  · split <;> omega
theorem st_le {h j : Int} (hh : 2 ≤ h) (h1 : j < 2 * h) : st h j ≤ h := by
  unfold st; split
  · omega
  · split <;> omega
theorem stAt_val (h : Int) {j : Int} (h0 : 0 ≤ j) (h1 : j ≤ 4611686018427387904) : spec_stAt.f h j = some (st h j) := by
  unfold spec_stAt.f st
  rw [tmod_nn _ h0, tdiv_nn _ h0]
  split
  · rfl
  · split
    · rfl
    · rw [wid (by omega) (by omega)]
theorem strokes_val {h j : Int} (hd : 2 ≤ h ∧ h ≤ 24) (h0 : 0 ≤ j) : impl_strokes.f h j = some (st h (j % (2 * h))) := by
  have hw : wrap64 (2 * h) = 2 * h := wid (by omega) (by omega)
  have hm : 0 ≤ j % (2 * h) := Int.emod_nonneg _ (by omega)
  have hl : j % (2 * h) < 2 * h := Int.emod_lt_of_pos _ (by omega)
  unfold impl_strokes.f st
  rw [hw, tmod_nn _ h0, tmod_nn _ hm, tdiv_nn _ hm, if_neg (by omega)]
  by_cases h1 : j % (2 * h) = 0
  · rw [if_pos h1, h1]; simp
  · rw [if_neg h1]
    by_cases h2 : j % (2 * h) % 2 = 1
    · rw [if_pos h2, if_pos h2]
    · rw [if_neg h2, if_neg h2, if_neg h1, wid (by omega) (by omega)]
/-- What is heard at n halves from x on. -/
def heardL (h x : Int) (n : Nat) : List Int := (List.range n).map fun (i : Nat) => st h ((x + (i : Int)) % (2 * h))
theorem heardL_length (h x : Int) (n : Nat) : (heardL h x n).length = n := by simp [heardL]
theorem heardL_succ (h x : Int) (n : Nat) : heardL h x (n + 1) = heardL h x n ++ [st h ((x + (n : Int)) % (2 * h))] := by
  simp [heardL, List.range_succ]
theorem stFrom_loop {h x : Int} {n : Nat} (hd : 2 ≤ h ∧ h ≤ 24) (hx : 0 ≤ x) (hx' : x ≤ 1000000) (hn : n ≤ 1000) (d : Nat) : ∀ (i k : Nat), i + d = n → d < k →
    spec_stFrom.l0 k h x n (heardL h x i) i = some (heardL h x n) := by
  induction d with
  | zero =>
    intro i k hi hk
    obtain ⟨k, rfl⟩ : ∃ m, k = m + 1 := ⟨k - 1, by omega⟩
    simp only [spec_stFrom.l0]
    rw [if_neg (by omega), show i = n by omega]
  | succ d ih =>
    intro i k hi hk
    obtain ⟨k, rfl⟩ : ∃ m, k = m + 1 := ⟨k - 1, by omega⟩
    have hm : 0 ≤ (x + i) % (2 * h) := Int.emod_nonneg _ (by omega)
    have hl : (x + i) % (2 * h) < 2 * h := Int.emod_lt_of_pos _ (by omega)
    simp only [spec_stFrom.l0]
    rw [if_pos (by omega), wid (x := 2 * h) (by omega) (by omega), if_neg (by omega), wid (x := x + i) (by omega) (by omega), tmod_nn _ (by omega), stAt_val _ hm (by omega)]
    simp only [Option.bind_some]
    rw [heardL_length, if_pos (by omega), wid (x := (i : Int) + 1) (by omega) (by omega), ← heardL_succ]
    exact ih (i + 1) k (by omega) (by omega)
theorem stFrom_val {h x : Int} {n : Nat} (hd : 2 ≤ h ∧ h ≤ 24) (hx : 0 ≤ x) (hx' : x ≤ 1000000) (hn : n ≤ 1000) (k : Nat) (hk : n < k) : spec_stFrom.f k h x n = some (heardL h x n) :=
  stFrom_loop hd hx hx' hn n 0 k (by omega) hk
theorem heardFrom_loop {h x : Int} {n : Nat} (hd : 2 ≤ h ∧ h ≤ 24) (hx : 0 ≤ x) (hx' : x ≤ 1000000) (hn : n ≤ 1000) (d : Nat) : ∀ (i k : Nat), i + d = n → d < k →
    impl_heardFrom.l0 k h x (heardL h x i) n i = some (heardL h x n) := by
  induction d with
  | zero =>
    intro i k hi hk
    obtain ⟨k, rfl⟩ : ∃ m, k = m + 1 := ⟨k - 1, by omega⟩
    simp only [impl_heardFrom.l0]
    rw [if_neg (by omega), show i = n by omega]
  | succ d ih =>
    intro i k hi hk
    obtain ⟨k, rfl⟩ : ∃ m, k = m + 1 := ⟨k - 1, by omega⟩
    simp only [impl_heardFrom.l0]
    rw [if_pos (by omega), wid (x := x + i) (by omega) (by omega), strokes_val hd (by omega)]
    simp only [Option.bind_some]
    rw [heardL_length, if_pos (by omega), wid (x := (i : Int) + 1) (by omega) (by omega), ← heardL_succ]
    exact ih (i + 1) k (by omega) (by omega)
theorem heardFrom_val {h x : Int} {n : Nat} (hd : 2 ≤ h ∧ h ≤ 24) (hx : 0 ≤ x) (hx' : x ≤ 1000000) (hn : n ≤ 1000) (k : Nat) (hk : n < k) : impl_heardFrom.f k h x n = some (heardL h x n) :=
  heardFrom_loop hd hx hx' hn n 0 k (by omega) hk
/-! exactInt: the law's own words over rows of whole numbers: equal, marked, held -/
theorem rd_at (xs : List Int) (i : Nat) : rd xs (i : Int) = xs.getD i 0 := rfl
theorem eqIntS_refl_loop (xs : List Int) (hl : xs.length ≤ 1000000000000) (d : Nat) : ∀ (i k : Nat), i + d = xs.length → d < k → laws_eqIntS.l0 k xs xs i = some true := by
  induction d with
  | zero =>
    intro i k hi hk
    obtain ⟨k, rfl⟩ : ∃ m, k = m + 1 := ⟨k - 1, by omega⟩
    simp only [laws_eqIntS.l0]
    rw [if_neg (by omega)]
  | succ d ih =>
    intro i k hi hk
    obtain ⟨k, rfl⟩ : ∃ m, k = m + 1 := ⟨k - 1, by omega⟩
    simp only [laws_eqIntS.l0]
    rw [if_pos (by omega), if_pos (by omega), if_pos (by omega), if_pos trivial, wid (x := (i : Int) + 1) (by omega) (by omega)]
    exact ih (i + 1) k (by omega) (by omega)
theorem eqIntS_refl (xs : List Int) (hl : xs.length ≤ 1000000000000) (k : Nat) (hk : xs.length < k) : laws_eqIntS.f k xs xs = some true := by
  unfold laws_eqIntS.f
  rw [if_pos rfl]
  exact eqIntS_refl_loop xs hl xs.length 0 k (by omega) hk
/-- A row's marks: 1, 2, 3, .. -/
def marksI (n : Nat) : List Int := (List.range n).map fun (j : Nat) => 1 + (j : Int)
theorem marksI_length (n : Nat) : (marksI n).length = n := by simp [marksI]
theorem marksI_succ (n : Nat) : marksI (n + 1) = marksI n ++ [1 + (n : Int)] := by simp [marksI, List.range_succ]
theorem mark_loop (xs : List Int) (hl : xs.length ≤ 1000000000000) (d : Nat) : ∀ (i k : Nat), i + d = xs.length → d < k →
    laws_markIntS.l0 k (marksI i ++ xs.drop i) (1 + (i : Int)) i = some (1 + (xs.length : Int), marksI xs.length) := by
  induction d with
  | zero =>
    intro i k hi hk
    obtain ⟨k, rfl⟩ : ∃ m, k = m + 1 := ⟨k - 1, by omega⟩
    simp only [laws_markIntS.l0]
    have e : i = xs.length := by omega
    rw [if_neg (by rw [List.length_append, marksI_length, List.length_drop]; omega), e, List.drop_length, List.append_nil]
  | succ d ih =>
    intro i k hi hk
    obtain ⟨k, rfl⟩ : ∃ m, k = m + 1 := ⟨k - 1, by omega⟩
    simp only [laws_markIntS.l0]
    rw [if_pos (by rw [List.length_append, marksI_length, List.length_drop]; omega), if_pos (by omega), wid (x := 1 + (i : Int) + 1) (by omega) (by omega), wid (x := (i : Int) + 1) (by omega) (by omega)]
    have e : (marksI i ++ xs.drop i).set (i : Int).toNat (1 + (i : Int)) = marksI (i + 1) ++ xs.drop (i + 1) := by
      rw [show (i : Int).toNat = i by omega, List.set_append_right (h := by rw [marksI_length]; omega), marksI_length, Nat.sub_self, List.drop_eq_getElem_cons (by omega), List.set_cons_zero, marksI_succ, List.append_assoc]
      rfl
    rw [e, show (1 : Int) + i + 1 = 1 + ((i + 1 : Nat) : Int) by omega]
    exact ih (i + 1) k (by omega) (by omega)
theorem mark_val (xs : List Int) (hl : xs.length ≤ 1000000000000) (k : Nat) (hk : xs.length < k) : laws_markIntS.f k xs 1 = some (1 + (xs.length : Int), marksI xs.length) := by
  have := mark_loop xs hl xs.length 0 k (by omega) hk
  simpa [laws_markIntS.f, marksI] using this
theorem held_loop (n : Nat) (hl : n ≤ 1000000000000) (d : Nat) : ∀ (i k : Nat), i + d = n → d < k → laws_heldIntS.l0 k (marksI n) (1 + (i : Int)) i = some (1 + (n : Int)) := by
  induction d with
  | zero =>
    intro i k hi hk
    obtain ⟨k, rfl⟩ : ∃ m, k = m + 1 := ⟨k - 1, by omega⟩
    simp only [laws_heldIntS.l0]
    rw [if_neg (by rw [marksI_length]; omega), show i = n by omega]
  | succ d ih =>
    intro i k hi hk
    obtain ⟨k, rfl⟩ : ∃ m, k = m + 1 := ⟨k - 1, by omega⟩
    simp only [laws_heldIntS.l0]
    have e : rd (marksI n) (i : Int) = 1 + (i : Int) := by
      rw [rd_at, List.getD_eq_getElem?_getD]
      simp [marksI, List.getElem?_range (show i < n by omega)]
    rw [if_pos (by rw [marksI_length]; omega), if_pos (by omega), if_pos e, wid (x := 1 + (i : Int) + 1) (by omega) (by omega), wid (x := (i : Int) + 1) (by omega) (by omega)]
    have := ih (i + 1) k (by omega) (by omega)
    rw [show (1 : Int) + i + 1 = 1 + ((i + 1 : Nat) : Int) by omega]
    exact this
theorem held_val (n : Nat) (hl : n ≤ 1000000000000) (k : Nat) (hk : n < k) : laws_heldIntS.f k (marksI n) 1 = some (1 + (n : Int)) := by
  have := held_loop n hl n 0 k (by omega) hk
  simpa [laws_heldIntS.f] using this
theorem both (h x n : Int) : ∃ (xs : List Int) (b : Bool), xs.length ≤ 60 ∧ ∀ k, 61 < k → spec_HeardFrom.f k h x n = some (xs, b) ∧ impl_HeardFrom.f k h x n = some (xs, b) := by
  unfold spec_HeardFrom.f impl_HeardFrom.f
  simp only [stHalf_val, isHalf_val, l1In_val, within_val, Option.bind_some]
  by_cases hi : isH h x
  · simp only [decide_eq_true hi, if_true]
    by_cases hn : 1 ≤ n ∧ n ≤ 60
    · simp only [decide_eq_true hn, if_true]
      obtain ⟨hd, h0, hx⟩ := hi
      obtain ⟨n, rfl⟩ := Int.eq_ofNat_of_zero_le (show 0 ≤ n by omega)
      refine ⟨heardL h x n, true, by rw [heardL_length]; omega, fun k hk => ?_⟩
      rw [stFrom_val hd h0 (by omega) (by omega) k (by omega), heardFrom_val hd h0 (by omega) (by omega) k (by omega)]
      exact ⟨rfl, rfl⟩
    · simp only [decide_eq_false hn]
      exact ⟨[], false, by simp, fun k _ => ⟨rfl, rfl⟩⟩
  · simp only [decide_eq_false hi]
    exact ⟨[], false, by simp, fun k _ => ⟨rfl, rfl⟩⟩
theorem FnExactHeardFrom : laws_FnExactHeardFrom.Pure := by
  intro h x n _ _ _
  obtain ⟨xs, b, hl, H⟩ := both h x n
  refine ⟨102, ?_⟩
  have m1 := mark_val xs (by omega)
  have m2 := held_val xs.length (by omega)
  unfold laws_FnExactHeardFrom.f
  rw [(H 102 (by omega)).1, (H 102 (by omega)).2]
  simp only [Option.bind_some]
  rw [eqIntS_refl xs (by omega) _ (by omega)]
  simp only [Option.bind_some, if_true, laws_FnExactHeardFrom.j0, bne_self_eq_false, Bool.false_eq_true, if_false]
  rw [m1 _ (by omega)]
  simp only [Option.bind_some]
  rw [m2 _ (by omega)]
  simp only [Option.bind_some]
  rw [if_neg (by omega), if_pos trivial, (H 101 (by omega)).2]
  simp only [Option.bind_some]
  rw [eqIntS_refl xs (by omega) _ (by omega)]
  simp only [Option.bind_some, if_true, laws_FnExactHeardFrom.j1, bne_self_eq_false, Bool.false_eq_true, if_false]
  rw [m2 _ (by omega)]
  simp only [Option.bind_some]
  rw [if_neg (by omega), if_pos trivial]

end Go.Proofs.Ytnangmpclikldaa.Pure
