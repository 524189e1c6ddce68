/- For every dial the program's AllExchanged answers as the reference does, in memory of its own; no condition. -/
import Derived.Test.YtjjbockboifcbaaPFnExactAllExchangedx7
set_option linter.unusedVariables false
set_option linter.unusedSimpArgs false
namespace Go.Proofs.Ytjjbockboifcbaa.Pure
open Go.RowKit Go.Proofs.Ytjjbockboifcbaa.PFnExactAllExchanged Go.Proofs.YtjjbockboifcbaaW.PrintWords Go.Proofs.YtjjbockboifcbaaW.PrintLast Go.Proofs.YtjjbockboifcbaaW.PrintMore

theorem l1In_val (a b c : Int) : spec_l1In.f a b c = some (decide (b ≤ a ∧ a ≤ c)) := by
  unfold spec_l1In.f
  by_cases h : a ≥ b
  · have e : (b ≤ a ∧ a ≤ c) ↔ a ≤ c := ⟨fun x => x.2, fun x => ⟨h, x⟩⟩
    rw [if_pos h, decide_eq_decide.mpr e]
  · rw [if_neg h, decide_eq_false (fun x => h x.1)]
theorem diHours_val (h : Int) : spec_diHours.f h = some (decide (2 ≤ h ∧ h ≤ 24)) := by
  unfold spec_diHours.f; rw [l1In_val]; rfl
theorem isDial_val (h : Int) : impl_isDial.f h = some (decide (2 ≤ h ∧ h ≤ 24)) := by
  unfold impl_isDial.f; rw [within_val]; rfl
/-- All parts that k times are n / d: (n + i * d) / (d * k). -/
def rootsL (n d : Int) (k m : Nat) : List S26 := (List.range m).map fun (i : Nat) => ⟨(mkT (n + (i : Int) * d) (d * (k : Int))).1, (mkT (n + (i : Int) * d) (d * (k : Int))).2⟩
theorem rootsL_length (n d : Int) (k m : Nat) : (rootsL n d k m).length = m := by simp [rootsL]
theorem rootsL_succ (n d : Int) (k m : Nat) : rootsL n d k (m + 1) = rootsL n d k m ++ [⟨(mkT (n + (m : Int) * d) (d * (k : Int))).1, (mkT (n + (m : Int) * d) (d * (k : Int))).2⟩] := by simp [rootsL, List.range_succ]
def allT (xs : List S26) : Bool := xs.all fun t => decide (isT t.f0 t.f1)
theorem allT_snoc (xs : List S26) (t : S26) : allT (xs ++ [t]) = (allT xs && decide (isT t.f0 t.f1)) := by simp [allT]
theorem isT_mk (n : Int) {d : Int} (hd : 0 < d) : isT (mkT n d).1 (mkT n d).2 ↔ (mkT n d).2 ≤ 1000000 := ⟨fun h => h.1.2, fun h => isT_of_low (mkT_low n hd) h⟩
theorem root_bd {n d : Int} {i k : Nat} (hn : -1000000000000 ≤ n ∧ n ≤ 1000000000000) (hd : 0 < d ∧ d ≤ 1000000000000) (hi : i ≤ 1000) (hk : 0 < k ∧ k ≤ 1000) : (-1000000000000000 ≤ (i : Int) * d ∧ (i : Int) * d ≤ 1000000000000000) ∧ (0 < d * (k : Int) ∧ d * (k : Int) ≤ 1000000000000000) := by
  have m1 := mul_bd (M := 1000) (N := 1000000000000) (x := (i : Int)) (y := d) (by omega) (by omega)
  have m2 := mul_bd (M := 1000000000000) (N := 1000) (x := d) (y := (k : Int)) (by omega) (by omega)
  exact ⟨by omega, Int.mul_pos hd.1 (by omega), by omega⟩
theorem floorDiv_val {n d : Int} (hd : 0 < d) (hb : d ≤ 4611686018427387904) : ∃ q, impl_floorDiv.f n d = some (q, n % d) := by
  unfold impl_floorDiv.f
  obtain ⟨t1, t0⟩ := tmod_bd n hd
  have m0 : 0 ≤ n % d := Int.emod_nonneg _ (by omega)
  have m1 : n % d < d := Int.emod_lt_of_pos _ hd
  have e := Int.mul_tdiv_add_tmod n d
  have e2 : n % d = (Int.tmod n d) % d := by
    have : n % d = (Int.tmod n d + d * Int.tdiv n d) % d := by rw [Int.add_comm, e]
    rw [this, Int.add_mul_emod_self_left]
  rw [if_neg (by omega)]
  by_cases h : Int.tmod n d < 0
  · rw [if_pos h, wid (x := Int.tmod n d + d) (by omega) (by omega)]
    refine ⟨_, congrArg some (Prod.ext rfl ?_)⟩
    rw [e2, ← Int.add_emod_right, Int.emod_eq_of_lt (by omega) (by omega)]
  · rw [if_neg h]
    refine ⟨_, congrArg some (Prod.ext rfl ?_)⟩
    rw [e2, Int.emod_eq_of_lt (by omega) (by omega)]
theorem part_val {n d : Int} (hd : 0 < d) (hb : d ≤ 4611686018427387904) : Ev (fun k => impl_part.f k n d) (mkT n d) := by
  unfold impl_part.f
  have g0 := gI_pos (a := n % d) (show d ≠ 0 by omega)
  have m0 : 0 ≤ n % d := Int.emod_nonneg _ (by omega)
  have m1 : n % d < d := Int.emod_lt_of_pos _ hd
  have q0 : 0 ≤ d / gI (n % d) d := Int.ediv_nonneg (by omega) (by omega)
  have q1 : d / gI (n % d) d ≤ d := Int.ediv_le_self _ (by omega)
  have r0 : 0 ≤ n % d / gI (n % d) d := Int.ediv_nonneg (by omega) (by omega)
  have r1 : n % d / gI (n % d) d ≤ n % d := Int.ediv_le_self _ (by omega)
  obtain ⟨q, hq⟩ := floorDiv_val (n := n) hd hb
  simp only [hq, Option.bind_some]
  refine Ev.bind (igcd_val (by omega) (by omega) (by omega) (by omega)) ?_
  rw [if_neg (by omega), tdiv_nn _ m0, tdiv_nn _ (by omega), wid (x := d / gI (n % d) d) (by omega) (by omega), wid (x := n % d / gI (n % d) d) (by omega) (by omega)]
  exact ⟨0, fun _ _ => rfl⟩
theorem iroots_loop {n d : Int} {k : Nat} (hn : -1000000000000 ≤ n ∧ n ≤ 1000000000000) (hd : 0 < d ∧ d ≤ 1000000000000) (hk : 0 < k ∧ k ≤ 1000) (e : Nat) : ∀ i : Nat, i + e = k →
    Ev (fun q => impl_roots.l0 q k (rootsL n d k i) k i n d) (rootsL n d k k, allT (rootsL n d k k)) := by
  induction e with
  | zero =>
    intro i hi
    refine ⟨1, fun q hq => ?_⟩
    obtain ⟨q, rfl⟩ : ∃ m, q = m + 1 := ⟨q - 1, by omega⟩
    simp only [impl_roots.l0]
    rw [if_neg (by omega), show i = k by omega]
    unfold impl_areTurns.f
    rfl
  | succ e ih =>
    intro i hi
    obtain ⟨b1, b2⟩ := root_bd (i := i) hn hd (by omega) (show 0 < k ∧ k ≤ 1000 by omega)
    obtain ⟨K1, h1⟩ := ih (i + 1) (by omega)
    obtain ⟨K2, h2⟩ := part_val (n := n + (i : Int) * d) b2.1 (by omega)
    refine ⟨max K1 K2 + 1, fun q hq => ?_⟩
    obtain ⟨q, rfl⟩ : ∃ m, q = m + 1 := ⟨q - 1, by omega⟩
    have e1 := h1 q (by omega)
    have e2 := h2 q (by omega)
    dsimp only at e1 e2
    simp only [impl_roots.l0]
    rw [if_pos (by omega), wid (x := (i : Int) * d) (by omega) (by omega), wid (x := n + (i : Int) * d) (by omega) (by omega), wid (x := d * (k : Int)) (by omega) (by omega), e2]
    simp only [Option.bind_some]
    rw [rootsL_length, if_pos (by omega), wid (x := (i : Int) + 1) (by omega) (by omega), ← rootsL_succ]
    exact e1
theorem iroots_val {n d : Int} {k : Nat} (hn : -1000000000000 ≤ n ∧ n ≤ 1000000000000) (hd : 0 < d ∧ d ≤ 1000000000000) (hk : 0 < k ∧ k ≤ 1000) : Ev (fun q => impl_roots.f q n d k) (rootsL n d k k, allT (rootsL n d k k)) :=
  iroots_loop hn hd hk k 0 (by omega)
theorem ifTurns_val (xs : List S26) (b : Bool) : impl_ifTurns.f xs b = some (if b = true ∧ allT xs = true then (xs, true) else ([], false)) := by
  unfold impl_ifTurns.f impl_areTurns.f
  show (if b = true then ((some (allT xs)).bind fun t => if t = true then some (xs, true) else some ([], false)) else some ([], false)) = _
  cases b <;> cases allT xs <;> rfl
theorem rooted_val {n d : Int} {k : Nat} (hn : -1000000000000 ≤ n ∧ n ≤ 1000000000000) (hd : 0 < d ∧ d ≤ 1000000000000) (hk : 0 < k ∧ k ≤ 1000) : Ev (fun q => (impl_roots.f q n d k).bind fun b => (impl_ifTurns.f b.1 b.2).bind fun c => some (c.1, c.2)) (if allT (rootsL n d k k) = true then (rootsL n d k k, true) else ([], false)) := by
  refine Ev.bind (iroots_val hn hd hk) ⟨0, fun _ _ => ?_⟩
  dsimp only
  rw [ifTurns_val]
  cases allT (rootsL n d k k) <;> rfl
theorem diCommon_ev : ∀ (n : Nat) (a b : Int), 0 ≤ a → 0 ≤ b → b.toNat ≤ n → ∀ k, n < k → spec_diCommon.l0 k a b = some (gI a b)
  | 0, a, b, ha, hb, hn, k, hk => by
    obtain ⟨k, rfl⟩ : ∃ m, k = m + 1 := ⟨k - 1, by omega⟩
    have : b = 0 := by omega
    subst this
    simp only [spec_diCommon.l0]
    rw [if_neg (by omega)]
    unfold gI
    rw [Int.gcd_zero_right]; congr 1; omega
  | n + 1, a, b, ha, hb, hn, k, hk => by
    obtain ⟨k, rfl⟩ : ∃ m, k = m + 1 := ⟨k - 1, by omega⟩
    simp only [spec_diCommon.l0]
    by_cases h0 : b = 0
    · subst h0
      rw [if_neg (by omega)]
      unfold gI
      rw [Int.gcd_zero_right]; congr 1; omega
    · have h1 : 0 ≤ Int.tmod a b := by rw [tmod_nn _ ha]; exact Int.emod_nonneg _ h0
      have h2 : Int.tmod a b < b := by rw [tmod_nn _ ha]; exact Int.emod_lt_of_pos _ (by omega)
      rw [if_pos (by omega), if_neg h0, diCommon_ev n b (Int.tmod a b) hb h1 (by omega) k (by omega), gI_tmod]
theorem diCommon_val {a b : Int} (ha : 0 ≤ a) (hb : 0 ≤ b) : Ev (fun k => spec_diCommon.f k a b) (gI a b) :=
  ⟨b.toNat + 1, fun k hk => diCommon_ev b.toNat a b ha hb (Nat.le_refl _) k (by omega)⟩
/-- What diMake tells of a part in lowest terms: it, if it is a turn. -/
def tell (t : Int × Int) : Int × Int × Bool := if t.2 > 1000000 then (0, 0, false) else (t.1, t.2, true)
theorem norm_mod (n : Int) {d : Int} (hd : 0 < d) : (Int.tmod n d + d) % d = n % d := by
  rw [Int.add_emod_right]
  have e := Int.mul_tdiv_add_tmod n d
  have : n % d = (Int.tmod n d + d * Int.tdiv n d) % d := by rw [Int.add_comm, e]
  rw [this, Int.add_mul_emod_self_left]
theorem diMake_val {n d : Int} (hd : 0 < d) (hb : d ≤ 4611686018427387904) : Ev (fun k => spec_diMake.f k n d) (tell (mkT n d)) := by
  unfold spec_diMake.f
  obtain ⟨t1, t0⟩ := tmod_bd n hd
  have g0 := gI_pos (a := n % d) (show d ≠ 0 by omega)
  have m0 : 0 ≤ n % d := Int.emod_nonneg _ (by omega)
  have m1 : n % d < d := Int.emod_lt_of_pos _ hd
  have q0 : 0 ≤ d / gI (n % d) d := Int.ediv_nonneg (by omega) (by omega)
  have q1 : d / gI (n % d) d ≤ d := Int.ediv_le_self _ (by omega)
  have r0 : 0 ≤ n % d / gI (n % d) d := Int.ediv_nonneg (by omega) (by omega)
  have r1 : n % d / gI (n % d) d ≤ n % d := Int.ediv_le_self _ (by omega)
  simp only [if_neg (show ¬ d = 0 by omega)]
  rw [wid (x := Int.tmod n d + d) (by omega) (by omega), tmod_nn _ (show 0 ≤ Int.tmod n d + d by omega), norm_mod n hd]
  refine Ev.bind (diCommon_val m0 (by omega)) ?_
  rw [if_neg (by omega), tdiv_nn _ m0, tdiv_nn _ (by omega), wid (x := d / gI (n % d) d) (by omega) (by omega), wid (x := n % d / gI (n % d) d) (by omega) (by omega)]
  refine ⟨0, fun _ _ => ?_⟩
  unfold tell mkT
  dsimp only
  split <;> rfl
theorem mkT_small (n : Int) {d : Int} (hd : 0 < d) : (mkT n d).2 ≤ d := Int.le_of_dvd hd (mkT_dvd n)
theorem tell_small (n : Int) {d : Int} (hd : 0 < d) (h : d ≤ 1000000) : tell (mkT n d) = ((mkT n d).1, (mkT n d).2, true) := by
  have := mkT_small n hd
  unfold tell
  rw [if_neg (by omega)]
theorem seParts_loop {k : Nat} (hk : 0 < k ∧ k ≤ 1000) (e : Nat) : ∀ i : Nat, i + e = k →
    Ev (fun q => spec_seParts.l0 q 0 k (rootsL 0 1 k i) i) (rootsL 0 1 k k) := by
  induction e with
  | zero =>
    intro i hi
    refine ⟨1, fun q hq => ?_⟩
    obtain ⟨q, rfl⟩ : ∃ m, q = m + 1 := ⟨q - 1, by omega⟩
    simp only [spec_seParts.l0]
    rw [if_neg (by rw [wid (by omega) (by omega)]; omega), show i = k by omega]
  | succ e ih =>
    intro i hi
    obtain ⟨K1, h1⟩ := ih (i + 1) (by omega)
    obtain ⟨K2, h2⟩ := diMake_val (n := (i : Int)) (d := (k : Int)) (by omega) (by omega)
    refine ⟨max K1 K2 + 1, fun q hq => ?_⟩
    obtain ⟨q, rfl⟩ : ∃ m, q = m + 1 := ⟨q - 1, by omega⟩
    have e1 := h1 q (by omega)
    have e2 := h2 q (by omega)
    dsimp only at e1 e2
    simp only [spec_seParts.l0]
    rw [if_pos (by rw [wid (by omega) (by omega)]; omega), e2]
    simp only [Option.bind_some]
    rw [tell_small _ (by omega) (by omega), rootsL_length, if_pos (by omega), wid (x := (i : Int) + 1) (by omega) (by omega)]
    have er : rootsL 0 1 k (i + 1) = rootsL 0 1 k i ++ [⟨(mkT (i : Int) (k : Int)).1, (mkT (i : Int) (k : Int)).2⟩] := by
      rw [rootsL_succ, Int.zero_add, Int.mul_one, Int.one_mul]
    rw [← er]
    exact e1
theorem seParts_val {k : Nat} (hk : 0 < k ∧ k ≤ 1000) : Ev (fun q => spec_seParts.f q 0 k) (rootsL 0 1 k k) := seParts_loop hk k 0 (by omega)
theorem allT_parts {k : Nat} (hk : 0 < k ∧ k ≤ 1000) : ∀ i : Nat, allT (rootsL 0 1 k i) = true
  | 0 => rfl
  | i + 1 => by
    rw [rootsL_succ, allT_snoc, allT_parts hk i, Bool.true_and]
    refine decide_eq_true ((isT_mk _ (by omega)).2 ?_)
    have := mkT_small (0 + (i : Int) * 1) (d := 1 * (k : Int)) (by omega)
    omega
theorem eqTurn_refl (a b : Int) : laws_eqTurn.f a b a b = some true := by unfold laws_eqTurn.f; rw [if_pos rfl, if_pos rfl]
/-! exactTurn: the law's own words over rows of turns: equal, marked, held -/
theorem eqTurnS_refl_loop (xs : List S26) (hl : xs.length ≤ 1000000000000) (d : Nat) : ∀ (i k : Nat), i + d = xs.length → d < k → laws_eqTurnS.l0 k xs xs i = some true := by
  induction d with
  | zero =>
    intro i k hi hk
    obtain ⟨k, rfl⟩ : ∃ m, k = m + 1 := ⟨k - 1, by omega⟩
    simp only [laws_eqTurnS.l0]
    rw [if_neg (by omega)]
  | succ d ih =>
    intro i k hi hk
    obtain ⟨k, rfl⟩ : ∃ m, k = m + 1 := ⟨k - 1, by omega⟩
    simp only [laws_eqTurnS.l0]
    rw [if_pos (by omega), if_pos (by omega), if_pos (by omega), eqTurn_refl]
    simp only [Option.bind_some, if_true]
    rw [wid (x := (i : Int) + 1) (by omega) (by omega)]
    exact ih (i + 1) k (by omega) (by omega)
theorem eqTurnS_refl (xs : List S26) (hl : xs.length ≤ 1000000000000) (k : Nat) (hk : xs.length < k) : laws_eqTurnS.f k xs xs = some true := by
  unfold laws_eqTurnS.f
  rw [if_pos rfl]
  exact eqTurnS_refl_loop xs hl xs.length 0 k (by omega) hk
def marksT (n : Nat) : List S26 := (List.range n).map fun (j : Nat) => ⟨1 + 2 * (j : Int), 2 + 2 * (j : Int)⟩
theorem marksT_length (n : Nat) : (marksT n).length = n := by simp [marksT]
theorem marksT_succ (n : Nat) : marksT (n + 1) = marksT n ++ [⟨1 + 2 * (n : Int), 2 + 2 * (n : Int)⟩] := by simp [marksT, List.range_succ]
theorem set_mid (xs : List S26) (n : Nat) (ys : List S26) (hy : ys.length = n) (h : n < xs.length) (v : S26) : (ys ++ xs.drop n).set n v = ys ++ [v] ++ xs.drop (n + 1) := by
  rw [List.set_append_right (h := by omega), hy, Nat.sub_self, List.drop_eq_getElem_cons h, List.set_cons_zero, List.append_assoc]
  rfl
theorem rd_mid (zs : List S26) (n : Nat) (ys : List S26) (hy : ys.length = n) (v : S26) : rd_T26 (ys ++ [v] ++ zs) (n : Int) = v := by
  unfold rd_T26
  rw [show (n : Int).toNat = n by omega, List.getD_eq_getElem?_getD, List.append_assoc, List.getElem?_append_right (by omega), hy, Nat.sub_self]
  rfl
theorem markT_loop (xs : List S26) (hl : xs.length ≤ 1000000000000) (d : Nat) : ∀ (i k : Nat), i + d = xs.length → d < k →
    laws_markTurnS.l0 k (marksT i ++ xs.drop i) (1 + 2 * (i : Int)) i = some (1 + 2 * (xs.length : Int), marksT xs.length) := by
  induction d with
  | zero =>
    intro i k hi hk
    obtain ⟨k, rfl⟩ : ∃ m, k = m + 1 := ⟨k - 1, by omega⟩
    simp only [laws_markTurnS.l0]
    have e : i = xs.length := by omega
    rw [if_neg (by rw [List.length_append, marksT_length, List.length_drop]; omega), e, List.drop_length, List.append_nil]
  | succ d ih =>
    intro i k hi hk
    obtain ⟨k, rfl⟩ : ∃ m, k = m + 1 := ⟨k - 1, by omega⟩
    simp only [laws_markTurnS.l0]
    rw [if_pos (by rw [List.length_append, marksT_length, List.length_drop]; omega), if_pos (by omega), wid (x := 1 + 2 * (i : Int) + 1) (by omega) (by omega), wid (x := 1 + 2 * (i : Int) + 1 + 1) (by omega) (by omega), wid (x := (i : Int) + 1) (by omega) (by omega)]
    simp only [Option.bind_some]
    rw [show (i : Int).toNat = i by omega, set_mid xs i (marksT i) (marksT_length i) (by omega), rd_mid _ _ _ (marksT_length i)]
    have e : (marksT i ++ [(⟨1 + 2 * (i : Int), (rd_T26 (marksT i ++ xs.drop i) i).f1⟩ : S26)] ++ xs.drop (i + 1)).set i (⟨1 + 2 * (i : Int), 1 + 2 * (i : Int) + 1⟩ : S26) = marksT (i + 1) ++ xs.drop (i + 1) := by
      rw [List.append_assoc, List.set_append_right (h := by rw [marksT_length]; omega), marksT_length, Nat.sub_self, marksT_succ, List.append_assoc, show (2 : Int) + 2 * i = 1 + 2 * i + 1 by omega]
      rfl
    rw [e, show (1 : Int) + 2 * i + 1 + 1 = 1 + 2 * ((i + 1 : Nat) : Int) by omega]
    exact ih (i + 1) k (by omega) (by omega)
theorem markT_val (xs : List S26) (hl : xs.length ≤ 1000000000000) (k : Nat) (hk : xs.length < k) : laws_markTurnS.f k xs 1 = some (1 + 2 * (xs.length : Int), marksT xs.length) := by
  have := markT_loop xs hl xs.length 0 k (by omega) hk
  simpa [laws_markTurnS.f, marksT] using this
theorem heldT_loop (n : Nat) (hl : n ≤ 1000000000000) (d : Nat) : ∀ (i k : Nat), i + d = n → d < k → laws_heldTurnS.l0 k (marksT n) (1 + 2 * (i : Int)) i = some (1 + 2 * (n : Int)) := by
  induction d with
  | zero =>
    intro i k hi hk
    obtain ⟨k, rfl⟩ : ∃ m, k = m + 1 := ⟨k - 1, by omega⟩
    simp only [laws_heldTurnS.l0]
    rw [if_neg (by rw [marksT_length]; omega), show i = n by omega]
  | succ d ih =>
    intro i k hi hk
    obtain ⟨k, rfl⟩ : ∃ m, k = m + 1 := ⟨k - 1, by omega⟩
    simp only [laws_heldTurnS.l0]
    have e : rd_T26 (marksT n) (i : Int) = ⟨1 + 2 * (i : Int), 2 + 2 * (i : Int)⟩ := by
      unfold rd_T26
      rw [show (i : Int).toNat = i by omega, List.getD_eq_getElem?_getD]
      simp [marksT, List.getElem?_range (show i < n by omega)]
    rw [e, if_pos (by rw [marksT_length]; omega), if_pos (by omega), wid (x := 1 + 2 * (i : Int) + 1) (by omega) (by omega), if_pos rfl, if_pos (show (2 : Int) + 2 * i = 1 + 2 * i + 1 by omega), wid (x := 1 + 2 * (i : Int) + 1 + 1) (by omega) (by omega), wid (x := (i : Int) + 1) (by omega) (by omega)]
    have := ih (i + 1) k (by omega) (by omega)
    rw [show (1 : Int) + 2 * i + 1 + 1 = 1 + 2 * ((i + 1 : Nat) : Int) by omega]
    exact this
theorem heldT_val (n : Nat) (hl : n ≤ 1000000000000) (k : Nat) (hk : n < k) : laws_heldTurnS.f k (marksT n) 1 = some (1 + 2 * (n : Int)) := by
  have := heldT_loop n hl n 0 k (by omega) hk
  simpa [laws_heldTurnS.f] using this
theorem both (h : Int) : ∃ (xs : List S26) (f : Bool), xs.length ≤ 600 ∧ Ev (fun k => spec_AllExchanged.f k h) (xs, f) ∧ Ev (fun k => impl_AllExchanged.f k h) (xs, f) := by
  unfold spec_AllExchanged.f impl_AllExchanged.f
  simp only [diHours_val, isDial_val, Option.bind_some]
  by_cases hd : 2 ≤ h ∧ h ≤ 24
  · simp only [decide_eq_true hd, if_true]
    have h0 : 2 * 2 ≤ h * h := Int.mul_le_mul hd.1 hd.1 (by omega) (by omega)
    have h1 : h * h ≤ 24 * 24 := Int.mul_le_mul hd.2 hd.2 (by omega) (by omega)
    obtain ⟨n, hn⟩ : ∃ n : Nat, h * h - 1 = (n : Int) := ⟨(h * h - 1).toNat, by omega⟩
    rw [wid (x := h * h) (by omega) (by omega), wid (x := h * h - 1) (by omega) (by omega), hn]
    have I := rooted_val (n := 0) (d := 1) (k := n) (by omega) (by omega) (by omega)
    rw [if_pos (allT_parts (by omega) n)] at I
    exact ⟨rootsL 0 1 n n, true, by rw [rootsL_length]; omega, Ev.bind (seParts_val (by omega)) ⟨0, fun _ _ => rfl⟩, I⟩
  · simp only [decide_eq_false hd]
    exact ⟨[], false, by simp, ⟨0, fun _ _ => rfl⟩, ⟨0, fun _ _ => rfl⟩⟩
theorem FnExactAllExchanged : laws_FnExactAllExchanged.Pure := by
  intro h _
  obtain ⟨xs, f, hl, ⟨K1, h1⟩, ⟨K2, h2⟩⟩ := both h
  refine ⟨max K1 K2 + 702, ?_⟩
  have m1 := markT_val xs (by omega)
  have m2 := heldT_val xs.length (by omega)
  have e1 := h1 (max K1 K2 + 702) (by omega)
  have e2 := h2 (max K1 K2 + 702) (by omega)
  have e3 := h2 (max K1 K2 + 701) (by omega)
  dsimp only at e1 e2 e3
  unfold laws_FnExactAllExchanged.f
  simp only [Option.bind_some, e1, e2]
  rw [eqTurnS_refl xs (by omega) _ (by omega)]
  simp only [Option.bind_some, if_true, laws_FnExactAllExchanged.j0, bne_self_eq_false, Bool.false_eq_true, if_false]
  rw [m1 _ (by omega)]
  simp only [Option.bind_some]
  rw [m2 _ (by omega)]
  simp only [Option.bind_some]
  rw [if_neg (by omega), if_pos trivial, e3]
  simp only [Option.bind_some]
  rw [eqTurnS_refl xs (by omega) _ (by omega)]
  simp only [Option.bind_some, if_true, laws_FnExactAllExchanged.j1, bne_self_eq_false, Bool.false_eq_true, if_false]
  rw [m2 _ (by omega)]
  simp only [Option.bind_some]
  rw [if_neg (by omega), if_pos trivial]

end Go.Proofs.Ytjjbockboifcbaa.Pure
