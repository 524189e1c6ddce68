/- For every dial and every two parts the program's TimesAlike answers as the reference does, in memory of its own; no condition. -/
import Derived.Test.YtbcpdgiinebnaaaPFnExactTimesAlikex12
set_option linter.unusedVariables false
set_option linter.unusedSimpArgs false
namespace Go.Proofs.Ytbcpdgiinebnaaa.Pure
open Go.RowKit Go.Proofs.Ytbcpdgiinebnaaa.PFnExactTimesAlike Go.Proofs.YtbcpdgiinebnaaaW.PrintWords Go.Proofs.YtbcpdgiinebnaaaW.PrintLast Go.Proofs.YtbcpdgiinebnaaaW.PrintMore

theorem isDial_val (h : Int) : impl_isDial.f h = some (decide (2 ≤ h ∧ h ≤ 24)) := by
  unfold impl_isDial.f; rw [within_val]; rfl
def isD (h : Int) : Prop := 2 ≤ h ∧ h ≤ 24
instance (h : Int) : Decidable (isD h) := by unfold isD; exact inferInstance
theorem Ev.and {g : Nat → Option Bool} {p q : Prop} [Decidable p] [Decidable q] (h : Ev g (decide q)) : Ev (fun k => if decide p = true then (g k).bind fun t => some t else some false) (decide (p ∧ q)) := by
  by_cases hp : p
  · simp only [decide_eq_true hp, if_true]
    refine Ev.bind h ⟨0, fun _ _ => ?_⟩
    simp [hp]
  · simp only [decide_eq_false hp]
    exact ⟨0, fun _ _ => by simp [hp]⟩
theorem iIsSeen_val (a b c d : Int) : impl_IsSeen.f a b c d = some (decide (isT a b ∧ isT c d)) := by
  unfold impl_IsSeen.f impl_areTurns.f
  simp only [Option.bind_some, List.all_cons, List.all_nil, Bool.and_true]
  by_cases ha : isT a b <;> by_cases hb : isT c d <;> simp [ha, hb]
theorem isSeenOf_val (h a b c d : Int) : impl_isSeenOf.f h a b c d = some (decide (isD h ∧ (isT a b ∧ isT c d))) := by
  unfold impl_isSeenOf.f
  simp only [isDial_val, iIsSeen_val, Option.bind_some]
  by_cases hd : 2 ≤ h ∧ h ≤ 24
  · simp only [decide_eq_true hd, if_true]
    simp [isD, hd]
  · simp only [decide_eq_false hd]
    simp [isD, hd]
theorem l1In_val (a b c : Int) : spec_l1In.f a b c = some (decide (b ≤ a ∧ a ≤ c)) := by
  unfold spec_l1In.f
  by_cases h : a ≥ b
  · have e : (b ≤ a ∧ a ≤ c) ↔ a ≤ c := ⟨fun x => x.2, fun x => ⟨h, x⟩⟩
    rw [if_pos h, decide_eq_decide.mpr e]
  · rw [if_neg h, decide_eq_false (fun x => h x.1)]
theorem diHours_val (h : Int) : spec_diHours.f h = some (decide (2 ≤ h ∧ h ≤ 24)) := by
  unfold spec_diHours.f; rw [l1In_val]; rfl
theorem diCommon_ev : ∀ (n : Nat) (a b : Int), 0 ≤ a → 0 ≤ b → b.toNat ≤ n → ∀ k, n < k → spec_diCommon.l0 k a b = some (gI a b)
  | 0, a, b, ha, hb, hn, k, hk => by
    obtain ⟨k, rfl⟩ : ∃ m, k = m + 1 := ⟨k - 1, by omega⟩
    have : b = 0 := by omega
    subst this
    simp only [spec_diCommon.l0]
    rw [if_neg (by omega)]
    unfold gI
    rw [Int.gcd_zero_right]; congr 1; omega
  | n + 1, a, b, ha, hb, hn, k, hk => by
    obtain ⟨k, rfl⟩ : ∃ m, k = m + 1 := ⟨k - 1, by omega⟩
    simp only [spec_diCommon.l0]
    by_cases h0 : b = 0
    · subst h0
      rw [if_neg (by omega)]
      unfold gI
      rw [Int.gcd_zero_right]; congr 1; omega
    · have h1 : 0 ≤ Int.tmod a b := by rw [tmod_nn _ ha]; exact Int.emod_nonneg _ h0
      have h2 : Int.tmod a b < b := by rw [tmod_nn _ ha]; exact Int.emod_lt_of_pos _ (by omega)
      rw [if_pos (by omega), if_neg h0, diCommon_ev n b (Int.tmod a b) hb h1 (by omega) k (by omega), gI_tmod]
theorem diCommon_val {a b : Int} (ha : 0 ≤ a) (hb : 0 ≤ b) : Ev (fun k => spec_diCommon.f k a b) (gI a b) :=
  ⟨b.toNat + 1, fun k hk => diCommon_ev b.toNat a b ha hb (Nat.le_refl _) k (by omega)⟩
theorem diGood_val (a b : Int) : Ev (fun k => spec_diGood.f k a b) (decide (isT a b)) := by
  unfold spec_diGood.f
  simp only [l1In_val, Option.bind_some]
  by_cases h1 : 1 ≤ b ∧ b ≤ 1000000
  · simp only [decide_eq_true h1, if_true]
    rw [wid (x := b - 1) (by omega) (by omega)]
    by_cases h2 : 0 ≤ a ∧ a ≤ b - 1
    · simp only [decide_eq_true h2, if_true]
      refine Ev.bind (diCommon_val h2.1 (by omega)) ?_
      refine ⟨0, fun _ _ => ?_⟩
      unfold isT
      rw [show (gI a b == 1) = decide (gI a b = 1) from Bool.eq_iff_iff.mpr (by simp)]
      simp [h1, h2]
    · simp only [decide_eq_false h2]
      exact ⟨0, fun _ _ => by unfold isT; simp [h2]⟩
  · simp only [decide_eq_false h1]
    exact ⟨0, fun _ _ => by unfold isT; simp [h1]⟩
theorem seGood_val (a b c d : Int) : Ev (fun k => spec_seGood.f k a b c d) (decide (isT a b ∧ isT c d)) := by
  unfold spec_seGood.f
  refine Ev.bind (diGood_val a b) ?_
  exact Ev.and (diGood_val c d)
theorem seAsked_val (h a b c d : Int) : Ev (fun k => spec_seAsked.f k h a b c d) (decide (isD h ∧ (isT a b ∧ isT c d))) := by
  unfold spec_seAsked.f
  simp only [diHours_val, Option.bind_some]
  exact Ev.and (seGood_val a b c d)
theorem floorDiv_val {n d : Int} (hd : 0 < d) (hb : d ≤ 4611686018427387904) : ∃ q, impl_floorDiv.f n d = some (q, n % d) := by
  unfold impl_floorDiv.f
  obtain ⟨t1, t0⟩ := tmod_bd n hd
  have m0 : 0 ≤ n % d := Int.emod_nonneg _ (by omega)
  have m1 : n % d < d := Int.emod_lt_of_pos _ hd
  have e := Int.mul_tdiv_add_tmod n d
  have e2 : n % d = (Int.tmod n d) % d := by
    have : n % d = (Int.tmod n d + d * Int.tdiv n d) % d := by rw [Int.add_comm, e]
    rw [this, Int.add_mul_emod_self_left]
  rw [if_neg (by omega)]
  by_cases h : Int.tmod n d < 0
  · rw [if_pos h, wid (x := Int.tmod n d + d) (by omega) (by omega)]
    refine ⟨_, congrArg some (Prod.ext rfl ?_)⟩
    rw [e2, ← Int.add_emod_right, Int.emod_eq_of_lt (by omega) (by omega)]
  · rw [if_neg h]
    refine ⟨_, congrArg some (Prod.ext rfl ?_)⟩
    rw [e2, Int.emod_eq_of_lt (by omega) (by omega)]
theorem part_val {n d : Int} (hd : 0 < d) (hb : d ≤ 4611686018427387904) : Ev (fun k => impl_part.f k n d) (mkT n d) := by
  unfold impl_part.f
  have g0 := gI_pos (a := n % d) (show d ≠ 0 by omega)
  have m0 : 0 ≤ n % d := Int.emod_nonneg _ (by omega)
  have m1 : n % d < d := Int.emod_lt_of_pos _ hd
  have q0 : 0 ≤ d / gI (n % d) d := Int.ediv_nonneg (by omega) (by omega)
  have q1 : d / gI (n % d) d ≤ d := Int.ediv_le_self _ (by omega)
  have r0 : 0 ≤ n % d / gI (n % d) d := Int.ediv_nonneg (by omega) (by omega)
  have r1 : n % d / gI (n % d) d ≤ n % d := Int.ediv_le_self _ (by omega)
  obtain ⟨q, hq⟩ := floorDiv_val (n := n) hd hb
  simp only [hq, Option.bind_some]
  refine Ev.bind (igcd_val (by omega) (by omega) (by omega) (by omega)) ?_
  rw [if_neg (by omega), tdiv_nn _ m0, tdiv_nn _ (by omega), wid (x := d / gI (n % d) d) (by omega) (by omega), wid (x := n % d / gI (n % d) d) (by omega) (by omega)]
  exact ⟨0, fun _ _ => rfl⟩
theorem times_val {a b k : Int} (ha : -1000000000 ≤ a ∧ a ≤ 1000000000) (hb : 0 < b ∧ b ≤ 1000000000) (hk : -1000000000 ≤ k ∧ k ≤ 1000000000) : Ev (fun n => impl_Turn_times.f n a b k) (mkT (a * k) b) := by
  have e1 := mul_bd ha hk
  unfold impl_Turn_times.f
  rw [wid (x := a * k) (by omega) (by omega)]
  exact Ev.bind (part_val hb.1 (by omega)) ⟨0, fun _ _ => rfl⟩
theorem isT_bd {a b : Int} (h : isT a b) : (-1000000000 ≤ a ∧ a ≤ 1000000000) ∧ (0 < b ∧ b ≤ 1000000) := by
  obtain ⟨h1, h2, _⟩ := h
  omega
theorem isT_bd9 {a b : Int} (h : isT a b) : (-1000000000 ≤ a ∧ a ≤ 1000000000) ∧ (0 < b ∧ b ≤ 1000000000) := by
  obtain ⟨h1, h2, _⟩ := h
  omega
theorem isTrue_val {h a b : Int} (c d : Int) (hd : 2 ≤ h ∧ h ≤ 24) (ht : isT a b) : Ev (fun k => impl_isTrue.f k h a b c d) ((mkT (a * h) b).1 == c && ((mkT (a * h) b).2 == d)) := by
  unfold impl_isTrue.f
  exact Ev.bind (times_val (isT_bd9 ht).1 (isT_bd9 ht).2 (by omega)) ⟨0, fun _ _ => rfl⟩
/-- What diMake tells of a part in lowest terms: it, if it is a turn. -/
def tell (t : Int × Int) : Int × Int × Bool := if t.2 > 1000000 then (0, 0, false) else (t.1, t.2, true)
theorem norm_mod (n : Int) {d : Int} (hd : 0 < d) : (Int.tmod n d + d) % d = n % d := by
  rw [Int.add_emod_right]
  have e := Int.mul_tdiv_add_tmod n d
  have : n % d = (Int.tmod n d + d * Int.tdiv n d) % d := by rw [Int.add_comm, e]
  rw [this, Int.add_mul_emod_self_left]
theorem diMake_val {n d : Int} (hd : 0 < d) (hb : d ≤ 4611686018427387904) : Ev (fun k => spec_diMake.f k n d) (tell (mkT n d)) := by
  unfold spec_diMake.f
  obtain ⟨t1, t0⟩ := tmod_bd n hd
  have g0 := gI_pos (a := n % d) (show d ≠ 0 by omega)
  have m0 : 0 ≤ n % d := Int.emod_nonneg _ (by omega)
  have m1 : n % d < d := Int.emod_lt_of_pos _ hd
  have q0 : 0 ≤ d / gI (n % d) d := Int.ediv_nonneg (by omega) (by omega)
  have q1 : d / gI (n % d) d ≤ d := Int.ediv_le_self _ (by omega)
  have r0 : 0 ≤ n % d / gI (n % d) d := Int.ediv_nonneg (by omega) (by omega)
  have r1 : n % d / gI (n % d) d ≤ n % d := Int.ediv_le_self _ (by omega)
  simp only [if_neg (show ¬ d = 0 by omega)]
  rw [wid (x := Int.tmod n d + d) (by omega) (by omega), tmod_nn _ (show 0 ≤ Int.tmod n d + d by omega), norm_mod n hd]
  refine Ev.bind (diCommon_val m0 (by omega)) ?_
  rw [if_neg (by omega), tdiv_nn _ m0, tdiv_nn _ (by omega), wid (x := d / gI (n % d) d) (by omega) (by omega), wid (x := n % d / gI (n % d) d) (by omega) (by omega)]
  refine ⟨0, fun _ _ => ?_⟩
  unfold tell mkT
  dsimp only
  split <;> rfl
theorem mkT_small (n : Int) {d : Int} (hd : 0 < d) : (mkT n d).2 ≤ d := Int.le_of_dvd hd (mkT_dvd n)
theorem tell_small (n : Int) {d : Int} (hd : 0 < d) (h : d ≤ 1000000) : tell (mkT n d) = ((mkT n d).1, (mkT n d).2, true) := by
  have := mkT_small n hd
  unfold tell
  rw [if_neg (by omega)]
theorem diTimes_val {a b k : Int} (ha : -1000000000 ≤ a ∧ a ≤ 1000000000) (hb : 0 < b ∧ b ≤ 1000000) (hk : -1000000000 ≤ k ∧ k ≤ 1000000000) : Ev (fun n => spec_diTimes.f n a b k) (mkT (a * k) b) := by
  have e1 := mul_bd ha hk
  unfold spec_diTimes.f
  rw [wid (x := a * k) (by omega) (by omega)]
  refine Ev.bind (diMake_val hb.1 (by omega)) ⟨0, fun _ _ => ?_⟩
  rw [tell_small _ hb.1 hb.2]
theorem seTrue_val {h a b : Int} (c d : Int) (hd : 2 ≤ h ∧ h ≤ 24) (ht : isT a b) : Ev (fun k => spec_seTrue.f k h a b c d) ((mkT (a * h) b).1 == c && ((mkT (a * h) b).2 == d)) := by
  unfold spec_seTrue.f
  exact Ev.bind (diTimes_val (isT_bd ht).1 (isT_bd ht).2 (by omega)) ⟨0, fun _ _ => rfl⟩
/-! sort2: two turns, increasing, each once -/
theorem compact_nil : Lib.compact ([] : List (Int × Int)) = [] := rfl
theorem compact_one (x : Int × Int) : Lib.compact [x] = [x] := rfl
theorem compact_two (x y : Int × Int) : Lib.compact [x, y] = if x = y then [x] else [x, y] := by
  unfold Lib.compact Lib.compactUpTo
  have e : (List.range ([x, y] : List (Int × Int)).length) = [0, 1] := rfl
  rw [e]
  by_cases h : x = y
  · subst h; simp [Lib.keeps]
  · rw [if_neg h]; simp [Lib.keeps, Ne.symm h]
theorem merge_two (x y : Int × Int) : ([x, y].mergeSort fun x y => decide (x.1 * y.2 ≤ y.1 * x.2)) = if x.1 * y.2 ≤ y.1 * x.2 then [x, y] else [y, x] := by
  rw [List.mergeSort.eq_3]
  simp [List.MergeSort.Internal.splitInTwo, List.mergeSort_singleton, List.merge]
theorem sortT_one (x : S35) : sortT [x] = [x] := by
  unfold sortT sortP
  rw [List.map_cons, List.map_nil, List.mergeSort_singleton, compact_one]
  rfl
theorem sortT_two {x y : S35} (hx : isT x.f0 x.f1) (hy : isT y.f0 y.f1) : sortT [x, y] = if x.f0 * y.f1 < y.f0 * x.f1 then [x, y] else if x.f0 = y.f0 ∧ x.f1 = y.f1 then [x] else [y, x] := by
  unfold sortT sortP
  have e : [x, y].map pairOf = [(x.f0, x.f1), (y.f0, y.f1)] := rfl
  rw [e, merge_two]
  dsimp only
  by_cases h : x.f0 * y.f1 < y.f0 * x.f1
  · rw [if_pos h, if_pos (by omega), compact_two, if_neg (by intro e; simp only [Prod.mk.injEq] at e; rw [e.1, e.2] at h; omega)]
    rfl
  · rw [if_neg h]
    by_cases h2 : x.f0 = y.f0 ∧ x.f1 = y.f1
    · rw [if_pos h2, h2.1, h2.2, if_pos (Int.le_refl _), compact_two, if_pos rfl]
      show [unpair (y.f0, y.f1)] = [x]
      rw [← h2.1, ← h2.2]
      rfl
    · rw [if_neg h2]
      have h3 : ¬ x.f0 * y.f1 ≤ y.f0 * x.f1 := fun h3 => h2 (isT_one hx hy (by omega))
      rw [if_neg h3, compact_two, if_neg (by intro e; simp only [Prod.mk.injEq] at e; exact h2 ⟨e.1.symm, e.2.symm⟩)]
      rfl
/-! sePut: a turn put into a row of at most one -/
theorem sePut_nil (a b : Int) : Ev (fun k => spec_sePut.f k [] a b) [⟨a, b⟩] := by
  refine ⟨1, fun k hk => ?_⟩
  obtain ⟨k, rfl⟩ : ∃ m, k = m + 1 := ⟨k - 1, by omega⟩
  simp [spec_sePut.f, spec_sePut.l0]
theorem diCompare_val {p q r s : Int} (h : isT p q) (h' : isT r s) : spec_diCompare.f p q r s = some (if p * s - r * q > 0 then 1 else if p * s - r * q < 0 then -1 else 0) := by
  have p1 := Int.mul_nonneg h.2.1.1 (show 0 ≤ s by have := h'.1; omega)
  have p2 := Int.mul_nonneg h'.2.1.1 (show 0 ≤ q by have := h.1; omega)
  have q1 : p * s ≤ 1000000 * 1000000 := Int.mul_le_mul (by have := h.1; have := h.2.1; omega) h'.1.2 (by have := h'.1; omega) (by decide)
  have q2 : r * q ≤ 1000000 * 1000000 := Int.mul_le_mul (by have := h'.1; have := h'.2.1; omega) h.1.2 (by have := h.1; omega) (by decide)
  unfold spec_diCompare.f spec_l1Sign.f
  rw [wid (x := p * s) (by omega) (by omega), wid (x := r * q) (by omega) (by omega), wid (x := p * s - r * q) (by omega) (by omega)]
  by_cases h1 : p * s - r * q > 0
  · simp only [if_pos h1, Option.bind_some]
  · by_cases h2 : p * s - r * q < 0
    · simp only [if_neg h1, if_pos h2, Option.bind_some]
    · simp only [if_neg h1, if_neg h2, Option.bind_some]
theorem sePut_one {p q a b : Int} (h : isT p q) (h' : isT a b) : Ev (fun k => spec_sePut.f k [⟨p, q⟩] a b) (sortT [⟨p, q⟩, ⟨a, b⟩]) := by
  rw [sortT_two (x := ⟨p, q⟩) (y := ⟨a, b⟩) h h']
  refine ⟨2, fun k hk => ?_⟩
  obtain ⟨k, rfl⟩ : ∃ m, k = m + 1 + 1 := ⟨k - 2, by omega⟩
  have e0 : rd_T35 [(⟨p, q⟩ : S35)] 0 = ⟨p, q⟩ := rfl
  dsimp only
  rw [spec_sePut.f, spec_sePut.l0, if_pos (by simp), if_pos (by decide), e0]
  dsimp only
  rw [diCompare_val h h']
  simp only [Option.bind_some]
  by_cases h1 : p * b < a * q
  · rw [if_pos h1, if_neg (show ¬ p * b - a * q > 0 by omega), if_pos (show p * b - a * q < 0 by omega), if_pos (by decide), wid (x := (0 : Int) + 1) (by omega) (by omega), spec_sePut.l0, if_neg (by simp)]
    simp
  · rw [if_neg h1]
    have h3 : ¬ ((if p * b - a * q > 0 then (1 : Int) else if p * b - a * q < 0 then -1 else 0) < 0) := by
      by_cases h4 : p * b - a * q > 0
      · rw [if_pos h4]; decide
      · rw [if_neg h4, if_neg (by omega)]; decide
    rw [if_neg h3]
    by_cases h2 : p = a ∧ q = b
    · rw [if_pos h2, if_pos (by simp [h2.1, h2.2])]
    · rw [if_neg h2, if_neg (by simpa using h2)]
      simp
theorem eqTurn_refl (a b : Int) : laws_eqTurn.f a b a b = some true := by unfold laws_eqTurn.f; rw [if_pos rfl, if_pos rfl]
/-! exactTurn: the law's own words over rows of turns: equal, marked, held -/
theorem eqTurnS_refl_loop (xs : List S35) (hl : xs.length ≤ 1000000000000) (d : Nat) : ∀ (i k : Nat), i + d = xs.length → d < k → laws_eqTurnS.l0 k xs xs i = some true := by
  induction d with
  | zero =>
    intro i k hi hk
    obtain ⟨k, rfl⟩ : ∃ m, k = m + 1 := ⟨k - 1, by omega⟩
    simp only [laws_eqTurnS.l0]
    rw [if_neg (by omega)]
  | succ d ih =>
    intro i k hi hk
    obtain ⟨k, rfl⟩ : ∃ m, k = m + 1 := ⟨k - 1, by omega⟩
    simp only [laws_eqTurnS.l0]
    rw [if_pos (by omega), if_pos (by omega), if_pos (by omega), eqTurn_refl]
    simp only [Option.bind_some, if_true]
    rw [wid (x := (i : Int) + 1) (by omega) (by omega)]
    exact ih (i + 1) k (by omega) (by omega)
theorem eqTurnS_refl (xs : List S35) (hl : xs.length ≤ 1000000000000) (k : Nat) (hk : xs.length < k) : laws_eqTurnS.f k xs xs = some true := by
  unfold laws_eqTurnS.f
  rw [if_pos rfl]
  exact eqTurnS_refl_loop xs hl xs.length 0 k (by omega) hk
def marksT (n : Nat) : List S35 := (List.range n).map fun (j : Nat) => ⟨1 + 2 * (j : Int), 2 + 2 * (j : Int)⟩
theorem marksT_length (n : Nat) : (marksT n).length = n := by simp [marksT]
theorem marksT_succ (n : Nat) : marksT (n + 1) = marksT n ++ [⟨1 + 2 * (n : Int), 2 + 2 * (n : Int)⟩] := by simp [marksT, List.range_succ]
theorem set_mid (xs : List S35) (n : Nat) (ys : List S35) (hy : ys.length = n) (h : n < xs.length) (v : S35) : (ys ++ xs.drop n).set n v = ys ++ [v] ++ xs.drop (n + 1) := by
  rw [List.set_append_right (h := by omega), hy, Nat.sub_self, List.drop_eq_getElem_cons h, List.set_cons_zero, List.append_assoc]
  rfl
theorem rd_mid (zs : List S35) (n : Nat) (ys : List S35) (hy : ys.length = n) (v : S35) : rd_T35 (ys ++ [v] ++ zs) (n : Int) = v := by
  unfold rd_T35
  rw [show (n : Int).toNat = n by omega, List.getD_eq_getElem?_getD, List.append_assoc, List.getElem?_append_right (by omega), hy, Nat.sub_self]
  rfl
theorem markT_loop (xs : List S35) (hl : xs.length ≤ 1000000000000) (d : Nat) : ∀ (i k : Nat), i + d = xs.length → d < k →
    laws_markTurnS.l0 k (marksT i ++ xs.drop i) (1 + 2 * (i : Int)) i = some (1 + 2 * (xs.length : Int), marksT xs.length) := by
  induction d with
  | zero =>
    intro i k hi hk
    obtain ⟨k, rfl⟩ : ∃ m, k = m + 1 := ⟨k - 1, by omega⟩
    simp only [laws_markTurnS.l0]
    have e : i = xs.length := by omega
    rw [if_neg (by rw [List.length_append, marksT_length, List.length_drop]; omega), e, List.drop_length, List.append_nil]
  | succ d ih =>
    intro i k hi hk
    obtain ⟨k, rfl⟩ : ∃ m, k = m + 1 := ⟨k - 1, by omega⟩
    simp only [laws_markTurnS.l0]
    rw [if_pos (by rw [List.length_append, marksT_length, List.length_drop]; omega), if_pos (by omega), wid (x := 1 + 2 * (i : Int) + 1) (by omega) (by omega), wid (x := 1 + 2 * (i : Int) + 1 + 1) (by omega) (by omega), wid (x := (i : Int) + 1) (by omega) (by omega)]
    simp only [Option.bind_some]
    rw [show (i : Int).toNat = i by omega, set_mid xs i (marksT i) (marksT_length i) (by omega), rd_mid _ _ _ (marksT_length i)]
    have e : (marksT i ++ [(⟨1 + 2 * (i : Int), (rd_T35 (marksT i ++ xs.drop i) i).f1⟩ : S35)] ++ xs.drop (i + 1)).set i (⟨1 + 2 * (i : Int), 1 + 2 * (i : Int) + 1⟩ : S35) = marksT (i + 1) ++ xs.drop (i + 1) := by
      rw [List.append_assoc, List.set_append_right (h := by rw [marksT_length]; omega), marksT_length, Nat.sub_self, marksT_succ, List.append_assoc, show (2 : Int) + 2 * i = 1 + 2 * i + 1 by omega]
      rfl
    rw [e, show (1 : Int) + 2 * i + 1 + 1 = 1 + 2 * ((i + 1 : Nat) : Int) by omega]
    exact ih (i + 1) k (by omega) (by omega)
theorem markT_val (xs : List S35) (hl : xs.length ≤ 1000000000000) (k : Nat) (hk : xs.length < k) : laws_markTurnS.f k xs 1 = some (1 + 2 * (xs.length : Int), marksT xs.length) := by
  have := markT_loop xs hl xs.length 0 k (by omega) hk
  simpa [laws_markTurnS.f, marksT] using this
theorem heldT_loop (n : Nat) (hl : n ≤ 1000000000000) (d : Nat) : ∀ (i k : Nat), i + d = n → d < k → laws_heldTurnS.l0 k (marksT n) (1 + 2 * (i : Int)) i = some (1 + 2 * (n : Int)) := by
  induction d with
  | zero =>
    intro i k hi hk
    obtain ⟨k, rfl⟩ : ∃ m, k = m + 1 := ⟨k - 1, by omega⟩
    simp only [laws_heldTurnS.l0]
    rw [if_neg (by rw [marksT_length]; omega), show i = n by omega]
  | succ d ih =>
    intro i k hi hk
    obtain ⟨k, rfl⟩ : ∃ m, k = m + 1 := ⟨k - 1, by omega⟩
    simp only [laws_heldTurnS.l0]
    have e : rd_T35 (marksT n) (i : Int) = ⟨1 + 2 * (i : Int), 2 + 2 * (i : Int)⟩ := by
      unfold rd_T35
      rw [show (i : Int).toNat = i by omega, List.getD_eq_getElem?_getD]
      simp [marksT, List.getElem?_range (show i < n by omega)]
    rw [e, if_pos (by rw [marksT_length]; omega), if_pos (by omega), wid (x := 1 + 2 * (i : Int) + 1) (by omega) (by omega), if_pos rfl, if_pos (show (2 : Int) + 2 * i = 1 + 2 * i + 1 by omega), wid (x := 1 + 2 * (i : Int) + 1 + 1) (by omega) (by omega), wid (x := (i : Int) + 1) (by omega) (by omega)]
    have := ih (i + 1) k (by omega) (by omega)
    rw [show (1 : Int) + 2 * i + 1 + 1 = 1 + 2 * ((i + 1 : Nat) : Int) by omega]
    exact this
theorem heldT_val (n : Nat) (hl : n ≤ 1000000000000) (k : Nat) (hk : n < k) : laws_heldTurnS.f k (marksT n) 1 = some (1 + 2 * (n : Int)) := by
  have := heldT_loop n hl n 0 k (by omega) hk
  simpa [laws_heldTurnS.f] using this
def alikeL (h a b c d : Int) : List S35 := (if mkT (a * h) b = (c, d) then [⟨a, b⟩] else []) ++ (if mkT (c * h) d = (a, b) then [⟨c, d⟩] else [])
/-- The times that it may be if the hands look alike. -/
def alikeT (h a b c d : Int) : List S35 × Bool := if isD h ∧ (isT a b ∧ isT c d) then (sortT (alikeL h a b c d), true) else ([], false)
theorem alikeL_all {h a b c d : Int} (ha : isT a b) (hc : isT c d) : ((alikeL h a b c d).all fun t => decide (isT t.f0 t.f1)) = true ∧ (alikeL h a b c d).length ≤ 1000000000000 := by
  unfold alikeL
  split <;> split <;> simp only [List.append_nil, List.nil_append, List.cons_append, List.all_cons, List.all_nil, decide_eq_true ha, decide_eq_true hc, Bool.and_self, List.length_nil, List.length_cons] <;> simp
theorem alike_len (h a b c d : Int) : (alikeT h a b c d).1.length ≤ 2 := by
  unfold alikeT
  split
  · rename_i hq
    unfold alikeL
    dsimp only
    split <;> split
    · simp only [List.cons_append, List.nil_append]
      rw [sortT_two hq.2.1 hq.2.2]
      split
      · simp
      · split <;> simp
    · simp only [List.append_nil]
      rw [sortT_one]; simp
    · simp only [List.nil_append]
      rw [sortT_one]; simp
    · simp only [List.nil_append]
      rw [sortT_nil]; simp
  · simp
theorem eq_pair {p : Int × Int} {c d : Int} : (p.1 == c && (p.2 == d)) = decide (p = (c, d)) := by
  obtain ⟨x, y⟩ := p
  rw [Bool.eq_iff_iff]
  simp
theorem alike_impl (h a b c d : Int) : Ev (fun k => impl_TimesAlike.f k h a b c d) (alikeT h a b c d) := by
  by_cases hq : isD h ∧ (isT a b ∧ isT c d)
  · obtain ⟨K1, h1⟩ := isTrue_val c d hq.1 hq.2.1
    obtain ⟨K2, h2⟩ := isTrue_val a b hq.1 hq.2.2
    rw [eq_pair] at h1 h2
    have ha := alikeL_all (h := h) hq.2.1 hq.2.2
    refine ⟨max K1 K2 + 1, fun k hk => ?_⟩
    obtain ⟨k, rfl⟩ : ∃ m, k = m + 1 := ⟨k - 1, by omega⟩
    have a1 := h1 (k + 1) (by omega)
    have a2 := h2 k (by omega)
    dsimp only at a1 a2 ⊢
    unfold impl_TimesAlike.f alikeT
    simp only [isSeenOf_val, Option.bind_some, decide_eq_true hq, if_true, if_pos hq]
    rw [a1]
    simp only [Option.bind_some]
    unfold alikeL at ha ⊢
    by_cases t1 : mkT (a * h) b = (c, d)
    · rw [if_pos (decide_eq_true t1), if_pos (by simp)]
      rw [if_pos t1] at ha ⊢
      rw [impl_TimesAlike.j0]
      simp only [impl_Seen_exchanged.f, Option.bind_some]
      rw [a2]
      simp only [Option.bind_some]
      by_cases t2 : mkT (c * h) d = (a, b)
      · rw [if_pos (decide_eq_true t2), if_pos (by simp)]
        rw [if_pos t2] at ha ⊢
        simp only [List.nil_append, List.cons_append] at ha ⊢
        rw [impl_sorted.f, if_pos ha]
        rfl
      · rw [if_neg (by simpa using t2)]
        rw [if_neg t2] at ha ⊢
        simp only [List.nil_append, List.append_nil] at ha ⊢
        rw [impl_sorted.f, if_pos ha]
        rfl
    · rw [if_neg (by simpa using t1)]
      rw [if_neg t1] at ha ⊢
      rw [impl_TimesAlike.j0]
      simp only [impl_Seen_exchanged.f, Option.bind_some]
      rw [a2]
      simp only [Option.bind_some]
      by_cases t2 : mkT (c * h) d = (a, b)
      · rw [if_pos (decide_eq_true t2), if_pos (by simp)]
        rw [if_pos t2] at ha ⊢
        rw [impl_sorted.f, if_pos ha]
        rfl
      · rw [if_neg (by simpa using t2)]
        rw [if_neg t2] at ha ⊢
        simp only [List.append_nil] at ha ⊢
        rw [impl_sorted.f, if_pos ha]
        rfl
  · unfold impl_TimesAlike.f alikeT
    simp only [isSeenOf_val, Option.bind_some, decide_eq_false hq, if_neg hq]
    exact ⟨0, fun _ _ => rfl⟩
theorem alike_loop {h a b c d : Int} (hd : isD h) (ha : isT a b) (hc : isT c d) :
    Ev (fun k => spec_TimesAlike.l0 k h [] [(⟨⟨a, b⟩, ⟨c, d⟩⟩ : S37), ⟨⟨c, d⟩, ⟨a, b⟩⟩] 2 0) (sortT (alikeL h a b c d), true) := by
  obtain ⟨K1, h1⟩ := seTrue_val c d hd ha
  obtain ⟨K2, h2⟩ := seTrue_val a b hd hc
  obtain ⟨K3, h3⟩ := sePut_nil a b
  obtain ⟨K4, h4⟩ := sePut_one ha hc
  obtain ⟨K5, h5⟩ := sePut_nil c d
  rw [eq_pair] at h1 h2
  refine ⟨max (max K1 K2) (max (max K3 K4) K5) + 3, fun k hk => ?_⟩
  obtain ⟨k, rfl⟩ : ∃ m, k = m + 1 + 1 + 1 := ⟨k - 3, by omega⟩
  have r0 : rd_T37 [(⟨⟨a, b⟩, ⟨c, d⟩⟩ : S37), ⟨⟨c, d⟩, ⟨a, b⟩⟩] 0 = ⟨⟨a, b⟩, ⟨c, d⟩⟩ := rfl
  have r1 : rd_T37 [(⟨⟨a, b⟩, ⟨c, d⟩⟩ : S37), ⟨⟨c, d⟩, ⟨a, b⟩⟩] 1 = ⟨⟨c, d⟩, ⟨a, b⟩⟩ := rfl
  have a1 := h1 (k + 1 + 1) (by omega)
  have a2 := h2 (k + 1) (by omega)
  have a3 := h3 (k + 1 + 1) (by omega)
  have a4 := h4 (k + 1) (by omega)
  have a5 := h5 (k + 1) (by omega)
  dsimp only at a1 a2 a3 a4 a5
  dsimp only
  unfold alikeL
  rw [spec_TimesAlike.l0, if_pos (by simp), if_pos (by simp), if_pos (by simp), r0]
  dsimp only
  rw [a1]
  simp only [Option.bind_some]
  by_cases t1 : mkT (a * h) b = (c, d)
  · rw [if_pos (decide_eq_true t1), if_pos t1, a3]
    simp only [Option.bind_some]
    rw [wid (x := (0 : Int) + 1) (by omega) (by omega), spec_TimesAlike.l0, if_pos (by simp), if_pos (by simp), if_pos (by simp), show (0 : Int) + 1 = 1 from rfl, r1]
    dsimp only
    rw [a2]
    simp only [Option.bind_some]
    by_cases t2 : mkT (c * h) d = (a, b)
    · rw [if_pos (decide_eq_true t2), if_pos t2, a4]
      simp only [Option.bind_some]
      rw [wid (x := (1 : Int) + 1) (by omega) (by omega), spec_TimesAlike.l0, if_neg (by simp)]
      rfl
    · rw [if_neg (by simpa using t2), if_neg t2]
      rw [wid (x := (1 : Int) + 1) (by omega) (by omega), spec_TimesAlike.l0, if_neg (by simp), List.append_nil, sortT_one]
  · rw [if_neg (by simpa using t1), if_neg t1]
    rw [wid (x := (0 : Int) + 1) (by omega) (by omega), spec_TimesAlike.l0, if_pos (by simp), if_pos (by simp), if_pos (by simp), show (0 : Int) + 1 = 1 from rfl, r1]
    dsimp only
    rw [a2]
    simp only [Option.bind_some]
    by_cases t2 : mkT (c * h) d = (a, b)
    · rw [if_pos (decide_eq_true t2), if_pos t2, a5]
      simp only [Option.bind_some]
      rw [wid (x := (1 : Int) + 1) (by omega) (by omega), spec_TimesAlike.l0, if_neg (by simp), List.nil_append, sortT_one]
    · rw [if_neg (by simpa using t2), if_neg t2]
      rw [wid (x := (1 : Int) + 1) (by omega) (by omega), spec_TimesAlike.l0, if_neg (by simp), List.append_nil, sortT_nil]
theorem alike_spec (h a b c d : Int) : Ev (fun k => spec_TimesAlike.f k h a b c d) (alikeT h a b c d) := by
  unfold spec_TimesAlike.f alikeT
  refine Ev.bind (seAsked_val h a b c d) ?_
  by_cases hq : isD h ∧ (isT a b ∧ isT c d)
  · simp only [decide_eq_true hq, if_true, if_pos hq]
    simp only [spec_seExchange.f, Option.bind_some]
    exact alike_loop hq.1 hq.2.1 hq.2.2
  · simp only [decide_eq_false hq, if_neg hq]
    exact ⟨0, fun _ _ => rfl⟩
theorem FnExactTimesAlike : laws_FnExactTimesAlike.Pure := by
  intro h a b c d _ _ _ _ _
  obtain ⟨K1, h1⟩ := alike_spec h a b c d
  obtain ⟨K2, h2⟩ := alike_impl h a b c d
  have hl := alike_len h a b c d
  generalize alikeT h a b c d = v at h1 h2 hl
  obtain ⟨xs, f⟩ := v
  dsimp only at hl
  refine ⟨max K1 K2 + 102, ?_⟩
  have m1 := markT_val xs (by omega)
  have m2 := heldT_val xs.length (by omega)
  have e1 := h1 (max K1 K2 + 102) (by omega)
  have e2 := h2 (max K1 K2 + 102) (by omega)
  have e3 := h2 (max K1 K2 + 101) (by omega)
  dsimp only at e1 e2 e3
  unfold laws_FnExactTimesAlike.f laws_toSeen.f laws_toTurn.f
  simp only [Option.bind_some, e1, e2]
  rw [eqTurnS_refl xs (by omega) _ (by omega)]
  simp only [Option.bind_some, if_true, laws_FnExactTimesAlike.j0, bne_self_eq_false, Bool.false_eq_true, if_false, laws_toSeen.f, laws_toTurn.f]
  rw [m1 _ (by omega)]
  simp only [Option.bind_some]
  rw [m2 _ (by omega)]
  simp only [Option.bind_some]
  rw [if_neg (by omega), if_pos trivial, e3]
  simp only [Option.bind_some]
  rw [eqTurnS_refl xs (by omega) _ (by omega)]
  simp only [Option.bind_some, if_true, laws_FnExactTimesAlike.j1, bne_self_eq_false, Bool.false_eq_true, if_false]
  rw [m2 _ (by omega)]
  simp only [Option.bind_some]
  rw [if_neg (by omega), if_pos trivial]

end Go.Proofs.Ytbcpdgiinebnaaa.Pure
