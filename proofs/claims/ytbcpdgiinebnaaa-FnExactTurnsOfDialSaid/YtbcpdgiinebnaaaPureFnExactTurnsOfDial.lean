/- For every dial and every two parts the program's TurnsOfDial answers as the reference does, in memory of its own; no condition. -/
import Derived.Test.YtbcpdgiinebnaaaPFnExactTurnsOfDialx8
set_option linter.unusedVariables false
set_option linter.unusedSimpArgs false
namespace Go.Proofs.Ytbcpdgiinebnaaa.Pure
open Go.RowKit Go.Proofs.Ytbcpdgiinebnaaa.PFnExactTurnsOfDial Go.Proofs.YtbcpdgiinebnaaaW.PrintWords Go.Proofs.YtbcpdgiinebnaaaW.PrintLast Go.Proofs.YtbcpdgiinebnaaaW.PrintMore

theorem l1In_val (a b c : Int) : spec_l1In.f a b c = some (decide (b ≤ a ∧ a ≤ c)) := by
  unfold spec_l1In.f
  by_cases h : a ≥ b
  · have e : (b ≤ a ∧ a ≤ c) ↔ a ≤ c := ⟨fun x => x.2, fun x => ⟨h, x⟩⟩
    rw [if_pos h, decide_eq_decide.mpr e]
  · rw [if_neg h, decide_eq_false (fun x => h x.1)]
theorem diHours_val (h : Int) : spec_diHours.f h = some (decide (2 ≤ h ∧ h ≤ 24)) := by
  unfold spec_diHours.f; rw [l1In_val]; rfl
theorem diCommon_ev : ∀ (n : Nat) (a b : Int), 0 ≤ a → 0 ≤ b → b.toNat ≤ n → ∀ k, n < k → spec_diCommon.l0 k a b = some (gI a b)
  | 0, a, b, ha, hb, hn, k, hk => by
    obtain ⟨k, rfl⟩ : ∃ m, k = m + 1 := ⟨k - 1, by omega⟩
    have : b = 0 := by omega
    subst this
    simp only [spec_diCommon.l0]
    rw [if_neg (by omega)]
    unfold gI
    rw [Int.gcd_zero_right]; congr 1; omega
  | n + 1, a, b, ha, hb, hn, k, hk => by
    obtain ⟨k, rfl⟩ : ∃ m, k = m + 1 := ⟨k - 1, by omega⟩
    simp only [spec_diCommon.l0]
    by_cases h0 : b = 0
    · subst h0
      rw [if_neg (by omega)]
      unfold gI
      rw [Int.gcd_zero_right]; congr 1; omega
    · have h1 : 0 ≤ Int.tmod a b := by rw [tmod_nn _ ha]; exact Int.emod_nonneg _ h0
      have h2 : Int.tmod a b < b := by rw [tmod_nn _ ha]; exact Int.emod_lt_of_pos _ (by omega)
      rw [if_pos (by omega), if_neg h0, diCommon_ev n b (Int.tmod a b) hb h1 (by omega) k (by omega), gI_tmod]
theorem diCommon_val {a b : Int} (ha : 0 ≤ a) (hb : 0 ≤ b) : Ev (fun k => spec_diCommon.f k a b) (gI a b) :=
  ⟨b.toNat + 1, fun k hk => diCommon_ev b.toNat a b ha hb (Nat.le_refl _) k (by omega)⟩
theorem diGood_val (a b : Int) : Ev (fun k => spec_diGood.f k a b) (decide (isT a b)) := by
  unfold spec_diGood.f
  simp only [l1In_val, Option.bind_some]
  by_cases h1 : 1 ≤ b ∧ b ≤ 1000000
  · simp only [decide_eq_true h1, if_true]
    rw [wid (x := b - 1) (by omega) (by omega)]
    by_cases h2 : 0 ≤ a ∧ a ≤ b - 1
    · simp only [decide_eq_true h2, if_true]
      refine Ev.bind (diCommon_val h2.1 (by omega)) ?_
      refine ⟨0, fun _ _ => ?_⟩
      unfold isT
      rw [show (gI a b == 1) = decide (gI a b = 1) from Bool.eq_iff_iff.mpr (by simp)]
      simp [h1, h2]
    · simp only [decide_eq_false h2]
      exact ⟨0, fun _ _ => by unfold isT; simp [h2]⟩
  · simp only [decide_eq_false h1]
    exact ⟨0, fun _ _ => by unfold isT; simp [h1]⟩
def isD (h : Int) : Prop := 2 ≤ h ∧ h ≤ 24
instance (h : Int) : Decidable (isD h) := by unfold isD; exact inferInstance
theorem Ev.and {g : Nat → Option Bool} {p q : Prop} [Decidable p] [Decidable q] (h : Ev g (decide q)) : Ev (fun k => if decide p = true then (g k).bind fun t => some t else some false) (decide (p ∧ q)) := by
  by_cases hp : p
  · simp only [decide_eq_true hp, if_true]
    refine Ev.bind h ⟨0, fun _ _ => ?_⟩
    simp [hp]
  · simp only [decide_eq_false hp]
    exact ⟨0, fun _ _ => by simp [hp]⟩
theorem seGood_val (a b c d : Int) : Ev (fun k => spec_seGood.f k a b c d) (decide (isT a b ∧ isT c d)) := by
  unfold spec_seGood.f
  refine Ev.bind (diGood_val a b) ?_
  exact Ev.and (diGood_val c d)
theorem seAsked_val (h a b c d : Int) : Ev (fun k => spec_seAsked.f k h a b c d) (decide (isD h ∧ (isT a b ∧ isT c d))) := by
  unfold spec_seAsked.f
  simp only [diHours_val, Option.bind_some]
  exact Ev.and (seGood_val a b c d)
theorem isDial_val (h : Int) : impl_isDial.f h = some (decide (2 ≤ h ∧ h ≤ 24)) := by
  unfold impl_isDial.f; rw [within_val]; rfl
theorem iIsSeen_val (a b c d : Int) : impl_IsSeen.f a b c d = some (decide (isT a b ∧ isT c d)) := by
  unfold impl_IsSeen.f impl_areTurns.f
  simp only [Option.bind_some, List.all_cons, List.all_nil, Bool.and_true]
  by_cases ha : isT a b <;> by_cases hb : isT c d <;> simp [ha, hb]
theorem isSeenOf_val (h a b c d : Int) : impl_isSeenOf.f h a b c d = some (decide (isD h ∧ (isT a b ∧ isT c d))) := by
  unfold impl_isSeenOf.f
  simp only [isDial_val, iIsSeen_val, Option.bind_some]
  by_cases hd : 2 ≤ h ∧ h ≤ 24
  · simp only [decide_eq_true hd, if_true]
    simp [isD, hd]
  · simp only [decide_eq_false hd]
    simp [isD, hd]
theorem apart_bd {a b c d : Int} (h : isT a b) (h' : isT c d) : 0 < d * b ∧ d * b ≤ 1000000000000 ∧ (0 ≤ a * d ∧ a * d < d * b) ∧ (0 ≤ c * b ∧ c * b < d * b) := by
  obtain ⟨⟨_, _⟩, ⟨_, _⟩, _⟩ := h
  obtain ⟨⟨_, _⟩, ⟨_, _⟩, _⟩ := h'
  refine ⟨Int.mul_pos (by omega) (by omega), Int.le_trans (Int.mul_le_mul (show d ≤ 1000000 by omega) (show b ≤ 1000000 by omega) (by omega) (by omega)) (by omega), ⟨Int.mul_nonneg (by omega) (by omega), ?_⟩, ⟨Int.mul_nonneg (by omega) (by omega), ?_⟩⟩
  · rw [Int.mul_comm d b]; exact Int.mul_lt_mul_of_pos_right (by omega) (by omega)
  · exact Int.mul_lt_mul_of_pos_right (by omega) (by omega)
theorem seApart_val {a b c d : Int} (h : isT a b) (h' : isT c d) : Ev (fun k => spec_seApart.f k a b c d) (mkT (c * b - a * d) (d * b)) := by
  obtain ⟨r1, r2, r3, r4⟩ := apart_bd h h'
  unfold spec_seApart.f
  rw [wid (x := d * b) (by omega) (by omega), wid (x := c * b) (by omega) (by omega), wid (x := a * d) (by omega) (by omega), wid (x := c * b - a * d) (by omega) (by omega), wid (x := c * b - a * d + d * b) (by omega) (by omega), tmod_nn _ (by omega), Int.add_emod_right]
  simp only [if_neg (show ¬ d * b = 0 by omega)]
  have m0 : 0 ≤ (c * b - a * d) % (d * b) := Int.emod_nonneg _ (by omega)
  have m1 : (c * b - a * d) % (d * b) < d * b := Int.emod_lt_of_pos _ (by omega)
  have gp := gI_pos (a := (c * b - a * d) % (d * b)) (show d * b ≠ 0 by omega)
  have x1 : (c * b - a * d) % (d * b) / gI ((c * b - a * d) % (d * b)) (d * b) ≤ (c * b - a * d) % (d * b) := Int.ediv_le_self _ m0
  have x0 : 0 ≤ (c * b - a * d) % (d * b) / gI ((c * b - a * d) % (d * b)) (d * b) := Int.ediv_nonneg m0 (by omega)
  have y1 : d * b / gI ((c * b - a * d) % (d * b)) (d * b) ≤ d * b := Int.ediv_le_self _ (by omega)
  have y0 : 0 ≤ d * b / gI ((c * b - a * d) % (d * b)) (d * b) := Int.ediv_nonneg (by omega) (by omega)
  refine Ev.bind (diCommon_val m0 (by omega)) ?_
  simp only [if_neg (show ¬ gI ((c * b - a * d) % (d * b)) (d * b) = 0 by omega)]
  rw [tdiv_nn _ m0, tdiv_nn _ (show 0 ≤ d * b by omega), wid (x := (c * b - a * d) % (d * b) / gI ((c * b - a * d) % (d * b)) (d * b)) (by omega) (by omega), wid (x := d * b / gI ((c * b - a * d) % (d * b)) (d * b)) (by omega) (by omega)]
  exact ⟨0, fun _ _ => rfl⟩
/-- All parts that k times are n / d: (n + i * d) / (d * k). -/
def rootsL (n d : Int) (k m : Nat) : List S35 := (List.range m).map fun (i : Nat) => ⟨(mkT (n + (i : Int) * d) (d * (k : Int))).1, (mkT (n + (i : Int) * d) (d * (k : Int))).2⟩
theorem rootsL_length (n d : Int) (k m : Nat) : (rootsL n d k m).length = m := by simp [rootsL]
theorem rootsL_succ (n d : Int) (k m : Nat) : rootsL n d k (m + 1) = rootsL n d k m ++ [⟨(mkT (n + (m : Int) * d) (d * (k : Int))).1, (mkT (n + (m : Int) * d) (d * (k : Int))).2⟩] := by simp [rootsL, List.range_succ]
def allT (xs : List S35) : Bool := xs.all fun t => decide (isT t.f0 t.f1)
theorem allT_snoc (xs : List S35) (t : S35) : allT (xs ++ [t]) = (allT xs && decide (isT t.f0 t.f1)) := by simp [allT]
theorem isT_mk (n : Int) {d : Int} (hd : 0 < d) : isT (mkT n d).1 (mkT n d).2 ↔ (mkT n d).2 ≤ 1000000 := ⟨fun h => h.1.2, fun h => isT_of_low (mkT_low n hd) h⟩
theorem root_bd {n d : Int} {i k : Nat} (hn : -1000000000000 ≤ n ∧ n ≤ 1000000000000) (hd : 0 < d ∧ d ≤ 1000000000000) (hi : i ≤ 1000) (hk : 0 < k ∧ k ≤ 1000) : (-1000000000000000 ≤ (i : Int) * d ∧ (i : Int) * d ≤ 1000000000000000) ∧ (0 < d * (k : Int) ∧ d * (k : Int) ≤ 1000000000000000) := by
  have m1 := mul_bd (M := 1000) (N := 1000000000000) (x := (i : Int)) (y := d) (by omega) (by omega)
  have m2 := mul_bd (M := 1000000000000) (N := 1000) (x := d) (y := (k : Int)) (by omega) (by omega)
  exact ⟨by omega, Int.mul_pos hd.1 (by omega), by omega⟩
/-- What diMake tells of a part in lowest terms: it, if it is a turn. -/
def tell (t : Int × Int) : Int × Int × Bool := if t.2 > 1000000 then (0, 0, false) else (t.1, t.2, true)
theorem norm_mod (n : Int) {d : Int} (hd : 0 < d) : (Int.tmod n d + d) % d = n % d := by
  rw [Int.add_emod_right]
  have e := Int.mul_tdiv_add_tmod n d
  have : n % d = (Int.tmod n d + d * Int.tdiv n d) % d := by rw [Int.add_comm, e]
  rw [this, Int.add_mul_emod_self_left]
theorem diMake_val {n d : Int} (hd : 0 < d) (hb : d ≤ 4611686018427387904) : Ev (fun k => spec_diMake.f k n d) (tell (mkT n d)) := by
  unfold spec_diMake.f
  obtain ⟨t1, t0⟩ := tmod_bd n hd
  have g0 := gI_pos (a := n % d) (show d ≠ 0 by omega)
  have m0 : 0 ≤ n % d := Int.emod_nonneg _ (by omega)
  have m1 : n % d < d := Int.emod_lt_of_pos _ hd
  have q0 : 0 ≤ d / gI (n % d) d := Int.ediv_nonneg (by omega) (by omega)
  have q1 : d / gI (n % d) d ≤ d := Int.ediv_le_self _ (by omega)
  have r0 : 0 ≤ n % d / gI (n % d) d := Int.ediv_nonneg (by omega) (by omega)
  have r1 : n % d / gI (n % d) d ≤ n % d := Int.ediv_le_self _ (by omega)
  simp only [if_neg (show ¬ d = 0 by omega)]
  rw [wid (x := Int.tmod n d + d) (by omega) (by omega), tmod_nn _ (show 0 ≤ Int.tmod n d + d by omega), norm_mod n hd]
  refine Ev.bind (diCommon_val m0 (by omega)) ?_
  rw [if_neg (by omega), tdiv_nn _ m0, tdiv_nn _ (by omega), wid (x := d / gI (n % d) d) (by omega) (by omega), wid (x := n % d / gI (n % d) d) (by omega) (by omega)]
  refine ⟨0, fun _ _ => ?_⟩
  unfold tell mkT
  dsimp only
  split <;> rfl
theorem allT_prefix (n d : Int) (k : Nat) {i j : Nat} (h : i ≤ j) (ha : allT (rootsL n d k i) = false) : allT (rootsL n d k j) = false := by
  induction j with
  | zero => rw [show i = 0 by omega] at ha; exact ha
  | succ j ih =>
    by_cases e : i = j + 1
    · rw [← e]; exact ha
    · rw [rootsL_succ, allT_snoc, ih (by omega)]; rfl
theorem seAngle_loop {h n d : Int} {k : Nat} (hh : h - 1 = (k : Int)) (hn : -1000000000000 ≤ n ∧ n ≤ 1000000000000) (hd : 0 < d ∧ d ≤ 1000000000000) (hk : 0 < k ∧ k ≤ 1000) (e : Nat) : ∀ i : Nat, i + e = k → allT (rootsL n d k i) = true →
    Ev (fun q => spec_seAngle.l0 q h n d (rootsL n d k i) i) (if allT (rootsL n d k k) = true then (rootsL n d k k, true) else ([], false)) := by
  induction e with
  | zero =>
    intro i hi ha
    refine ⟨1, fun q hq => ?_⟩
    obtain ⟨q, rfl⟩ : ∃ m, q = m + 1 := ⟨q - 1, by omega⟩
    simp only [spec_seAngle.l0]
    obtain rfl : i = k := by omega
    rw [if_neg (by rw [wid (by omega) (by omega)]; omega), if_pos ha]
  | succ e ih =>
    intro i hi ha
    obtain ⟨b1, b2⟩ := root_bd (i := i) hn hd (by omega) (show 0 < k ∧ k ≤ 1000 by omega)
    obtain ⟨K2, h2⟩ := diMake_val (n := n + (i : Int) * d) b2.1 (by omega)
    have W1 : wrap64 (h - 1) = (k : Int) := by rw [wid (by omega) (by omega)]; exact hh
    have hs : allT (rootsL n d k (i + 1)) = decide ((mkT (n + (i : Int) * d) (d * (k : Int))).2 ≤ 1000000) := by
      rw [rootsL_succ, allT_snoc, ha, Bool.true_and]
      exact decide_eq_decide.mpr (isT_mk _ b2.1)
    by_cases hb : (mkT (n + (i : Int) * d) (d * (k : Int))).2 ≤ 1000000
    · obtain ⟨K1, h1⟩ := ih (i + 1) (by omega) (by rw [hs, decide_eq_true hb])
      refine ⟨max K1 K2 + 1, fun q hq => ?_⟩
      obtain ⟨q, rfl⟩ : ∃ m, q = m + 1 := ⟨q - 1, by omega⟩
      have e1 := h1 q (by omega)
      have e2 := h2 q (by omega)
      dsimp only at e1 e2
      simp only [spec_seAngle.l0]
      rw [W1, if_pos (by omega), wid (x := (i : Int) * d) (by omega) (by omega), wid (x := n + (i : Int) * d) (by omega) (by omega), wid (x := d * (k : Int)) (by omega) (by omega), e2]
      simp only [Option.bind_some, tell]
      rw [if_neg (show ¬ (mkT (n + (i : Int) * d) (d * (k : Int))).2 > 1000000 by omega)]
      dsimp only
      rw [if_pos rfl, rootsL_length, if_pos (by omega), wid (x := (i : Int) + 1) (by omega) (by omega), ← rootsL_succ]
      exact e1
    · refine ⟨K2 + 1, fun q hq => ?_⟩
      obtain ⟨q, rfl⟩ : ∃ m, q = m + 1 := ⟨q - 1, by omega⟩
      have e2 := h2 q (by omega)
      dsimp only at e2
      simp only [spec_seAngle.l0]
      rw [W1, if_pos (by omega), wid (x := (i : Int) * d) (by omega) (by omega), wid (x := n + (i : Int) * d) (by omega) (by omega), wid (x := d * (k : Int)) (by omega) (by omega), e2]
      simp only [Option.bind_some, tell]
      rw [if_pos (show (mkT (n + (i : Int) * d) (d * (k : Int))).2 > 1000000 by omega)]
      have := allT_prefix n d k (show i + 1 ≤ k by omega) (by rw [hs, decide_eq_false hb])
      rw [if_neg (show ¬ allT (rootsL n d k k) = true by rw [this]; simp)]
      rfl
theorem seAngle_val {h a b : Int} {n : Nat} (hh : h - 1 = (n : Int)) (hn : -1000000000000 ≤ a ∧ a ≤ 1000000000000) (hd : 0 < b ∧ b ≤ 1000000000000) (hk : 0 < n ∧ n ≤ 1000) : Ev (fun q => spec_seAngle.f q h a b) (if allT (rootsL a b n n) = true then (rootsL a b n n, true) else ([], false)) :=
  seAngle_loop hh hn hd hk n 0 (by omega) rfl
theorem floorDiv_val {n d : Int} (hd : 0 < d) (hb : d ≤ 4611686018427387904) : ∃ q, impl_floorDiv.f n d = some (q, n % d) := by
  unfold impl_floorDiv.f
  obtain ⟨t1, t0⟩ := tmod_bd n hd
  have m0 : 0 ≤ n % d := Int.emod_nonneg _ (by omega)
  have m1 : n % d < d := Int.emod_lt_of_pos _ hd
  have e := Int.mul_tdiv_add_tmod n d
  have e2 : n % d = (Int.tmod n d) % d := by
    have : n % d = (Int.tmod n d + d * Int.tdiv n d) % d := by rw [Int.add_comm, e]
    rw [this, Int.add_mul_emod_self_left]
  rw [if_neg (by omega)]
  by_cases h : Int.tmod n d < 0
  · rw [if_pos h, wid (x := Int.tmod n d + d) (by omega) (by omega)]
    refine ⟨_, congrArg some (Prod.ext rfl ?_)⟩
    rw [e2, ← Int.add_emod_right, Int.emod_eq_of_lt (by omega) (by omega)]
  · rw [if_neg h]
    refine ⟨_, congrArg some (Prod.ext rfl ?_)⟩
    rw [e2, Int.emod_eq_of_lt (by omega) (by omega)]
theorem part_val {n d : Int} (hd : 0 < d) (hb : d ≤ 4611686018427387904) : Ev (fun k => impl_part.f k n d) (mkT n d) := by
  unfold impl_part.f
  have g0 := gI_pos (a := n % d) (show d ≠ 0 by omega)
  have m0 : 0 ≤ n % d := Int.emod_nonneg _ (by omega)
  have m1 : n % d < d := Int.emod_lt_of_pos _ hd
  have q0 : 0 ≤ d / gI (n % d) d := Int.ediv_nonneg (by omega) (by omega)
  have q1 : d / gI (n % d) d ≤ d := Int.ediv_le_self _ (by omega)
  have r0 : 0 ≤ n % d / gI (n % d) d := Int.ediv_nonneg (by omega) (by omega)
  have r1 : n % d / gI (n % d) d ≤ n % d := Int.ediv_le_self _ (by omega)
  obtain ⟨q, hq⟩ := floorDiv_val (n := n) hd hb
  simp only [hq, Option.bind_some]
  refine Ev.bind (igcd_val (by omega) (by omega) (by omega) (by omega)) ?_
  rw [if_neg (by omega), tdiv_nn _ m0, tdiv_nn _ (by omega), wid (x := d / gI (n % d) d) (by omega) (by omega), wid (x := n % d / gI (n % d) d) (by omega) (by omega)]
  exact ⟨0, fun _ _ => rfl⟩
theorem minus_val {a b c d : Int} (ha : -1000000000 ≤ a ∧ a ≤ 1000000000) (hb : 0 < b ∧ b ≤ 1000000000) (hc : -1000000000 ≤ c ∧ c ≤ 1000000000) (hd : 0 < d ∧ d ≤ 1000000000) : Ev (fun k => impl_Turn_minus.f k a b c d) (mkT (a * d - c * b) (b * d)) := by
  have e1 := mul_bd (N := 1000000000) ha (y := d) (by omega)
  have e2 := mul_bd (N := 1000000000) hc (y := b) (by omega)
  have e3 := mul_bd (M := 1000000000) (N := 1000000000) (x := b) (y := d) (by omega) (by omega)
  have e4 : 0 < b * d := Int.mul_pos hb.1 hd.1
  unfold impl_Turn_minus.f
  rw [wid (x := a * d) (by omega) (by omega), wid (x := c * b) (by omega) (by omega), wid (x := b * d) (by omega) (by omega), wid (x := a * d - c * b) (by omega) (by omega)]
  exact Ev.bind (part_val e4 (by omega)) ⟨0, fun _ _ => rfl⟩
theorem iroots_loop {n d : Int} {k : Nat} (hn : -1000000000000 ≤ n ∧ n ≤ 1000000000000) (hd : 0 < d ∧ d ≤ 1000000000000) (hk : 0 < k ∧ k ≤ 1000) (e : Nat) : ∀ i : Nat, i + e = k →
    Ev (fun q => impl_roots.l0 q k (rootsL n d k i) k i n d) (rootsL n d k k, allT (rootsL n d k k)) := by
  induction e with
  | zero =>
    intro i hi
    refine ⟨1, fun q hq => ?_⟩
    obtain ⟨q, rfl⟩ : ∃ m, q = m + 1 := ⟨q - 1, by omega⟩
    simp only [impl_roots.l0]
    rw [if_neg (by omega), show i = k by omega]
    unfold impl_areTurns.f
    rfl
  | succ e ih =>
    intro i hi
    obtain ⟨b1, b2⟩ := root_bd (i := i) hn hd (by omega) (show 0 < k ∧ k ≤ 1000 by omega)
    obtain ⟨K1, h1⟩ := ih (i + 1) (by omega)
    obtain ⟨K2, h2⟩ := part_val (n := n + (i : Int) * d) b2.1 (by omega)
    refine ⟨max K1 K2 + 1, fun q hq => ?_⟩
    obtain ⟨q, rfl⟩ : ∃ m, q = m + 1 := ⟨q - 1, by omega⟩
    have e1 := h1 q (by omega)
    have e2 := h2 q (by omega)
    dsimp only at e1 e2
    simp only [impl_roots.l0]
    rw [if_pos (by omega), wid (x := (i : Int) * d) (by omega) (by omega), wid (x := n + (i : Int) * d) (by omega) (by omega), wid (x := d * (k : Int)) (by omega) (by omega), e2]
    simp only [Option.bind_some]
    rw [rootsL_length, if_pos (by omega), wid (x := (i : Int) + 1) (by omega) (by omega), ← rootsL_succ]
    exact e1
theorem iroots_val {n d : Int} {k : Nat} (hn : -1000000000000 ≤ n ∧ n ≤ 1000000000000) (hd : 0 < d ∧ d ≤ 1000000000000) (hk : 0 < k ∧ k ≤ 1000) : Ev (fun q => impl_roots.f q n d k) (rootsL n d k k, allT (rootsL n d k k)) :=
  iroots_loop hn hd hk k 0 (by omega)
theorem ifTurns_val (xs : List S35) (b : Bool) : impl_ifTurns.f xs b = some (if b = true ∧ allT xs = true then (xs, true) else ([], false)) := by
  unfold impl_ifTurns.f impl_areTurns.f
  show (if b = true then ((some (allT xs)).bind fun t => if t = true then some (xs, true) else some ([], false)) else some ([], false)) = _
  cases b <;> cases allT xs <;> rfl
theorem rooted_val {n d : Int} {k : Nat} (hn : -1000000000000 ≤ n ∧ n ≤ 1000000000000) (hd : 0 < d ∧ d ≤ 1000000000000) (hk : 0 < k ∧ k ≤ 1000) : Ev (fun q => (impl_roots.f q n d k).bind fun b => (impl_ifTurns.f b.1 b.2).bind fun c => some (c.1, c.2)) (if allT (rootsL n d k k) = true then (rootsL n d k k, true) else ([], false)) := by
  refine Ev.bind (iroots_val hn hd hk) ⟨0, fun _ _ => ?_⟩
  dsimp only
  rw [ifTurns_val]
  cases allT (rootsL n d k k) <;> rfl
theorem isT_bd {a b : Int} (h : isT a b) : (-1000000000 ≤ a ∧ a ≤ 1000000000) ∧ (0 < b ∧ b ≤ 1000000) := by
  obtain ⟨h1, h2, _⟩ := h
  omega
theorem isT_bd9 {a b : Int} (h : isT a b) : (-1000000000 ≤ a ∧ a ≤ 1000000000) ∧ (0 < b ∧ b ≤ 1000000000) := by
  obtain ⟨h1, h2, _⟩ := h
  omega
/-- All times that it may be if the dial is turned. -/
def turnedL (h a b c d : Int) : List S35 := rootsL (mkT (c * b - a * d) (d * b)).1 (mkT (c * b - a * d) (d * b)).2 (h - 1).toNat (h - 1).toNat
def turnedT (h a b c d : Int) : List S35 × Bool := if (isD h ∧ (isT a b ∧ isT c d)) ∧ allT (turnedL h a b c d) = true then (turnedL h a b c d, true) else ([], false)
theorem turned_both (h a b c d : Int) : Ev (fun k => spec_TimesTurned.f k h a b c d) (turnedT h a b c d) ∧ Ev (fun k => impl_TimesTurned.f k h a b c d) (turnedT h a b c d) := by
  unfold spec_TimesTurned.f impl_TimesTurned.f turnedT turnedL
  simp only [isSeenOf_val, Option.bind_some]
  by_cases hq : isD h ∧ (isT a b ∧ isT c d)
  · obtain ⟨hd, ht, hu⟩ := id hq
    unfold isD at hd
    obtain ⟨n, hn⟩ : ∃ n : Nat, h - 1 = (n : Int) := ⟨(h - 1).toNat, by omega⟩
    obtain ⟨r1, r2, r3, r4⟩ := apart_bd ht hu
    have L := mkT_low (c * b - a * d) r1
    have B : (mkT (c * b - a * d) (d * b)).2 ≤ d * b := Int.le_of_dvd r1 (mkT_dvd _)
    obtain ⟨l1, l2, l3, _⟩ := L
    rw [show (h - 1).toNat = n by omega]
    have E : ∀ X : List S35, (if (isD h ∧ (isT a b ∧ isT c d)) ∧ allT X = true then (X, true) else ([], false)) = (if allT X = true then (X, true) else ([], false)) := by
      intro X
      by_cases hx : allT X = true
      · rw [if_pos ⟨hq, hx⟩, if_pos hx]
      · rw [if_neg (fun x => hx x.2), if_neg hx]
    rw [E]
    constructor
    · refine Ev.bind (seAsked_val h a b c d) ?_
      simp only [decide_eq_true hq, if_true]
      refine Ev.bind (seApart_val ht hu) ?_
      exact Ev.bind (seAngle_val hn (by omega) (by omega) (by omega)) ⟨0, fun _ _ => rfl⟩
    · simp only [decide_eq_true hq, if_true]
      refine Ev.bind (minus_val (isT_bd9 hu).1 (isT_bd9 hu).2 (isT_bd9 ht).1 (isT_bd9 ht).2) ?_
      rw [wid (x := h - 1) (by omega) (by omega), hn]
      exact rooted_val (by omega) (by omega) (by omega)
  · rw [if_neg (fun x => hq x.1)]
    constructor
    · refine Ev.bind (seAsked_val h a b c d) ?_
      simp only [decide_eq_false hq]; exact ⟨0, fun _ _ => rfl⟩
    · simp only [decide_eq_false hq]; exact ⟨0, fun _ _ => rfl⟩
theorem turnedT_len (h a b c d : Int) : (turnedT h a b c d).1.length ≤ 60 := by
  unfold turnedT
  split
  · rename_i hq
    obtain ⟨⟨hd, _⟩, _⟩ := hq
    unfold isD at hd
    show (turnedL h a b c d).length ≤ 60
    unfold turnedL
    rw [rootsL_length]; omega
  · simp
theorem diAdd_val {a b c d k : Int} (ha : -1000000000 ≤ a ∧ a ≤ 1000000000) (hb : 0 < b ∧ b ≤ 1000000000) (hc : -1000000 ≤ c ∧ c ≤ 1000000) (hk : -1000 ≤ k ∧ k ≤ 1000) (hd : 0 < d ∧ d ≤ 1000000000) : Ev (fun n => spec_diAdd.f n a b c d k) (tell (mkT (a * d + k * c * b) (b * d))) := by
  have e1 := mul_bd (N := 1000000000) ha (y := d) (by omega)
  have e5 := mul_bd (M := 1000) (N := 1000000) (x := k) (y := c) hk hc
  have e2 := mul_bd (M := 1000000000) (N := 1000000000) (x := k * c) (y := b) (by omega) (by omega)
  have e3 := mul_bd (M := 1000000000) (N := 1000000000) (x := b) (y := d) (by omega) (by omega)
  have e4 : 0 < b * d := Int.mul_pos hb.1 hd.1
  unfold spec_diAdd.f
  rw [wid (x := k * c) (by omega) (by omega), wid (x := a * d) (by omega) (by omega), wid (x := k * c * b) (by omega) (by omega), wid (x := b * d) (by omega) (by omega), wid (x := a * d + k * c * b) (by omega) (by omega)]
  exact Ev.bind (diMake_val e4 (by omega)) ⟨0, fun _ _ => rfl⟩
theorem eqTurn_refl (a b : Int) : laws_eqTurn.f a b a b = some true := by unfold laws_eqTurn.f; rw [if_pos rfl, if_pos rfl]
/-! exactTurn: the law's own words over rows of turns: equal, marked, held -/
theorem eqTurnS_refl_loop (xs : List S35) (hl : xs.length ≤ 1000000000000) (d : Nat) : ∀ (i k : Nat), i + d = xs.length → d < k → laws_eqTurnS.l0 k xs xs i = some true := by
  induction d with
  | zero =>
    intro i k hi hk
    obtain ⟨k, rfl⟩ : ∃ m, k = m + 1 := ⟨k - 1, by omega⟩
    simp only [laws_eqTurnS.l0]
    rw [if_neg (by omega)]
  | succ d ih =>
    intro i k hi hk
    obtain ⟨k, rfl⟩ : ∃ m, k = m + 1 := ⟨k - 1, by omega⟩
    simp only [laws_eqTurnS.l0]
    rw [if_pos (by omega), if_pos (by omega), if_pos (by omega), eqTurn_refl]
    simp only [Option.bind_some, if_true]
    rw [wid (x := (i : Int) + 1) (by omega) (by omega)]
    exact ih (i + 1) k (by omega) (by omega)
theorem eqTurnS_refl (xs : List S35) (hl : xs.length ≤ 1000000000000) (k : Nat) (hk : xs.length < k) : laws_eqTurnS.f k xs xs = some true := by
  unfold laws_eqTurnS.f
  rw [if_pos rfl]
  exact eqTurnS_refl_loop xs hl xs.length 0 k (by omega) hk
def marksT (n : Nat) : List S35 := (List.range n).map fun (j : Nat) => ⟨1 + 2 * (j : Int), 2 + 2 * (j : Int)⟩
theorem marksT_length (n : Nat) : (marksT n).length = n := by simp [marksT]
theorem marksT_succ (n : Nat) : marksT (n + 1) = marksT n ++ [⟨1 + 2 * (n : Int), 2 + 2 * (n : Int)⟩] := by simp [marksT, List.range_succ]
theorem set_mid (xs : List S35) (n : Nat) (ys : List S35) (hy : ys.length = n) (h : n < xs.length) (v : S35) : (ys ++ xs.drop n).set n v = ys ++ [v] ++ xs.drop (n + 1) := by
  rw [List.set_append_right (h := by omega), hy, Nat.sub_self, List.drop_eq_getElem_cons h, List.set_cons_zero, List.append_assoc]
  rfl
theorem rd_mid (zs : List S35) (n : Nat) (ys : List S35) (hy : ys.length = n) (v : S35) : rd_T35 (ys ++ [v] ++ zs) (n : Int) = v := by
  unfold rd_T35
  rw [show (n : Int).toNat = n by omega, List.getD_eq_getElem?_getD, List.append_assoc, List.getElem?_append_right (by omega), hy, Nat.sub_self]
  rfl
theorem markT_loop (xs : List S35) (hl : xs.length ≤ 1000000000000) (d : Nat) : ∀ (i k : Nat), i + d = xs.length → d < k →
    laws_markTurnS.l0 k (marksT i ++ xs.drop i) (1 + 2 * (i : Int)) i = some (1 + 2 * (xs.length : Int), marksT xs.length) := by
  induction d with
  | zero =>
    intro i k hi hk
    obtain ⟨k, rfl⟩ : ∃ m, k = m + 1 := ⟨k - 1, by omega⟩
    simp only [laws_markTurnS.l0]
    have e : i = xs.length := by omega
    rw [if_neg (by rw [List.length_append, marksT_length, List.length_drop]; omega), e, List.drop_length, List.append_nil]
  | succ d ih =>
    intro i k hi hk
    obtain ⟨k, rfl⟩ : ∃ m, k = m + 1 := ⟨k - 1, by omega⟩
    simp only [laws_markTurnS.l0]
    rw [if_pos (by rw [List.length_append, marksT_length, List.length_drop]; omega), if_pos (by omega), wid (x := 1 + 2 * (i : Int) + 1) (by omega) (by omega), wid (x := 1 + 2 * (i : Int) + 1 + 1) (by omega) (by omega), wid (x := (i : Int) + 1) (by omega) (by omega)]
    simp only [Option.bind_some]
    rw [show (i : Int).toNat = i by omega, set_mid xs i (marksT i) (marksT_length i) (by omega), rd_mid _ _ _ (marksT_length i)]
    have e : (marksT i ++ [(⟨1 + 2 * (i : Int), (rd_T35 (marksT i ++ xs.drop i) i).f1⟩ : S35)] ++ xs.drop (i + 1)).set i (⟨1 + 2 * (i : Int), 1 + 2 * (i : Int) + 1⟩ : S35) = marksT (i + 1) ++ xs.drop (i + 1) := by
      rw [List.append_assoc, List.set_append_right (h := by rw [marksT_length]; omega), marksT_length, Nat.sub_self, marksT_succ, List.append_assoc, show (2 : Int) + 2 * i = 1 + 2 * i + 1 by omega]
      rfl
    rw [e, show (1 : Int) + 2 * i + 1 + 1 = 1 + 2 * ((i + 1 : Nat) : Int) by omega]
    exact ih (i + 1) k (by omega) (by omega)
theorem markT_val (xs : List S35) (hl : xs.length ≤ 1000000000000) (k : Nat) (hk : xs.length < k) : laws_markTurnS.f k xs 1 = some (1 + 2 * (xs.length : Int), marksT xs.length) := by
  have := markT_loop xs hl xs.length 0 k (by omega) hk
  simpa [laws_markTurnS.f, marksT] using this
theorem heldT_loop (n : Nat) (hl : n ≤ 1000000000000) (d : Nat) : ∀ (i k : Nat), i + d = n → d < k → laws_heldTurnS.l0 k (marksT n) (1 + 2 * (i : Int)) i = some (1 + 2 * (n : Int)) := by
  induction d with
  | zero =>
    intro i k hi hk
    obtain ⟨k, rfl⟩ : ∃ m, k = m + 1 := ⟨k - 1, by omega⟩
    simp only [laws_heldTurnS.l0]
    rw [if_neg (by rw [marksT_length]; omega), show i = n by omega]
  | succ d ih =>
    intro i k hi hk
    obtain ⟨k, rfl⟩ : ∃ m, k = m + 1 := ⟨k - 1, by omega⟩
    simp only [laws_heldTurnS.l0]
    have e : rd_T35 (marksT n) (i : Int) = ⟨1 + 2 * (i : Int), 2 + 2 * (i : Int)⟩ := by
      unfold rd_T35
      rw [show (i : Int).toNat = i by omega, List.getD_eq_getElem?_getD]
      simp [marksT, List.getElem?_range (show i < n by omega)]
    rw [e, if_pos (by rw [marksT_length]; omega), if_pos (by omega), wid (x := 1 + 2 * (i : Int) + 1) (by omega) (by omega), if_pos rfl, if_pos (show (2 : Int) + 2 * i = 1 + 2 * i + 1 by omega), wid (x := 1 + 2 * (i : Int) + 1 + 1) (by omega) (by omega), wid (x := (i : Int) + 1) (by omega) (by omega)]
    have := ih (i + 1) k (by omega) (by omega)
    rw [show (1 : Int) + 2 * i + 1 + 1 = 1 + 2 * ((i + 1 : Nat) : Int) by omega]
    exact this
theorem heldT_val (n : Nat) (hl : n ≤ 1000000000000) (k : Nat) (hk : n < k) : laws_heldTurnS.f k (marksT n) 1 = some (1 + 2 * (n : Int)) := by
  have := heldT_loop n hl n 0 k (by omega) hk
  simpa [laws_heldTurnS.f] using this
/-- By how much the dial is turned, for each of these times. -/
def dialL (a b : Int) (xs : List S35) : List S35 := xs.map fun t => ⟨(mkT (a * t.f1 - t.f0 * b) (b * t.f1)).1, (mkT (a * t.f1 - t.f0 * b) (b * t.f1)).2⟩
theorem dialL_length (a b : Int) (xs : List S35) : (dialL a b xs).length = xs.length := by simp [dialL]
theorem dialL_take (a b : Int) (xs : List S35) (i : Nat) (hi : i < xs.length) : dialL a b (xs.take (i + 1)) = dialL a b (xs.take i) ++ [⟨(mkT (a * xs[i].f1 - xs[i].f0 * b) (b * xs[i].f1)).1, (mkT (a * xs[i].f1 - xs[i].f0 * b) (b * xs[i].f1)).2⟩] := by
  unfold dialL
  rw [List.take_succ_eq_append_getElem hi, List.map_append]
  rfl
theorem rd_get (xs : List S35) (i : Nat) (hi : i < xs.length) : rd_T35 xs (i : Int) = xs[i] := by
  unfold rd_T35
  rw [show (i : Int).toNat = i by omega, List.getD_eq_getElem?_getD, List.getElem?_eq_getElem hi]; rfl
theorem allT_at {xs : List S35} (h : allT xs = true) (i : Nat) (hi : i < xs.length) : isT xs[i].f0 xs[i].f1 := by
  unfold allT at h
  rw [List.all_eq_true] at h
  exact of_decide_eq_true (h _ (List.getElem_mem hi))
theorem iDial_loop {a b : Int} (c d : Int) (hab : isT a b) {xs : List S35} (hx : allT xs = true) (hl : xs.length ≤ 1000) (e : Nat) : ∀ i : Nat, i + e = xs.length →
    Ev (fun q => impl_TurnsOfDial.l0 q (dialL a b (xs.take i)) xs (xs.length : Int) i a b c d) (if allT (dialL a b xs) = true then (dialL a b xs, true) else ([], false)) := by
  induction e with
  | zero =>
    intro i hi
    refine ⟨1, fun q hq => ?_⟩
    obtain ⟨q, rfl⟩ : ∃ m, q = m + 1 := ⟨q - 1, by omega⟩
    simp only [impl_TurnsOfDial.l0]
    rw [if_neg (by omega), List.take_of_length_le (by omega), ifTurns_val]
    cases allT (dialL a b xs) <;> rfl
  | succ e ih =>
    intro i hi
    have ht := allT_at hx i (by omega)
    obtain ⟨K1, h1⟩ := ih (i + 1) (by omega)
    obtain ⟨K2, h2⟩ := minus_val (isT_bd9 hab).1 (isT_bd9 hab).2 (isT_bd9 ht).1 (isT_bd9 ht).2
    refine ⟨max K1 K2 + 1, fun q hq => ?_⟩
    obtain ⟨q, rfl⟩ : ∃ m, q = m + 1 := ⟨q - 1, by omega⟩
    have e1 := h1 q (by omega)
    have e2 := h2 q (by omega)
    dsimp only at e1 e2
    simp only [impl_TurnsOfDial.l0]
    rw [if_pos (by omega), if_pos (by omega), if_pos (by omega), rd_get xs i (by omega), e2]
    simp only [Option.bind_some]
    rw [dialL_length, if_pos (by rw [List.length_take]; omega), wid (x := (i : Int) + 1) (by omega) (by omega), ← dialL_take a b xs i (by omega)]
    exact e1
theorem allT_dial_prefix (a b : Int) (xs : List S35) {i : Nat} (hf : allT (dialL a b (xs.take i)) = false) : allT (dialL a b xs) = false := by
  have e : dialL a b xs = dialL a b (xs.take i) ++ dialL a b (xs.drop i) := by unfold dialL; rw [← List.map_append, List.take_append_drop]
  rw [e]
  unfold allT at *
  rw [List.all_append, hf, Bool.false_and]
theorem sDial_loop {a b : Int} (c d : Int) (hab : isT a b) {xs : List S35} (hx : allT xs = true) (hl : xs.length ≤ 1000) (e : Nat) : ∀ i : Nat, i + e = xs.length → allT (dialL a b (xs.take i)) = true →
    Ev (fun q => spec_TurnsOfDial.l0 q (dialL a b (xs.take i)) xs (xs.length : Int) i a b c d) (if allT (dialL a b xs) = true then (dialL a b xs, true) else ([], false)) := by
  induction e with
  | zero =>
    intro i hi ha
    refine ⟨1, fun q hq => ?_⟩
    obtain ⟨q, rfl⟩ : ∃ m, q = m + 1 := ⟨q - 1, by omega⟩
    simp only [spec_TurnsOfDial.l0]
    rw [List.take_of_length_le (by omega)] at ha ⊢
    rw [if_neg (by omega), if_pos ha]
  | succ e ih =>
    intro i hi ha
    have ht := allT_at hx i (by omega)
    have bt := isT_bd9 ht
    obtain ⟨⟨_, _⟩, ⟨_, _⟩, _⟩ := id ht
    have pos : 0 < b * xs[i].f1 := Int.mul_pos (isT_bd hab).2.1 bt.2.1
    obtain ⟨K2, h2⟩ := diAdd_val (k := -1) (isT_bd9 hab).1 (isT_bd9 hab).2 (c := xs[i].f0) (d := xs[i].f1) (by omega) (by omega) bt.2
    have en : a * xs[i].f1 + -1 * xs[i].f0 * b = a * xs[i].f1 - xs[i].f0 * b := by rw [Int.neg_one_mul, Int.neg_mul]; omega
    rw [en] at h2
    have hs : allT (dialL a b (xs.take (i + 1))) = decide ((mkT (a * xs[i].f1 - xs[i].f0 * b) (b * xs[i].f1)).2 ≤ 1000000) := by
      rw [dialL_take a b xs i (by omega), allT_snoc, ha, Bool.true_and]
      exact decide_eq_decide.mpr (isT_mk _ pos)
    by_cases hb : (mkT (a * xs[i].f1 - xs[i].f0 * b) (b * xs[i].f1)).2 ≤ 1000000
    · obtain ⟨K1, h1⟩ := ih (i + 1) (by omega) (by rw [hs, decide_eq_true hb])
      refine ⟨max K1 K2 + 1, fun q hq => ?_⟩
      obtain ⟨q, rfl⟩ : ∃ m, q = m + 1 := ⟨q - 1, by omega⟩
      have e1 := h1 q (by omega)
      have e2 := h2 q (by omega)
      dsimp only at e1 e2
      simp only [spec_TurnsOfDial.l0]
      rw [if_pos (by omega), if_pos (by omega), if_pos (by omega), rd_get xs i (by omega), e2]
      simp only [Option.bind_some, tell]
      rw [if_neg (show ¬ (mkT (a * xs[i].f1 - xs[i].f0 * b) (b * xs[i].f1)).2 > 1000000 by omega)]
      dsimp only
      rw [if_pos rfl, dialL_length, if_pos (by rw [List.length_take]; omega), wid (x := (i : Int) + 1) (by omega) (by omega), ← dialL_take a b xs i (by omega)]
      exact e1
    · refine ⟨K2 + 1, fun q hq => ?_⟩
      obtain ⟨q, rfl⟩ : ∃ m, q = m + 1 := ⟨q - 1, by omega⟩
      have e2 := h2 q (by omega)
      dsimp only at e2
      simp only [spec_TurnsOfDial.l0]
      rw [if_pos (by omega), if_pos (by omega), if_pos (by omega), rd_get xs i (by omega), e2]
      simp only [Option.bind_some, tell]
      rw [if_pos (show (mkT (a * xs[i].f1 - xs[i].f0 * b) (b * xs[i].f1)).2 > 1000000 by omega)]
      have := allT_dial_prefix a b xs (i := i + 1) (by rw [hs, decide_eq_false hb])
      rw [if_neg (show ¬ allT (dialL a b xs) = true by rw [this]; simp)]
      rfl
theorem dial_both (h a b c d : Int) : ∃ (xs : List S35) (f : Bool), xs.length ≤ 60 ∧ Ev (fun k => spec_TurnsOfDial.f k h a b c d) (xs, f) ∧ Ev (fun k => impl_TurnsOfDial.f k h a b c d) (xs, f) := by
  obtain ⟨h1, h2⟩ := turned_both h a b c d
  have hl := turnedT_len h a b c d
  unfold spec_TurnsOfDial.f impl_TurnsOfDial.f
  by_cases hq : (isD h ∧ (isT a b ∧ isT c d)) ∧ allT (turnedL h a b c d) = true
  · have ev : turnedT h a b c d = (turnedL h a b c d, true) := by unfold turnedT; rw [if_pos hq]
    rw [ev] at h1 h2 hl
    dsimp only at hl
    refine ⟨(if allT (dialL a b (turnedL h a b c d)) = true then (dialL a b (turnedL h a b c d), true) else ([], false)).1, (if allT (dialL a b (turnedL h a b c d)) = true then (dialL a b (turnedL h a b c d), true) else ([], false)).2, ?_, Ev.bind h1 ?_, Ev.bind h2 ?_⟩
    · split
      · rw [dialL_length]; exact hl
      · simp
    · simp only [if_true]
      exact sDial_loop c d hq.1.2.1 hq.2 (by omega) (turnedL h a b c d).length 0 (by omega) rfl
    · simp only [if_true]
      exact iDial_loop c d hq.1.2.1 hq.2 (by omega) (turnedL h a b c d).length 0 (by omega)
  · have ev : turnedT h a b c d = ([], false) := by unfold turnedT; rw [if_neg hq]
    rw [ev] at h1 h2
    exact ⟨[], false, by simp, Ev.bind h1 ⟨0, fun _ _ => rfl⟩, Ev.bind h2 ⟨0, fun _ _ => rfl⟩⟩
theorem FnExactTurnsOfDial : laws_FnExactTurnsOfDial.Pure := by
  intro h a b c d _ _ _ _ _
  obtain ⟨xs, f, hl, ⟨K1, h1⟩, ⟨K2, h2⟩⟩ := dial_both h a b c d
  refine ⟨max K1 K2 + 102, ?_⟩
  have m1 := markT_val xs (by omega)
  have m2 := heldT_val xs.length (by omega)
  have e1 := h1 (max K1 K2 + 102) (by omega)
  have e2 := h2 (max K1 K2 + 102) (by omega)
  have e3 := h2 (max K1 K2 + 101) (by omega)
  dsimp only at e1 e2 e3
  unfold laws_FnExactTurnsOfDial.f laws_toSeen.f laws_toTurn.f
  simp only [Option.bind_some, e1, e2]
  rw [eqTurnS_refl xs (by omega) _ (by omega)]
  simp only [Option.bind_some, if_true, laws_FnExactTurnsOfDial.j0, bne_self_eq_false, Bool.false_eq_true, if_false, laws_toSeen.f, laws_toTurn.f]
  rw [m1 _ (by omega)]
  simp only [Option.bind_some]
  rw [m2 _ (by omega)]
  simp only [Option.bind_some]
  rw [if_neg (by omega), if_pos trivial, e3]
  simp only [Option.bind_some]
  rw [eqTurnS_refl xs (by omega) _ (by omega)]
  simp only [Option.bind_some, if_true, laws_FnExactTurnsOfDial.j1, bne_self_eq_false, Bool.false_eq_true, if_false]
  rw [m2 _ (by omega)]
  simp only [Option.bind_some]
  rw [if_neg (by omega), if_pos trivial]

end Go.Proofs.Ytbcpdgiinebnaaa.Pure
