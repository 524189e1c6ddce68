/- Over all clocks, turns, spans, numbers and texts: clocks agree at the told times, readings tell clocks, and spans are added, compared and read back. -/
import Derived.Test.YtdhifobbaniogabGreatDoorVFnClocksAgreeOfAll
import Derived.Test.YtdhifobbaniogabGreatDoorPFnClocksAgreeOfAllx30
set_option linter.unusedVariables false
set_option linter.unusedSimpArgs false
namespace Go.Proofs.YtdhifobbaniogabGreatDoor.Pure
open Go.RowKit Go.Proofs.YtdhifobbaniogabGreatDoor.PFnClocksAgreeOfAll Go.Proofs.YtdhifobbaniogabGreatDoorW.PrintWords Go.Proofs.YtdhifobbaniogabGreatDoorW.PrintLast Go.Proofs.YtdhifobbaniogabGreatDoorW.PrintMore

theorem Ev.up {α : Type} {g : Nat → Option α} {r : α} (h : Ev (fun k => g (k + 1)) r) : Ev g r := Ev.step (fun _ => rfl) h
/-- A clock. -/
def isC (a b c d : Int) : Prop := isT a b ∧ b ≤ 1000 ∧ (1 ≤ c ∧ c ≤ 1000) ∧ (1 ≤ d ∧ d ≤ 1000) ∧ gI c d = 1
instance (a b c d : Int) : Decidable (isC a b c d) := by unfold isC; exact inferInstance
theorem isC_bd {a b c d : Int} (h : isC a b c d) : (0 ≤ a ∧ a < b) ∧ (1 ≤ b ∧ b ≤ 1000) ∧ (1 ≤ c ∧ c ≤ 1000) ∧ (1 ≤ d ∧ d ≤ 1000) := by
  obtain ⟨⟨h1, h2, _⟩, h3, h4, h5, _⟩ := h
  omega
theorem IsClock_val (a b c d : Int) : Ev (fun k => impl_IsClock.f k a b c d) (decide (isC a b c d)) := by
  unfold impl_IsClock.f
  refine Ev.bind (IsTurn_val a b) ?_
  by_cases h1 : isT a b
  · simp only [decide_eq_true h1, if_true]
    by_cases h2 : b ≤ 1000
    · simp only [if_pos h2, within_val, Option.bind_some]
      by_cases h3 : 1 ≤ c ∧ c ≤ 1000
      · simp only [decide_eq_true h3, if_true]
        by_cases h4 : 1 ≤ d ∧ d ≤ 1000
        · simp only [decide_eq_true h4, if_true]
          refine Ev.bind (igcd_val (by omega) (by omega) (by omega) (by omega)) ⟨0, fun _ _ => ?_⟩
          unfold isC
          rw [show (gI c d == 1) = decide (gI c d = 1) from Bool.eq_iff_iff.mpr (by simp)]
          simp [h1, h2, h3, h4]
        · simp only [decide_eq_false h4]
          exact ⟨0, fun _ _ => by unfold isC; simp [h4]⟩
      · simp only [decide_eq_false h3]
        exact ⟨0, fun _ _ => by unfold isC; simp [h3]⟩
    · simp only [if_neg h2]
      exact ⟨0, fun _ _ => by unfold isC; simp [h2]⟩
  · simp only [decide_eq_false h1]
    exact ⟨0, fun _ _ => by unfold isC; simp [h1]⟩
/-- A span. -/
def isS (a b : Int) : Prop := (0 ≤ a ∧ a ≤ 1000000) ∧ (1 ≤ b ∧ b ≤ 10000) ∧ gI a b = 1
instance (a b : Int) : Decidable (isS a b) := by unfold isS; exact inferInstance
/-- A span in lowest terms, if it is one. -/
def spanT (n d : Int) : Int × Int × Bool := if isS (n / gI n d) (d / gI n d) then (n / gI n d, d / gI n d, true) else (0, 0, false)
theorem isS_bd {a b : Int} (h : isS a b) : (0 ≤ a ∧ a ≤ 1000000) ∧ (1 ≤ b ∧ b ≤ 10000) := ⟨h.1, h.2.1⟩
theorem IsSpan_val (a b : Int) : Ev (fun k => impl_IsSpan.f k a b) (decide (isS a b)) := by
  unfold impl_IsSpan.f
  simp only [within_val, Option.bind_some]
  by_cases h1 : 0 ≤ a ∧ a ≤ 1000000
  · simp only [decide_eq_true h1, if_true]
    by_cases h2 : 1 ≤ b ∧ b ≤ 10000
    · simp only [decide_eq_true h2, if_true]
      refine Ev.bind (igcd_val (by omega) (by omega) (by omega) (by omega)) ⟨0, fun _ _ => ?_⟩
      unfold isS
      rw [show (gI a b == 1) = decide (gI a b = 1) from Bool.eq_iff_iff.mpr (by simp)]
      simp [h1, h2]
    · simp only [decide_eq_false h2]
      exact ⟨0, fun _ _ => by unfold isS; simp [h2]⟩
  · simp only [decide_eq_false h1]
    exact ⟨0, fun _ _ => by unfold isS; simp [h1]⟩
theorem floorDiv_val {n d : Int} (hd : 0 < d) (hb : d ≤ 4611686018427387904) : ∃ q, impl_floorDiv.f n d = some (q, n % d) := by
  unfold impl_floorDiv.f
  obtain ⟨t1, t0⟩ := tmod_bd n hd
  have m0 : 0 ≤ n % d := Int.emod_nonneg _ (by omega)
  have m1 : n % d < d := Int.emod_lt_of_pos _ hd
  have e := Int.mul_tdiv_add_tmod n d
  have e2 : n % d = (Int.tmod n d) % d := by
    have : n % d = (Int.tmod n d + d * Int.tdiv n d) % d := by rw [Int.add_comm, e]
    rw [this, Int.add_mul_emod_self_left]
  rw [if_neg (by omega)]
  by_cases h : Int.tmod n d < 0
  · rw [if_pos h, wid (x := Int.tmod n d + d) (by omega) (by omega)]
    refine ⟨_, congrArg some (Prod.ext rfl ?_)⟩
    rw [e2, ← Int.add_emod_right, Int.emod_eq_of_lt (by omega) (by omega)]
  · rw [if_neg h]
    refine ⟨_, congrArg some (Prod.ext rfl ?_)⟩
    rw [e2, Int.emod_eq_of_lt (by omega) (by omega)]
theorem part_val {n d : Int} (hd : 0 < d) (hb : d ≤ 4611686018427387904) : Ev (fun k => impl_part.f k n d) (mkT n d) := by
  unfold impl_part.f
  have g0 := gI_pos (a := n % d) (show d ≠ 0 by omega)
  have m0 : 0 ≤ n % d := Int.emod_nonneg _ (by omega)
  have m1 : n % d < d := Int.emod_lt_of_pos _ hd
  have q0 : 0 ≤ d / gI (n % d) d := Int.ediv_nonneg (by omega) (by omega)
  have q1 : d / gI (n % d) d ≤ d := Int.ediv_le_self _ (by omega)
  have r0 : 0 ≤ n % d / gI (n % d) d := Int.ediv_nonneg (by omega) (by omega)
  have r1 : n % d / gI (n % d) d ≤ n % d := Int.ediv_le_self _ (by omega)
  obtain ⟨q, hq⟩ := floorDiv_val (n := n) hd hb
  simp only [hq, Option.bind_some]
  refine Ev.bind (igcd_val (by omega) (by omega) (by omega) (by omega)) ?_
  rw [if_neg (by omega), tdiv_nn _ m0, tdiv_nn _ (by omega), wid (x := d / gI (n % d) d) (by omega) (by omega), wid (x := n % d / gI (n % d) d) (by omega) (by omega)]
  exact ⟨0, fun _ _ => rfl⟩
theorem plus_val {a b c d : Int} (ha : -1000000000 ≤ a ∧ a ≤ 1000000000) (hb : 0 < b ∧ b ≤ 1000000000) (hc : -1000000000 ≤ c ∧ c ≤ 1000000000) (hd : 0 < d ∧ d ≤ 1000000000) : Ev (fun k => impl_Turn_plus.f k a b c d) (mkT (a * d + c * b) (b * d)) := by
  have e1 := mul_bd (N := 1000000000) ha (y := d) (by omega)
  have e2 := mul_bd (N := 1000000000) hc (y := b) (by omega)
  have e3 := mul_bd (M := 1000000000) (N := 1000000000) (x := b) (y := d) (by omega) (by omega)
  have e4 : 0 < b * d := Int.mul_pos hb.1 hd.1
  unfold impl_Turn_plus.f
  rw [wid (x := a * d) (by omega) (by omega), wid (x := c * b) (by omega) (by omega), wid (x := b * d) (by omega) (by omega), wid (x := a * d + c * b) (by omega) (by omega)]
  exact Ev.bind (part_val e4 (by omega)) ⟨0, fun _ _ => rfl⟩
theorem diCommon_ev : ∀ (n : Nat) (a b : Int), 0 ≤ a → 0 ≤ b → b.toNat ≤ n → ∀ k, n < k → spec_diCommon.l0 k a b = some (gI a b)
  | 0, a, b, ha, hb, hn, k, hk => by
    obtain ⟨k, rfl⟩ : ∃ m, k = m + 1 := ⟨k - 1, by omega⟩
    have : b = 0 := by omega
    subst this
    simp only [spec_diCommon.l0]
    rw [if_neg (by omega)]
    unfold gI
    rw [Int.gcd_zero_right]; congr 1; omega
  | n + 1, a, b, ha, hb, hn, k, hk => by
    obtain ⟨k, rfl⟩ : ∃ m, k = m + 1 := ⟨k - 1, by omega⟩
    simp only [spec_diCommon.l0]
    by_cases h0 : b = 0
    · subst h0
      rw [if_neg (by omega)]
      unfold gI
      rw [Int.gcd_zero_right]; congr 1; omega
    · have h1 : 0 ≤ Int.tmod a b := by rw [tmod_nn _ ha]; exact Int.emod_nonneg _ h0
      have h2 : Int.tmod a b < b := by rw [tmod_nn _ ha]; exact Int.emod_lt_of_pos _ (by omega)
      rw [if_pos (by omega), if_neg h0, diCommon_ev n b (Int.tmod a b) hb h1 (by omega) k (by omega), gI_tmod]
theorem diCommon_val {a b : Int} (ha : 0 ≤ a) (hb : 0 ≤ b) : Ev (fun k => spec_diCommon.f k a b) (gI a b) :=
  ⟨b.toNat + 1, fun k hk => diCommon_ev b.toNat a b ha hb (Nat.le_refl _) k (by omega)⟩
/-- What diMake tells of a part in lowest terms: it, if it is a turn. -/
def tell (t : Int × Int) : Int × Int × Bool := if t.2 > 1000000 then (0, 0, false) else (t.1, t.2, true)
theorem norm_mod (n : Int) {d : Int} (hd : 0 < d) : (Int.tmod n d + d) % d = n % d := by
  rw [Int.add_emod_right]
  have e := Int.mul_tdiv_add_tmod n d
  have : n % d = (Int.tmod n d + d * Int.tdiv n d) % d := by rw [Int.add_comm, e]
  rw [this, Int.add_mul_emod_self_left]
theorem diMake_val {n d : Int} (hd : 0 < d) (hb : d ≤ 4611686018427387904) : Ev (fun k => spec_diMake.f k n d) (tell (mkT n d)) := by
  unfold spec_diMake.f
  obtain ⟨t1, t0⟩ := tmod_bd n hd
  have g0 := gI_pos (a := n % d) (show d ≠ 0 by omega)
  have m0 : 0 ≤ n % d := Int.emod_nonneg _ (by omega)
  have m1 : n % d < d := Int.emod_lt_of_pos _ hd
  have q0 : 0 ≤ d / gI (n % d) d := Int.ediv_nonneg (by omega) (by omega)
  have q1 : d / gI (n % d) d ≤ d := Int.ediv_le_self _ (by omega)
  have r0 : 0 ≤ n % d / gI (n % d) d := Int.ediv_nonneg (by omega) (by omega)
  have r1 : n % d / gI (n % d) d ≤ n % d := Int.ediv_le_self _ (by omega)
  simp only [if_neg (show ¬ d = 0 by omega)]
  rw [wid (x := Int.tmod n d + d) (by omega) (by omega), tmod_nn _ (show 0 ≤ Int.tmod n d + d by omega), norm_mod n hd]
  refine Ev.bind (diCommon_val m0 (by omega)) ?_
  rw [if_neg (by omega), tdiv_nn _ m0, tdiv_nn _ (by omega), wid (x := d / gI (n % d) d) (by omega) (by omega), wid (x := n % d / gI (n % d) d) (by omega) (by omega)]
  refine ⟨0, fun _ _ => ?_⟩
  unfold tell mkT
  dsimp only
  split <;> rfl
/-! tmath2: sums and multiples of parts, one of the other -/
theorem mkT_sp (n : Int) {d : Int} (hd : 0 < d) : ∃ m, (mkT n d).1 * d = (mkT n d).2 * n + (mkT n d).2 * d * m := by
  have e := mkT_eq n hd
  have em := Int.mul_ediv_add_emod n d
  refine ⟨-(n / d), ?_⟩
  rw [e]
  generalize (mkT n d).2 = q
  have : n % d = n - d * (n / d) := by omega
  rw [this]
  grind
theorem mkT_pos (n : Int) {d : Int} (hd : 0 < d) : 0 < (mkT n d).2 := (mkT_low n hd).1
theorem mkT_mul (n k : Int) {d : Int} (hd : 0 < d) : mkT ((mkT n d).1 * k) (mkT n d).2 = mkT (n * k) d := by
  obtain ⟨m, h⟩ := mkT_sp n hd
  refine mkT_congr (m := m * k) (mkT_pos n hd) hd ?_
  grind
theorem mkT_add_r (n' p : Int) {d' q : Int} (hq : 0 < q) (hd' : 0 < d') : mkT (p * (mkT n' d').2 + (mkT n' d').1 * q) (q * (mkT n' d').2) = mkT (p * d' + n' * q) (q * d') := by
  obtain ⟨m, h⟩ := mkT_sp n' hd'
  refine mkT_congr (m := m) (Int.mul_pos hq (mkT_pos n' hd')) (Int.mul_pos hq hd') ?_
  grind
theorem mkT_cross {n d n' d' : Int} (hd : 0 < d) (hd' : 0 < d') (e : n * d' = n' * d) : mkT n d = mkT n' d' := mkT_congr (m := 0) hd hd' (by rw [e, Int.mul_zero, Int.add_zero])
/-! addmath: what is added is taken away again; multiples and parts -/
/-! driftmath: what a clock shows, and when -/
theorem shown_cross {a b n t d s : Int} (hb : 0 < b) (ht : 0 < t) (hd : 0 < d) :
    mkT (a * (mkT (s * n) (t * d)).2 + (mkT (s * n) (t * d)).1 * b) (b * (mkT (s * n) (t * d)).2) = mkT (s * n * b + a * (t * d)) (t * d * b) := by
  have h1 := Int.mul_pos ht hd
  rw [mkT_add_r _ _ hb h1]
  refine mkT_cross (Int.mul_pos hb h1) (Int.mul_pos h1 hb) ?_
  grind
theorem shows {a b n d x y t1 t2 w1 w2 : Int} (hb : 0 < b) (hd : 0 < d) (hn : 0 < n) (hy : 0 < y) (ht : low t1 t2) (hw : mkT (t1 * b - a * t2) (t2 * b) = (w1, w2)) (e : x * (w2 * n) = y * (w1 * d)) :
    mkT (x * n * b + a * (y * d)) (y * d * b) = (t1, t2) := by
  have h1 := Int.mul_pos hy hd
  have h2 := Int.mul_pos ht.1 hb
  have hq : 0 < w2 := by have := mkT_pos (t1 * b - a * t2) h2; rw [hw] at this; exact this
  obtain ⟨m, h⟩ := mkT_sp (t1 * b - a * t2) h2
  rw [hw] at h
  dsimp only at h
  rw [← mkT_self ht]
  refine mkT_congr (m := m) (Int.mul_pos h1 hb) ht.1 ?_
  refine Int.eq_of_mul_eq_mul_right (a := w2 * b) (Int.ne_of_gt (Int.mul_pos hq hb)) ?_
  grind
theorem spanOf_val {n d : Int} (h0 : 0 ≤ n) (h1 : n ≤ 4611686018427387904) (d0 : 0 < d) (d1 : d ≤ 4611686018427387904) : Ev (fun k => impl_spanOf.f k n d) (spanT n d) := by
  have g0 := gI_pos (a := n) (show d ≠ 0 by omega)
  have q0 : 0 ≤ d / gI n d := Int.ediv_nonneg (by omega) (by omega)
  have q1 : d / gI n d ≤ d := Int.ediv_le_self _ (by omega)
  have r0 : 0 ≤ n / gI n d := Int.ediv_nonneg (by omega) (by omega)
  have r1 : n / gI n d ≤ n := Int.ediv_le_self _ (by omega)
  unfold impl_spanOf.f
  refine Ev.bind (igcd_val (by omega) (by omega) (by omega) (by omega)) ?_
  simp only [if_neg (show ¬ gI n d = 0 by omega)]
  rw [tdiv_nn _ h0, tdiv_nn _ (by omega), wid (x := d / gI n d) (by omega) (by omega), wid (x := n / gI n d) (by omega) (by omega)]
  refine Ev.bind (IsSpan_val _ _) ?_
  unfold spanT
  by_cases h : isS (n / gI n d) (d / gI n d)
  · simp only [decide_eq_true h, if_true, if_pos h]; exact ⟨0, fun _ _ => rfl⟩
  · simp only [decide_eq_false h, if_neg h]; exact ⟨0, fun _ _ => rfl⟩
/-! agshown: what a clock shows; spans added -/
theorem isT_iff (n : Int) {d : Int} (hd : 0 < d) : isT (mkT n d).1 (mkT n d).2 ↔ (mkT n d).2 ≤ 1000000 := ⟨fun h => h.1.2, fun h => isT_of_low (mkT_low n hd) h⟩
theorem ifTurn_mk (n : Int) {d : Int} (hd : 0 < d) : Ev (fun k => impl_ifTurn.f k (mkT n d).1 (mkT n d).2) (tell (mkT n d)) := by
  unfold impl_ifTurn.f tell
  refine Ev.bind (IsTurn_val _ _) ?_
  by_cases h : (mkT n d).2 > 1000000
  · rw [if_pos h, decide_eq_false (fun x => by have := (isT_iff n hd).1 x; omega)]
    exact ⟨0, fun _ _ => rfl⟩
  · rw [if_neg h, decide_eq_true ((isT_iff n hd).2 (by omega))]
    exact ⟨0, fun _ _ => rfl⟩
/-- What a clock shows, its rate told as num / d. -/
def seenT (a b c d s t num : Int) : Int × Int × Bool := if isC a b c d ∧ isS s t then tell (mkT (s * num * b + a * (t * d)) (t * d * b)) else (0, 0, false)
theorem see_bd {a b c d s t num : Int} (h : isC a b c d) (h' : isS s t) (hn : -1000 ≤ num ∧ num ≤ 1000) : (-1000000000 ≤ s * num ∧ s * num ≤ 1000000000) ∧ (0 < t * d ∧ t * d ≤ 10000000) ∧ (-1000000000000 ≤ s * num * b ∧ s * num * b ≤ 1000000000000) ∧ (-10000000000 ≤ a * (t * d) ∧ a * (t * d) ≤ 10000000000) ∧ (0 < t * d * b ∧ t * d * b ≤ 10000000000) := by
  obtain ⟨h1, h2, h3, h4⟩ := isC_bd h
  obtain ⟨k1, k2⟩ := isS_bd h'
  have m1 := mul_bd (M := 1000000) (N := 1000) (x := s) (y := num) (by omega) (by omega)
  have m2 := mul_bd (M := 10000) (N := 1000) (x := t) (y := d) (by omega) (by omega)
  have m3 := mul_bd (M := 1000000000) (N := 1000) (x := s * num) (y := b) (by omega) (by omega)
  have m4 := mul_bd (M := 1000) (N := 10000000) (x := a) (y := t * d) (by omega) (by omega)
  have m5 := mul_bd (M := 10000000) (N := 1000) (x := t * d) (y := b) (by omega) (by omega)
  have p1 : 0 < t * d := Int.mul_pos (by omega) (by omega)
  exact ⟨by omega, by omega, by omega, by omega, Int.mul_pos p1 (by omega), by omega⟩
theorem see_tail {a b c d s t num : Int} (h : isC a b c d) (h' : isS s t) (hn : -1000 ≤ num ∧ num ≤ 1000) :
    Ev (fun k => (impl_Turn_plus.f k a b (mkT (s * num) (t * d)).1 (mkT (s * num) (t * d)).2).bind fun bt138 => ((impl_ifTurn.f k bt138.1 bt138.2).bind fun bt140 => (some (bt140.1, bt140.2.1, bt140.2.2)))) (tell (mkT (s * num * b + a * (t * d)) (t * d * b))) := by
  obtain ⟨b1, b2, b3, b4, b5⟩ := see_bd h h' hn
  obtain ⟨h1, h2, h3, h4⟩ := isC_bd h
  have L := mkT_low (s * num) b2.1
  have B : (mkT (s * num) (t * d)).2 ≤ t * d := Int.le_of_dvd b2.1 (mkT_dvd _)
  refine Ev.bind (plus_val (by omega) (by omega) (by have := L.2.1; have := L.2.2.1; omega) (by have := L.1; omega)) ?_
  rw [shown_cross (by omega) (by have := isS_bd h'; omega) (by omega)]
  exact Ev.bind (ifTurn_mk _ b5.1) ⟨0, fun _ _ => rfl⟩
theorem iShownAfter_val (a b c d s t : Int) : Ev (fun k => impl_ShownAfter.f k a b c d s t) (seenT a b c d s t c) := by
  have no : Ev (fun k => impl_ShownAfter.j0 k true a b c d s t) (0, 0, false) := Ev.up ⟨0, fun _ _ => rfl⟩
  unfold impl_ShownAfter.f seenT
  refine Ev.bind (IsClock_val a b c d) ?_
  by_cases h1 : isC a b c d
  · simp only [decide_eq_true h1, if_true]
    refine Ev.bind (IsSpan_val s t) ?_
    by_cases h2 : isS s t
    · simp only [decide_eq_true h2, Bool.not_true]
      rw [if_pos ⟨h1, h2⟩]
      obtain ⟨g1, g2, g3, g4⟩ := isC_bd h1
      obtain ⟨b1, b2, b3, b4, b5⟩ := see_bd (num := c) h1 h2 (by omega)
      refine Ev.up ?_
      simp only [impl_ShownAfter.j0, Bool.false_eq_true, if_false, impl_Clock_after.f]
      rw [wid (x := s * c) (by omega) (by omega), wid (x := t * d) (by omega) (by omega)]
      refine Ev.bind (Ev.bind (part_val b2.1 (by omega)) (r := mkT (s * c) (t * d)) ⟨0, fun _ _ => rfl⟩) ?_
      exact see_tail h1 h2 (by omega)
    · simp only [decide_eq_false h2, Bool.not_false]
      rw [if_neg (fun x => h2 x.2)]; exact no
  · simp only [decide_eq_false h1]
    rw [if_neg (fun x => h1 x.1)]; exact no
/-- By how much one clock gains on another one: the upper and the lower number. -/
theorem gain_bd {a b c d a' b' c' d' : Int} (h : isC a b c d) (h' : isC a' b' c' d') : (-1000000 ≤ c * d' ∧ c * d' ≤ 1000000) ∧ (-1000000 ≤ c' * d ∧ c' * d ≤ 1000000) ∧ (-1000000 ≤ d * d' ∧ d * d' ≤ 1000000) ∧ 0 < d * d' ∧ (-1000000 ≤ b * b' ∧ b * b' ≤ 1000000) ∧ 0 < b * b' ∧ (-1000000 ≤ a * b' ∧ a * b' ≤ 1000000) ∧ (-1000000 ≤ a' * b ∧ a' * b ≤ 1000000) := by
  obtain ⟨h1, h2, h3, h4⟩ := isC_bd h
  obtain ⟨k1, k2, k3, k4⟩ := isC_bd h'
  refine ⟨mul_bd (M := 1000) (N := 1000) (by omega) (by omega), mul_bd (M := 1000) (N := 1000) (by omega) (by omega), mul_bd (M := 1000) (N := 1000) (by omega) (by omega), Int.mul_pos (by omega) (by omega), mul_bd (M := 1000) (N := 1000) (by omega) (by omega), Int.mul_pos (by omega) (by omega), mul_bd (M := 1000) (N := 1000) (by omega) (by omega), mul_bd (M := 1000) (N := 1000) (by omega) (by omega)⟩
/-- Behind which span a turn p / q that grows at a rate num / den has come to a whole number. -/
def firstT (p q num den : Int) : Int × Int × Bool := if num = 0 then (0, 0, false) else spanT ((if num > 0 ∨ p = 0 then q - p else p) * den) (q * (num.natAbs : Int))
/-- Behind which span two clocks agree first. -/
def agreeT (a b c d a' b' c' d' : Int) : Int × Int × Bool := if isC a b c d ∧ isC a' b' c' d' then firstT (mkT (a * b' - a' * b) (b * b')).1 (mkT (a * b' - a' * b) (b * b')).2 (c * d' - c' * d) (d * d') else (0, 0, false)
theorem igain_val {a b c d a' b' c' d' : Int} (h : isC a b c d) (h' : isC a' b' c' d') : impl_gain.f a b c d a' b' c' d' = some (c * d' - c' * d, d * d') := by
  obtain ⟨e1, e2, e3, _⟩ := gain_bd h h'
  unfold impl_gain.f
  rw [wid (x := c * d') (by omega) (by omega), wid (x := c' * d) (by omega) (by omega), wid (x := d * d') (by omega) (by omega), wid (x := c * d' - c' * d) (by omega) (by omega)]
/-- Behind which span two clocks that agree agree again. -/
def everyT (a b c d a' b' c' d' : Int) : Int × Int × Bool := if (isC a b c d ∧ isC a' b' c' d') ∧ c * d' - c' * d ≠ 0 then spanT (d * d') ((c * d' - c' * d).natAbs : Int) else (0, 0, false)
theorem gain_any (a b c d a' b' c' d' : Int) : ∃ x y, impl_gain.f a b c d a' b' c' d' = some (x, y) ∧ (isC a b c d ∧ isC a' b' c' d' → x = c * d' - c' * d ∧ y = d * d') := by
  by_cases h : isC a b c d ∧ isC a' b' c' d'
  · exact ⟨_, _, igain_val h.1 h.2, fun _ => ⟨rfl, rfl⟩⟩
  · exact ⟨_, _, rfl, fun x => absurd x h⟩
/-! driftmath2: what the spans told are -/
theorem spanT_yes {n d x y : Int} (h : spanT n d = (x, y, true)) (hd : 0 < d) : isS x y ∧ x * d = y * n := by
  unfold spanT at h
  split at h
  · rename_i hs
    simp only [Prod.mk.injEq, and_true] at h
    obtain ⟨rfl, rfl⟩ := h
    refine ⟨hs, ?_⟩
    obtain ⟨p, hp⟩ := gI_dvd_left n d
    obtain ⟨q, hq⟩ := gI_dvd_right n d
    have hg := gI_pos (a := n) (show d ≠ 0 by omega)
    have e1 : n / gI n d = p := Int.ediv_eq_of_eq_mul_right (by omega) hp
    have e2 : d / gI n d = q := Int.ediv_eq_of_eq_mul_right (by omega) hq
    rw [e1, e2]
    generalize gI n d = g at hp hq
    rw [hp, hq]
    grind
  · simp at h
theorem le_every {b x y p q W z d : Int} (hb : 0 < b) (hz : 0 < z) (hy : 0 < y) (hq : 0 < q) (hd : 0 < d) (hw : W ≤ b) (e : x * (b * z) = y * (W * d)) (e' : p * z = q * d) : x * q ≤ p * y := by
  have h1 : y * q * d * W ≤ y * q * d * b := Int.mul_le_mul_of_nonneg_left hw (Int.le_of_lt (Int.mul_pos (Int.mul_pos hy hq) hd))
  refine Int.le_of_mul_le_mul_right (a := b * z) ?_ (Int.mul_pos hb hz)
  have a1 : x * q * (b * z) = y * q * d * W := by grind
  have a2 : p * y * (b * z) = y * q * d * b := by grind
  rw [a1, a2]; exact h1
theorem before_round {x y w1 w2 c d : Int} (hw : 0 < w2) (hy : 0 < y) (hd : 0 < d) (l : w1 < w2) (e : x * (w2 * c) = y * (w1 * d)) : x * c < y * d := by
  refine Int.lt_of_mul_lt_mul_right (a := w2) ?_ (Int.le_of_lt hw)
  have h1 : y * d * w1 < y * d * w2 := Int.mul_lt_mul_of_pos_left l (Int.mul_pos hy hd)
  have a1 : x * c * w2 = y * d * w1 := by grind
  rw [a1]; exact h1
def addS (a b c d : Int) : Int × Int × Bool := if isS a b ∧ isS c d then spanT (a * d + c * b) (b * d) else (0, 0, false)
theorem iAddSpans_val (a b c d : Int) : Ev (fun k => impl_AddSpans.f k a b c d) (addS a b c d) := by
  unfold impl_AddSpans.f addS
  refine Ev.bind (IsSpan_val a b) ?_
  by_cases h1 : isS a b
  · simp only [decide_eq_true h1, if_true]
    refine Ev.bind (IsSpan_val c d) ?_
    by_cases h2 : isS c d
    · simp only [decide_eq_true h2, if_true]
      rw [if_pos ⟨h1, h2⟩]
      obtain ⟨b1, b2⟩ := isS_bd h1
      obtain ⟨d1, d2⟩ := isS_bd h2
      have m1 := mul_bd (M := 1000000) (N := 10000) (x := a) (y := d) (by omega) (by omega)
      have m2 := mul_bd (M := 1000000) (N := 10000) (x := c) (y := b) (by omega) (by omega)
      have m3 := mul_bd (M := 10000) (N := 10000) (x := b) (y := d) (by omega) (by omega)
      have p1 : 0 ≤ a * d := Int.mul_nonneg (by omega) (by omega)
      have p2 : 0 ≤ c * b := Int.mul_nonneg (by omega) (by omega)
      have p3 : 0 < b * d := Int.mul_pos (by omega) (by omega)
      rw [wid (x := a * d) (by omega) (by omega), wid (x := c * b) (by omega) (by omega), wid (x := a * d + c * b) (by omega) (by omega), wid (x := b * d) (by omega) (by omega)]
      exact Ev.bind (spanOf_val (by omega) (by omega) p3 (by omega)) ⟨0, fun _ _ => rfl⟩
    · simp only [decide_eq_false h2]
      rw [if_neg (fun x => h2 x.2)]; exact ⟨0, fun _ _ => rfl⟩
  · simp only [decide_eq_false h1]
    rw [if_neg (fun x => h1 x.1)]; exact ⟨0, fun _ _ => rfl⟩
theorem seen_of {a b c d s t num x y : Int} (h : isC a b c d) (h' : isS s t) (e : mkT (s * num * b + a * (t * d)) (t * d * b) = (x, y)) (hy : y ≤ 1000000) : seenT a b c d s t num = (x, y, true) := by
  unfold seenT tell
  rw [if_pos ⟨h, h'⟩, e, if_neg (by dsimp only; omega)]
/-- The way back. -/
theorem low_zero {q : Int} (h : low 0 q) : q = 1 := by
  have h1 : gI 0 q = 1 := h.2.2.2
  have h0 := h.1
  unfold gI at h1
  rw [Int.gcd_zero_left] at h1
  omega
theorem low_back {p q : Int} (h : low p q) (hp : p ≠ 0) : low (q - p) q := by
  obtain ⟨q0, p0, pq, hg⟩ := h
  refine ⟨q0, by omega, by omega, ?_⟩
  unfold gI at *
  have e : Int.gcd (q - p) q = Int.gcd p q := by
    rw [Int.gcd_comm, Int.gcd_self_sub_right, Int.gcd_comm]
  rw [e]; exact hg
theorem mirror_low {p q : Int} (h : low p q) : mkT (p * (-1)) q = if p = 0 then (0, 1) else (q - p, q) := by
  by_cases hp : p = 0
  · subst hp
    have := low_zero h
    subst this
    rfl
  · rw [if_neg hp]
    refine mkT_of (m := 1) h.1 (low_back h hp) ?_
    rw [Int.sub_mul, Int.mul_one, ← Int.mul_assoc, Int.mul_neg_one, Int.mul_comm q p]
    omega
/-! agreemath: when two clocks agree, and what readings tell -/
theorem agree_yes {a b c d a' b' c' d' x y : Int} (h : agreeT a b c d a' b' c' d' = (x, y, true)) : (isC a b c d ∧ isC a' b' c' d') ∧ c * d' - c' * d ≠ 0 ∧ isS x y ∧ ∃ p q W, mkT (a * b' - a' * b) (b * b') = (p, q) ∧ low p q ∧ W = (if c * d' - c' * d > 0 ∨ p = 0 then q - p else p) ∧ 0 < W ∧ W ≤ q ∧ spanT (W * (d * d')) (q * ((c * d' - c' * d).natAbs : Int)) = (x, y, true) ∧ x * (q * ((c * d' - c' * d).natAbs : Int)) = y * (W * (d * d')) := by
  unfold agreeT at h
  split at h
  · rename_i hc
    obtain ⟨⟨_, _⟩, ⟨_, _⟩, ⟨_, _⟩, _, _⟩ := isC_bd hc.1
    obtain ⟨⟨_, _⟩, ⟨_, _⟩, ⟨_, _⟩, _, _⟩ := isC_bd hc.2
    have hb : 0 < b * b' := Int.mul_pos (by omega) (by omega)
    have L := mkT_low (a * b' - a' * b) hb
    generalize mkT (a * b' - a' * b) (b * b') = v at h L
    obtain ⟨p, q⟩ := v
    dsimp only at h L
    unfold firstT at h
    split at h
    · simp at h
    · rename_i hz
      have hn : 0 < ((c * d' - c' * d).natAbs : Int) := by omega
      obtain ⟨hs, e⟩ := spanT_yes h (Int.mul_pos L.1 hn)
      have l1 := L.1
      have l2 := L.2.1
      have l3 := L.2.2.1
      refine ⟨hc, hz, hs, p, q, _, rfl, L, rfl, ?_, ?_, h, e⟩
      · split
        · omega
        · rename_i w; have : p ≠ 0 := fun z => w (Or.inr z); omega
      · split <;> omega
  · simp at h
theorem agree_same {a b c d a' b' c' d' x y : Int} (h : agreeT a b c d a' b' c' d' = (x, y, true)) : mkT (x * c * b + a * (y * d)) (y * d * b) = mkT (x * c' * b' + a' * (y * d')) (y * d' * b') := by
  obtain ⟨⟨hc, hc'⟩, hz, hs, p, q, W, hm, L, hW, w0, w1, hsp, e⟩ := agree_yes h
  obtain ⟨⟨_, _⟩, ⟨_, _⟩, ⟨_, _⟩, _, _⟩ := isC_bd hc
  obtain ⟨⟨_, _⟩, ⟨_, _⟩, ⟨_, _⟩, _, _⟩ := isC_bd hc'
  obtain ⟨k1, k2⟩ := isS_bd hs
  have hb : 0 < b * b' := Int.mul_pos (by omega) (by omega)
  obtain ⟨m0, E2⟩ := mkT_sp (a * b' - a' * b) hb
  rw [hm] at E2
  dsimp only at E2
  have l1 := L.1
  obtain ⟨V, m1, E1, E3⟩ : ∃ V m1 : Int, x * (q * (c * d' - c' * d)) = y * (V * (d * d')) ∧ V + p = q * m1 := by
    by_cases g : c * d' - c' * d > 0
    · rw [if_pos (Or.inl g)] at hW
      refine ⟨W, 1, ?_, by omega⟩
      rw [show ((c * d' - c' * d).natAbs : Int) = c * d' - c' * d by omega] at e
      exact e
    · rw [show ((c * d' - c' * d).natAbs : Int) = -(c * d' - c' * d) by omega] at e
      have e' : x * (q * (c * d' - c' * d)) = y * ((-W) * (d * d')) := by
        have : x * (q * -(c * d' - c' * d)) = -(x * (q * (c * d' - c' * d))) := by rw [Int.mul_neg, Int.mul_neg]
        rw [this] at e
        have t : y * ((-W) * (d * d')) = -(y * (W * (d * d'))) := by rw [Int.neg_mul, Int.mul_neg]
        rw [t]
        omega
      by_cases z : p = 0
      · rw [if_pos (Or.inr z)] at hW
        exact ⟨-W, -1, e', by omega⟩
      · rw [if_neg (fun t => t.elim g z)] at hW
        exact ⟨-W, 0, e', by omega⟩
  have d1 : 0 < y * d * b := Int.mul_pos (Int.mul_pos (by omega) (by omega)) (by omega)
  have d2 : 0 < y * d' * b' := Int.mul_pos (Int.mul_pos (by omega) (by omega)) (by omega)
  refine mkT_congr (m := m1 - m0) d1 d2 ?_
  refine Int.eq_of_mul_eq_mul_right (a := q) (by omega) ?_
  clear h hc hc' hz hs hm L hW w0 w1 hsp e
  have A1 : (x * c * b + a * (y * d)) * (y * d' * b') * q - (x * c' * b' + a' * (y * d')) * (y * d * b) * q = y * (b * b') * (x * (q * (c * d' - c' * d))) + y * y * (d * d') * (q * (a * b' - a' * b)) := by grind
  rw [E1, show q * (a * b' - a' * b) = p * (b * b') - q * (b * b') * m0 by omega] at A1
  have A2 : y * (b * b') * (y * (V * (d * d'))) + y * y * (d * d') * (p * (b * b') - q * (b * b') * m0) = y * y * (d * d') * (b * b') * (V + p) - y * y * (d * d') * (b * b') * q * m0 := by grind
  rw [A2, E3] at A1
  have A3 : (y * d * b) * (y * d' * b') * (m1 - m0) * q = y * y * (d * d') * (b * b') * (q * m1) - y * y * (d * d') * (b * b') * q * m0 := by grind
  have A4 : ((x * c' * b' + a' * (y * d')) * (y * d * b) + (y * d * b) * (y * d' * b') * (m1 - m0)) * q = (x * c' * b' + a' * (y * d')) * (y * d * b) * q + (y * d * b) * (y * d' * b') * (m1 - m0) * q := Int.add_mul _ _ _
  rw [A4, A3, ← A1]
  omega
theorem agree_swap {a b c d a' b' c' d' x y : Int} (h : agreeT a b c d a' b' c' d' = (x, y, true)) : agreeT a' b' c' d' a b c d = (x, y, true) := by
  obtain ⟨⟨hc, hc'⟩, hz, hs, p, q, W, hm, L, hW, w0, w1, hsp, e⟩ := agree_yes h
  obtain ⟨⟨_, _⟩, ⟨_, _⟩, ⟨_, _⟩, _, _⟩ := isC_bd hc
  obtain ⟨⟨_, _⟩, ⟨_, _⟩, ⟨_, _⟩, _, _⟩ := isC_bd hc'
  have hb : 0 < b * b' := Int.mul_pos (by omega) (by omega)
  have hm' : mkT (a' * b - a * b') (b' * b) = if p = 0 then (0, 1) else (q - p, q) := by
    rw [← mirror_low L, show a' * b - a * b' = (a * b' - a' * b) * (-1) by omega, Int.mul_comm b' b, ← mkT_mul _ _ hb, hm]
  have hN : c' * d - c * d' = -(c * d' - c' * d) := by omega
  have hA : ((c' * d - c * d').natAbs : Int) = ((c * d' - c' * d).natAbs : Int) := by rw [hN, Int.natAbs_neg]
  unfold agreeT
  rw [if_pos ⟨hc', hc⟩, hm']
  unfold firstT
  rw [if_neg (by omega), hA, Int.mul_comm d' d]
  have l1 := L.1
  have l2 := L.2.1
  have l3 := L.2.2.1
  have key : (if c' * d - c * d' > 0 ∨ (if p = 0 then ((0, 1) : Int × Int) else (q - p, q)).1 = 0 then (if p = 0 then ((0, 1) : Int × Int) else (q - p, q)).2 - (if p = 0 then ((0, 1) : Int × Int) else (q - p, q)).1 else (if p = 0 then ((0, 1) : Int × Int) else (q - p, q)).1) = W ∧ (if p = 0 then ((0, 1) : Int × Int) else (q - p, q)).2 = q := by
    by_cases z : p = 0
    · have q1 : q = 1 := by
        have := L.2.2.2
        rw [z] at this
        unfold gI at this
        rw [Int.gcd_zero_left] at this
        omega
      rw [if_pos z, hW, if_pos (Or.inr z)]
      refine ⟨?_, q1.symm⟩
      rw [if_pos (Or.inr rfl)]
      show (1 : Int) - 0 = q - p
      omega
    · rw [if_neg z, hW]
      refine ⟨?_, rfl⟩
      dsimp only
      by_cases g : c * d' - c' * d > 0
      · rw [if_pos (Or.inl g), if_neg (fun t => t.elim (by omega) (by omega))]
      · rw [if_neg (show ¬ (c * d' - c' * d > 0 ∨ p = 0) from fun t => t.elim g z), if_pos (Or.inl (by omega))]
        omega
  rw [key.1, key.2]
  exact hsp
theorem every_is {a b c d a' b' c' d' x y : Int} (h : everyT a b c d a' b' c' d' = (x, y, true)) : isS x y ∧ x * ((c * d' - c' * d).natAbs : Int) = y * (d * d') := by
  unfold everyT at h
  split at h
  · rename_i hq
    have : 0 < ((c * d' - c' * d).natAbs : Int) := by have := hq.2; omega
    exact spanT_yes h this
  · simp at h
theorem agree_before {a b c d a' b' c' d' x y p q : Int} (h : agreeT a b c d a' b' c' d' = (x, y, true)) (h' : everyT a b c d a' b' c' d' = (p, q, true)) : ¬ wrap64 (x * q) > wrap64 (p * y) := by
  obtain ⟨⟨hc, hc'⟩, hz, hs, u, v, W, hm, L, hW, w0, w1, hsp, e⟩ := agree_yes h
  obtain ⟨hs', e'⟩ := every_is h'
  obtain ⟨⟨_, _⟩, ⟨_, _⟩, ⟨_, _⟩, _, _⟩ := isC_bd hc
  obtain ⟨⟨_, _⟩, ⟨_, _⟩, ⟨_, _⟩, _, _⟩ := isC_bd hc'
  obtain ⟨k1, k2⟩ := isS_bd hs
  obtain ⟨j1, j2⟩ := isS_bd hs'
  have m1 := mul_bd (M := 1000000) (N := 10000) (x := x) (y := q) (by omega) (by omega)
  have m2 := mul_bd (M := 1000000) (N := 10000) (x := p) (y := y) (by omega) (by omega)
  rw [wid (x := x * q) (by omega) (by omega), wid (x := p * y) (by omega) (by omega)]
  have := le_every L.1 (show 0 < ((c * d' - c' * d).natAbs : Int) by omega) (show 0 < y by omega) (show 0 < q by omega) (Int.mul_pos (show 0 < d by omega) (show 0 < d' by omega)) w1 e e'
  omega
theorem agree_pos {a b c d a' b' c' d' x y : Int} (h : agreeT a b c d a' b' c' d' = (x, y, true)) : 1 ≤ x := by
  obtain ⟨⟨hc, hc'⟩, hz, hs, u, v, W, hm, L, hW, w0, w1, hsp, e⟩ := agree_yes h
  obtain ⟨⟨_, _⟩, ⟨_, _⟩, ⟨_, _⟩, _, _⟩ := isC_bd hc
  obtain ⟨⟨_, _⟩, ⟨_, _⟩, ⟨_, _⟩, _, _⟩ := isC_bd hc'
  obtain ⟨k1, k2⟩ := isS_bd hs
  have p1 : 0 < y * (W * (d * d')) := Int.mul_pos (by omega) (Int.mul_pos w0 (Int.mul_pos (by omega) (by omega)))
  rw [← e] at p1
  rcases Int.lt_or_le x 1 with g | g
  · exfalso
    have : x = 0 := by omega
    rw [this, Int.zero_mul] at p1
    omega
  · exact g
theorem l1In_val (a b c : Int) : spec_l1In.f a b c = some (decide (b ≤ a ∧ a ≤ c)) := by
  unfold spec_l1In.f
  by_cases h : a ≥ b
  · have e : (b ≤ a ∧ a ≤ c) ↔ a ≤ c := ⟨fun x => x.2, fun x => ⟨h, x⟩⟩
    rw [if_pos h, decide_eq_decide.mpr e]
  · rw [if_neg h, decide_eq_false (fun x => h x.1)]
theorem drGood_val (a b : Int) : Ev (fun k => spec_drGood.f k a b) (decide (isS a b)) := by
  unfold spec_drGood.f
  simp only [l1In_val, Option.bind_some]
  by_cases h1 : 0 ≤ a ∧ a ≤ 1000000
  · simp only [decide_eq_true h1, if_true]
    by_cases h2 : 1 ≤ b ∧ b ≤ 10000
    · simp only [decide_eq_true h2, if_true]
      refine Ev.bind (diCommon_val h1.1 (by omega)) ⟨0, fun _ _ => ?_⟩
      unfold isS
      rw [show (gI a b == 1) = decide (gI a b = 1) from Bool.eq_iff_iff.mpr (by simp)]
      simp [h1, h2]
    · simp only [decide_eq_false h2]
      exact ⟨0, fun _ _ => by unfold isS; simp [h2]⟩
  · simp only [decide_eq_false h1]
    exact ⟨0, fun _ _ => by unfold isS; simp [h1]⟩
theorem drMake_val {n d : Int} (h0 : 0 ≤ n) (h1 : n ≤ 4611686018427387904) (d0 : 0 < d) (d1 : d ≤ 4611686018427387904) : Ev (fun k => spec_drMake.f k n d) (spanT n d) := by
  have g0 := gI_pos (a := n) (show d ≠ 0 by omega)
  have q0 : 0 ≤ d / gI n d := Int.ediv_nonneg (by omega) (by omega)
  have q1 : d / gI n d ≤ d := Int.ediv_le_self _ (by omega)
  have r0 : 0 ≤ n / gI n d := Int.ediv_nonneg (by omega) (by omega)
  have r1 : n / gI n d ≤ n := Int.ediv_le_self _ (by omega)
  unfold spec_drMake.f
  refine Ev.bind (diCommon_val h0 (by omega)) ?_
  simp only [if_neg (show ¬ gI n d = 0 by omega)]
  rw [tdiv_nn _ h0, tdiv_nn _ (by omega), wid (x := d / gI n d) (by omega) (by omega), wid (x := n / gI n d) (by omega) (by omega)]
  refine Ev.bind (drGood_val _ _) ?_
  unfold spanT
  by_cases h : isS (n / gI n d) (d / gI n d)
  · simp only [decide_eq_true h, if_true, if_pos h]; exact ⟨0, fun _ _ => rfl⟩
  · simp only [decide_eq_false h, if_neg h]; exact ⟨0, fun _ _ => rfl⟩
/-! agreelaws: spans added, compared, common, made; readings; texts -/
theorem sAddSpans_val (a b c d : Int) : Ev (fun k => spec_AddSpans.f k a b c d) (addS a b c d) := by
  unfold spec_AddSpans.f addS
  refine Ev.bind (drGood_val a b) ?_
  by_cases h1 : isS a b
  · simp only [decide_eq_true h1, if_true]
    refine Ev.bind (drGood_val c d) ?_
    by_cases h2 : isS c d
    · simp only [decide_eq_true h2, if_true]
      rw [if_pos ⟨h1, h2⟩]
      obtain ⟨b1, b2⟩ := isS_bd h1
      obtain ⟨d1, d2⟩ := isS_bd h2
      have m1 := mul_bd (M := 1000000) (N := 10000) (x := a) (y := d) (by omega) (by omega)
      have m2 := mul_bd (M := 1000000) (N := 10000) (x := c) (y := b) (by omega) (by omega)
      have m3 := mul_bd (M := 10000) (N := 10000) (x := b) (y := d) (by omega) (by omega)
      have p1 : 0 ≤ a * d := Int.mul_nonneg (by omega) (by omega)
      have p2 : 0 ≤ c * b := Int.mul_nonneg (by omega) (by omega)
      have p3 : 0 < b * d := Int.mul_pos (by omega) (by omega)
      rw [wid (x := a * d) (by omega) (by omega), wid (x := c * b) (by omega) (by omega), wid (x := a * d + c * b) (by omega) (by omega), wid (x := b * d) (by omega) (by omega)]
      exact Ev.bind (drMake_val (by omega) (by omega) p3 (by omega)) ⟨0, fun _ _ => rfl⟩
    · simp only [decide_eq_false h2]
      rw [if_neg (fun x => h2 x.2)]; exact ⟨0, fun _ _ => rfl⟩
  · simp only [decide_eq_false h1]
    rw [if_neg (fun x => h1 x.1)]; exact ⟨0, fun _ _ => rfl⟩
theorem add_fact {a b c d x y : Int} (h : addS a b c d = (x, y, true)) : ∃ X Y, laws_wMore.f a b c d = some (X, Y) ∧ wrap64 (x * Y) = wrap64 (X * y) ∧ isS x y := by
  unfold addS at h
  split at h
  · rename_i hq
    obtain ⟨b1, b2⟩ := isS_bd hq.1
    obtain ⟨d1, d2⟩ := isS_bd hq.2
    have m1 := mul_bd (M := 1000000) (N := 10000) (x := a) (y := d) (by omega) (by omega)
    have m2 := mul_bd (M := 1000000) (N := 10000) (x := c) (y := b) (by omega) (by omega)
    have m3 := mul_bd (M := 10000) (N := 10000) (x := b) (y := d) (by omega) (by omega)
    obtain ⟨hs, e⟩ := spanT_yes h (Int.mul_pos (show 0 < b by omega) (show 0 < d by omega))
    refine ⟨_, _, rfl, ?_, hs⟩
    rw [wid (x := a * d) (by omega) (by omega), wid (x := c * b) (by omega) (by omega), wid (x := a * d + c * b) (by omega) (by omega), wid (x := b * d) (by omega) (by omega), e, Int.mul_comm y]
  · simp at h
/-- How one span stands to another. -/
def cmpS (a b c d : Int) : Int × Bool := if isS a b ∧ isS c d then (if a * d < c * b then -1 else if c * b < a * d then 1 else 0, true) else (0, false)
theorem iCompareSpans_val (a b c d : Int) : Ev (fun k => impl_CompareSpans.f k a b c d) (cmpS a b c d) := by
  unfold impl_CompareSpans.f cmpS
  refine Ev.bind (IsSpan_val a b) ?_
  by_cases h1 : isS a b
  · simp only [decide_eq_true h1, if_true]
    refine Ev.bind (IsSpan_val c d) ?_
    by_cases h2 : isS c d
    · simp only [decide_eq_true h2, if_true]
      rw [if_pos ⟨h1, h2⟩]
      obtain ⟨b1, b2⟩ := isS_bd h1
      obtain ⟨d1, d2⟩ := isS_bd h2
      have m1 := mul_bd (M := 1000000) (N := 10000) (x := a) (y := d) (by omega) (by omega)
      have m2 := mul_bd (M := 1000000) (N := 10000) (x := c) (y := b) (by omega) (by omega)
      rw [wid (x := a * d) (by omega) (by omega), wid (x := c * b) (by omega) (by omega)]
      refine ⟨0, fun _ _ => ?_⟩
      unfold cmp_Compare_int.f cmp_isNaN_int.f
      simp only [Option.bind_some, bne_self_eq_false, Bool.false_eq_true, if_false]
      by_cases c1 : a * d < c * b
      · simp only [if_pos c1, Option.bind_some]
      · by_cases c2 : c * b < a * d
        · simp only [if_neg c1, if_pos c2, if_pos (show a * d > c * b from c2), Option.bind_some]
        · simp only [if_neg c1, if_neg c2, if_neg (show ¬ a * d > c * b from c2), Option.bind_some]
    · simp only [decide_eq_false h2]
      rw [if_neg (show ¬ (isS a b ∧ isS c d) from fun x => h2 x.2)]; exact ⟨0, fun _ _ => rfl⟩
  · simp only [decide_eq_false h1]
    rw [if_neg (show ¬ (isS a b ∧ isS c d) from fun x => h1 x.1)]; exact ⟨0, fun _ _ => rfl⟩
theorem sCompareSpans_val (a b c d : Int) : Ev (fun k => spec_CompareSpans.f k a b c d) (cmpS a b c d) := by
  unfold spec_CompareSpans.f cmpS
  refine Ev.bind (drGood_val a b) ?_
  by_cases h1 : isS a b
  · simp only [decide_eq_true h1, if_true]
    refine Ev.bind (drGood_val c d) ?_
    by_cases h2 : isS c d
    · simp only [decide_eq_true h2, if_true]
      rw [if_pos ⟨h1, h2⟩]
      obtain ⟨b1, b2⟩ := isS_bd h1
      obtain ⟨d1, d2⟩ := isS_bd h2
      have m1 := mul_bd (M := 1000000) (N := 10000) (x := a) (y := d) (by omega) (by omega)
      have m2 := mul_bd (M := 1000000) (N := 10000) (x := c) (y := b) (by omega) (by omega)
      rw [wid (x := a * d) (by omega) (by omega), wid (x := c * b) (by omega) (by omega), wid (x := a * d - c * b) (by omega) (by omega)]
      refine ⟨0, fun _ _ => ?_⟩
      unfold spec_l1Sign.f
      by_cases c1 : a * d < c * b
      · simp only [if_pos c1, if_neg (show ¬ a * d - c * b > 0 by omega), if_pos (show a * d - c * b < 0 by omega), Option.bind_some]
      · by_cases c2 : c * b < a * d
        · simp only [if_neg c1, if_pos c2, if_pos (show a * d - c * b > 0 by omega), Option.bind_some]
        · simp only [if_neg c1, if_neg c2, if_neg (show ¬ a * d - c * b > 0 by omega), if_neg (show ¬ a * d - c * b < 0 by omega), Option.bind_some]
    · simp only [decide_eq_false h2]
      rw [if_neg (show ¬ (isS a b ∧ isS c d) from fun x => h2 x.2)]; exact ⟨0, fun _ _ => rfl⟩
  · simp only [decide_eq_false h1]
    rw [if_neg (show ¬ (isS a b ∧ isS c d) from fun x => h1 x.1)]; exact ⟨0, fun _ _ => rfl⟩
theorem dvd_cop {b a d : Int} (g : Int.gcd b a = 1) (h : b ∣ a * d) : b ∣ d :=
  Int.natAbs_dvd_natAbs.mp (Nat.Coprime.dvd_of_dvd_mul_left (m := a.natAbs) (show Nat.Coprime b.natAbs a.natAbs from g) (by rw [← Int.natAbs_mul]; exact Int.natAbs_dvd_natAbs.mpr h))
theorem frac_ext {a b c d : Int} (hb : 0 < b) (hd : 0 < d) (h1 : gI a b = 1) (h2 : gI c d = 1) (e : a * d = c * b) : a = c ∧ b = d := by
  have g1 : Int.gcd b a = 1 := by unfold gI at h1; rw [Int.gcd_comm]; omega
  have g2 : Int.gcd d c = 1 := by unfold gI at h2; rw [Int.gcd_comm]; omega
  have d1 : b ∣ d := dvd_cop g1 ⟨c, by rw [e, Int.mul_comm]⟩
  have d2 : d ∣ b := dvd_cop g2 ⟨a, by rw [← e, Int.mul_comm]⟩
  have hbd : b = d := Int.dvd_antisymm (by omega) (by omega) d1 d2
  subst hbd
  exact ⟨Int.eq_of_mul_eq_mul_right (by omega) e, rfl⟩
theorem cmp_fact {a b c d s : Int} (h : cmpS a b c d = (s, true)) : cmpS c d a b = (wrap64 (-s), true) ∧ ((s = 0 ∧ a = c ∧ b = d) ∨ (s ≠ 0 ∧ (a ≠ c ∨ b ≠ d))) := by
  unfold cmpS at h ⊢
  split at h
  · rename_i hq
    rw [if_pos (show isS c d ∧ isS a b from ⟨hq.2, hq.1⟩)]
    simp only [Prod.mk.injEq, and_true] at h
    by_cases c1 : a * d < c * b
    · rw [if_pos c1] at h
      subst h
      rw [if_neg (show ¬ c * b < a * d by omega), if_pos c1, wid (by omega) (by omega)]
      refine ⟨rfl, Or.inr ⟨by omega, ?_⟩⟩
      by_cases z : a = c
      · right; intro z2; rw [z, z2] at c1; omega
      · left; exact z
    · rw [if_neg c1] at h
      by_cases c2 : c * b < a * d
      · rw [if_pos c2] at h
        subst h
        rw [if_pos c2, wid (by omega) (by omega)]
        refine ⟨rfl, Or.inr ⟨by omega, ?_⟩⟩
        by_cases z : a = c
        · right; intro z2; rw [z, z2] at c2; omega
        · left; exact z
      · rw [if_neg c2] at h
        subst h
        rw [if_neg c2, if_neg c1, wid (by omega) (by omega)]
        obtain ⟨b1, b2⟩ := isS_bd hq.1
        obtain ⟨d1, d2⟩ := isS_bd hq.2
        obtain ⟨x1, x2⟩ := frac_ext (show 0 < b by omega) (show 0 < d by omega) hq.1.2.2 hq.2.2.2 (by omega)
        exact ⟨rfl, Or.inl ⟨rfl, x1, x2⟩⟩
  · simp at h
theorem wCommon_ev : ∀ (n : Nat) (a b : Int), 0 ≤ a → 0 ≤ b → b.toNat ≤ n → ∀ k, n < k → laws_wCommon.l0 k a b = some (gI a b)
  | 0, a, b, ha, hb, hn, k, hk => by
    obtain ⟨k, rfl⟩ : ∃ m, k = m + 1 := ⟨k - 1, by omega⟩
    have : b = 0 := by omega
    subst this
    simp only [laws_wCommon.l0]
    rw [if_neg (by omega)]
    unfold gI
    rw [Int.gcd_zero_right]; congr 1; omega
  | n + 1, a, b, ha, hb, hn, k, hk => by
    obtain ⟨k, rfl⟩ : ∃ m, k = m + 1 := ⟨k - 1, by omega⟩
    simp only [laws_wCommon.l0]
    by_cases h0 : b = 0
    · subst h0
      rw [if_neg (by omega)]
      unfold gI
      rw [Int.gcd_zero_right]; congr 1; omega
    · have h1 : 0 ≤ Int.tmod a b := by rw [tmod_nn _ ha]; exact Int.emod_nonneg _ h0
      have h2 : Int.tmod a b < b := by rw [tmod_nn _ ha]; exact Int.emod_lt_of_pos _ (by omega)
      rw [if_pos (by omega), if_neg h0, wCommon_ev n b (Int.tmod a b) hb h1 (by omega) k (by omega), gI_tmod]
theorem wCommon_val {a b : Int} (ha : 0 ≤ a) (hb : 0 ≤ b) : Ev (fun k => laws_wCommon.f k a b) (gI a b) :=
  ⟨b.toNat + 1, fun k hk => wCommon_ev b.toNat a b ha hb (Nat.le_refl _) k (by omega)⟩
/-- The span made of two numbers. -/
def makeS (n d : Int) : Int × Int × Bool := if (0 ≤ n ∧ n ≤ 1000000000000) ∧ (1 ≤ d ∧ d ≤ 1000000000000) then spanT n d else (0, 0, false)
theorem iMakeSpan_val (n d : Int) : Ev (fun k => impl_MakeSpan.f k n d) (makeS n d) := by
  unfold impl_MakeSpan.f makeS
  simp only [within_val, Option.bind_some]
  by_cases h1 : 0 ≤ n ∧ n ≤ 1000000000000
  · simp only [decide_eq_true h1, if_true]
    by_cases h2 : 1 ≤ d ∧ d ≤ 1000000000000
    · simp only [decide_eq_true h2, if_true]
      rw [if_pos ⟨h1, h2⟩]
      exact Ev.bind (spanOf_val (by omega) (by omega) (by omega) (by omega)) ⟨0, fun _ _ => rfl⟩
    · simp only [decide_eq_false h2]
      rw [if_neg (fun x => h2 x.2)]; exact ⟨0, fun _ _ => rfl⟩
  · simp only [decide_eq_false h1]
    rw [if_neg (fun x => h1 x.1)]; exact ⟨0, fun _ _ => rfl⟩
theorem sMakeSpan_val (n d : Int) : Ev (fun k => spec_MakeSpan.f k n d) (makeS n d) := by
  unfold spec_MakeSpan.f makeS
  simp only [l1In_val, Option.bind_some]
  by_cases h1 : 0 ≤ n ∧ n ≤ 1000000000000
  · simp only [decide_eq_true h1, if_true]
    by_cases h2 : 1 ≤ d ∧ d ≤ 1000000000000
    · simp only [decide_eq_true h2, if_true]
      rw [if_pos ⟨h1, h2⟩]
      exact Ev.bind (drMake_val (by omega) (by omega) (by omega) (by omega)) ⟨0, fun _ _ => rfl⟩
    · simp only [decide_eq_false h2]
      rw [if_neg (fun x => h2 x.2)]; exact ⟨0, fun _ _ => rfl⟩
  · simp only [decide_eq_false h1]
    rw [if_neg (fun x => h1 x.1)]; exact ⟨0, fun _ _ => rfl⟩
theorem make_fact {n d x y : Int} (h : makeS n d = (x, y, true)) : (0 ≤ n ∧ 0 < d) ∧ gI n d ≠ 0 ∧ wrap64 (x * wrap64 (Int.tdiv d (gI n d))) = wrap64 (wrap64 (Int.tdiv n (gI n d)) * y) := by
  unfold makeS at h
  split at h
  · rename_i hq
    have hd : 0 < d := by omega
    have g0 := gI_pos (a := n) (show d ≠ 0 by omega)
    refine ⟨⟨by omega, hd⟩, by omega, ?_⟩
    unfold spanT at h
    split at h
    · simp only [Prod.mk.injEq, and_true] at h
      obtain ⟨rfl, rfl⟩ := h
      have q0 : 0 ≤ d / gI n d := Int.ediv_nonneg (by omega) (by omega)
      have q1 : d / gI n d ≤ d := Int.ediv_le_self _ (by omega)
      have r0 : 0 ≤ n / gI n d := Int.ediv_nonneg (by omega) (by omega)
      have r1 : n / gI n d ≤ n := Int.ediv_le_self _ (by omega)
      rw [tdiv_nn _ (show 0 ≤ d by omega), tdiv_nn _ (show 0 ≤ n by omega), wid (x := d / gI n d) (by omega) (by omega), wid (x := n / gI n d) (by omega) (by omega)]
    · simp at h
  · simp at h
/-- The span of which both go in a whole number of times. -/
def comS (a b c d : Int) : Int × Int × Bool := if (isS a b ∧ isS c d) ∧ a ≠ 0 ∧ c ≠ 0 then spanT (a / gI a c * c) (gI b d) else (0, 0, false)
theorem com_bd {a b c d : Int} (h : isS a b) (h' : isS c d) (hc : c ≠ 0) : 0 < gI a c ∧ 0 < gI b d ∧ gI b d ≤ 10000 ∧ (0 ≤ a / gI a c ∧ a / gI a c ≤ 1000000) ∧ (0 ≤ a / gI a c * c ∧ a / gI a c * c ≤ 1000000000000) := by
  obtain ⟨b1, b2⟩ := isS_bd h
  obtain ⟨d1, d2⟩ := isS_bd h'
  have g0 := gI_pos (a := a) (show c ≠ 0 by omega)
  have g1 := gI_pos (a := b) (show d ≠ 0 by omega)
  have g2 := gI_le (a := b) (show 0 < d by omega)
  have r0 : 0 ≤ a / gI a c := Int.ediv_nonneg (by omega) (by omega)
  have r1 : a / gI a c ≤ a := Int.ediv_le_self _ (by omega)
  have m := mul_bd (M := 1000000) (N := 1000000) (x := a / gI a c) (y := c) (by omega) (by omega)
  exact ⟨g0, g1, by omega, ⟨r0, by omega⟩, Int.mul_nonneg r0 (by omega), by omega⟩
theorem iCommonSpan_val (a b c d : Int) : Ev (fun k => impl_CommonSpan.f k a b c d) (comS a b c d) := by
  have no : Ev (fun k => impl_CommonSpan.j0 k true a b c d) (0, 0, false) := Ev.up ⟨0, fun _ _ => rfl⟩
  unfold impl_CommonSpan.f comS
  refine Ev.bind (IsSpan_val a b) ?_
  by_cases h1 : isS a b
  · simp only [decide_eq_true h1, if_true]
    refine Ev.bind (IsSpan_val c d) ?_
    by_cases h2 : isS c d
    · simp only [decide_eq_true h2, if_true]
      by_cases ha : a = 0
      · simp only [if_pos ha]
        rw [if_neg (show ¬ ((isS a b ∧ isS c d) ∧ a ≠ 0 ∧ c ≠ 0) from fun x => x.2.1 ha)]; exact no
      · simp only [if_neg ha]
        by_cases hc : c = 0
        · rw [if_neg (show ¬ ((isS a b ∧ isS c d) ∧ a ≠ 0 ∧ c ≠ 0) from fun x => x.2.2 hc), show (c == 0) = true by simpa using hc]; exact no
        · rw [if_pos (show (isS a b ∧ isS c d) ∧ a ≠ 0 ∧ c ≠ 0 from ⟨⟨h1, h2⟩, ha, hc⟩), show (c == 0) = false by simpa using hc]
          obtain ⟨b1, b2⟩ := isS_bd h1
          obtain ⟨d1, d2⟩ := isS_bd h2
          obtain ⟨g0, g1, g2, r, m⟩ := com_bd h1 h2 hc
          have hl : Ev (fun k => impl_lcm.f k a c) (a / gI a c * c) := by
            unfold impl_lcm.f
            refine Ev.bind (igcd_val (by omega) (by omega) (by omega) (by omega)) ⟨0, fun _ _ => ?_⟩
            dsimp only
            rw [if_neg (by omega), tdiv_nn _ (by omega), wid (x := a / gI a c) (by omega) (by omega), wid (x := a / gI a c * c) (by omega) (by omega)]
          refine Ev.up ?_
          simp only [impl_CommonSpan.j0, Bool.false_eq_true, if_false]
          refine Ev.bind hl ?_
          refine Ev.bind (igcd_val (by omega) (by omega) (by omega) (by omega)) ?_
          exact Ev.bind (spanOf_val (by omega) (by omega) (by omega) (by omega)) ⟨0, fun _ _ => rfl⟩
    · simp only [decide_eq_false h2]
      rw [if_neg (show ¬ ((isS a b ∧ isS c d) ∧ a ≠ 0 ∧ c ≠ 0) from fun x => h2 x.1.2)]; exact no
  · simp only [decide_eq_false h1]
    rw [if_neg (show ¬ ((isS a b ∧ isS c d) ∧ a ≠ 0 ∧ c ≠ 0) from fun x => h1 x.1.1)]; exact no
theorem sCommonSpan_val (a b c d : Int) : Ev (fun k => spec_CommonSpan.f k a b c d) (comS a b c d) := by
  have no : Ev (fun k => spec_CommonSpan.j0 k true a b c d) (0, 0, false) := Ev.up ⟨0, fun _ _ => rfl⟩
  unfold spec_CommonSpan.f comS
  refine Ev.bind (drGood_val a b) ?_
  by_cases h1 : isS a b
  · simp only [decide_eq_true h1, if_true]
    refine Ev.bind (drGood_val c d) ?_
    by_cases h2 : isS c d
    · simp only [decide_eq_true h2, if_true]
      by_cases ha : a = 0
      · simp only [if_pos ha]
        rw [if_neg (show ¬ ((isS a b ∧ isS c d) ∧ a ≠ 0 ∧ c ≠ 0) from fun x => x.2.1 ha)]; exact no
      · simp only [if_neg ha]
        by_cases hc : c = 0
        · rw [if_neg (show ¬ ((isS a b ∧ isS c d) ∧ a ≠ 0 ∧ c ≠ 0) from fun x => x.2.2 hc), show (c == 0) = true by simpa using hc]; exact no
        · rw [if_pos (show (isS a b ∧ isS c d) ∧ a ≠ 0 ∧ c ≠ 0 from ⟨⟨h1, h2⟩, ha, hc⟩), show (c == 0) = false by simpa using hc]
          obtain ⟨b1, b2⟩ := isS_bd h1
          obtain ⟨d1, d2⟩ := isS_bd h2
          obtain ⟨g0, g1, g2, r, m⟩ := com_bd h1 h2 hc
          refine Ev.up ?_
          simp only [spec_CommonSpan.j0, Bool.false_eq_true, if_false]
          refine Ev.bind (diCommon_val (by omega) (by omega)) ?_
          simp only [if_neg (show ¬ gI a c = 0 by omega)]
          refine Ev.bind (diCommon_val (show 0 ≤ b by omega) (by omega)) ?_
          rw [tdiv_nn _ (show 0 ≤ a by omega), wid (x := a / gI a c) (by omega) (by omega), wid (x := a / gI a c * c) (by omega) (by omega)]
          exact Ev.bind (drMake_val (by omega) (by omega) (by omega) (by omega)) ⟨0, fun _ _ => rfl⟩
    · simp only [decide_eq_false h2]
      rw [if_neg (show ¬ ((isS a b ∧ isS c d) ∧ a ≠ 0 ∧ c ≠ 0) from fun x => h2 x.1.2)]; exact no
  · simp only [decide_eq_false h1]
    rw [if_neg (show ¬ ((isS a b ∧ isS c d) ∧ a ≠ 0 ∧ c ≠ 0) from fun x => h1 x.1.1)]; exact no
theorem gcd_of_dvd {m n m' n' : Int} (h : Int.gcd m n = 1) (hm : m' ∣ m) (hn : n' ∣ n) : Int.gcd m' n' = 1 := by
  have : Int.gcd m' n' ∣ Int.gcd m n := Int.dvd_gcd (Int.dvd_trans (Int.gcd_dvd_left ..) hm) (Int.dvd_trans (Int.gcd_dvd_right ..) hn)
  rw [h] at this
  exact Nat.dvd_one.mp this
theorem com_fact {a b c d x y : Int} (h : comS a b c d = (x, y, true)) : wrap64 (y * a) ≠ 0 ∧ wrap64 (y * c) ≠ 0 ∧ Int.tmod (wrap64 (x * b)) (wrap64 (y * a)) = 0 ∧ Int.tmod (wrap64 (x * d)) (wrap64 (y * c)) = 0 ∧ (0 ≤ wrap64 (Int.tdiv (wrap64 (x * b)) (wrap64 (y * a))) ∧ 0 ≤ wrap64 (Int.tdiv (wrap64 (x * d)) (wrap64 (y * c)))) ∧ gI (wrap64 (Int.tdiv (wrap64 (x * b)) (wrap64 (y * a)))) (wrap64 (Int.tdiv (wrap64 (x * d)) (wrap64 (y * c)))) = 1 := by
  unfold comS at h
  split at h
  · rename_i hq
    obtain ⟨⟨h1, h2⟩, ha, hc⟩ := hq
    obtain ⟨b1, b2⟩ := isS_bd h1
    obtain ⟨d1, d2⟩ := isS_bd h2
    obtain ⟨g0, g1, g2, r, m⟩ := com_bd h1 h2 hc
    obtain ⟨hs, e⟩ := spanT_yes h g1
    obtain ⟨s1, s2⟩ := isS_bd hs
    obtain ⟨u, hu⟩ := gI_dvd_left a c
    obtain ⟨v, hv⟩ := gI_dvd_right a c
    obtain ⟨p, hp⟩ := gI_dvd_left b d
    obtain ⟨q, hq⟩ := gI_dvd_right b d
    have eu : a / gI a c = u := Int.ediv_eq_of_eq_mul_right (by omega) hu
    have ev : c / gI a c = v := Int.ediv_eq_of_eq_mul_right (by omega) hv
    have ep : b / gI b d = p := Int.ediv_eq_of_eq_mul_right (by omega) hp
    have eq_ : d / gI b d = q := Int.ediv_eq_of_eq_mul_right (by omega) hq
    have cuv : gI u v = 1 := by have := gI_div g0 (a := a) (b := c) rfl; rwa [eu, ev] at this
    have cpq : gI p q = 1 := by have := gI_div g1 (a := b) (b := d) rfl; rwa [ep, eq_] at this
    rw [eu] at e
    have hu0 : 0 < u := by
      rcases Int.lt_or_le 0 u with g | g
      · exact g
      · exfalso
        have : gI a c * u ≤ 0 := Int.mul_nonpos_of_nonneg_of_nonpos (by omega) g
        omega
    have hv0 : 0 < v := by
      rcases Int.lt_or_le 0 v with g | g
      · exact g
      · exfalso
        have : gI a c * v ≤ 0 := Int.mul_nonpos_of_nonneg_of_nonpos (by omega) g
        omega
    have hp0 : 0 < p := by
      rcases Int.lt_or_le 0 p with g | g
      · exact g
      · exfalso
        have : gI b d * p ≤ 0 := Int.mul_nonpos_of_nonneg_of_nonpos (by omega) g
        omega
    have hq0 : 0 < q := by
      rcases Int.lt_or_le 0 q with g | g
      · exact g
      · exfalso
        have : gI b d * q ≤ 0 := Int.mul_nonpos_of_nonneg_of_nonpos (by omega) g
        omega
    have G1 : Int.gcd a b = 1 := by have := h1.2.2; unfold gI at this; omega
    have G2 : Int.gcd c d = 1 := by have := h2.2.2; unfold gI at this; omega
    have cuv' : Int.gcd u v = 1 := by unfold gI at cuv; omega
    have cpq' : Int.gcd p q = 1 := by unfold gI at cpq; omega
    have ua : u ∣ a := ⟨gI a c, by rw [Int.mul_comm]; exact hu⟩
    have vc : v ∣ c := ⟨gI a c, by rw [Int.mul_comm]; exact hv⟩
    have pb : p ∣ b := ⟨gI b d, by rw [Int.mul_comm]; exact hp⟩
    have qd : q ∣ d := ⟨gI b d, by rw [Int.mul_comm]; exact hq⟩
    generalize gI a c = s at *
    generalize gI b d = t at *
    -- common.Num * p.Den, over common.Den * p.Num
    have e1 : x * b = y * a * (v * p) := by rw [hp, hu]; rw [hv] at e; grind
    have e2 : x * d = y * c * (u * q) := by rw [hq]; rw [hv] at e; rw [hv]; grind
    have ya : 0 < y * a := Int.mul_pos (by omega) (by omega)
    have yc : 0 < y * c := Int.mul_pos (by omega) (by omega)
    have w1 := mul_bd (M := 10000) (N := 1000000) (x := y) (y := a) (by omega) (by omega)
    have w2 := mul_bd (M := 10000) (N := 1000000) (x := y) (y := c) (by omega) (by omega)
    have w3 := mul_bd (M := 1000000) (N := 10000) (x := x) (y := b) (by omega) (by omega)
    have w4 := mul_bd (M := 1000000) (N := 10000) (x := x) (y := d) (by omega) (by omega)
    have n1 : 0 ≤ x * b := Int.mul_nonneg (by omega) (by omega)
    have n2 : 0 ≤ x * d := Int.mul_nonneg (by omega) (by omega)
    have t1 : x * b / (y * a) = v * p := Int.ediv_eq_of_eq_mul_right (by omega) e1
    have t2 : x * d / (y * c) = u * q := Int.ediv_eq_of_eq_mul_right (by omega) e2
    have l1 : 0 ≤ x * b / (y * a) := Int.ediv_nonneg n1 (by omega)
    have l2 : x * b / (y * a) ≤ x * b := Int.ediv_le_self _ n1
    have l3 : 0 ≤ x * d / (y * c) := Int.ediv_nonneg n2 (by omega)
    have l4 : x * d / (y * c) ≤ x * d := Int.ediv_le_self _ n2
    rw [wid (x := y * a) (by omega) (by omega), wid (x := y * c) (by omega) (by omega), wid (x := x * b) (by omega) (by omega), wid (x := x * d) (by omega) (by omega), tmod_nn _ n1, tmod_nn _ n2, tdiv_nn _ n1, tdiv_nn _ n2, wid (x := x * b / (y * a)) (by omega) (by omega), wid (x := x * d / (y * c)) (by omega) (by omega)]
    refine ⟨by omega, by omega, by rw [e1, Int.mul_emod_right], by rw [e2, Int.mul_emod_right], ⟨l1, l3⟩, ?_⟩
    rw [t1, t2]
    have c1 : Int.gcd v (u * q) = 1 := by
      have z1 : Int.gcd v q = 1 := gcd_of_dvd G2 vc qd
      have z2 : Int.gcd v u = 1 := by rw [Int.gcd_comm]; exact cuv'
      rw [Int.gcd_mul_right_right_of_gcd_eq_one z2]; exact z1
    have c2 : Int.gcd p (u * q) = 1 := by
      have z1 : Int.gcd p u = 1 := by rw [Int.gcd_comm]; exact gcd_of_dvd G1 ua pb
      rw [Int.gcd_mul_right_right_of_gcd_eq_one z1]; exact cpq'
    have : Int.gcd (v * p) (u * q) = 1 := by
      rw [Int.gcd_comm] at c1 c2 ⊢
      rw [Int.gcd_mul_right_right_of_gcd_eq_one c1]; exact c2
    unfold gI
    omega
  · simp at h
theorem minus_val {a b c d : Int} (ha : -1000000000 ≤ a ∧ a ≤ 1000000000) (hb : 0 < b ∧ b ≤ 1000000000) (hc : -1000000000 ≤ c ∧ c ≤ 1000000000) (hd : 0 < d ∧ d ≤ 1000000000) : Ev (fun k => impl_Turn_minus.f k a b c d) (mkT (a * d - c * b) (b * d)) := by
  have e1 := mul_bd (N := 1000000000) ha (y := d) (by omega)
  have e2 := mul_bd (N := 1000000000) hc (y := b) (by omega)
  have e3 := mul_bd (M := 1000000000) (N := 1000000000) (x := b) (y := d) (by omega) (by omega)
  have e4 : 0 < b * d := Int.mul_pos hb.1 hd.1
  unfold impl_Turn_minus.f
  rw [wid (x := a * d) (by omega) (by omega), wid (x := c * b) (by omega) (by omega), wid (x := b * d) (by omega) (by omega), wid (x := a * d - c * b) (by omega) (by omega)]
  exact Ev.bind (part_val e4 (by omega)) ⟨0, fun _ _ => rfl⟩
theorem diGood_val (a b : Int) : Ev (fun k => spec_diGood.f k a b) (decide (isT a b)) := by
  unfold spec_diGood.f
  simp only [l1In_val, Option.bind_some]
  by_cases h1 : 1 ≤ b ∧ b ≤ 1000000
  · simp only [decide_eq_true h1, if_true]
    rw [wid (x := b - 1) (by omega) (by omega)]
    by_cases h2 : 0 ≤ a ∧ a ≤ b - 1
    · simp only [decide_eq_true h2, if_true]
      refine Ev.bind (diCommon_val h2.1 (by omega)) ?_
      refine ⟨0, fun _ _ => ?_⟩
      unfold isT
      rw [show (gI a b == 1) = decide (gI a b = 1) from Bool.eq_iff_iff.mpr (by simp)]
      simp [h1, h2]
    · simp only [decide_eq_false h2]
      exact ⟨0, fun _ _ => by unfold isT; simp [h2]⟩
  · simp only [decide_eq_false h1]
    exact ⟨0, fun _ _ => by unfold isT; simp [h1]⟩
theorem drClock_val (a b c d : Int) : Ev (fun k => spec_drClock.f k a b c d) (decide (isC a b c d)) := by
  unfold spec_drClock.f
  refine Ev.bind (diGood_val a b) ?_
  by_cases h1 : isT a b
  · simp only [decide_eq_true h1, if_true]
    by_cases h2 : b ≤ 1000
    · simp only [if_pos h2, l1In_val, Option.bind_some]
      by_cases h3 : 1 ≤ c ∧ c ≤ 1000
      · simp only [decide_eq_true h3, if_true]
        by_cases h4 : 1 ≤ d ∧ d ≤ 1000
        · simp only [decide_eq_true h4, if_true]
          refine Ev.bind (diCommon_val (by omega) (by omega)) ⟨0, fun _ _ => ?_⟩
          unfold isC
          rw [show (gI c d == 1) = decide (gI c d = 1) from Bool.eq_iff_iff.mpr (by simp)]
          simp [h1, h2, h3, h4]
        · simp only [decide_eq_false h4]
          exact ⟨0, fun _ _ => by unfold isC; simp [h4]⟩
      · simp only [decide_eq_false h3]
        exact ⟨0, fun _ _ => by unfold isC; simp [h3]⟩
    · simp only [if_neg h2]
      exact ⟨0, fun _ _ => by unfold isC; simp [h2]⟩
  · simp only [decide_eq_false h1]
    exact ⟨0, fun _ _ => by unfold isC; simp [h1]⟩
theorem coprime_mul {p q s t : Int} (h1 : gI p q = 1) (h2 : gI s t = 1) (hp : 0 < p) (hq : 0 < q) (hs : 0 < s) (ht : 0 < t) :
    (p * t) / gI (p * t) (q * s) = p / gI p s * (t / gI t q) ∧ (q * s) / gI (p * t) (q * s) = q / gI t q * (s / gI p s) := by
  have ga := gI_pos (a := p) (show s ≠ 0 by omega)
  have gb := gI_pos (a := t) (show q ≠ 0 by omega)
  obtain ⟨x, hx⟩ := gI_dvd_left p s
  obtain ⟨y, hy⟩ := gI_dvd_right p s
  obtain ⟨u, hu⟩ := gI_dvd_left t q
  obtain ⟨v, hv⟩ := gI_dvd_right t q
  have ex : p / gI p s = x := Int.ediv_eq_of_eq_mul_right (by omega) hx
  have ey : s / gI p s = y := Int.ediv_eq_of_eq_mul_right (by omega) hy
  have eu : t / gI t q = u := Int.ediv_eq_of_eq_mul_right (by omega) hu
  have ev : q / gI t q = v := Int.ediv_eq_of_eq_mul_right (by omega) hv
  have cxy : gI x y = 1 := by have := gI_div ga (a := p) (b := s) rfl; rwa [ex, ey] at this
  have cuv : gI u v = 1 := by have := gI_div gb (a := t) (b := q) rfl; rwa [eu, ev] at this
  rw [ex, ey, eu, ev]
  generalize gI p s = a at *
  generalize gI t q = b at *
  -- all four pairs are coprime
  have dv : ∀ {m n m' n' : Int}, gI m n = 1 → m' ∣ m → n' ∣ n → Int.gcd m' n' = 1 := by
    intro m n m' n' h hm hn
    unfold gI at h
    have h0 : Int.gcd m n = 1 := by omega
    have : Int.gcd m' n' ∣ Int.gcd m n := Int.dvd_gcd (Int.dvd_trans (Int.gcd_dvd_left ..) hm) (Int.dvd_trans (Int.gcd_dvd_right ..) hn)
    rw [h0] at this
    exact Nat.dvd_one.mp this
  have cxv : Int.gcd x v = 1 := dv h1 ⟨a, by rw [hx, Int.mul_comm]⟩ ⟨b, by rw [hv, Int.mul_comm]⟩
  have cyu : Int.gcd y u = 1 := dv h2 ⟨a, by rw [hy, Int.mul_comm]⟩ ⟨b, by rw [hu, Int.mul_comm]⟩
  have cxy' : Int.gcd x y = 1 := by unfold gI at cxy; omega
  have cuv' : Int.gcd u v = 1 := by unfold gI at cuv; omega
  have cm : Int.gcd (x * u) (v * y) = 1 := by
    have c1 : Int.gcd x (v * y) = 1 := by
      rw [Int.gcd_mul_right_right_of_gcd_eq_one cxv]; exact cxy'
    have c2 : Int.gcd u (v * y) = 1 := by
      rw [Int.gcd_mul_right_right_of_gcd_eq_one cuv', Int.gcd_comm]; exact cyu
    rw [Int.gcd_comm] at c1 c2 ⊢
    rw [Int.gcd_mul_right_right_of_gcd_eq_one c1]; exact c2
  have eg : gI (p * t) (q * s) = a * b := by
    have e1 : p * t = a * b * (x * u) := by rw [hx, hu]; ac_rfl
    have e2 : q * s = a * b * (v * y) := by rw [hv, hy]; ac_rfl
    unfold gI
    rw [e1, e2, Int.gcd_mul_left, cm, Nat.mul_one]
    have : 0 < a * b := Int.mul_pos ga gb
    omega
  have pos : a * b ≠ 0 := by have : 0 < a * b := Int.mul_pos ga gb; omega
  rw [eg]
  exact ⟨Int.ediv_eq_of_eq_mul_right pos (by rw [hx, hu]; ac_rfl), Int.ediv_eq_of_eq_mul_right pos (by rw [hv, hy]; ac_rfl)⟩
/-- The clock that shows a / b first, c / d behind s / t. -/
def readT (a b s t c d : Int) : Int × Int × Int × Int × Bool :=
  let p := (mkT (c * b - a * d) (d * b)).1
  let q := (mkT (c * b - a * d) (d * b)).2
  if ((isT a b ∧ isT c d) ∧ isS s t ∧ s ≠ 0) ∧ isC a b ((p * t) / gI (p * t) (q * s)) ((q * s) / gI (p * t) (q * s)) then (a, b, (p * t) / gI (p * t) (q * s), (q * s) / gI (p * t) (q * s), true) else (0, 0, 0, 0, false)
theorem read_bd {a b c d : Int} (h : isT a b) (h' : isT c d) : 0 < d * b ∧ d * b ≤ 1000000000000 ∧ (0 ≤ a * d ∧ a * d < d * b) ∧ (0 ≤ c * b ∧ c * b < d * b) := by
  obtain ⟨⟨_, _⟩, ⟨_, _⟩, _⟩ := h
  obtain ⟨⟨_, _⟩, ⟨_, _⟩, _⟩ := h'
  refine ⟨Int.mul_pos (by omega) (by omega), Int.le_trans (Int.mul_le_mul (show d ≤ 1000000 by omega) (show b ≤ 1000000 by omega) (by omega) (by omega)) (by omega), ⟨Int.mul_nonneg (by omega) (by omega), ?_⟩, ⟨Int.mul_nonneg (by omega) (by omega), ?_⟩⟩
  · rw [Int.mul_comm d b]; exact Int.mul_lt_mul_of_pos_right (by omega) (by omega)
  · exact Int.mul_lt_mul_of_pos_right (by omega) (by omega)
theorem iRead_val (a b s t c d : Int) : Ev (fun k => impl_ClockOfReadings.f k a b s t c d) (readT a b s t c d) := by
  have no : Ev (fun k => impl_ClockOfReadings.j0 k true a b s t c d) (0, 0, 0, 0, false) := Ev.up ⟨0, fun _ _ => rfl⟩
  have hA : impl_areTurns.f [⟨a, b⟩, ⟨c, d⟩] = some (decide (isT a b ∧ isT c d)) := by
    unfold impl_areTurns.f
    simp only [List.all_cons, List.all_nil, Bool.and_true]
    by_cases ha : isT a b <;> by_cases hb : isT c d <;> simp [ha, hb]
  unfold impl_ClockOfReadings.f readT
  simp only [hA, Option.bind_some]
  by_cases h1 : isT a b ∧ isT c d
  · simp only [decide_eq_true h1, if_true]
    refine Ev.bind (IsSpan_val s t) ?_
    by_cases h2 : isS s t
    · simp only [decide_eq_true h2, if_true]
      by_cases h3 : s = 0
      · rw [if_neg (fun x => x.1.2.2 h3), show (s == 0) = true by simpa using h3]; exact no
      · rw [show (s == 0) = false by simpa using h3]
        obtain ⟨r1, r2, r3, r4⟩ := read_bd h1.1 h1.2
        obtain ⟨⟨_, _⟩, ⟨_, _⟩, _⟩ := id h1.1
        obtain ⟨⟨_, _⟩, ⟨_, _⟩, _⟩ := id h1.2
        obtain ⟨b1, b2⟩ := isS_bd h2
        refine Ev.up ?_
        simp only [impl_ClockOfReadings.j0, Bool.false_eq_true, if_false]
        refine Ev.bind (minus_val (by omega) (by omega) (by omega) (by omega)) ?_
        have L := mkT_low (c * b - a * d) r1
        have B : (mkT (c * b - a * d) (d * b)).2 ≤ d * b := Int.le_of_dvd r1 (mkT_dvd _)
        generalize mkT (c * b - a * d) (d * b) = z at L B ⊢
        obtain ⟨p, q⟩ := z
        dsimp only at L B ⊢
        obtain ⟨q0, p0, pq, _⟩ := id L
        have x1 : 0 ≤ p * t := Int.mul_nonneg p0 (by omega)
        have x2 := mul_bd (M := 1000000000000) (N := 10000) (x := p) (y := t) (by omega) (by omega)
        have x3 : 0 < q * s := Int.mul_pos q0 (by omega)
        have x4 := mul_bd (M := 1000000000000) (N := 1000000) (x := q) (y := s) (by omega) (by omega)
        rw [wid (x := p * t) (by omega) (by omega), wid (x := q * s) (by omega) (by omega)]
        have gp := gI_pos (a := p * t) (show q * s ≠ 0 by omega)
        have y1 : p * t / gI (p * t) (q * s) ≤ p * t := Int.ediv_le_self _ x1
        have y0 : 0 ≤ p * t / gI (p * t) (q * s) := Int.ediv_nonneg x1 (by omega)
        have z1 : q * s / gI (p * t) (q * s) ≤ q * s := Int.ediv_le_self _ (by omega)
        have z0 : 0 ≤ q * s / gI (p * t) (q * s) := Int.ediv_nonneg (by omega) (by omega)
        refine Ev.bind (igcd_val (by omega) (by omega) (by omega) (by omega)) ?_
        simp only [if_neg (show ¬ gI (p * t) (q * s) = 0 by omega)]
        rw [tdiv_nn _ x1, tdiv_nn _ (show 0 ≤ q * s by omega), wid (x := p * t / gI (p * t) (q * s)) (by omega) (by omega), wid (x := q * s / gI (p * t) (q * s)) (by omega) (by omega)]
        unfold impl_ifClock.f
        by_cases h4 : isC a b (p * t / gI (p * t) (q * s)) (q * s / gI (p * t) (q * s))
        · rw [if_pos ⟨⟨h1, h2, h3⟩, h4⟩]
          refine Ev.bind (Ev.bind (IsClock_val _ _ _ _) (r := (a, b, p * t / gI (p * t) (q * s), q * s / gI (p * t) (q * s), true)) ?_) ⟨0, fun _ _ => rfl⟩
          simp only [decide_eq_true h4, if_true]; exact ⟨0, fun _ _ => rfl⟩
        · rw [if_neg (fun x => h4 x.2)]
          refine Ev.bind (Ev.bind (IsClock_val _ _ _ _) (r := (0, 0, 0, 0, false)) ?_) ⟨0, fun _ _ => rfl⟩
          simp only [decide_eq_false h4]; exact ⟨0, fun _ _ => rfl⟩
    · simp only [decide_eq_false h2]
      rw [if_neg (fun x => h2 x.1.2.1)]; exact no
  · simp only [decide_eq_false h1]
    rw [if_neg (fun x => h1 x.1.1)]; exact no
theorem le_mul_pos {x y : Int} (hx : 0 ≤ x) (hy : 1 ≤ y) : x ≤ x * y := by
  have := Int.mul_le_mul_of_nonneg_left hy hx
  omega
theorem sRead_val (a b s t c d : Int) : Ev (fun k => spec_ClockOfReadings.f k a b s t c d) (readT a b s t c d) := by
  have no : Ev (fun k => spec_ClockOfReadings.j0 k true a b s t c d) (0, 0, 0, 0, false) := Ev.up ⟨0, fun _ _ => rfl⟩
  unfold spec_ClockOfReadings.f readT
  refine Ev.bind (diGood_val a b) ?_
  by_cases h1 : isT a b
  · simp only [decide_eq_true h1, if_true]
    refine Ev.bind (diGood_val c d) ?_
    by_cases h1' : isT c d
    · simp only [decide_eq_true h1', if_true]
      refine Ev.bind (drGood_val s t) ?_
      by_cases h2 : isS s t
      · simp only [decide_eq_true h2, if_true]
        by_cases h3 : s = 0
        · rw [if_neg (fun x => x.1.2.2 h3), show (s == 0) = true by simpa using h3]; exact no
        · rw [show (s == 0) = false by simpa using h3]
          obtain ⟨r1, r2, r3, r4⟩ := read_bd h1 h1'
          obtain ⟨b1, b2⟩ := isS_bd h2
          have ebd : b * d = d * b := Int.mul_comm _ _
          refine Ev.up ?_
          simp only [spec_ClockOfReadings.j0, Bool.false_eq_true, if_false]
          rw [ebd, wid (x := d * b) (by omega) (by omega), wid (x := c * b) (by omega) (by omega), wid (x := a * d) (by omega) (by omega), wid (x := c * b - a * d) (by omega) (by omega), wid (x := c * b - a * d + d * b) (by omega) (by omega), tmod_nn _ (by omega), Int.add_emod_right]
          simp only [if_neg (show ¬ d * b = 0 by omega)]
          have m0 : 0 ≤ (c * b - a * d) % (d * b) := Int.emod_nonneg _ (by omega)
          have m1 : (c * b - a * d) % (d * b) < d * b := Int.emod_lt_of_pos _ (by omega)
          have gp := gI_pos (a := (c * b - a * d) % (d * b)) (show d * b ≠ 0 by omega)
          have L := mkT_low (c * b - a * d) r1
          have B : (mkT (c * b - a * d) (d * b)).2 ≤ d * b := Int.le_of_dvd r1 (mkT_dvd _)
          have E1 : (mkT (c * b - a * d) (d * b)).1 = (c * b - a * d) % (d * b) / gI ((c * b - a * d) % (d * b)) (d * b) := rfl
          have E2 : (mkT (c * b - a * d) (d * b)).2 = d * b / gI ((c * b - a * d) % (d * b)) (d * b) := rfl
          by_cases h4 : (c * b - a * d) % (d * b) = 0
          · simp only [if_pos h4]
            have hp0 : (mkT (c * b - a * d) (d * b)).1 = 0 := by rw [E1, h4, Int.zero_ediv]
            rw [hp0, if_neg (fun x => by have := (isC_bd x.2).2.2.1; rw [Int.zero_mul, Int.zero_ediv] at this; omega)]
            exact ⟨0, fun _ _ => rfl⟩
          · simp only [if_neg h4]
            refine Ev.bind (diCommon_val m0 (by omega)) ?_
            simp only [if_neg (show ¬ gI ((c * b - a * d) % (d * b)) (d * b) = 0 by omega)]
            have w1 : (c * b - a * d) % (d * b) / gI ((c * b - a * d) % (d * b)) (d * b) ≤ (c * b - a * d) % (d * b) := Int.ediv_le_self _ m0
            rw [tdiv_nn _ m0, tdiv_nn _ (show 0 ≤ d * b by omega), wid (x := (c * b - a * d) % (d * b) / gI ((c * b - a * d) % (d * b)) (d * b)) (by have := L.2.1; omega) (by omega), wid (x := d * b / gI ((c * b - a * d) % (d * b)) (d * b)) (by have := L.1; omega) (by omega), ← E1, ← E2]
            have hp : (mkT (c * b - a * d) (d * b)).1 ≠ 0 := by
              intro h0
              have := mkT_eq (c * b - a * d) r1
              rw [h0, Int.zero_mul] at this
              rcases Int.mul_eq_zero.mp this.symm with h | h
              · have := L.1; omega
              · exact h4 h
            generalize mkT (c * b - a * d) (d * b) = z at L B hp ⊢
            obtain ⟨p, q⟩ := z
            dsimp only at L B hp ⊢
            obtain ⟨q0, p0, pq, cpq⟩ := L
            have ga := gI_pos (a := p) (show s ≠ 0 by omega)
            have gb := gI_pos (a := t) (show q ≠ 0 by omega)
            refine Ev.bind (diCommon_val p0 (by omega)) ?_
            refine Ev.bind (diCommon_val (show 0 ≤ t by omega) (by omega)) ?_
            simp only [if_neg (show ¬ gI p s = 0 by omega), if_neg (show ¬ gI t q = 0 by omega)]
            obtain ⟨c1, c2⟩ := coprime_mul cpq h2.2.2 (by omega) q0 (show 0 < s by omega) (show 0 < t by omega)
            have u0 : 0 ≤ p / gI p s := Int.ediv_nonneg p0 (by omega)
            have u1 : p / gI p s ≤ p := Int.ediv_le_self _ p0
            have v1 : 1 ≤ t / gI t q := Int.ediv_pos_of_pos_of_dvd (show 0 < t by omega) (by omega) (gI_dvd_left t q)
            have v2 : t / gI t q ≤ t := Int.ediv_le_self _ (by omega)
            have s1 : 1 ≤ s / gI p s := Int.ediv_pos_of_pos_of_dvd (show 0 < s by omega) (by omega) (gI_dvd_right p s)
            have s2 : s / gI p s ≤ s := Int.ediv_le_self _ (by omega)
            have q2 : 0 ≤ q / gI t q := Int.ediv_nonneg (by omega) (by omega)
            have q3 : q / gI t q ≤ q := Int.ediv_le_self _ (by omega)
            rw [tdiv_nn _ p0, tdiv_nn _ (show 0 ≤ q by omega), wid (x := p / gI p s) (by omega) (by omega), wid (x := q / gI t q) (by omega) (by omega), c1, c2]
            have J : ∀ f : Bool, Ev (fun k => spec_ClockOfReadings.j1 k p q (gI p s) (gI t q) f a b s t) (if f = true then (0, 0, 0, 0, false) else if isC a b (p / gI p s * (t / gI t q)) (q / gI t q * (s / gI p s)) then (a, b, p / gI p s * (t / gI t q), q / gI t q * (s / gI p s), true) else (0, 0, 0, 0, false)) := by
              intro f
              refine Ev.up ?_
              simp only [spec_ClockOfReadings.j1]
              cases f with
              | true => exact ⟨0, fun _ _ => rfl⟩
              | false =>
                simp only [Bool.false_eq_true, if_false, if_neg (show ¬ gI p s = 0 by omega), if_neg (show ¬ gI t q = 0 by omega)]
                have y1 := mul_bd (M := 1000000000000) (N := 10000) (x := p / gI p s) (y := t / gI t q) (by omega) (by omega)
                have y2 := mul_bd (M := 1000000000000) (N := 1000000) (x := q / gI t q) (y := s / gI p s) (by omega) (by omega)
                rw [tdiv_nn _ p0, tdiv_nn _ (show 0 ≤ q by omega), tdiv_nn _ (show 0 ≤ t by omega), tdiv_nn _ (show 0 ≤ s by omega), wid (x := p / gI p s) (by omega) (by omega), wid (x := q / gI t q) (by omega) (by omega), wid (x := t / gI t q) (by omega) (by omega), wid (x := s / gI p s) (by omega) (by omega), wid (x := p / gI p s * (t / gI t q)) (by omega) (by omega), wid (x := q / gI t q * (s / gI p s)) (by omega) (by omega)]
                refine Ev.bind (drClock_val _ _ _ _) ?_
                by_cases h5 : isC a b (p / gI p s * (t / gI t q)) (q / gI t q * (s / gI p s))
                · simp only [decide_eq_true h5, if_true, if_pos h5]; exact ⟨0, fun _ _ => rfl⟩
                · simp only [decide_eq_false h5, if_neg h5]; exact ⟨0, fun _ _ => rfl⟩
            by_cases h6 : p / gI p s > 1000
            · simp only [if_pos h6]
              have := J true
              rw [if_pos rfl] at this
              rw [if_neg (fun x => by have y := (isC_bd x.2).2.2.1; have := le_mul_pos u0 v1; omega)]
              exact this
            · simp only [if_neg h6]
              by_cases h7 : q / gI t q > 1000
              · have := J (decide (q / gI t q > 1000))
                rw [if_pos (decide_eq_true h7)] at this
                rw [if_neg (fun x => by have y := (isC_bd x.2).2.2.2; have := le_mul_pos q2 s1; omega)]
                exact this
              · have := J (decide (q / gI t q > 1000))
                rw [if_neg (by simpa using h7)] at this
                by_cases h5 : isC a b (p / gI p s * (t / gI t q)) (q / gI t q * (s / gI p s))
                · rw [if_pos h5] at this
                  rw [if_pos ⟨⟨⟨h1, h1'⟩, h2, h3⟩, h5⟩]; exact this
                · rw [if_neg h5] at this
                  rw [if_neg (fun x => h5 x.2)]; exact this
      · simp only [decide_eq_false h2]
        rw [if_neg (fun x => h2 x.1.2.1)]; exact no
    · simp only [decide_eq_false h1']
      rw [if_neg (fun x => h1' x.1.1.2)]; exact no
  · simp only [decide_eq_false h1]
    rw [if_neg (fun x => h1 x.1.1.1)]; exact no
theorem times_val {a b k : Int} (ha : -1000000000 ≤ a ∧ a ≤ 1000000000) (hb : 0 < b ∧ b ≤ 1000000000) (hk : -1000000000 ≤ k ∧ k ≤ 1000000000) : Ev (fun n => impl_Turn_times.f n a b k) (mkT (a * k) b) := by
  have e1 := mul_bd ha hk
  unfold impl_Turn_times.f
  rw [wid (x := a * k) (by omega) (by omega)]
  exact Ev.bind (part_val hb.1 (by omega)) ⟨0, fun _ _ => rfl⟩
theorem mirror_val {a b : Int} (ha : -1000000000 ≤ a ∧ a ≤ 1000000000) (hb : 0 < b ∧ b ≤ 1000000000) : Ev (fun n => impl_Turn_mirror.f n a b) (mkT (a * (-1)) b) := by
  unfold impl_Turn_mirror.f
  exact Ev.bind (times_val ha hb (by omega)) ⟨0, fun _ _ => rfl⟩
theorem way_bd {p q num den : Int} (h : low p q) (hq : q ≤ 1000000) (hn : -2000000 ≤ num ∧ num ≤ 2000000) (h0 : num ≠ 0) (hd : 0 < den ∧ den ≤ 1000000) : (0 ≤ p * den ∧ p * den ≤ 1000000000000) ∧ (0 ≤ (q - p) * den ∧ (q - p) * den ≤ 1000000000000) ∧ (0 < q * (num.natAbs : Int) ∧ q * (num.natAbs : Int) ≤ 2000000000000) := by
  obtain ⟨q0, p0, pq, _⟩ := h
  refine ⟨⟨Int.mul_nonneg p0 (by omega), ?_⟩, ⟨Int.mul_nonneg (by omega) (by omega), ?_⟩, Int.mul_pos q0 (by omega), ?_⟩
  · exact Int.le_trans (Int.mul_le_mul (show p ≤ 1000000 by omega) hd.2 (by omega) (by omega)) (by omega)
  · exact Int.le_trans (Int.mul_le_mul (show q - p ≤ 1000000 by omega) hd.2 (by omega) (by omega)) (by omega)
  · exact Int.le_trans (Int.mul_le_mul hq (show (num.natAbs : Int) ≤ 2000000 by omega) (by omega) (by omega)) (by omega)
theorem ifirst_val (a b c d a' b' c' d' : Int) : Ev (fun k => impl_first.f k a b c d a' b' c' d') (agreeT a b c d a' b' c' d') := by
  obtain ⟨x, y, hg, hxy⟩ := gain_any a b c d a' b' c' d'
  have no : ∀ x y, Ev (fun k => impl_first.j0 k x y true a b c d a' b' c' d') (0, 0, false) := fun x y => Ev.up ⟨0, fun _ _ => rfl⟩
  unfold impl_first.f
  simp only [hg, Option.bind_some]
  refine Ev.bind (IsClock_val a b c d) ?_
  unfold agreeT
  by_cases h1 : isC a b c d
  · simp only [decide_eq_true h1, if_true]
    refine Ev.bind (IsClock_val a' b' c' d') ?_
    by_cases h2 : isC a' b' c' d'
    · simp only [decide_eq_true h2, if_true]
      obtain ⟨rfl, rfl⟩ := hxy ⟨h1, h2⟩
      simp only [if_pos (show isC a b c d ∧ isC a' b' c' d' from ⟨h1, h2⟩)]
      unfold firstT
      by_cases h3 : c * d' - c' * d = 0
      · simp only [if_pos h3]
        rw [show (c * d' - c' * d == 0) = true by simpa using h3]
        exact no _ _
      · simp only [if_neg h3]
        rw [show (c * d' - c' * d == 0) = false by simpa using h3]
        obtain ⟨e1, e2, e3, e4, e5, e6, e7, e8⟩ := gain_bd h1 h2
        obtain ⟨g1, g2, g3, g4⟩ := isC_bd h1
        obtain ⟨k1, k2, k3, k4⟩ := isC_bd h2
        have L := mkT_low (a * b' - a' * b) e6
        have B : (mkT (a * b' - a' * b) (b * b')).2 ≤ b * b' := Int.le_of_dvd e6 (mkT_dvd _)
        have hm := minus_val (a := a) (b := b) (c := a') (d := b') (by omega) (by omega) (by omega) (by omega)
        generalize hT : mkT (a * b' - a' * b) (b * b') = t at L B hm
        obtain ⟨p, q⟩ := t
        dsimp only at L B ⊢
        have nb : -2000000 ≤ c * d' - c' * d ∧ c * d' - c' * d ≤ 2000000 := by omega
        generalize c * d' - c' * d = num at *
        generalize d * d' = den at *
        have W := way_bd L (by omega) (num := num) (by omega) h3 (den := den) (by omega)
        obtain ⟨q0, p0, pq, _⟩ := id L
        refine Ev.up ?_
        simp only [impl_first.j0, Bool.false_eq_true, if_false]
        refine Ev.bind hm ?_
        dsimp only
        rw [mx_abs (a := num) (by omega) (by omega)]
        by_cases h4 : num > 0
        · simp only [if_pos h4, if_pos (show num > 0 ∨ p = 0 from Or.inl h4)]
          refine Ev.bind (mirror_val (by omega) (by omega)) ?_
          rw [mirror_low L]
          by_cases hp : p = 0
          · subst hp
            have := low_zero L
            subst this
            simp only [if_true, Int.one_mul, Int.sub_zero]
            rw [wid (x := den) (by omega) (by omega), wid (x := (num.natAbs : Int)) (by omega) (by omega)]
            exact Ev.bind (spanOf_val (by omega) (by omega) (by omega) (by omega)) ⟨0, fun _ _ => rfl⟩
          · simp only [if_neg hp, if_neg (show ¬ q - p = 0 by omega)]
            rw [wid (x := (q - p) * den) (by omega) (by omega), wid (x := q * (num.natAbs : Int)) (by omega) (by omega)]
            exact Ev.bind (spanOf_val (by omega) (by omega) (by omega) (by omega)) ⟨0, fun _ _ => rfl⟩
        · simp only [if_neg h4]
          by_cases hp : p = 0
          · subst hp
            have := low_zero L
            subst this
            simp only [if_true, Int.one_mul, Int.sub_zero, or_true]
            rw [wid (x := den) (by omega) (by omega), wid (x := (num.natAbs : Int)) (by omega) (by omega)]
            exact Ev.bind (spanOf_val (by omega) (by omega) (by omega) (by omega)) ⟨0, fun _ _ => rfl⟩
          · simp only [if_neg hp, if_neg (show ¬ (num > 0 ∨ p = 0) by omega)]
            rw [wid (x := p * den) (by omega) (by omega), wid (x := q * (num.natAbs : Int)) (by omega) (by omega)]
            exact Ev.bind (spanOf_val (by omega) (by omega) (by omega) (by omega)) ⟨0, fun _ _ => rfl⟩
    · simp only [decide_eq_false h2]
      rw [if_neg (fun x => h2 x.2)]; exact no _ _
  · simp only [decide_eq_false h1]
    rw [if_neg (fun x => h1 x.1)]; exact no _ _
theorem l1Abs_val {x : Int} (h0 : -4611686018427387904 ≤ x) (h1 : x ≤ 4611686018427387904) : spec_l1Abs.f x = some (x.natAbs : Int) := by
  unfold spec_l1Abs.f spec_l1Most.f
  rw [wid (x := -x) (by omega) (by omega)]
  by_cases h : x > -x
  · rw [if_pos h]; simp only [Option.bind_some]; congr 1; omega
  · rw [if_neg h]; simp only [Option.bind_some]; congr 1; omega
theorem way_bd2 {p q num den : Int} (h : low p q) (hq : q ≤ 1000000000) (hn : -2000000 ≤ num ∧ num ≤ 2000000) (h0 : num ≠ 0) (hd : 0 < den ∧ den ≤ 1000000) : (0 ≤ p * den ∧ p * den ≤ 1000000000000000) ∧ (0 ≤ (q - p) * den ∧ (q - p) * den ≤ 1000000000000000) ∧ (0 < q * (num.natAbs : Int) ∧ q * (num.natAbs : Int) ≤ 2000000000000000) := by
  obtain ⟨q0, p0, pq, _⟩ := h
  refine ⟨⟨Int.mul_nonneg p0 (by omega), ?_⟩, ⟨Int.mul_nonneg (by omega) (by omega), ?_⟩, Int.mul_pos q0 (by omega), ?_⟩
  · exact Int.le_trans (Int.mul_le_mul (show p ≤ 1000000000 by omega) hd.2 (by omega) (by omega)) (by omega)
  · exact Int.le_trans (Int.mul_le_mul (show q - p ≤ 1000000000 by omega) hd.2 (by omega) (by omega)) (by omega)
  · exact Int.le_trans (Int.mul_le_mul hq (show (num.natAbs : Int) ≤ 2000000 by omega) (by omega) (by omega)) (by omega)
/-- The same, told of now too. -/
theorem drFirst_val {p q num den : Int} (now : Bool) (h : low p q) (hq : q ≤ 1000000000) (hn : -2000000 ≤ num ∧ num ≤ 2000000) (hd : 0 < den ∧ den ≤ 1000000) : Ev (fun k => spec_drFirst.f k p q num den now) (if p = 0 ∧ now = true then (0, 1, true) else firstT p q num den) := by
  have J1 : ∀ b : Bool, num ≠ 0 → Ev (fun k => spec_drFirst.j1 k num den p b p q) (spanT ((if b = true then q - p else p) * den) (q * (num.natAbs : Int))) := by
    intro b h0
    have W := way_bd2 h hq hn h0 hd
    obtain ⟨q0, p0, pq, _⟩ := id h
    refine Ev.up ?_
    simp only [spec_drFirst.j1]
    rw [l1Abs_val (by omega) (by omega)]
    simp only [Option.bind_some]
    rw [wid (x := q * (num.natAbs : Int)) (by omega) (by omega), wid (x := p * den) (by omega) (by omega), wid (x := q - p) (by omega) (by omega), wid (x := (q - p) * den) (by omega) (by omega)]
    cases b with
    | true => simp only [if_true]; exact Ev.bind (drMake_val (by omega) (by omega) (by omega) (by omega)) ⟨0, fun _ _ => rfl⟩
    | false => simp only [Bool.false_eq_true, if_false]; exact Ev.bind (drMake_val (by omega) (by omega) (by omega) (by omega)) ⟨0, fun _ _ => rfl⟩
  have J0 : Ev (fun k => spec_drFirst.j0 k num den false p q) (firstT p q num den) := by
    refine Ev.up ?_
    simp only [spec_drFirst.j0, Bool.false_eq_true, if_false]
    unfold firstT
    by_cases h0 : num = 0
    · simp only [if_pos h0]; exact ⟨0, fun _ _ => rfl⟩
    · simp only [if_neg h0]
      by_cases h4 : num > 0
      · simp only [if_pos h4, if_pos (show num > 0 ∨ p = 0 from Or.inl h4)]
        have := J1 true h0
        simpa using this
      · simp only [if_neg h4]
        have := J1 (p == 0) h0
        by_cases hp : p = 0
        · simpa [hp] using this
        · simpa [hp, h4] using this
  unfold spec_drFirst.f
  by_cases hp : p = 0
  · simp only [if_pos hp]
    cases now with
    | true => rw [if_pos ⟨hp, rfl⟩]; exact Ev.up ⟨0, fun _ _ => rfl⟩
    | false => rw [if_neg (by simp)]; exact J0
  · simp only [if_neg hp]; rw [if_neg (fun x => hp x.1)]; exact J0
theorem diAdd_val {a b c d k : Int} (ha : -1000000000 ≤ a ∧ a ≤ 1000000000) (hb : 0 < b ∧ b ≤ 1000000000) (hc : -1000000 ≤ c ∧ c ≤ 1000000) (hk : -1000 ≤ k ∧ k ≤ 1000) (hd : 0 < d ∧ d ≤ 1000000000) : Ev (fun n => spec_diAdd.f n a b c d k) (tell (mkT (a * d + k * c * b) (b * d))) := by
  have e1 := mul_bd (N := 1000000000) ha (y := d) (by omega)
  have e5 := mul_bd (M := 1000) (N := 1000000) (x := k) (y := c) hk hc
  have e2 := mul_bd (M := 1000000000) (N := 1000000000) (x := k * c) (y := b) (by omega) (by omega)
  have e3 := mul_bd (M := 1000000000) (N := 1000000000) (x := b) (y := d) (by omega) (by omega)
  have e4 : 0 < b * d := Int.mul_pos hb.1 hd.1
  unfold spec_diAdd.f
  rw [wid (x := k * c) (by omega) (by omega), wid (x := a * d) (by omega) (by omega), wid (x := k * c * b) (by omega) (by omega), wid (x := b * d) (by omega) (by omega), wid (x := a * d + k * c * b) (by omega) (by omega)]
  exact Ev.bind (diMake_val e4 (by omega)) ⟨0, fun _ _ => rfl⟩
theorem mkT_small (n : Int) {d : Int} (hd : 0 < d) : (mkT n d).2 ≤ d := Int.le_of_dvd hd (mkT_dvd n)
theorem tell_small (n : Int) {d : Int} (hd : 0 < d) (h : d ≤ 1000000) : tell (mkT n d) = ((mkT n d).1, (mkT n d).2, true) := by
  have := mkT_small n hd
  unfold tell
  rw [if_neg (by omega)]
theorem drApart_val {a b c d a' b' c' d' : Int} (h : isC a b c d) (h' : isC a' b' c' d') : Ev (fun k => spec_drApart.f k a b c d a' b' c' d') ((mkT (a * b' - a' * b) (b * b')).1, (mkT (a * b' - a' * b) (b * b')).2, c * d' - c' * d, d * d') := by
  obtain ⟨e1, e2, e3, e4, e5, e6, _⟩ := gain_bd h h'
  obtain ⟨h1, h2, h3, h4⟩ := isC_bd h
  obtain ⟨k1, k2, k3, k4⟩ := isC_bd h'
  unfold spec_drApart.f
  rw [wid (x := c * d') (by omega) (by omega), wid (x := c' * d) (by omega) (by omega), wid (x := d * d') (by omega) (by omega), wid (x := c * d' - c' * d) (by omega) (by omega)]
  refine Ev.bind (diAdd_val (by omega) (by omega) (by omega) (by omega) (by omega)) ⟨0, fun _ _ => ?_⟩
  have e : a * b' + -1 * a' * b = a * b' - a' * b := by rw [Int.neg_one_mul, Int.neg_mul]; omega
  rw [e, tell_small _ e6 (by omega)]
theorem sFirstAgree_val (a b c d a' b' c' d' : Int) : Ev (fun k => spec_FirstAgree.f k a b c d a' b' c' d') (agreeT a b c d a' b' c' d') := by
  have no : Ev (fun k => spec_FirstAgree.j0 k true a b c d a' b' c' d') (0, 0, false) := Ev.up ⟨0, fun _ _ => rfl⟩
  unfold spec_FirstAgree.f agreeT
  refine Ev.bind (drClock_val a b c d) ?_
  by_cases h1 : isC a b c d
  · simp only [decide_eq_true h1, if_true]
    refine Ev.bind (drClock_val a' b' c' d') ?_
    by_cases h2 : isC a' b' c' d'
    · simp only [decide_eq_true h2, Bool.not_true]
      simp only [if_pos (show isC a b c d ∧ isC a' b' c' d' from ⟨h1, h2⟩)]
      refine Ev.up ?_
      simp only [spec_FirstAgree.j0, Bool.false_eq_true, if_false]
      refine Ev.bind (drApart_val h1 h2) ?_
      dsimp only
      obtain ⟨e1, e2, e3, e4, e5, e6, e7, e8⟩ := gain_bd h1 h2
      have L := mkT_low (a * b' - a' * b) e6
      have B : (mkT (a * b' - a' * b) (b * b')).2 ≤ b * b' := Int.le_of_dvd e6 (mkT_dvd _)
      have := drFirst_val (num := c * d' - c' * d) (den := d * d') false L (by omega) (by omega) (by omega)
      simp only [Bool.false_eq_true, and_false, if_false] at this
      exact Ev.bind this ⟨0, fun _ _ => rfl⟩
    · simp only [decide_eq_false h2, Bool.not_false]
      rw [if_neg (fun x => h2 x.2)]; exact no
  · simp only [decide_eq_false h1]
    rw [if_neg (fun x => h1 x.1)]; exact no
theorem ievery_val (a b c d a' b' c' d' : Int) : Ev (fun k => impl_every.f k a b c d a' b' c' d') (everyT a b c d a' b' c' d') := by
  obtain ⟨x, y, hg, hxy⟩ := gain_any a b c d a' b' c' d'
  unfold impl_every.f
  simp only [hg, Option.bind_some]
  refine Ev.bind (IsClock_val a b c d) ?_
  unfold everyT
  by_cases h1 : isC a b c d
  · simp only [decide_eq_true h1, if_true]
    refine Ev.bind (IsClock_val a' b' c' d') ?_
    by_cases h2 : isC a' b' c' d'
    · simp only [decide_eq_true h2, if_true]
      obtain ⟨rfl, rfl⟩ := hxy ⟨h1, h2⟩
      by_cases h3 : c * d' - c' * d = 0
      · simp only [if_pos h3, if_neg (show ¬ ((isC a b c d ∧ isC a' b' c' d') ∧ c * d' - c' * d ≠ 0) from fun x => x.2 h3)]; exact ⟨0, fun _ _ => rfl⟩
      · obtain ⟨e1, e2, e3, e4, _⟩ := gain_bd h1 h2
        simp only [if_neg h3, if_pos (show (isC a b c d ∧ isC a' b' c' d') ∧ c * d' - c' * d ≠ 0 from ⟨⟨h1, h2⟩, h3⟩)]
        rw [mx_abs (by omega) (by omega)]
        exact Ev.bind (spanOf_val (by omega) (by omega) (by omega) (by omega)) ⟨0, fun _ _ => rfl⟩
    · simp only [decide_eq_false h2]
      rw [if_neg (fun x => h2 x.1.2)]; exact ⟨0, fun _ _ => rfl⟩
  · simp only [decide_eq_false h1]
    rw [if_neg (fun x => h1 x.1.1)]; exact ⟨0, fun _ _ => rfl⟩
theorem sAgreeEvery_val (a b c d a' b' c' d' : Int) : Ev (fun k => spec_AgreeEvery.f k a b c d a' b' c' d') (everyT a b c d a' b' c' d') := by
  have no : Ev (fun k => spec_AgreeEvery.j0 k true a b c d a' b' c' d') (0, 0, false) := Ev.up ⟨0, fun _ _ => rfl⟩
  unfold spec_AgreeEvery.f everyT
  refine Ev.bind (drClock_val a b c d) ?_
  by_cases h1 : isC a b c d
  · simp only [decide_eq_true h1, if_true]
    refine Ev.bind (drClock_val a' b' c' d') ?_
    by_cases h2 : isC a' b' c' d'
    · simp only [decide_eq_true h2, Bool.not_true]
      refine Ev.up ?_
      simp only [spec_AgreeEvery.j0, Bool.false_eq_true, if_false]
      refine Ev.bind (drApart_val h1 h2) ?_
      dsimp only
      by_cases h3 : c * d' - c' * d = 0
      · simp only [if_pos h3, if_neg (show ¬ ((isC a b c d ∧ isC a' b' c' d') ∧ c * d' - c' * d ≠ 0) from fun x => x.2 h3)]; exact ⟨0, fun _ _ => rfl⟩
      · obtain ⟨e1, e2, e3, e4, _⟩ := gain_bd h1 h2
        simp only [if_neg h3, if_pos (show (isC a b c d ∧ isC a' b' c' d') ∧ c * d' - c' * d ≠ 0 from ⟨⟨h1, h2⟩, h3⟩)]
        rw [l1Abs_val (by omega) (by omega)]
        simp only [Option.bind_some]
        exact Ev.bind (drMake_val (by omega) (by omega) (by omega) (by omega)) ⟨0, fun _ _ => rfl⟩
    · simp only [decide_eq_false h2, Bool.not_false]
      rw [if_neg (fun x => h2 x.1.2)]; exact no
  · simp only [decide_eq_false h1]
    rw [if_neg (fun x => h1 x.1.1)]; exact no
/-! l1num: the reference's numeral is the library's -/
theorem bytes_app (xs ys : List UInt8) : (⟨xs.toArray⟩ : ByteArray) ++ (⟨ys.toArray⟩ : ByteArray) = ⟨(xs ++ ys).toArray⟩ := by
  apply ByteArray.ext
  simp [ByteArray.data_append]
theorem bytes_size (xs : List UInt8) : (⟨xs.toArray⟩ : ByteArray).size = xs.length := by simp [ByteArray.size]
theorem strOf1 (x : Int) : strOfNums [x] = ⟨[UInt8.ofNat x.toNat].toArray⟩ := rfl
theorem l1Num_val : ∀ (d n : Nat), n < 10 ^ d → 1 ≤ d → d ≤ 18 → ∀ k, d ≤ k → spec_l1Num.f k (n : Int) = some (⟨(Go.Lib.itoa (n : Int)).toArray⟩ : ByteArray)
  | 0, n, h, h1, _, k, hk => by omega
  | d + 1, n, h, h1, hd, k, hk => by
    obtain ⟨k, rfl⟩ : ∃ m, k = m + 1 := ⟨k - 1, by omega⟩
    simp only [spec_l1Num.f]
    rw [Go.Lib.itoa_nonneg, Go.Lib.decDigits]
    have hp : (10 : Nat) ^ (d + 1) ≤ 10 ^ 18 := Nat.pow_le_pow_right (by omega) hd
    have hp2 : (10 : Nat) ^ 18 = 1000000000000000000 := by decide
    by_cases c : n < 10
    · rw [if_pos (show (n : Int) < 10 by omega), dif_pos c, wid (x := 48 + (n : Int)) (by omega) (by omega), show (48 + (n : Int)) % 256 = ((48 + n : Nat) : Int) by omega, strOf1]
      rfl
    · have hd1 : 1 ≤ d := by
        rcases Nat.eq_zero_or_pos d with rfl | h0
        · simp at h; omega
        · exact h0
      have hn : n / 10 < 10 ^ d := by rw [Nat.pow_succ] at h; omega
      have hr := l1Num_val d (n / 10) hn hd1 (by omega) k (by omega)
      rw [Go.Lib.itoa_nonneg] at hr
      rw [if_neg (show ¬ (n : Int) < 10 by omega), dif_neg c, tdiv_nn _ (by omega), tmod_nn _ (by omega), wid (x := (n : Int) / 10) (by omega) (by omega), wid (x := 48 + (n : Int) % 10) (by omega) (by omega), show (n : Int) / 10 = ((n / 10 : Nat) : Int) by omega, hr, show (48 + (n : Int) % 10) % 256 = ((48 + n % 10 : Nat) : Int) by omega]
      simp only [Option.bind_some]
      have hl := Go.Lib.itoa_length_le ((n / 10 : Nat) : Int) (by omega) (by omega)
      rw [Go.Lib.itoa_nonneg] at hl
      rw [strOf1, bytes_size, bytes_size, if_pos (by simp; omega), bytes_app, Int.toNat_natCast]
/-! numeral: decimal numerals as lists of bytes -/
def isDig (c : UInt8) : Prop := 48 ≤ c.toNat ∧ c.toNat ≤ 57
instance (c : UInt8) : Decidable (isDig c) := by unfold isDig; exact inferInstance
def dv (a : Nat) (l : List UInt8) : Nat := l.foldl (fun a c => 10 * a + (c.toNat - 48)) a
theorem dv_nil (a : Nat) : dv a [] = a := by unfold dv; exact List.foldl_nil
theorem dv_cons (a : Nat) (c : UInt8) (r : List UInt8) : dv a (c :: r) = dv (10 * a + (c.toNat - 48)) r := by unfold dv; exact List.foldl_cons ..
theorem dv_one (a : Nat) (c : UInt8) : dv a [c] = 10 * a + (c.toNat - 48) := by rw [dv_cons, dv_nil]
theorem dv_snoc (l : List UInt8) (c : UInt8) (a : Nat) : dv a (l ++ [c]) = 10 * dv a l + (c.toNat - 48) := by unfold dv; rw [List.foldl_append, List.foldl_cons, List.foldl_nil]
structure Canon (l : List UInt8) : Prop where
  ne : l ≠ []
  dig : ∀ c ∈ l, isDig c
  lead : l.head? = some 48 → l.length = 1
theorem of48 {n : Nat} (h : n < 10) : (UInt8.ofNat (48 + n)).toNat = 48 + n := by
  rw [UInt8.toNat_ofNat']; omega
theorem dec_canon : ∀ n : Nat, Canon (Go.Lib.decDigits n) ∧ dv 0 (Go.Lib.decDigits n) = n := by
  intro n
  induction n using Nat.strongRecOn with
  | _ n ih =>
    rw [Go.Lib.decDigits]
    by_cases c : n < 10
    · rw [dif_pos c]
      refine ⟨⟨by simp, fun x hx => ?_, fun _ => rfl⟩, ?_⟩
      · rw [List.mem_singleton] at hx; subst hx; unfold isDig; rw [of48 c]; omega
      · rw [dv_one, of48 c]; omega
    · rw [dif_neg c]
      obtain ⟨h1, h2⟩ := ih (n / 10) (by omega)
      have e10 := of48 (n := n % 10) (by omega)
      refine ⟨⟨by simp, fun x hx => ?_, fun hh => ?_⟩, ?_⟩
      · rcases List.mem_append.1 hx with hx | hx
        · exact h1.dig x hx
        · rw [List.mem_singleton] at hx; subst hx; unfold isDig; rw [e10]; omega
      · exfalso
        rw [List.head?_append] at hh
        cases hd : (Go.Lib.decDigits (n / 10)).head? with
        | none => exact h1.ne (by simpa using hd)
        | some y =>
          rw [hd] at hh
          simp at hh
          subst hh
          have hl := h1.lead hd
          obtain ⟨z, hz⟩ := List.length_eq_one_iff.1 hl
          rw [hz] at hd h2
          have hz2 : z = 48 := by simpa using hd
          subst hz2
          have e0 : dv 0 [(48 : UInt8)] = 0 := by rw [dv_one]; rfl
          omega
      · rw [dv_snoc, h2, e10]; omega
theorem canon_dec : ∀ (k : Nat) (l : List UInt8), l.length = k → Canon l → Go.Lib.decDigits (dv 0 l) = l := by
  intro k
  induction k with
  | zero => intro l hl h; exact absurd (List.eq_nil_of_length_eq_zero hl) h.ne
  | succ k ih =>
    intro l hl h
    obtain ⟨m, c, rfl⟩ : ∃ m c, l = m ++ [c] := ⟨l.dropLast, l.getLast h.ne, (List.dropLast_concat_getLast h.ne).symm⟩
    have hc : isDig c := h.dig c (by simp)
    unfold isDig at hc
    have ec : UInt8.ofNat (48 + (c.toNat - 48)) = c := by rw [show 48 + (c.toNat - 48) = c.toNat by omega]; simp
    rw [dv_snoc, Go.Lib.decDigits]
    cases m with
    | nil =>
      have e0 : dv 0 [] = 0 := dv_nil 0
      rw [e0, dif_pos (by omega), show 48 + (10 * 0 + (c.toNat - 48)) = 48 + (c.toNat - 48) by omega, ec]
      rfl
    | cons x m =>
      have hm : Canon (x :: m) := ⟨by simp, fun y hy => h.dig y (List.mem_append_left _ hy), fun e => absurd (h.lead (by simpa using e)) (by simp)⟩
      have em := ih (x :: m) (by simpa using hl) hm
      have pos : dv 0 (x :: m) ≠ 0 := by
        intro e0
        rw [e0] at em
        have e1 : Go.Lib.decDigits 0 = [48] := by rw [Go.Lib.decDigits_one (by omega)]; rfl
        rw [e1] at em
        have : (x :: m).head? = some 48 := by rw [← em]; rfl
        have := h.lead (by rw [List.head?_append, this]; rfl)
        simp at this
      rw [dif_neg (by omega), show (10 * dv 0 (x :: m) + (c.toNat - 48)) / 10 = dv 0 (x :: m) by omega, show (10 * dv 0 (x :: m) + (c.toNat - 48)) % 10 = c.toNat - 48 by omega, em, ec]
theorem dec_inj {n m : Nat} (h : Go.Lib.decDigits n = Go.Lib.decDigits m) : n = m := by
  have a := (dec_canon n).2
  rw [h, (dec_canon m).2] at a
  exact a.symm
theorem dv_lt : ∀ (l : List UInt8) (a k : Nat), (∀ c ∈ l, isDig c) → a < 10 ^ k → dv a l < 10 ^ (k + l.length)
  | [], a, k, _, h => by rw [dv_nil]; exact h
  | c :: r, a, k, hd, h => by
    have hc : isDig c := hd c List.mem_cons_self
    unfold isDig at hc
    have := dv_lt r (10 * a + (c.toNat - 48)) (k + 1) (fun x hx => hd x (List.mem_cons_of_mem _ hx)) (by rw [Nat.pow_succ]; omega)
    rw [dv_cons, List.length_cons, show k + (r.length + 1) = k + 1 + r.length by omega]
    exact this
theorem dec_len {n d : Nat} (h : n < 10 ^ d) (hd : 1 ≤ d) : (Go.Lib.decDigits n).length ≤ d := by
  induction d generalizing n with
  | zero => omega
  | succ d ih =>
    rw [Go.Lib.decDigits]
    by_cases c : n < 10
    · rw [dif_pos c]; simp
    · rw [dif_neg c, List.length_append, List.length_singleton]
      rcases Nat.eq_zero_or_pos d with rfl | h0
      · simp at h; omega
      · have := ih (n := n / 10) (by rw [Nat.pow_succ] at h; omega) h0
        omega
theorem parse_dv : ∀ (l : List UInt8) (a k : Nat), (∀ c ∈ l, isDig c) → a < 10 ^ k → l.length + k ≤ 18 → Go.Lib.parseUint10 a l = .ok (dv a l)
  | [], a, k, _, h, _ => by rw [dv_nil]; rfl
  | c :: r, a, k, hd, h, hl => by
    have hc : isDig c := hd c List.mem_cons_self
    unfold isDig at hc
    simp only [List.length_cons] at hl
    have hp : (10 : Nat) ^ (k + 1) ≤ 10 ^ 18 := Nat.pow_le_pow_right (by omega) (by omega)
    have hp2 : (10 : Nat) ^ 18 = 1000000000000000000 := by decide
    have hk : 10 * 10 ^ k ≤ 1000000000000000000 := by rw [Nat.pow_succ] at hp; omega
    have := parse_dv r (10 * a + (c.toNat - 48)) (k + 1) (fun x hx => hd x (List.mem_cons_of_mem _ hx)) (by rw [Nat.pow_succ]; omega) (by omega)
    rw [dv_cons, Go.Lib.parseUint10, if_pos hc, if_neg (by omega), if_neg (by omega), Nat.mul_comm a 10]
    exact this
theorem atoi_dec {n : Nat} (h : n ≤ 1000000) : Go.Lib.atoiAll (Go.Lib.decDigits n) = .ok (n : Int) := by
  obtain ⟨hc, hv⟩ := dec_canon n
  have hl := dec_len (n := n) (d := 7) (by omega) (by omega)
  generalize Go.Lib.decDigits n = l at hc hv hl
  match l, hc with
  | [], hc => exact absurd rfl hc.ne
  | c :: r, hc =>
    have h1 : isDig c := hc.dig c List.mem_cons_self
    unfold isDig at h1
    have hp := parse_dv (c :: r) 0 0 hc.dig (by decide) (by omega)
    rw [hv] at hp
    simp only [Go.Lib.atoiAll, Go.Lib.parseMag]
    rw [if_neg (show ¬ (c.toNat = 43 ∨ c.toNat = 45) by omega), if_neg (show ¬ (c :: r) = [] by simp), hp]
    simp only
    rw [if_neg (by omega), if_neg (by omega), if_neg (by omega)]
theorem toL (s : ByteArray) : s.toList = s.data.toList := ByteArray.toList_eq s
theorem readN_cases (s : ByteArray) (m : Nat) (hm : m ≤ 1000000) : (∃ n : Nat, n ≤ m ∧ s.data.toList = Go.Lib.decDigits n ∧ readN s (m : Int) = ((n : Int), true)) ∨ ((∀ n : Nat, n ≤ m → s.data.toList ≠ Go.Lib.decDigits n) ∧ readN s (m : Int) = (0, false)) := by
  by_cases h : ∃ n : Nat, n ≤ m ∧ s.data.toList = Go.Lib.decDigits n
  · obtain ⟨n, hn, e⟩ := h
    refine Or.inl ⟨n, hn, e, ?_⟩
    unfold readN
    rw [e, atoi_dec (by omega)]
    simp only
    rw [if_pos ⟨by omega, by omega, by rw [Go.Lib.itoa_nonneg, toL, e]⟩]
  · refine Or.inr ⟨fun n hn e => h ⟨n, hn, e⟩, ?_⟩
    unfold readN
    split
    · rename_i v hv
      rw [if_neg]
      rintro ⟨v0, v1, e⟩
      obtain ⟨v, rfl⟩ := Int.eq_ofNat_of_zero_le v0
      exact h ⟨v, by omega, by rw [← toL, ← e, Go.Lib.itoa_nonneg]⟩
    · rfl
/-! l1read: the reference reads a numeral -/
theorem bt_list (s : ByteArray) (i : Nat) (h : i < s.size) (hl : i < s.data.toList.length) : bt s (i : Int) = ((s.data.toList[i]'hl).toNat : Int) := by
  unfold bt
  rw [dif_pos (by simpa using h)]
  rfl
theorem len_size (s : ByteArray) : s.data.toList.length = s.size := (Go.Lib.size_eq s).symm
theorem l1Read_loop (s : ByteArray) (hs : s.size ≤ 6) : ∀ (g i a k : Nat), i + g = s.size → a < 10 ^ i → g < k → spec_l1Read.l0 k s (a : Int) (i : Int) = some (if ∀ c ∈ s.data.toList.drop i, isDig c then (dv a (s.data.toList.drop i) : Int) else -1) := by
  intro g
  induction g with
  | zero =>
    intro i a k hi ha hk
    obtain ⟨k, rfl⟩ : ∃ m, k = m + 1 := ⟨k - 1, by omega⟩
    have hl := len_size s
    simp only [spec_l1Read.l0]
    rw [if_neg (by omega), List.drop_of_length_le (by omega), if_pos (by simp), dv_nil]
  | succ g ih =>
    intro i a k hi ha hk
    obtain ⟨k, rfl⟩ : ∃ m, k = m + 1 := ⟨k - 1, by omega⟩
    have hl := len_size s
    have h6 : (10 : Nat) ^ i ≤ 10 ^ 6 := Nat.pow_le_pow_right (by omega) (by omega)
    have h66 : (10 : Nat) ^ 6 = 1000000 := by decide
    simp only [spec_l1Read.l0]
    rw [if_pos (by omega), if_pos (by omega), bt_list s i (by omega) (by omega), List.drop_eq_getElem_cons (show i < s.data.toList.length by omega)]
    generalize hc : s.data.toList[i]'(by omega) = c
    by_cases hd : isDig c
    · have hd' := hd
      unfold isDig at hd'
      have hr := ih (i + 1) (10 * a + (c.toNat - 48)) k (by omega) (by rw [Nat.pow_succ]; omega) (by omega)
      rw [if_neg (by omega), if_neg (by omega), wid (x := 10 * (a : Int)) (by omega) (by omega), show ((c.toNat : Int) - 48) % 256 = ((c.toNat - 48 : Nat) : Int) by omega, wid (x := 10 * (a : Int) + ((c.toNat - 48 : Nat) : Int)) (by omega) (by omega), wid (x := (i : Int) + 1) (by omega) (by omega), show 10 * (a : Int) + ((c.toNat - 48 : Nat) : Int) = ((10 * a + (c.toNat - 48) : Nat) : Int) by omega, show (i : Int) + 1 = ((i + 1 : Nat) : Int) by omega, hr, dv_cons]
      congr 1
      by_cases ha2 : ∀ x ∈ s.data.toList.drop (i + 1), isDig x
      · rw [if_pos ha2, if_pos (fun x hx => by rcases List.mem_cons.1 hx with rfl | hx; exact hd; exact ha2 x hx)]
      · rw [if_neg ha2, if_neg (fun h => ha2 (fun x hx => h x (List.mem_cons_of_mem _ hx)))]
    · rw [if_neg (show ¬ ∀ x ∈ c :: s.data.toList.drop (i + 1), isDig x from fun h => hd (h c List.mem_cons_self))]
      unfold isDig at hd
      by_cases h1 : (c.toNat : Int) < 48
      · rw [if_pos h1]
      · rw [if_neg h1, if_pos (by omega)]
theorem l1Read_cases (s : ByteArray) (k : Nat) (hk : 10 ≤ k) : (∃ n : Nat, n < 1000000 ∧ s.data.toList = Go.Lib.decDigits n ∧ spec_l1Read.f k s = some (n : Int)) ∨ ((∀ n : Nat, n < 1000000 → s.data.toList ≠ Go.Lib.decDigits n) ∧ spec_l1Read.f k s = some (-1)) := by
  obtain ⟨k, rfl⟩ : ∃ m, k = m + 1 := ⟨k - 1, by omega⟩
  have hl := len_size s
  unfold spec_l1Read.f
  rw [l1In_val]
  simp only [Option.bind_some]
  by_cases h1 : (1 : Int) ≤ (s.size : Int) ∧ (s.size : Int) ≤ 6
  · rw [decide_eq_true h1, if_pos rfl, if_pos (by omega)]
    have e0 : bt s 0 = ((s.data.toList[0]'(by omega)).toNat : Int) := bt_list s 0 (by omega) (by omega)
    have hh : s.data.toList.head? = some (s.data.toList[0]'(by omega)) := by rw [List.head?_eq_getElem?, List.getElem?_eq_getElem]
    have key : ∀ b : Bool, (b = true ↔ (s.data.toList.head? = some 48 ∧ s.data.toList.length ≠ 1)) → ((∃ n : Nat, n < 1000000 ∧ s.data.toList = Go.Lib.decDigits n ∧ spec_l1Read.j0 (k + 1) s b = some (n : Int)) ∨ ((∀ n : Nat, n < 1000000 → s.data.toList ≠ Go.Lib.decDigits n) ∧ spec_l1Read.j0 (k + 1) s b = some (-1))) := by
      intro b hb
      simp only [spec_l1Read.j0]
      cases b with
      | true =>
        obtain ⟨b1, b2⟩ := hb.1 rfl
        refine Or.inr ⟨fun n _ e => ?_, by rw [if_pos rfl]⟩
        have hcan := (dec_canon n).1
        rw [← e] at hcan
        exact b2 (hcan.lead b1)
      | false =>
        have hlp := l1Read_loop s (by omega) s.size 0 0 k (by omega) (by omega) (by omega)
        rw [List.drop_zero] at hlp
        rw [if_neg (by simp), show (0 : Int) = ((0 : Nat) : Int) from rfl, hlp]
        by_cases hd : ∀ c ∈ s.data.toList, isDig c
        · rw [if_pos hd]
          have hcan : Canon s.data.toList := ⟨by intro e; rw [e] at hl; simp at hl; omega, hd, fun e => Classical.byContradiction fun hn => by simpa using hb.2 ⟨e, hn⟩⟩
          have hlt := dv_lt s.data.toList 0 0 hd (by decide)
          have h6 : (10 : Nat) ^ (0 + s.data.toList.length) ≤ 10 ^ 6 := Nat.pow_le_pow_right (by omega) (by omega)
          have h66 : (10 : Nat) ^ 6 = 1000000 := by decide
          exact Or.inl ⟨dv 0 s.data.toList, by omega, (canon_dec _ _ rfl hcan).symm, rfl⟩
        · rw [if_neg hd]
          refine Or.inr ⟨fun n _ e => hd ?_, rfl⟩
          rw [e]
          exact (dec_canon n).1.dig
    by_cases h0 : bt s 0 = 48
    · rw [if_pos h0]
      refine key _ ?_
      have hx : s.data.toList[0]'(by omega) = 48 := by
        apply UInt8.toNat_inj.1
        rw [e0] at h0
        show _ = 48
        omega
      rw [hh, hx, decide_eq_true_eq]
      constructor
      · intro h; exact ⟨rfl, by omega⟩
      · intro h; have := h.2; omega
    · rw [if_neg h0]
      refine key _ ?_
      have hx : s.data.toList[0]'(by omega) ≠ 48 := by
        intro e
        rw [e0, e] at h0
        exact h0 rfl
      rw [hh]
      constructor
      · intro h; cases h
      · intro h; exact absurd (Option.some.inj h.1) hx
  · rw [decide_eq_false h1, if_neg (by simp)]
    simp only [spec_l1Read.j0]
    refine Or.inr ⟨fun n hn e => ?_, by simp⟩
    have h2 := dec_len (n := n) (d := 6) (by omega) (by omega)
    have h3 := (dec_canon n).1.ne
    rw [← e] at h2 h3
    have := List.length_pos_iff.2 h3
    omega
/-! l1split: the reference parts a text at each '/' -/
theorem ix_cases : ∀ l : List UInt8, (Go.Lib.indexByte l 47 = -1 ∧ (47 : UInt8) ∉ l) ∨ ∃ i : Nat, Go.Lib.indexByte l 47 = (i : Int) ∧ l[i]? = some 47 ∧ ∀ t, t < i → l[t]? ≠ some 47
  | [] => Or.inl ⟨rfl, by simp⟩
  | b :: l => by
    simp only [Go.Lib.indexByte]
    by_cases hb : b = 47
    · subst hb
      exact Or.inr ⟨0, by simp, by simp, fun t ht => by omega⟩
    · have e : (b == 47) = false := by simpa using hb
      rw [e]
      rcases ix_cases l with ⟨h1, h2⟩ | ⟨i, h1, h2, h3⟩
      · refine Or.inl ⟨by rw [h1]; simp, ?_⟩
        intro hm
        rcases List.mem_cons.1 hm with h | h
        · exact hb h.symm
        · exact h2 h
      · refine Or.inr ⟨i + 1, ?_, by simpa using h2, fun t ht => ?_⟩
        · rw [h1]
          have : ((i : Int) == -1) = false := by
            rw [beq_eq_false_iff_ne]; omega
          rw [this]
          simp
        · rcases t with _ | t
          · simpa using hb
          · simpa using h3 t (by omega)
theorem bt_ne (s : ByteArray) (t : Nat) (ht : t < s.size) : bt s (t : Int) = 47 ↔ s.data.toList[t]? = some 47 := by
  have hl := len_size s
  rw [bt_list s t ht (by omega), List.getElem?_eq_getElem (by omega)]
  constructor
  · intro h
    have : s.data.toList[t]'(by omega) = 47 := UInt8.toNat_inj.1 (by show _ = 47; omega)
    rw [this]
  · intro h
    rw [Option.some.inj h]
    rfl
/-- No more signs from j on. -/
theorem split_end (s : ByteArray) (hs : s.size ≤ 1048576) (from_ : Nat) : ∀ (g j k : Nat) (acc : List ByteArray), j + g = s.size → from_ ≤ j → acc.length ≤ j → (∀ t, j ≤ t → t < s.size → s.data.toList[t]? ≠ some 47) → g < k → spec_l1Split.l0 k s 47 acc (from_ : Int) (j : Int) = some (acc ++ [s.extract from_ s.size]) := by
  intro g
  induction g with
  | zero =>
    intro j k acc hj hf ha hn hk
    obtain ⟨k, rfl⟩ : ∃ m, k = m + 1 := ⟨k - 1, by omega⟩
    simp only [spec_l1Split.l0]
    rw [if_neg (by omega), if_pos (by omega), if_pos (by omega), if_pos (by omega)]
    rfl
  | succ g ih =>
    intro j k acc hj hf ha hn hk
    obtain ⟨k, rfl⟩ : ∃ m, k = m + 1 := ⟨k - 1, by omega⟩
    simp only [spec_l1Split.l0]
    rw [if_pos (by omega), if_pos (by omega), if_neg (fun h => hn j (Nat.le_refl _) (by omega) ((bt_ne s j (by omega)).1 h)), wid (x := (j : Int) + 1) (by omega) (by omega), show (j : Int) + 1 = ((j + 1 : Nat) : Int) by omega]
    exact ih (j + 1) k acc (by omega) (by omega) (by omega) (fun t h1 h2 => hn t (by omega) h2) (by omega)
/-- On to the next sign. -/
theorem split_next (s : ByteArray) (hs : s.size ≤ 1048576) (from_ i : Nat) (hi : i < s.size) (h47 : s.data.toList[i]? = some 47) : ∀ (g j k : Nat) (acc : List ByteArray), j + g = i → from_ ≤ j → acc.length ≤ j → (∀ t, j ≤ t → t < i → s.data.toList[t]? ≠ some 47) → spec_l1Split.l0 (k + g + 1) s 47 acc (from_ : Int) (j : Int) = spec_l1Split.l0 k s 47 (acc ++ [s.extract from_ i]) ((i + 1 : Nat) : Int) ((i + 1 : Nat) : Int) := by
  intro g
  induction g with
  | zero =>
    intro j k acc hj hf ha hn
    obtain rfl : j = i := by omega
    simp only [Nat.add_zero, spec_l1Split.l0]
    rw [if_pos (by omega), if_pos (by omega), if_pos ((bt_ne s j hi).2 h47), if_pos (by omega), if_pos (by omega), if_pos (by omega), if_pos (by omega), wid (x := (j : Int) + 1) (by omega) (by omega)]
    rfl
  | succ g ih =>
    intro j k acc hj hf ha hn
    rw [show k + (g + 1) + 1 = (k + g + 1) + 1 by omega]
    simp only [spec_l1Split.l0]
    rw [if_pos (by omega), if_pos (by omega), if_neg (fun h => hn j (Nat.le_refl _) (by omega) ((bt_ne s j (by omega)).1 h)), wid (x := (j : Int) + 1) (by omega) (by omega), show (j : Int) + 1 = ((j + 1 : Nat) : Int) by omega]
    exact ih (j + 1) k acc (by omega) (by omega) (by omega) (fun t h1 h2 => hn t (by omega) h2)
/-- It ends, and each piece is one more. -/
theorem split_some (s : ByteArray) (hs : s.size ≤ 1048576) : ∀ (g from_ j k : Nat) (acc : List ByteArray), j + g = s.size → from_ ≤ j → acc.length ≤ j → g < k → ∃ ps, spec_l1Split.l0 k s 47 acc (from_ : Int) (j : Int) = some ps ∧ acc.length + 1 ≤ ps.length := by
  intro g
  induction g with
  | zero =>
    intro from_ j k acc hj hf ha hk
    obtain ⟨k, rfl⟩ : ∃ m, k = m + 1 := ⟨k - 1, by omega⟩
    simp only [spec_l1Split.l0]
    rw [if_neg (by omega), if_pos (by omega), if_pos (by omega), if_pos (by omega)]
    exact ⟨_, rfl, by simp⟩
  | succ g ih =>
    intro from_ j k acc hj hf ha hk
    obtain ⟨k, rfl⟩ : ∃ m, k = m + 1 := ⟨k - 1, by omega⟩
    simp only [spec_l1Split.l0]
    rw [if_pos (by omega), if_pos (by omega)]
    by_cases h : bt s (j : Int) = 47
    · rw [if_pos h, if_pos (by omega), if_pos (by omega), if_pos (by omega), if_pos (by omega), wid (x := (j : Int) + 1) (by omega) (by omega), show (j : Int) + 1 = ((j + 1 : Nat) : Int) by omega]
      obtain ⟨ps, e, hl⟩ := ih (j + 1) (j + 1) k (acc ++ [s.extract (from_ : Int).toNat (j : Int).toNat]) (by omega) (by omega) (by simp; omega) (by omega)
      refine ⟨ps, e, ?_⟩
      rw [List.length_append, List.length_singleton] at hl
      omega
    · rw [if_neg h, wid (x := (j : Int) + 1) (by omega) (by omega), show (j : Int) + 1 = ((j + 1 : Nat) : Int) by omega]
      exact ih from_ (j + 1) k acc (by omega) (by omega) (by omega) (by omega)
theorem extract_list (s : ByteArray) (a b : Nat) : (s.extract a b).data.toList = (s.data.toList.take b).drop a := by
  rw [ByteArray.data_extract]
  simp [List.extract_eq_take_drop, List.drop_take]
/-! parsespan: both read a span alike -/
theorem parse_no (s : ByteArray) (k : Nat) (h : (readN (cutL s).1 1000000).2 = true → (readN (cutL s).2.1 10000).2 = true → False) : impl_ParseSpan.f k s = some (0, 0, false) := by
  unfold impl_ParseSpan.f
  by_cases h1 : (readN (cutL s).1 1000000).2 = true
  · rw [if_pos h1, if_neg (fun h2 => h h1 h2)]
  · rw [if_neg h1]
theorem not_dig47 : ¬ isDig 47 := by decide
theorem dec_million : Go.Lib.decDigits 1000000 = [49, 48, 48, 48, 48, 48, 48] := by
  have h : Canon [49, 48, 48, 48, 48, 48, 48] := ⟨by simp, by decide, by decide⟩
  have e : dv 0 [49, 48, 48, 48, 48, 48, 48] = 1000000 := by simp only [dv_cons, dv_nil]; decide
  have := canon_dec 7 _ rfl h
  rwa [e] at this
theorem parse_both (s : ByteArray) (hs : s.size ≤ 1048576) : ∃ k x y ok, spec_ParseSpan.f k s = some (x, y, ok) ∧ impl_ParseSpan.f k s = some (x, y, ok) := by
  have hl := len_size s
  have no : ∀ k ps, spec_l1Split.f (k + 1) s 47 = some ps → ((s.size : Int) > 20 ∨ ps.length ≠ 2) → spec_ParseSpan.f (k + 1) s = some (0, 0, false) := by
    intro k ps e h
    unfold spec_ParseSpan.f
    rw [e]
    simp only [Option.bind_some, spec_ParseSpan.j0]
    by_cases c : (s.size : Int) > 20
    · rw [if_pos c]; simp
    · rw [if_neg c]
      have : ((ps.length : Int) != 2) = true := by rw [bne_iff_ne]; intro e; exact (h.resolve_left c) (by omega)
      rw [this]; simp
  rcases ix_cases s.data.toList with ⟨h1, h2⟩ | ⟨i, h1, h2, h3⟩
  · have ec : cutL s = (s, ⟨#[]⟩, false) := by unfold cutL ixS; rw [if_pos h1]
    have e := split_end s hs 0 s.size 0 1048601 [] (by omega) (by omega) (by simp) (fun t _ _ he => h2 (List.mem_of_getElem? he)) (by omega)
    refine ⟨1048601, 0, 0, false, no 1048600 _ e (Or.inr (by simp)), parse_no s _ fun _ hb => ?_⟩
    rw [ec] at hb
    rcases readN_cases ⟨#[]⟩ 10000 (by omega) with ⟨n, _, e1, _⟩ | ⟨_, e1⟩
    · exact (dec_canon n).1.ne e1.symm
    · have e1' : readN ⟨#[]⟩ 10000 = (0, false) := e1
      rw [e1'] at hb; cases hb
  · have hi : i < s.size := by
      rw [← hl]
      exact (List.getElem?_eq_some_iff.1 h2).1
    have ec : cutL s = (s.extract 0 i, s.extract (i + 1) s.size, true) := by
      unfold cutL ixS
      rw [h1, if_neg (by omega)]
      rfl
    have lt : (s.extract 0 i).data.toList = s.data.toList.take i := by rw [extract_list, List.drop_zero]
    have lb : (s.extract (i + 1) s.size).data.toList = s.data.toList.drop (i + 1) := by rw [extract_list, List.take_of_length_le (by omega)]
    have n1 : ∀ k, spec_l1Split.l0 (k + i + 1) s 47 [] 0 0 = spec_l1Split.l0 k s 47 [s.extract 0 i] ((i + 1 : Nat) : Int) ((i + 1 : Nat) : Int) := fun k => split_next s hs 0 i hi h2 i 0 k [] (by omega) (by omega) (by simp) (fun t _ ht => h3 t ht)
    rcases ix_cases (s.data.toList.drop (i + 1)) with ⟨_, hb⟩ | ⟨j, _, j2, j3⟩
    · have n2 := split_end s hs (i + 1) (s.size - (i + 1)) (i + 1) 1048601 [s.extract 0 i] (by omega) (by omega) (by simp) (fun t h4 h5 he => hb (by
        rw [show t = i + 1 + (t - (i + 1)) by omega, ← List.getElem?_drop] at he
        exact List.mem_of_getElem? he)) (by omega)
      rw [← n1] at n2
      have n3 : ∀ k, 1048601 + i + 1 ≤ k → spec_l1Split.f k s 47 = some [s.extract 0 i, s.extract (i + 1) s.size] := fun k hk => at_rounds (g := fun k => spec_l1Split.f k s 47) (fun k => spec_l1Split.mono s 47 k) hk n2
      have RT := readN_cases (s.extract 0 i) 1000000 (by omega)
      have RB := readN_cases (s.extract (i + 1) s.size) 10000 (by omega)
      rw [lt] at RT
      rw [lb] at RB
      by_cases c20 : (s.size : Int) > 20
      · refine ⟨1048601 + i + 1, 0, 0, false, no _ _ (n3 _ (by omega)) (Or.inl c20), parse_no s _ fun ha hb' => ?_⟩
        rw [ec] at ha hb'
        rcases RT with ⟨n, hn, e1, _⟩ | ⟨_, e1⟩
        · rcases RB with ⟨d, hd, e2, _⟩ | ⟨_, e2⟩
          · have l1 := dec_len (n := n) (d := 7) (by omega) (by omega)
            have l2 := dec_len (n := d) (d := 5) (by omega) (by omega)
            rw [← e1, List.length_take] at l1
            rw [← e2, List.length_drop] at l2
            omega
          · have e2' : readN (s.extract (i + 1) s.size) 10000 = (0, false) := e2
            rw [e2'] at hb'; cases hb'
        · have e1' : readN (s.extract 0 i) 1000000 = (0, false) := e1
          rw [e1'] at ha; cases ha
      · -- two pieces, short: what each reads
        obtain ⟨t0, T0⟩ : ∃ t0 : Int, ∀ k, 10 ≤ k → spec_l1Read.f k (s.extract 0 i) = some t0 := by
          rcases l1Read_cases (s.extract 0 i) 10 (by omega) with ⟨n, _, _, e⟩ | ⟨_, e⟩
          · exact ⟨_, fun k hk => at_rounds (g := fun k => spec_l1Read.f k _) (fun k => spec_l1Read.mono _ k) hk e⟩
          · exact ⟨_, fun k hk => at_rounds (g := fun k => spec_l1Read.f k _) (fun k => spec_l1Read.mono _ k) hk e⟩
        obtain ⟨t1, T1⟩ : ∃ t1 : Int, ∀ k, 10 ≤ k → spec_l1Read.f k (s.extract (i + 1) s.size) = some t1 := by
          rcases l1Read_cases (s.extract (i + 1) s.size) 10 (by omega) with ⟨n, _, _, e⟩ | ⟨_, e⟩
          · exact ⟨_, fun k hk => at_rounds (g := fun k => spec_l1Read.f k _) (fun k => spec_l1Read.mono _ k) hk e⟩
          · exact ⟨_, fun k hk => at_rounds (g := fun k => spec_l1Read.f k _) (fun k => spec_l1Read.mono _ k) hk e⟩
        have QT := l1Read_cases (s.extract 0 i) 10 (by omega)
        have QB := l1Read_cases (s.extract (i + 1) s.size) 10 (by omega)
        rw [T0 10 (by omega), lt] at QT
        rw [T1 10 (by omega), lb] at QB
        obtain ⟨N, hN⟩ : ∃ N : Int, N = if (s.extract 0 i).toList = ([49, 48, 48, 48, 48, 48, 48] : List UInt8) then 1000000 else t0 := ⟨_, rfl⟩
        obtain ⟨G1, g1⟩ := drGood_val N t1
        obtain ⟨G2, g2⟩ := IsSpan_val (readN (s.extract 0 i) 1000000).1 (readN (s.extract (i + 1) s.size) 10000).1
        obtain ⟨k, hk1, hk2, hk3⟩ : ∃ k, 1048601 + i + 1 ≤ k + 1 ∧ max G1 G2 ≤ k ∧ 10 ≤ k := ⟨1048601 + i + 1 + max G1 G2, by omega, by omega, by omega⟩
        have d1 := g1 k (by omega)
        have d2 := g2 (k + 1) (by omega)
        dsimp only at d1 d2
        have SV : spec_ParseSpan.f (k + 1) s = some (if isS N t1 then (N, t1, true) else (0, 0, false)) := by
          unfold spec_ParseSpan.f
          rw [n3 (k + 1) hk1]
          simp only [Option.bind_some, spec_ParseSpan.j0]
          rw [if_neg c20]
          have r0 : rdOf ByteArray.empty [s.extract 0 i, s.extract (i + 1) s.size] 0 = s.extract 0 i := rfl
          have r1 : rdOf ByteArray.empty [s.extract 0 i, s.extract (i + 1) s.size] 1 = s.extract (i + 1) s.size := rfl
          have b2 : ((([s.extract 0 i, s.extract (i + 1) s.size] : List ByteArray).length : Int) != 2) = false := rfl
          rw [b2, if_neg (by simp), if_pos (by simp), r0, r1, T0 k hk3]
          simp only [Option.bind_some]
          rw [if_pos (by simp), T1 k hk3]
          simp only [Option.bind_some]
          by_cases m : (s.extract 0 i).toList = ([49, 48, 48, 48, 48, 48, 48] : List UInt8)
          · rw [if_pos m] at hN ⊢
            subst hN
            rw [d1]
            simp only [Option.bind_some, decide_eq_true_eq]
            by_cases q : isS 1000000 t1
            · rw [if_pos q, if_pos q]
            · rw [if_neg q, if_neg q]
          · rw [if_neg m] at hN ⊢
            subst hN
            rw [d1]
            simp only [Option.bind_some, decide_eq_true_eq]
            by_cases q : isS N t1
            · rw [if_pos q, if_pos q]
            · rw [if_neg q, if_neg q]
        rw [toL, lt] at hN
        have fail : ¬ isS N t1 → ((readN (cutL s).1 1000000).2 = true → (readN (cutL s).2.1 10000).2 = true → False) → ∃ k x y ok, spec_ParseSpan.f k s = some (x, y, ok) ∧ impl_ParseSpan.f k s = some (x, y, ok) := fun h h' => ⟨k + 1, 0, 0, false, by rw [SV, if_neg h], parse_no s _ h'⟩
        rcases RT with ⟨n, hn, e1, e2⟩ | ⟨e1, e2⟩
        · have e2' : readN (s.extract 0 i) 1000000 = ((n : Int), true) := e2
          have eN : N = (n : Int) := by
            rw [hN]
            by_cases c : n = 1000000
            · rw [if_pos (by rw [e1, c, dec_million]), c]; rfl
            · rw [if_neg (by rw [e1, ← dec_million]; exact fun h => c (dec_inj h))]
              rcases QT with ⟨m, _, f1, f2⟩ | ⟨f1, _⟩
              · have := dec_inj (e1.symm.trans f1)
                rw [Option.some.inj f2, this]
              · exact absurd e1 (f1 n (by omega))
          rcases RB with ⟨d, hd, e3, e4⟩ | ⟨e3, e4⟩
          · have e4' : readN (s.extract (i + 1) s.size) 10000 = ((d : Int), true) := e4
            have eD : t1 = (d : Int) := by
              rcases QB with ⟨m, _, f1, f2⟩ | ⟨f1, _⟩
              · have := dec_inj (e3.symm.trans f1)
                rw [Option.some.inj f2, this]
              · exact absurd e3 (f1 d (by omega))
            rw [e2', e4'] at d2
            refine ⟨k + 1, if isS (n : Int) (d : Int) then (n : Int) else 0, if isS (n : Int) (d : Int) then (d : Int) else 0, decide (isS (n : Int) (d : Int)), ?_, ?_⟩
            · rw [SV, eN, eD]
              by_cases q : isS (n : Int) (d : Int)
              · simp only [if_pos q, decide_eq_true q]
              · simp only [if_neg q, decide_eq_false q]
            · unfold impl_ParseSpan.f
              rw [ec]
              simp only [e2', e4', if_true]
              rw [d2]
              simp only [Option.bind_some, decide_eq_true_eq]
              by_cases q : isS (n : Int) (d : Int)
              · simp only [if_pos q, decide_eq_true q]
              · simp only [if_neg q, decide_eq_false q]
          · have e4' : readN (s.extract (i + 1) s.size) 10000 = (0, false) := e4
            refine fail (fun h => ?_) (fun _ h => by rw [ec] at h; simp only [e4'] at h; cases h)
            obtain ⟨_, hb2⟩ := isS_bd h
            rcases QB with ⟨m, _, f1, f2⟩ | ⟨_, f2⟩
            · have := Option.some.inj f2
              exact e3 m (by omega) f1
            · have := Option.some.inj f2
              omega
        · have e2' : readN (s.extract 0 i) 1000000 = (0, false) := e2
          refine fail (fun h => ?_) (fun h _ => by rw [ec] at h; simp only [e2'] at h; cases h)
          obtain ⟨ha2, _⟩ := isS_bd h
          rw [if_neg (by rw [← dec_million]; exact e1 1000000 (by omega))] at hN
          rcases QT with ⟨m, hm, f1, _⟩ | ⟨_, f2⟩
          · exact e1 m (by omega) f1
          · have := Option.some.inj f2
            omega
    · -- a sign behind the sign
      obtain ⟨p, hp⟩ : ∃ p, p = i + 1 + j := ⟨_, rfl⟩
      have hp47 : s.data.toList[p]? = some 47 := by rw [hp, ← List.getElem?_drop]; exact j2
      have hps : p < s.size := by rw [← hl]; exact (List.getElem?_eq_some_iff.1 hp47).1
      have n2 : ∀ k, spec_l1Split.l0 (k + j + 1) s 47 [s.extract 0 i] ((i + 1 : Nat) : Int) ((i + 1 : Nat) : Int) = spec_l1Split.l0 k s 47 ([s.extract 0 i] ++ [s.extract (i + 1) p]) ((p + 1 : Nat) : Int) ((p + 1 : Nat) : Int) := fun k => split_next s hs (i + 1) p hps hp47 j (i + 1) k [s.extract 0 i] (by omega) (by omega) (by simp) (fun t h4 h5 he => j3 (t - (i + 1)) (by omega) (by rw [List.getElem?_drop, show i + 1 + (t - (i + 1)) = t by omega]; exact he))
      obtain ⟨ps, e, hlen⟩ := split_some s hs (s.size - (p + 1)) (p + 1) (p + 1) 1048601 ([s.extract 0 i] ++ [s.extract (i + 1) p]) (by omega) (by omega) (by simp; omega) (by omega)
      have e' : spec_l1Split.f (1048601 + j + 1 + i + 1) s 47 = some ps := by
        show spec_l1Split.l0 (1048601 + j + 1 + i + 1) s 47 [] 0 0 = some ps
        rw [n1, n2]; exact e
      refine ⟨_, 0, 0, false, no _ _ e' (Or.inr (by simp at hlen; omega)), parse_no s _ fun _ hb' => ?_⟩
      rw [ec] at hb'
      rcases readN_cases (s.extract (i + 1) s.size) 10000 (by omega) with ⟨d, _, e2, _⟩ | ⟨_, e2⟩
      · rw [lb] at e2
        have hm : (47 : UInt8) ∈ s.data.toList.drop (i + 1) := List.mem_of_getElem? j2
        rw [e2] at hm
        exact not_dig47 ((dec_canon d).1.dig _ hm)
      · have e2' : readN (s.extract (i + 1) s.size) 10000 = (0, false) := e2
        rw [e2'] at hb'; cases hb'
/-! agreeread: what readings tell; texts there and back -/
theorem read_fact {a b s t c d x1 x2 x3 x4 : Int} (h : readT a b s t c d = (x1, x2, x3, x4, true)) : seenT x1 x2 x3 x4 s t x3 = (c, d, true) ∧ isC x1 x2 x3 x4 ∧ x1 = a ∧ x2 = b ∧ ¬ wrap64 (x3 * s) ≥ wrap64 (x4 * t) := by
  unfold readT at h
  dsimp only at h
  split at h
  · rename_i hq
    obtain ⟨⟨⟨h1, h2⟩, hs, hs0⟩, hc⟩ := hq
    simp only [Prod.mk.injEq, and_true] at h
    obtain ⟨rfl, rfl, h3, h4⟩ := h
    obtain ⟨k1, k2⟩ := isS_bd hs
    have hb : 0 < d * a.natAbs + d * b := by
      have := h1.1; have := h2.1
      have p1 : 0 < d * b := Int.mul_pos (by omega) (by omega)
      have p2 : 0 ≤ d * (a.natAbs : Int) := Int.mul_nonneg (by omega) (by omega)
      omega
    have hdb : 0 < d * b := Int.mul_pos (by have := h2.1; omega) (by have := h1.1; omega)
    have L := mkT_low (c * b - a * d) hdb
    generalize hw : mkT (c * b - a * d) (d * b) = v at hc h3 h4 L
    obtain ⟨p, q⟩ := v
    dsimp only at hc h3 h4 L
    rw [h3, h4] at hc
    obtain ⟨⟨a0, a1⟩, ⟨b0, b1⟩, ⟨c0, c1⟩, d0, d1⟩ := isC_bd hc
    have hqs : 0 < q * s := Int.mul_pos L.1 (by omega)
    have g0 := gI_pos (a := p * t) (show q * s ≠ 0 by omega)
    obtain ⟨m, hm⟩ := gI_dvd_left (p * t) (q * s)
    obtain ⟨n, hn⟩ := gI_dvd_right (p * t) (q * s)
    have e3 : x3 = m := by rw [← h3]; exact Int.ediv_eq_of_eq_mul_right (by omega) hm
    have e4 : x4 = n := by rw [← h4]; exact Int.ediv_eq_of_eq_mul_right (by omega) hn
    rw [← e3] at hm
    rw [← e4] at hn
    have E : s * (q * x3) = t * (p * x4) := by
      generalize gI (p * t) (q * s) = g at hm hn
      have z1 : s * (q * x3) = g * x4 * x3 := by rw [← Int.mul_assoc, Int.mul_comm s q, hn]
      have z2 : t * (p * x4) = g * x3 * x4 := by rw [← Int.mul_assoc, Int.mul_comm t p, hm]
      rw [z1, z2]; ac_rfl
    have m1 := mul_bd (M := 1000) (N := 1000000) (x := x3) (y := s) (by omega) (by omega)
    have m2 := mul_bd (M := 1000) (N := 10000) (x := x4) (y := t) (by omega) (by omega)
    refine ⟨seen_of hc hs (shows (by omega) (by omega) (by omega) (by omega) (isT_low h2) hw E) h2.1.2, hc, rfl, rfl, ?_⟩
    rw [wid (x := x3 * s) (by omega) (by omega), wid (x := x4 * t) (by omega) (by omega)]
    have := before_round (x := s) (y := t) (c := x3) (d := x4) L.1 (by omega) (by omega) L.2.2.1 E
    have z1 : s * x3 = x3 * s := Int.mul_comm _ _
    have z2 : t * x4 = x4 * t := Int.mul_comm _ _
    omega
  · simp at h
theorem seen_same {a b c d a' b' c' d' x y : Int} (h : agreeT a b c d a' b' c' d' = (x, y, true)) : seenT a b c d x y c = seenT a' b' c' d' x y c' := by
  obtain ⟨⟨hc, hc'⟩, _, hs, _⟩ := agree_yes h
  unfold seenT
  rw [if_pos ⟨hc, hs⟩, if_pos ⟨hc', hs⟩, agree_same h]
/-- What stands in a text of a span. -/
theorem cut_text (a b : Nat) : cutL (textOf a b) = ((⟨(Go.Lib.decDigits a).toArray⟩ : ByteArray), (⟨(Go.Lib.decDigits b).toArray⟩ : ByteArray), true) := by
  have hl : (textOf a b).data.toList = Go.Lib.decDigits a ++ 47 :: Go.Lib.decDigits b := by
    unfold textOf
    rw [Go.Lib.itoa_nonneg, Go.Lib.itoa_nonneg]
    simp [ByteArray.data_append]
  have hz : (textOf a b).size = (Go.Lib.decDigits a).length + 1 + (Go.Lib.decDigits b).length := by
    rw [← len_size, hl, List.length_append, List.length_cons]; omega
  have no : ∀ t : Nat, t < (Go.Lib.decDigits a).length → (textOf a b).data.toList[t]? ≠ some 47 := by
    intro t ht e
    rw [hl, List.getElem?_append_left ht] at e
    exact not_dig47 ((dec_canon a).1.dig _ (List.mem_of_getElem? e))
  have hi : ixS (textOf a b) = ((Go.Lib.decDigits a).length : Int) := by
    unfold ixS
    rcases ix_cases (textOf a b).data.toList with ⟨_, h2⟩ | ⟨i, h1, h2, h3⟩
    · exact absurd (by rw [hl]; simp) h2
    · rw [h1]
      have z1 : ¬ i < (Go.Lib.decDigits a).length := fun h => no i h h2
      have z2 : ¬ (Go.Lib.decDigits a).length < i := fun h => h3 _ h (by rw [hl, List.getElem?_append_right (Nat.le_refl _)]; simp)
      omega
  unfold cutL
  rw [hi, if_neg (by omega)]
  have e1 : (textOf a b).extract 0 ((Go.Lib.decDigits a).length : Int).toNat = ⟨(Go.Lib.decDigits a).toArray⟩ := by
    apply ByteArray.ext
    apply Array.toList_inj.1
    rw [extract_list, hl]
    simp
  have e2 : (textOf a b).extract (((Go.Lib.decDigits a).length : Int).toNat + 1) (textOf a b).size = ⟨(Go.Lib.decDigits b).toArray⟩ := by
    apply ByteArray.ext
    apply Array.toList_inj.1
    rw [extract_list, ← len_size, List.take_of_length_le (Nat.le_refl _), hl, Int.toNat_natCast]
    rw [List.drop_append]
    simp
  rw [e1, e2]
theorem text_size {a b : Int} (ha : 0 ≤ a ∧ a ≤ 1000000) (hb : 0 ≤ b ∧ b ≤ 1000000) : (textOf a b).size ≤ 281474976710656 := by
  have l1 := Go.Lib.itoa_length_le a (by omega) (by omega)
  have l2 := Go.Lib.itoa_length_le b (by omega) (by omega)
  unfold textOf
  rw [ByteArray.size_append, ByteArray.size_append, bytes_size, bytes_size]
  show (Go.Lib.itoa a).length + 1 + (Go.Lib.itoa b).length ≤ _
  omega
theorem parse_text {a b : Int} (h : isS a b) : Ev (fun k => impl_ParseSpan.f k (textOf a b)) (a, b, true) := by
  obtain ⟨ha, hb⟩ := isS_bd h
  obtain ⟨a, rfl⟩ := Int.eq_ofNat_of_zero_le ha.1
  obtain ⟨b, rfl⟩ := Int.eq_ofNat_of_zero_le (show 0 ≤ b by omega)
  unfold impl_ParseSpan.f
  have r1 : readN ⟨(Go.Lib.decDigits a).toArray⟩ 1000000 = ((a : Int), true) := by
    rcases readN_cases ⟨(Go.Lib.decDigits a).toArray⟩ 1000000 (by omega) with ⟨n, _, e1, e2⟩ | ⟨e1, _⟩
    · have : a = n := dec_inj e1
      subst this
      exact e2
    · exact absurd rfl (e1 a (by omega))
  have r2 : readN ⟨(Go.Lib.decDigits b).toArray⟩ 10000 = ((b : Int), true) := by
    rcases readN_cases ⟨(Go.Lib.decDigits b).toArray⟩ 10000 (by omega) with ⟨n, _, e1, e2⟩ | ⟨e1, _⟩
    · have : b = n := dec_inj e1
      subst this
      exact e2
    · exact absurd rfl (e1 b (by omega))
  rw [cut_text]
  simp only [r1, r2, if_true]
  refine Ev.bind (IsSpan_val _ _) ⟨0, fun _ _ => ?_⟩
  rw [decide_eq_true h]
  rfl
theorem readN_yes {s : ByteArray} {m n : Int} (h : readN s m = (n, true)) : ∃ v : Nat, n = v ∧ (v : Int) ≤ m ∧ s.data.toList = Go.Lib.decDigits v := by
  unfold readN at h
  split at h
  · split at h
    · rename_i v hv hq
      simp only [Prod.mk.injEq, and_true] at h
      subst h
      obtain ⟨v, rfl⟩ := Int.eq_ofNat_of_zero_le hq.1
      exact ⟨v, rfl, hq.2.1, by rw [← toL, ← hq.2.2, Go.Lib.itoa_nonneg]⟩
    · simp at h
  · simp at h
/-- Where a span was read, its text is what was read. -/
theorem text_back {k : Nat} {s : ByteArray} {n d : Int} (h : impl_ParseSpan.f k s = some (n, d, true)) : (∃ t, impl_IsSpan.f k n d = some t ∧ t = true) ∧ textOf n d = s := by
  unfold impl_ParseSpan.f at h
  split at h
  · rename_i h1
    split at h
    · rename_i h2
      obtain ⟨t, e, h⟩ := Option.bind_eq_some_iff.mp h
      split at h
      · rename_i ht
        simp only [Option.some.injEq, Prod.mk.injEq, and_true] at h
        obtain ⟨e1, e2⟩ := h
        rw [e1, e2] at e
        refine ⟨⟨t, e, ht⟩, ?_⟩
        obtain ⟨v, hv, _, lv⟩ := readN_yes (s := (cutL s).1) (m := 1000000) (n := n) (Prod.ext e1 h1)
        obtain ⟨u, hu, _, lu⟩ := readN_yes (s := (cutL s).2.1) (m := 10000) (n := d) (Prod.ext e2 h2)
        subst hv; subst hu
        rcases ix_cases s.data.toList with ⟨i1, _⟩ | ⟨i, i1, i2, _⟩
        · have ec : cutL s = (s, ⟨#[]⟩, false) := by unfold cutL ixS; rw [if_pos i1]
          rw [ec] at lu
          exact absurd lu.symm (dec_canon u).1.ne
        · have ec : cutL s = (s.extract 0 i, s.extract (i + 1) s.size, true) := by
            unfold cutL ixS
            rw [i1, if_neg (by omega)]
            rfl
          rw [ec] at lv lu
          dsimp only at lv lu
          rw [extract_list, List.drop_zero] at lv
          rw [extract_list, ← len_size, List.take_of_length_le (Nat.le_refl _)] at lu
          apply ByteArray.ext
          apply Array.toList_inj.1
          have hl : (textOf (v : Int) (u : Int)).data.toList = Go.Lib.decDigits v ++ 47 :: Go.Lib.decDigits u := by
            unfold textOf
            rw [Go.Lib.itoa_nonneg, Go.Lib.itoa_nonneg]
            simp [ByteArray.data_append]
          rw [hl, ← lv, ← lu]
          obtain ⟨hlt, hg⟩ := List.getElem?_eq_some_iff.1 i2
          rw [← hg, List.getElem_cons_drop, List.take_append_drop]
      · simp at h
    · simp at h
  · simp at h
theorem Ev.imp {p : Prop} {P : Nat → Prop} (h : p → ∃ K, ∀ k, K ≤ k → P k) : ∃ K, ∀ k, K ≤ k → p → P k := by
  by_cases hp : p
  · obtain ⟨K, hK⟩ := h hp
    exact ⟨K, fun k hk _ => hK k hk⟩
  · exact ⟨0, fun _ _ x => absurd x hp⟩
/-! agreelaw: all that the law's walk asks -/
theorem tri {v : Int × Int × Bool} (h : v.2.2 = true) : v = (v.1, v.2.1, true) := by rw [← h]
theorem five_eq {v : Int × Int × Int × Int × Bool} (h : v.2.2.2.2 = true) : v = (v.1, v.2.1, v.2.2.1, v.2.2.2.1, true) := by rw [← h]
theorem two_eq {v : Int × Bool} (h : v.2 = true) : v = (v.1, true) := by rw [← h]
theorem parse_up {k k' : Nat} {s : ByteArray} {r : Int × Int × Bool} (hk : k ≤ k') (h : impl_ParseSpan.f k s = some r) : impl_ParseSpan.f k' s = some r := by
  unfold impl_ParseSpan.f at h ⊢
  split at h
  · rename_i h1
    rw [if_pos h1]
    split at h
    · rename_i h2
      rw [if_pos h2]
      obtain ⟨t, e, h⟩ := Option.bind_eq_some_iff.mp h
      rw [at_rounds (g := fun k => impl_IsSpan.f k _ _) (fun k => impl_IsSpan.mono _ _ k) hk e]
      exact h
    · rename_i h2
      rw [if_neg h2]; exact h
  · rename_i h1
    rw [if_neg h1]; exact h
theorem parse_ev (l : ByteArray) : ∃ (K : Nat) (x y : Int) (ok : Bool), ∀ k, K ≤ k → l.size ≤ 1048576 → impl_ParseSpan.f k l = some (x, y, ok) ∧ spec_ParseSpan.f k l = some (x, y, ok) := by
  by_cases h : l.size ≤ 1048576
  · obtain ⟨K, x, y, ok, e1, e2⟩ := parse_both l h
    exact ⟨K, x, y, ok, fun k hk _ => ⟨parse_up hk e2, at_rounds (g := fun k => spec_ParseSpan.f k l) (fun k => spec_ParseSpan.mono l k) hk e1⟩⟩
  · exact ⟨0, 0, 0, false, fun k _ h' => absurd h' h⟩
theorem iFirstAgree_val (a b c d a' b' c' d' : Int) : Ev (fun k => impl_FirstAgree.f k a b c d a' b' c' d') (agreeT a b c d a' b' c' d') := by
  unfold impl_FirstAgree.f
  exact Ev.bind (ifirst_val a b c d a' b' c' d') ⟨0, fun _ _ => rfl⟩
theorem iAgreeEvery_val (a b c d a' b' c' d' : Int) : Ev (fun k => impl_AgreeEvery.f k a b c d a' b' c' d') (everyT a b c d a' b' c' d') := by
  unfold impl_AgreeEvery.f
  exact Ev.bind (ievery_val a b c d a' b' c' d') ⟨0, fun _ _ => rfl⟩
theorem IsSpan_s (a b : Int) : Ev (fun k => spec_IsSpan.f k a b) (decide (isS a b)) := by
  unfold spec_IsSpan.f
  exact Ev.bind (drGood_val a b) ⟨0, fun _ _ => rfl⟩
/-- A span's text, if it is one. -/
def tellText (a b : Int) : ByteArray × Bool := if isS a b then (textOf a b, true) else (⟨#[]⟩, false)
theorem iText_val (a b : Int) : Ev (fun k => impl_SpanText.f k a b) (tellText a b) := by
  unfold impl_SpanText.f tellText
  refine Ev.bind (IsSpan_val a b) ⟨0, fun _ _ => ?_⟩
  by_cases h : isS a b
  · rw [decide_eq_true h, if_pos h]; rfl
  · rw [decide_eq_false h, if_neg h]; rfl
theorem sText_val (a b : Int) : Ev (fun k => spec_SpanText.f k a b) (tellText a b) := by
  unfold spec_SpanText.f tellText
  refine Ev.bind (drGood_val a b) ?_
  by_cases h : isS a b
  · rw [decide_eq_true h, if_pos h]
    obtain ⟨ca, cb⟩ := isS_bd h
    obtain ⟨a, rfl⟩ := Int.eq_ofNat_of_zero_le ca.1
    obtain ⟨b, rfl⟩ := Int.eq_ofNat_of_zero_le (show 0 ≤ b by omega)
    refine ⟨20, fun k hk => ?_⟩
    have n1 := l1Num_val 7 a (by omega) (by omega) (by omega) k (by omega)
    have n2 := l1Num_val 7 b (by omega) (by omega) (by omega) k (by omega)
    have l1 := Go.Lib.itoa_length_le (a : Int) (by omega) (by omega)
    have l2 := Go.Lib.itoa_length_le (b : Int) (by omega) (by omega)
    simp only [if_true]
    rw [n1]
    simp only [Option.bind_some]
    rw [if_pos (by rw [bytes_size]; omega), n2]
    simp only [Option.bind_some]
    rw [if_pos (by rw [ByteArray.size_append, bytes_size, bytes_size]; show (Go.Lib.itoa (a : Int)).length + 1 + (Go.Lib.itoa (b : Int)).length ≤ _; omega)]
    rfl
  · rw [decide_eq_false h, if_neg h]
    exact ⟨0, fun _ _ => rfl⟩
theorem FnClocksAgreeOfAll : laws_FnClocksAgreeOfAll.Pure := by
  intro a0 a1 a2 a3 b0 b1 b2 b3 t0 t1 s0 s1 u0 u1 p0 p1 q0 q1 nu de r0 r1 l w _ _ _ _ _ _ _ _ _ _ _ _ _ _ _ _ _ _ _ _ _ _ _ ht he
  obtain ⟨K1, H1⟩ := iFirstAgree_val a0 a1 a2 a3 b0 b1 b2 b3
  obtain ⟨K2, H2⟩ := sFirstAgree_val a0 a1 a2 a3 b0 b1 b2 b3
  obtain ⟨K3, H3⟩ := iAgreeEvery_val a0 a1 a2 a3 b0 b1 b2 b3
  obtain ⟨K4, H4⟩ := sAgreeEvery_val a0 a1 a2 a3 b0 b1 b2 b3
  obtain ⟨K5, H5⟩ := iRead_val t0 t1 s0 s1 u0 u1
  obtain ⟨K6, H6⟩ := sRead_val t0 t1 s0 s1 u0 u1
  obtain ⟨K7, H7⟩ := iAddSpans_val p0 p1 q0 q1
  obtain ⟨K8, H8⟩ := sAddSpans_val p0 p1 q0 q1
  obtain ⟨K9, H9⟩ := iCompareSpans_val p0 p1 q0 q1
  obtain ⟨K10, H10⟩ := sCompareSpans_val p0 p1 q0 q1
  obtain ⟨K11, H11⟩ := iCommonSpan_val p0 p1 q0 q1
  obtain ⟨K12, H12⟩ := sCommonSpan_val p0 p1 q0 q1
  obtain ⟨K13, H13⟩ := iMakeSpan_val nu de
  obtain ⟨K14, H14⟩ := sMakeSpan_val nu de
  obtain ⟨K15, H15⟩ := iText_val r0 r1
  obtain ⟨K16, H16⟩ := sText_val r0 r1
  obtain ⟨K17, d1, d2, fi, H17⟩ := parse_ev l
  obtain ⟨K18, H18⟩ := IsSpan_val r0 r1
  obtain ⟨K19, H19⟩ := IsSpan_s r0 r1
  generalize hv1 : agreeT a0 a1 a2 a3 b0 b1 b2 b3 = v1 at H1 H2
  generalize hv2 : everyT a0 a1 a2 a3 b0 b1 b2 b3 = v2 at H3 H4
  generalize hv3 : readT t0 t1 s0 s1 u0 u1 = v3 at H5 H6
  generalize hv4 : addS p0 p1 q0 q1 = v4 at H7 H8
  generalize hv5 : cmpS p0 p1 q0 q1 = v5 at H9 H10
  generalize hv6 : comS p0 p1 q0 q1 = v6 at H11 H12
  generalize hv7 : makeS nu de = v7 at H13 H14
  have hx : (tellText r0 r1).2 = decide (isS r0 r1) := by
    unfold tellText
    by_cases h : isS r0 r1
    · rw [if_pos h, decide_eq_true h]
    · rw [if_neg h, decide_eq_false h]
  rw [← hx] at H18 H19
  have C1 : ∃ K, ∀ k, K ≤ k → v1.2.2 = true → ∃ x1 x2 xx, impl_ShownAfter.f k a0 a1 a2 a3 v1.1 v1.2.1 = some (x1, x2, xx) ∧ impl_ShownAfter.f k b0 b1 b2 b3 v1.1 v1.2.1 = some (x1, x2, xx) ∧ impl_FirstAgree.f k b0 b1 b2 b3 a0 a1 a2 a3 = some (v1.1, v1.2.1, true) ∧ ¬ v1.1 < 1 := by
    refine Ev.imp fun hp => ?_
    have h := hv1.trans (tri hp)
    obtain ⟨L1, G1⟩ := iShownAfter_val a0 a1 a2 a3 v1.1 v1.2.1
    obtain ⟨L2, G2⟩ := iShownAfter_val b0 b1 b2 b3 v1.1 v1.2.1
    obtain ⟨L3, G3⟩ := iFirstAgree_val b0 b1 b2 b3 a0 a1 a2 a3
    rw [← seen_same h] at G2
    rw [agree_swap h] at G3
    have := agree_pos h
    exact ⟨L1 + L2 + L3, fun k hk => ⟨_, _, _, G1 k (by omega), G2 k (by omega), G3 k (by omega), by omega⟩⟩
  have C2 : v1.2.2 = true → v2.2.2 = true → ¬ wrap64 (v1.1 * v2.2.1) > wrap64 (v2.1 * v1.2.1) := fun h h' => agree_before (hv1.trans (tri h)) (hv2.trans (tri h'))
  have C3 : ∃ K, ∀ k, K ≤ k → v3.2.2.2.2 = true → impl_ShownAfter.f k v3.1 v3.2.1 v3.2.2.1 v3.2.2.2.1 s0 s1 = some (u0, u1, true) ∧ impl_IsClock.f k v3.1 v3.2.1 v3.2.2.1 v3.2.2.2.1 = some true ∧ v3.1 = t0 ∧ v3.2.1 = t1 ∧ ¬ wrap64 (v3.2.2.1 * s0) ≥ wrap64 (v3.2.2.2.1 * s1) := by
    refine Ev.imp fun hp => ?_
    obtain ⟨f1, f2, f3, f4, f5⟩ := read_fact (hv3.trans (five_eq hp))
    obtain ⟨L1, G1⟩ := iShownAfter_val v3.1 v3.2.1 v3.2.2.1 v3.2.2.2.1 s0 s1
    obtain ⟨L2, G2⟩ := IsClock_val v3.1 v3.2.1 v3.2.2.1 v3.2.2.2.1
    rw [f1] at G1
    rw [decide_eq_true f2] at G2
    exact ⟨L1 + L2, fun k hk => ⟨G1 k (by omega), G2 k (by omega), f3, f4, f5⟩⟩
  have C4 : ∃ K, ∀ k, K ≤ k → v4.2.2 = true → ∃ X Y, laws_wMore.f p0 p1 q0 q1 = some (X, Y) ∧ wrap64 (v4.1 * Y) = wrap64 (X * v4.2.1) ∧ impl_IsSpan.f k v4.1 v4.2.1 = some true := by
    refine Ev.imp fun hp => ?_
    obtain ⟨X, Y, f1, f2, f3⟩ := add_fact (hv4.trans (tri hp))
    obtain ⟨L1, G1⟩ := IsSpan_val v4.1 v4.2.1
    rw [decide_eq_true f3] at G1
    exact ⟨L1, fun k hk => ⟨X, Y, f1, f2, G1 k hk⟩⟩
  have C5 : ∃ K, ∀ k, K ≤ k → v5.2 = true → impl_CompareSpans.f k q0 q1 p0 p1 = some (wrap64 (-v5.1), true) ∧ ((v5.1 = 0 ∧ p0 = q0 ∧ p1 = q1) ∨ (v5.1 ≠ 0 ∧ (p0 ≠ q0 ∨ p1 ≠ q1))) := by
    refine Ev.imp fun hp => ?_
    obtain ⟨f1, f2⟩ := cmp_fact (hv5.trans (two_eq hp))
    obtain ⟨L1, G1⟩ := iCompareSpans_val q0 q1 p0 p1
    rw [f1] at G1
    exact ⟨L1, fun k hk => ⟨G1 k hk, f2⟩⟩
  have C6 : ∃ K, ∀ k, K ≤ k → v6.2.2 = true → wrap64 (v6.2.1 * p0) ≠ 0 ∧ wrap64 (v6.2.1 * q0) ≠ 0 ∧ Int.tmod (wrap64 (v6.1 * p1)) (wrap64 (v6.2.1 * p0)) = 0 ∧ Int.tmod (wrap64 (v6.1 * q1)) (wrap64 (v6.2.1 * q0)) = 0 ∧ laws_wCommon.f k (wrap64 (Int.tdiv (wrap64 (v6.1 * p1)) (wrap64 (v6.2.1 * p0)))) (wrap64 (Int.tdiv (wrap64 (v6.1 * q1)) (wrap64 (v6.2.1 * q0)))) = some 1 := by
    refine Ev.imp fun hp => ?_
    obtain ⟨f1, f2, f3, f4, ⟨f5, f6⟩, f7⟩ := com_fact (hv6.trans (tri hp))
    obtain ⟨L1, G1⟩ := wCommon_val f5 f6
    rw [f7] at G1
    exact ⟨L1, fun k hk => ⟨f1, f2, f3, f4, G1 k hk⟩⟩
  have C7 : ∃ K, ∀ k, K ≤ k → v7.2.2 = true → ∃ wc, laws_wCommon.f k nu de = some wc ∧ wc ≠ 0 ∧ wrap64 (v7.1 * wrap64 (Int.tdiv de wc)) = wrap64 (wrap64 (Int.tdiv nu wc) * v7.2.1) := by
    refine Ev.imp fun hp => ?_
    obtain ⟨⟨f1, f2⟩, f3, f4⟩ := make_fact (hv7.trans (tri hp))
    obtain ⟨L1, G1⟩ := wCommon_val f1 (Int.le_of_lt f2)
    exact ⟨L1, fun k hk => ⟨_, G1 k hk, f3, f4⟩⟩
  have C8 : ∃ K, ∀ k, K ≤ k → (tellText r0 r1).2 = true → impl_ParseSpan.f k (tellText r0 r1).1 = some (r0, r1, true) ∧ (tellText r0 r1).1.size ≤ 281474976710656 := by
    refine Ev.imp fun hp => ?_
    have h : isS r0 r1 := by rw [hx] at hp; exact of_decide_eq_true hp
    have e : tellText r0 r1 = (textOf r0 r1, true) := by unfold tellText; rw [if_pos h]
    obtain ⟨L1, G1⟩ := parse_text h
    obtain ⟨ca, cb⟩ := isS_bd h
    rw [e]
    exact ⟨L1, fun k hk => ⟨G1 k hk, text_size ca (by omega)⟩⟩
  have C9 : l.size ≤ 1048576 → ∃ K, ∀ k, K ≤ k → fi = true → impl_SpanText.f k d1 d2 = some (l, true) := by
    intro hl
    refine Ev.imp fun hp => ?_
    obtain ⟨⟨t, e, ht'⟩, eb⟩ := text_back (hp ▸ (H17 K17 (Nat.le_refl _) hl).1)
    subst ht'
    refine ⟨K17, fun k hk => ?_⟩
    unfold impl_SpanText.f
    rw [at_rounds (g := fun k => impl_IsSpan.f k d1 d2) (fun k => impl_IsSpan.mono d1 d2 k) hk e]
    rw [← eb]
    rfl
  have C9' : ∃ K, ∀ k, K ≤ k → l.size ≤ 1048576 → fi = true → impl_SpanText.f k d1 d2 = some (l, true) := Ev.imp C9
  obtain ⟨M1, D1⟩ := C1
  obtain ⟨M3, D3⟩ := C3
  obtain ⟨M4, D4⟩ := C4
  obtain ⟨M5, D5⟩ := C5
  obtain ⟨M6, D6⟩ := C6
  obtain ⟨M7, D7⟩ := C7
  obtain ⟨M8, D8⟩ := C8
  obtain ⟨M9, D9⟩ := C9'
  have S : ∀ x ∈ [K1, K2, K3, K4, K5, K6, K7, K8, K9, K10, K11, K12, K13, K14, K15, K16, K17, K18, K19, M1, M3, M4, M5, M6, M7, M8, M9], x ≤ K1 + K2 + K3 + K4 + K5 + K6 + K7 + K8 + K9 + K10 + K11 + K12 + K13 + K14 + K15 + K16 + K17 + K18 + K19 + M1 + M3 + M4 + M5 + M6 + M7 + M8 + M9 := by
    intro x hx
    simp only [List.mem_cons, List.mem_nil_iff, or_false] at hx
    omega
  generalize K1 + K2 + K3 + K4 + K5 + K6 + K7 + K8 + K9 + K10 + K11 + K12 + K13 + K14 + K15 + K16 + K17 + K18 + K19 + M1 + M3 + M4 + M5 + M6 + M7 + M8 + M9 = k at S
  exact walkV k a0 a1 a2 a3 b0 b1 b2 b3 t0 t1 s0 s1 u0 u1 p0 p1 q0 q1 nu de r0 r1 v1.1 v1.2.1 v2.1 v2.2.1 v3.1 v3.2.1 v3.2.2.1 v3.2.2.2.1 v4.1 v4.2.1 v5.1 v6.1 v6.2.1 v7.1 v7.2.1 d1 d2 v1.2.2 v2.2.2 v3.2.2.2.2 v4.2.2 v5.2 v6.2.2 v7.2.2 (tellText r0 r1).2 fi w (tellText r0 r1).1 l ht he
    (H1 k (S _ (by simp))) (H2 k (S _ (by simp))) (H3 k (S _ (by simp))) (H4 k (S _ (by simp))) (D1 k (S _ (by simp))) C2 (H5 k (S _ (by simp))) (H6 k (S _ (by simp))) (D3 k (S _ (by simp)))
    (H7 k (S _ (by simp))) (H8 k (S _ (by simp))) (H9 k (S _ (by simp))) (H10 k (S _ (by simp))) (H11 k (S _ (by simp))) (H12 k (S _ (by simp))) (H13 k (S _ (by simp))) (H14 k (S _ (by simp))) (H15 k (S _ (by simp))) (H16 k (S _ (by simp)))
    (fun hl => (H17 k (S _ (by simp)) hl).1) (fun hl => (H17 k (S _ (by simp)) hl).2) (H18 k (S _ (by simp))) (H19 k (S _ (by simp)))
    (D4 k (S _ (by simp))) (D5 k (S _ (by simp))) (D6 k (S _ (by simp))) (D7 k (S _ (by simp))) (D8 k (S _ (by simp))) (D9 k (S _ (by simp)))

end Go.Proofs.YtdhifobbaniogabGreatDoor.Pure
