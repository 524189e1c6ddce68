/- For every two turns and span the program's ClockOfReadings answers as the reference does; no condition. -/
import Derived.Test.YtjjbockboifcbaaPFnExactClockOfReadingsx7
set_option linter.unusedVariables false
set_option linter.unusedSimpArgs false
namespace Go.Proofs.Ytjjbockboifcbaa.Pure
open Go.RowKit Go.Proofs.Ytjjbockboifcbaa.PFnExactClockOfReadings Go.Proofs.YtjjbockboifcbaaW.PrintWords Go.Proofs.YtjjbockboifcbaaW.PrintLast Go.Proofs.YtjjbockboifcbaaW.PrintMore

theorem Ev.up {α : Type} {g : Nat → Option α} {r : α} (h : Ev (fun k => g (k + 1)) r) : Ev g r := Ev.step (fun _ => rfl) h
/-- A clock. -/
def isC (a b c d : Int) : Prop := isT a b ∧ b ≤ 1000 ∧ (1 ≤ c ∧ c ≤ 1000) ∧ (1 ≤ d ∧ d ≤ 1000) ∧ gI c d = 1
instance (a b c d : Int) : Decidable (isC a b c d) := by unfold isC; exact inferInstance
theorem isC_bd {a b c d : Int} (h : isC a b c d) : (0 ≤ a ∧ a < b) ∧ (1 ≤ b ∧ b ≤ 1000) ∧ (1 ≤ c ∧ c ≤ 1000) ∧ (1 ≤ d ∧ d ≤ 1000) := by
  obtain ⟨⟨h1, h2, _⟩, h3, h4, h5, _⟩ := h
  omega
theorem IsClock_val (a b c d : Int) : Ev (fun k => impl_IsClock.f k a b c d) (decide (isC a b c d)) := by
  unfold impl_IsClock.f
  refine Ev.bind (IsTurn_val a b) ?_
  by_cases h1 : isT a b
  · simp only [decide_eq_true h1, if_true]
    by_cases h2 : b ≤ 1000
    · simp only [if_pos h2, within_val, Option.bind_some]
      by_cases h3 : 1 ≤ c ∧ c ≤ 1000
      · simp only [decide_eq_true h3, if_true]
        by_cases h4 : 1 ≤ d ∧ d ≤ 1000
        · simp only [decide_eq_true h4, if_true]
          refine Ev.bind (igcd_val (by omega) (by omega) (by omega) (by omega)) ⟨0, fun _ _ => ?_⟩
          unfold isC
          rw [show (gI c d == 1) = decide (gI c d = 1) from Bool.eq_iff_iff.mpr (by simp)]
          simp [h1, h2, h3, h4]
        · simp only [decide_eq_false h4]
          exact ⟨0, fun _ _ => by unfold isC; simp [h4]⟩
      · simp only [decide_eq_false h3]
        exact ⟨0, fun _ _ => by unfold isC; simp [h3]⟩
    · simp only [if_neg h2]
      exact ⟨0, fun _ _ => by unfold isC; simp [h2]⟩
  · simp only [decide_eq_false h1]
    exact ⟨0, fun _ _ => by unfold isC; simp [h1]⟩
/-- A span. -/
def isS (a b : Int) : Prop := (0 ≤ a ∧ a ≤ 1000000) ∧ (1 ≤ b ∧ b ≤ 10000) ∧ gI a b = 1
instance (a b : Int) : Decidable (isS a b) := by unfold isS; exact inferInstance
/-- A span in lowest terms, if it is one. -/
def spanT (n d : Int) : Int × Int × Bool := if isS (n / gI n d) (d / gI n d) then (n / gI n d, d / gI n d, true) else (0, 0, false)
theorem isS_bd {a b : Int} (h : isS a b) : (0 ≤ a ∧ a ≤ 1000000) ∧ (1 ≤ b ∧ b ≤ 10000) := ⟨h.1, h.2.1⟩
theorem IsSpan_val (a b : Int) : Ev (fun k => impl_IsSpan.f k a b) (decide (isS a b)) := by
  unfold impl_IsSpan.f
  simp only [within_val, Option.bind_some]
  by_cases h1 : 0 ≤ a ∧ a ≤ 1000000
  · simp only [decide_eq_true h1, if_true]
    by_cases h2 : 1 ≤ b ∧ b ≤ 10000
    · simp only [decide_eq_true h2, if_true]
      refine Ev.bind (igcd_val (by omega) (by omega) (by omega) (by omega)) ⟨0, fun _ _ => ?_⟩
      unfold isS
      rw [show (gI a b == 1) = decide (gI a b = 1) from Bool.eq_iff_iff.mpr (by simp)]
      simp [h1, h2]
    · simp only [decide_eq_false h2]
      exact ⟨0, fun _ _ => by unfold isS; simp [h2]⟩
  · simp only [decide_eq_false h1]
    exact ⟨0, fun _ _ => by unfold isS; simp [h1]⟩
theorem floorDiv_val {n d : Int} (hd : 0 < d) (hb : d ≤ 4611686018427387904) : ∃ q, impl_floorDiv.f n d = some (q, n % d) := by
  unfold impl_floorDiv.f
  obtain ⟨t1, t0⟩ := tmod_bd n hd
  have m0 : 0 ≤ n % d := Int.emod_nonneg _ (by omega)
  have m1 : n % d < d := Int.emod_lt_of_pos _ hd
  have e := Int.mul_tdiv_add_tmod n d
  have e2 : n % d = (Int.tmod n d) % d := by
    have : n % d = (Int.tmod n d + d * Int.tdiv n d) % d := by rw [Int.add_comm, e]
    rw [this, Int.add_mul_emod_self_left]
  rw [if_neg (by omega)]
  by_cases h : Int.tmod n d < 0
  · rw [if_pos h, wid (x := Int.tmod n d + d) (by omega) (by omega)]
    refine ⟨_, congrArg some (Prod.ext rfl ?_)⟩
    rw [e2, ← Int.add_emod_right, Int.emod_eq_of_lt (by omega) (by omega)]
  · rw [if_neg h]
    refine ⟨_, congrArg some (Prod.ext rfl ?_)⟩
    rw [e2, Int.emod_eq_of_lt (by omega) (by omega)]
theorem part_val {n d : Int} (hd : 0 < d) (hb : d ≤ 4611686018427387904) : Ev (fun k => impl_part.f k n d) (mkT n d) := by
  unfold impl_part.f
  have g0 := gI_pos (a := n % d) (show d ≠ 0 by omega)
  have m0 : 0 ≤ n % d := Int.emod_nonneg _ (by omega)
  have m1 : n % d < d := Int.emod_lt_of_pos _ hd
  have q0 : 0 ≤ d / gI (n % d) d := Int.ediv_nonneg (by omega) (by omega)
  have q1 : d / gI (n % d) d ≤ d := Int.ediv_le_self _ (by omega)
  have r0 : 0 ≤ n % d / gI (n % d) d := Int.ediv_nonneg (by omega) (by omega)
  have r1 : n % d / gI (n % d) d ≤ n % d := Int.ediv_le_self _ (by omega)
  obtain ⟨q, hq⟩ := floorDiv_val (n := n) hd hb
  simp only [hq, Option.bind_some]
  refine Ev.bind (igcd_val (by omega) (by omega) (by omega) (by omega)) ?_
  rw [if_neg (by omega), tdiv_nn _ m0, tdiv_nn _ (by omega), wid (x := d / gI (n % d) d) (by omega) (by omega), wid (x := n % d / gI (n % d) d) (by omega) (by omega)]
  exact ⟨0, fun _ _ => rfl⟩
theorem minus_val {a b c d : Int} (ha : -1000000000 ≤ a ∧ a ≤ 1000000000) (hb : 0 < b ∧ b ≤ 1000000000) (hc : -1000000000 ≤ c ∧ c ≤ 1000000000) (hd : 0 < d ∧ d ≤ 1000000000) : Ev (fun k => impl_Turn_minus.f k a b c d) (mkT (a * d - c * b) (b * d)) := by
  have e1 := mul_bd (N := 1000000000) ha (y := d) (by omega)
  have e2 := mul_bd (N := 1000000000) hc (y := b) (by omega)
  have e3 := mul_bd (M := 1000000000) (N := 1000000000) (x := b) (y := d) (by omega) (by omega)
  have e4 : 0 < b * d := Int.mul_pos hb.1 hd.1
  unfold impl_Turn_minus.f
  rw [wid (x := a * d) (by omega) (by omega), wid (x := c * b) (by omega) (by omega), wid (x := b * d) (by omega) (by omega), wid (x := a * d - c * b) (by omega) (by omega)]
  exact Ev.bind (part_val e4 (by omega)) ⟨0, fun _ _ => rfl⟩
theorem l1In_val (a b c : Int) : spec_l1In.f a b c = some (decide (b ≤ a ∧ a ≤ c)) := by
  unfold spec_l1In.f
  by_cases h : a ≥ b
  · have e : (b ≤ a ∧ a ≤ c) ↔ a ≤ c := ⟨fun x => x.2, fun x => ⟨h, x⟩⟩
    rw [if_pos h, decide_eq_decide.mpr e]
  · rw [if_neg h, decide_eq_false (fun x => h x.1)]
theorem diCommon_ev : ∀ (n : Nat) (a b : Int), 0 ≤ a → 0 ≤ b → b.toNat ≤ n → ∀ k, n < k → spec_diCommon.l0 k a b = some (gI a b)
  | 0, a, b, ha, hb, hn, k, hk => by
    obtain ⟨k, rfl⟩ : ∃ m, k = m + 1 := ⟨k - 1, by omega⟩
    have : b = 0 := by omega
    subst this
    simp only [spec_diCommon.l0]
    rw [if_neg (by omega)]
    unfold gI
    rw [Int.gcd_zero_right]; congr 1; omega
  | n + 1, a, b, ha, hb, hn, k, hk => by
    obtain ⟨k, rfl⟩ : ∃ m, k = m + 1 := ⟨k - 1, by omega⟩
    simp only [spec_diCommon.l0]
    by_cases h0 : b = 0
    · subst h0
      rw [if_neg (by omega)]
      unfold gI
      rw [Int.gcd_zero_right]; congr 1; omega
    · have h1 : 0 ≤ Int.tmod a b := by rw [tmod_nn _ ha]; exact Int.emod_nonneg _ h0
      have h2 : Int.tmod a b < b := by rw [tmod_nn _ ha]; exact Int.emod_lt_of_pos _ (by omega)
      rw [if_pos (by omega), if_neg h0, diCommon_ev n b (Int.tmod a b) hb h1 (by omega) k (by omega), gI_tmod]
theorem diCommon_val {a b : Int} (ha : 0 ≤ a) (hb : 0 ≤ b) : Ev (fun k => spec_diCommon.f k a b) (gI a b) :=
  ⟨b.toNat + 1, fun k hk => diCommon_ev b.toNat a b ha hb (Nat.le_refl _) k (by omega)⟩
theorem diGood_val (a b : Int) : Ev (fun k => spec_diGood.f k a b) (decide (isT a b)) := by
  unfold spec_diGood.f
  simp only [l1In_val, Option.bind_some]
  by_cases h1 : 1 ≤ b ∧ b ≤ 1000000
  · simp only [decide_eq_true h1, if_true]
    rw [wid (x := b - 1) (by omega) (by omega)]
    by_cases h2 : 0 ≤ a ∧ a ≤ b - 1
    · simp only [decide_eq_true h2, if_true]
      refine Ev.bind (diCommon_val h2.1 (by omega)) ?_
      refine ⟨0, fun _ _ => ?_⟩
      unfold isT
      rw [show (gI a b == 1) = decide (gI a b = 1) from Bool.eq_iff_iff.mpr (by simp)]
      simp [h1, h2]
    · simp only [decide_eq_false h2]
      exact ⟨0, fun _ _ => by unfold isT; simp [h2]⟩
  · simp only [decide_eq_false h1]
    exact ⟨0, fun _ _ => by unfold isT; simp [h1]⟩
theorem drClock_val (a b c d : Int) : Ev (fun k => spec_drClock.f k a b c d) (decide (isC a b c d)) := by
  unfold spec_drClock.f
  refine Ev.bind (diGood_val a b) ?_
  by_cases h1 : isT a b
  · simp only [decide_eq_true h1, if_true]
    by_cases h2 : b ≤ 1000
    · simp only [if_pos h2, l1In_val, Option.bind_some]
      by_cases h3 : 1 ≤ c ∧ c ≤ 1000
      · simp only [decide_eq_true h3, if_true]
        by_cases h4 : 1 ≤ d ∧ d ≤ 1000
        · simp only [decide_eq_true h4, if_true]
          refine Ev.bind (diCommon_val (by omega) (by omega)) ⟨0, fun _ _ => ?_⟩
          unfold isC
          rw [show (gI c d == 1) = decide (gI c d = 1) from Bool.eq_iff_iff.mpr (by simp)]
          simp [h1, h2, h3, h4]
        · simp only [decide_eq_false h4]
          exact ⟨0, fun _ _ => by unfold isC; simp [h4]⟩
      · simp only [decide_eq_false h3]
        exact ⟨0, fun _ _ => by unfold isC; simp [h3]⟩
    · simp only [if_neg h2]
      exact ⟨0, fun _ _ => by unfold isC; simp [h2]⟩
  · simp only [decide_eq_false h1]
    exact ⟨0, fun _ _ => by unfold isC; simp [h1]⟩
theorem drGood_val (a b : Int) : Ev (fun k => spec_drGood.f k a b) (decide (isS a b)) := by
  unfold spec_drGood.f
  simp only [l1In_val, Option.bind_some]
  by_cases h1 : 0 ≤ a ∧ a ≤ 1000000
  · simp only [decide_eq_true h1, if_true]
    by_cases h2 : 1 ≤ b ∧ b ≤ 10000
    · simp only [decide_eq_true h2, if_true]
      refine Ev.bind (diCommon_val h1.1 (by omega)) ⟨0, fun _ _ => ?_⟩
      unfold isS
      rw [show (gI a b == 1) = decide (gI a b = 1) from Bool.eq_iff_iff.mpr (by simp)]
      simp [h1, h2]
    · simp only [decide_eq_false h2]
      exact ⟨0, fun _ _ => by unfold isS; simp [h2]⟩
  · simp only [decide_eq_false h1]
    exact ⟨0, fun _ _ => by unfold isS; simp [h1]⟩
theorem eqTurn_refl (a b : Int) : laws_eqTurn.f a b a b = some true := by unfold laws_eqTurn.f; rw [if_pos rfl, if_pos rfl]
theorem eqClock_refl (a b c d : Int) : laws_eqClock.f a b c d a b c d = some true := by
  unfold laws_eqClock.f; rw [eqTurn_refl]; simp
theorem coprime_mul {p q s t : Int} (h1 : gI p q = 1) (h2 : gI s t = 1) (hp : 0 < p) (hq : 0 < q) (hs : 0 < s) (ht : 0 < t) :
    (p * t) / gI (p * t) (q * s) = p / gI p s * (t / gI t q) ∧ (q * s) / gI (p * t) (q * s) = q / gI t q * (s / gI p s) := by
  have ga := gI_pos (a := p) (show s ≠ 0 by omega)
  have gb := gI_pos (a := t) (show q ≠ 0 by omega)
  obtain ⟨x, hx⟩ := gI_dvd_left p s
  obtain ⟨y, hy⟩ := gI_dvd_right p s
  obtain ⟨u, hu⟩ := gI_dvd_left t q
  obtain ⟨v, hv⟩ := gI_dvd_right t q
  have ex : p / gI p s = x := Int.ediv_eq_of_eq_mul_right (by omega) hx
  have ey : s / gI p s = y := Int.ediv_eq_of_eq_mul_right (by omega) hy
  have eu : t / gI t q = u := Int.ediv_eq_of_eq_mul_right (by omega) hu
  have ev : q / gI t q = v := Int.ediv_eq_of_eq_mul_right (by omega) hv
  have cxy : gI x y = 1 := by have := gI_div ga (a := p) (b := s) rfl; rwa [ex, ey] at this
  have cuv : gI u v = 1 := by have := gI_div gb (a := t) (b := q) rfl; rwa [eu, ev] at this
  rw [ex, ey, eu, ev]
  generalize gI p s = a at *
  generalize gI t q = b at *
  -- all four pairs are coprime
  have dv : ∀ {m n m' n' : Int}, gI m n = 1 → m' ∣ m → n' ∣ n → Int.gcd m' n' = 1 := by
    intro m n m' n' h hm hn
    unfold gI at h
    have h0 : Int.gcd m n = 1 := by omega
    have : Int.gcd m' n' ∣ Int.gcd m n := Int.dvd_gcd (Int.dvd_trans (Int.gcd_dvd_left ..) hm) (Int.dvd_trans (Int.gcd_dvd_right ..) hn)
    rw [h0] at this
    exact Nat.dvd_one.mp this
  have cxv : Int.gcd x v = 1 := dv h1 ⟨a, by rw [hx, Int.mul_comm]⟩ ⟨b, by rw [hv, Int.mul_comm]⟩
  have cyu : Int.gcd y u = 1 := dv h2 ⟨a, by rw [hy, Int.mul_comm]⟩ ⟨b, by rw [hu, Int.mul_comm]⟩
  have cxy' : Int.gcd x y = 1 := by unfold gI at cxy; omega
  have cuv' : Int.gcd u v = 1 := by unfold gI at cuv; omega
  have cm : Int.gcd (x * u) (v * y) = 1 := by
    have c1 : Int.gcd x (v * y) = 1 := by
      rw [Int.gcd_mul_right_right_of_gcd_eq_one cxv]; exact cxy'
    have c2 : Int.gcd u (v * y) = 1 := by
      rw [Int.gcd_mul_right_right_of_gcd_eq_one cuv', Int.gcd_comm]; exact cyu
    rw [Int.gcd_comm] at c1 c2 ⊢
    rw [Int.gcd_mul_right_right_of_gcd_eq_one c1]; exact c2
  have eg : gI (p * t) (q * s) = a * b := by
    have e1 : p * t = a * b * (x * u) := by rw [hx, hu]; ac_rfl
    have e2 : q * s = a * b * (v * y) := by rw [hv, hy]; ac_rfl
    unfold gI
    rw [e1, e2, Int.gcd_mul_left, cm, Nat.mul_one]
    have : 0 < a * b := Int.mul_pos ga gb
    omega
  have pos : a * b ≠ 0 := by have : 0 < a * b := Int.mul_pos ga gb; omega
  rw [eg]
  exact ⟨Int.ediv_eq_of_eq_mul_right pos (by rw [hx, hu]; ac_rfl), Int.ediv_eq_of_eq_mul_right pos (by rw [hv, hy]; ac_rfl)⟩
/-- The clock that shows a / b first, c / d behind s / t. -/
def readT (a b s t c d : Int) : Int × Int × Int × Int × Bool :=
  let p := (mkT (c * b - a * d) (d * b)).1
  let q := (mkT (c * b - a * d) (d * b)).2
  if ((isT a b ∧ isT c d) ∧ isS s t ∧ s ≠ 0) ∧ isC a b ((p * t) / gI (p * t) (q * s)) ((q * s) / gI (p * t) (q * s)) then (a, b, (p * t) / gI (p * t) (q * s), (q * s) / gI (p * t) (q * s), true) else (0, 0, 0, 0, false)
theorem read_bd {a b c d : Int} (h : isT a b) (h' : isT c d) : 0 < d * b ∧ d * b ≤ 1000000000000 ∧ (0 ≤ a * d ∧ a * d < d * b) ∧ (0 ≤ c * b ∧ c * b < d * b) := by
  obtain ⟨⟨_, _⟩, ⟨_, _⟩, _⟩ := h
  obtain ⟨⟨_, _⟩, ⟨_, _⟩, _⟩ := h'
  refine ⟨Int.mul_pos (by omega) (by omega), Int.le_trans (Int.mul_le_mul (show d ≤ 1000000 by omega) (show b ≤ 1000000 by omega) (by omega) (by omega)) (by omega), ⟨Int.mul_nonneg (by omega) (by omega), ?_⟩, ⟨Int.mul_nonneg (by omega) (by omega), ?_⟩⟩
  · rw [Int.mul_comm d b]; exact Int.mul_lt_mul_of_pos_right (by omega) (by omega)
  · exact Int.mul_lt_mul_of_pos_right (by omega) (by omega)
theorem iRead_val (a b s t c d : Int) : Ev (fun k => impl_ClockOfReadings.f k a b s t c d) (readT a b s t c d) := by
  have no : Ev (fun k => impl_ClockOfReadings.j0 k true a b s t c d) (0, 0, 0, 0, false) := Ev.up ⟨0, fun _ _ => rfl⟩
  have hA : impl_areTurns.f [⟨a, b⟩, ⟨c, d⟩] = some (decide (isT a b ∧ isT c d)) := by
    unfold impl_areTurns.f
    simp only [List.all_cons, List.all_nil, Bool.and_true]
    by_cases ha : isT a b <;> by_cases hb : isT c d <;> simp [ha, hb]
  unfold impl_ClockOfReadings.f readT
  simp only [hA, Option.bind_some]
  by_cases h1 : isT a b ∧ isT c d
  · simp only [decide_eq_true h1, if_true]
    refine Ev.bind (IsSpan_val s t) ?_
    by_cases h2 : isS s t
    · simp only [decide_eq_true h2, if_true]
      by_cases h3 : s = 0
      · rw [if_neg (fun x => x.1.2.2 h3), show (s == 0) = true by simpa using h3]; exact no
      · rw [show (s == 0) = false by simpa using h3]
        obtain ⟨r1, r2, r3, r4⟩ := read_bd h1.1 h1.2
        obtain ⟨⟨_, _⟩, ⟨_, _⟩, _⟩ := id h1.1
        obtain ⟨⟨_, _⟩, ⟨_, _⟩, _⟩ := id h1.2
        obtain ⟨b1, b2⟩ := isS_bd h2
        refine Ev.up ?_
        simp only [impl_ClockOfReadings.j0, Bool.false_eq_true, if_false]
        refine Ev.bind (minus_val (by omega) (by omega) (by omega) (by omega)) ?_
        have L := mkT_low (c * b - a * d) r1
        have B : (mkT (c * b - a * d) (d * b)).2 ≤ d * b := Int.le_of_dvd r1 (mkT_dvd _)
        generalize mkT (c * b - a * d) (d * b) = z at L B ⊢
        obtain ⟨p, q⟩ := z
        dsimp only at L B ⊢
        obtain ⟨q0, p0, pq, _⟩ := id L
        have x1 : 0 ≤ p * t := Int.mul_nonneg p0 (by omega)
        have x2 := mul_bd (M := 1000000000000) (N := 10000) (x := p) (y := t) (by omega) (by omega)
        have x3 : 0 < q * s := Int.mul_pos q0 (by omega)
        have x4 := mul_bd (M := 1000000000000) (N := 1000000) (x := q) (y := s) (by omega) (by omega)
        rw [wid (x := p * t) (by omega) (by omega), wid (x := q * s) (by omega) (by omega)]
        have gp := gI_pos (a := p * t) (show q * s ≠ 0 by omega)
        have y1 : p * t / gI (p * t) (q * s) ≤ p * t := Int.ediv_le_self _ x1
        have y0 : 0 ≤ p * t / gI (p * t) (q * s) := Int.ediv_nonneg x1 (by omega)
        have z1 : q * s / gI (p * t) (q * s) ≤ q * s := Int.ediv_le_self _ (by omega)
        have z0 : 0 ≤ q * s / gI (p * t) (q * s) := Int.ediv_nonneg (by omega) (by omega)
        refine Ev.bind (igcd_val (by omega) (by omega) (by omega) (by omega)) ?_
        simp only [if_neg (show ¬ gI (p * t) (q * s) = 0 by omega)]
        rw [tdiv_nn _ x1, tdiv_nn _ (show 0 ≤ q * s by omega), wid (x := p * t / gI (p * t) (q * s)) (by omega) (by omega), wid (x := q * s / gI (p * t) (q * s)) (by omega) (by omega)]
        unfold impl_ifClock.f
        by_cases h4 : isC a b (p * t / gI (p * t) (q * s)) (q * s / gI (p * t) (q * s))
        · rw [if_pos ⟨⟨h1, h2, h3⟩, h4⟩]
          refine Ev.bind (Ev.bind (IsClock_val _ _ _ _) (r := (a, b, p * t / gI (p * t) (q * s), q * s / gI (p * t) (q * s), true)) ?_) ⟨0, fun _ _ => rfl⟩
          simp only [decide_eq_true h4, if_true]; exact ⟨0, fun _ _ => rfl⟩
        · rw [if_neg (fun x => h4 x.2)]
          refine Ev.bind (Ev.bind (IsClock_val _ _ _ _) (r := (0, 0, 0, 0, false)) ?_) ⟨0, fun _ _ => rfl⟩
          simp only [decide_eq_false h4]; exact ⟨0, fun _ _ => rfl⟩
    · simp only [decide_eq_false h2]
      rw [if_neg (fun x => h2 x.1.2.1)]; exact no
  · simp only [decide_eq_false h1]
    rw [if_neg (fun x => h1 x.1.1)]; exact no
theorem le_mul_pos {x y : Int} (hx : 0 ≤ x) (hy : 1 ≤ y) : x ≤ x * y := by
  have := Int.mul_le_mul_of_nonneg_left hy hx
  omega
theorem sRead_val (a b s t c d : Int) : Ev (fun k => spec_ClockOfReadings.f k a b s t c d) (readT a b s t c d) := by
  have no : Ev (fun k => spec_ClockOfReadings.j0 k true a b s t c d) (0, 0, 0, 0, false) := Ev.up ⟨0, fun _ _ => rfl⟩
  unfold spec_ClockOfReadings.f readT
  refine Ev.bind (diGood_val a b) ?_
  by_cases h1 : isT a b
  · simp only [decide_eq_true h1, if_true]
    refine Ev.bind (diGood_val c d) ?_
    by_cases h1' : isT c d
    · simp only [decide_eq_true h1', if_true]
      refine Ev.bind (drGood_val s t) ?_
      by_cases h2 : isS s t
      · simp only [decide_eq_true h2, if_true]
        by_cases h3 : s = 0
        · rw [if_neg (fun x => x.1.2.2 h3), show (s == 0) = true by simpa using h3]; exact no
        · rw [show (s == 0) = false by simpa using h3]
          obtain ⟨r1, r2, r3, r4⟩ := read_bd h1 h1'
          obtain ⟨b1, b2⟩ := isS_bd h2
          have ebd : b * d = d * b := Int.mul_comm _ _
          refine Ev.up ?_
          simp only [spec_ClockOfReadings.j0, Bool.false_eq_true, if_false]
          rw [ebd, wid (x := d * b) (by omega) (by omega), wid (x := c * b) (by omega) (by omega), wid (x := a * d) (by omega) (by omega), wid (x := c * b - a * d) (by omega) (by omega), wid (x := c * b - a * d + d * b) (by omega) (by omega), tmod_nn _ (by omega), Int.add_emod_right]
          simp only [if_neg (show ¬ d * b = 0 by omega)]
          have m0 : 0 ≤ (c * b - a * d) % (d * b) := Int.emod_nonneg _ (by omega)
          have m1 : (c * b - a * d) % (d * b) < d * b := Int.emod_lt_of_pos _ (by omega)
          have gp := gI_pos (a := (c * b - a * d) % (d * b)) (show d * b ≠ 0 by omega)
          have L := mkT_low (c * b - a * d) r1
          have B : (mkT (c * b - a * d) (d * b)).2 ≤ d * b := Int.le_of_dvd r1 (mkT_dvd _)
          have E1 : (mkT (c * b - a * d) (d * b)).1 = (c * b - a * d) % (d * b) / gI ((c * b - a * d) % (d * b)) (d * b) := rfl
          have E2 : (mkT (c * b - a * d) (d * b)).2 = d * b / gI ((c * b - a * d) % (d * b)) (d * b) := rfl
          by_cases h4 : (c * b - a * d) % (d * b) = 0
          · simp only [if_pos h4]
            have hp0 : (mkT (c * b - a * d) (d * b)).1 = 0 := by rw [E1, h4, Int.zero_ediv]
            rw [hp0, if_neg (fun x => by have := (isC_bd x.2).2.2.1; rw [Int.zero_mul, Int.zero_ediv] at this; omega)]
            exact ⟨0, fun _ _ => rfl⟩
          · simp only [if_neg h4]
            refine Ev.bind (diCommon_val m0 (by omega)) ?_
            simp only [if_neg (show ¬ gI ((c * b - a * d) % (d * b)) (d * b) = 0 by omega)]
            have w1 : (c * b - a * d) % (d * b) / gI ((c * b - a * d) % (d * b)) (d * b) ≤ (c * b - a * d) % (d * b) := Int.ediv_le_self _ m0
            rw [tdiv_nn _ m0, tdiv_nn _ (show 0 ≤ d * b by omega), wid (x := (c * b - a * d) % (d * b) / gI ((c * b - a * d) % (d * b)) (d * b)) (by have := L.2.1; omega) (by omega), wid (x := d * b / gI ((c * b - a * d) % (d * b)) (d * b)) (by have := L.1; omega) (by omega), ← E1, ← E2]
            have hp : (mkT (c * b - a * d) (d * b)).1 ≠ 0 := by
              intro h0
              have := mkT_eq (c * b - a * d) r1
              rw [h0, Int.zero_mul] at this
              rcases Int.mul_eq_zero.mp this.symm with h | h
              · have := L.1; omega
              · exact h4 h
            generalize mkT (c * b - a * d) (d * b) = z at L B hp ⊢
            obtain ⟨p, q⟩ := z
            dsimp only at L B hp ⊢
            obtain ⟨q0, p0, pq, cpq⟩ := L
            have ga := gI_pos (a := p) (show s ≠ 0 by omega)
            have gb := gI_pos (a := t) (show q ≠ 0 by omega)
            refine Ev.bind (diCommon_val p0 (by omega)) ?_
            refine Ev.bind (diCommon_val (show 0 ≤ t by omega) (by omega)) ?_
            simp only [if_neg (show ¬ gI p s = 0 by omega), if_neg (show ¬ gI t q = 0 by omega)]
            obtain ⟨c1, c2⟩ := coprime_mul cpq h2.2.2 (by omega) q0 (show 0 < s by omega) (show 0 < t by omega)
            have u0 : 0 ≤ p / gI p s := Int.ediv_nonneg p0 (by omega)
            have u1 : p / gI p s ≤ p := Int.ediv_le_self _ p0
            have v1 : 1 ≤ t / gI t q := Int.ediv_pos_of_pos_of_dvd (show 0 < t by omega) (by omega) (gI_dvd_left t q)
            have v2 : t / gI t q ≤ t := Int.ediv_le_self _ (by omega)
            have s1 : 1 ≤ s / gI p s := Int.ediv_pos_of_pos_of_dvd (show 0 < s by omega) (by omega) (gI_dvd_right p s)
            have s2 : s / gI p s ≤ s := Int.ediv_le_self _ (by omega)
            have q2 : 0 ≤ q / gI t q := Int.ediv_nonneg (by omega) (by omega)
            have q3 : q / gI t q ≤ q := Int.ediv_le_self _ (by omega)
            rw [tdiv_nn _ p0, tdiv_nn _ (show 0 ≤ q by omega), wid (x := p / gI p s) (by omega) (by omega), wid (x := q / gI t q) (by omega) (by omega), c1, c2]
            have J : ∀ f : Bool, Ev (fun k => spec_ClockOfReadings.j1 k p q (gI p s) (gI t q) f a b s t) (if f = true then (0, 0, 0, 0, false) else if isC a b (p / gI p s * (t / gI t q)) (q / gI t q * (s / gI p s)) then (a, b, p / gI p s * (t / gI t q), q / gI t q * (s / gI p s), true) else (0, 0, 0, 0, false)) := by
              intro f
              refine Ev.up ?_
              simp only [spec_ClockOfReadings.j1]
              cases f with
              | true => exact ⟨0, fun _ _ => rfl⟩
              | false =>
                simp only [Bool.false_eq_true, if_false, if_neg (show ¬ gI p s = 0 by omega), if_neg (show ¬ gI t q = 0 by omega)]
                have y1 := mul_bd (M := 1000000000000) (N := 10000) (x := p / gI p s) (y := t / gI t q) (by omega) (by omega)
                have y2 := mul_bd (M := 1000000000000) (N := 1000000) (x := q / gI t q) (y := s / gI p s) (by omega) (by omega)
                rw [tdiv_nn _ p0, tdiv_nn _ (show 0 ≤ q by omega), tdiv_nn _ (show 0 ≤ t by omega), tdiv_nn _ (show 0 ≤ s by omega), wid (x := p / gI p s) (by omega) (by omega), wid (x := q / gI t q) (by omega) (by omega), wid (x := t / gI t q) (by omega) (by omega), wid (x := s / gI p s) (by omega) (by omega), wid (x := p / gI p s * (t / gI t q)) (by omega) (by omega), wid (x := q / gI t q * (s / gI p s)) (by omega) (by omega)]
                refine Ev.bind (drClock_val _ _ _ _) ?_
                by_cases h5 : isC a b (p / gI p s * (t / gI t q)) (q / gI t q * (s / gI p s))
                · simp only [decide_eq_true h5, if_true, if_pos h5]; exact ⟨0, fun _ _ => rfl⟩
                · simp only [decide_eq_false h5, if_neg h5]; exact ⟨0, fun _ _ => rfl⟩
            by_cases h6 : p / gI p s > 1000
            · simp only [if_pos h6]
              have := J true
              rw [if_pos rfl] at this
              rw [if_neg (fun x => by have y := (isC_bd x.2).2.2.1; have := le_mul_pos u0 v1; omega)]
              exact this
            · simp only [if_neg h6]
              by_cases h7 : q / gI t q > 1000
              · have := J (decide (q / gI t q > 1000))
                rw [if_pos (decide_eq_true h7)] at this
                rw [if_neg (fun x => by have y := (isC_bd x.2).2.2.2; have := le_mul_pos q2 s1; omega)]
                exact this
              · have := J (decide (q / gI t q > 1000))
                rw [if_neg (by simpa using h7)] at this
                by_cases h5 : isC a b (p / gI p s * (t / gI t q)) (q / gI t q * (s / gI p s))
                · rw [if_pos h5] at this
                  rw [if_pos ⟨⟨⟨h1, h1'⟩, h2, h3⟩, h5⟩]; exact this
                · rw [if_neg h5] at this
                  rw [if_neg (fun x => h5 x.2)]; exact this
      · simp only [decide_eq_false h2]
        rw [if_neg (fun x => h2 x.1.2.1)]; exact no
    · simp only [decide_eq_false h1']
      rw [if_neg (fun x => h1' x.1.1.2)]; exact no
  · simp only [decide_eq_false h1]
    rw [if_neg (fun x => h1 x.1.1.1)]; exact no
theorem FnExactClockOfReadings : laws_FnExactClockOfReadings.Pure := by
  intro a b c d e f _ _ _ _ _ _
  obtain ⟨K1, h1⟩ := sRead_val a b c d e f
  obtain ⟨K2, h2⟩ := iRead_val a b c d e f
  refine ⟨max K1 K2, ?_⟩
  have e1 := h1 (max K1 K2) (by omega)
  have e2 := h2 (max K1 K2) (by omega)
  dsimp only at e1 e2
  unfold laws_FnExactClockOfReadings.f laws_toSpan.f laws_toTurn.f
  simp only [Option.bind_some, e1, e2, eqClock_refl]
  simp

end Go.Proofs.Ytjjbockboifcbaa.Pure
