/- Over all bytes: turns that are added, taken away, compared, mirrored, multiplied, parted and made come out as the reference's do, and each undoes the other; no condition. -/
import Derived.Test.YtjalknehgfomlaaVFnTurnsAdded
import Derived.Test.YtjalknehgfomlaaPFnTurnsAddedx11
set_option linter.unusedVariables false
set_option linter.unusedSimpArgs false
namespace Go.Proofs.Ytjalknehgfomlaa.Pure
open Go.RowKit Go.Proofs.Ytjalknehgfomlaa.PFnTurnsAdded Go.Proofs.YtjalknehgfomlaaW.PrintWords Go.Proofs.YtjalknehgfomlaaW.PrintLast Go.Proofs.YtjalknehgfomlaaW.PrintMore

/-! tmath2: sums and multiples of parts, one of the other -/
theorem mkT_sp (n : Int) {d : Int} (hd : 0 < d) : ∃ m, (mkT n d).1 * d = (mkT n d).2 * n + (mkT n d).2 * d * m := by
  have e := mkT_eq n hd
  have em := Int.mul_ediv_add_emod n d
  refine ⟨-(n / d), ?_⟩
  rw [e]
  generalize (mkT n d).2 = q
  have : n % d = n - d * (n / d) := by omega
  rw [this]
  grind
theorem mkT_pos (n : Int) {d : Int} (hd : 0 < d) : 0 < (mkT n d).2 := (mkT_low n hd).1
theorem mkT_mul (n k : Int) {d : Int} (hd : 0 < d) : mkT ((mkT n d).1 * k) (mkT n d).2 = mkT (n * k) d := by
  obtain ⟨m, h⟩ := mkT_sp n hd
  refine mkT_congr (m := m * k) (mkT_pos n hd) hd ?_
  grind
theorem mkT_add (n n' : Int) {d d' : Int} (hd : 0 < d) (hd' : 0 < d') : mkT ((mkT n d).1 * (mkT n' d').2 + (mkT n' d').1 * (mkT n d).2) ((mkT n d).2 * (mkT n' d').2) = mkT (n * d' + n' * d) (d * d') := by
  obtain ⟨m, h⟩ := mkT_sp n hd
  obtain ⟨m', h'⟩ := mkT_sp n' hd'
  refine mkT_congr (m := m + m') (Int.mul_pos (mkT_pos n hd) (mkT_pos n' hd')) (Int.mul_pos hd hd') ?_
  grind
theorem mkT_add_l (n p' : Int) {d q' : Int} (hd : 0 < d) (hq : 0 < q') : mkT ((mkT n d).1 * q' + p' * (mkT n d).2) ((mkT n d).2 * q') = mkT (n * q' + p' * d) (d * q') := by
  obtain ⟨m, h⟩ := mkT_sp n hd
  refine mkT_congr (m := m) (Int.mul_pos (mkT_pos n hd) hq) (Int.mul_pos hd hq) ?_
  grind
theorem mkT_add_r (n' p : Int) {d' q : Int} (hq : 0 < q) (hd' : 0 < d') : mkT (p * (mkT n' d').2 + (mkT n' d').1 * q) (q * (mkT n' d').2) = mkT (p * d' + n' * q) (q * d') := by
  obtain ⟨m, h⟩ := mkT_sp n' hd'
  refine mkT_congr (m := m) (Int.mul_pos hq (mkT_pos n' hd')) (Int.mul_pos hq hd') ?_
  grind
theorem mkT_sub_l (n p' : Int) {d q' : Int} (hd : 0 < d) (hq : 0 < q') : mkT ((mkT n d).1 * q' - p' * (mkT n d).2) ((mkT n d).2 * q') = mkT (n * q' - p' * d) (d * q') := by
  obtain ⟨m, h⟩ := mkT_sp n hd
  refine mkT_congr (m := m) (Int.mul_pos (mkT_pos n hd) hq) (Int.mul_pos hd hq) ?_
  grind
theorem mkT_sub_r (n' p : Int) {d' q : Int} (hq : 0 < q) (hd' : 0 < d') : mkT (p * (mkT n' d').2 - (mkT n' d').1 * q) (q * (mkT n' d').2) = mkT (p * d' - n' * q) (q * d') := by
  obtain ⟨m, h⟩ := mkT_sp n' hd'
  refine mkT_congr (m := -m) (Int.mul_pos hq (mkT_pos n' hd')) (Int.mul_pos hq hd') ?_
  grind
theorem mkT_cross {n d n' d' : Int} (hd : 0 < d) (hd' : 0 < d') (e : n * d' = n' * d) : mkT n d = mkT n' d' := mkT_congr (m := 0) hd hd' (by rw [e, Int.mul_zero, Int.add_zero])
/-- Twice mirrored. -/
theorem mirror_mirror {p q : Int} (h : low p q) : mkT ((mkT (p * (-1)) q).1 * (-1)) (mkT (p * (-1)) q).2 = (p, q) := by
  rw [mkT_mul _ _ h.1, show p * -1 * -1 = p by omega, mkT_self h]
/-! addmath: what is added is taken away again; multiples and parts -/
theorem mkT_zero {d : Int} (hd : 0 < d) : mkT 0 d = (0, 1) := mkT_of (m := 0) hd ⟨by decide, by decide, by decide, rfl⟩ (by omega)
theorem back_of {p q r s : Int} (h : low p q) (hs : 0 < s) :
    mkT ((mkT (p * s + r * q) (q * s)).1 * s - r * (mkT (p * s + r * q) (q * s)).2) ((mkT (p * s + r * q) (q * s)).2 * s) = (p, q) := by
  rw [mkT_sub_l _ _ (Int.mul_pos h.1 hs) hs, ← mkT_self h]
  refine mkT_cross (Int.mul_pos (Int.mul_pos h.1 hs) hs) h.1 ?_
  grind
theorem none_of {p q : Int} (hq : 0 < q) : mkT (p * (mkT (p * (-1)) q).2 + (mkT (p * (-1)) q).1 * q) (q * (mkT (p * (-1)) q).2) = (0, 1) := by
  rw [mkT_add_r _ _ hq hq, ← mkT_zero (Int.mul_pos hq hq)]
  refine mkT_cross (Int.mul_pos hq hq) (Int.mul_pos hq hq) ?_
  grind
theorem add_comm_of (p q r s : Int) : mkT (r * q + p * s) (s * q) = mkT (p * s + r * q) (q * s) := by rw [Int.add_comm, Int.mul_comm s q]
theorem whole_of {p q k : Int} (h : low p q) (hk : 0 < k) : mkT ((mkT p (q * k)).1 * k) (mkT p (q * k)).2 = (p, q) := by
  rw [mkT_mul _ _ (Int.mul_pos h.1 hk), ← mkT_self h]
  refine mkT_cross (Int.mul_pos h.1 hk) h.1 ?_
  grind
theorem part_small {p q k : Int} (h : low p q) (hk : 0 < k) : (mkT p (q * k)).1 * k < (mkT p (q * k)).2 := by
  have hd := Int.mul_pos h.1 hk
  have e := mkT_eq p hd
  have l := mkT_low p hd
  have h1 : p % (q * k) = p := by
    refine Int.emod_eq_of_lt h.2.1 (Int.lt_of_lt_of_le h.2.2.1 ?_)
    have := Int.mul_le_mul_of_nonneg_left (show 1 ≤ k by omega) (Int.le_of_lt h.1)
    omega
  rw [h1] at e
  generalize (mkT p (q * k)).1 = x at e l
  generalize (mkT p (q * k)).2 = y at e l
  have h2 : y * p < y * q := Int.mul_lt_mul_of_pos_left h.2.2.1 l.1
  refine Int.lt_of_mul_lt_mul_right (a := q) ?_ (Int.le_of_lt h.1)
  rw [show x * k * q = x * (q * k) by grind, e]
  exact h2
theorem made_mod (n : Int) {d : Int} (hd : 0 < d) : d % (mkT n d).2 = 0 ∧ (n - (mkT n d).1 * (d / (mkT n d).2)) % d = 0 := by
  have e := mkT_eq n hd
  have l := mkT_low n hd
  obtain ⟨g, hg⟩ := mkT_dvd n (d := d)
  have em := Int.mul_ediv_add_emod n d
  refine ⟨Int.emod_eq_zero_of_dvd ⟨g, hg⟩, ?_⟩
  generalize (mkT n d).1 = x at *
  generalize (mkT n d).2 = y at *
  have y0 : 0 < y := l.1
  have h1 : d / y = g := Int.ediv_eq_of_eq_mul_right (by omega) hg
  have h2 : x * g = n % d := by
    refine Int.eq_of_mul_eq_mul_right (a := y) (by omega) ?_
    rw [show x * g * y = x * (y * g) by grind, ← hg, e, Int.mul_comm]
  rw [h1, h2]
  exact Int.emod_eq_zero_of_dvd ⟨n / d, by omega⟩
theorem Ev.up {α : Type} {g : Nat → Option α} {r : α} (h : Ev (fun k => g (k + 1)) r) : Ev g r := Ev.step (fun _ => rfl) h
theorem floorDiv_val {n d : Int} (hd : 0 < d) (hb : d ≤ 4611686018427387904) : ∃ q, impl_floorDiv.f n d = some (q, n % d) := by
  unfold impl_floorDiv.f
  obtain ⟨t1, t0⟩ := tmod_bd n hd
  have m0 : 0 ≤ n % d := Int.emod_nonneg _ (by omega)
  have m1 : n % d < d := Int.emod_lt_of_pos _ hd
  have e := Int.mul_tdiv_add_tmod n d
  have e2 : n % d = (Int.tmod n d) % d := by
    have : n % d = (Int.tmod n d + d * Int.tdiv n d) % d := by rw [Int.add_comm, e]
    rw [this, Int.add_mul_emod_self_left]
  rw [if_neg (by omega)]
  by_cases h : Int.tmod n d < 0
  · rw [if_pos h, wid (x := Int.tmod n d + d) (by omega) (by omega)]
    refine ⟨_, congrArg some (Prod.ext rfl ?_)⟩
    rw [e2, ← Int.add_emod_right, Int.emod_eq_of_lt (by omega) (by omega)]
  · rw [if_neg h]
    refine ⟨_, congrArg some (Prod.ext rfl ?_)⟩
    rw [e2, Int.emod_eq_of_lt (by omega) (by omega)]
theorem part_val {n d : Int} (hd : 0 < d) (hb : d ≤ 4611686018427387904) : Ev (fun k => impl_part.f k n d) (mkT n d) := by
  unfold impl_part.f
  have g0 := gI_pos (a := n % d) (show d ≠ 0 by omega)
  have m0 : 0 ≤ n % d := Int.emod_nonneg _ (by omega)
  have m1 : n % d < d := Int.emod_lt_of_pos _ hd
  have q0 : 0 ≤ d / gI (n % d) d := Int.ediv_nonneg (by omega) (by omega)
  have q1 : d / gI (n % d) d ≤ d := Int.ediv_le_self _ (by omega)
  have r0 : 0 ≤ n % d / gI (n % d) d := Int.ediv_nonneg (by omega) (by omega)
  have r1 : n % d / gI (n % d) d ≤ n % d := Int.ediv_le_self _ (by omega)
  obtain ⟨q, hq⟩ := floorDiv_val (n := n) hd hb
  simp only [hq, Option.bind_some]
  refine Ev.bind (igcd_val (by omega) (by omega) (by omega) (by omega)) ?_
  rw [if_neg (by omega), tdiv_nn _ m0, tdiv_nn _ (by omega), wid (x := d / gI (n % d) d) (by omega) (by omega), wid (x := n % d / gI (n % d) d) (by omega) (by omega)]
  exact ⟨0, fun _ _ => rfl⟩
theorem plus_val {a b c d : Int} (ha : -1000000000 ≤ a ∧ a ≤ 1000000000) (hb : 0 < b ∧ b ≤ 1000000000) (hc : -1000000000 ≤ c ∧ c ≤ 1000000000) (hd : 0 < d ∧ d ≤ 1000000000) : Ev (fun k => impl_Turn_plus.f k a b c d) (mkT (a * d + c * b) (b * d)) := by
  have e1 := mul_bd (N := 1000000000) ha (y := d) (by omega)
  have e2 := mul_bd (N := 1000000000) hc (y := b) (by omega)
  have e3 := mul_bd (M := 1000000000) (N := 1000000000) (x := b) (y := d) (by omega) (by omega)
  have e4 : 0 < b * d := Int.mul_pos hb.1 hd.1
  unfold impl_Turn_plus.f
  rw [wid (x := a * d) (by omega) (by omega), wid (x := c * b) (by omega) (by omega), wid (x := b * d) (by omega) (by omega), wid (x := a * d + c * b) (by omega) (by omega)]
  exact Ev.bind (part_val e4 (by omega)) ⟨0, fun _ _ => rfl⟩
theorem minus_val {a b c d : Int} (ha : -1000000000 ≤ a ∧ a ≤ 1000000000) (hb : 0 < b ∧ b ≤ 1000000000) (hc : -1000000000 ≤ c ∧ c ≤ 1000000000) (hd : 0 < d ∧ d ≤ 1000000000) : Ev (fun k => impl_Turn_minus.f k a b c d) (mkT (a * d - c * b) (b * d)) := by
  have e1 := mul_bd (N := 1000000000) ha (y := d) (by omega)
  have e2 := mul_bd (N := 1000000000) hc (y := b) (by omega)
  have e3 := mul_bd (M := 1000000000) (N := 1000000000) (x := b) (y := d) (by omega) (by omega)
  have e4 : 0 < b * d := Int.mul_pos hb.1 hd.1
  unfold impl_Turn_minus.f
  rw [wid (x := a * d) (by omega) (by omega), wid (x := c * b) (by omega) (by omega), wid (x := b * d) (by omega) (by omega), wid (x := a * d - c * b) (by omega) (by omega)]
  exact Ev.bind (part_val e4 (by omega)) ⟨0, fun _ _ => rfl⟩
theorem times_val {a b k : Int} (ha : -1000000000 ≤ a ∧ a ≤ 1000000000) (hb : 0 < b ∧ b ≤ 1000000000) (hk : -1000000000 ≤ k ∧ k ≤ 1000000000) : Ev (fun n => impl_Turn_times.f n a b k) (mkT (a * k) b) := by
  have e1 := mul_bd ha hk
  unfold impl_Turn_times.f
  rw [wid (x := a * k) (by omega) (by omega)]
  exact Ev.bind (part_val hb.1 (by omega)) ⟨0, fun _ _ => rfl⟩
theorem mirror_val {a b : Int} (ha : -1000000000 ≤ a ∧ a ≤ 1000000000) (hb : 0 < b ∧ b ≤ 1000000000) : Ev (fun n => impl_Turn_mirror.f n a b) (mkT (a * (-1)) b) := by
  unfold impl_Turn_mirror.f
  exact Ev.bind (times_val ha hb (by omega)) ⟨0, fun _ _ => rfl⟩
theorem diCommon_ev : ∀ (n : Nat) (a b : Int), 0 ≤ a → 0 ≤ b → b.toNat ≤ n → ∀ k, n < k → spec_diCommon.l0 k a b = some (gI a b)
  | 0, a, b, ha, hb, hn, k, hk => by
    obtain ⟨k, rfl⟩ : ∃ m, k = m + 1 := ⟨k - 1, by omega⟩
    have : b = 0 := by omega
    subst this
    simp only [spec_diCommon.l0]
    rw [if_neg (by omega)]
    unfold gI
    rw [Int.gcd_zero_right]; congr 1; omega
  | n + 1, a, b, ha, hb, hn, k, hk => by
    obtain ⟨k, rfl⟩ : ∃ m, k = m + 1 := ⟨k - 1, by omega⟩
    simp only [spec_diCommon.l0]
    by_cases h0 : b = 0
    · subst h0
      rw [if_neg (by omega)]
      unfold gI
      rw [Int.gcd_zero_right]; congr 1; omega
    · have h1 : 0 ≤ Int.tmod a b := by rw [tmod_nn _ ha]; exact Int.emod_nonneg _ h0
      have h2 : Int.tmod a b < b := by rw [tmod_nn _ ha]; exact Int.emod_lt_of_pos _ (by omega)
      rw [if_pos (by omega), if_neg h0, diCommon_ev n b (Int.tmod a b) hb h1 (by omega) k (by omega), gI_tmod]
theorem diCommon_val {a b : Int} (ha : 0 ≤ a) (hb : 0 ≤ b) : Ev (fun k => spec_diCommon.f k a b) (gI a b) :=
  ⟨b.toNat + 1, fun k hk => diCommon_ev b.toNat a b ha hb (Nat.le_refl _) k (by omega)⟩
/-- What diMake tells of a part in lowest terms: it, if it is a turn. -/
def tell (t : Int × Int) : Int × Int × Bool := if t.2 > 1000000 then (0, 0, false) else (t.1, t.2, true)
theorem norm_mod (n : Int) {d : Int} (hd : 0 < d) : (Int.tmod n d + d) % d = n % d := by
  rw [Int.add_emod_right]
  have e := Int.mul_tdiv_add_tmod n d
  have : n % d = (Int.tmod n d + d * Int.tdiv n d) % d := by rw [Int.add_comm, e]
  rw [this, Int.add_mul_emod_self_left]
theorem diMake_val {n d : Int} (hd : 0 < d) (hb : d ≤ 4611686018427387904) : Ev (fun k => spec_diMake.f k n d) (tell (mkT n d)) := by
  unfold spec_diMake.f
  obtain ⟨t1, t0⟩ := tmod_bd n hd
  have g0 := gI_pos (a := n % d) (show d ≠ 0 by omega)
  have m0 : 0 ≤ n % d := Int.emod_nonneg _ (by omega)
  have m1 : n % d < d := Int.emod_lt_of_pos _ hd
  have q0 : 0 ≤ d / gI (n % d) d := Int.ediv_nonneg (by omega) (by omega)
  have q1 : d / gI (n % d) d ≤ d := Int.ediv_le_self _ (by omega)
  have r0 : 0 ≤ n % d / gI (n % d) d := Int.ediv_nonneg (by omega) (by omega)
  have r1 : n % d / gI (n % d) d ≤ n % d := Int.ediv_le_self _ (by omega)
  simp only [if_neg (show ¬ d = 0 by omega)]
  rw [wid (x := Int.tmod n d + d) (by omega) (by omega), tmod_nn _ (show 0 ≤ Int.tmod n d + d by omega), norm_mod n hd]
  refine Ev.bind (diCommon_val m0 (by omega)) ?_
  rw [if_neg (by omega), tdiv_nn _ m0, tdiv_nn _ (by omega), wid (x := d / gI (n % d) d) (by omega) (by omega), wid (x := n % d / gI (n % d) d) (by omega) (by omega)]
  refine ⟨0, fun _ _ => ?_⟩
  unfold tell mkT
  dsimp only
  split <;> rfl
theorem diAdd_val {a b c d k : Int} (ha : -1000000000 ≤ a ∧ a ≤ 1000000000) (hb : 0 < b ∧ b ≤ 1000000000) (hc : -1000000 ≤ c ∧ c ≤ 1000000) (hk : -1000 ≤ k ∧ k ≤ 1000) (hd : 0 < d ∧ d ≤ 1000000000) : Ev (fun n => spec_diAdd.f n a b c d k) (tell (mkT (a * d + k * c * b) (b * d))) := by
  have e1 := mul_bd (N := 1000000000) ha (y := d) (by omega)
  have e5 := mul_bd (M := 1000) (N := 1000000) (x := k) (y := c) hk hc
  have e2 := mul_bd (M := 1000000000) (N := 1000000000) (x := k * c) (y := b) (by omega) (by omega)
  have e3 := mul_bd (M := 1000000000) (N := 1000000000) (x := b) (y := d) (by omega) (by omega)
  have e4 : 0 < b * d := Int.mul_pos hb.1 hd.1
  unfold spec_diAdd.f
  rw [wid (x := k * c) (by omega) (by omega), wid (x := a * d) (by omega) (by omega), wid (x := k * c * b) (by omega) (by omega), wid (x := b * d) (by omega) (by omega), wid (x := a * d + k * c * b) (by omega) (by omega)]
  exact Ev.bind (diMake_val e4 (by omega)) ⟨0, fun _ _ => rfl⟩
theorem mkT_small (n : Int) {d : Int} (hd : 0 < d) : (mkT n d).2 ≤ d := Int.le_of_dvd hd (mkT_dvd n)
theorem tell_small (n : Int) {d : Int} (hd : 0 < d) (h : d ≤ 1000000) : tell (mkT n d) = ((mkT n d).1, (mkT n d).2, true) := by
  have := mkT_small n hd
  unfold tell
  rw [if_neg (by omega)]
theorem diTimes_val {a b k : Int} (ha : -1000000000 ≤ a ∧ a ≤ 1000000000) (hb : 0 < b ∧ b ≤ 1000000) (hk : -1000000000 ≤ k ∧ k ≤ 1000000000) : Ev (fun n => spec_diTimes.f n a b k) (mkT (a * k) b) := by
  have e1 := mul_bd ha hk
  unfold spec_diTimes.f
  rw [wid (x := a * k) (by omega) (by omega)]
  refine Ev.bind (diMake_val hb.1 (by omega)) ⟨0, fun _ _ => ?_⟩
  rw [tell_small _ hb.1 hb.2]
theorem diMirror_val {a b : Int} (ha : -1000000000 ≤ a ∧ a ≤ 1000000000) (hb : 0 < b ∧ b ≤ 1000000) : Ev (fun n => spec_diMirror.f n a b) (mkT (a * (-1)) b) := by
  unfold spec_diMirror.f
  exact Ev.bind (diTimes_val ha hb (by omega)) ⟨0, fun _ _ => rfl⟩
theorem l1In_val (a b c : Int) : spec_l1In.f a b c = some (decide (b ≤ a ∧ a ≤ c)) := by
  unfold spec_l1In.f
  by_cases h : a ≥ b
  · have e : (b ≤ a ∧ a ≤ c) ↔ a ≤ c := ⟨fun x => x.2, fun x => ⟨h, x⟩⟩
    rw [if_pos h, decide_eq_decide.mpr e]
  · rw [if_neg h, decide_eq_false (fun x => h x.1)]
theorem diGood_val (a b : Int) : Ev (fun k => spec_diGood.f k a b) (decide (isT a b)) := by
  unfold spec_diGood.f
  simp only [l1In_val, Option.bind_some]
  by_cases h1 : 1 ≤ b ∧ b ≤ 1000000
  · simp only [decide_eq_true h1, if_true]
    rw [wid (x := b - 1) (by omega) (by omega)]
    by_cases h2 : 0 ≤ a ∧ a ≤ b - 1
    · simp only [decide_eq_true h2, if_true]
      refine Ev.bind (diCommon_val h2.1 (by omega)) ?_
      refine ⟨0, fun _ _ => ?_⟩
      unfold isT
      rw [show (gI a b == 1) = decide (gI a b = 1) from Bool.eq_iff_iff.mpr (by simp)]
      simp [h1, h2]
    · simp only [decide_eq_false h2]
      exact ⟨0, fun _ _ => by unfold isT; simp [h2]⟩
  · simp only [decide_eq_false h1]
    exact ⟨0, fun _ _ => by unfold isT; simp [h1]⟩
/-! lcur: whatever bytes are given, choices are drawn -/
theorem u64_bd (n : Int) : 0 ≤ IntKind.u64.wrap n ∧ IntKind.u64.wrap n < 18446744073709551616 := by
  rw [IntKind.wrap_u64]; omega
theorem and255 (n : Int) : 0 ≤ Go.bits .and .u64 (IntKind.u64.wrap n / 1099511627776) 255 ∧ Go.bits .and .u64 (IntKind.u64.wrap n / 1099511627776) 255 ≤ 255 := by
  have h := u64_bd n
  have e := bits_mask .u64 64 (by decide) (fun n h0 h1 => by rw [IntKind.wrap_u64]; omega) 8 (by decide) (IntKind.u64.wrap n / 1099511627776) (by omega) (by omega)
  have e2 : Go.bits .and .u64 (IntKind.u64.wrap n / 1099511627776) 255 = (IntKind.u64.wrap n / 1099511627776) % 256 := e
  rw [e2]; omega
def bytesOk (l : List Int) : Prop := ∀ x ∈ l, 0 ≤ x ∧ x ≤ 255
theorem rd_ok {l : List Int} (hl : bytesOk l) {i : Int} (h0 : 0 ≤ i) (h1 : i < (l.length : Int)) : 0 ≤ rd l i ∧ rd l i ≤ 255 := by
  have hi : i.toNat < l.length := by omega
  have e : rd l i = l[i.toNat] := by unfold rd; rw [List.getD_eq_getElem?_getD, List.getElem?_eq_getElem hi]; rfl
  rw [e]; exact hl _ (List.getElem_mem hi)
theorem next_tot {l : List Int} (hl : bytesOk l) {i : Int} (h0 : 0 ≤ i) (h1 : i ≤ 1000000) (s : Int) : ∃ x s', spec_l1Cur_next.f l i s = some (x, i + 1, s') ∧ 0 ≤ x ∧ x ≤ 255 := by
  unfold spec_l1Cur_next.f
  rw [wid (x := i + 1) (by omega) (by omega)]
  by_cases a : i < (l.length : Int)
  · have r := rd_ok hl h0 a
    rw [if_pos a, if_pos h0]
    by_cases b : i + 1 ≤ (l.length : Int)
    · rw [if_pos b, wid (x := rd l i) (by omega) (by omega)]
      exact ⟨_, _, rfl, r⟩
    · omega
  · rw [if_neg a]
    by_cases b : i + 1 ≤ (l.length : Int)
    · omega
    · rw [if_neg b]
      have z := and255 ((IntKind.u64.wrap (IntKind.u64.wrap (s * 6364136223846793005))) + 1442695040888963407)
      exact ⟨_, _, rfl, by rw [wid (by omega) (by omega)]; exact z⟩
theorem pick_tot {l : List Int} (hl : bytesOk l) {i : Int} (h0 : 0 ≤ i) (h1 : i ≤ 999990) (s : Int) {n : Int} (hn : n ≤ 1000000) : ∃ x j s', spec_l1Cur_pick.f l i s n = some (x, j, s') ∧ (0 ≤ x ∧ (x < n ∨ x = 0)) ∧ i ≤ j ∧ j ≤ i + 2 := by
  unfold spec_l1Cur_pick.f
  by_cases a : n ≤ 1
  · rw [if_pos a]
    exact ⟨_, _, _, rfl, ⟨by omega, Or.inr rfl⟩, by omega, by omega⟩
  · rw [if_neg a]
    obtain ⟨x, s', e, b⟩ := next_tot hl h0 (by omega) s
    rw [e]
    simp only [Option.bind_some]
    by_cases c : n > 200
    · obtain ⟨x', s'', e', b'⟩ := next_tot hl (i := i + 1) (by omega) (by omega) s'
      rw [if_pos c, e']
      simp only [Option.bind_some]
      rw [if_neg (by omega), wid (x := x * 256) (by omega) (by omega), wid (x := x * 256 + x') (by omega) (by omega), tmod_nn _ (by omega)]
      exact ⟨_, _, _, rfl, ⟨Int.emod_nonneg _ (by omega), Or.inl (Int.emod_lt_of_pos _ (by omega))⟩, by omega, by omega⟩
    · rw [if_neg c, if_neg (by omega), tmod_nn _ (by omega)]
      exact ⟨_, _, _, rfl, ⟨Int.emod_nonneg _ (by omega), Or.inl (Int.emod_lt_of_pos _ (by omega))⟩, by omega, by omega⟩
theorem among_tot {l : List Int} (hl : bytesOk l) {i : Int} (h0 : 0 ≤ i) (h1 : i ≤ 999990) (s : Int) (xs : List Int) (hx : 0 < xs.length ∧ xs.length ≤ 1000) : ∃ x j s', spec_l1Cur_among.f l i s xs = some (x, j, s') ∧ i ≤ j ∧ j ≤ i + 2 := by
  obtain ⟨x, j, s', e, b, c⟩ := pick_tot hl h0 h1 s (n := (xs.length : Int)) (by omega)
  unfold spec_l1Cur_among.f
  rw [e]
  simp only [Option.bind_some]
  rw [if_pos b.1, if_pos (by omega)]
  exact ⟨_, _, _, rfl, c⟩
theorem sureTurn_tot {l : List Int} (hl : bytesOk l) {i : Int} (h0 : 0 ≤ i) (h1 : i ≤ 999980) (s : Int) : ∃ a b j s', Ev (fun k => spec_l1Cur_sureTurn.f k l i s) (a, b, j, s') ∧ i ≤ j ∧ j ≤ i + 4 := by
  unfold spec_l1Cur_sureTurn.f
  simp only [Option.bind_some]
  obtain ⟨x, j, s', e, b, c⟩ := pick_tot hl h0 (by omega) s (n := (([1, 2, 3, 4, 6, 8, 11, 12, 13, 24, 60, 143, 720, 719, 7, 5] : List Int).length : Int)) (by decide)
  rw [e]
  simp only [Option.bind_some]
  have hb : x < (([1, 2, 3, 4, 6, 8, 11, 12, 13, 24, 60, 143, 720, 719, 7, 5] : List Int).length : Int) := by
    have : (([1, 2, 3, 4, 6, 8, 11, 12, 13, 24, 60, 143, 720, 719, 7, 5] : List Int).length : Int) = 16 := rfl
    omega
  simp only [if_pos b.1, if_pos hb]
  have hd : 0 < rd [1, 2, 3, 4, 6, 8, 11, 12, 13, 24, 60, 143, 720, 719, 7, 5] x ∧ rd [1, 2, 3, 4, 6, 8, 11, 12, 13, 24, 60, 143, 720, 719, 7, 5] x ≤ 720 := by
    have hx : x < 16 := hb
    have hx0 := b.1
    obtain ⟨n, rfl⟩ := Int.eq_ofNat_of_zero_le hx0
    have hn : n < 16 := by omega
    have : ∀ m : Fin 16, 0 < rd [1, 2, 3, 4, 6, 8, 11, 12, 13, 24, 60, 143, 720, 719, 7, 5] (m.val : Int) ∧ rd [1, 2, 3, 4, 6, 8, 11, 12, 13, 24, 60, 143, 720, 719, 7, 5] (m.val : Int) ≤ 720 := by decide
    exact this ⟨n, hn⟩
  generalize rd [1, 2, 3, 4, 6, 8, 11, 12, 13, 24, 60, 143, 720, 719, 7, 5] x = d at hd
  obtain ⟨y, j', s'', e', b', c'⟩ := pick_tot hl (i := j) (by omega) (by omega) s' (n := d) (by omega)
  rw [e']
  simp only [Option.bind_some]
  exact ⟨_, _, _, _, Ev.bind (diMake_val hd.1 (by omega)) ⟨0, fun _ _ => rfl⟩, (by (try dsimp only); omega), (by (try dsimp only); omega)⟩
theorem turn_tot {l : List Int} (hl : bytesOk l) {i : Int} (h0 : 0 ≤ i) (h1 : i ≤ 999970) (s : Int) : ∃ a b j s', Ev (fun k => spec_l1Cur_turn.f k l i s) (a, b, j, s') ∧ i ≤ j ∧ j ≤ i + 6 := by
  unfold spec_l1Cur_turn.f
  obtain ⟨x, j, s', e, b, c⟩ := pick_tot hl h0 (by omega) s (n := 16) (by omega)
  rw [e]
  simp only [Option.bind_some]
  by_cases x0 : x = 0
  · simp only [if_pos x0]
    obtain ⟨y, j', s2, e2, c2⟩ := among_tot hl (i := j) (by omega) (by omega) s' [(-1), 0, 2, 5, 4611686018427387904] (by decide)
    rw [e2]
    simp only [Option.bind_some]
    obtain ⟨z, j3, s3, e3, c3⟩ := among_tot hl (i := j') (by omega) (by omega) s2 [0, 1, 2, 4, 1000000, 1000001, (-3)] (by decide)
    rw [e3]
    exact ⟨_, _, _, _, ⟨0, fun _ _ => rfl⟩, (by (try dsimp only); omega), (by (try dsimp only); omega)⟩
  · simp only [if_neg x0]
    by_cases x1 : x = 1
    · simp only [if_pos x1]
      obtain ⟨y, j', s2, e2, c2⟩ := among_tot hl (i := j) (by omega) (by omega) s' [1, 999999, 7] (by decide)
      rw [e2]
      exact ⟨_, _, _, _, ⟨0, fun _ _ => rfl⟩, (by (try dsimp only); omega), (by (try dsimp only); omega)⟩
    · simp only [if_neg x1]
      by_cases x2 : x = 2
      · simp only [if_pos x2]
        obtain ⟨y, j', s2, e2, b2, c2⟩ := pick_tot hl (i := j) (by omega) (by omega) s' (n := 900000) (by omega)
        rw [e2]
        exact ⟨_, _, _, _, ⟨0, fun _ _ => rfl⟩, (by (try dsimp only); omega), (by (try dsimp only); omega)⟩
      · simp only [if_neg x2]
        obtain ⟨a, b', j', s2, e2, c2⟩ := sureTurn_tot hl (i := j) (by omega) (by omega) s'
        exact ⟨_, _, _, _, Ev.bind e2 ⟨0, fun _ _ => rfl⟩, (by (try dsimp only); omega), (by (try dsimp only); omega)⟩
/-! turnfacts: what the law's calls come to -/
theorem ifTurn_mk (n : Int) {d : Int} (hd : 0 < d) : Ev (fun k => impl_ifTurn.f k (mkT n d).1 (mkT n d).2) (tell (mkT n d)) := by
  unfold impl_ifTurn.f
  refine Ev.bind (IsTurn_val _ _) ?_
  have hl := mkT_low n hd
  generalize mkT n d = z at *
  unfold tell
  by_cases h : z.2 > 1000000
  · rw [if_pos h, decide_eq_false (show ¬ isT z.1 z.2 from fun x => by have := x.1; omega)]
    exact ⟨0, fun _ _ => rfl⟩
  · rw [if_neg h, decide_eq_true (isT_of_low hl (by omega))]
    exact ⟨0, fun _ _ => rfl⟩
theorem isT_bd {a b : Int} (h : isT a b) : (0 ≤ a ∧ a < b) ∧ 0 < b ∧ b ≤ 1000000 := by
  obtain ⟨⟨h1, h2⟩, ⟨h3, h4⟩, _⟩ := h
  omega
def addT (a b c d : Int) : Int × Int × Bool := if isT a b ∧ isT c d then tell (mkT (a * d + c * b) (b * d)) else (0, 0, false)
def lessT (a b c d : Int) : Int × Int × Bool := if isT a b ∧ isT c d then tell (mkT (a * d - c * b) (b * d)) else (0, 0, false)
def sgn (x : Int) : Int := if x > 0 then 1 else if x < 0 then -1 else 0
def cmpT (a b c d : Int) : Int × Bool := if isT a b ∧ isT c d then (sgn (a * d - c * b), true) else (0, false)
def mirT (a b : Int) : Int × Int × Bool := if isT a b then ((mkT (a * (-1)) b).1, (mkT (a * (-1)) b).2, true) else (0, 0, false)
def timT (a b k : Int) : Int × Int × Bool := if isT a b ∧ ((-10000 : Int) ≤ k ∧ k ≤ 10000) then ((mkT (a * k) b).1, (mkT (a * k) b).2, true) else (0, 0, false)
def parT (a b k : Int) : Int × Int × Bool := if isT a b ∧ ((1 : Int) ≤ k ∧ k ≤ 10000) then tell (mkT a (b * k)) else (0, 0, false)
def makT (n d : Int) : Int × Int × Bool := if ((-1000000000000 : Int) ≤ n ∧ n ≤ 1000000000000) ∧ ((1 : Int) ≤ d ∧ d ≤ 1000000000000) then tell (mkT n d) else (0, 0, false)
theorem all_two (a b c d : Int) : (([(⟨a, b⟩ : S25), (⟨c, d⟩ : S25)] : List S25).all fun t => decide (isT t.f0 t.f1)) = decide (isT a b ∧ isT c d) := by
  simp only [List.all_cons, List.all_nil, Bool.and_true]
  by_cases h : isT a b <;> by_cases h' : isT c d <;> simp [h, h']
theorem iAddTurns_val (a b c d : Int) : Ev (fun k => impl_AddTurns.f k a b c d) (addT a b c d) := by
  unfold impl_AddTurns.f addT impl_areTurns.f
  simp only [Option.bind_some, all_two]
  by_cases h : isT a b ∧ isT c d
  · rw [if_pos h]
    simp only [decide_eq_true h, if_true]
    obtain ⟨b1, b2, b3⟩ := isT_bd h.1
    obtain ⟨d1, d2, d3⟩ := isT_bd h.2
    refine Ev.bind (plus_val (by omega) (by omega) (by omega) (by omega)) ?_
    exact Ev.bind (ifTurn_mk _ (Int.mul_pos (by omega) (by omega))) ⟨0, fun _ _ => rfl⟩
  · rw [if_neg h]
    simp only [decide_eq_false h]
    exact ⟨0, fun _ _ => rfl⟩
theorem iLessTurn_val (a b c d : Int) : Ev (fun k => impl_LessTurn.f k a b c d) (lessT a b c d) := by
  unfold impl_LessTurn.f lessT impl_areTurns.f
  simp only [Option.bind_some, all_two]
  by_cases h : isT a b ∧ isT c d
  · rw [if_pos h]
    simp only [decide_eq_true h, if_true]
    obtain ⟨b1, b2, b3⟩ := isT_bd h.1
    obtain ⟨d1, d2, d3⟩ := isT_bd h.2
    refine Ev.bind (minus_val (by omega) (by omega) (by omega) (by omega)) ?_
    exact Ev.bind (ifTurn_mk _ (Int.mul_pos (by omega) (by omega))) ⟨0, fun _ _ => rfl⟩
  · rw [if_neg h]
    simp only [decide_eq_false h]
    exact ⟨0, fun _ _ => rfl⟩
theorem good2 {β : Type} {a b c d : Int} {F : Nat → Option β} {v z : β} (h : isT a b ∧ isT c d → Ev F v) :
    Ev (fun k => (spec_diGood.f k a b).bind fun x => if x = true then (spec_diGood.f k c d).bind fun y => if y = true then F k else some z else some z) (if isT a b ∧ isT c d then v else z) := by
  refine Ev.bind (diGood_val a b) ?_
  by_cases h1 : isT a b
  · simp only [decide_eq_true h1, if_true]
    refine Ev.bind (diGood_val c d) ?_
    by_cases h2 : isT c d
    · simp only [decide_eq_true h2, if_true]
      rw [if_pos ⟨h1, h2⟩]
      exact h ⟨h1, h2⟩
    · simp only [decide_eq_false h2]
      rw [if_neg (fun x => h2 x.2)]
      exact ⟨0, fun _ _ => rfl⟩
  · simp only [decide_eq_false h1]
    rw [if_neg (fun x => h1 x.1)]
    exact ⟨0, fun _ _ => rfl⟩
theorem sAddTurns_val (a b c d : Int) : Ev (fun k => spec_AddTurns.f k a b c d) (addT a b c d) := by
  unfold spec_AddTurns.f addT
  refine good2 fun h => ?_
  obtain ⟨b1, b2, b3⟩ := isT_bd h.1
  obtain ⟨d1, d2, d3⟩ := isT_bd h.2
  have e := diAdd_val (a := a) (b := b) (c := c) (d := d) (k := 1) (by omega) (by omega) (by omega) (by omega) (by omega)
  rw [Int.one_mul] at e
  exact Ev.bind e ⟨0, fun _ _ => rfl⟩
theorem sLessTurn_val (a b c d : Int) : Ev (fun k => spec_LessTurn.f k a b c d) (lessT a b c d) := by
  unfold spec_LessTurn.f lessT
  refine good2 fun h => ?_
  obtain ⟨b1, b2, b3⟩ := isT_bd h.1
  obtain ⟨d1, d2, d3⟩ := isT_bd h.2
  have e := diAdd_val (a := a) (b := b) (c := c) (d := d) (k := -1) (by omega) (by omega) (by omega) (by omega) (by omega)
  rw [show a * d + -1 * c * b = a * d - c * b by grind] at e
  exact Ev.bind e ⟨0, fun _ _ => rfl⟩
theorem cross_bd {a b c d : Int} (h : isT a b ∧ isT c d) : (0 ≤ a * d ∧ a * d ≤ 1000000000000) ∧ (0 ≤ c * b ∧ c * b ≤ 1000000000000) := by
  obtain ⟨b1, b2, b3⟩ := isT_bd h.1
  obtain ⟨d1, d2, d3⟩ := isT_bd h.2
  have m1 := mul_bd (M := 1000000) (N := 1000000) (x := a) (y := d) (by omega) (by omega)
  have m2 := mul_bd (M := 1000000) (N := 1000000) (x := c) (y := b) (by omega) (by omega)
  have p1 : 0 ≤ a * d := Int.mul_nonneg (by omega) (by omega)
  have p2 : 0 ≤ c * b := Int.mul_nonneg (by omega) (by omega)
  omega
theorem sCompareTurns_val (a b c d : Int) : Ev (fun k => spec_CompareTurns.f k a b c d) (cmpT a b c d) := by
  unfold spec_CompareTurns.f cmpT
  refine good2 fun h => ?_
  obtain ⟨⟨e1, e2⟩, e3, e4⟩ := cross_bd h
  refine ⟨0, fun _ _ => ?_⟩
  unfold spec_diCompare.f spec_l1Sign.f sgn
  rw [wid (x := a * d) (by omega) (by omega), wid (x := c * b) (by omega) (by omega), wid (x := a * d - c * b) (by omega) (by omega)]
  by_cases g : a * d - c * b > 0
  · simp only [if_pos g, Option.bind_some]
  · by_cases g' : a * d - c * b < 0
    · simp only [if_neg g, if_pos g', Option.bind_some]
    · simp only [if_neg g, if_neg g', Option.bind_some]
theorem iCompareTurns_val (a b c d : Int) : impl_CompareTurns.f a b c d = some (cmpT a b c d) := by
  unfold impl_CompareTurns.f cmpT impl_areTurns.f
  simp only [Option.bind_some, all_two]
  by_cases h : isT a b ∧ isT c d
  · rw [if_pos h]
    simp only [decide_eq_true h, if_true]
    obtain ⟨⟨e1, e2⟩, e3, e4⟩ := cross_bd h
    unfold impl_Turn_compare.f cmp_Compare_int.f sgn
    rw [wid (x := a * d) (by omega) (by omega), wid (x := c * b) (by omega) (by omega)]
    by_cases g : a * d - c * b > 0
    · simp [cmp_isNaN_int.f, if_pos g, show ¬ a * d < c * b by omega, show c * b < a * d by omega]
    · by_cases g' : a * d - c * b < 0
      · simp [cmp_isNaN_int.f, if_neg g, if_pos g', show a * d < c * b by omega, show a * d ≤ c * b by omega]
      · simp [cmp_isNaN_int.f, if_neg g, if_neg g', show ¬ a * d < c * b by omega, show ¬ c * b < a * d by omega]
  · rw [if_neg h]
    simp only [decide_eq_false h]
    rfl
theorem iMirrorTurn_val (a b : Int) : Ev (fun k => impl_MirrorTurn.f k a b) (mirT a b) := by
  unfold impl_MirrorTurn.f mirT
  refine Ev.bind (IsTurn_val a b) ?_
  by_cases h : isT a b
  · rw [if_pos h]
    simp only [decide_eq_true h, if_true]
    obtain ⟨b1, b2, b3⟩ := isT_bd h
    exact Ev.bind (mirror_val (by omega) (by omega)) ⟨0, fun _ _ => rfl⟩
  · rw [if_neg h]
    simp only [decide_eq_false h]
    exact ⟨0, fun _ _ => rfl⟩
theorem sMirrorTurn_val (a b : Int) : Ev (fun k => spec_MirrorTurn.f k a b) (mirT a b) := by
  unfold spec_MirrorTurn.f mirT
  refine Ev.bind (diGood_val a b) ?_
  by_cases h : isT a b
  · rw [if_pos h]
    simp only [decide_eq_true h, if_true]
    obtain ⟨b1, b2, b3⟩ := isT_bd h
    exact Ev.bind (diMirror_val (by omega) (by omega)) ⟨0, fun _ _ => rfl⟩
  · rw [if_neg h]
    simp only [decide_eq_false h]
    exact ⟨0, fun _ _ => rfl⟩
theorem sIsTurn_val (a b : Int) : Ev (fun k => spec_IsTurn.f k a b) (decide (isT a b)) := by
  unfold spec_IsTurn.f
  exact Ev.bind (diGood_val a b) ⟨0, fun _ _ => rfl⟩
theorem iTimesTurn_val (a b k : Int) : Ev (fun n => impl_TimesTurn.f n a b k) (timT a b k) := by
  unfold impl_TimesTurn.f timT
  refine Ev.bind (IsTurn_val a b) ?_
  by_cases h : isT a b
  · simp only [decide_eq_true h, if_true, within_val, Option.bind_some]
    refine Ev.up ?_
    obtain ⟨b1, b2, b3⟩ := isT_bd h
    by_cases g : (-10000 : Int) ≤ k ∧ k ≤ 10000
    · rw [if_pos ⟨h, g⟩]
      simp only [impl_TimesTurn.j0, decide_eq_true g, Bool.not_true, Bool.false_eq_true, if_false]
      refine Ev.bind (times_val (by omega) (by omega) (by omega)) ?_
      refine Ev.bind (ifTurn_mk _ b2) ⟨0, fun _ _ => ?_⟩
      have : (mkT (a * k) b).2 ≤ b := Int.le_of_dvd b2 (mkT_dvd _)
      unfold tell
      rw [if_neg (by omega)]
    · rw [if_neg (fun x => g x.2)]
      simp only [impl_TimesTurn.j0, decide_eq_false g, Bool.not_false, if_true]
      exact ⟨0, fun _ _ => rfl⟩
  · simp only [decide_eq_false h]
    rw [if_neg (fun x => h x.1)]
    refine Ev.up ?_
    exact ⟨0, fun _ _ => rfl⟩
theorem sTimesTurn_val (a b k : Int) : Ev (fun n => spec_TimesTurn.f n a b k) (timT a b k) := by
  unfold spec_TimesTurn.f timT
  refine Ev.bind (diGood_val a b) ?_
  by_cases h : isT a b
  · simp only [decide_eq_true h, if_true, l1In_val, Option.bind_some]
    obtain ⟨b1, b2, b3⟩ := isT_bd h
    by_cases g : (-10000 : Int) ≤ k ∧ k ≤ 10000
    · rw [if_pos ⟨h, g⟩]
      simp only [decide_eq_true g, if_true]
      exact Ev.bind (diTimes_val (by omega) (by omega) (by omega)) ⟨0, fun _ _ => rfl⟩
    · rw [if_neg (fun x => g x.2)]
      simp only [decide_eq_false g]
      exact ⟨0, fun _ _ => rfl⟩
  · simp only [decide_eq_false h]
    rw [if_neg (fun x => h x.1)]
    exact ⟨0, fun _ _ => rfl⟩
theorem part_bd {b k : Int} (hb : 0 < b ∧ b ≤ 1000000) (hk : 1 ≤ k ∧ k ≤ 10000) : 0 < b * k ∧ b * k ≤ 10000000000 := by
  have m1 := mul_bd (M := 1000000) (N := 10000) (x := b) (y := k) (by omega) (by omega)
  have := Int.mul_pos hb.1 (show 0 < k by omega)
  omega
theorem iPartOfTurn_val (a b k : Int) : Ev (fun n => impl_PartOfTurn.f n a b k) (parT a b k) := by
  unfold impl_PartOfTurn.f parT
  refine Ev.bind (IsTurn_val a b) ?_
  by_cases h : isT a b
  · simp only [decide_eq_true h, if_true, within_val, Option.bind_some]
    refine Ev.up ?_
    obtain ⟨b1, b2, b3⟩ := isT_bd h
    by_cases g : (1 : Int) ≤ k ∧ k ≤ 10000
    · rw [if_pos ⟨h, g⟩]
      simp only [impl_PartOfTurn.j0, decide_eq_true g, Bool.not_true, Bool.false_eq_true, if_false]
      obtain ⟨m1, m2⟩ := part_bd ⟨b2, b3⟩ g
      rw [wid (x := b * k) (by omega) (by omega)]
      refine Ev.bind (part_val m1 (by omega)) ?_
      exact Ev.bind (ifTurn_mk _ m1) ⟨0, fun _ _ => rfl⟩
    · rw [if_neg (fun x => g x.2)]
      simp only [impl_PartOfTurn.j0, decide_eq_false g, Bool.not_false, if_true]
      exact ⟨0, fun _ _ => rfl⟩
  · simp only [decide_eq_false h]
    rw [if_neg (fun x => h x.1)]
    refine Ev.up ?_
    exact ⟨0, fun _ _ => rfl⟩
theorem sPartOfTurn_val (a b k : Int) : Ev (fun n => spec_PartOfTurn.f n a b k) (parT a b k) := by
  unfold spec_PartOfTurn.f parT
  refine Ev.bind (diGood_val a b) ?_
  by_cases h : isT a b
  · simp only [decide_eq_true h, if_true, l1In_val, Option.bind_some]
    obtain ⟨b1, b2, b3⟩ := isT_bd h
    by_cases g : (1 : Int) ≤ k ∧ k ≤ 10000
    · rw [if_pos ⟨h, g⟩]
      simp only [decide_eq_true g, if_true]
      obtain ⟨m1, m2⟩ := part_bd ⟨b2, b3⟩ g
      rw [wid (x := b * k) (by omega) (by omega)]
      exact Ev.bind (diMake_val m1 (by omega)) ⟨0, fun _ _ => rfl⟩
    · rw [if_neg (fun x => g x.2)]
      simp only [decide_eq_false g]
      exact ⟨0, fun _ _ => rfl⟩
  · simp only [decide_eq_false h]
    rw [if_neg (fun x => h x.1)]
    exact ⟨0, fun _ _ => rfl⟩
theorem iMakeTurn_val (n d : Int) : Ev (fun k => impl_MakeTurn.f k n d) (makT n d) := by
  unfold impl_MakeTurn.f makT
  simp only [within_val, Option.bind_some]
  by_cases h : (-1000000000000 : Int) ≤ n ∧ n ≤ 1000000000000
  · simp only [decide_eq_true h, if_true]
    refine Ev.up ?_
    by_cases g : (1 : Int) ≤ d ∧ d ≤ 1000000000000
    · rw [if_pos ⟨h, g⟩]
      simp only [impl_MakeTurn.j0, decide_eq_true g, Bool.not_true, Bool.false_eq_true, if_false]
      refine Ev.bind (part_val (by omega) (by omega)) ?_
      exact Ev.bind (ifTurn_mk n (d := d) (by omega)) ⟨0, fun _ _ => rfl⟩
    · rw [if_neg (fun x => g x.2)]
      simp only [impl_MakeTurn.j0, decide_eq_false g, Bool.not_false, if_true]
      exact ⟨0, fun _ _ => rfl⟩
  · simp only [decide_eq_false h]
    rw [if_neg (fun x => h x.1)]
    refine Ev.up ?_
    exact ⟨0, fun _ _ => rfl⟩
theorem sMakeTurn_val (n d : Int) : Ev (fun k => spec_MakeTurn.f k n d) (makT n d) := by
  unfold spec_MakeTurn.f makT
  simp only [l1In_val, Option.bind_some]
  by_cases h : (-1000000000000 : Int) ≤ n ∧ n ≤ 1000000000000
  · simp only [decide_eq_true h, if_true]
    by_cases g : (1 : Int) ≤ d ∧ d ≤ 1000000000000
    · rw [if_pos ⟨h, g⟩]
      simp only [decide_eq_true g, if_true]
      exact Ev.bind (diMake_val (by omega) (by omega)) ⟨0, fun _ _ => rfl⟩
    · rw [if_neg (fun x => g x.2)]
      simp only [decide_eq_false g]
      exact ⟨0, fun _ _ => rfl⟩
  · simp only [decide_eq_false h]
    rw [if_neg (fun x => h x.1)]
    exact ⟨0, fun _ _ => rfl⟩
theorem tell_yes {z : Int × Int} {x y : Int} (h : tell z = (x, y, true)) : z = (x, y) ∧ y ≤ 1000000 := by
  unfold tell at h
  split at h
  · simp at h
  · simp only [Prod.mk.injEq, and_true] at h
    obtain ⟨h1, h2⟩ := h
    exact ⟨Prod.ext h1 h2, by omega⟩
theorem tell_of {z : Int × Int} {x y : Int} (e : z = (x, y)) (h : y ≤ 1000000) : tell z = (x, y, true) := by
  subst e
  unfold tell
  rw [if_neg (by dsimp only; omega)]
theorem mkT_isT {n d x y : Int} (hd : 0 < d) (e : mkT n d = (x, y)) (h : y ≤ 1000000) : isT x y := by
  have l := mkT_low n hd
  rw [e] at l
  exact isT_of_low l h
theorem sgn_neg (x : Int) : sgn (-x) = - sgn x := by
  unfold sgn
  by_cases h : x > 0
  · rw [if_pos h, if_neg (by omega), if_pos (by omega)]
  · by_cases h' : x < 0
    · rw [if_neg h, if_pos h', if_pos (by omega)]; rfl
    · rw [if_neg h, if_neg h', if_neg (by omega), if_neg (by omega)]; rfl
theorem sgn_bd (x : Int) : -1 ≤ sgn x ∧ sgn x ≤ 1 := by
  unfold sgn
  split
  · omega
  · split <;> omega
theorem sgn_zero {x : Int} : sgn x = 0 ↔ x = 0 := by
  unfold sgn
  split
  · omega
  · split <;> omega
theorem f_cmp {p q r s sg : Int} {th : Bool} (h : cmpT p q r s = (sg, th)) : th = (decide (isT p q) && decide (isT r s)) := by
  unfold cmpT at h
  by_cases g : isT p q ∧ isT r s
  · rw [if_pos g, Prod.mk.injEq] at h
    rw [decide_eq_true g.1, decide_eq_true g.2, ← h.2]; rfl
  · rw [if_neg g, Prod.mk.injEq] at h
    rw [← h.2]
    by_cases h1 : isT p q <;> by_cases h2 : isT r s <;> simp [h1, h2] <;> exact g ⟨h1, h2⟩
theorem f3 {p q r s sg x1 x2 : Int} {ok : Bool} (h : cmpT p q r s = (sg, true)) (h' : addT p q r s = (x1, x2, ok)) : cmpT r s p q = (wrap64 (-sg), true) ∧ addT r s p q = (x1, x2, ok) ∧ ((sg = 0 ∧ r = p ∧ s = q) ∨ (sg ≠ 0 ∧ (p ≠ r ∨ q ≠ s))) := by
  unfold cmpT at h
  by_cases g : isT p q ∧ isT r s
  · rw [if_pos g, Prod.mk.injEq] at h
    have h1 := h.1
    subst h1
    have b := sgn_bd (p * s - r * q)
    refine ⟨?_, ?_, ?_⟩
    · unfold cmpT
      rw [if_pos ⟨g.2, g.1⟩, wid (by omega) (by omega), ← sgn_neg, Int.neg_sub]
    · unfold addT at h' ⊢
      rw [if_pos g] at h'
      rw [if_pos ⟨g.2, g.1⟩, add_comm_of, h']
    · by_cases e : p * s - r * q = 0
      · have := low_ext (isT_low g.1) (isT_low g.2) (by omega)
        exact Or.inl ⟨sgn_zero.mpr e, this.1.symm, this.2.symm⟩
      · refine Or.inr ⟨fun x => e (sgn_zero.mp x), ?_⟩
        by_cases z : p = r
        · by_cases z' : q = s
          · subst z; subst z'; omega
          · exact Or.inr z'
        · exact Or.inl z
  · rw [if_neg g] at h; simp at h
theorem f4 {p q r s x1 x2 : Int} (h : addT p q r s = (x1, x2, true)) : isT x1 x2 ∧ ∃ l1 l2 sv, lessT x1 x2 r s = (l1, l2, sv) ∧ (sv = true → l1 = p ∧ l2 = q) := by
  unfold addT at h
  by_cases g : isT p q ∧ isT r s
  · rw [if_pos g] at h
    obtain ⟨e, b⟩ := tell_yes h
    obtain ⟨b1, b2, b3⟩ := isT_bd g.1
    obtain ⟨d1, d2, d3⟩ := isT_bd g.2
    have hx := mkT_isT (Int.mul_pos b2 d2) e b
    have k := back_of (p := p) (q := q) (r := r) (s := s) (isT_low g.1) d2
    rw [e] at k
    refine ⟨hx, (lessT x1 x2 r s).1, (lessT x1 x2 r s).2.1, (lessT x1 x2 r s).2.2, rfl, fun _ => ?_⟩
    unfold lessT
    dsimp only at k
    rw [if_pos ⟨hx, g.2⟩, tell_of k b3]
    exact ⟨rfl, rfl⟩
  · rw [if_neg g] at h; simp at h
theorem mir_of {p q m1 m2 : Int} (g : isT p q) (e : mkT (p * (-1)) q = (m1, m2)) : isT m1 m2 ∧ m2 ≤ 1000000 := by
  obtain ⟨b1, b2, b3⟩ := isT_bd g
  have : (mkT (p * (-1)) q).2 ≤ q := Int.le_of_dvd b2 (mkT_dvd _)
  rw [e] at this
  dsimp only at this
  exact ⟨mkT_isT b2 e (by omega), by omega⟩
theorem f5 {p q m1 m2 : Int} (h : mirT p q = (m1, m2, true)) : addT p q m1 m2 = (0, 1, true) ∧ mirT m1 m2 = (p, q, true) := by
  unfold mirT at h
  by_cases g : isT p q
  · rw [if_pos g, Prod.mk.injEq, Prod.mk.injEq] at h
    obtain ⟨e1, e2, _⟩ := h
    have e : mkT (p * (-1)) q = (m1, m2) := Prod.ext e1 e2
    obtain ⟨hm, bm⟩ := mir_of g e
    obtain ⟨b1, b2, b3⟩ := isT_bd g
    have n := none_of (p := p) b2
    have mm := mirror_mirror (isT_low g)
    rw [e] at n mm
    dsimp only at n mm
    unfold addT mirT
    rw [if_pos ⟨g, hm⟩, if_pos hm, tell_of n (by omega), mm]
    exact ⟨rfl, rfl⟩
  · rw [if_neg g] at h; simp at h
theorem f6 {t1 t2 kk v1 v2 : Int} (h : parT t1 t2 kk = (v1, v2, true)) : timT v1 v2 kk = (t1, t2, true) ∧ ¬ wrap64 (v1 * kk) ≥ wrap64 (v2 * kk) ∧ v2 ≠ 0 ∧ wrap64 (Int.tdiv (wrap64 (v1 * kk)) v2) = 0 := by
  unfold parT at h
  by_cases g : isT t1 t2 ∧ ((1 : Int) ≤ kk ∧ kk ≤ 10000)
  · rw [if_pos g] at h
    obtain ⟨e, b⟩ := tell_yes h
    obtain ⟨b1, b2, b3⟩ := isT_bd g.1
    obtain ⟨m1, m2⟩ := part_bd ⟨b2, b3⟩ g.2
    have hv := mkT_isT m1 e b
    obtain ⟨v3, v4, v5⟩ := isT_bd hv
    have k := whole_of (isT_low g.1) (k := kk) (by omega)
    have sm := part_small (isT_low g.1) (k := kk) (by omega)
    rw [e] at k sm
    dsimp only at k sm
    have h1 := mul_bd (M := 1000000) (N := 10000) (x := v1) (y := kk) (by omega) (by omega)
    have h2 := mul_bd (M := 1000000) (N := 10000) (x := v2) (y := kk) (by omega) (by omega)
    have p1 : 0 ≤ v1 * kk := Int.mul_nonneg (by omega) (by omega)
    have lt : v1 * kk < v2 * kk := Int.mul_lt_mul_of_pos_right v3.2 (by omega)
    unfold timT
    rw [if_pos ⟨hv, by omega⟩, k, wid (x := v1 * kk) (by omega) (by omega), wid (x := v2 * kk) (by omega) (by omega), tdiv_nn _ p1, Int.ediv_eq_zero_of_lt p1 sm]
    exact ⟨rfl, by omega, by omega, wid (by omega) (by omega)⟩
  · rw [if_neg g] at h; simp at h
theorem tmod_zero {x d : Int} (h : x % d = 0) : Int.tmod x d = 0 := Int.tmod_eq_zero_of_dvd (Int.dvd_of_emod_eq_zero h)
theorem f7 {nn dd g1 g2 : Int} (h : makT nn dd = (g1, g2, true)) : isT g1 g2 ∧ g2 ≠ 0 ∧ dd ≠ 0 ∧ Int.tmod dd g2 = 0 ∧ Int.tmod (wrap64 (nn - wrap64 (g1 * wrap64 (Int.tdiv dd g2)))) dd = 0 := by
  unfold makT at h
  by_cases g : ((-1000000000000 : Int) ≤ nn ∧ nn ≤ 1000000000000) ∧ ((1 : Int) ≤ dd ∧ dd ≤ 1000000000000)
  · rw [if_pos g] at h
    obtain ⟨e, b⟩ := tell_yes h
    have hd : 0 < dd := by omega
    have hv := mkT_isT hd e b
    obtain ⟨v3, v4, v5⟩ := isT_bd hv
    obtain ⟨k1, k2⟩ := made_mod nn hd
    rw [e] at k1 k2
    dsimp only at k1 k2
    have q0 : 0 ≤ dd / g2 := Int.ediv_nonneg (by omega) (by omega)
    have q1 : dd / g2 ≤ dd := Int.ediv_le_self _ (by omega)
    have qe : g2 * (dd / g2) = dd := Int.mul_ediv_cancel' (Int.dvd_of_emod_eq_zero k1)
    have qm : g1 * (dd / g2) ≤ g2 * (dd / g2) := Int.mul_le_mul_of_nonneg_right (by omega) q0
    have qn : 0 ≤ g1 * (dd / g2) := Int.mul_nonneg (by omega) q0
    rw [tdiv_nn g2 (show 0 ≤ dd by omega), wid (x := dd / g2) (by omega) (by omega), wid (x := g1 * (dd / g2)) (by omega) (by omega), wid (x := nn - g1 * (dd / g2)) (by omega) (by omega)]
    exact ⟨hv, by omega, by omega, tmod_zero k1, tmod_zero k2⟩
  · rw [if_neg g] at h; simp at h
theorem big_val (l0 l1 : List Int) : ∃ b, laws_big.f l0 l1 = some b ∧ (b = false → l0.length ≤ 1048576) := by
  unfold laws_big.f
  by_cases h : (l0.length : Int) > 1048576
  · rw [if_pos h]; exact ⟨_, rfl, fun x => by simp at x⟩
  · rw [if_neg h]; exact ⟨_, rfl, fun _ => by omega⟩
theorem drawAdd_tot {l : List Int} (hl : bytesOk l) : ∃ p q r s, Ev (fun k => spec_DrawAddTurns.f k l) (p, q, r, s) := by
  obtain ⟨a, b, j, s1, e1, c1⟩ := turn_tot hl (i := 0) (by omega) (by omega) 0
  obtain ⟨c, d, j', s2, e2, c2⟩ := turn_tot hl (i := j) (by omega) (by omega) s1
  refine ⟨a, b, c, d, ?_⟩
  unfold spec_DrawAddTurns.f
  exact Ev.bind e1 (Ev.bind e2 ⟨0, fun _ _ => rfl⟩)
theorem drawTimes_tot {l : List Int} (hl : bytesOk l) : ∃ p q r, Ev (fun k => spec_DrawTimesTurn.f k l) (p, q, r) := by
  obtain ⟨a, b, j, s1, e1, c1⟩ := turn_tot hl (i := 0) (by omega) (by omega) 0
  obtain ⟨c, j', s2, e2, c2⟩ := among_tot hl (i := j) (by omega) (by omega) s1 [0, 1, 2, 3, 12, -1, -11, 60, 10000, 10001, -10001] (by decide)
  refine ⟨a, b, c, ?_⟩
  unfold spec_DrawTimesTurn.f
  refine Ev.bind e1 ⟨0, fun _ _ => ?_⟩
  dsimp only
  rw [e2]; rfl
theorem drawMake_tot {l : List Int} (hl : bytesOk l) : ∃ p q, spec_DrawMakeTurn.f l = some (p, q) := by
  obtain ⟨a, j, s1, e1, b1, c1⟩ := pick_tot hl (i := 0) (by omega) (by omega) 0 (n := 5000) (by omega)
  obtain ⟨b, j', s2, e2, c2⟩ := among_tot hl (i := j) (by omega) (by omega) s1 [0, 1, -1, 7, 100, -100, 1000000000000, -1000000000000, 1000000000001, wrap64 (a - 2500)] ⟨Nat.zero_lt_succ _, by simp only [List.length_cons, List.length_nil]; omega⟩
  obtain ⟨c, j3, s3, e3, c3⟩ := among_tot hl (i := j') (by omega) (by omega) s2 [1, 2, 12, 60, 720, 1000000, 1000001, 1000000000000, 1000000000001, 0, -1] (by decide)
  refine ⟨b, c, ?_⟩
  unfold spec_DrawMakeTurn.f
  rw [e1]; simp only [Option.bind_some]
  rw [e2]; simp only [Option.bind_some]
  rw [e3]; rfl
theorem Ev.imp {p : Prop} {P : Nat → Prop} (h : p → ∃ K, ∀ k, K ≤ k → P k) : ∃ K, ∀ k, K ≤ k → p → P k := by
  by_cases hp : p
  · obtain ⟨K, hK⟩ := h hp
    exact ⟨K, fun k hk _ => hK k hk⟩
  · exact ⟨0, fun _ _ x => absurd x hp⟩
theorem triple_eq {α β : Type} {v : α × β × Bool} (h : v.2.2 = true) : v = (v.1, v.2.1, true) := by
  obtain ⟨a, b, c⟩ := v
  simp only at h
  subst h
  rfl
theorem wf_u8 {l : List Int} (h : ∀ x ∈ l, (Lit.int .u8 x).wf = true) : bytesOk l := by
  intro x hx
  have e := h x hx
  have e1 : (0 : Int) ≤ x ∧ x ≤ 255 := by
    unfold Lit.wf at e
    simp only [Bool.and_eq_true, decide_eq_true_eq] at e
    exact e
  exact e1
theorem FnTurnsAdded : laws_FnTurnsAdded.Pure := by
  intro a0 len0 cap0 z0 a1 len1 cap1 z1 w w0 y0 w1 y1
  obtain ⟨l0, e0, hr0, _, hw0, hc0⟩ := ReadsInt.ofRowC w0
  obtain ⟨l1, e1, hr1, _, hw1, hc1⟩ := ReadsInt.ofRowC w1
  subst e0; subst e1
  obtain ⟨big, A0, _⟩ := big_val l0 l1
  obtain ⟨p, q, r, s, K1, H1⟩ := drawAdd_tot (wf_u8 hw0)
  obtain ⟨t1, t2, kk, K2, H2⟩ := drawTimes_tot (wf_u8 hw1)
  obtain ⟨nn, dd, D3⟩ := drawMake_tot (wf_u8 hw1)
  obtain ⟨K3, H3⟩ := iAddTurns_val p q r s
  obtain ⟨K4, H4⟩ := sAddTurns_val p q r s
  obtain ⟨K5, H5⟩ := iLessTurn_val p q r s
  obtain ⟨K6, H6⟩ := sLessTurn_val p q r s
  have H7 := iCompareTurns_val p q r s
  obtain ⟨K8, H8⟩ := sCompareTurns_val p q r s
  obtain ⟨K9, H9⟩ := iMirrorTurn_val p q
  obtain ⟨K10, H10⟩ := sMirrorTurn_val p q
  obtain ⟨K11, H11⟩ := IsTurn_val p q
  obtain ⟨K12, H12⟩ := sIsTurn_val p q
  obtain ⟨K13, H13⟩ := IsTurn_val r s
  obtain ⟨K14, H14⟩ := iTimesTurn_val t1 t2 kk
  obtain ⟨K15, H15⟩ := sTimesTurn_val t1 t2 kk
  obtain ⟨K16, H16⟩ := iPartOfTurn_val t1 t2 kk
  obtain ⟨K17, H17⟩ := sPartOfTurn_val t1 t2 kk
  obtain ⟨K18, H18⟩ := iMakeTurn_val nn dd
  obtain ⟨K19, H19⟩ := sMakeTurn_val nn dd
  generalize hv1 : addT p q r s = v1 at H3 H4
  generalize hv2 : lessT p q r s = v2 at H5 H6
  generalize hv3 : cmpT p q r s = v3 at H7 H8
  generalize hv4 : mirT p q = v4 at H9 H10
  generalize hv5 : timT t1 t2 kk = v5 at H14 H15
  generalize hv6 : parT t1 t2 kk = v6 at H16 H17
  generalize hv7 : makT nn dd = v7 at H18 H19
  have HT : v3.2 = (decide (isT p q) && decide (isT r s)) := f_cmp (sg := v3.1) (th := v3.2) hv3
  have B1 : v1.2.2 = true → v3.2 = true := by
    intro h
    have e := hv1
    rw [triple_eq h] at e
    unfold addT at e
    by_cases g : isT p q ∧ isT r s
    · rw [HT, decide_eq_true g.1, decide_eq_true g.2]; rfl
    · rw [if_neg g] at e; simp at e
  have B2 : v2.2.2 = true → v3.2 = true := by
    intro h
    have e := hv2
    rw [triple_eq h] at e
    unfold lessT at e
    by_cases g : isT p q ∧ isT r s
    · rw [HT, decide_eq_true g.1, decide_eq_true g.2]; rfl
    · rw [if_neg g] at e; simp at e
  have C3 : ∃ K, ∀ k, K ≤ k → v3.2 = true → impl_CompareTurns.f r s p q = some (wrap64 (-v3.1), true) ∧ impl_AddTurns.f k r s p q = some (v1.1, v1.2.1, v1.2.2) ∧ ((v3.1 = 0 ∧ r = p ∧ s = q) ∨ (v3.1 ≠ 0 ∧ (p ≠ r ∨ q ≠ s))) := by
    refine Ev.imp fun hp => ?_
    have hv3' : cmpT p q r s = (v3.1, true) := hv3.trans (by rw [← hp])
    obtain ⟨c, a, z⟩ := f3 hv3' (x1 := v1.1) (x2 := v1.2.1) (ok := v1.2.2) hv1
    obtain ⟨L, G⟩ := iAddTurns_val r s p q
    rw [a] at G
    exact ⟨L, fun k hk => ⟨by rw [iCompareTurns_val, c], G k hk, z⟩⟩
  have C4 : ∃ K, ∀ k, K ≤ k → v1.2.2 = true → impl_IsTurn.f k v1.1 v1.2.1 = some true ∧ ∃ l1' l2' sv, impl_LessTurn.f k v1.1 v1.2.1 r s = some (l1', l2', sv) ∧ (sv = true → l1' = p ∧ l2' = q) := by
    refine Ev.imp fun hp => ?_
    obtain ⟨g, a, b, c, e, he⟩ := f4 (hv1.trans (triple_eq hp))
    obtain ⟨L1, G1⟩ := IsTurn_val v1.1 v1.2.1
    obtain ⟨L2, G2⟩ := iLessTurn_val v1.1 v1.2.1 r s
    rw [decide_eq_true g] at G1
    rw [e] at G2
    exact ⟨max L1 L2, fun k hk => ⟨G1 k (by omega), a, b, c, G2 k (by omega), he⟩⟩
  have C5 : ∃ K, ∀ k, K ≤ k → decide (isT p q) = true → impl_AddTurns.f k p q v4.1 v4.2.1 = some (0, 1, true) ∧ impl_MirrorTurn.f k v4.1 v4.2.1 = some (p, q, true) := by
    refine Ev.imp fun hp => ?_
    have e : mirT p q = (v4.1, v4.2.1, true) := by
      refine hv4.trans ?_
      rw [← hv4]; unfold mirT; rw [if_pos (of_decide_eq_true hp)]
    obtain ⟨c, a⟩ := f5 e
    obtain ⟨L1, G1⟩ := iAddTurns_val p q v4.1 v4.2.1
    obtain ⟨L2, G2⟩ := iMirrorTurn_val v4.1 v4.2.1
    rw [c] at G1
    rw [a] at G2
    exact ⟨max L1 L2, fun k hk => ⟨G1 k (by omega), G2 k (by omega)⟩⟩
  have C6 : ∃ K, ∀ k, K ≤ k → v6.2.2 = true → impl_TimesTurn.f k v6.1 v6.2.1 kk = some (t1, t2, true) ∧ ¬ wrap64 (v6.1 * kk) ≥ wrap64 (v6.2.1 * kk) ∧ v6.2.1 ≠ 0 ∧ wrap64 (Int.tdiv (wrap64 (v6.1 * kk)) v6.2.1) = 0 := by
    refine Ev.imp fun hp => ?_
    obtain ⟨c, a⟩ := f6 (hv6.trans (triple_eq hp))
    obtain ⟨L1, G1⟩ := iTimesTurn_val v6.1 v6.2.1 kk
    rw [c] at G1
    exact ⟨L1, fun k hk => ⟨G1 k hk, a⟩⟩
  have C7 : ∃ K, ∀ k, K ≤ k → v7.2.2 = true → impl_IsTurn.f k v7.1 v7.2.1 = some true ∧ v7.2.1 ≠ 0 ∧ dd ≠ 0 ∧ Int.tmod dd v7.2.1 = 0 ∧ Int.tmod (wrap64 (nn - wrap64 (v7.1 * wrap64 (Int.tdiv dd v7.2.1)))) dd = 0 := by
    refine Ev.imp fun hp => ?_
    obtain ⟨g, a⟩ := f7 (hv7.trans (triple_eq hp))
    obtain ⟨L1, G1⟩ := IsTurn_val v7.1 v7.2.1
    rw [decide_eq_true g] at G1
    exact ⟨L1, fun k hk => ⟨G1 k hk, a⟩⟩
  have tA : v4 = (v4.1, v4.2.1, decide (isT p q)) := by
    rw [← hv4]; unfold mirT; by_cases g : isT p q <;> simp [g]
  obtain ⟨M3, D3'⟩ := C3
  obtain ⟨M4, D4⟩ := C4
  obtain ⟨M5, D5⟩ := C5
  obtain ⟨M6, D6⟩ := C6
  obtain ⟨M7, D7⟩ := C7
  have S : ∀ x ∈ [K1, K2, K3, K4, K5, K6, K8, K9, K10, K11, K12, K13, K14, K15, K16, K17, K18, K19, M3, M4, M5, M6, M7], x ≤ K1 + K2 + K3 + K4 + K5 + K6 + K8 + K9 + K10 + K11 + K12 + K13 + K14 + K15 + K16 + K17 + K18 + K19 + M3 + M4 + M5 + M6 + M7 := by
    intro x hx
    simp only [List.mem_cons, List.not_mem_nil, or_false] at hx
    omega
  generalize K1 + K2 + K3 + K4 + K5 + K6 + K8 + K9 + K10 + K11 + K12 + K13 + K14 + K15 + K16 + K17 + K18 + K19 + M3 + M4 + M5 + M6 + M7 = k at S
  have U : ∀ {K : Nat}, K ∈ [K1, K2, K3, K4, K5, K6, K8, K9, K10, K11, K12, K13, K14, K15, K16, K17, K18, K19, M3, M4, M5, M6, M7] → K ≤ k := fun h => S _ h
  exact walkV k p q r s v1.1 v1.2.1 v2.1 v2.2.1 v3.1 v4.1 v4.2.1 t1 t2 kk v5.1 v5.2.1 v6.1 v6.2.1 nn dd v7.1 v7.2.1 big v1.2.2 v2.2.2 v3.2 (decide (isT p q)) (decide (isT r s)) v5.2.2 v6.2.2 v7.2.2 w a0 cap0 l0 a1 cap1 l1
    (Kd.C_of_reads (d := (0 : Int)) (h1 := fun _ => rfl) hr0) hc0 (Kd.C_of_reads (d := (0 : Int)) (h1 := fun _ => rfl) hr1) hc1 A0
    (fun _ => H1 k (U (by simp))) (fun _ => H2 k (U (by simp))) (fun _ => D3) (H3 k (U (by simp))) (H4 k (U (by simp))) (H5 k (U (by simp))) (H6 k (U (by simp))) H7 (H8 k (U (by simp))) 
    ((H9 k (U (by simp))).trans (congrArg some tA)) ((H10 k (U (by simp))).trans (congrArg some tA))
    (H11 k (U (by simp))) (H12 k (U (by simp))) (H13 k (U (by simp))) HT B1 B2 (D3' k (U (by simp))) (D4 k (U (by simp))) (D5 k (U (by simp)))
    (H14 k (U (by simp))) (H15 k (U (by simp))) (H16 k (U (by simp))) (H17 k (U (by simp))) (H18 k (U (by simp))) (H19 k (U (by simp))) (D6 k (U (by simp))) (D7 k (U (by simp)))

end Go.Proofs.Ytjalknehgfomlaa.Pure
