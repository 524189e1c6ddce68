/- Over all draws hands are ahead by the told turns then, opposite by a half, three meet where two do, relative hands stand where one is ahead, and the program's answers are the reference's; no condition. -/
import Derived.Test.YtoneipoioiokcabPFnHandsAheadx32
set_option linter.unusedVariables false
set_option linter.unusedSimpArgs false
namespace Go.Proofs.Ytoneipoioiokcab.Pure
open Go.RowKit Go.Proofs.Ytoneipoioiokcab.PFnHandsAhead Go.Proofs.YtoneipoioiokcabW.PrintWords Go.Proofs.YtoneipoioiokcabW.PrintLast Go.Proofs.YtoneipoioiokcabW.PrintMore

/-! tmath2: sums and multiples of parts, one of the other -/
theorem mkT_sp (n : Int) {d : Int} (hd : 0 < d) : ∃ m, (mkT n d).1 * d = (mkT n d).2 * n + (mkT n d).2 * d * m := by
  have e := mkT_eq n hd
  have em := Int.mul_ediv_add_emod n d
  refine ⟨-(n / d), ?_⟩
  rw [e]
  generalize (mkT n d).2 = q
  have : n % d = n - d * (n / d) := by omega
  rw [this]
  grind
theorem mkT_pos (n : Int) {d : Int} (hd : 0 < d) : 0 < (mkT n d).2 := (mkT_low n hd).1
theorem mkT_mul (n k : Int) {d : Int} (hd : 0 < d) : mkT ((mkT n d).1 * k) (mkT n d).2 = mkT (n * k) d := by
  obtain ⟨m, h⟩ := mkT_sp n hd
  refine mkT_congr (m := m * k) (mkT_pos n hd) hd ?_
  grind
theorem mkT_add (n n' : Int) {d d' : Int} (hd : 0 < d) (hd' : 0 < d') : mkT ((mkT n d).1 * (mkT n' d').2 + (mkT n' d').1 * (mkT n d).2) ((mkT n d).2 * (mkT n' d').2) = mkT (n * d' + n' * d) (d * d') := by
  obtain ⟨m, h⟩ := mkT_sp n hd
  obtain ⟨m', h'⟩ := mkT_sp n' hd'
  refine mkT_congr (m := m + m') (Int.mul_pos (mkT_pos n hd) (mkT_pos n' hd')) (Int.mul_pos hd hd') ?_
  grind
theorem mkT_add_l (n p' : Int) {d q' : Int} (hd : 0 < d) (hq : 0 < q') : mkT ((mkT n d).1 * q' + p' * (mkT n d).2) ((mkT n d).2 * q') = mkT (n * q' + p' * d) (d * q') := by
  obtain ⟨m, h⟩ := mkT_sp n hd
  refine mkT_congr (m := m) (Int.mul_pos (mkT_pos n hd) hq) (Int.mul_pos hd hq) ?_
  grind
theorem mkT_add_r (n' p : Int) {d' q : Int} (hq : 0 < q) (hd' : 0 < d') : mkT (p * (mkT n' d').2 + (mkT n' d').1 * q) (q * (mkT n' d').2) = mkT (p * d' + n' * q) (q * d') := by
  obtain ⟨m, h⟩ := mkT_sp n' hd'
  refine mkT_congr (m := m) (Int.mul_pos hq (mkT_pos n' hd')) (Int.mul_pos hq hd') ?_
  grind
theorem mkT_sub_l (n p' : Int) {d q' : Int} (hd : 0 < d) (hq : 0 < q') : mkT ((mkT n d).1 * q' - p' * (mkT n d).2) ((mkT n d).2 * q') = mkT (n * q' - p' * d) (d * q') := by
  obtain ⟨m, h⟩ := mkT_sp n hd
  refine mkT_congr (m := m) (Int.mul_pos (mkT_pos n hd) hq) (Int.mul_pos hd hq) ?_
  grind
theorem mkT_sub_r (n' p : Int) {d' q : Int} (hq : 0 < q) (hd' : 0 < d') : mkT (p * (mkT n' d').2 - (mkT n' d').1 * q) (q * (mkT n' d').2) = mkT (p * d' - n' * q) (q * d') := by
  obtain ⟨m, h⟩ := mkT_sp n' hd'
  refine mkT_congr (m := -m) (Int.mul_pos hq (mkT_pos n' hd')) (Int.mul_pos hq hd') ?_
  grind
theorem mkT_cross {n d n' d' : Int} (hd : 0 < d) (hd' : 0 < d') (e : n * d' = n' * d) : mkT n d = mkT n' d' := mkT_congr (m := 0) hd hd' (by rw [e, Int.mul_zero, Int.add_zero])
/-- Twice mirrored. -/
theorem mirror_mirror {p q : Int} (h : low p q) : mkT ((mkT (p * (-1)) q).1 * (-1)) (mkT (p * (-1)) q).2 = (p, q) := by
  rw [mkT_mul _ _ h.1, show p * -1 * -1 = p by omega, mkT_self h]
/-! addmath: what is added is taken away again; multiples and parts -/
theorem mkT_zero {d : Int} (hd : 0 < d) : mkT 0 d = (0, 1) := mkT_of (m := 0) hd ⟨by decide, by decide, by decide, rfl⟩ (by omega)
theorem back_of {p q r s : Int} (h : low p q) (hs : 0 < s) :
    mkT ((mkT (p * s + r * q) (q * s)).1 * s - r * (mkT (p * s + r * q) (q * s)).2) ((mkT (p * s + r * q) (q * s)).2 * s) = (p, q) := by
  rw [mkT_sub_l _ _ (Int.mul_pos h.1 hs) hs, ← mkT_self h]
  refine mkT_cross (Int.mul_pos (Int.mul_pos h.1 hs) hs) h.1 ?_
  grind
theorem none_of {p q : Int} (hq : 0 < q) : mkT (p * (mkT (p * (-1)) q).2 + (mkT (p * (-1)) q).1 * q) (q * (mkT (p * (-1)) q).2) = (0, 1) := by
  rw [mkT_add_r _ _ hq hq, ← mkT_zero (Int.mul_pos hq hq)]
  refine mkT_cross (Int.mul_pos hq hq) (Int.mul_pos hq hq) ?_
  grind
theorem add_comm_of (p q r s : Int) : mkT (r * q + p * s) (s * q) = mkT (p * s + r * q) (q * s) := by rw [Int.add_comm, Int.mul_comm s q]
theorem whole_of {p q k : Int} (h : low p q) (hk : 0 < k) : mkT ((mkT p (q * k)).1 * k) (mkT p (q * k)).2 = (p, q) := by
  rw [mkT_mul _ _ (Int.mul_pos h.1 hk), ← mkT_self h]
  refine mkT_cross (Int.mul_pos h.1 hk) h.1 ?_
  grind
theorem part_small {p q k : Int} (h : low p q) (hk : 0 < k) : (mkT p (q * k)).1 * k < (mkT p (q * k)).2 := by
  have hd := Int.mul_pos h.1 hk
  have e := mkT_eq p hd
  have l := mkT_low p hd
  have h1 : p % (q * k) = p := by
    refine Int.emod_eq_of_lt h.2.1 (Int.lt_of_lt_of_le h.2.2.1 ?_)
    have := Int.mul_le_mul_of_nonneg_left (show 1 ≤ k by omega) (Int.le_of_lt h.1)
    omega
  rw [h1] at e
  generalize (mkT p (q * k)).1 = x at e l
  generalize (mkT p (q * k)).2 = y at e l
  have h2 : y * p < y * q := Int.mul_lt_mul_of_pos_left h.2.2.1 l.1
  refine Int.lt_of_mul_lt_mul_right (a := q) ?_ (Int.le_of_lt h.1)
  rw [show x * k * q = x * (q * k) by grind, e]
  exact h2
theorem made_mod (n : Int) {d : Int} (hd : 0 < d) : d % (mkT n d).2 = 0 ∧ (n - (mkT n d).1 * (d / (mkT n d).2)) % d = 0 := by
  have e := mkT_eq n hd
  have l := mkT_low n hd
  obtain ⟨g, hg⟩ := mkT_dvd n (d := d)
  have em := Int.mul_ediv_add_emod n d
  refine ⟨Int.emod_eq_zero_of_dvd ⟨g, hg⟩, ?_⟩
  generalize (mkT n d).1 = x at *
  generalize (mkT n d).2 = y at *
  have y0 : 0 < y := l.1
  have h1 : d / y = g := Int.ediv_eq_of_eq_mul_right (by omega) hg
  have h2 : x * g = n % d := by
    refine Int.eq_of_mul_eq_mul_right (a := y) (by omega) ?_
    rw [show x * g * y = x * (y * g) by grind, ← hg, e, Int.mul_comm]
  rw [h1, h2]
  exact Int.emod_eq_zero_of_dvd ⟨n / d, by omega⟩
/-- All parts that k times are n / d: (n + i * d) / (d * k). -/
def rootsL (n d : Int) (k m : Nat) : List S25 := (List.range m).map fun (i : Nat) => ⟨(mkT (n + (i : Int) * d) (d * (k : Int))).1, (mkT (n + (i : Int) * d) (d * (k : Int))).2⟩
theorem rootsL_length (n d : Int) (k m : Nat) : (rootsL n d k m).length = m := by simp [rootsL]
theorem rootsL_succ (n d : Int) (k m : Nat) : rootsL n d k (m + 1) = rootsL n d k m ++ [⟨(mkT (n + (m : Int) * d) (d * (k : Int))).1, (mkT (n + (m : Int) * d) (d * (k : Int))).2⟩] := by simp [rootsL, List.range_succ]
def allT (xs : List S25) : Bool := xs.all fun t => decide (isT t.f0 t.f1)
theorem allT_snoc (xs : List S25) (t : S25) : allT (xs ++ [t]) = (allT xs && decide (isT t.f0 t.f1)) := by simp [allT]
theorem isT_mk (n : Int) {d : Int} (hd : 0 < d) : isT (mkT n d).1 (mkT n d).2 ↔ (mkT n d).2 ≤ 1000000 := ⟨fun h => h.1.2, fun h => isT_of_low (mkT_low n hd) h⟩
theorem root_bd {n d : Int} {i k : Nat} (hn : -1000000000000 ≤ n ∧ n ≤ 1000000000000) (hd : 0 < d ∧ d ≤ 1000000000000) (hi : i ≤ 1000) (hk : 0 < k ∧ k ≤ 1000) : (-1000000000000000 ≤ (i : Int) * d ∧ (i : Int) * d ≤ 1000000000000000) ∧ (0 < d * (k : Int) ∧ d * (k : Int) ≤ 1000000000000000) := by
  have m1 := mul_bd (M := 1000) (N := 1000000000000) (x := (i : Int)) (y := d) (by omega) (by omega)
  have m2 := mul_bd (M := 1000000000000) (N := 1000) (x := d) (y := (k : Int)) (by omega) (by omega)
  exact ⟨by omega, Int.mul_pos hd.1 (by omega), by omega⟩
theorem allT_prefix (n d : Int) (k : Nat) {i j : Nat} (h : i ≤ j) (ha : allT (rootsL n d k i) = false) : allT (rootsL n d k j) = false := by
  induction j with
  | zero => rw [show i = 0 by omega] at ha; exact ha
  | succ j ih =>
    by_cases e : i = j + 1
    · rw [← e]; exact ha
    · rw [rootsL_succ, allT_snoc, ih (by omega)]; rfl
theorem mkT_id {p q : Int} (h : low p q) : mkT p q = (p, q) := mkT_self h
def placeT (p q s x y : Int) : Int × Int := mkT (p * y + s * x * q) (q * y)
theorem place_start (n s x : Int) {d y : Int} (hd : 0 < d) (hy : 0 < y) : placeT (mkT n d).1 (mkT n d).2 s x y = mkT (n * y + s * x * d) (d * y) := mkT_add_l n (s * x) hd hy
theorem place_time (p s n : Int) {q d : Int} (hq : 0 < q) (hd : 0 < d) : placeT p q s (mkT n d).1 (mkT n d).2 = mkT (p * d + s * n * q) (q * d) := by
  unfold placeT
  have e1 := mkT_add_r ((mkT n d).1 * s) p hq (mkT_pos n hd)
  rw [mkT_mul n s hd, mkT_add_r (n * s) p hq hd] at e1
  rw [Int.mul_comm s (mkT n d).1, ← e1, Int.mul_comm s n]
def wayT (p q s x y : Int) : Int × Int := if s < 0 then mkT ((mkT (x * q - p * y) (y * q)).1 * (-1)) (mkT (x * q - p * y) (y * q)).2 else mkT (x * q - p * y) (y * q)
theorem wayT_eq (p s x : Int) {q y : Int} (hq : 0 < q) (hy : 0 < y) : wayT p q s x y = mkT (if s < 0 then (x * q - p * y) * (-1) else x * q - p * y) (y * q) := by
  unfold wayT
  by_cases c : s < 0
  · rw [if_pos c, if_pos c, mkT_mul _ _ (Int.mul_pos hy hq)]
  · rw [if_neg c, if_neg c]
def timesL (p q s x y : Int) : List S25 := rootsL (wayT p q s x y).1 (wayT p q s x y).2 s.natAbs s.natAbs
def timesT (p q s x y : Int) : List S25 × Bool := if allT (timesL p q s x y) = true then (timesL p q s x y, true) else ([], false)
theorem at_times {p q s x y : Int} (hq : 0 < q) (h : low x y) (hs : s ≠ 0) : ∀ t ∈ timesL p q s x y, placeT p q s t.f0 t.f1 = (x, y) := by
  intro t ht
  unfold timesL rootsL at ht
  obtain ⟨i, hi, rfl⟩ := List.mem_map.1 ht
  have hy := h.1
  have hY := Int.mul_pos hy hq
  rw [wayT_eq p s x hq hy]
  generalize hw : (if s < 0 then (x * q - p * y) * (-1) else x * q - p * y) = W
  have hw2 := mkT_pos W hY
  dsimp only
  have hn : (0 : Int) < (s.natAbs : Int) := by omega
  rw [place_time p s _ hq (Int.mul_pos hw2 hn)]
  rw [← mkT_id h]
  by_cases c : s < 0
  · rw [if_pos c] at hw
    have hs' : s = -(s.natAbs : Int) := by omega
    generalize (s.natAbs : Int) = n at hs' hn
    subst hs'
    have e1 := mkT_sub_r W p hq hY
    generalize (mkT W (y * q)) = w at hw2 e1 ⊢
    obtain ⟨w1, w2⟩ := w
    dsimp only at hw2 e1 ⊢
    have e2 : mkT (p * (w2 * n) + -n * (w1 + (i : Int) * w2) * q) (q * (w2 * n)) = mkT (p * w2 - w1 * q) (q * w2) := by
      rw [← mkT_add_turns (p * w2 - w1 * q) (-(i : Int)) (Int.mul_pos hq hw2), ← mkT_scale (p * w2 - w1 * q + q * w2 * -(i : Int)) (Int.mul_pos hq hw2) hn]
      exact congr (congrArg mkT (by grind)) (by grind)
    rw [e2, e1]
    exact mkT_cross (Int.mul_pos hq hY) hy (by rw [← hw]; grind)
  · rw [if_neg c] at hw
    have hs' : s = (s.natAbs : Int) := by omega
    generalize (s.natAbs : Int) = n at hs' hn
    subst hs'
    have e1 := mkT_add_r W p hq hY
    generalize (mkT W (y * q)) = w at hw2 e1 ⊢
    obtain ⟨w1, w2⟩ := w
    dsimp only at hw2 e1 ⊢
    have e2 : mkT (p * (w2 * s) + s * (w1 + (i : Int) * w2) * q) (q * (w2 * s)) = mkT (p * w2 + w1 * q) (q * w2) := by
      rw [← mkT_add_turns (p * w2 + w1 * q) (i : Int) (Int.mul_pos hq hw2), ← mkT_scale (p * w2 + w1 * q + q * w2 * (i : Int)) (Int.mul_pos hq hw2) hn]
      exact congr (congrArg mkT (by grind)) (by grind)
    rw [e2, e1]
    exact mkT_cross (Int.mul_pos hq hY) hy (by rw [← hw]; grind)
def lessT2 (a b : S25) : Prop := a.f0 * b.f1 < b.f0 * a.f1
theorem roots_rise {n d : Int} {k : Nat} (hn : 0 ≤ n ∧ n < d) (hk : 0 < k) : (rootsL n d k k).Pairwise lessT2 := by
  rw [List.pairwise_iff_getElem]
  intro i j hi hj hij
  simp only [rootsL, List.length_map, List.length_range] at hi hj
  simp only [rootsL, List.getElem_map, List.getElem_range, lessT2]
  have hD : 0 < d * (k : Int) := Int.mul_pos (by omega) (by omega)
  have bd : ∀ m : Nat, m < k → 0 ≤ n + (m : Int) * d ∧ n + (m : Int) * d < d * (k : Int) := by
    intro m hm
    have h1 : (m : Int) * d ≤ ((k : Int) - 1) * d := Int.mul_le_mul_of_nonneg_right (by omega) (by omega)
    have h2 := Int.mul_nonneg (show (0 : Int) ≤ m by omega) (show 0 ≤ d by omega)
    have h3 : ((k : Int) - 1) * d = d * (k : Int) - d := by grind
    omega
  have e1 := mkT_eq (n + (i : Int) * d) hD
  have e2 := mkT_eq (n + (j : Int) * d) hD
  rw [Int.emod_eq_of_lt (bd i hi).1 (bd i hi).2] at e1
  rw [Int.emod_eq_of_lt (bd j hj).1 (bd j hj).2] at e2
  have p1 := mkT_pos (n + (i : Int) * d) hD
  have p2 := mkT_pos (n + (j : Int) * d) hD
  have hlt : n + (i : Int) * d < n + (j : Int) * d := by
    have := Int.mul_lt_mul_of_pos_right (show (i : Int) < j by omega) (show 0 < d by omega)
    omega
  generalize n + (i : Int) * d = N at *
  generalize n + (j : Int) * d = M at *
  generalize mkT N (d * (k : Int)) = a at *
  generalize mkT M (d * (k : Int)) = b at *
  refine Int.lt_of_mul_lt_mul_right (a := d * (k : Int)) ?_ (Int.le_of_lt hD)
  have h1 : a.1 * b.2 * (d * (k : Int)) = a.2 * b.2 * N := by grind
  have h2 : b.1 * a.2 * (d * (k : Int)) = a.2 * b.2 * M := by grind
  rw [h1, h2]
  exact Int.mul_lt_mul_of_pos_left hlt (Int.mul_pos p1 p2)
theorem roots_none {n d : Int} {k : Nat} (h : low n d) (hd : d > 1000000) (hk : 0 < k) : allT (rootsL n d k k) = false := by
  refine allT_prefix n d k (i := 1) (by omega) ?_
  have hD : 0 < d * (k : Int) := Int.mul_pos h.1 (by omega)
  rw [show (1 : Nat) = 0 + 1 from rfl, rootsL_succ, allT_snoc]
  have e0 : allT (rootsL n d k 0) = true := rfl
  rw [e0, Bool.true_and, decide_eq_false_iff_not]
  dsimp only
  rw [isT_mk _ hD]
  have e1 := mkT_eq (n + ((0 : Nat) : Int) * d) hD
  have h1 : n + ((0 : Nat) : Int) * d = n := by omega
  rw [h1] at e1 ⊢
  have h2 : d ≤ d * (k : Int) := by
    have := Int.mul_le_mul_of_nonneg_left (show (1 : Int) ≤ k by omega) (show 0 ≤ d by have := h.1; omega)
    omega
  rw [Int.emod_eq_of_lt h.2.1 (by have := h.2.2.1; omega)] at e1
  have h3 : d ∣ (mkT n (d * (k : Int))).2 * n := ⟨(mkT n (d * (k : Int))).1 * (k : Int), by rw [← e1]; grind⟩
  have h4 : d ∣ (mkT n (d * (k : Int))).2 := by
    refine dvd_cancel (m := n) ?_ (by rw [Int.mul_comm]; exact h3)
    have := h.2.2.2
    unfold gI at this
    rw [Int.gcd_comm]
    omega
  have h5 := Int.le_of_dvd (mkT_pos n hD) h4
  omega
theorem mkT_zero1 {K E : Int} (hE : 0 < E) : mkT K E = (0, 1) ↔ ∃ m, K = E * m := by
  constructor
  · intro e
    have h := mkT_eq K hE
    rw [e] at h
    exact ⟨K / E, by have := Int.mul_ediv_add_emod K E; simp at h; omega⟩
  · rintro ⟨m, rfl⟩
    have := mkT_add_turns 0 m hE
    rw [Int.zero_add] at this
    rw [this]; exact mkT_zero hE
theorem diff0 (M M' : Int) {D D' : Int} (hD : 0 < D) (hD' : 0 < D') : mkT M D = mkT M' D' ↔ mkT (M * D' - M' * D) (D * D') = (0, 1) := by
  constructor
  · intro e
    have e1 := mkT_sub_l M (mkT M' D').1 hD (mkT_pos M' hD')
    have e2 := mkT_sub_r M' M hD hD'
    rw [← e2, ← e1, e, Int.sub_self]
    exact mkT_zero (Int.mul_pos (mkT_pos _ hD') (mkT_pos _ hD'))
  · intro e
    obtain ⟨m, hm⟩ := (mkT_zero1 (Int.mul_pos hD hD')).1 e
    exact mkT_congr (m := m) hD hD' (by omega)
theorem low0 {q : Int} (h : low 0 q) : q = 1 := by
  have := h.2.2.2
  unfold gI at this
  rw [Int.gcd_zero_left] at this
  have := h.1
  omega
theorem floorDiv_val {n d : Int} (hd : 0 < d) (hb : d ≤ 4611686018427387904) : ∃ q, impl_floorDiv.f n d = some (q, n % d) := by
  unfold impl_floorDiv.f
  obtain ⟨t1, t0⟩ := tmod_bd n hd
  have m0 : 0 ≤ n % d := Int.emod_nonneg _ (by omega)
  have m1 : n % d < d := Int.emod_lt_of_pos _ hd
  have e := Int.mul_tdiv_add_tmod n d
  have e2 : n % d = (Int.tmod n d) % d := by
    have : n % d = (Int.tmod n d + d * Int.tdiv n d) % d := by rw [Int.add_comm, e]
    rw [this, Int.add_mul_emod_self_left]
  rw [if_neg (by omega)]
  by_cases h : Int.tmod n d < 0
  · rw [if_pos h, wid (x := Int.tmod n d + d) (by omega) (by omega)]
    refine ⟨_, congrArg some (Prod.ext rfl ?_)⟩
    rw [e2, ← Int.add_emod_right, Int.emod_eq_of_lt (by omega) (by omega)]
  · rw [if_neg h]
    refine ⟨_, congrArg some (Prod.ext rfl ?_)⟩
    rw [e2, Int.emod_eq_of_lt (by omega) (by omega)]
theorem part_val {n d : Int} (hd : 0 < d) (hb : d ≤ 4611686018427387904) : Ev (fun k => impl_part.f k n d) (mkT n d) := by
  unfold impl_part.f
  have g0 := gI_pos (a := n % d) (show d ≠ 0 by omega)
  have m0 : 0 ≤ n % d := Int.emod_nonneg _ (by omega)
  have m1 : n % d < d := Int.emod_lt_of_pos _ hd
  have q0 : 0 ≤ d / gI (n % d) d := Int.ediv_nonneg (by omega) (by omega)
  have q1 : d / gI (n % d) d ≤ d := Int.ediv_le_self _ (by omega)
  have r0 : 0 ≤ n % d / gI (n % d) d := Int.ediv_nonneg (by omega) (by omega)
  have r1 : n % d / gI (n % d) d ≤ n % d := Int.ediv_le_self _ (by omega)
  obtain ⟨q, hq⟩ := floorDiv_val (n := n) hd hb
  simp only [hq, Option.bind_some]
  refine Ev.bind (igcd_val (by omega) (by omega) (by omega) (by omega)) ?_
  rw [if_neg (by omega), tdiv_nn _ m0, tdiv_nn _ (by omega), wid (x := d / gI (n % d) d) (by omega) (by omega), wid (x := n % d / gI (n % d) d) (by omega) (by omega)]
  exact ⟨0, fun _ _ => rfl⟩
theorem plus_val {a b c d : Int} (ha : -1000000000 ≤ a ∧ a ≤ 1000000000) (hb : 0 < b ∧ b ≤ 1000000000) (hc : -1000000000 ≤ c ∧ c ≤ 1000000000) (hd : 0 < d ∧ d ≤ 1000000000) : Ev (fun k => impl_Turn_plus.f k a b c d) (mkT (a * d + c * b) (b * d)) := by
  have e1 := mul_bd (N := 1000000000) ha (y := d) (by omega)
  have e2 := mul_bd (N := 1000000000) hc (y := b) (by omega)
  have e3 := mul_bd (M := 1000000000) (N := 1000000000) (x := b) (y := d) (by omega) (by omega)
  have e4 : 0 < b * d := Int.mul_pos hb.1 hd.1
  unfold impl_Turn_plus.f
  rw [wid (x := a * d) (by omega) (by omega), wid (x := c * b) (by omega) (by omega), wid (x := b * d) (by omega) (by omega), wid (x := a * d + c * b) (by omega) (by omega)]
  exact Ev.bind (part_val e4 (by omega)) ⟨0, fun _ _ => rfl⟩
theorem minus_val {a b c d : Int} (ha : -1000000000 ≤ a ∧ a ≤ 1000000000) (hb : 0 < b ∧ b ≤ 1000000000) (hc : -1000000000 ≤ c ∧ c ≤ 1000000000) (hd : 0 < d ∧ d ≤ 1000000000) : Ev (fun k => impl_Turn_minus.f k a b c d) (mkT (a * d - c * b) (b * d)) := by
  have e1 := mul_bd (N := 1000000000) ha (y := d) (by omega)
  have e2 := mul_bd (N := 1000000000) hc (y := b) (by omega)
  have e3 := mul_bd (M := 1000000000) (N := 1000000000) (x := b) (y := d) (by omega) (by omega)
  have e4 : 0 < b * d := Int.mul_pos hb.1 hd.1
  unfold impl_Turn_minus.f
  rw [wid (x := a * d) (by omega) (by omega), wid (x := c * b) (by omega) (by omega), wid (x := b * d) (by omega) (by omega), wid (x := a * d - c * b) (by omega) (by omega)]
  exact Ev.bind (part_val e4 (by omega)) ⟨0, fun _ _ => rfl⟩
theorem times_val {a b k : Int} (ha : -1000000000 ≤ a ∧ a ≤ 1000000000) (hb : 0 < b ∧ b ≤ 1000000000) (hk : -1000000000 ≤ k ∧ k ≤ 1000000000) : Ev (fun n => impl_Turn_times.f n a b k) (mkT (a * k) b) := by
  have e1 := mul_bd ha hk
  unfold impl_Turn_times.f
  rw [wid (x := a * k) (by omega) (by omega)]
  exact Ev.bind (part_val hb.1 (by omega)) ⟨0, fun _ _ => rfl⟩
theorem mirror_val {a b : Int} (ha : -1000000000 ≤ a ∧ a ≤ 1000000000) (hb : 0 < b ∧ b ≤ 1000000000) : Ev (fun n => impl_Turn_mirror.f n a b) (mkT (a * (-1)) b) := by
  unfold impl_Turn_mirror.f
  exact Ev.bind (times_val ha hb (by omega)) ⟨0, fun _ _ => rfl⟩
theorem diCommon_ev : ∀ (n : Nat) (a b : Int), 0 ≤ a → 0 ≤ b → b.toNat ≤ n → ∀ k, n < k → spec_diCommon.l0 k a b = some (gI a b)
  | 0, a, b, ha, hb, hn, k, hk => by
    obtain ⟨k, rfl⟩ : ∃ m, k = m + 1 := ⟨k - 1, by omega⟩
    have : b = 0 := by omega
    subst this
    simp only [spec_diCommon.l0]
    rw [if_neg (by omega)]
    unfold gI
    rw [Int.gcd_zero_right]; congr 1; omega
  | n + 1, a, b, ha, hb, hn, k, hk => by
    obtain ⟨k, rfl⟩ : ∃ m, k = m + 1 := ⟨k - 1, by omega⟩
    simp only [spec_diCommon.l0]
    by_cases h0 : b = 0
    · subst h0
      rw [if_neg (by omega)]
      unfold gI
      rw [Int.gcd_zero_right]; congr 1; omega
    · have h1 : 0 ≤ Int.tmod a b := by rw [tmod_nn _ ha]; exact Int.emod_nonneg _ h0
      have h2 : Int.tmod a b < b := by rw [tmod_nn _ ha]; exact Int.emod_lt_of_pos _ (by omega)
      rw [if_pos (by omega), if_neg h0, diCommon_ev n b (Int.tmod a b) hb h1 (by omega) k (by omega), gI_tmod]
theorem diCommon_val {a b : Int} (ha : 0 ≤ a) (hb : 0 ≤ b) : Ev (fun k => spec_diCommon.f k a b) (gI a b) :=
  ⟨b.toNat + 1, fun k hk => diCommon_ev b.toNat a b ha hb (Nat.le_refl _) k (by omega)⟩
/-- What diMake tells of a part in lowest terms: it, if it is a turn. -/
def tell (t : Int × Int) : Int × Int × Bool := if t.2 > 1000000 then (0, 0, false) else (t.1, t.2, true)
theorem norm_mod (n : Int) {d : Int} (hd : 0 < d) : (Int.tmod n d + d) % d = n % d := by
  rw [Int.add_emod_right]
  have e := Int.mul_tdiv_add_tmod n d
  have : n % d = (Int.tmod n d + d * Int.tdiv n d) % d := by rw [Int.add_comm, e]
  rw [this, Int.add_mul_emod_self_left]
theorem diMake_val {n d : Int} (hd : 0 < d) (hb : d ≤ 4611686018427387904) : Ev (fun k => spec_diMake.f k n d) (tell (mkT n d)) := by
  unfold spec_diMake.f
  obtain ⟨t1, t0⟩ := tmod_bd n hd
  have g0 := gI_pos (a := n % d) (show d ≠ 0 by omega)
  have m0 : 0 ≤ n % d := Int.emod_nonneg _ (by omega)
  have m1 : n % d < d := Int.emod_lt_of_pos _ hd
  have q0 : 0 ≤ d / gI (n % d) d := Int.ediv_nonneg (by omega) (by omega)
  have q1 : d / gI (n % d) d ≤ d := Int.ediv_le_self _ (by omega)
  have r0 : 0 ≤ n % d / gI (n % d) d := Int.ediv_nonneg (by omega) (by omega)
  have r1 : n % d / gI (n % d) d ≤ n % d := Int.ediv_le_self _ (by omega)
  simp only [if_neg (show ¬ d = 0 by omega)]
  rw [wid (x := Int.tmod n d + d) (by omega) (by omega), tmod_nn _ (show 0 ≤ Int.tmod n d + d by omega), norm_mod n hd]
  refine Ev.bind (diCommon_val m0 (by omega)) ?_
  rw [if_neg (by omega), tdiv_nn _ m0, tdiv_nn _ (by omega), wid (x := d / gI (n % d) d) (by omega) (by omega), wid (x := n % d / gI (n % d) d) (by omega) (by omega)]
  refine ⟨0, fun _ _ => ?_⟩
  unfold tell mkT
  dsimp only
  split <;> rfl
theorem diAdd_val {a b c d k : Int} (ha : -1000000000 ≤ a ∧ a ≤ 1000000000) (hb : 0 < b ∧ b ≤ 1000000000) (hc : -1000000 ≤ c ∧ c ≤ 1000000) (hk : -1000 ≤ k ∧ k ≤ 1000) (hd : 0 < d ∧ d ≤ 1000000000) : Ev (fun n => spec_diAdd.f n a b c d k) (tell (mkT (a * d + k * c * b) (b * d))) := by
  have e1 := mul_bd (N := 1000000000) ha (y := d) (by omega)
  have e5 := mul_bd (M := 1000) (N := 1000000) (x := k) (y := c) hk hc
  have e2 := mul_bd (M := 1000000000) (N := 1000000000) (x := k * c) (y := b) (by omega) (by omega)
  have e3 := mul_bd (M := 1000000000) (N := 1000000000) (x := b) (y := d) (by omega) (by omega)
  have e4 : 0 < b * d := Int.mul_pos hb.1 hd.1
  unfold spec_diAdd.f
  rw [wid (x := k * c) (by omega) (by omega), wid (x := a * d) (by omega) (by omega), wid (x := k * c * b) (by omega) (by omega), wid (x := b * d) (by omega) (by omega), wid (x := a * d + k * c * b) (by omega) (by omega)]
  exact Ev.bind (diMake_val e4 (by omega)) ⟨0, fun _ _ => rfl⟩
theorem mkT_small (n : Int) {d : Int} (hd : 0 < d) : (mkT n d).2 ≤ d := Int.le_of_dvd hd (mkT_dvd n)
theorem tell_small (n : Int) {d : Int} (hd : 0 < d) (h : d ≤ 1000000) : tell (mkT n d) = ((mkT n d).1, (mkT n d).2, true) := by
  have := mkT_small n hd
  unfold tell
  rw [if_neg (by omega)]
theorem diTimes_val {a b k : Int} (ha : -1000000000 ≤ a ∧ a ≤ 1000000000) (hb : 0 < b ∧ b ≤ 1000000) (hk : -1000000000 ≤ k ∧ k ≤ 1000000000) : Ev (fun n => spec_diTimes.f n a b k) (mkT (a * k) b) := by
  have e1 := mul_bd ha hk
  unfold spec_diTimes.f
  rw [wid (x := a * k) (by omega) (by omega)]
  refine Ev.bind (diMake_val hb.1 (by omega)) ⟨0, fun _ _ => ?_⟩
  rw [tell_small _ hb.1 hb.2]
theorem diMirror_val {a b : Int} (ha : -1000000000 ≤ a ∧ a ≤ 1000000000) (hb : 0 < b ∧ b ≤ 1000000) : Ev (fun n => spec_diMirror.f n a b) (mkT (a * (-1)) b) := by
  unfold spec_diMirror.f
  exact Ev.bind (diTimes_val ha hb (by omega)) ⟨0, fun _ _ => rfl⟩
theorem l1In_val (a b c : Int) : spec_l1In.f a b c = some (decide (b ≤ a ∧ a ≤ c)) := by
  unfold spec_l1In.f
  by_cases h : a ≥ b
  · have e : (b ≤ a ∧ a ≤ c) ↔ a ≤ c := ⟨fun x => x.2, fun x => ⟨h, x⟩⟩
    rw [if_pos h, decide_eq_decide.mpr e]
  · rw [if_neg h, decide_eq_false (fun x => h x.1)]
theorem diGood_val (a b : Int) : Ev (fun k => spec_diGood.f k a b) (decide (isT a b)) := by
  unfold spec_diGood.f
  simp only [l1In_val, Option.bind_some]
  by_cases h1 : 1 ≤ b ∧ b ≤ 1000000
  · simp only [decide_eq_true h1, if_true]
    rw [wid (x := b - 1) (by omega) (by omega)]
    by_cases h2 : 0 ≤ a ∧ a ≤ b - 1
    · simp only [decide_eq_true h2, if_true]
      refine Ev.bind (diCommon_val h2.1 (by omega)) ?_
      refine ⟨0, fun _ _ => ?_⟩
      unfold isT
      rw [show (gI a b == 1) = decide (gI a b = 1) from Bool.eq_iff_iff.mpr (by simp)]
      simp [h1, h2]
    · simp only [decide_eq_false h2]
      exact ⟨0, fun _ _ => by unfold isT; simp [h2]⟩
  · simp only [decide_eq_false h1]
    exact ⟨0, fun _ _ => by unfold isT; simp [h1]⟩
theorem iroots_loop {n d : Int} {k : Nat} (hn : -1000000000000 ≤ n ∧ n ≤ 1000000000000) (hd : 0 < d ∧ d ≤ 1000000000000) (hk : 0 < k ∧ k ≤ 1000) (e : Nat) : ∀ i : Nat, i + e = k →
    Ev (fun q => impl_roots.l0 q k (rootsL n d k i) k i n d) (rootsL n d k k, allT (rootsL n d k k)) := by
  induction e with
  | zero =>
    intro i hi
    refine ⟨1, fun q hq => ?_⟩
    obtain ⟨q, rfl⟩ : ∃ m, q = m + 1 := ⟨q - 1, by omega⟩
    simp only [impl_roots.l0]
    rw [if_neg (by omega), show i = k by omega]
    unfold impl_areTurns.f
    rfl
  | succ e ih =>
    intro i hi
    obtain ⟨b1, b2⟩ := root_bd (i := i) hn hd (by omega) (show 0 < k ∧ k ≤ 1000 by omega)
    obtain ⟨K1, h1⟩ := ih (i + 1) (by omega)
    obtain ⟨K2, h2⟩ := part_val (n := n + (i : Int) * d) b2.1 (by omega)
    refine ⟨max K1 K2 + 1, fun q hq => ?_⟩
    obtain ⟨q, rfl⟩ : ∃ m, q = m + 1 := ⟨q - 1, by omega⟩
    have e1 := h1 q (by omega)
    have e2 := h2 q (by omega)
    dsimp only at e1 e2
    simp only [impl_roots.l0]
    rw [if_pos (by omega), wid (x := (i : Int) * d) (by omega) (by omega), wid (x := n + (i : Int) * d) (by omega) (by omega), wid (x := d * (k : Int)) (by omega) (by omega), e2]
    simp only [Option.bind_some]
    rw [rootsL_length, if_pos (by omega), wid (x := (i : Int) + 1) (by omega) (by omega), ← rootsL_succ]
    exact e1
theorem iroots_val {n d : Int} {k : Nat} (hn : -1000000000000 ≤ n ∧ n ≤ 1000000000000) (hd : 0 < d ∧ d ≤ 1000000000000) (hk : 0 < k ∧ k ≤ 1000) : Ev (fun q => impl_roots.f q n d k) (rootsL n d k k, allT (rootsL n d k k)) :=
  iroots_loop hn hd hk k 0 (by omega)
theorem ifTurns_val (xs : List S25) (b : Bool) : impl_ifTurns.f xs b = some (if b = true ∧ allT xs = true then (xs, true) else ([], false)) := by
  unfold impl_ifTurns.f impl_areTurns.f
  show (if b = true then ((some (allT xs)).bind fun t => if t = true then some (xs, true) else some ([], false)) else some ([], false)) = _
  cases b <;> cases allT xs <;> rfl
theorem rooted_val {n d : Int} {k : Nat} (hn : -1000000000000 ≤ n ∧ n ≤ 1000000000000) (hd : 0 < d ∧ d ≤ 1000000000000) (hk : 0 < k ∧ k ≤ 1000) : Ev (fun q => (impl_roots.f q n d k).bind fun b => (impl_ifTurns.f b.1 b.2).bind fun c => some (c.1, c.2)) (if allT (rootsL n d k k) = true then (rootsL n d k k, true) else ([], false)) := by
  refine Ev.bind (iroots_val hn hd hk) ⟨0, fun _ _ => ?_⟩
  dsimp only
  rw [ifTurns_val]
  cases allT (rootsL n d k k) <;> rfl
theorem Ev.up {α : Type} {g : Nat → Option α} {r : α} (h : Ev (fun k => g (k + 1)) r) : Ev g r := Ev.step (fun _ => rfl) h
theorem ifTurn_mk (n : Int) {d : Int} (hd : 0 < d) : Ev (fun k => impl_ifTurn.f k (mkT n d).1 (mkT n d).2) (tell (mkT n d)) := by
  unfold impl_ifTurn.f
  refine Ev.bind (IsTurn_val _ _) ?_
  have hl := mkT_low n hd
  generalize mkT n d = z at *
  unfold tell
  by_cases h : z.2 > 1000000
  · rw [if_pos h, decide_eq_false (show ¬ isT z.1 z.2 from fun x => by have := x.1; omega)]
    exact ⟨0, fun _ _ => rfl⟩
  · rw [if_neg h, decide_eq_true (isT_of_low hl (by omega))]
    exact ⟨0, fun _ _ => rfl⟩
theorem isT_bd {a b : Int} (h : isT a b) : (0 ≤ a ∧ a < b) ∧ 0 < b ∧ b ≤ 1000000 := by
  obtain ⟨⟨h1, h2⟩, ⟨h3, h4⟩, _⟩ := h
  omega
theorem isH_bd {p q s : Int} (h : isH p q s) : (0 ≤ p ∧ p < q) ∧ (0 < q ∧ q ≤ 1000) ∧ (-400 ≤ s ∧ s ≤ 400) ∧ isT p q := by
  obtain ⟨h1, h2, h3, h4⟩ := h
  have := isT_bd h1
  exact ⟨this.1, ⟨this.2.1, h2⟩, ⟨h3, h4⟩, h1⟩
/-- bounds of a hand that stands anywhere (relative ones too) -/
def bdH (p q s : Int) : Prop := (0 ≤ p ∧ p < q) ∧ q ≤ 1000000 ∧ -1000 ≤ s ∧ s ≤ 1000
theorem isH_bdH {p q s : Int} (h : isH p q s) : bdH p q s := by have := isH_bd h; unfold bdH; omega
def relT (p q p' q' : Int) : Int × Int := mkT (p * q' - p' * q) (q * q')
theorem rel_bd {p q s p' q' s' : Int} (h : isH p q s) (h' : isH p' q' s') : bdH (relT p q p' q').1 (relT p q p' q').2 (s - s') ∧ low (relT p q p' q').1 (relT p q p' q').2 ∧ 0 < q * q' ∧ q * q' ≤ 1000000 := by
  have b := isH_bd h
  have b' := isH_bd h'
  have m := mul_bd (M := 1000) (N := 1000) (x := q) (y := q') (by omega) (by omega)
  have hp := Int.mul_pos b.2.1.1 b'.2.1.1
  have L := mkT_low (p * q' - p' * q) hp
  have D := Int.le_of_dvd hp (mkT_dvd (p * q' - p' * q))
  unfold relT
  obtain ⟨l1, l2, l3, l4⟩ := id L
  unfold bdH
  exact ⟨⟨⟨l2, l3⟩, by omega, by omega, by omega⟩, L, hp, by omega⟩
theorem irelative_val {p q s p' q' s' : Int} (h : isH p q s) (h' : isH p' q' s') : Ev (fun k => impl_relative.f k p q s p' q' s') ((relT p q p' q').1, (relT p q p' q').2, s - s') := by
  have b := isH_bd h
  have b' := isH_bd h'
  unfold impl_relative.f
  refine Ev.bind (minus_val (a := p) (b := q) (c := p') (d := q') (by omega) (by omega) (by omega) (by omega)) ⟨0, fun _ _ => ?_⟩
  rw [wid (x := s - s') (by omega) (by omega)]
  rfl
theorem meRelative_val {p q s p' q' s' : Int} (h : isH p q s) (h' : isH p' q' s') : Ev (fun k => spec_meRelative.f k p q s p' q' s') ((relT p q p' q').1, (relT p q p' q').2, s - s') := by
  have b := isH_bd h
  have b' := isH_bd h'
  have r := rel_bd h h'
  unfold spec_meRelative.f
  refine Ev.bind (diAdd_val (a := p) (b := q) (c := p') (d := q') (k := -1) (by omega) (by omega) (by omega) (by omega) (by omega)) ⟨0, fun _ _ => ?_⟩
  rw [wid (x := s - s') (by omega) (by omega), show p * q' + -1 * p' * q = p * q' - p' * q by grind]
  unfold tell
  rw [if_neg (by have := r.1.2.1; unfold relT at this; omega)]
  rfl
theorem hat_val {p q s x y : Int} (h : bdH p q s) (hx : 0 ≤ x ∧ x < y) (hy : y ≤ 1000000) : Ev (fun k => impl_Hand_at.f k p q s x y) (placeT p q s x y) := by
  obtain ⟨h1, h2, h3, h4⟩ := h
  have hy0 : 0 < y := by omega
  unfold impl_Hand_at.f
  refine Ev.bind (times_val (a := x) (b := y) (k := s) (by omega) (by omega) (by omega)) ?_
  have L := mkT_low (x * s) hy0
  have D := Int.le_of_dvd hy0 (mkT_dvd (x * s))
  obtain ⟨l1, l2, l3, l4⟩ := L
  refine Ev.bind (plus_val (a := p) (b := q) (c := (mkT (x * s) y).1) (d := (mkT (x * s) y).2) (by omega) (by omega) (by omega) (by omega)) ⟨0, fun _ _ => ?_⟩
  rw [mkT_add_r (x * s) p (by omega) hy0, Int.mul_comm x s]
  rfl
theorem meAt_val {p q s x y : Int} (h : bdH p q s) (hx : 0 ≤ x ∧ x < y) (hy : y ≤ 1000000) : Ev (fun k => spec_meAt.f k p q s x y) (tell (placeT p q s x y)) := by
  obtain ⟨h1, h2, h3, h4⟩ := h
  unfold spec_meAt.f
  exact Ev.bind (diAdd_val (a := p) (b := q) (c := x) (d := y) (k := s) (by omega) (by omega) (by omega) (by omega) (by omega)) ⟨0, fun _ _ => rfl⟩
theorem way_low {p q s x y : Int} (h : bdH p q s) (hy : 0 < y) : low (wayT p q s x y).1 (wayT p q s x y).2 := by
  rw [wayT_eq p s x (by have := h.1; omega) hy]
  exact mkT_low _ (Int.mul_pos hy (by have := h.1; omega))
theorem way_bd {p q s x y : Int} (h : bdH p q s) (hx : 0 ≤ x ∧ x < y) (hy : y ≤ 1000) : (0 ≤ (wayT p q s x y).1 ∧ (wayT p q s x y).1 < (wayT p q s x y).2) ∧ (wayT p q s x y).2 ≤ 1000000000 := by
  have L := way_low (x := x) h (show 0 < y by omega)
  obtain ⟨l1, l2, l3, l4⟩ := L
  refine ⟨⟨l2, l3⟩, ?_⟩
  obtain ⟨h1, h2, _⟩ := h
  have hY := Int.mul_pos (show 0 < y by omega) (show 0 < q by omega)
  have m := mul_bd (M := 1000) (N := 1000000) (x := y) (y := q) (by omega) (by omega)
  rw [wayT_eq p s x (show 0 < q by omega) (by omega)]
  have := Int.le_of_dvd hY (mkT_dvd (if s < 0 then (x * q - p * y) * (-1) else x * q - p * y))
  omega
theorem timesAt_val {p q s x y : Int} (h : bdH p q s) (hs : s ≠ 0) (hx : 0 ≤ x ∧ x < y) (hy : y ≤ 1000) : Ev (fun k => impl_Hand_timesAt.f k p q s x y) (timesT p q s x y) := by
  have B := way_bd h hx hy
  obtain ⟨h1, h2, h3, h4⟩ := id h
  unfold impl_Hand_timesAt.f
  refine Ev.bind (minus_val (a := x) (b := y) (c := p) (d := q) (by omega) (by omega) (by omega) (by omega)) ?_
  have key : ∀ n : Int, n = (s.natAbs : Int) → Ev (fun k => (impl_roots.f k (wayT p q s x y).1 (wayT p q s x y).2 n).bind fun b => (impl_ifTurns.f b.1 b.2).bind fun c => some (c.1, c.2)) (timesT p q s x y) := by
    rintro n rfl
    exact rooted_val (by omega) (by omega) (by omega)
  have hY := Int.mul_pos (show 0 < y by omega) (show 0 < q by omega)
  have m := mul_bd (M := 1000) (N := 1000000) (x := y) (y := q) (by omega) (by omega)
  have D := Int.le_of_dvd hY (mkT_dvd (x * q - p * y))
  have L := mkT_low (x * q - p * y) hY
  obtain ⟨l1, l2, l3, l4⟩ := L
  by_cases c : s < 0
  · simp only [if_pos c]
    refine Ev.bind (mirror_val (by omega) (by omega)) ?_
    have k2 := key (wrap64 (-s)) (by rw [wid (by omega) (by omega)]; omega)
    unfold wayT at k2
    rw [if_pos c] at k2
    exact k2
  · simp only [if_neg c]
    have k2 := key s (by omega)
    unfold wayT at k2
    rw [if_neg c] at k2
    exact k2
theorem meTimes_loop {n d : Int} {k : Nat} (hn : -1000000000000 ≤ n ∧ n ≤ 1000000000000) (hd : 0 < d ∧ d ≤ 1000000000000) (hk : 0 < k ∧ k ≤ 1000) (e : Nat) : ∀ i : Nat, i + e = k → allT (rootsL n d k i) = true →
    Ev (fun q => spec_meTimes.l0 q k (rootsL n d k i) i n d) (if allT (rootsL n d k k) = true then (rootsL n d k k, true) else ([], false)) := by
  induction e with
  | zero =>
    intro i hi ha
    refine ⟨1, fun q hq => ?_⟩
    obtain ⟨q, rfl⟩ : ∃ m, q = m + 1 := ⟨q - 1, by omega⟩
    simp only [spec_meTimes.l0]
    obtain rfl : i = k := by omega
    rw [if_neg (by omega), if_pos ha]
  | succ e ih =>
    intro i hi ha
    obtain ⟨b1, b2⟩ := root_bd (i := i) hn hd (by omega) (show 0 < k ∧ k ≤ 1000 by omega)
    obtain ⟨K2, h2⟩ := diMake_val (n := n + (i : Int) * d) b2.1 (by omega)
    have hs : allT (rootsL n d k (i + 1)) = decide ((mkT (n + (i : Int) * d) (d * (k : Int))).2 ≤ 1000000) := by
      rw [rootsL_succ, allT_snoc, ha, Bool.true_and]
      exact decide_eq_decide.mpr (isT_mk _ b2.1)
    by_cases hb : (mkT (n + (i : Int) * d) (d * (k : Int))).2 ≤ 1000000
    · obtain ⟨K1, h1⟩ := ih (i + 1) (by omega) (by rw [hs, decide_eq_true hb])
      refine ⟨max K1 K2 + 1, fun q hq => ?_⟩
      obtain ⟨q, rfl⟩ : ∃ m, q = m + 1 := ⟨q - 1, by omega⟩
      have e1 := h1 q (by omega)
      have e2 := h2 q (by omega)
      dsimp only at e1 e2
      simp only [spec_meTimes.l0]
      rw [if_pos (by omega), wid (x := (i : Int) * d) (by omega) (by omega), wid (x := n + (i : Int) * d) (by omega) (by omega), wid (x := d * (k : Int)) (by omega) (by omega), e2]
      simp only [Option.bind_some, tell]
      rw [if_neg (show ¬ (mkT (n + (i : Int) * d) (d * (k : Int))).2 > 1000000 by omega)]
      dsimp only
      rw [if_pos rfl, rootsL_length, if_pos (by omega), wid (x := (i : Int) + 1) (by omega) (by omega), ← rootsL_succ]
      exact e1
    · refine ⟨K2 + 1, fun q hq => ?_⟩
      obtain ⟨q, rfl⟩ : ∃ m, q = m + 1 := ⟨q - 1, by omega⟩
      have e2 := h2 q (by omega)
      dsimp only at e2
      simp only [spec_meTimes.l0]
      rw [if_pos (by omega), wid (x := (i : Int) * d) (by omega) (by omega), wid (x := n + (i : Int) * d) (by omega) (by omega), wid (x := d * (k : Int)) (by omega) (by omega), e2]
      simp only [Option.bind_some, tell]
      rw [if_pos (show (mkT (n + (i : Int) * d) (d * (k : Int))).2 > 1000000 by omega)]
      have := allT_prefix n d k (show i + 1 ≤ k by omega) (by rw [hs, decide_eq_false hb])
      rw [if_neg (show ¬ allT (rootsL n d k k) = true by rw [this]; simp)]
      rfl
theorem meTimes_j {n d m : Int} {k : Nat} (hm : m = (k : Int)) (hn : -1000000000000 ≤ n ∧ n ≤ 1000000000000) (hd : 0 < d ∧ d ≤ 1000000000000) (hk : 0 < k ∧ k ≤ 1000) : Ev (fun q => spec_meTimes.j0 q m n d) (if allT (rootsL n d k k) = true then (rootsL n d k k, true) else ([], false)) := by
  subst hm
  refine Ev.up ?_
  simp only [spec_meTimes.j0]
  exact meTimes_loop hn hd hk k 0 (by omega) rfl
theorem meTimes_val {p q s x y : Int} (h : bdH p q s) (hs : s ≠ 0) (hx : 0 ≤ x ∧ x < y) (hy : y ≤ 1000) : Ev (fun k => spec_meTimes.f k p q s x y) (timesT p q s x y) := by
  have B := way_bd h hx hy
  have WL := way_low (x := x) h (show 0 < y by omega)
  obtain ⟨h1, h2, h3, h4⟩ := id h
  have hY := Int.mul_pos (show 0 < y by omega) (show 0 < q by omega)
  have m := mul_bd (M := 1000) (N := 1000000) (x := y) (y := q) (by omega) (by omega)
  have D := Int.le_of_dvd hY (mkT_dvd (x * q - p * y))
  have L := mkT_low (x * q - p * y) hY
  obtain ⟨l1, l2, l3, l4⟩ := id L
  unfold spec_meTimes.f
  refine Ev.bind (diAdd_val (a := x) (b := y) (c := p) (d := q) (k := -1) (by omega) (by omega) (by omega) (by omega) (by omega)) ?_
  rw [show x * q + -1 * p * y = x * q - p * y by grind]
  unfold tell
  by_cases big : (mkT (x * q - p * y) (y * q)).2 > 1000000
  · rw [if_pos big]
    refine ⟨0, fun _ _ => ?_⟩
    have hw2 : (wayT p q s x y).2 > 1000000 := by
      unfold wayT
      by_cases c : s < 0
      · rw [if_pos c]
        have e := mkT_low ((mkT (x * q - p * y) (y * q)).1 * (-1)) l1
        have dv : (mkT (x * q - p * y) (y * q)).2 ∣ (mkT ((mkT (x * q - p * y) (y * q)).1 * (-1)) (mkT (x * q - p * y) (y * q)).2).2 := by
          have e1 := mkT_mul ((mkT (x * q - p * y) (y * q)).1 * (-1)) (-1) l1
          rw [Int.mul_assoc, show (-1 : Int) * -1 = 1 from rfl, Int.mul_one, mkT_id L] at e1
          have dv3 := mkT_dvd ((mkT ((mkT (x * q - p * y) (y * q)).1 * (-1)) (mkT (x * q - p * y) (y * q)).2).1 * (-1)) (d := (mkT ((mkT (x * q - p * y) (y * q)).1 * (-1)) (mkT (x * q - p * y) (y * q)).2).2)
          rw [e1] at dv3
          exact dv3
        have := Int.le_of_dvd e.1 dv
        omega
      · rw [if_neg c]; exact big
    have hz := roots_none WL hw2 (show 0 < s.natAbs by omega)
    unfold timesT timesL
    rw [hz]
    rfl
  · rw [if_neg big]
    simp only [if_true]
    by_cases c : s < 0
    · simp only [if_pos c]
      refine Ev.bind (diMirror_val (by omega) (by omega)) ?_
      have k2 := meTimes_j (n := (wayT p q s x y).1) (d := (wayT p q s x y).2) (m := wrap64 (-s)) (k := s.natAbs) (by rw [wid (by omega) (by omega)]; omega) (by omega) (by omega) (by omega)
      unfold timesT timesL
      unfold wayT at k2 ⊢
      rw [if_pos c] at k2 ⊢
      exact k2
    · simp only [if_neg c]
      have k2 := meTimes_j (n := (wayT p q s x y).1) (d := (wayT p q s x y).2) (m := s) (k := s.natAbs) (by omega) (by omega) (by omega) (by omega)
      unfold timesT timesL
      unfold wayT at k2 ⊢
      rw [if_neg c] at k2 ⊢
      exact k2
theorem all_twoH (a b c d e f : Int) : impl_areHands.f ([(⟨(⟨a, b⟩ : S25), c⟩ : S27), (⟨(⟨d, e⟩ : S25), f⟩ : S27)] : List S27) = some (decide (isH a b c ∧ isH d e f)) := by
  unfold impl_areHands.f
  simp [Bool.decide_and]
theorem Ev.const {α : Type} {r : α} : Ev (fun _ => some r) r := ⟨0, fun _ _ => rfl⟩
def aheadL (p q s p' q' s' x y : Int) : List S25 × Bool := if (isH p q s ∧ isH p' q' s') ∧ s ≠ s' then timesT (relT p q p' q').1 (relT p q p' q').2 (s - s') x y else ([], false)
theorem iaheadTimes_val (p q s p' q' s' : Int) {x y : Int} (hx : 0 ≤ x ∧ x < y) (hy : y ≤ 1000) : Ev (fun k => impl_aheadTimes.f k p q s p' q' s' x y) (aheadL p q s p' q' s' x y) := by
  unfold impl_aheadTimes.f aheadL
  simp only [all_twoH, Option.bind_some]
  by_cases h : isH p q s ∧ isH p' q' s'
  · simp only [decide_eq_true h, if_true]
    refine Ev.up ?_
    simp only [impl_aheadTimes.j0]
    by_cases e : s = s'
    · rw [if_neg (fun z => z.2 e)]
      simp only [beq_iff_eq.mpr e, if_true]
      exact Ev.const
    · rw [if_pos ⟨h, e⟩]
      simp only [beq_eq_false_iff_ne.mpr e, Bool.false_eq_true, if_false]
      have r := rel_bd h.1 h.2
      refine Ev.bind (irelative_val h.1 h.2) ?_
      exact Ev.bind (timesAt_val r.1 (show s - s' ≠ 0 by omega) hx hy) Ev.const
  · rw [if_neg (fun z => h z.1)]
    simp only [decide_eq_false h, Bool.false_eq_true, if_false]
    refine Ev.up ?_
    simp only [impl_aheadTimes.j0, if_true]
    exact Ev.const
theorem meGood_val (p q s : Int) : Ev (fun k => spec_meGood.f k p q s) (decide (isH p q s)) := by
  unfold spec_meGood.f
  refine Ev.bind (diGood_val p q) ⟨0, fun _ _ => ?_⟩
  unfold isH
  simp only [l1In_val, Option.bind_some]
  by_cases h : isT p q
  · by_cases h2 : q ≤ 1000
    · by_cases h3 : -400 ≤ s ∧ s ≤ 400
      · simp [h, h2, h3]
      · simp [h, h2, h3]
    · simp [h, h2]
  · simp [h]
theorem meTwo_val (p q s p' q' s' : Int) : Ev (fun k => spec_meTwo.f k p q s p' q' s') (decide (isH p q s ∧ isH p' q' s')) := by
  unfold spec_meTwo.f
  refine Ev.bind (meGood_val p q s) ?_
  by_cases h : isH p q s
  · simp only [decide_eq_true h, if_true]
    refine Ev.bind (meGood_val p' q' s') ⟨0, fun _ _ => ?_⟩
    simp [h]
  · simp only [decide_eq_false h, Bool.false_eq_true, if_false]
    exact ⟨0, fun _ _ => by simp [h]⟩
theorem meAsked_val (p q s p' q' s' : Int) : Ev (fun k => spec_meAsked.f k p q s p' q' s') (decide ((isH p q s ∧ isH p' q' s') ∧ s ≠ s')) := by
  unfold spec_meAsked.f
  refine Ev.bind (meTwo_val p q s p' q' s') ⟨0, fun _ _ => ?_⟩
  by_cases h : isH p q s ∧ isH p' q' s'
  · by_cases e : s = s'
    · simp [h, e]
    · simp [h, e]
  · simp only [decide_eq_false h, Bool.false_eq_true, if_false]
    rw [decide_eq_false (fun z => h z.1)]
theorem isT01 : isT 0 1 := by unfold isT gI; decide
theorem isT12 : isT 1 2 := by unfold isT gI; decide
theorem iMeetTimes_val (p q s p' q' s' : Int) : Ev (fun k => impl_MeetTimes.f k p q s p' q' s') (aheadL p q s p' q' s' 0 1) := by
  unfold impl_MeetTimes.f
  exact Ev.bind (iaheadTimes_val p q s p' q' s' (by omega) (by omega)) Ev.const
theorem sMeetTimes_val (p q s p' q' s' : Int) : Ev (fun k => spec_MeetTimes.f k p q s p' q' s') (aheadL p q s p' q' s' 0 1) := by
  unfold spec_MeetTimes.f aheadL
  refine Ev.bind (meAsked_val p q s p' q' s') ?_
  by_cases h : (isH p q s ∧ isH p' q' s') ∧ s ≠ s'
  · rw [if_pos h]
    simp only [decide_eq_true h, if_true]
    have r := rel_bd h.1.1 h.1.2
    refine Ev.bind (meRelative_val h.1.1 h.1.2) ?_
    exact Ev.bind (meTimes_val r.1 (show s - s' ≠ 0 by have := h.2; omega) (x := 0) (y := 1) (by omega) (by omega)) Ev.const
  · rw [if_neg h]
    simp only [decide_eq_false h, Bool.false_eq_true, if_false]
    exact Ev.const
def handT (p q s x y : Int) : Int × Int × Bool := if isH p q s ∧ isT x y then tell (placeT p q s x y) else (0, 0, false)
theorem iHandAt_val (p q s x y : Int) : Ev (fun k => impl_HandAt.f k p q s x y) (handT p q s x y) := by
  unfold impl_HandAt.f handT
  refine Ev.bind (IsHand_val p q s) ?_
  by_cases h : isH p q s
  · simp only [decide_eq_true h, if_true]
    refine Ev.bind (IsTurn_val x y) ?_
    refine Ev.up ?_
    simp only [impl_HandAt.j0]
    by_cases h2 : isT x y
    · rw [if_pos ⟨h, h2⟩]
      simp only [decide_eq_true h2, Bool.not_true, Bool.false_eq_true, if_false]
      have b := isT_bd h2
      refine Ev.bind (hat_val (isH_bdH h) b.1 b.2.2) ?_
      refine Ev.bind (ifTurn_mk _ (Int.mul_pos (isH_bd h).2.1.1 b.2.1)) Ev.const
    · rw [if_neg (fun z => h2 z.2)]
      simp only [decide_eq_false h2, Bool.not_false, if_true]
      exact Ev.const
  · rw [if_neg (fun z => h z.1)]
    simp only [decide_eq_false h, Bool.false_eq_true, if_false]
    refine Ev.up ?_
    simp only [impl_HandAt.j0, if_true]
    exact Ev.const
theorem rdT_at (xs : List S25) (i : Nat) (h : i < xs.length) : rd_T25 xs (i : Int) = xs[i] := by
  unfold rd_T25
  rw [show (i : Int).toNat = i by omega, List.getD_eq_getElem?_getD, List.getElem?_eq_getElem h]
  rfl
theorem kTurns_loop (xs : List S25) (hl : xs.length ≤ 1000000) (g : Nat) : ∀ i : Nat, i + g = xs.length → Ev (fun k => laws_kTurns.l0 k xs xs (xs.length : Int) i) true := by
  induction g with
  | zero =>
    intro i hi
    refine Ev.up ?_
    simp only [laws_kTurns.l0]
    simp only [if_neg (show ¬ (i : Int) < (xs.length : Int) by omega)]
    exact Ev.const
  | succ g ih =>
    intro i hi
    refine Ev.up ?_
    simp only [laws_kTurns.l0]
    simp only [if_pos (show (i : Int) < (xs.length : Int) by omega), if_pos (show 0 ≤ (i : Int) by omega), beq_self_eq_true, Bool.not_true, Bool.or_false, Bool.false_eq_true, if_false]
    rw [wid (x := (i : Int) + 1) (by omega) (by omega)]
    exact ih (i + 1) (by omega)
theorem kTurns_val (xs : List S25) (hl : xs.length ≤ 1000000) : Ev (fun k => laws_kTurns.f k xs xs) true := by
  unfold laws_kTurns.f
  simp only [if_true]
  exact kTurns_loop xs hl xs.length 0 (by omega)
theorem kRises_loop (xs : List S25) (hl : xs.length ≤ 1000000) (hp : xs.Pairwise lessT2) (ht : ∀ t ∈ xs, isT t.f0 t.f1) (g : Nat) : ∀ i : Nat, 1 ≤ i → xs.length ≤ i + g → Ev (fun k => laws_kRises.l0 k xs i) true := by
  induction g with
  | zero =>
    intro i h1 hi
    refine Ev.up ?_
    simp only [laws_kRises.l0]
    simp only [if_neg (show ¬ (i : Int) < (xs.length : Int) by omega)]
    exact Ev.const
  | succ g ih =>
    intro i h1 hi
    refine Ev.up ?_
    simp only [laws_kRises.l0]
    by_cases c : i < xs.length
    · have e : wrap64 ((i : Int) - 1) = ((i - 1 : Nat) : Int) := by rw [wid (by omega) (by omega)]; omega
      have r := List.pairwise_iff_getElem.1 hp (i - 1) i (by omega) c (by omega)
      have b1 := isT_bd (ht _ (List.getElem_mem (show i - 1 < xs.length by omega)))
      have b2 := isT_bd (ht _ (List.getElem_mem c))
      have m1 := mul_bd (M := 1000000) (N := 1000000) (x := (xs[i - 1]'(by omega)).f0) (y := (xs[i]).f1) (by omega) (by omega)
      have m2 := mul_bd (M := 1000000) (N := 1000000) (x := (xs[i]).f0) (y := (xs[i - 1]'(by omega)).f1) (by omega) (by omega)
      simp only [if_pos (show (i : Int) < (xs.length : Int) by omega), if_pos (show 0 ≤ (i : Int) by omega), e, if_pos (show 0 ≤ ((i - 1 : Nat) : Int) by omega), if_pos (show ((i - 1 : Nat) : Int) < (xs.length : Int) by omega), rdT_at xs (i - 1) (by omega), rdT_at xs i c]
      unfold lessT2 at r
      rw [wid (x := (xs[i - 1]'(by omega)).f0 * (xs[i]).f1) (by omega) (by omega), wid (x := (xs[i]).f0 * (xs[i - 1]'(by omega)).f1) (by omega) (by omega)]
      simp only [if_neg (show ¬ (xs[i - 1]'(by omega)).f0 * (xs[i]).f1 ≥ (xs[i]).f0 * (xs[i - 1]'(by omega)).f1 by omega)]
      rw [wid (x := (i : Int) + 1) (by omega) (by omega)]
      exact ih (i + 1) (by omega) (by omega)
    · simp only [if_neg (show ¬ (i : Int) < (xs.length : Int) by omega)]
      exact Ev.const
theorem kRises_val (xs : List S25) (hl : xs.length ≤ 1000000) (hp : xs.Pairwise lessT2) (ht : ∀ t ∈ xs, isT t.f0 t.f1) : Ev (fun k => laws_kRises.f k xs) true := by
  unfold laws_kRises.f
  exact kRises_loop xs hl hp ht xs.length 1 (by omega) (by omega)
instance eqT_dec : DecidableEq S25 := fun a b => decidable_of_iff (a.f0 = b.f0 ∧ a.f1 = b.f1) ⟨fun h => by cases a; cases b; simp at h; simp [h], fun h => by rw [h]; exact ⟨rfl, rfl⟩⟩
theorem eqT2 (t : S25) (a b : Int) : (t.f0 == a && (t.f1 == b)) = decide (t = (⟨a, b⟩ : S25)) := by
  cases t with
  | mk x y => exact Bool.eq_iff_iff.mpr (by simp)
theorem kIn_loop (xs : List S25) (hl : xs.length ≤ 1000000) (a b : Int) (g : Nat) : ∀ i : Nat, i + g = xs.length → Ev (fun k => laws_kIn.l0 k xs (xs.length : Int) i a b) (decide ((⟨a, b⟩ : S25) ∈ xs.drop i)) := by
  induction g with
  | zero =>
    intro i hi
    refine Ev.up ?_
    simp only [laws_kIn.l0]
    simp only [if_neg (show ¬ (i : Int) < (xs.length : Int) by omega)]
    exact ⟨0, fun _ _ => by rw [List.drop_of_length_le (by omega)]; rfl⟩
  | succ g ih =>
    intro i hi
    have hi2 : i < xs.length := by omega
    refine Ev.up ?_
    simp only [laws_kIn.l0]
    simp only [if_pos (show (i : Int) < (xs.length : Int) by omega), if_pos (show 0 ≤ (i : Int) by omega), rdT_at xs i hi2, eqT2]
    rw [List.drop_eq_getElem_cons hi2]
    by_cases c : xs[i] = (⟨a, b⟩ : S25)
    · simp only [decide_eq_true c, if_true]
      exact ⟨0, fun _ _ => by rw [decide_eq_true (by rw [c]; exact List.mem_cons_self)]⟩
    · simp only [decide_eq_false c, Bool.false_eq_true, if_false]
      rw [wid (x := (i : Int) + 1) (by omega) (by omega)]
      have h := ih (i + 1) (by omega)
      have e : decide ((⟨a, b⟩ : S25) ∈ xs[i] :: xs.drop (i + 1)) = decide ((⟨a, b⟩ : S25) ∈ xs.drop (i + 1)) := decide_eq_decide.mpr ⟨fun m => by rcases List.mem_cons.1 m with m | m; exact absurd m.symm c; exact m, fun m => List.mem_cons_of_mem _ m⟩
      rw [e]
      exact h
theorem kIn_val (xs : List S25) (hl : xs.length ≤ 1000000) (a b : Int) : Ev (fun k => laws_kIn.f k xs a b) (decide ((⟨a, b⟩ : S25) ∈ xs)) := by
  unfold laws_kIn.f
  exact kIn_loop xs hl a b xs.length 0 (by omega)
theorem timesT_yes {p q s x y : Int} {L : List S25} {b : Bool} (h : timesT p q s x y = (L, b)) : L.length ≤ s.natAbs ∧ (b = true → bdH p q s → s ≠ 0 → low x y → L = timesL p q s x y ∧ L.length = s.natAbs ∧ L.Pairwise lessT2 ∧ (∀ t ∈ L, isT t.f0 t.f1) ∧ ∀ t ∈ L, placeT p q s t.f0 t.f1 = (x, y)) := by
  unfold timesT at h
  by_cases c : allT (timesL p q s x y) = true
  · rw [if_pos c] at h
    simp only [Prod.mk.injEq] at h
    obtain ⟨rfl, rfl⟩ := h
    have hl : (timesL p q s x y).length = s.natAbs := by unfold timesL; rw [rootsL_length]
    refine ⟨by omega, fun _ hb hs hL => ⟨rfl, hl, ?_, fun t ht => of_decide_eq_true (List.all_eq_true.1 c t ht), at_times (by have := hb.1; omega) hL hs⟩⟩
    have W := way_low (x := x) hb hL.1
    exact roots_rise ⟨W.2.1, W.2.2.1⟩ (by omega)
  · rw [if_neg c] at h
    simp only [Prod.mk.injEq] at h
    obtain ⟨rfl, rfl⟩ := h
    exact ⟨by simp, fun x => by simp at x⟩
theorem aheadL_yes {p q s p' q' s' x y : Int} {L : List S25} {b : Bool} (hL : low x y) (h : aheadL p q s p' q' s' x y = (L, b)) : L.length ≤ 800 ∧ (b = true → (isH p q s ∧ isH p' q' s') ∧ s ≠ s' ∧ (L.length : Int) = ((s - s').natAbs : Int) ∧ L.Pairwise lessT2 ∧ (∀ t ∈ L, isT t.f0 t.f1) ∧ ∀ t ∈ L, placeT (relT p q p' q').1 (relT p q p' q').2 (s - s') t.f0 t.f1 = (x, y)) := by
  unfold aheadL at h
  by_cases c : (isH p q s ∧ isH p' q' s') ∧ s ≠ s'
  · rw [if_pos c] at h
    have r := rel_bd c.1.1 c.1.2
    have b1 := isH_bd c.1.1
    have b2 := isH_bd c.1.2
    obtain ⟨h1, h2⟩ := timesT_yes h
    refine ⟨by omega, fun hb => ?_⟩
    obtain ⟨_, e2, e3, e4, e5⟩ := h2 hb r.1 (by have := c.2; omega) hL
    exact ⟨c.1, c.2, by omega, e3, e4, e5⟩
  · rw [if_neg c] at h
    simp only [Prod.mk.injEq] at h
    obtain ⟨rfl, rfl⟩ := h
    exact ⟨by simp, fun x => by simp at x⟩
theorem kAbs_val {x : Int} (h : -1000 ≤ x ∧ x ≤ 1000) : laws_kAbs.f x = some (x.natAbs : Int) := by
  unfold laws_kAbs.f
  by_cases c : x < 0
  · rw [if_pos c, wid (by omega) (by omega)]; congr 1; omega
  · rw [if_neg c]; congr 1; omega
theorem mePlace_val (x y : Int) : Ev (fun k => spec_mePlace.f k x y) (decide (isT x y ∧ y ≤ 1000)) := by
  unfold spec_mePlace.f
  refine Ev.bind (diGood_val x y) ⟨0, fun _ _ => ?_⟩
  by_cases h : isT x y
  · simp [h]
  · simp [h]
def askL (p q s p' q' s' x y : Int) : List S25 × Bool := if isT x y ∧ y ≤ 1000 then aheadL p q s p' q' s' x y else ([], false)
theorem iAheadTimes_val (p q s p' q' s' x y : Int) : Ev (fun k => impl_AheadTimes.f k p q s p' q' s' x y) (askL p q s p' q' s' x y) := by
  unfold impl_AheadTimes.f askL
  refine Ev.bind (isCoarse_val x y) ?_
  by_cases h : isT x y ∧ y ≤ 1000
  · rw [if_pos h]
    simp only [decide_eq_true h, if_true]
    exact Ev.bind (iaheadTimes_val p q s p' q' s' (isT_bd h.1).1 h.2) Ev.const
  · rw [if_neg h]
    simp only [decide_eq_false h, Bool.false_eq_true, if_false]
    exact Ev.const
theorem sAheadTimes_val (p q s p' q' s' x y : Int) : Ev (fun k => spec_AheadTimes.f k p q s p' q' s' x y) (askL p q s p' q' s' x y) := by
  unfold spec_AheadTimes.f askL aheadL
  refine Ev.bind (meAsked_val p q s p' q' s') ?_
  by_cases h : (isH p q s ∧ isH p' q' s') ∧ s ≠ s'
  · rw [if_pos h]
    simp only [decide_eq_true h, if_true]
    refine Ev.bind (mePlace_val x y) ?_
    refine Ev.up ?_
    simp only [spec_AheadTimes.j0]
    by_cases h2 : isT x y ∧ y ≤ 1000
    · rw [if_pos h2]
      simp only [decide_eq_true h2, Bool.not_true, Bool.false_eq_true, if_false]
      have r := rel_bd h.1.1 h.1.2
      refine Ev.bind (meRelative_val h.1.1 h.1.2) ?_
      exact Ev.bind (meTimes_val r.1 (show s - s' ≠ 0 by have := h.2; omega) (isT_bd h2.1).1 h2.2) Ev.const
    · rw [if_neg h2]
      simp only [decide_eq_false h2, Bool.not_false, if_true]
      exact Ev.const
  · rw [if_neg h]
    simp only [decide_eq_false h, Bool.false_eq_true, if_false]
    refine Ev.up ?_
    simp only [spec_AheadTimes.j0, if_true]
    refine ⟨0, fun _ _ => ?_⟩
    split <;> rfl
def aheadT (p q s p' q' s' x y : Int) : Int × Int × Bool := if (isH p q s ∧ isH p' q' s') ∧ isT x y then tell (placeT (relT p q p' q').1 (relT p q p' q').2 (s - s') x y) else (0, 0, false)
theorem iAheadAt_val (p q s p' q' s' x y : Int) : Ev (fun k => impl_AheadAt.f k p q s p' q' s' x y) (aheadT p q s p' q' s' x y) := by
  unfold impl_AheadAt.f aheadT
  simp only [all_twoH, Option.bind_some]
  by_cases h : isH p q s ∧ isH p' q' s'
  · simp only [decide_eq_true h, if_true]
    refine Ev.bind (IsTurn_val x y) ?_
    refine Ev.up ?_
    simp only [impl_AheadAt.j0]
    by_cases h2 : isT x y
    · rw [if_pos ⟨h, h2⟩]
      simp only [decide_eq_true h2, Bool.not_true, Bool.false_eq_true, if_false]
      have r := rel_bd h.1 h.2
      have b := isT_bd h2
      refine Ev.bind (irelative_val h.1 h.2) ?_
      refine Ev.bind (hat_val r.1 b.1 b.2.2) ?_
      refine Ev.bind (ifTurn_mk _ (Int.mul_pos r.2.1.1 b.2.1)) Ev.const
    · rw [if_neg (fun z => h2 z.2)]
      simp only [decide_eq_false h2, Bool.not_false, if_true]
      exact Ev.const
  · rw [if_neg (fun z => h z.1)]
    simp only [decide_eq_false h, Bool.false_eq_true, if_false]
    refine Ev.up ?_
    simp only [impl_AheadAt.j0, if_true]
    exact Ev.const
theorem sAheadAt_val (p q s p' q' s' x y : Int) : Ev (fun k => spec_AheadAt.f k p q s p' q' s' x y) (aheadT p q s p' q' s' x y) := by
  unfold spec_AheadAt.f aheadT
  refine Ev.bind (meTwo_val p q s p' q' s') ?_
  by_cases h : isH p q s ∧ isH p' q' s'
  · simp only [decide_eq_true h, if_true]
    refine Ev.bind (diGood_val x y) ?_
    refine Ev.up ?_
    simp only [spec_AheadAt.j0]
    by_cases h2 : isT x y
    · rw [if_pos ⟨h, h2⟩]
      simp only [decide_eq_true h2, Bool.not_true, Bool.false_eq_true, if_false]
      have r := rel_bd h.1 h.2
      have b := isT_bd h2
      refine Ev.bind (meRelative_val h.1 h.2) ?_
      exact Ev.bind (meAt_val r.1 b.1 b.2.2) Ev.const
    · rw [if_neg (fun z => h2 z.2)]
      simp only [decide_eq_false h2, Bool.not_false, if_true]
      exact Ev.const
  · rw [if_neg (fun z => h z.1)]
    simp only [decide_eq_false h, Bool.false_eq_true, if_false]
    refine Ev.up ?_
    simp only [spec_AheadAt.j0, if_true]
    exact Ev.const
theorem place_same {p q s c d e x y : Int} (ha : isH p q s) (hc : isH c d e) (ht : isT x y) : placeT p q s x y = placeT c d e x y ↔ placeT (relT p q c d).1 (relT p q c d).2 (s - e) x y = (0, 1) := by
  have b1 := isH_bd ha
  have b2 := isH_bd hc
  have b3 := isT_bd ht
  have hy := b3.2.1
  have h1 := Int.mul_pos b1.2.1.1 hy
  have h2 := Int.mul_pos b2.2.1.1 hy
  have h3 := Int.mul_pos b1.2.1.1 b2.2.1.1
  unfold relT
  rw [place_start _ _ _ h3 hy]
  unfold placeT
  rw [diff0 _ _ h1 h2, ← mkT_scale ((p * d - c * q) * y + (s - e) * x * (q * d)) (Int.mul_pos h3 hy) hy]
  have e1 : (p * y + s * x * q) * (d * y) - (c * y + e * x * d) * (q * y) = y * ((p * d - c * q) * y + (s - e) * x * (q * d)) := by grind
  have e2 : q * y * (d * y) = y * (q * d * y) := by grind
  rw [e1, e2]
theorem Ev.all {α β : Type} {F : Nat → α → Option β} {v : α → β} : ∀ L : List α, (∀ t ∈ L, Ev (fun k => F k t) (v t)) → ∃ K, ∀ k, K ≤ k → ∀ t ∈ L, F k t = some (v t)
  | [], _ => ⟨0, fun _ _ t ht => by simp at ht⟩
  | x :: L, h => by
    obtain ⟨K1, h1⟩ := Ev.all L fun t ht => h t (List.mem_cons_of_mem _ ht)
    obtain ⟨K2, h2⟩ := h x List.mem_cons_self
    refine ⟨max K1 K2, fun k hk t ht => ?_⟩
    rcases List.mem_cons.1 ht with rfl | ht
    · exact h2 k (by omega)
    · exact h1 k (by omega) t ht
theorem tell_zero {z : Int × Int} (h : low z.1 z.2) : ((tell z).2.2 = true ∧ (tell z).1 = 0) ↔ z = (0, 1) := by
  unfold tell
  constructor
  · rintro ⟨h1, h2⟩
    by_cases c : z.2 > 1000000
    · rw [if_pos c] at h1; simp at h1
    · rw [if_neg c] at h2
      obtain ⟨z1, z2⟩ := z
      simp only at h2 h
      subst h2
      rw [low0 h]
  · rintro rfl
    exact ⟨rfl, rfl⟩
theorem place_low {p q s x y : Int} (hq : 0 < q) (hy : 0 < y) : low (placeT p q s x y).1 (placeT p q s x y).2 := mkT_low _ (Int.mul_pos hq hy)
def sameP (p q s c d e : Int) (t : S25) : Bool := decide (placeT p q s t.f0 t.f1 = placeT c d e t.f0 t.f1)
theorem same_tell {p q s c d e : Int} {t : S25} (ha : isH p q s) (hc : isH c d e) (ht : isT t.f0 t.f1) : ((tell (placeT (relT p q c d).1 (relT p q c d).2 (s - e) t.f0 t.f1)).2.2 = true ∧ (tell (placeT (relT p q c d).1 (relT p q c d).2 (s - e) t.f0 t.f1)).1 = 0) ↔ sameP p q s c d e t = true := by
  have r := rel_bd ha hc
  rw [tell_zero (place_low r.2.1.1 (isT_bd ht).2.1), ← place_same ha hc ht]
  unfold sameP
  simp
def threeT (p q s p' q' s' c d e : Int) : List S25 × Bool := if (aheadL p q s p' q' s' 0 1).2 = true ∧ isH c d e then ((aheadL p q s p' q' s' 0 1).1.filter (sameP p q s c d e), true) else ([], false)
theorem low01 : low 0 1 := isT_low isT01
theorem iThreeMeet_val (p q s p' q' s' c d e : Int) : Ev (fun k => impl_ThreeMeet.f k p q s p' q' s' c d e) (threeT p q s p' q' s' c d e) := by
  unfold impl_ThreeMeet.f threeT
  refine Ev.bind (iMeetTimes_val p q s p' q' s') ?_
  generalize hM : aheadL p q s p' q' s' 0 1 = M
  obtain ⟨L, b⟩ := M
  obtain ⟨_, hy⟩ := aheadL_yes low01 hM
  dsimp only
  cases b with
  | false =>
    rw [if_neg (by simp)]
    simp only [Bool.false_eq_true, if_false]
    exact Ev.const
  | true =>
    simp only [if_true, true_and]
    obtain ⟨⟨h1, h2⟩, _, _, _, hT, _⟩ := hy rfl
    refine Ev.bind (IsHand_val c d e) ?_
    by_cases hc : isH c d e
    · rw [if_pos hc]
      simp only [decide_eq_true hc, if_true]
      obtain ⟨K, hK⟩ := Ev.all (F := fun k (t : S25) => impl_Hand_at.f k p q s t.f0 t.f1) (v := fun t => placeT p q s t.f0 t.f1) L (fun t ht => hat_val (isH_bdH h1) (isT_bd (hT t ht)).1 (isT_bd (hT t ht)).2.2)
      obtain ⟨K', hK'⟩ := Ev.all (F := fun k (t : S25) => impl_Hand_at.f k c d e t.f0 t.f1) (v := fun t => placeT c d e t.f0 t.f1) L (fun t ht => hat_val (isH_bdH hc) (isT_bd (hT t ht)).1 (isT_bd (hT t ht)).2.2)
      refine ⟨max K K', fun k hk => ?_⟩
      have a1 := hK k (by omega)
      have a2 := hK' k (by omega)
      dsimp only at a1 a2 ⊢
      rw [if_pos]
      · congr 2
        refine List.filter_congr fun t ht => ?_
        rw [a1 t ht, a2 t ht]
        unfold sameP
        exact decide_eq_decide.mpr (by rw [Option.some.injEq])
      · rw [List.all_eq_true]
        intro t ht
        rw [a1 t ht, a2 t ht]
        rfl
    · rw [if_neg hc]
      simp only [decide_eq_false hc, Bool.false_eq_true, if_false]
      exact Ev.const
theorem sThreeMeet_loop {p q s c d e : Int} (L : List S25) (hl : L.length ≤ 800) (ha : isH p q s) (hc : isH c d e) (hT : ∀ t ∈ L, isT t.f0 t.f1) (g : Nat) : ∀ i : Nat, i + g = L.length → Ev (fun k => spec_ThreeMeet.l0 k ((L.take i).filter (sameP p q s c d e)) L (L.length : Int) i p q s c d e) (L.filter (sameP p q s c d e), true) := by
  induction g with
  | zero =>
    intro i hi
    refine Ev.up ?_
    simp only [spec_ThreeMeet.l0]
    simp only [if_neg (show ¬ (i : Int) < (L.length : Int) by omega)]
    exact ⟨0, fun _ _ => by rw [List.take_of_length_le (by omega)]⟩
  | succ g ih =>
    intro i hi
    have hi2 : i < L.length := by omega
    have h := ih (i + 1) (by omega)
    have hn := List.length_filter_le (sameP p q s c d e) (L.take i)
    rw [List.length_take] at hn
    have ht := hT _ (List.getElem_mem hi2)
    have st := same_tell (t := L[i]) ha hc ht
    rw [List.take_succ_eq_append_getElem hi2, List.filter_append] at h
    refine Ev.up ?_
    simp only [spec_ThreeMeet.l0]
    simp only [if_pos (show (i : Int) < (L.length : Int) by omega), if_pos (show 0 ≤ (i : Int) by omega), rdT_at L i hi2]
    have r := rel_bd ha hc
    refine Ev.bind (meRelative_val ha hc) ?_
    refine Ev.bind (meAt_val r.1 (isT_bd ht).1 (isT_bd ht).2.2) ?_
    rw [wid (x := (i : Int) + 1) (by omega) (by omega)]
    generalize tell (placeT (relT p q c d).1 (relT p q c d).2 (s - e) (L[i]).f0 (L[i]).f1) = z at st
    obtain ⟨z1, z2, z3⟩ := z
    dsimp only at st ⊢
    have no : sameP p q s c d e L[i] = false → Ev (fun k => spec_ThreeMeet.l0 k ((L.take i).filter (sameP p q s c d e)) L (L.length : Int) ((i : Int) + 1) p q s c d e) (L.filter (sameP p q s c d e), true) := by
      intro hf
      have e0 : [L[i]].filter (sameP p q s c d e) = [] := by rw [List.filter_cons_of_neg (by rw [hf]; simp)]; rfl
      rw [e0, List.append_nil] at h
      exact h
    by_cases h3 : z3 = true
    · simp only [h3, if_true]
      by_cases h1 : z1 = 0
      · simp only [if_pos h1, if_pos (show ((L.take i).filter (sameP p q s c d e)).length < 8796093022208 by omega)]
        have e0 : [L[i]].filter (sameP p q s c d e) = [L[i]] := by rw [List.filter_cons_of_pos (st.1 ⟨h3, h1⟩)]; rfl
        rw [e0] at h
        exact h
      · simp only [if_neg h1]
        exact no (by cases hb : sameP p q s c d e L[i] with | false => rfl | true => exact absurd (st.2 hb).2 h1)
    · simp only [if_neg h3]
      exact no (by cases hb : sameP p q s c d e L[i] with | false => rfl | true => exact absurd (st.2 hb).1 h3)
theorem sThreeMeet_val (p q s p' q' s' c d e : Int) : Ev (fun k => spec_ThreeMeet.f k p q s p' q' s' c d e) (threeT p q s p' q' s' c d e) := by
  unfold spec_ThreeMeet.f threeT
  refine Ev.bind (sMeetTimes_val p q s p' q' s') ?_
  generalize hM : aheadL p q s p' q' s' 0 1 = M
  obtain ⟨L, b⟩ := M
  obtain ⟨hl, hy⟩ := aheadL_yes low01 hM
  dsimp only
  cases b with
  | false =>
    rw [if_neg (by simp)]
    simp only [Bool.false_eq_true, if_false]
    refine Ev.up ?_
    simp only [spec_ThreeMeet.j0, if_true]
    exact Ev.const
  | true =>
    simp only [if_true, true_and]
    obtain ⟨⟨h1, h2⟩, _, _, _, hT, _⟩ := hy rfl
    refine Ev.bind (meGood_val c d e) ?_
    refine Ev.up ?_
    simp only [spec_ThreeMeet.j0]
    by_cases hc : isH c d e
    · rw [if_pos hc]
      simp only [decide_eq_true hc, Bool.not_true, Bool.false_eq_true, if_false]
      exact sThreeMeet_loop L hl h1 hc hT L.length 0 (by omega)
    · rw [if_neg hc]
      simp only [decide_eq_false hc, Bool.not_false, if_true]
      exact Ev.const
/-! lcur: whatever bytes are given, choices are drawn -/
theorem u64_bd (n : Int) : 0 ≤ IntKind.u64.wrap n ∧ IntKind.u64.wrap n < 18446744073709551616 := by
  rw [IntKind.wrap_u64]; omega
theorem and255 (n : Int) : 0 ≤ Go.bits .and .u64 (IntKind.u64.wrap n / 1099511627776) 255 ∧ Go.bits .and .u64 (IntKind.u64.wrap n / 1099511627776) 255 ≤ 255 := by
  have h := u64_bd n
  have e := bits_mask .u64 64 (by decide) (fun n h0 h1 => by rw [IntKind.wrap_u64]; omega) 8 (by decide) (IntKind.u64.wrap n / 1099511627776) (by omega) (by omega)
  have e2 : Go.bits .and .u64 (IntKind.u64.wrap n / 1099511627776) 255 = (IntKind.u64.wrap n / 1099511627776) % 256 := e
  rw [e2]; omega
def bytesOk (l : List Int) : Prop := ∀ x ∈ l, 0 ≤ x ∧ x ≤ 255
theorem rd_ok {l : List Int} (hl : bytesOk l) {i : Int} (h0 : 0 ≤ i) (h1 : i < (l.length : Int)) : 0 ≤ rd l i ∧ rd l i ≤ 255 := by
  have hi : i.toNat < l.length := by omega
  have e : rd l i = l[i.toNat] := by unfold rd; rw [List.getD_eq_getElem?_getD, List.getElem?_eq_getElem hi]; rfl
  rw [e]; exact hl _ (List.getElem_mem hi)
theorem next_tot {l : List Int} (hl : bytesOk l) {i : Int} (h0 : 0 ≤ i) (h1 : i ≤ 1000000) (s : Int) : ∃ x s', spec_l1Cur_next.f l i s = some (x, i + 1, s') ∧ 0 ≤ x ∧ x ≤ 255 := by
  unfold spec_l1Cur_next.f
  rw [wid (x := i + 1) (by omega) (by omega)]
  by_cases a : i < (l.length : Int)
  · have r := rd_ok hl h0 a
    rw [if_pos a, if_pos h0]
    by_cases b : i + 1 ≤ (l.length : Int)
    · rw [if_pos b, wid (x := rd l i) (by omega) (by omega)]
      exact ⟨_, _, rfl, r⟩
    · omega
  · rw [if_neg a]
    by_cases b : i + 1 ≤ (l.length : Int)
    · omega
    · rw [if_neg b]
      have z := and255 ((IntKind.u64.wrap (IntKind.u64.wrap (s * 6364136223846793005))) + 1442695040888963407)
      exact ⟨_, _, rfl, by rw [wid (by omega) (by omega)]; exact z⟩
theorem pick_tot {l : List Int} (hl : bytesOk l) {i : Int} (h0 : 0 ≤ i) (h1 : i ≤ 999990) (s : Int) {n : Int} (hn : n ≤ 1000000) : ∃ x j s', spec_l1Cur_pick.f l i s n = some (x, j, s') ∧ (0 ≤ x ∧ (x < n ∨ x = 0)) ∧ i ≤ j ∧ j ≤ i + 2 := by
  unfold spec_l1Cur_pick.f
  by_cases a : n ≤ 1
  · rw [if_pos a]
    exact ⟨_, _, _, rfl, ⟨by omega, Or.inr rfl⟩, by omega, by omega⟩
  · rw [if_neg a]
    obtain ⟨x, s', e, b⟩ := next_tot hl h0 (by omega) s
    rw [e]
    simp only [Option.bind_some]
    by_cases c : n > 200
    · obtain ⟨x', s'', e', b'⟩ := next_tot hl (i := i + 1) (by omega) (by omega) s'
      rw [if_pos c, e']
      simp only [Option.bind_some]
      rw [if_neg (by omega), wid (x := x * 256) (by omega) (by omega), wid (x := x * 256 + x') (by omega) (by omega), tmod_nn _ (by omega)]
      exact ⟨_, _, _, rfl, ⟨Int.emod_nonneg _ (by omega), Or.inl (Int.emod_lt_of_pos _ (by omega))⟩, by omega, by omega⟩
    · rw [if_neg c, if_neg (by omega), tmod_nn _ (by omega)]
      exact ⟨_, _, _, rfl, ⟨Int.emod_nonneg _ (by omega), Or.inl (Int.emod_lt_of_pos _ (by omega))⟩, by omega, by omega⟩
theorem among_tot {l : List Int} (hl : bytesOk l) {i : Int} (h0 : 0 ≤ i) (h1 : i ≤ 999990) (s : Int) (xs : List Int) (hx : 0 < xs.length ∧ xs.length ≤ 1000) : ∃ x j s', spec_l1Cur_among.f l i s xs = some (x, j, s') ∧ i ≤ j ∧ j ≤ i + 2 := by
  obtain ⟨x, j, s', e, b, c⟩ := pick_tot hl h0 h1 s (n := (xs.length : Int)) (by omega)
  unfold spec_l1Cur_among.f
  rw [e]
  simp only [Option.bind_some]
  rw [if_pos b.1, if_pos (by omega)]
  exact ⟨_, _, _, rfl, c⟩
theorem sureTurn_tot {l : List Int} (hl : bytesOk l) {i : Int} (h0 : 0 ≤ i) (h1 : i ≤ 999980) (s : Int) : ∃ a b j s', Ev (fun k => spec_l1Cur_sureTurn.f k l i s) (a, b, j, s') ∧ i ≤ j ∧ j ≤ i + 4 := by
  unfold spec_l1Cur_sureTurn.f
  simp only [Option.bind_some]
  obtain ⟨x, j, s', e, b, c⟩ := pick_tot hl h0 (by omega) s (n := (([1, 2, 3, 4, 6, 8, 11, 12, 13, 24, 60, 143, 720, 719, 7, 5] : List Int).length : Int)) (by decide)
  rw [e]
  simp only [Option.bind_some]
  have hb : x < (([1, 2, 3, 4, 6, 8, 11, 12, 13, 24, 60, 143, 720, 719, 7, 5] : List Int).length : Int) := by
    have : (([1, 2, 3, 4, 6, 8, 11, 12, 13, 24, 60, 143, 720, 719, 7, 5] : List Int).length : Int) = 16 := rfl
    omega
  simp only [if_pos b.1, if_pos hb]
  have hd : 0 < rd [1, 2, 3, 4, 6, 8, 11, 12, 13, 24, 60, 143, 720, 719, 7, 5] x ∧ rd [1, 2, 3, 4, 6, 8, 11, 12, 13, 24, 60, 143, 720, 719, 7, 5] x ≤ 720 := by
    have hx : x < 16 := hb
    have hx0 := b.1
    obtain ⟨n, rfl⟩ := Int.eq_ofNat_of_zero_le hx0
    have hn : n < 16 := by omega
    have : ∀ m : Fin 16, 0 < rd [1, 2, 3, 4, 6, 8, 11, 12, 13, 24, 60, 143, 720, 719, 7, 5] (m.val : Int) ∧ rd [1, 2, 3, 4, 6, 8, 11, 12, 13, 24, 60, 143, 720, 719, 7, 5] (m.val : Int) ≤ 720 := by decide
    exact this ⟨n, hn⟩
  generalize rd [1, 2, 3, 4, 6, 8, 11, 12, 13, 24, 60, 143, 720, 719, 7, 5] x = d at hd
  obtain ⟨y, j', s'', e', b', c'⟩ := pick_tot hl (i := j) (by omega) (by omega) s' (n := d) (by omega)
  rw [e']
  simp only [Option.bind_some]
  exact ⟨_, _, _, _, Ev.bind (diMake_val hd.1 (by omega)) ⟨0, fun _ _ => rfl⟩, (by (try dsimp only); omega), (by (try dsimp only); omega)⟩
theorem turn_tot {l : List Int} (hl : bytesOk l) {i : Int} (h0 : 0 ≤ i) (h1 : i ≤ 999970) (s : Int) : ∃ a b j s', Ev (fun k => spec_l1Cur_turn.f k l i s) (a, b, j, s') ∧ i ≤ j ∧ j ≤ i + 6 := by
  unfold spec_l1Cur_turn.f
  obtain ⟨x, j, s', e, b, c⟩ := pick_tot hl h0 (by omega) s (n := 16) (by omega)
  rw [e]
  simp only [Option.bind_some]
  by_cases x0 : x = 0
  · simp only [if_pos x0]
    obtain ⟨y, j', s2, e2, c2⟩ := among_tot hl (i := j) (by omega) (by omega) s' [(-1), 0, 2, 5, 4611686018427387904] (by decide)
    rw [e2]
    simp only [Option.bind_some]
    obtain ⟨z, j3, s3, e3, c3⟩ := among_tot hl (i := j') (by omega) (by omega) s2 [0, 1, 2, 4, 1000000, 1000001, (-3)] (by decide)
    rw [e3]
    exact ⟨_, _, _, _, ⟨0, fun _ _ => rfl⟩, (by (try dsimp only); omega), (by (try dsimp only); omega)⟩
  · simp only [if_neg x0]
    by_cases x1 : x = 1
    · simp only [if_pos x1]
      obtain ⟨y, j', s2, e2, c2⟩ := among_tot hl (i := j) (by omega) (by omega) s' [1, 999999, 7] (by decide)
      rw [e2]
      exact ⟨_, _, _, _, ⟨0, fun _ _ => rfl⟩, (by (try dsimp only); omega), (by (try dsimp only); omega)⟩
    · simp only [if_neg x1]
      by_cases x2 : x = 2
      · simp only [if_pos x2]
        obtain ⟨y, j', s2, e2, b2, c2⟩ := pick_tot hl (i := j) (by omega) (by omega) s' (n := 900000) (by omega)
        rw [e2]
        exact ⟨_, _, _, _, ⟨0, fun _ _ => rfl⟩, (by (try dsimp only); omega), (by (try dsimp only); omega)⟩
      · simp only [if_neg x2]
        obtain ⟨a, b', j', s2, e2, c2⟩ := sureTurn_tot hl (i := j) (by omega) (by omega) s'
        exact ⟨_, _, _, _, Ev.bind e2 ⟨0, fun _ _ => rfl⟩, (by (try dsimp only); omega), (by (try dsimp only); omega)⟩
theorem handj_tot {l : List Int} (hl : bytesOk l) {i : Int} (h0 : 0 ≤ i) (h1 : i ≤ 999900) (s x y z : Int) : ∃ a b c j s', Ev (fun k => spec_l1Cur_hand.j0 k l i s x y z) (a, b, c, j, s') ∧ i ≤ j ∧ j ≤ i + 8 := by
  obtain ⟨v, j, s', e, b, c⟩ := pick_tot hl h0 (by omega) s (n := 16) (by omega)
  by_cases v0 : v = 0
  · obtain ⟨a2, b2, j2, s2, e2, c2⟩ := turn_tot hl (i := j) (by omega) (by omega) s'
    refine ⟨a2, b2, z, j2, s2, Ev.up ?_, by omega, by omega⟩
    simp only [spec_l1Cur_hand.j0, e, Option.bind_some, if_pos v0]
    exact Ev.bind e2 ⟨0, fun _ _ => rfl⟩
  · by_cases v1 : v = 1
    · obtain ⟨a2, j2, s2, e2, c2⟩ := among_tot hl (i := j) (by omega) (by omega) s' [(-401), (-400), 400, 401, 4611686018427387904] (by decide)
      refine ⟨x, y, a2, j2, s2, Ev.up ?_, by omega, by omega⟩
      simp only [spec_l1Cur_hand.j0, e, Option.bind_some, if_neg v0, if_pos v1, e2]
      exact ⟨0, fun _ _ => rfl⟩
    · refine ⟨x, y, z, j, s', Ev.up ?_, by omega, by omega⟩
      simp only [spec_l1Cur_hand.j0, e, Option.bind_some, if_neg v0, if_neg v1]
      exact ⟨0, fun _ _ => rfl⟩
theorem hand_tot {l : List Int} (hl : bytesOk l) {i : Int} (h0 : 0 ≤ i) (h1 : i ≤ 999800) (s : Int) : ∃ a b c j s', Ev (fun k => spec_l1Cur_hand.f k l i s) (a, b, c, j, s') ∧ i ≤ j ∧ j ≤ i + 20 := by
  obtain ⟨v, j, s', e, b, c⟩ := pick_tot hl h0 (by omega) s (n := 15) (by omega)
  obtain ⟨u, j2, s2, e2, b2, c2⟩ := pick_tot hl (i := j) (by omega) (by omega) s' (n := 2) (by omega)
  unfold spec_l1Cur_hand.f spec_l1Cur_one.f
  simp only [e, e2, Option.bind_some]
  by_cases u0 : u = 0
  · simp only [beq_iff_eq.mpr u0, if_true]
    obtain ⟨a3, b3, j3, s3, e3, c3⟩ := sureTurn_tot hl (i := j2) (by omega) (by omega) s2
    obtain ⟨a4, b4, d4, j4, s4, e4, c4⟩ := handj_tot hl (i := j3) (by omega) (by omega) s3 a3 b3 (wrap64 (v - 5))
    exact ⟨a4, b4, d4, j4, s4, Ev.bind e3 e4, by omega, by omega⟩
  · simp only [beq_eq_false_iff_ne.mpr u0, Bool.false_eq_true, if_false]
    obtain ⟨a4, b4, d4, j4, s4, e4, c4⟩ := handj_tot hl (i := j2) (by omega) (by omega) s2 0 1 (wrap64 (v - 5))
    exact ⟨a4, b4, d4, j4, s4, e4, by omega, by omega⟩
theorem big_val (l0 l1 : List Int) : ∃ b, laws_big.f l0 l1 = some b := by
  unfold laws_big.f
  by_cases h : (l0.length : Int) > 1048576
  · rw [if_pos h]; exact ⟨_, rfl⟩
  · rw [if_neg h]; exact ⟨_, rfl⟩
theorem drawAhead_tot {l : List Int} (hl : bytesOk l) : ∃ a b c d e f x y, Ev (fun k => spec_DrawAheadTimes.f k l) (a, b, c, d, e, f, x, y) := by
  obtain ⟨a, b, c, j, s1, e1, c1⟩ := hand_tot hl (i := 0) (by omega) (by omega) 0
  obtain ⟨d, e, f, j2, s2, e2, c2⟩ := hand_tot hl (i := j) (by omega) (by omega) s1
  obtain ⟨x, y, j3, s3, e3, c3⟩ := turn_tot hl (i := j2) (by omega) (by omega) s2
  refine ⟨a, b, c, d, e, f, x, y, ?_⟩
  unfold spec_DrawAheadTimes.f spec_DrawAheadAt.f
  exact Ev.bind (Ev.bind e1 (Ev.bind e2 (Ev.bind e3 ⟨0, fun _ _ => rfl⟩))) ⟨0, fun _ _ => rfl⟩
theorem drawThree_tot {l : List Int} (hl : bytesOk l) : ∃ a b c d e f g h i, Ev (fun k => spec_DrawThreeMeet.f k l) (a, b, c, d, e, f, g, h, i) := by
  obtain ⟨a, b, c, j, s1, e1, c1⟩ := hand_tot hl (i := 0) (by omega) (by omega) 0
  obtain ⟨d, e, f, j2, s2, e2, c2⟩ := hand_tot hl (i := j) (by omega) (by omega) s1
  obtain ⟨g, h, i, j3, s3, e3, c3⟩ := hand_tot hl (i := j2) (by omega) (by omega) s2
  refine ⟨a, b, c, d, e, f, g, h, i, ?_⟩
  unfold spec_DrawThreeMeet.f
  exact Ev.bind e1 (Ev.bind e2 (Ev.bind e3 ⟨0, fun _ _ => rfl⟩))
theorem drawPlace_tot {l : List Int} (hl : bytesOk l) : ∃ a b c x y, Ev (fun k => spec_DrawTimesAtPlace.f k l) (a, b, c, x, y) := by
  obtain ⟨a, b, c, j, s1, e1, c1⟩ := hand_tot hl (i := 0) (by omega) (by omega) 0
  obtain ⟨x, y, j3, s3, e3, c3⟩ := turn_tot hl (i := j) (by omega) (by omega) s1
  refine ⟨a, b, c, x, y, ?_⟩
  unfold spec_DrawTimesAtPlace.f spec_DrawHandAt.f
  exact Ev.bind (Ev.bind e1 (Ev.bind e3 ⟨0, fun _ _ => rfl⟩)) ⟨0, fun _ _ => rfl⟩
theorem sHandAt_val (p q s x y : Int) : Ev (fun k => spec_HandAt.f k p q s x y) (handT p q s x y) := by
  unfold spec_HandAt.f handT
  refine Ev.bind (meGood_val p q s) ?_
  by_cases h : isH p q s
  · simp only [decide_eq_true h, if_true]
    refine Ev.bind (diGood_val x y) ?_
    by_cases h2 : isT x y
    · rw [if_pos ⟨h, h2⟩]
      simp only [decide_eq_true h2, if_true]
      have b := isT_bd h2
      exact Ev.bind (meAt_val (isH_bdH h) b.1 b.2.2) Ev.const
    · rw [if_neg (fun z => h2 z.2)]
      simp only [decide_eq_false h2, Bool.false_eq_true, if_false]
      exact Ev.const
  · rw [if_neg (fun z => h z.1)]
    simp only [decide_eq_false h, Bool.false_eq_true, if_false]
    exact Ev.const
theorem iOppositeTimes_val (p q s p' q' s' : Int) : Ev (fun k => impl_OppositeTimes.f k p q s p' q' s') (aheadL p q s p' q' s' 1 2) := by
  unfold impl_OppositeTimes.f
  exact Ev.bind (iaheadTimes_val p q s p' q' s' (by omega) (by omega)) Ev.const
theorem sOppositeTimes_val (p q s p' q' s' : Int) : Ev (fun k => spec_OppositeTimes.f k p q s p' q' s') (aheadL p q s p' q' s' 1 2) := by
  unfold spec_OppositeTimes.f
  have e : askL p q s p' q' s' 1 2 = aheadL p q s p' q' s' 1 2 := by unfold askL; rw [if_pos ⟨isT12, by omega⟩]
  have v := sAheadTimes_val p q s p' q' s' 1 2
  rw [e] at v
  exact Ev.bind v Ev.const
def relativeT (p q s p' q' s' : Int) : Int × Int × Int × Bool := if (isH p q s ∧ isH p' q' s') ∧ isH (relT p q p' q').1 (relT p q p' q').2 (s - s') then ((relT p q p' q').1, (relT p q p' q').2, s - s', true) else (0, 0, 0, false)
theorem iRelativeHand_val (p q s p' q' s' : Int) : Ev (fun k => impl_RelativeHand.f k p q s p' q' s') (relativeT p q s p' q' s') := by
  unfold impl_RelativeHand.f relativeT
  simp only [all_twoH, Option.bind_some]
  by_cases h : isH p q s ∧ isH p' q' s'
  · simp only [decide_eq_true h, if_true]
    refine Ev.bind (irelative_val h.1 h.2) ?_
    refine Ev.bind (IsHand_val _ _ _) ⟨0, fun _ _ => ?_⟩
    dsimp only
    by_cases h2 : isH (relT p q p' q').1 (relT p q p' q').2 (s - s')
    · rw [decide_eq_true h2, if_pos rfl, if_pos ⟨h, h2⟩]
    · rw [decide_eq_false h2, if_neg (by simp), if_neg (fun z => h2 z.2)]
  · rw [if_neg (fun z => h z.1)]
    simp only [decide_eq_false h, Bool.false_eq_true, if_false]
    exact Ev.const
theorem sRelativeHand_val (p q s p' q' s' : Int) : Ev (fun k => spec_RelativeHand.f k p q s p' q' s') (relativeT p q s p' q' s') := by
  unfold spec_RelativeHand.f relativeT
  refine Ev.bind (meTwo_val p q s p' q' s') ?_
  by_cases h : isH p q s ∧ isH p' q' s'
  · simp only [decide_eq_true h, if_true]
    refine Ev.bind (meRelative_val h.1 h.2) ?_
    refine Ev.bind (meGood_val _ _ _) ?_
    dsimp only
    by_cases h2 : isH (relT p q p' q').1 (relT p q p' q').2 (s - s')
    · rw [if_pos ⟨h, h2⟩]
      simp only [decide_eq_true h2, if_true]
      exact Ev.bind (meRelative_val h.1 h.2) Ev.const
    · rw [if_neg (fun z => h2 z.2)]
      simp only [decide_eq_false h2, Bool.false_eq_true, if_false]
      exact Ev.const
  · rw [if_neg (fun z => h z.1)]
    simp only [decide_eq_false h, Bool.false_eq_true, if_false]
    exact Ev.const
def placeL (p q s x y : Int) : List S25 × Bool := if isH p q s ∧ (isT x y ∧ y ≤ 1000) ∧ s ≠ 0 then timesT p q s x y else ([], false)
theorem iTimesAtPlace_val (p q s x y : Int) : Ev (fun k => impl_TimesAtPlace.f k p q s x y) (placeL p q s x y) := by
  unfold impl_TimesAtPlace.f placeL
  refine Ev.bind (IsHand_val p q s) ?_
  by_cases h : isH p q s
  · simp only [decide_eq_true h, if_true]
    refine Ev.bind (isCoarse_val x y) ?_
    by_cases h2 : isT x y ∧ y ≤ 1000
    · simp only [decide_eq_true h2, if_true]
      by_cases h3 : s = 0
      · rw [if_neg (fun z => z.2.2 h3)]
        simp only [if_pos h3]
        exact Ev.const
      · rw [if_pos ⟨h, h2, h3⟩]
        simp only [if_neg h3]
        exact Ev.bind (timesAt_val (isH_bdH h) h3 (isT_bd h2.1).1 h2.2) Ev.const
    · rw [if_neg (fun z => h2 z.2.1)]
      simp only [decide_eq_false h2, Bool.false_eq_true, if_false]
      exact Ev.const
  · rw [if_neg (fun z => h z.1)]
    simp only [decide_eq_false h, Bool.false_eq_true, if_false]
    exact Ev.const
theorem sTimesAtPlace_val (p q s x y : Int) : Ev (fun k => spec_TimesAtPlace.f k p q s x y) (placeL p q s x y) := by
  unfold spec_TimesAtPlace.f placeL
  refine Ev.bind (meGood_val p q s) ?_
  by_cases h : isH p q s
  · simp only [decide_eq_true h, if_true]
    by_cases h3 : s = 0
    · rw [if_neg (fun z => z.2.2 h3)]
      simp only [if_pos h3]
      exact Ev.const
    · simp only [if_neg h3]
      refine Ev.bind (mePlace_val x y) ?_
      by_cases h2 : isT x y ∧ y ≤ 1000
      · rw [if_pos ⟨h, h2, h3⟩]
        simp only [decide_eq_true h2, if_true]
        exact Ev.bind (meTimes_val (isH_bdH h) h3 (isT_bd h2.1).1 h2.2) Ev.const
      · rw [if_neg (fun z => h2 z.2.1)]
        simp only [decide_eq_false h2, Bool.false_eq_true, if_false]
        exact Ev.const
  · rw [if_neg (fun z => h z.1)]
    simp only [decide_eq_false h, Bool.false_eq_true, if_false]
    exact Ev.const
theorem tell_ok {x y : Int} (h : y ≤ 1000000) : tell (x, y) = (x, y, true) := by unfold tell; rw [if_neg (show ¬ (x, y).2 > 1000000 by dsimp only; omega)]
theorem handT_of {p q s x y x' y' : Int} (h : isH p q s) (ht : isT x y) (hu : isT x' y') (e : placeT p q s x y = (x', y')) : handT p q s x y = (x', y', true) := by
  unfold handT
  rw [if_pos ⟨h, ht⟩, e]
  exact tell_ok (isT_bd hu).2.2
theorem bytes_of {l : List Int} (h : ∀ x ∈ l, (Lit.int .u8 x).wf = true) : bytesOk l := by
  intro x hx
  have := h x hx
  simp only [Lit.wf, IntKind.min, IntKind.max, IntKind.signed, IntKind.bits, Bool.and_eq_true, decide_eq_true_eq] at this
  simp at this
  omega
theorem placeL_yes {p q s x y : Int} {L : List S25} {b : Bool} (h : placeL p q s x y = (L, b)) : L.length ≤ 400 ∧ (b = true → isH p q s ∧ isT x y ∧ (L.length : Int) = (s.natAbs : Int) ∧ L.Pairwise lessT2 ∧ (∀ t ∈ L, isT t.f0 t.f1) ∧ ∀ t ∈ L, placeT p q s t.f0 t.f1 = (x, y)) := by
  unfold placeL at h
  by_cases c : isH p q s ∧ (isT x y ∧ y ≤ 1000) ∧ s ≠ 0
  · rw [if_pos c] at h
    have b1 := isH_bd c.1
    obtain ⟨h1, h2⟩ := timesT_yes h
    refine ⟨by omega, fun hb => ?_⟩
    obtain ⟨_, e2, e3, e4, e5⟩ := h2 hb (isH_bdH c.1) c.2.2 (isT_low c.2.1.1)
    exact ⟨c.1, c.2.1.1, by omega, e3, e4, e5⟩
  · rw [if_neg c] at h
    simp only [Prod.mk.injEq] at h
    obtain ⟨rfl, rfl⟩ := h
    exact ⟨by simp, fun x => by simp at x⟩
theorem l3_val {p q s x y : Int} (L : List S25) (hl : L.length ≤ 1000) (hv : ∀ t ∈ L, handT p q s t.f0 t.f1 = (x, y, true)) (g : Nat) : ∀ i : Nat, i + g = L.length → Ev (fun k => laws_FnHandsAhead.l3 k L (L.length : Int) i p q s x y) true := by
  induction g with
  | zero =>
    intro i hi
    refine Ev.up ?_
    simp only [laws_FnHandsAhead.l3]
    simp only [if_neg (show ¬ (i : Int) < (L.length : Int) by omega)]
    exact Ev.const
  | succ g ih =>
    intro i hi
    have hi2 : i < L.length := by omega
    refine Ev.up ?_
    simp only [laws_FnHandsAhead.l3]
    simp only [if_pos (show (i : Int) < (L.length : Int) by omega), if_pos (show 0 ≤ (i : Int) by omega), rdT_at L i hi2]
    refine Ev.bind (iHandAt_val _ _ _ _ _) ?_
    rw [hv _ (List.getElem_mem hi2), wid (x := (i : Int) + 1) (by omega) (by omega)]
    simp only [if_true, beq_self_eq_true, Bool.not_true, Bool.or_false, Bool.false_eq_true, if_false]
    exact ih (i + 1) (by omega)
theorem aheadT_of {p q s p' q' s' x y x' y' : Int} (h : isH p q s ∧ isH p' q' s') (ht : isT x y) (hu : isT x' y') (e : placeT (relT p q p' q').1 (relT p q p' q').2 (s - s') x y = (x', y')) : aheadT p q s p' q' s' x y = (x', y', true) := by
  unfold aheadT
  rw [if_pos ⟨h, ht⟩, e]
  exact tell_ok (isT_bd hu).2.2
theorem j9_val {l : List Int} (hl : bytesOk l) : Ev (fun k => laws_FnHandsAhead.j9 k l) true := by
  obtain ⟨p, q, s, x, y, e⟩ := drawPlace_tot hl
  refine Ev.up ?_
  simp only [laws_FnHandsAhead.j9]
  refine Ev.bind e ?_
  refine Ev.bind (iTimesAtPlace_val p q s x y) ?_
  refine Ev.bind (sTimesAtPlace_val p q s x y) ?_
  refine Ev.bind (iHandAt_val p q s x y) ?_
  refine Ev.bind (sHandAt_val p q s x y) ?_
  generalize hP : placeL p q s x y = P
  generalize handT p q s x y = Z
  obtain ⟨L, b⟩ := P
  obtain ⟨h1, h2⟩ := placeL_yes hP
  simp only [bne_self_eq_false, Bool.false_eq_true, if_false, beq_self_eq_true, Bool.not_true, Bool.or_false]
  refine Ev.bind (kTurns_val L (by omega)) ?_
  simp only [if_true]
  refine Ev.up ?_
  simp only [laws_FnHandsAhead.j10, Bool.false_eq_true, if_false]
  cases b with
  | false =>
    simp only [Bool.false_eq_true, if_false]
    exact Ev.const
  | true =>
    obtain ⟨a1, a2, a3, a4, a5, a6⟩ := h2 rfl
    have b1 := isH_bd a1
    simp only [if_true, kAbs_val (show -1000 ≤ s ∧ s ≤ 1000 by omega), Option.bind_some, if_pos a3]
    refine Ev.bind (kRises_val L (by omega) a4 a5) ?_
    refine Ev.up ?_
    simp only [laws_FnHandsAhead.j11, Bool.not_true, Bool.false_eq_true, if_false]
    exact l3_val L (by omega) (fun t ht => handT_of a1 (a5 t ht) a2 (a6 t ht)) L.length 0 (by omega)
theorem l2_val {l : List Int} (hb : bytesOk l) {p q s c d e : Int} (L M : List S25) (hl : L.length ≤ 800) (ha : isH p q s) (hc : isH c d e) (hT : ∀ t ∈ L, isT t.f0 t.f1) (hp : L.Pairwise lessT2) (hM : M = L.filter (sameP p q s c d e)) (g : Nat) : ∀ i : Nat, i + g = L.length → Ev (fun k => laws_FnHandsAhead.l2 k l M L L (L.length : Int) i p q s c d e) true := by
  have hml : M.length ≤ L.length := by rw [hM]; exact List.length_filter_le _ _
  induction g with
  | zero =>
    intro i hi
    refine Ev.up ?_
    simp only [laws_FnHandsAhead.l2]
    simp only [if_neg (show ¬ (i : Int) < (L.length : Int) by omega)]
    refine Ev.bind (kRises_val M (by omega) (by rw [hM]; exact List.Pairwise.filter _ hp) (fun t ht => by rw [hM] at ht; exact hT t (List.mem_filter.1 ht).1)) ?_
    simp only [if_true, if_neg (show ¬ (M.length : Int) > (L.length : Int) by omega)]
    exact j9_val hb
  | succ g ih =>
    intro i hi
    have hi2 : i < L.length := by omega
    have h := ih (i + 1) (by omega)
    have ht := hT _ (List.getElem_mem hi2)
    have st := same_tell (t := L[i]) ha hc ht
    refine Ev.up ?_
    simp only [laws_FnHandsAhead.l2]
    simp only [if_pos (show (i : Int) < (L.length : Int) by omega), if_pos (show 0 ≤ (i : Int) by omega), rdT_at L i hi2]
    refine Ev.bind (iAheadAt_val _ _ _ _ _ _ _ _) ?_
    refine Ev.bind (kIn_val M (by omega) _ _) ?_
    have em : decide ((⟨(L[i]).f0, (L[i]).f1⟩ : S25) ∈ M) = sameP p q s c d e L[i] := by
      have e0 : (⟨(L[i]).f0, (L[i]).f1⟩ : S25) = L[i] := rfl
      rw [e0, hM]
      cases hs : sameP p q s c d e L[i] with
      | true => exact decide_eq_true (List.mem_filter.2 ⟨List.getElem_mem hi2, hs⟩)
      | false => exact decide_eq_false (fun m => by have := (List.mem_filter.1 m).2; rw [hs] at this; cases this)
    rw [em, wid (x := (i : Int) + 1) (by omega) (by omega)]
    unfold aheadT
    rw [if_pos ⟨⟨ha, hc⟩, ht⟩]
    generalize tell (placeT (relT p q c d).1 (relT p q c d).2 (s - e) (L[i]).f0 (L[i]).f1) = z at st
    obtain ⟨z1, z2, z3⟩ := z
    dsimp only at st ⊢
    cases z3 with
    | true =>
      have e1 : sameP p q s c d e L[i] = (z1 == 0) := by
        cases hs : sameP p q s c d e L[i] with
        | true => rw [beq_iff_eq.mpr (st.2 hs).2]
        | false => exact (beq_eq_false_iff_ne.mpr (fun z => by have := st.1 ⟨rfl, z⟩; rw [hs] at this; cases this)).symm
      rw [e1]
      simp only [if_true, bne_self_eq_false, Bool.false_eq_true, if_false]
      exact h
    | false =>
      have e1 : sameP p q s c d e L[i] = false := by
        cases hs : sameP p q s c d e L[i] with
        | true => have := (st.2 hs).1; cases this
        | false => rfl
      rw [e1]
      simp only [bne_self_eq_false, Bool.false_eq_true, if_false]
      exact h
theorem j6_val {l : List Int} (hb : bytesOk l) : Ev (fun k => laws_FnHandsAhead.j6 k l) true := by
  obtain ⟨p, q, s, p', q', s', c, d, e, ev⟩ := drawThree_tot hb
  refine Ev.up ?_
  simp only [laws_FnHandsAhead.j6]
  refine Ev.bind ev ?_
  refine Ev.bind (iThreeMeet_val p q s p' q' s' c d e) ?_
  refine Ev.bind (sThreeMeet_val p q s p' q' s' c d e) ?_
  generalize hL : aheadL p q s p' q' s' 0 1 = P
  obtain ⟨L, b⟩ := P
  obtain ⟨hl, hy⟩ := aheadL_yes low01 hL
  have iM := iMeetTimes_val p q s p' q' s'
  rw [hL] at iM
  unfold threeT
  rw [hL]
  dsimp only
  have hfl : (L.filter (sameP p q s c d e)).length ≤ 800 := by have := List.length_filter_le (sameP p q s c d e) L; omega
  by_cases hq : b = true ∧ isH c d e
  · obtain ⟨rfl, hc⟩ := hq
    simp only [if_pos (show True ∧ isH c d e from ⟨trivial, hc⟩), bne_self_eq_false, Bool.false_eq_true, if_false]
    obtain ⟨⟨a1, a2⟩, a3, a4, a5, a6, a7⟩ := hy rfl
    refine Ev.bind (kTurns_val _ (by omega)) ?_
    refine Ev.up ?_
    simp only [laws_FnHandsAhead.j7, Bool.not_true, Bool.false_eq_true, if_false, if_true]
    refine Ev.bind iM ?_
    simp only [if_true]
    exact l2_val hb L _ hl a1 hc a6 a5 rfl L.length 0 (by omega)
  · simp only [if_neg hq, bne_self_eq_false, Bool.false_eq_true, if_false]
    refine Ev.bind (kTurns_val [] (by simp)) ?_
    refine Ev.up ?_
    simp only [laws_FnHandsAhead.j7, Bool.not_true, Bool.false_eq_true, if_false]
    exact j9_val hb
section
variable {l : List Int} {a0 a1 a2 b0 b1 b2 y0 y1 u0 u1 r0 r1 r2 : Int} {one three ok five : Bool} {T O : List S25}
theorem j5_val (hb : bytesOk l) (hu : aheadT a0 a1 a2 b0 b1 b2 y0 y1 = (u0, u1, one)) (hr : relativeT a0 a1 a2 b0 b1 b2 = (r0, r1, r2, three)) : Ev (fun k => laws_FnHandsAhead.j5 k l one three a0 a1 a2 b0 b1 b2 y0 y1 u0 u1 r0 r1 r2) true := by
  refine Ev.up ?_
  simp only [laws_FnHandsAhead.j5]
  cases three with
  | false =>
    simp only [Bool.false_eq_true, if_false]
    exact j6_val hb
  | true =>
    simp only [if_true]
    refine Ev.bind (iHandAt_val _ _ _ _ _) ?_
    unfold relativeT at hr
    by_cases c : (isH a0 a1 a2 ∧ isH b0 b1 b2) ∧ isH (relT a0 a1 b0 b1).1 (relT a0 a1 b0 b1).2 (a2 - b2)
    · rw [if_pos c] at hr
      simp only [Prod.mk.injEq] at hr
      obtain ⟨rfl, rfl, rfl, _⟩ := hr
      have e : handT (relT a0 a1 b0 b1).1 (relT a0 a1 b0 b1).2 (a2 - b2) y0 y1 = (u0, u1, one) := by
        rw [← hu]
        unfold handT aheadT
        by_cases ht : isT y0 y1
        · rw [if_pos ⟨c.2, ht⟩, if_pos ⟨c.1, ht⟩]
        · rw [if_neg (fun z => ht z.2), if_neg (fun z => ht z.2)]
      rw [e]
      have q1 := isH_bd c.1.1
      have q2 := isH_bd c.1.2
      have ew : wrap64 (a2 - b2) = a2 - b2 := wid (by omega) (by omega)
      simp only [bne_self_eq_false, Bool.false_eq_true, if_false, beq_self_eq_true, Bool.not_true, Bool.or_false, ew, if_true]
      cases one <;> (simp only [Bool.false_eq_true, if_false, if_true]; exact j6_val hb)
    · rw [if_neg c] at hr
      simp at hr
theorem half_turn {M D : Int} (hD : 0 < D) (e : mkT M D = (1, 2)) : mkT (-M) D = (1, 2) := by
  have h := mkT_mul M (-1) hD
  rw [e] at h
  rw [show -M = M * -1 by omega, ← h]
  unfold mkT gI
  decide
theorem opp {p q s p' q' s' x y : Int} (h : isH p q s ∧ isH p' q' s') (ht : isT x y) (e : placeT (relT p q p' q').1 (relT p q p' q').2 (s - s') x y = (1, 2)) : placeT (relT p' q' p q).1 (relT p' q' p q).2 (s' - s) x y = (1, 2) := by
  have b1 := isH_bd h.1
  have b2 := isH_bd h.2
  have hy := (isT_bd ht).2.1
  have h3 := Int.mul_pos b1.2.1.1 b2.2.1.1
  have h4 := Int.mul_pos b2.2.1.1 b1.2.1.1
  unfold relT at e ⊢
  rw [place_start _ _ _ h3 hy] at e
  rw [place_start _ _ _ h4 hy]
  have e2 := half_turn (Int.mul_pos h3 hy) e
  rw [← e2]
  exact congr (congrArg mkT (by grind)) (by grind)
theorem l1_val (hb : bytesOk l) (hu : aheadT a0 a1 a2 b0 b1 b2 y0 y1 = (u0, u1, one)) (hr : relativeT a0 a1 a2 b0 b1 b2 = (r0, r1, r2, three)) (hl : O.length ≤ 800) (h1 : ∀ t ∈ O, aheadT a0 a1 a2 b0 b1 b2 t.f0 t.f1 = (1, 2, true)) (h2 : ∀ t ∈ O, aheadT b0 b1 b2 a0 a1 a2 t.f0 t.f1 = (1, 2, true)) (g : Nat) : ∀ i : Nat, i + g = O.length → Ev (fun k => laws_FnHandsAhead.l1 k l one three O (O.length : Int) i a0 a1 a2 b0 b1 b2 y0 y1 u0 u1 r0 r1 r2) true := by
  induction g with
  | zero =>
    intro i hi
    refine Ev.up ?_
    simp only [laws_FnHandsAhead.l1]
    simp only [if_neg (show ¬ (i : Int) < (O.length : Int) by omega)]
    exact j5_val hb hu hr
  | succ g ih =>
    intro i hi
    have hi2 : i < O.length := by omega
    have h := ih (i + 1) (by omega)
    refine Ev.up ?_
    simp only [laws_FnHandsAhead.l1]
    simp only [if_pos (show (i : Int) < (O.length : Int) by omega), if_pos (show 0 ≤ (i : Int) by omega), rdT_at O i hi2]
    refine Ev.bind (iAheadAt_val _ _ _ _ _ _ _ _) ?_
    refine Ev.bind (iAheadAt_val _ _ _ _ _ _ _ _) ?_
    rw [h1 _ (List.getElem_mem hi2), h2 _ (List.getElem_mem hi2), wid (x := (i : Int) + 1) (by omega) (by omega)]
    simp only [if_true, beq_self_eq_true, Bool.not_true, Bool.or_false, Bool.false_eq_true, if_false]
    exact h
theorem j3_val (hb : bytesOk l) (hu : aheadT a0 a1 a2 b0 b1 b2 y0 y1 = (u0, u1, one)) (hr : relativeT a0 a1 a2 b0 b1 b2 = (r0, r1, r2, three)) (ho : aheadL a0 a1 a2 b0 b1 b2 1 2 = (O, five)) : Ev (fun k => laws_FnHandsAhead.j3 k l one three O five a0 a1 a2 b0 b1 b2 y0 y1 u0 u1 r0 r1 r2) true := by
  refine Ev.up ?_
  simp only [laws_FnHandsAhead.j3]
  obtain ⟨hl, hy⟩ := aheadL_yes (isT_low isT12) ho
  cases five with
  | false =>
    simp only [Bool.false_eq_true, if_false]
    exact j5_val hb hu hr
  | true =>
    simp only [if_true]
    obtain ⟨c1, c2, c3, c4, c5, c6⟩ := hy rfl
    exact l1_val hb hu hr hl (fun t ht => aheadT_of c1 (c5 t ht) isT12 (c6 t ht)) (fun t ht => aheadT_of ⟨c1.2, c1.1⟩ (c5 t ht) isT12 (opp c1 (c5 t ht) (c6 t ht))) O.length 0 (by omega)
theorem l0_val (hb : bytesOk l) (hu : aheadT a0 a1 a2 b0 b1 b2 y0 y1 = (u0, u1, one)) (hr : relativeT a0 a1 a2 b0 b1 b2 = (r0, r1, r2, three)) (ho : aheadL a0 a1 a2 b0 b1 b2 1 2 = (O, five)) (hl : T.length ≤ 800) (h1 : ∀ t ∈ T, aheadT a0 a1 a2 b0 b1 b2 t.f0 t.f1 = (y0, y1, true)) (g : Nat) : ∀ i : Nat, i + g = T.length → Ev (fun k => laws_FnHandsAhead.l0 k l one three O five T (T.length : Int) i a0 a1 a2 b0 b1 b2 y0 y1 u0 u1 r0 r1 r2) true := by
  induction g with
  | zero =>
    intro i hi
    refine Ev.up ?_
    simp only [laws_FnHandsAhead.l0]
    simp only [if_neg (show ¬ (i : Int) < (T.length : Int) by omega)]
    exact j3_val hb hu hr ho
  | succ g ih =>
    intro i hi
    have hi2 : i < T.length := by omega
    have h := ih (i + 1) (by omega)
    refine Ev.up ?_
    simp only [laws_FnHandsAhead.l0]
    simp only [if_pos (show (i : Int) < (T.length : Int) by omega), if_pos (show 0 ≤ (i : Int) by omega), rdT_at T i hi2]
    refine Ev.bind (iAheadAt_val _ _ _ _ _ _ _ _) ?_
    rw [h1 _ (List.getElem_mem hi2), wid (x := (i : Int) + 1) (by omega) (by omega)]
    simp only [if_true, beq_self_eq_true, Bool.not_true, Bool.or_false, Bool.false_eq_true, if_false]
    exact h
theorem askL_yes (h : askL a0 a1 a2 b0 b1 b2 y0 y1 = (T, ok)) : T.length ≤ 800 ∧ (ok = true → isT y0 y1 ∧ (isH a0 a1 a2 ∧ isH b0 b1 b2) ∧ (T.length : Int) = ((a2 - b2).natAbs : Int) ∧ T.Pairwise lessT2 ∧ (∀ t ∈ T, isT t.f0 t.f1) ∧ ∀ t ∈ T, aheadT a0 a1 a2 b0 b1 b2 t.f0 t.f1 = (y0, y1, true)) := by
  unfold askL at h
  by_cases c : isT y0 y1 ∧ y1 ≤ 1000
  · rw [if_pos c] at h
    obtain ⟨hl, hy⟩ := aheadL_yes (isT_low c.1) h
    refine ⟨hl, fun hok => ?_⟩
    obtain ⟨c1, c2, c3, c4, c5, c6⟩ := hy hok
    exact ⟨c.1, c1, c3, c4, c5, fun t ht => aheadT_of c1 (c5 t ht) c.1 (c6 t ht)⟩
  · rw [if_neg c] at h
    simp only [Prod.mk.injEq] at h
    obtain ⟨rfl, rfl⟩ := h
    exact ⟨by simp, fun x => by simp at x⟩
theorem j0_val (hb : bytesOk l) (hu : aheadT a0 a1 a2 b0 b1 b2 y0 y1 = (u0, u1, one)) (hr : relativeT a0 a1 a2 b0 b1 b2 = (r0, r1, r2, three)) (ho : aheadL a0 a1 a2 b0 b1 b2 1 2 = (O, five)) (ht : askL a0 a1 a2 b0 b1 b2 y0 y1 = (T, ok)) : Ev (fun k => laws_FnHandsAhead.j0 k l T ok one three O five false a0 a1 a2 b0 b1 b2 y0 y1 u0 u1 r0 r1 r2) true := by
  refine Ev.up ?_
  simp only [laws_FnHandsAhead.j0, Bool.false_eq_true, if_false]
  obtain ⟨hl, hy⟩ := askL_yes ht
  cases ok with
  | false =>
    simp only [Bool.false_eq_true, if_false]
    exact j3_val hb hu hr ho
  | true =>
    obtain ⟨_, c1, c2, c3, c4, c5⟩ := hy rfl
    have b1 := isH_bd c1.1
    have b2 := isH_bd c1.2
    simp only [if_true]
    rw [wid (x := a2 - _) (by omega) (by omega), kAbs_val (by omega)]
    simp only [Option.bind_some, if_pos c2]
    refine Ev.bind (kRises_val T (by omega) c3 c4) ?_
    refine Ev.up ?_
    simp only [laws_FnHandsAhead.j1, Bool.not_true, Bool.false_eq_true, if_false]
    exact l0_val hb hu hr ho hl c5 T.length 0 (by omega)
end
theorem FnHandsAhead : laws_FnHandsAhead.Pure := by
  intro l0 l1 _ _ h0 _ _ h1
  have hb0 := bytes_of h0
  have hb1 := bytes_of h1
  have main : Ev (fun k => laws_FnHandsAhead.f k l0 l1) true := by
    unfold laws_FnHandsAhead.f
    obtain ⟨b, eb⟩ := big_val l0 l1
    simp only [eb, Option.bind_some]
    cases b with
    | true => simp only [if_true]; exact Ev.const
    | false =>
      simp only [Bool.false_eq_true, if_false]
      obtain ⟨a0, a1, a2, b0, b1, b2, y0, y1, e⟩ := drawAhead_tot hb0
      refine Ev.bind e ?_
      refine Ev.bind (iAheadTimes_val _ _ _ _ _ _ _ _) ?_
      refine Ev.bind (sAheadTimes_val _ _ _ _ _ _ _ _) ?_
      refine Ev.bind (iAheadAt_val _ _ _ _ _ _ _ _) ?_
      refine Ev.bind (sAheadAt_val _ _ _ _ _ _ _ _) ?_
      refine Ev.bind (iRelativeHand_val _ _ _ _ _ _) ?_
      refine Ev.bind (sRelativeHand_val _ _ _ _ _ _) ?_
      refine Ev.bind (iOppositeTimes_val _ _ _ _ _ _) ?_
      refine Ev.bind (sOppositeTimes_val _ _ _ _ _ _) ?_
      dsimp only
      generalize ht : askL a0 a1 a2 b0 b1 b2 y0 y1 = T
      generalize hu : aheadT a0 a1 a2 b0 b1 b2 y0 y1 = U
      generalize hr : relativeT a0 a1 a2 b0 b1 b2 = R
      generalize ho : aheadL a0 a1 a2 b0 b1 b2 1 2 = O
      obtain ⟨T, ok⟩ := T
      obtain ⟨u0, u1, one⟩ := U
      obtain ⟨r0, r1, r2, three⟩ := R
      obtain ⟨O, five⟩ := O
      simp only [bne_self_eq_false, Bool.false_eq_true, if_false, beq_self_eq_true, Bool.not_true, Bool.or_false]
      refine Ev.bind (kTurns_val T (by have := (askL_yes ht).1; omega)) ?_
      simp only [if_true]
      refine Ev.bind (kTurns_val O (by have := (aheadL_yes (isT_low isT12) ho).1; omega)) ?_
      exact j0_val hb1 hu hr ho ht
  obtain ⟨K, h⟩ := main
  exact ⟨K, h K (Nat.le_refl _)⟩

end Go.Proofs.Ytoneipoioiokcab.Pure
