/- Over all draws hands meet as often as their speeds differ, stand in one place then, and meet in the told places; the next meeting is behind each time; the program's answers are the reference's; no condition. -/
import Derived.Test.YtoneipoioiokcaaPFnHandsMeetx25
set_option linter.unusedVariables false
set_option linter.unusedSimpArgs false
namespace Go.Proofs.Ytoneipoioiokcaa.Pure
open Go.RowKit Go.Proofs.Ytoneipoioiokcaa.PFnHandsMeet Go.Proofs.YtoneipoioiokcaaW.PrintWords Go.Proofs.YtoneipoioiokcaaW.PrintLast Go.Proofs.YtoneipoioiokcaaW.PrintMore

/-! tmath2: sums and multiples of parts, one of the other -/
theorem mkT_sp (n : Int) {d : Int} (hd : 0 < d) : ∃ m, (mkT n d).1 * d = (mkT n d).2 * n + (mkT n d).2 * d * m := by
  have e := mkT_eq n hd
  have em := Int.mul_ediv_add_emod n d
  refine ⟨-(n / d), ?_⟩
  rw [e]
  generalize (mkT n d).2 = q
  have : n % d = n - d * (n / d) := by omega
  rw [this]
  grind
theorem mkT_pos (n : Int) {d : Int} (hd : 0 < d) : 0 < (mkT n d).2 := (mkT_low n hd).1
theorem mkT_mul (n k : Int) {d : Int} (hd : 0 < d) : mkT ((mkT n d).1 * k) (mkT n d).2 = mkT (n * k) d := by
  obtain ⟨m, h⟩ := mkT_sp n hd
  refine mkT_congr (m := m * k) (mkT_pos n hd) hd ?_
  grind
theorem mkT_add (n n' : Int) {d d' : Int} (hd : 0 < d) (hd' : 0 < d') : mkT ((mkT n d).1 * (mkT n' d').2 + (mkT n' d').1 * (mkT n d).2) ((mkT n d).2 * (mkT n' d').2) = mkT (n * d' + n' * d) (d * d') := by
  obtain ⟨m, h⟩ := mkT_sp n hd
  obtain ⟨m', h'⟩ := mkT_sp n' hd'
  refine mkT_congr (m := m + m') (Int.mul_pos (mkT_pos n hd) (mkT_pos n' hd')) (Int.mul_pos hd hd') ?_
  grind
theorem mkT_add_l (n p' : Int) {d q' : Int} (hd : 0 < d) (hq : 0 < q') : mkT ((mkT n d).1 * q' + p' * (mkT n d).2) ((mkT n d).2 * q') = mkT (n * q' + p' * d) (d * q') := by
  obtain ⟨m, h⟩ := mkT_sp n hd
  refine mkT_congr (m := m) (Int.mul_pos (mkT_pos n hd) hq) (Int.mul_pos hd hq) ?_
  grind
theorem mkT_add_r (n' p : Int) {d' q : Int} (hq : 0 < q) (hd' : 0 < d') : mkT (p * (mkT n' d').2 + (mkT n' d').1 * q) (q * (mkT n' d').2) = mkT (p * d' + n' * q) (q * d') := by
  obtain ⟨m, h⟩ := mkT_sp n' hd'
  refine mkT_congr (m := m) (Int.mul_pos hq (mkT_pos n' hd')) (Int.mul_pos hq hd') ?_
  grind
theorem mkT_sub_l (n p' : Int) {d q' : Int} (hd : 0 < d) (hq : 0 < q') : mkT ((mkT n d).1 * q' - p' * (mkT n d).2) ((mkT n d).2 * q') = mkT (n * q' - p' * d) (d * q') := by
  obtain ⟨m, h⟩ := mkT_sp n hd
  refine mkT_congr (m := m) (Int.mul_pos (mkT_pos n hd) hq) (Int.mul_pos hd hq) ?_
  grind
theorem mkT_sub_r (n' p : Int) {d' q : Int} (hq : 0 < q) (hd' : 0 < d') : mkT (p * (mkT n' d').2 - (mkT n' d').1 * q) (q * (mkT n' d').2) = mkT (p * d' - n' * q) (q * d') := by
  obtain ⟨m, h⟩ := mkT_sp n' hd'
  refine mkT_congr (m := -m) (Int.mul_pos hq (mkT_pos n' hd')) (Int.mul_pos hq hd') ?_
  grind
theorem mkT_cross {n d n' d' : Int} (hd : 0 < d) (hd' : 0 < d') (e : n * d' = n' * d) : mkT n d = mkT n' d' := mkT_congr (m := 0) hd hd' (by rw [e, Int.mul_zero, Int.add_zero])
/-- Twice mirrored. -/
theorem mirror_mirror {p q : Int} (h : low p q) : mkT ((mkT (p * (-1)) q).1 * (-1)) (mkT (p * (-1)) q).2 = (p, q) := by
  rw [mkT_mul _ _ h.1, show p * -1 * -1 = p by omega, mkT_self h]
/-! addmath: what is added is taken away again; multiples and parts -/
theorem mkT_zero {d : Int} (hd : 0 < d) : mkT 0 d = (0, 1) := mkT_of (m := 0) hd ⟨by decide, by decide, by decide, rfl⟩ (by omega)
theorem back_of {p q r s : Int} (h : low p q) (hs : 0 < s) :
    mkT ((mkT (p * s + r * q) (q * s)).1 * s - r * (mkT (p * s + r * q) (q * s)).2) ((mkT (p * s + r * q) (q * s)).2 * s) = (p, q) := by
  rw [mkT_sub_l _ _ (Int.mul_pos h.1 hs) hs, ← mkT_self h]
  refine mkT_cross (Int.mul_pos (Int.mul_pos h.1 hs) hs) h.1 ?_
  grind
theorem none_of {p q : Int} (hq : 0 < q) : mkT (p * (mkT (p * (-1)) q).2 + (mkT (p * (-1)) q).1 * q) (q * (mkT (p * (-1)) q).2) = (0, 1) := by
  rw [mkT_add_r _ _ hq hq, ← mkT_zero (Int.mul_pos hq hq)]
  refine mkT_cross (Int.mul_pos hq hq) (Int.mul_pos hq hq) ?_
  grind
theorem add_comm_of (p q r s : Int) : mkT (r * q + p * s) (s * q) = mkT (p * s + r * q) (q * s) := by rw [Int.add_comm, Int.mul_comm s q]
theorem whole_of {p q k : Int} (h : low p q) (hk : 0 < k) : mkT ((mkT p (q * k)).1 * k) (mkT p (q * k)).2 = (p, q) := by
  rw [mkT_mul _ _ (Int.mul_pos h.1 hk), ← mkT_self h]
  refine mkT_cross (Int.mul_pos h.1 hk) h.1 ?_
  grind
theorem part_small {p q k : Int} (h : low p q) (hk : 0 < k) : (mkT p (q * k)).1 * k < (mkT p (q * k)).2 := by
  have hd := Int.mul_pos h.1 hk
  have e := mkT_eq p hd
  have l := mkT_low p hd
  have h1 : p % (q * k) = p := by
    refine Int.emod_eq_of_lt h.2.1 (Int.lt_of_lt_of_le h.2.2.1 ?_)
    have := Int.mul_le_mul_of_nonneg_left (show 1 ≤ k by omega) (Int.le_of_lt h.1)
    omega
  rw [h1] at e
  generalize (mkT p (q * k)).1 = x at e l
  generalize (mkT p (q * k)).2 = y at e l
  have h2 : y * p < y * q := Int.mul_lt_mul_of_pos_left h.2.2.1 l.1
  refine Int.lt_of_mul_lt_mul_right (a := q) ?_ (Int.le_of_lt h.1)
  rw [show x * k * q = x * (q * k) by grind, e]
  exact h2
theorem made_mod (n : Int) {d : Int} (hd : 0 < d) : d % (mkT n d).2 = 0 ∧ (n - (mkT n d).1 * (d / (mkT n d).2)) % d = 0 := by
  have e := mkT_eq n hd
  have l := mkT_low n hd
  obtain ⟨g, hg⟩ := mkT_dvd n (d := d)
  have em := Int.mul_ediv_add_emod n d
  refine ⟨Int.emod_eq_zero_of_dvd ⟨g, hg⟩, ?_⟩
  generalize (mkT n d).1 = x at *
  generalize (mkT n d).2 = y at *
  have y0 : 0 < y := l.1
  have h1 : d / y = g := Int.ediv_eq_of_eq_mul_right (by omega) hg
  have h2 : x * g = n % d := by
    refine Int.eq_of_mul_eq_mul_right (a := y) (by omega) ?_
    rw [show x * g * y = x * (y * g) by grind, ← hg, e, Int.mul_comm]
  rw [h1, h2]
  exact Int.emod_eq_zero_of_dvd ⟨n / d, by omega⟩
/-- All parts that k times are n / d: (n + i * d) / (d * k). -/
def rootsL (n d : Int) (k m : Nat) : List S25 := (List.range m).map fun (i : Nat) => ⟨(mkT (n + (i : Int) * d) (d * (k : Int))).1, (mkT (n + (i : Int) * d) (d * (k : Int))).2⟩
theorem rootsL_length (n d : Int) (k m : Nat) : (rootsL n d k m).length = m := by simp [rootsL]
theorem rootsL_succ (n d : Int) (k m : Nat) : rootsL n d k (m + 1) = rootsL n d k m ++ [⟨(mkT (n + (m : Int) * d) (d * (k : Int))).1, (mkT (n + (m : Int) * d) (d * (k : Int))).2⟩] := by simp [rootsL, List.range_succ]
def allT (xs : List S25) : Bool := xs.all fun t => decide (isT t.f0 t.f1)
theorem allT_snoc (xs : List S25) (t : S25) : allT (xs ++ [t]) = (allT xs && decide (isT t.f0 t.f1)) := by simp [allT]
theorem isT_mk (n : Int) {d : Int} (hd : 0 < d) : isT (mkT n d).1 (mkT n d).2 ↔ (mkT n d).2 ≤ 1000000 := ⟨fun h => h.1.2, fun h => isT_of_low (mkT_low n hd) h⟩
theorem root_bd {n d : Int} {i k : Nat} (hn : -1000000000000 ≤ n ∧ n ≤ 1000000000000) (hd : 0 < d ∧ d ≤ 1000000000000) (hi : i ≤ 1000) (hk : 0 < k ∧ k ≤ 1000) : (-1000000000000000 ≤ (i : Int) * d ∧ (i : Int) * d ≤ 1000000000000000) ∧ (0 < d * (k : Int) ∧ d * (k : Int) ≤ 1000000000000000) := by
  have m1 := mul_bd (M := 1000) (N := 1000000000000) (x := (i : Int)) (y := d) (by omega) (by omega)
  have m2 := mul_bd (M := 1000000000000) (N := 1000) (x := d) (y := (k : Int)) (by omega) (by omega)
  exact ⟨by omega, Int.mul_pos hd.1 (by omega), by omega⟩
theorem allT_prefix (n d : Int) (k : Nat) {i j : Nat} (h : i ≤ j) (ha : allT (rootsL n d k i) = false) : allT (rootsL n d k j) = false := by
  induction j with
  | zero => rw [show i = 0 by omega] at ha; exact ha
  | succ j ih =>
    by_cases e : i = j + 1
    · rw [← e]; exact ha
    · rw [rootsL_succ, allT_snoc, ih (by omega)]; rfl
theorem mkT_id {p q : Int} (h : low p q) : mkT p q = (p, q) := mkT_self h
def placeT (p q s x y : Int) : Int × Int := mkT (p * y + s * x * q) (q * y)
theorem place_start (n s x : Int) {d y : Int} (hd : 0 < d) (hy : 0 < y) : placeT (mkT n d).1 (mkT n d).2 s x y = mkT (n * y + s * x * d) (d * y) := mkT_add_l n (s * x) hd hy
theorem place_time (p s n : Int) {q d : Int} (hq : 0 < q) (hd : 0 < d) : placeT p q s (mkT n d).1 (mkT n d).2 = mkT (p * d + s * n * q) (q * d) := by
  unfold placeT
  have e1 := mkT_add_r ((mkT n d).1 * s) p hq (mkT_pos n hd)
  rw [mkT_mul n s hd, mkT_add_r (n * s) p hq hd] at e1
  rw [Int.mul_comm s (mkT n d).1, ← e1, Int.mul_comm s n]
def wayT (p q s x y : Int) : Int × Int := if s < 0 then mkT ((mkT (x * q - p * y) (y * q)).1 * (-1)) (mkT (x * q - p * y) (y * q)).2 else mkT (x * q - p * y) (y * q)
theorem wayT_eq (p s x : Int) {q y : Int} (hq : 0 < q) (hy : 0 < y) : wayT p q s x y = mkT (if s < 0 then (x * q - p * y) * (-1) else x * q - p * y) (y * q) := by
  unfold wayT
  by_cases c : s < 0
  · rw [if_pos c, if_pos c, mkT_mul _ _ (Int.mul_pos hy hq)]
  · rw [if_neg c, if_neg c]
def timesL (p q s x y : Int) : List S25 := rootsL (wayT p q s x y).1 (wayT p q s x y).2 s.natAbs s.natAbs
def timesT (p q s x y : Int) : List S25 × Bool := if allT (timesL p q s x y) = true then (timesL p q s x y, true) else ([], false)
theorem at_times {p q s x y : Int} (hq : 0 < q) (h : low x y) (hs : s ≠ 0) : ∀ t ∈ timesL p q s x y, placeT p q s t.f0 t.f1 = (x, y) := by
  intro t ht
  unfold timesL rootsL at ht
  obtain ⟨i, hi, rfl⟩ := List.mem_map.1 ht
  have hy := h.1
  have hY := Int.mul_pos hy hq
  rw [wayT_eq p s x hq hy]
  generalize hw : (if s < 0 then (x * q - p * y) * (-1) else x * q - p * y) = W
  have hw2 := mkT_pos W hY
  dsimp only
  have hn : (0 : Int) < (s.natAbs : Int) := by omega
  rw [place_time p s _ hq (Int.mul_pos hw2 hn)]
  rw [← mkT_id h]
  by_cases c : s < 0
  · rw [if_pos c] at hw
    have hs' : s = -(s.natAbs : Int) := by omega
    generalize (s.natAbs : Int) = n at hs' hn
    subst hs'
    have e1 := mkT_sub_r W p hq hY
    generalize (mkT W (y * q)) = w at hw2 e1 ⊢
    obtain ⟨w1, w2⟩ := w
    dsimp only at hw2 e1 ⊢
    have e2 : mkT (p * (w2 * n) + -n * (w1 + (i : Int) * w2) * q) (q * (w2 * n)) = mkT (p * w2 - w1 * q) (q * w2) := by
      rw [← mkT_add_turns (p * w2 - w1 * q) (-(i : Int)) (Int.mul_pos hq hw2), ← mkT_scale (p * w2 - w1 * q + q * w2 * -(i : Int)) (Int.mul_pos hq hw2) hn]
      exact congr (congrArg mkT (by grind)) (by grind)
    rw [e2, e1]
    exact mkT_cross (Int.mul_pos hq hY) hy (by rw [← hw]; grind)
  · rw [if_neg c] at hw
    have hs' : s = (s.natAbs : Int) := by omega
    generalize (s.natAbs : Int) = n at hs' hn
    subst hs'
    have e1 := mkT_add_r W p hq hY
    generalize (mkT W (y * q)) = w at hw2 e1 ⊢
    obtain ⟨w1, w2⟩ := w
    dsimp only at hw2 e1 ⊢
    have e2 : mkT (p * (w2 * s) + s * (w1 + (i : Int) * w2) * q) (q * (w2 * s)) = mkT (p * w2 + w1 * q) (q * w2) := by
      rw [← mkT_add_turns (p * w2 + w1 * q) (i : Int) (Int.mul_pos hq hw2), ← mkT_scale (p * w2 + w1 * q + q * w2 * (i : Int)) (Int.mul_pos hq hw2) hn]
      exact congr (congrArg mkT (by grind)) (by grind)
    rw [e2, e1]
    exact mkT_cross (Int.mul_pos hq hY) hy (by rw [← hw]; grind)
def lessT2 (a b : S25) : Prop := a.f0 * b.f1 < b.f0 * a.f1
theorem roots_rise {n d : Int} {k : Nat} (hn : 0 ≤ n ∧ n < d) (hk : 0 < k) : (rootsL n d k k).Pairwise lessT2 := by
  rw [List.pairwise_iff_getElem]
  intro i j hi hj hij
  simp only [rootsL, List.length_map, List.length_range] at hi hj
  simp only [rootsL, List.getElem_map, List.getElem_range, lessT2]
  have hD : 0 < d * (k : Int) := Int.mul_pos (by omega) (by omega)
  have bd : ∀ m : Nat, m < k → 0 ≤ n + (m : Int) * d ∧ n + (m : Int) * d < d * (k : Int) := by
    intro m hm
    have h1 : (m : Int) * d ≤ ((k : Int) - 1) * d := Int.mul_le_mul_of_nonneg_right (by omega) (by omega)
    have h2 := Int.mul_nonneg (show (0 : Int) ≤ m by omega) (show 0 ≤ d by omega)
    have h3 : ((k : Int) - 1) * d = d * (k : Int) - d := by grind
    omega
  have e1 := mkT_eq (n + (i : Int) * d) hD
  have e2 := mkT_eq (n + (j : Int) * d) hD
  rw [Int.emod_eq_of_lt (bd i hi).1 (bd i hi).2] at e1
  rw [Int.emod_eq_of_lt (bd j hj).1 (bd j hj).2] at e2
  have p1 := mkT_pos (n + (i : Int) * d) hD
  have p2 := mkT_pos (n + (j : Int) * d) hD
  have hlt : n + (i : Int) * d < n + (j : Int) * d := by
    have := Int.mul_lt_mul_of_pos_right (show (i : Int) < j by omega) (show 0 < d by omega)
    omega
  generalize n + (i : Int) * d = N at *
  generalize n + (j : Int) * d = M at *
  generalize mkT N (d * (k : Int)) = a at *
  generalize mkT M (d * (k : Int)) = b at *
  refine Int.lt_of_mul_lt_mul_right (a := d * (k : Int)) ?_ (Int.le_of_lt hD)
  have h1 : a.1 * b.2 * (d * (k : Int)) = a.2 * b.2 * N := by grind
  have h2 : b.1 * a.2 * (d * (k : Int)) = a.2 * b.2 * M := by grind
  rw [h1, h2]
  exact Int.mul_lt_mul_of_pos_left hlt (Int.mul_pos p1 p2)
theorem roots_none {n d : Int} {k : Nat} (h : low n d) (hd : d > 1000000) (hk : 0 < k) : allT (rootsL n d k k) = false := by
  refine allT_prefix n d k (i := 1) (by omega) ?_
  have hD : 0 < d * (k : Int) := Int.mul_pos h.1 (by omega)
  rw [show (1 : Nat) = 0 + 1 from rfl, rootsL_succ, allT_snoc]
  have e0 : allT (rootsL n d k 0) = true := rfl
  rw [e0, Bool.true_and, decide_eq_false_iff_not]
  dsimp only
  rw [isT_mk _ hD]
  have e1 := mkT_eq (n + ((0 : Nat) : Int) * d) hD
  have h1 : n + ((0 : Nat) : Int) * d = n := by omega
  rw [h1] at e1 ⊢
  have h2 : d ≤ d * (k : Int) := by
    have := Int.mul_le_mul_of_nonneg_left (show (1 : Int) ≤ k by omega) (show 0 ≤ d by have := h.1; omega)
    omega
  rw [Int.emod_eq_of_lt h.2.1 (by have := h.2.2.1; omega)] at e1
  have h3 : d ∣ (mkT n (d * (k : Int))).2 * n := ⟨(mkT n (d * (k : Int))).1 * (k : Int), by rw [← e1]; grind⟩
  have h4 : d ∣ (mkT n (d * (k : Int))).2 := by
    refine dvd_cancel (m := n) ?_ (by rw [Int.mul_comm]; exact h3)
    have := h.2.2.2
    unfold gI at this
    rw [Int.gcd_comm]
    omega
  have h5 := Int.le_of_dvd (mkT_pos n hD) h4
  omega
theorem mkT_zero1 {K E : Int} (hE : 0 < E) : mkT K E = (0, 1) ↔ ∃ m, K = E * m := by
  constructor
  · intro e
    have h := mkT_eq K hE
    rw [e] at h
    exact ⟨K / E, by have := Int.mul_ediv_add_emod K E; simp at h; omega⟩
  · rintro ⟨m, rfl⟩
    have := mkT_add_turns 0 m hE
    rw [Int.zero_add] at this
    rw [this]; exact mkT_zero hE
theorem diff0 (M M' : Int) {D D' : Int} (hD : 0 < D) (hD' : 0 < D') : mkT M D = mkT M' D' ↔ mkT (M * D' - M' * D) (D * D') = (0, 1) := by
  constructor
  · intro e
    have e1 := mkT_sub_l M (mkT M' D').1 hD (mkT_pos M' hD')
    have e2 := mkT_sub_r M' M hD hD'
    rw [← e2, ← e1, e, Int.sub_self]
    exact mkT_zero (Int.mul_pos (mkT_pos _ hD') (mkT_pos _ hD'))
  · intro e
    obtain ⟨m, hm⟩ := (mkT_zero1 (Int.mul_pos hD hD')).1 e
    exact mkT_congr (m := m) hD hD' (by omega)
theorem low0 {q : Int} (h : low 0 q) : q = 1 := by
  have := h.2.2.2
  unfold gI at this
  rw [Int.gcd_zero_left] at this
  have := h.1
  omega
theorem floorDiv_val {n d : Int} (hd : 0 < d) (hb : d ≤ 4611686018427387904) : ∃ q, impl_floorDiv.f n d = some (q, n % d) := by
  unfold impl_floorDiv.f
  obtain ⟨t1, t0⟩ := tmod_bd n hd
  have m0 : 0 ≤ n % d := Int.emod_nonneg _ (by omega)
  have m1 : n % d < d := Int.emod_lt_of_pos _ hd
  have e := Int.mul_tdiv_add_tmod n d
  have e2 : n % d = (Int.tmod n d) % d := by
    have : n % d = (Int.tmod n d + d * Int.tdiv n d) % d := by rw [Int.add_comm, e]
    rw [this, Int.add_mul_emod_self_left]
  rw [if_neg (by omega)]
  by_cases h : Int.tmod n d < 0
  · rw [if_pos h, wid (x := Int.tmod n d + d) (by omega) (by omega)]
    refine ⟨_, congrArg some (Prod.ext rfl ?_)⟩
    rw [e2, ← Int.add_emod_right, Int.emod_eq_of_lt (by omega) (by omega)]
  · rw [if_neg h]
    refine ⟨_, congrArg some (Prod.ext rfl ?_)⟩
    rw [e2, Int.emod_eq_of_lt (by omega) (by omega)]
theorem part_val {n d : Int} (hd : 0 < d) (hb : d ≤ 4611686018427387904) : Ev (fun k => impl_part.f k n d) (mkT n d) := by
  unfold impl_part.f
  have g0 := gI_pos (a := n % d) (show d ≠ 0 by omega)
  have m0 : 0 ≤ n % d := Int.emod_nonneg _ (by omega)
  have m1 : n % d < d := Int.emod_lt_of_pos _ hd
  have q0 : 0 ≤ d / gI (n % d) d := Int.ediv_nonneg (by omega) (by omega)
  have q1 : d / gI (n % d) d ≤ d := Int.ediv_le_self _ (by omega)
  have r0 : 0 ≤ n % d / gI (n % d) d := Int.ediv_nonneg (by omega) (by omega)
  have r1 : n % d / gI (n % d) d ≤ n % d := Int.ediv_le_self _ (by omega)
  obtain ⟨q, hq⟩ := floorDiv_val (n := n) hd hb
  simp only [hq, Option.bind_some]
  refine Ev.bind (igcd_val (by omega) (by omega) (by omega) (by omega)) ?_
  rw [if_neg (by omega), tdiv_nn _ m0, tdiv_nn _ (by omega), wid (x := d / gI (n % d) d) (by omega) (by omega), wid (x := n % d / gI (n % d) d) (by omega) (by omega)]
  exact ⟨0, fun _ _ => rfl⟩
theorem plus_val {a b c d : Int} (ha : -1000000000 ≤ a ∧ a ≤ 1000000000) (hb : 0 < b ∧ b ≤ 1000000000) (hc : -1000000000 ≤ c ∧ c ≤ 1000000000) (hd : 0 < d ∧ d ≤ 1000000000) : Ev (fun k => impl_Turn_plus.f k a b c d) (mkT (a * d + c * b) (b * d)) := by
  have e1 := mul_bd (N := 1000000000) ha (y := d) (by omega)
  have e2 := mul_bd (N := 1000000000) hc (y := b) (by omega)
  have e3 := mul_bd (M := 1000000000) (N := 1000000000) (x := b) (y := d) (by omega) (by omega)
  have e4 : 0 < b * d := Int.mul_pos hb.1 hd.1
  unfold impl_Turn_plus.f
  rw [wid (x := a * d) (by omega) (by omega), wid (x := c * b) (by omega) (by omega), wid (x := b * d) (by omega) (by omega), wid (x := a * d + c * b) (by omega) (by omega)]
  exact Ev.bind (part_val e4 (by omega)) ⟨0, fun _ _ => rfl⟩
theorem minus_val {a b c d : Int} (ha : -1000000000 ≤ a ∧ a ≤ 1000000000) (hb : 0 < b ∧ b ≤ 1000000000) (hc : -1000000000 ≤ c ∧ c ≤ 1000000000) (hd : 0 < d ∧ d ≤ 1000000000) : Ev (fun k => impl_Turn_minus.f k a b c d) (mkT (a * d - c * b) (b * d)) := by
  have e1 := mul_bd (N := 1000000000) ha (y := d) (by omega)
  have e2 := mul_bd (N := 1000000000) hc (y := b) (by omega)
  have e3 := mul_bd (M := 1000000000) (N := 1000000000) (x := b) (y := d) (by omega) (by omega)
  have e4 : 0 < b * d := Int.mul_pos hb.1 hd.1
  unfold impl_Turn_minus.f
  rw [wid (x := a * d) (by omega) (by omega), wid (x := c * b) (by omega) (by omega), wid (x := b * d) (by omega) (by omega), wid (x := a * d - c * b) (by omega) (by omega)]
  exact Ev.bind (part_val e4 (by omega)) ⟨0, fun _ _ => rfl⟩
theorem times_val {a b k : Int} (ha : -1000000000 ≤ a ∧ a ≤ 1000000000) (hb : 0 < b ∧ b ≤ 1000000000) (hk : -1000000000 ≤ k ∧ k ≤ 1000000000) : Ev (fun n => impl_Turn_times.f n a b k) (mkT (a * k) b) := by
  have e1 := mul_bd ha hk
  unfold impl_Turn_times.f
  rw [wid (x := a * k) (by omega) (by omega)]
  exact Ev.bind (part_val hb.1 (by omega)) ⟨0, fun _ _ => rfl⟩
theorem mirror_val {a b : Int} (ha : -1000000000 ≤ a ∧ a ≤ 1000000000) (hb : 0 < b ∧ b ≤ 1000000000) : Ev (fun n => impl_Turn_mirror.f n a b) (mkT (a * (-1)) b) := by
  unfold impl_Turn_mirror.f
  exact Ev.bind (times_val ha hb (by omega)) ⟨0, fun _ _ => rfl⟩
theorem diCommon_ev : ∀ (n : Nat) (a b : Int), 0 ≤ a → 0 ≤ b → b.toNat ≤ n → ∀ k, n < k → spec_diCommon.l0 k a b = some (gI a b)
  | 0, a, b, ha, hb, hn, k, hk => by
    obtain ⟨k, rfl⟩ : ∃ m, k = m + 1 := ⟨k - 1, by omega⟩
    have : b = 0 := by omega
    subst this
    simp only [spec_diCommon.l0]
    rw [if_neg (by omega)]
    unfold gI
    rw [Int.gcd_zero_right]; congr 1; omega
  | n + 1, a, b, ha, hb, hn, k, hk => by
    obtain ⟨k, rfl⟩ : ∃ m, k = m + 1 := ⟨k - 1, by omega⟩
    simp only [spec_diCommon.l0]
    by_cases h0 : b = 0
    · subst h0
      rw [if_neg (by omega)]
      unfold gI
      rw [Int.gcd_zero_right]; congr 1; omega
    · have h1 : 0 ≤ Int.tmod a b := by rw [tmod_nn _ ha]; exact Int.emod_nonneg _ h0
      have h2 : Int.tmod a b < b := by rw [tmod_nn _ ha]; exact Int.emod_lt_of_pos _ (by omega)
      rw [if_pos (by omega), if_neg h0, diCommon_ev n b (Int.tmod a b) hb h1 (by omega) k (by omega), gI_tmod]
theorem diCommon_val {a b : Int} (ha : 0 ≤ a) (hb : 0 ≤ b) : Ev (fun k => spec_diCommon.f k a b) (gI a b) :=
  ⟨b.toNat + 1, fun k hk => diCommon_ev b.toNat a b ha hb (Nat.le_refl _) k (by omega)⟩
/-- What diMake tells of a part in lowest terms: it, if it is a turn. -/
def tell (t : Int × Int) : Int × Int × Bool := if t.2 > 1000000 then (0, 0, false) else (t.1, t.2, true)
theorem norm_mod (n : Int) {d : Int} (hd : 0 < d) : (Int.tmod n d + d) % d = n % d := by
  rw [Int.add_emod_right]
  have e := Int.mul_tdiv_add_tmod n d
  have : n % d = (Int.tmod n d + d * Int.tdiv n d) % d := by rw [Int.add_comm, e]
  rw [this, Int.add_mul_emod_self_left]
theorem diMake_val {n d : Int} (hd : 0 < d) (hb : d ≤ 4611686018427387904) : Ev (fun k => spec_diMake.f k n d) (tell (mkT n d)) := by
  unfold spec_diMake.f
  obtain ⟨t1, t0⟩ := tmod_bd n hd
  have g0 := gI_pos (a := n % d) (show d ≠ 0 by omega)
  have m0 : 0 ≤ n % d := Int.emod_nonneg _ (by omega)
  have m1 : n % d < d := Int.emod_lt_of_pos _ hd
  have q0 : 0 ≤ d / gI (n % d) d := Int.ediv_nonneg (by omega) (by omega)
  have q1 : d / gI (n % d) d ≤ d := Int.ediv_le_self _ (by omega)
  have r0 : 0 ≤ n % d / gI (n % d) d := Int.ediv_nonneg (by omega) (by omega)
  have r1 : n % d / gI (n % d) d ≤ n % d := Int.ediv_le_self _ (by omega)
  simp only [if_neg (show ¬ d = 0 by omega)]
  rw [wid (x := Int.tmod n d + d) (by omega) (by omega), tmod_nn _ (show 0 ≤ Int.tmod n d + d by omega), norm_mod n hd]
  refine Ev.bind (diCommon_val m0 (by omega)) ?_
  rw [if_neg (by omega), tdiv_nn _ m0, tdiv_nn _ (by omega), wid (x := d / gI (n % d) d) (by omega) (by omega), wid (x := n % d / gI (n % d) d) (by omega) (by omega)]
  refine ⟨0, fun _ _ => ?_⟩
  unfold tell mkT
  dsimp only
  split <;> rfl
theorem diAdd_val {a b c d k : Int} (ha : -1000000000 ≤ a ∧ a ≤ 1000000000) (hb : 0 < b ∧ b ≤ 1000000000) (hc : -1000000 ≤ c ∧ c ≤ 1000000) (hk : -1000 ≤ k ∧ k ≤ 1000) (hd : 0 < d ∧ d ≤ 1000000000) : Ev (fun n => spec_diAdd.f n a b c d k) (tell (mkT (a * d + k * c * b) (b * d))) := by
  have e1 := mul_bd (N := 1000000000) ha (y := d) (by omega)
  have e5 := mul_bd (M := 1000) (N := 1000000) (x := k) (y := c) hk hc
  have e2 := mul_bd (M := 1000000000) (N := 1000000000) (x := k * c) (y := b) (by omega) (by omega)
  have e3 := mul_bd (M := 1000000000) (N := 1000000000) (x := b) (y := d) (by omega) (by omega)
  have e4 : 0 < b * d := Int.mul_pos hb.1 hd.1
  unfold spec_diAdd.f
  rw [wid (x := k * c) (by omega) (by omega), wid (x := a * d) (by omega) (by omega), wid (x := k * c * b) (by omega) (by omega), wid (x := b * d) (by omega) (by omega), wid (x := a * d + k * c * b) (by omega) (by omega)]
  exact Ev.bind (diMake_val e4 (by omega)) ⟨0, fun _ _ => rfl⟩
theorem mkT_small (n : Int) {d : Int} (hd : 0 < d) : (mkT n d).2 ≤ d := Int.le_of_dvd hd (mkT_dvd n)
theorem tell_small (n : Int) {d : Int} (hd : 0 < d) (h : d ≤ 1000000) : tell (mkT n d) = ((mkT n d).1, (mkT n d).2, true) := by
  have := mkT_small n hd
  unfold tell
  rw [if_neg (by omega)]
theorem diTimes_val {a b k : Int} (ha : -1000000000 ≤ a ∧ a ≤ 1000000000) (hb : 0 < b ∧ b ≤ 1000000) (hk : -1000000000 ≤ k ∧ k ≤ 1000000000) : Ev (fun n => spec_diTimes.f n a b k) (mkT (a * k) b) := by
  have e1 := mul_bd ha hk
  unfold spec_diTimes.f
  rw [wid (x := a * k) (by omega) (by omega)]
  refine Ev.bind (diMake_val hb.1 (by omega)) ⟨0, fun _ _ => ?_⟩
  rw [tell_small _ hb.1 hb.2]
theorem diMirror_val {a b : Int} (ha : -1000000000 ≤ a ∧ a ≤ 1000000000) (hb : 0 < b ∧ b ≤ 1000000) : Ev (fun n => spec_diMirror.f n a b) (mkT (a * (-1)) b) := by
  unfold spec_diMirror.f
  exact Ev.bind (diTimes_val ha hb (by omega)) ⟨0, fun _ _ => rfl⟩
theorem l1In_val (a b c : Int) : spec_l1In.f a b c = some (decide (b ≤ a ∧ a ≤ c)) := by
  unfold spec_l1In.f
  by_cases h : a ≥ b
  · have e : (b ≤ a ∧ a ≤ c) ↔ a ≤ c := ⟨fun x => x.2, fun x => ⟨h, x⟩⟩
    rw [if_pos h, decide_eq_decide.mpr e]
  · rw [if_neg h, decide_eq_false (fun x => h x.1)]
theorem diGood_val (a b : Int) : Ev (fun k => spec_diGood.f k a b) (decide (isT a b)) := by
  unfold spec_diGood.f
  simp only [l1In_val, Option.bind_some]
  by_cases h1 : 1 ≤ b ∧ b ≤ 1000000
  · simp only [decide_eq_true h1, if_true]
    rw [wid (x := b - 1) (by omega) (by omega)]
    by_cases h2 : 0 ≤ a ∧ a ≤ b - 1
    · simp only [decide_eq_true h2, if_true]
      refine Ev.bind (diCommon_val h2.1 (by omega)) ?_
      refine ⟨0, fun _ _ => ?_⟩
      unfold isT
      rw [show (gI a b == 1) = decide (gI a b = 1) from Bool.eq_iff_iff.mpr (by simp)]
      simp [h1, h2]
    · simp only [decide_eq_false h2]
      exact ⟨0, fun _ _ => by unfold isT; simp [h2]⟩
  · simp only [decide_eq_false h1]
    exact ⟨0, fun _ _ => by unfold isT; simp [h1]⟩
theorem iroots_loop {n d : Int} {k : Nat} (hn : -1000000000000 ≤ n ∧ n ≤ 1000000000000) (hd : 0 < d ∧ d ≤ 1000000000000) (hk : 0 < k ∧ k ≤ 1000) (e : Nat) : ∀ i : Nat, i + e = k →
    Ev (fun q => impl_roots.l0 q k (rootsL n d k i) k i n d) (rootsL n d k k, allT (rootsL n d k k)) := by
  induction e with
  | zero =>
    intro i hi
    refine ⟨1, fun q hq => ?_⟩
    obtain ⟨q, rfl⟩ : ∃ m, q = m + 1 := ⟨q - 1, by omega⟩
    simp only [impl_roots.l0]
    rw [if_neg (by omega), show i = k by omega]
    unfold impl_areTurns.f
    rfl
  | succ e ih =>
    intro i hi
    obtain ⟨b1, b2⟩ := root_bd (i := i) hn hd (by omega) (show 0 < k ∧ k ≤ 1000 by omega)
    obtain ⟨K1, h1⟩ := ih (i + 1) (by omega)
    obtain ⟨K2, h2⟩ := part_val (n := n + (i : Int) * d) b2.1 (by omega)
    refine ⟨max K1 K2 + 1, fun q hq => ?_⟩
    obtain ⟨q, rfl⟩ : ∃ m, q = m + 1 := ⟨q - 1, by omega⟩
    have e1 := h1 q (by omega)
    have e2 := h2 q (by omega)
    dsimp only at e1 e2
    simp only [impl_roots.l0]
    rw [if_pos (by omega), wid (x := (i : Int) * d) (by omega) (by omega), wid (x := n + (i : Int) * d) (by omega) (by omega), wid (x := d * (k : Int)) (by omega) (by omega), e2]
    simp only [Option.bind_some]
    rw [rootsL_length, if_pos (by omega), wid (x := (i : Int) + 1) (by omega) (by omega), ← rootsL_succ]
    exact e1
theorem iroots_val {n d : Int} {k : Nat} (hn : -1000000000000 ≤ n ∧ n ≤ 1000000000000) (hd : 0 < d ∧ d ≤ 1000000000000) (hk : 0 < k ∧ k ≤ 1000) : Ev (fun q => impl_roots.f q n d k) (rootsL n d k k, allT (rootsL n d k k)) :=
  iroots_loop hn hd hk k 0 (by omega)
theorem ifTurns_val (xs : List S25) (b : Bool) : impl_ifTurns.f xs b = some (if b = true ∧ allT xs = true then (xs, true) else ([], false)) := by
  unfold impl_ifTurns.f impl_areTurns.f
  show (if b = true then ((some (allT xs)).bind fun t => if t = true then some (xs, true) else some ([], false)) else some ([], false)) = _
  cases b <;> cases allT xs <;> rfl
theorem rooted_val {n d : Int} {k : Nat} (hn : -1000000000000 ≤ n ∧ n ≤ 1000000000000) (hd : 0 < d ∧ d ≤ 1000000000000) (hk : 0 < k ∧ k ≤ 1000) : Ev (fun q => (impl_roots.f q n d k).bind fun b => (impl_ifTurns.f b.1 b.2).bind fun c => some (c.1, c.2)) (if allT (rootsL n d k k) = true then (rootsL n d k k, true) else ([], false)) := by
  refine Ev.bind (iroots_val hn hd hk) ⟨0, fun _ _ => ?_⟩
  dsimp only
  rw [ifTurns_val]
  cases allT (rootsL n d k k) <;> rfl
theorem Ev.up {α : Type} {g : Nat → Option α} {r : α} (h : Ev (fun k => g (k + 1)) r) : Ev g r := Ev.step (fun _ => rfl) h
theorem ifTurn_mk (n : Int) {d : Int} (hd : 0 < d) : Ev (fun k => impl_ifTurn.f k (mkT n d).1 (mkT n d).2) (tell (mkT n d)) := by
  unfold impl_ifTurn.f
  refine Ev.bind (IsTurn_val _ _) ?_
  have hl := mkT_low n hd
  generalize mkT n d = z at *
  unfold tell
  by_cases h : z.2 > 1000000
  · rw [if_pos h, decide_eq_false (show ¬ isT z.1 z.2 from fun x => by have := x.1; omega)]
    exact ⟨0, fun _ _ => rfl⟩
  · rw [if_neg h, decide_eq_true (isT_of_low hl (by omega))]
    exact ⟨0, fun _ _ => rfl⟩
theorem isT_bd {a b : Int} (h : isT a b) : (0 ≤ a ∧ a < b) ∧ 0 < b ∧ b ≤ 1000000 := by
  obtain ⟨⟨h1, h2⟩, ⟨h3, h4⟩, _⟩ := h
  omega
theorem isH_bd {p q s : Int} (h : isH p q s) : (0 ≤ p ∧ p < q) ∧ (0 < q ∧ q ≤ 1000) ∧ (-400 ≤ s ∧ s ≤ 400) ∧ isT p q := by
  obtain ⟨h1, h2, h3, h4⟩ := h
  have := isT_bd h1
  exact ⟨this.1, ⟨this.2.1, h2⟩, ⟨h3, h4⟩, h1⟩
/-- bounds of a hand that stands anywhere (relative ones too) -/
def bdH (p q s : Int) : Prop := (0 ≤ p ∧ p < q) ∧ q ≤ 1000000 ∧ -1000 ≤ s ∧ s ≤ 1000
theorem isH_bdH {p q s : Int} (h : isH p q s) : bdH p q s := by have := isH_bd h; unfold bdH; omega
def relT (p q p' q' : Int) : Int × Int := mkT (p * q' - p' * q) (q * q')
theorem rel_bd {p q s p' q' s' : Int} (h : isH p q s) (h' : isH p' q' s') : bdH (relT p q p' q').1 (relT p q p' q').2 (s - s') ∧ low (relT p q p' q').1 (relT p q p' q').2 ∧ 0 < q * q' ∧ q * q' ≤ 1000000 := by
  have b := isH_bd h
  have b' := isH_bd h'
  have m := mul_bd (M := 1000) (N := 1000) (x := q) (y := q') (by omega) (by omega)
  have hp := Int.mul_pos b.2.1.1 b'.2.1.1
  have L := mkT_low (p * q' - p' * q) hp
  have D := Int.le_of_dvd hp (mkT_dvd (p * q' - p' * q))
  unfold relT
  obtain ⟨l1, l2, l3, l4⟩ := id L
  unfold bdH
  exact ⟨⟨⟨l2, l3⟩, by omega, by omega, by omega⟩, L, hp, by omega⟩
theorem irelative_val {p q s p' q' s' : Int} (h : isH p q s) (h' : isH p' q' s') : Ev (fun k => impl_relative.f k p q s p' q' s') ((relT p q p' q').1, (relT p q p' q').2, s - s') := by
  have b := isH_bd h
  have b' := isH_bd h'
  unfold impl_relative.f
  refine Ev.bind (minus_val (a := p) (b := q) (c := p') (d := q') (by omega) (by omega) (by omega) (by omega)) ⟨0, fun _ _ => ?_⟩
  rw [wid (x := s - s') (by omega) (by omega)]
  rfl
theorem meRelative_val {p q s p' q' s' : Int} (h : isH p q s) (h' : isH p' q' s') : Ev (fun k => spec_meRelative.f k p q s p' q' s') ((relT p q p' q').1, (relT p q p' q').2, s - s') := by
  have b := isH_bd h
  have b' := isH_bd h'
  have r := rel_bd h h'
  unfold spec_meRelative.f
  refine Ev.bind (diAdd_val (a := p) (b := q) (c := p') (d := q') (k := -1) (by omega) (by omega) (by omega) (by omega) (by omega)) ⟨0, fun _ _ => ?_⟩
  rw [wid (x := s - s') (by omega) (by omega), show p * q' + -1 * p' * q = p * q' - p' * q by grind]
  unfold tell
  rw [if_neg (by have := r.1.2.1; unfold relT at this; omega)]
  rfl
theorem hat_val {p q s x y : Int} (h : bdH p q s) (hx : 0 ≤ x ∧ x < y) (hy : y ≤ 1000000) : Ev (fun k => impl_Hand_at.f k p q s x y) (placeT p q s x y) := by
  obtain ⟨h1, h2, h3, h4⟩ := h
  have hy0 : 0 < y := by omega
  unfold impl_Hand_at.f
  refine Ev.bind (times_val (a := x) (b := y) (k := s) (by omega) (by omega) (by omega)) ?_
  have L := mkT_low (x * s) hy0
  have D := Int.le_of_dvd hy0 (mkT_dvd (x * s))
  obtain ⟨l1, l2, l3, l4⟩ := L
  refine Ev.bind (plus_val (a := p) (b := q) (c := (mkT (x * s) y).1) (d := (mkT (x * s) y).2) (by omega) (by omega) (by omega) (by omega)) ⟨0, fun _ _ => ?_⟩
  rw [mkT_add_r (x * s) p (by omega) hy0, Int.mul_comm x s]
  rfl
theorem meAt_val {p q s x y : Int} (h : bdH p q s) (hx : 0 ≤ x ∧ x < y) (hy : y ≤ 1000000) : Ev (fun k => spec_meAt.f k p q s x y) (tell (placeT p q s x y)) := by
  obtain ⟨h1, h2, h3, h4⟩ := h
  unfold spec_meAt.f
  exact Ev.bind (diAdd_val (a := p) (b := q) (c := x) (d := y) (k := s) (by omega) (by omega) (by omega) (by omega) (by omega)) ⟨0, fun _ _ => rfl⟩
theorem way_low {p q s x y : Int} (h : bdH p q s) (hy : 0 < y) : low (wayT p q s x y).1 (wayT p q s x y).2 := by
  rw [wayT_eq p s x (by have := h.1; omega) hy]
  exact mkT_low _ (Int.mul_pos hy (by have := h.1; omega))
theorem way_bd {p q s x y : Int} (h : bdH p q s) (hx : 0 ≤ x ∧ x < y) (hy : y ≤ 1000) : (0 ≤ (wayT p q s x y).1 ∧ (wayT p q s x y).1 < (wayT p q s x y).2) ∧ (wayT p q s x y).2 ≤ 1000000000 := by
  have L := way_low (x := x) h (show 0 < y by omega)
  obtain ⟨l1, l2, l3, l4⟩ := L
  refine ⟨⟨l2, l3⟩, ?_⟩
  obtain ⟨h1, h2, _⟩ := h
  have hY := Int.mul_pos (show 0 < y by omega) (show 0 < q by omega)
  have m := mul_bd (M := 1000) (N := 1000000) (x := y) (y := q) (by omega) (by omega)
  rw [wayT_eq p s x (show 0 < q by omega) (by omega)]
  have := Int.le_of_dvd hY (mkT_dvd (if s < 0 then (x * q - p * y) * (-1) else x * q - p * y))
  omega
theorem timesAt_val {p q s x y : Int} (h : bdH p q s) (hs : s ≠ 0) (hx : 0 ≤ x ∧ x < y) (hy : y ≤ 1000) : Ev (fun k => impl_Hand_timesAt.f k p q s x y) (timesT p q s x y) := by
  have B := way_bd h hx hy
  obtain ⟨h1, h2, h3, h4⟩ := id h
  unfold impl_Hand_timesAt.f
  refine Ev.bind (minus_val (a := x) (b := y) (c := p) (d := q) (by omega) (by omega) (by omega) (by omega)) ?_
  have key : ∀ n : Int, n = (s.natAbs : Int) → Ev (fun k => (impl_roots.f k (wayT p q s x y).1 (wayT p q s x y).2 n).bind fun b => (impl_ifTurns.f b.1 b.2).bind fun c => some (c.1, c.2)) (timesT p q s x y) := by
    rintro n rfl
    exact rooted_val (by omega) (by omega) (by omega)
  have hY := Int.mul_pos (show 0 < y by omega) (show 0 < q by omega)
  have m := mul_bd (M := 1000) (N := 1000000) (x := y) (y := q) (by omega) (by omega)
  have D := Int.le_of_dvd hY (mkT_dvd (x * q - p * y))
  have L := mkT_low (x * q - p * y) hY
  obtain ⟨l1, l2, l3, l4⟩ := L
  by_cases c : s < 0
  · simp only [if_pos c]
    refine Ev.bind (mirror_val (by omega) (by omega)) ?_
    have k2 := key (wrap64 (-s)) (by rw [wid (by omega) (by omega)]; omega)
    unfold wayT at k2
    rw [if_pos c] at k2
    exact k2
  · simp only [if_neg c]
    have k2 := key s (by omega)
    unfold wayT at k2
    rw [if_neg c] at k2
    exact k2
theorem meTimes_loop {n d : Int} {k : Nat} (hn : -1000000000000 ≤ n ∧ n ≤ 1000000000000) (hd : 0 < d ∧ d ≤ 1000000000000) (hk : 0 < k ∧ k ≤ 1000) (e : Nat) : ∀ i : Nat, i + e = k → allT (rootsL n d k i) = true →
    Ev (fun q => spec_meTimes.l0 q k (rootsL n d k i) i n d) (if allT (rootsL n d k k) = true then (rootsL n d k k, true) else ([], false)) := by
  induction e with
  | zero =>
    intro i hi ha
    refine ⟨1, fun q hq => ?_⟩
    obtain ⟨q, rfl⟩ : ∃ m, q = m + 1 := ⟨q - 1, by omega⟩
    simp only [spec_meTimes.l0]
    obtain rfl : i = k := by omega
    rw [if_neg (by omega), if_pos ha]
  | succ e ih =>
    intro i hi ha
    obtain ⟨b1, b2⟩ := root_bd (i := i) hn hd (by omega) (show 0 < k ∧ k ≤ 1000 by omega)
    obtain ⟨K2, h2⟩ := diMake_val (n := n + (i : Int) * d) b2.1 (by omega)
    have hs : allT (rootsL n d k (i + 1)) = decide ((mkT (n + (i : Int) * d) (d * (k : Int))).2 ≤ 1000000) := by
      rw [rootsL_succ, allT_snoc, ha, Bool.true_and]
      exact decide_eq_decide.mpr (isT_mk _ b2.1)
    by_cases hb : (mkT (n + (i : Int) * d) (d * (k : Int))).2 ≤ 1000000
    · obtain ⟨K1, h1⟩ := ih (i + 1) (by omega) (by rw [hs, decide_eq_true hb])
      refine ⟨max K1 K2 + 1, fun q hq => ?_⟩
      obtain ⟨q, rfl⟩ : ∃ m, q = m + 1 := ⟨q - 1, by omega⟩
      have e1 := h1 q (by omega)
      have e2 := h2 q (by omega)
      dsimp only at e1 e2
      simp only [spec_meTimes.l0]
      rw [if_pos (by omega), wid (x := (i : Int) * d) (by omega) (by omega), wid (x := n + (i : Int) * d) (by omega) (by omega), wid (x := d * (k : Int)) (by omega) (by omega), e2]
      simp only [Option.bind_some, tell]
      rw [if_neg (show ¬ (mkT (n + (i : Int) * d) (d * (k : Int))).2 > 1000000 by omega)]
      dsimp only
      rw [if_pos rfl, rootsL_length, if_pos (by omega), wid (x := (i : Int) + 1) (by omega) (by omega), ← rootsL_succ]
      exact e1
    · refine ⟨K2 + 1, fun q hq => ?_⟩
      obtain ⟨q, rfl⟩ : ∃ m, q = m + 1 := ⟨q - 1, by omega⟩
      have e2 := h2 q (by omega)
      dsimp only at e2
      simp only [spec_meTimes.l0]
      rw [if_pos (by omega), wid (x := (i : Int) * d) (by omega) (by omega), wid (x := n + (i : Int) * d) (by omega) (by omega), wid (x := d * (k : Int)) (by omega) (by omega), e2]
      simp only [Option.bind_some, tell]
      rw [if_pos (show (mkT (n + (i : Int) * d) (d * (k : Int))).2 > 1000000 by omega)]
      have := allT_prefix n d k (show i + 1 ≤ k by omega) (by rw [hs, decide_eq_false hb])
      rw [if_neg (show ¬ allT (rootsL n d k k) = true by rw [this]; simp)]
      rfl
theorem meTimes_j {n d m : Int} {k : Nat} (hm : m = (k : Int)) (hn : -1000000000000 ≤ n ∧ n ≤ 1000000000000) (hd : 0 < d ∧ d ≤ 1000000000000) (hk : 0 < k ∧ k ≤ 1000) : Ev (fun q => spec_meTimes.j0 q m n d) (if allT (rootsL n d k k) = true then (rootsL n d k k, true) else ([], false)) := by
  subst hm
  refine Ev.up ?_
  simp only [spec_meTimes.j0]
  exact meTimes_loop hn hd hk k 0 (by omega) rfl
theorem meTimes_val {p q s x y : Int} (h : bdH p q s) (hs : s ≠ 0) (hx : 0 ≤ x ∧ x < y) (hy : y ≤ 1000) : Ev (fun k => spec_meTimes.f k p q s x y) (timesT p q s x y) := by
  have B := way_bd h hx hy
  have WL := way_low (x := x) h (show 0 < y by omega)
  obtain ⟨h1, h2, h3, h4⟩ := id h
  have hY := Int.mul_pos (show 0 < y by omega) (show 0 < q by omega)
  have m := mul_bd (M := 1000) (N := 1000000) (x := y) (y := q) (by omega) (by omega)
  have D := Int.le_of_dvd hY (mkT_dvd (x * q - p * y))
  have L := mkT_low (x * q - p * y) hY
  obtain ⟨l1, l2, l3, l4⟩ := id L
  unfold spec_meTimes.f
  refine Ev.bind (diAdd_val (a := x) (b := y) (c := p) (d := q) (k := -1) (by omega) (by omega) (by omega) (by omega) (by omega)) ?_
  rw [show x * q + -1 * p * y = x * q - p * y by grind]
  unfold tell
  by_cases big : (mkT (x * q - p * y) (y * q)).2 > 1000000
  · rw [if_pos big]
    refine ⟨0, fun _ _ => ?_⟩
    have hw2 : (wayT p q s x y).2 > 1000000 := by
      unfold wayT
      by_cases c : s < 0
      · rw [if_pos c]
        have e := mkT_low ((mkT (x * q - p * y) (y * q)).1 * (-1)) l1
        have dv : (mkT (x * q - p * y) (y * q)).2 ∣ (mkT ((mkT (x * q - p * y) (y * q)).1 * (-1)) (mkT (x * q - p * y) (y * q)).2).2 := by
          have e1 := mkT_mul ((mkT (x * q - p * y) (y * q)).1 * (-1)) (-1) l1
          rw [Int.mul_assoc, show (-1 : Int) * -1 = 1 from rfl, Int.mul_one, mkT_id L] at e1
          have dv3 := mkT_dvd ((mkT ((mkT (x * q - p * y) (y * q)).1 * (-1)) (mkT (x * q - p * y) (y * q)).2).1 * (-1)) (d := (mkT ((mkT (x * q - p * y) (y * q)).1 * (-1)) (mkT (x * q - p * y) (y * q)).2).2)
          rw [e1] at dv3
          exact dv3
        have := Int.le_of_dvd e.1 dv
        omega
      · rw [if_neg c]; exact big
    have hz := roots_none WL hw2 (show 0 < s.natAbs by omega)
    unfold timesT timesL
    rw [hz]
    rfl
  · rw [if_neg big]
    simp only [if_true]
    by_cases c : s < 0
    · simp only [if_pos c]
      refine Ev.bind (diMirror_val (by omega) (by omega)) ?_
      have k2 := meTimes_j (n := (wayT p q s x y).1) (d := (wayT p q s x y).2) (m := wrap64 (-s)) (k := s.natAbs) (by rw [wid (by omega) (by omega)]; omega) (by omega) (by omega) (by omega)
      unfold timesT timesL
      unfold wayT at k2 ⊢
      rw [if_pos c] at k2 ⊢
      exact k2
    · simp only [if_neg c]
      have k2 := meTimes_j (n := (wayT p q s x y).1) (d := (wayT p q s x y).2) (m := s) (k := s.natAbs) (by omega) (by omega) (by omega) (by omega)
      unfold timesT timesL
      unfold wayT at k2 ⊢
      rw [if_neg c] at k2 ⊢
      exact k2
theorem all_twoH (a b c d e f : Int) : impl_areHands.f ([(⟨(⟨a, b⟩ : S25), c⟩ : S27), (⟨(⟨d, e⟩ : S25), f⟩ : S27)] : List S27) = some (decide (isH a b c ∧ isH d e f)) := by
  unfold impl_areHands.f
  simp [Bool.decide_and]
theorem Ev.const {α : Type} {r : α} : Ev (fun _ => some r) r := ⟨0, fun _ _ => rfl⟩
def aheadL (p q s p' q' s' x y : Int) : List S25 × Bool := if (isH p q s ∧ isH p' q' s') ∧ s ≠ s' then timesT (relT p q p' q').1 (relT p q p' q').2 (s - s') x y else ([], false)
theorem iaheadTimes_val (p q s p' q' s' : Int) {x y : Int} (hx : 0 ≤ x ∧ x < y) (hy : y ≤ 1000) : Ev (fun k => impl_aheadTimes.f k p q s p' q' s' x y) (aheadL p q s p' q' s' x y) := by
  unfold impl_aheadTimes.f aheadL
  simp only [all_twoH, Option.bind_some]
  by_cases h : isH p q s ∧ isH p' q' s'
  · simp only [decide_eq_true h, if_true]
    refine Ev.up ?_
    simp only [impl_aheadTimes.j0]
    by_cases e : s = s'
    · rw [if_neg (fun z => z.2 e)]
      simp only [beq_iff_eq.mpr e, if_true]
      exact Ev.const
    · rw [if_pos ⟨h, e⟩]
      simp only [beq_eq_false_iff_ne.mpr e, Bool.false_eq_true, if_false]
      have r := rel_bd h.1 h.2
      refine Ev.bind (irelative_val h.1 h.2) ?_
      exact Ev.bind (timesAt_val r.1 (show s - s' ≠ 0 by omega) hx hy) Ev.const
  · rw [if_neg (fun z => h z.1)]
    simp only [decide_eq_false h, Bool.false_eq_true, if_false]
    refine Ev.up ?_
    simp only [impl_aheadTimes.j0, if_true]
    exact Ev.const
theorem meGood_val (p q s : Int) : Ev (fun k => spec_meGood.f k p q s) (decide (isH p q s)) := by
  unfold spec_meGood.f
  refine Ev.bind (diGood_val p q) ⟨0, fun _ _ => ?_⟩
  unfold isH
  simp only [l1In_val, Option.bind_some]
  by_cases h : isT p q
  · by_cases h2 : q ≤ 1000
    · by_cases h3 : -400 ≤ s ∧ s ≤ 400
      · simp [h, h2, h3]
      · simp [h, h2, h3]
    · simp [h, h2]
  · simp [h]
theorem meTwo_val (p q s p' q' s' : Int) : Ev (fun k => spec_meTwo.f k p q s p' q' s') (decide (isH p q s ∧ isH p' q' s')) := by
  unfold spec_meTwo.f
  refine Ev.bind (meGood_val p q s) ?_
  by_cases h : isH p q s
  · simp only [decide_eq_true h, if_true]
    refine Ev.bind (meGood_val p' q' s') ⟨0, fun _ _ => ?_⟩
    simp [h]
  · simp only [decide_eq_false h, Bool.false_eq_true, if_false]
    exact ⟨0, fun _ _ => by simp [h]⟩
theorem meAsked_val (p q s p' q' s' : Int) : Ev (fun k => spec_meAsked.f k p q s p' q' s') (decide ((isH p q s ∧ isH p' q' s') ∧ s ≠ s')) := by
  unfold spec_meAsked.f
  refine Ev.bind (meTwo_val p q s p' q' s') ⟨0, fun _ _ => ?_⟩
  by_cases h : isH p q s ∧ isH p' q' s'
  · by_cases e : s = s'
    · simp [h, e]
    · simp [h, e]
  · simp only [decide_eq_false h, Bool.false_eq_true, if_false]
    rw [decide_eq_false (fun z => h z.1)]
theorem isT01 : isT 0 1 := by unfold isT gI; decide
theorem isT12 : isT 1 2 := by unfold isT gI; decide
theorem iMeetTimes_val (p q s p' q' s' : Int) : Ev (fun k => impl_MeetTimes.f k p q s p' q' s') (aheadL p q s p' q' s' 0 1) := by
  unfold impl_MeetTimes.f
  exact Ev.bind (iaheadTimes_val p q s p' q' s' (by omega) (by omega)) Ev.const
theorem sMeetTimes_val (p q s p' q' s' : Int) : Ev (fun k => spec_MeetTimes.f k p q s p' q' s') (aheadL p q s p' q' s' 0 1) := by
  unfold spec_MeetTimes.f aheadL
  refine Ev.bind (meAsked_val p q s p' q' s') ?_
  by_cases h : (isH p q s ∧ isH p' q' s') ∧ s ≠ s'
  · rw [if_pos h]
    simp only [decide_eq_true h, if_true]
    have r := rel_bd h.1.1 h.1.2
    refine Ev.bind (meRelative_val h.1.1 h.1.2) ?_
    exact Ev.bind (meTimes_val r.1 (show s - s' ≠ 0 by have := h.2; omega) (x := 0) (y := 1) (by omega) (by omega)) Ev.const
  · rw [if_neg h]
    simp only [decide_eq_false h, Bool.false_eq_true, if_false]
    exact Ev.const
def handT (p q s x y : Int) : Int × Int × Bool := if isH p q s ∧ isT x y then tell (placeT p q s x y) else (0, 0, false)
theorem iHandAt_val (p q s x y : Int) : Ev (fun k => impl_HandAt.f k p q s x y) (handT p q s x y) := by
  unfold impl_HandAt.f handT
  refine Ev.bind (IsHand_val p q s) ?_
  by_cases h : isH p q s
  · simp only [decide_eq_true h, if_true]
    refine Ev.bind (IsTurn_val x y) ?_
    refine Ev.up ?_
    simp only [impl_HandAt.j0]
    by_cases h2 : isT x y
    · rw [if_pos ⟨h, h2⟩]
      simp only [decide_eq_true h2, Bool.not_true, Bool.false_eq_true, if_false]
      have b := isT_bd h2
      refine Ev.bind (hat_val (isH_bdH h) b.1 b.2.2) ?_
      refine Ev.bind (ifTurn_mk _ (Int.mul_pos (isH_bd h).2.1.1 b.2.1)) Ev.const
    · rw [if_neg (fun z => h2 z.2)]
      simp only [decide_eq_false h2, Bool.not_false, if_true]
      exact Ev.const
  · rw [if_neg (fun z => h z.1)]
    simp only [decide_eq_false h, Bool.false_eq_true, if_false]
    refine Ev.up ?_
    simp only [impl_HandAt.j0, if_true]
    exact Ev.const
theorem rdT_at (xs : List S25) (i : Nat) (h : i < xs.length) : rd_T25 xs (i : Int) = xs[i] := by
  unfold rd_T25
  rw [show (i : Int).toNat = i by omega, List.getD_eq_getElem?_getD, List.getElem?_eq_getElem h]
  rfl
theorem kTurns_loop (xs : List S25) (hl : xs.length ≤ 1000000) (g : Nat) : ∀ i : Nat, i + g = xs.length → Ev (fun k => laws_kTurns.l0 k xs xs (xs.length : Int) i) true := by
  induction g with
  | zero =>
    intro i hi
    refine Ev.up ?_
    simp only [laws_kTurns.l0]
    simp only [if_neg (show ¬ (i : Int) < (xs.length : Int) by omega)]
    exact Ev.const
  | succ g ih =>
    intro i hi
    refine Ev.up ?_
    simp only [laws_kTurns.l0]
    simp only [if_pos (show (i : Int) < (xs.length : Int) by omega), if_pos (show 0 ≤ (i : Int) by omega), beq_self_eq_true, Bool.not_true, Bool.or_false, Bool.false_eq_true, if_false]
    rw [wid (x := (i : Int) + 1) (by omega) (by omega)]
    exact ih (i + 1) (by omega)
theorem kTurns_val (xs : List S25) (hl : xs.length ≤ 1000000) : Ev (fun k => laws_kTurns.f k xs xs) true := by
  unfold laws_kTurns.f
  simp only [if_true]
  exact kTurns_loop xs hl xs.length 0 (by omega)
theorem kRises_loop (xs : List S25) (hl : xs.length ≤ 1000000) (hp : xs.Pairwise lessT2) (ht : ∀ t ∈ xs, isT t.f0 t.f1) (g : Nat) : ∀ i : Nat, 1 ≤ i → xs.length ≤ i + g → Ev (fun k => laws_kRises.l0 k xs i) true := by
  induction g with
  | zero =>
    intro i h1 hi
    refine Ev.up ?_
    simp only [laws_kRises.l0]
    simp only [if_neg (show ¬ (i : Int) < (xs.length : Int) by omega)]
    exact Ev.const
  | succ g ih =>
    intro i h1 hi
    refine Ev.up ?_
    simp only [laws_kRises.l0]
    by_cases c : i < xs.length
    · have e : wrap64 ((i : Int) - 1) = ((i - 1 : Nat) : Int) := by rw [wid (by omega) (by omega)]; omega
      have r := List.pairwise_iff_getElem.1 hp (i - 1) i (by omega) c (by omega)
      have b1 := isT_bd (ht _ (List.getElem_mem (show i - 1 < xs.length by omega)))
      have b2 := isT_bd (ht _ (List.getElem_mem c))
      have m1 := mul_bd (M := 1000000) (N := 1000000) (x := (xs[i - 1]'(by omega)).f0) (y := (xs[i]).f1) (by omega) (by omega)
      have m2 := mul_bd (M := 1000000) (N := 1000000) (x := (xs[i]).f0) (y := (xs[i - 1]'(by omega)).f1) (by omega) (by omega)
      simp only [if_pos (show (i : Int) < (xs.length : Int) by omega), if_pos (show 0 ≤ (i : Int) by omega), e, if_pos (show 0 ≤ ((i - 1 : Nat) : Int) by omega), if_pos (show ((i - 1 : Nat) : Int) < (xs.length : Int) by omega), rdT_at xs (i - 1) (by omega), rdT_at xs i c]
      unfold lessT2 at r
      rw [wid (x := (xs[i - 1]'(by omega)).f0 * (xs[i]).f1) (by omega) (by omega), wid (x := (xs[i]).f0 * (xs[i - 1]'(by omega)).f1) (by omega) (by omega)]
      simp only [if_neg (show ¬ (xs[i - 1]'(by omega)).f0 * (xs[i]).f1 ≥ (xs[i]).f0 * (xs[i - 1]'(by omega)).f1 by omega)]
      rw [wid (x := (i : Int) + 1) (by omega) (by omega)]
      exact ih (i + 1) (by omega) (by omega)
    · simp only [if_neg (show ¬ (i : Int) < (xs.length : Int) by omega)]
      exact Ev.const
theorem kRises_val (xs : List S25) (hl : xs.length ≤ 1000000) (hp : xs.Pairwise lessT2) (ht : ∀ t ∈ xs, isT t.f0 t.f1) : Ev (fun k => laws_kRises.f k xs) true := by
  unfold laws_kRises.f
  exact kRises_loop xs hl hp ht xs.length 1 (by omega) (by omega)
instance eqT_dec : DecidableEq S25 := fun a b => decidable_of_iff (a.f0 = b.f0 ∧ a.f1 = b.f1) ⟨fun h => by cases a; cases b; simp at h; simp [h], fun h => by rw [h]; exact ⟨rfl, rfl⟩⟩
theorem eqT2 (t : S25) (a b : Int) : (t.f0 == a && (t.f1 == b)) = decide (t = (⟨a, b⟩ : S25)) := by
  cases t with
  | mk x y => exact Bool.eq_iff_iff.mpr (by simp)
theorem kIn_loop (xs : List S25) (hl : xs.length ≤ 1000000) (a b : Int) (g : Nat) : ∀ i : Nat, i + g = xs.length → Ev (fun k => laws_kIn.l0 k xs (xs.length : Int) i a b) (decide ((⟨a, b⟩ : S25) ∈ xs.drop i)) := by
  induction g with
  | zero =>
    intro i hi
    refine Ev.up ?_
    simp only [laws_kIn.l0]
    simp only [if_neg (show ¬ (i : Int) < (xs.length : Int) by omega)]
    exact ⟨0, fun _ _ => by rw [List.drop_of_length_le (by omega)]; rfl⟩
  | succ g ih =>
    intro i hi
    have hi2 : i < xs.length := by omega
    refine Ev.up ?_
    simp only [laws_kIn.l0]
    simp only [if_pos (show (i : Int) < (xs.length : Int) by omega), if_pos (show 0 ≤ (i : Int) by omega), rdT_at xs i hi2, eqT2]
    rw [List.drop_eq_getElem_cons hi2]
    by_cases c : xs[i] = (⟨a, b⟩ : S25)
    · simp only [decide_eq_true c, if_true]
      exact ⟨0, fun _ _ => by rw [decide_eq_true (by rw [c]; exact List.mem_cons_self)]⟩
    · simp only [decide_eq_false c, Bool.false_eq_true, if_false]
      rw [wid (x := (i : Int) + 1) (by omega) (by omega)]
      have h := ih (i + 1) (by omega)
      have e : decide ((⟨a, b⟩ : S25) ∈ xs[i] :: xs.drop (i + 1)) = decide ((⟨a, b⟩ : S25) ∈ xs.drop (i + 1)) := decide_eq_decide.mpr ⟨fun m => by rcases List.mem_cons.1 m with m | m; exact absurd m.symm c; exact m, fun m => List.mem_cons_of_mem _ m⟩
      rw [e]
      exact h
theorem kIn_val (xs : List S25) (hl : xs.length ≤ 1000000) (a b : Int) : Ev (fun k => laws_kIn.f k xs a b) (decide ((⟨a, b⟩ : S25) ∈ xs)) := by
  unfold laws_kIn.f
  exact kIn_loop xs hl a b xs.length 0 (by omega)
theorem timesT_yes {p q s x y : Int} {L : List S25} {b : Bool} (h : timesT p q s x y = (L, b)) : L.length ≤ s.natAbs ∧ (b = true → bdH p q s → s ≠ 0 → low x y → L = timesL p q s x y ∧ L.length = s.natAbs ∧ L.Pairwise lessT2 ∧ (∀ t ∈ L, isT t.f0 t.f1) ∧ ∀ t ∈ L, placeT p q s t.f0 t.f1 = (x, y)) := by
  unfold timesT at h
  by_cases c : allT (timesL p q s x y) = true
  · rw [if_pos c] at h
    simp only [Prod.mk.injEq] at h
    obtain ⟨rfl, rfl⟩ := h
    have hl : (timesL p q s x y).length = s.natAbs := by unfold timesL; rw [rootsL_length]
    refine ⟨by omega, fun _ hb hs hL => ⟨rfl, hl, ?_, fun t ht => of_decide_eq_true (List.all_eq_true.1 c t ht), at_times (by have := hb.1; omega) hL hs⟩⟩
    have W := way_low (x := x) hb hL.1
    exact roots_rise ⟨W.2.1, W.2.2.1⟩ (by omega)
  · rw [if_neg c] at h
    simp only [Prod.mk.injEq] at h
    obtain ⟨rfl, rfl⟩ := h
    exact ⟨by simp, fun x => by simp at x⟩
theorem aheadL_yes {p q s p' q' s' x y : Int} {L : List S25} {b : Bool} (hL : low x y) (h : aheadL p q s p' q' s' x y = (L, b)) : L.length ≤ 800 ∧ (b = true → (isH p q s ∧ isH p' q' s') ∧ s ≠ s' ∧ (L.length : Int) = ((s - s').natAbs : Int) ∧ L.Pairwise lessT2 ∧ (∀ t ∈ L, isT t.f0 t.f1) ∧ ∀ t ∈ L, placeT (relT p q p' q').1 (relT p q p' q').2 (s - s') t.f0 t.f1 = (x, y)) := by
  unfold aheadL at h
  by_cases c : (isH p q s ∧ isH p' q' s') ∧ s ≠ s'
  · rw [if_pos c] at h
    have r := rel_bd c.1.1 c.1.2
    have b1 := isH_bd c.1.1
    have b2 := isH_bd c.1.2
    obtain ⟨h1, h2⟩ := timesT_yes h
    refine ⟨by omega, fun hb => ?_⟩
    obtain ⟨_, e2, e3, e4, e5⟩ := h2 hb r.1 (by have := c.2; omega) hL
    exact ⟨c.1, c.2, by omega, e3, e4, e5⟩
  · rw [if_neg c] at h
    simp only [Prod.mk.injEq] at h
    obtain ⟨rfl, rfl⟩ := h
    exact ⟨by simp, fun x => by simp at x⟩
theorem kAbs_val {x : Int} (h : -1000 ≤ x ∧ x ≤ 1000) : laws_kAbs.f x = some (x.natAbs : Int) := by
  unfold laws_kAbs.f
  by_cases c : x < 0
  · rw [if_pos c, wid (by omega) (by omega)]; congr 1; omega
  · rw [if_neg c]; congr 1; omega
theorem strict_eqG {α : Type} (lt : α → α → Prop) (asym : ∀ a b, lt a b → lt b a → False) : ∀ (xs ys : List α), xs.Pairwise lt → ys.Pairwise lt → (∀ a, a ∈ xs ↔ a ∈ ys) → xs = ys
  | [], [], _, _, _ => rfl
  | [], y :: ys, _, _, h => absurd ((h y).2 (List.mem_cons_self ..)) (by simp)
  | x :: xs, [], _, _, h => absurd ((h x).1 (List.mem_cons_self ..)) (by simp)
  | x :: xs, y :: ys, hx, hy, h => by
    rw [List.pairwise_cons] at hx hy
    have e : x = y := by
      have h1 := (h x).1 (List.mem_cons_self ..)
      have h2 := (h y).2 (List.mem_cons_self ..)
      rw [List.mem_cons] at h1 h2
      rcases h1 with rfl | h1
      · rfl
      · rcases h2 with rfl | h2
        · rfl
        · exact (asym _ _ (hx.1 y h2) (hy.1 x h1)).elim
    subst e
    rw [strict_eqG lt asym xs ys hx.2 hy.2 fun a => ?_]
    have := h a
    rw [List.mem_cons, List.mem_cons] at this
    constructor
    · intro ha
      rcases this.1 (.inr ha) with rfl | hb
      · exact (asym _ _ (hx.1 _ ha) (hx.1 _ ha)).elim
      · exact hb
    · intro ha
      rcases this.2 (.inr ha) with rfl | hb
      · exact (asym _ _ (hy.1 _ ha) (hy.1 _ ha)).elim
      · exact hb
def leP (a b : Int × Int) : Prop := a.1 * b.2 ≤ b.1 * a.2
def ltP (a b : Int × Int) : Prop := a.1 * b.2 < b.1 * a.2
theorem ltP_of {a b : Int × Int} (ha : low a.1 a.2) (hb : low b.1 b.2) (h : leP a b) (hne : a ≠ b) : ltP a b := by
  unfold leP at h
  unfold ltP
  rcases Int.lt_or_eq_of_le h with h | h
  · exact h
  · have := low_ext ha hb h
    exact absurd (Prod.ext this.1 this.2) hne
theorem le_ltP {a b c : Int × Int} (ha : 0 < a.2) (hb : 0 < b.2) (hc : 0 < c.2) (h : leP a b) (k : ltP b c) : ltP a c := by
  unfold leP at h
  unfold ltP at k ⊢
  refine Int.lt_of_mul_lt_mul_right (a := b.2) ?_ (Int.le_of_lt hb)
  have h1 := Int.mul_le_mul_of_nonneg_right h (Int.le_of_lt hc)
  have h2 := Int.mul_lt_mul_of_pos_right k ha
  have e1 : a.1 * c.2 * b.2 = a.1 * b.2 * c.2 := by grind
  have e2 : b.1 * a.2 * c.2 = b.1 * c.2 * a.2 := by grind
  have e3 : c.1 * a.2 * b.2 = c.1 * b.2 * a.2 := by grind
  omega
theorem getP_of {d : Array (Int × Int)} {i : Nat} (hi : i < d.size) : d[i]! = d[i] := getElem!_pos d i hi
theorem compact_strictP (zs : List (Int × Int)) (hs : zs.Pairwise leP) (hp : ∀ a ∈ zs, low a.1 a.2) : (Lib.compact zs).Pairwise ltP := by
  unfold Lib.compact Lib.compactUpTo
  rw [List.pairwise_map]
  have hg : ∀ i j : Nat, i ≤ j → j < zs.length → leP zs.toArray[i]! zs.toArray[j]! := by
    intro i j hij hj
    rw [getP_of (by simp; omega), getP_of (by simp; omega)]
    by_cases e : i = j
    · subst e; exact Int.le_refl _
    · rw [List.pairwise_iff_getElem] at hs
      simpa using hs i j (by omega) hj (by omega)
  have hl : ∀ i : Nat, i < zs.length → low (zs.toArray[i]!).1 (zs.toArray[i]!).2 := by
    intro i hi
    rw [getP_of (by simpa using hi)]
    exact hp _ (by simp)
  rw [List.pairwise_filter]
  refine List.Pairwise.imp_of_mem ?_ (List.pairwise_lt_range)
  intro i j hi hj hlt _ kj
  have hj' : j < zs.length := by simpa using hj
  unfold Lib.keeps at kj
  rcases of_decide_eq_true kj with h0 | hne
  · omega
  · have a := hg i (j - 1) (by omega) (by omega)
    have b := hg (j - 1) j (by omega) hj'
    exact le_ltP (hl i (by omega)).1 (hl (j - 1) (by omega)).1 (hl j hj').1 a (ltP_of (hl (j - 1) (by omega)) (hl j hj') b (fun e => hne e.symm))
theorem compact_memP (zs : List (Int × Int)) (a : Int × Int) : a ∈ Lib.compact zs ↔ a ∈ zs := by
  unfold Lib.compact Lib.compactUpTo
  constructor
  · intro h
    obtain ⟨i, hi, rfl⟩ := List.mem_map.1 h
    have hi' : i < zs.length := by simpa using (List.mem_filter.1 hi).1
    rw [getP_of (by simpa using hi')]
    simp
  · intro h
    have key : ∀ (n : Nat), n < zs.length → zs.toArray[n]! = a → ∃ m, m < zs.length ∧ zs.toArray[m]! = a ∧ Lib.keeps zs.toArray m = true := by
      intro n
      induction n with
      | zero => intro hn he; exact ⟨0, hn, he, by unfold Lib.keeps; simp⟩
      | succ n ih =>
        intro hn he
        by_cases e : zs.toArray[n]! = a
        · exact ih (by omega) e
        · exact ⟨n + 1, hn, he, by unfold Lib.keeps; rw [decide_eq_true_eq]; right; rw [he]; simp only [Nat.add_sub_cancel]; exact fun c => e c.symm⟩
    obtain ⟨n, hn, he⟩ := List.getElem_of_mem h
    obtain ⟨m, hm, em, km⟩ := key n hn (by rw [getP_of (by simpa using hn)]; simpa using he)
    exact List.mem_map.2 ⟨m, List.mem_filter.2 ⟨by simpa using hm, km⟩, em⟩
theorem sortP_le (l : List S25) (h : ∀ t ∈ l, isT t.f0 t.f1) : (sortP (l.map pairOf)).Pairwise leP := by
  obtain ⟨ts, hts⟩ : ∃ ts : List { t : S25 // isT t.f0 t.f1 }, ts.map (fun x => x.1) = l := ⟨l.pmap (fun t h => ⟨t, h⟩) h, by rw [List.map_pmap]; exact List.pmap_eq_self.2 (fun _ _ => rfl)⟩
  subst hts
  have e0 : (ts.map fun x => x.1).map pairOf = ts.map fun x => pairOf x.1 := by rw [List.map_map]; rfl
  have e1 : (ts.mergeSort fun x y => decide (x.1.f0 * y.1.f1 ≤ y.1.f0 * x.1.f1)).map (fun x => pairOf x.1) = sortP (ts.map fun x => pairOf x.1) := by
    unfold sortP
    exact List.map_mergeSort fun a _ b _ => rfl
  rw [e0, ← e1, List.pairwise_map]
  have := List.pairwise_mergeSort (le := fun x y : { t : S25 // isT t.f0 t.f1 } => decide (x.1.f0 * y.1.f1 ≤ y.1.f0 * x.1.f1)) (fun a b c h1 h2 => by
    simp only [decide_eq_true_eq] at h1 h2 ⊢
    have pa := (isT_bd a.2).2.1
    have pb := (isT_bd b.2).2.1
    have pc := (isT_bd c.2).2.1
    refine Int.le_of_mul_le_mul_right (a := b.1.f1) ?_ pb
    have k1 := Int.mul_le_mul_of_nonneg_right h1 (Int.le_of_lt pc)
    have k2 := Int.mul_le_mul_of_nonneg_right h2 (Int.le_of_lt pa)
    have e1 : a.1.f0 * c.1.f1 * b.1.f1 = a.1.f0 * b.1.f1 * c.1.f1 := by grind
    have e2 : b.1.f0 * a.1.f1 * c.1.f1 = b.1.f0 * c.1.f1 * a.1.f1 := by grind
    have e3 : c.1.f0 * a.1.f1 * b.1.f1 = c.1.f0 * b.1.f1 * a.1.f1 := by grind
    omega) (fun a b => by simp only [Bool.or_eq_true, decide_eq_true_eq]; omega) ts
  exact this.imp (fun h => of_decide_eq_true h)
theorem sortT_mem (l : List S25) (t : S25) : t ∈ sortT l ↔ t ∈ l := by
  unfold sortT sortP
  rw [List.mem_map]
  constructor
  · rintro ⟨p, hp, rfl⟩
    rw [compact_memP, List.mem_mergeSort] at hp
    obtain ⟨u, hu, rfl⟩ := List.mem_map.1 hp
    exact hu
  · intro h
    exact ⟨pairOf t, by rw [compact_memP, List.mem_mergeSort]; exact List.mem_map.2 ⟨t, h, rfl⟩, rfl⟩
theorem sortT_strict (l : List S25) (h : ∀ t ∈ l, isT t.f0 t.f1) : (sortT l).Pairwise lessT2 := by
  unfold sortT
  rw [List.pairwise_map]
  refine List.Pairwise.imp ?_ (compact_strictP _ (sortP_le l h) (fun a ha => ?_))
  · intro a b hab; exact hab
  · unfold sortP at ha
    rw [List.mem_mergeSort] at ha
    obtain ⟨u, hu, rfl⟩ := List.mem_map.1 ha
    exact isT_low (h u hu)
/-- A turn put into an increasing list, once. -/
def insS (t : S25) : List S25 → List S25
  | [] => [t]
  | x :: xs => if x.f0 * t.f1 < t.f0 * x.f1 then x :: insS t xs else if x = t then x :: xs else t :: x :: xs
theorem insS_mem (t : S25) : ∀ (l : List S25) (u : S25), u ∈ insS t l ↔ u = t ∨ u ∈ l
  | [], u => by simp [insS]
  | x :: xs, u => by
    unfold insS
    split
    · rw [List.mem_cons, insS_mem t xs u, List.mem_cons]
      constructor
      · rintro (h | h | h)
        · exact .inr (.inl h)
        · exact .inl h
        · exact .inr (.inr h)
      · rintro (h | h | h)
        · exact .inr (.inl h)
        · exact .inl h
        · exact .inr (.inr h)
    · split
      · rename_i _ e
        constructor
        · exact fun h => .inr h
        · rintro (h | h)
          · rw [h, ← e]; exact List.mem_cons_self
          · exact h
      · rw [List.mem_cons]
theorem insS_strict (t : S25) (ht : isT t.f0 t.f1) : ∀ l : List S25, (∀ u ∈ l, isT u.f0 u.f1) → l.Pairwise lessT2 → (insS t l).Pairwise lessT2
  | [], _, _ => by unfold insS; exact List.pairwise_singleton _ _
  | x :: xs, hT, hp => by
    have hp2 := List.pairwise_cons.1 hp
    have hx := hT x List.mem_cons_self
    unfold insS
    split
    · rename_i h
      refine List.pairwise_cons.2 ⟨fun u hu => ?_, insS_strict t ht xs (fun u hu => hT u (List.mem_cons_of_mem _ hu)) hp2.2⟩
      rcases (insS_mem t xs u).1 hu with rfl | hu
      · exact h
      · exact hp2.1 u hu
    · split
      · exact hp
      · rename_i h1 h2
        have hlt : lessT2 t x := by
          have := ltP_of (a := pairOf t) (b := pairOf x) (isT_low ht) (isT_low hx) (by unfold leP pairOf; dsimp only; omega) (fun e => h2 (by cases x; cases t; simp only [pairOf, Prod.mk.injEq] at e; rw [e.1, e.2]))
          exact this
        refine List.pairwise_cons.2 ⟨fun u hu => ?_, hp⟩
        rcases List.mem_cons.1 hu with rfl | hu
        · exact hlt
        · have hu1 := hT u (List.mem_cons_of_mem _ hu)
          exact le_ltP (a := pairOf t) (b := pairOf x) (c := pairOf u) (isT_bd ht).2.1 (isT_bd hx).2.1 (isT_bd hu1).2.1 (Int.le_of_lt hlt) (hp2.1 u hu)
/-- All put in, one behind the other: the sorted list. -/
theorem fold_sort (l : List S25) (h : ∀ t ∈ l, isT t.f0 t.f1) : l.foldl (fun acc t => insS t acc) [] = sortT l := by
  have key : ∀ (l : List S25) (acc : List S25), (∀ t ∈ l, isT t.f0 t.f1) → (∀ t ∈ acc, isT t.f0 t.f1) → acc.Pairwise lessT2 → (l.foldl (fun acc t => insS t acc) acc).Pairwise lessT2 ∧ ∀ u, u ∈ l.foldl (fun acc t => insS t acc) acc ↔ u ∈ acc ∨ u ∈ l := by
    intro l
    induction l with
    | nil => intro acc _ _ hp; exact ⟨hp, fun u => by simp⟩
    | cons t l ih =>
      intro acc h1 h2 hp
      obtain ⟨a, b⟩ := ih (insS t acc) (fun u hu => h1 u (List.mem_cons_of_mem _ hu)) (fun u hu => by rcases (insS_mem t acc u).1 hu with rfl | hu; exact h1 _ List.mem_cons_self; exact h2 u hu) (insS_strict t (h1 t List.mem_cons_self) acc h2 hp)
      refine ⟨a, fun u => ?_⟩
      show u ∈ l.foldl (fun acc t => insS t acc) (insS t acc) ↔ _
      rw [b u, insS_mem, List.mem_cons]
      constructor
      · rintro ((h | h) | h)
        · exact .inr (.inl h)
        · exact .inl h
        · exact .inr (.inr h)
      · rintro (h | h | h)
        · exact .inl (.inr h)
        · exact .inl (.inl h)
        · exact .inr h
  obtain ⟨a, b⟩ := key l [] h (fun t ht => by simp at ht) List.Pairwise.nil
  refine strict_eqG lessT2 (fun a b h1 h2 => by unfold lessT2 at h1 h2; omega) _ _ a (sortT_strict l h) fun u => ?_
  rw [b u, sortT_mem]
  simp
theorem low01 : low 0 1 := isT_low isT01
def countT (p q s p' q' s' : Int) : Int × Bool := if (isH p q s ∧ isH p' q' s') ∧ s ≠ s' then (((s - s').natAbs : Int), true) else (0, false)
theorem iCountMeets_val (p q s p' q' s' : Int) : impl_CountMeets.f p q s p' q' s' = some (countT p q s p' q' s') := by
  unfold impl_CountMeets.f countT
  rw [all_twoH]
  simp only [Option.bind_some]
  by_cases h : isH p q s ∧ isH p' q' s'
  · have b1 := isH_bd h.1
    have b2 := isH_bd h.2
    rw [decide_eq_true h, if_pos rfl]
    by_cases e : s = s'
    · rw [if_pos e, if_neg (fun z => z.2 e)]
    · rw [if_neg e, if_pos ⟨h, e⟩, wid (x := s - s') (by omega) (by omega), wid (x := s' - s) (by omega) (by omega)]
      unfold mx
      by_cases c : s - s' < s' - s
      · rw [if_pos c]; congr 2; omega
      · rw [if_neg c]; congr 2; omega
  · rw [decide_eq_false h, if_neg (by simp), if_neg (fun z => h z.1)]
theorem sCountMeets_val (p q s p' q' s' : Int) : Ev (fun k => spec_CountMeets.f k p q s p' q' s') (countT p q s p' q' s') := by
  unfold spec_CountMeets.f countT
  refine Ev.bind (meAsked_val p q s p' q' s') ⟨0, fun _ _ => ?_⟩
  by_cases h : (isH p q s ∧ isH p' q' s') ∧ s ≠ s'
  · have b1 := isH_bd h.1.1
    have b2 := isH_bd h.1.2
    rw [decide_eq_true h, if_pos rfl, if_pos h, wid (x := s - s') (by omega) (by omega)]
    unfold spec_l1Abs.f spec_l1Most.f
    rw [wid (x := -(s - s')) (by omega) (by omega)]
    by_cases c : s - s' > -(s - s')
    · simp only [if_pos c, Option.bind_some]; congr 2; omega
    · simp only [if_neg c, Option.bind_some]; congr 2; omega
  · rw [decide_eq_false h, if_neg (by simp), if_neg h]
def firstT (p q s p' q' s' : Int) : Int × Int × Bool := if (aheadL p q s p' q' s' 0 1).2 = true then ((rd_T25 (aheadL p q s p' q' s' 0 1).1 0).f0, (rd_T25 (aheadL p q s p' q' s' 0 1).1 0).f1, true) else (0, 0, false)
theorem meet_pos {p q s p' q' s' : Int} {L : List S25} (h : aheadL p q s p' q' s' 0 1 = (L, true)) : 0 < L.length := by
  obtain ⟨_, h2⟩ := aheadL_yes low01 h
  obtain ⟨_, c2, c3, _⟩ := h2 rfl
  omega
theorem iFirstMeet_val (p q s p' q' s' : Int) : Ev (fun k => impl_FirstMeet.f k p q s p' q' s') (firstT p q s p' q' s') := by
  unfold impl_FirstMeet.f firstT
  refine Ev.bind (iMeetTimes_val p q s p' q' s') ⟨0, fun _ _ => ?_⟩
  generalize hM : aheadL p q s p' q' s' 0 1 = M
  obtain ⟨L, b⟩ := M
  cases b with
  | false => rfl
  | true => have := meet_pos hM; dsimp only; rw [if_pos rfl, if_pos rfl, if_pos (by omega)]
theorem sFirstMeet_val (p q s p' q' s' : Int) : Ev (fun k => spec_FirstMeet.f k p q s p' q' s') (firstT p q s p' q' s') := by
  unfold spec_FirstMeet.f firstT
  refine Ev.bind (sMeetTimes_val p q s p' q' s') ⟨0, fun _ _ => ?_⟩
  generalize hM : aheadL p q s p' q' s' 0 1 = M
  obtain ⟨L, b⟩ := M
  cases b with
  | false => rfl
  | true => have := meet_pos hM; dsimp only; rw [if_pos rfl, if_pos rfl, if_pos (by omega)]
def pickT (x y : Int) (L : List S25) : S25 := (impl_NextMeet.pick x y L).getD ⟨0, 0⟩
def nextT (p q s p' q' s' x y : Int) : Int × Int × Bool := if (aheadL p q s p' q' s' 0 1).2 = true ∧ isT x y then ((pickT x y (aheadL p q s p' q' s' 0 1).1).f0, (pickT x y (aheadL p q s p' q' s' 0 1).1).f1, true) else (0, 0, false)
theorem pick_some (x y : Int) {L : List S25} (h : 0 < L.length) : impl_NextMeet.pick x y L = some (pickT x y L) := by
  unfold pickT
  have : ∃ z, impl_NextMeet.pick x y L = some z := by
    unfold impl_NextMeet.pick
    cases L.find? (impl_NextMeet.gt x y) with
    | some z => exact ⟨z, rfl⟩
    | none =>
      cases L with
      | nil => simp at h
      | cons a l => exact ⟨a, rfl⟩
  obtain ⟨z, e⟩ := this
  rw [e]; rfl
theorem iNextMeet_val (p q s p' q' s' x y : Int) : Ev (fun k => impl_NextMeet.f k p q s p' q' s' x y) (nextT p q s p' q' s' x y) := by
  unfold impl_NextMeet.f nextT
  refine Ev.bind (iMeetTimes_val p q s p' q' s') ?_
  generalize hM : aheadL p q s p' q' s' 0 1 = M
  obtain ⟨L, b⟩ := M
  dsimp only
  cases b with
  | false =>
    simp only [Bool.false_eq_true, if_false, false_and]
    exact Ev.const
  | true =>
    simp only [if_true, true_and]
    refine Ev.bind (IsTurn_val x y) ⟨0, fun _ _ => ?_⟩
    by_cases h : isT x y
    · rw [decide_eq_true h, if_pos rfl, if_pos h, pick_some x y (meet_pos hM)]
      rfl
    · rw [decide_eq_false h, if_neg (by simp), if_neg h]
theorem gt_eq {x y : Int} {u : S25} (h : isT x y) (hu : isT u.f0 u.f1) : impl_NextMeet.gt x y u = decide (x * u.f1 < u.f0 * y) := by
  unfold impl_NextMeet.gt
  have b1 := isT_bd h
  have b2 := isT_bd hu
  have m1 := mul_bd (M := 1000000) (N := 1000000) (x := x) (y := u.f1) (by omega) (by omega)
  have m2 := mul_bd (M := 1000000) (N := 1000000) (x := u.f0) (y := y) (by omega) (by omega)
  rw [wid (by omega) (by omega), wid (by omega) (by omega)]
theorem diCompare_val {p q r s : Int} (h : isT p q) (h' : isT r s) : spec_diCompare.f p q r s = some (if p * s - r * q > 0 then 1 else if p * s - r * q < 0 then -1 else 0) := by
  have b1 := isT_bd h
  have b2 := isT_bd h'
  have m1 := mul_bd (M := 1000000) (N := 1000000) (x := p) (y := s) (by omega) (by omega)
  have m2 := mul_bd (M := 1000000) (N := 1000000) (x := r) (y := q) (by omega) (by omega)
  unfold spec_diCompare.f spec_l1Sign.f
  rw [wid (x := p * s) (by omega) (by omega), wid (x := r * q) (by omega) (by omega), wid (x := p * s - r * q) (by omega) (by omega)]
  by_cases h1 : p * s - r * q > 0
  · simp only [if_pos h1, Option.bind_some]
  · by_cases h2 : p * s - r * q < 0
    · simp only [if_neg h1, if_pos h2, Option.bind_some]
    · simp only [if_neg h1, if_neg h2, Option.bind_some]
theorem sNext_loop {x y : Int} (hxy : isT x y) (L : List S25) (hl : L.length ≤ 800) (h0 : 0 < L.length) (hT : ∀ t ∈ L, isT t.f0 t.f1) (g : Nat) : ∀ i : Nat, i + g = L.length → (∀ t ∈ L.take i, impl_NextMeet.gt x y t = false) → Ev (fun k => spec_NextMeet.l0 k L L (L.length : Int) i x y) ((pickT x y L).f0, (pickT x y L).f1, true) := by
  induction g with
  | zero =>
    intro i hi hq
    refine Ev.up ?_
    simp only [spec_NextMeet.l0]
    simp only [if_neg (show ¬ (i : Int) < (L.length : Int) by omega), if_pos (show 0 < (L.length : Int) by omega)]
    have e : pickT x y L = rd_T25 L ((0 : Nat) : Int) := by
      rw [rdT_at L 0 h0]
      unfold pickT impl_NextMeet.pick
      rw [List.find?_eq_none.2 (fun t ht => by rw [hq t (by rw [List.take_of_length_le (by omega)]; exact ht)]; simp)]
      cases L with
      | nil => simp at h0
      | cons a l => rfl
    rw [e]
    exact Ev.const
  | succ g ih =>
    intro i hi hq
    have hi2 : i < L.length := by omega
    have ht := hT _ (List.getElem_mem hi2)
    refine Ev.up ?_
    simp only [spec_NextMeet.l0]
    simp only [if_pos (show (i : Int) < (L.length : Int) by omega), if_pos (show 0 ≤ (i : Int) by omega), rdT_at L i hi2, diCompare_val ht hxy, Option.bind_some]
    have hg := gt_eq hxy ht
    by_cases c : x * (L[i]).f1 < (L[i]).f0 * y
    · simp only [if_pos (show (L[i]).f0 * y - x * (L[i]).f1 > 0 by omega), if_pos (show (1 : Int) > 0 by decide)]
      rw [decide_eq_true c] at hg
      have e : pickT x y L = L[i] := by
        unfold pickT impl_NextMeet.pick
        rw [find_take _ L i hi2 hg hq]
        rfl
      rw [e]
      exact Ev.const
    · rw [decide_eq_false c] at hg
      have e : ¬ (if (L[i]).f0 * y - x * (L[i]).f1 > 0 then (1 : Int) else if (L[i]).f0 * y - x * (L[i]).f1 < 0 then -1 else 0) > 0 := by
        rw [if_neg (by omega)]
        split <;> decide
      simp only [if_neg e]
      rw [wid (x := (i : Int) + 1) (by omega) (by omega)]
      refine ih (i + 1) (by omega) (fun t htt => ?_)
      rw [List.take_succ_eq_append_getElem hi2] at htt
      rcases List.mem_append.1 htt with m | m
      · exact hq t m
      · rw [List.mem_singleton.1 m]; exact hg
theorem sNextMeet_val (p q s p' q' s' x y : Int) : Ev (fun k => spec_NextMeet.f k p q s p' q' s' x y) (nextT p q s p' q' s' x y) := by
  unfold spec_NextMeet.f nextT
  refine Ev.bind (sMeetTimes_val p q s p' q' s') ?_
  generalize hM : aheadL p q s p' q' s' 0 1 = M
  obtain ⟨L, b⟩ := M
  obtain ⟨hl, hy⟩ := aheadL_yes low01 hM
  dsimp only
  cases b with
  | false =>
    simp only [Bool.false_eq_true, if_false, false_and]
    refine Ev.up ?_
    simp only [spec_NextMeet.j0, if_true]
    exact Ev.const
  | true =>
    simp only [if_true, true_and]
    obtain ⟨_, _, _, _, hT, _⟩ := hy rfl
    refine Ev.bind (diGood_val x y) ?_
    refine Ev.up ?_
    simp only [spec_NextMeet.j0]
    by_cases h : isT x y
    · rw [if_pos h]
      simp only [decide_eq_true h, Bool.not_true, Bool.false_eq_true, if_false]
      exact sNext_loop h L hl (meet_pos hM) hT L.length 0 (by omega) (fun t ht => by simp at ht)
    · rw [if_neg h]
      simp only [decide_eq_false h, Bool.not_false, if_true]
      exact Ev.const
theorem ins_take (xs : List S25) (t : S25) (i : Nat) (hi : i < xs.length) : insS t (xs.drop i) = if (xs[i]).f0 * t.f1 < t.f0 * (xs[i]).f1 then xs[i] :: insS t (xs.drop (i + 1)) else if xs[i] = t then xs[i] :: xs.drop (i + 1) else t :: xs[i] :: xs.drop (i + 1) := by
  rw [List.drop_eq_getElem_cons hi]
  rfl
theorem meSorted_loop (xs : List S25) (hl : xs.length ≤ 1000) (hT : ∀ u ∈ xs, isT u.f0 u.f1) {a b : Int} (ht : isT a b) (g : Nat) : ∀ i : Nat, i + g = xs.length → Ev (fun k => spec_meSorted.l0 k xs i a b) (xs.take i ++ insS ⟨a, b⟩ (xs.drop i)) := by
  induction g with
  | zero =>
    intro i hi
    refine Ev.up ?_
    simp only [spec_meSorted.l0]
    simp only [if_neg (show ¬ (i : Int) < (xs.length : Int) by omega), Option.bind_some, if_pos (show 0 ≤ (i : Int) by omega), if_pos (show (i : Int) ≤ (xs.length : Int) by omega), Int.toNat_natCast, List.nil_append, List.length_nil]
    have h1 : (xs.take i).length ≤ 1000 := by rw [List.length_take]; omega
    have h2 : (xs.drop i).length ≤ 1000 := by rw [List.length_drop]; omega
    simp only [if_pos (show 0 + (xs.take i).length < 8796093022208 by omega), List.length_append, List.length_cons, List.length_nil, if_pos (show (xs.take i).length + (0 + 1) < 8796093022208 by omega), if_pos (show (xs.take i).length + (0 + 1) + (xs.drop i).length < 8796093022208 by omega)]
    refine ⟨0, fun _ _ => ?_⟩
    rw [show xs.drop i = [] from List.drop_of_length_le (by omega)]
    simp [insS]
  | succ g ih =>
    intro i hi
    have hi2 : i < xs.length := by omega
    have hu := hT _ (List.getElem_mem hi2)
    refine Ev.up ?_
    simp only [spec_meSorted.l0]
    simp only [if_pos (show (i : Int) < (xs.length : Int) by omega), if_pos (show 0 ≤ (i : Int) by omega), rdT_at xs i hi2, diCompare_val hu ht, Option.bind_some, eqT2]
    rw [ins_take xs ⟨a, b⟩ i hi2]
    dsimp only
    by_cases c : (xs[i]).f0 * b < a * (xs[i]).f1
    · simp only [if_pos c, if_neg (show ¬ (xs[i]).f0 * b - a * (xs[i]).f1 > 0 by omega), if_pos (show (xs[i]).f0 * b - a * (xs[i]).f1 < 0 by omega), if_pos (show (-1 : Int) < 0 by decide)]
      rw [wid (x := (i : Int) + 1) (by omega) (by omega)]
      have h := ih (i + 1) (by omega)
      rw [List.take_succ_eq_append_getElem hi2, List.append_assoc] at h
      exact h
    · have e : ¬ (if (xs[i]).f0 * b - a * (xs[i]).f1 > 0 then (1 : Int) else if (xs[i]).f0 * b - a * (xs[i]).f1 < 0 then -1 else 0) < 0 := by
        by_cases c2 : (xs[i]).f0 * b - a * (xs[i]).f1 > 0
        · rw [if_pos c2]; decide
        · rw [if_neg c2, if_neg (by omega)]; decide
      simp only [if_neg e, if_neg c]
      by_cases c2 : xs[i] = (⟨a, b⟩ : S25)
      · simp only [decide_eq_true c2, if_true, if_pos c2]
        refine ⟨0, fun _ _ => ?_⟩
        rw [← List.drop_eq_getElem_cons hi2, List.take_append_drop]
      · have h1 : (xs.take i).length ≤ 1000 := by rw [List.length_take]; omega
        have h2 : (xs.drop i).length ≤ 1000 := by rw [List.length_drop]; omega
        simp only [decide_eq_false c2, Bool.false_eq_true, if_false, if_neg c2, if_pos (show (i : Int) ≤ (xs.length : Int) by omega), Int.toNat_natCast, List.nil_append, List.length_nil, if_pos (show 0 + (xs.take i).length < 8796093022208 by omega), List.length_append, List.length_cons, if_pos (show (xs.take i).length + (0 + 1) < 8796093022208 by omega), if_pos (show (xs.take i).length + (0 + 1) + (xs.drop i).length < 8796093022208 by omega)]
        refine ⟨0, fun _ _ => ?_⟩
        rw [← List.drop_eq_getElem_cons hi2, List.append_assoc]
        rfl
theorem meSorted_val (xs : List S25) (hl : xs.length ≤ 1000) (hT : ∀ u ∈ xs, isT u.f0 u.f1) {a b : Int} (ht : isT a b) : Ev (fun k => spec_meSorted.f k xs a b) (insS ⟨a, b⟩ xs) := by
  unfold spec_meSorted.f
  have h := meSorted_loop xs hl hT ht xs.length 0 (by omega)
  rw [List.take_zero, List.drop_zero, List.nil_append] at h
  exact h
def atP (p q s : Int) (t : S25) : S25 := ⟨(placeT p q s t.f0 t.f1).1, (placeT p q s t.f0 t.f1).2⟩
def finP (out : List S25) : List S25 × Bool := if allT out = true then (sortT out, true) else ([], false)
def placesT (p q s p' q' s' : Int) : List S25 × Bool := if (aheadL p q s p' q' s' 0 1).2 = true then finP ((aheadL p q s p' q' s' 0 1).1.map (atP p q s)) else ([], false)
theorem iMeetPlaces_loop {p q s : Int} (h : isH p q s) (L : List S25) (hl : L.length ≤ 800) (hT : ∀ t ∈ L, isT t.f0 t.f1) (g : Nat) : ∀ i : Nat, i + g = L.length → Ev (fun k => impl_MeetPlaces.l0 k ((L.take i).map (atP p q s)) L (L.length : Int) i p q s) (finP (L.map (atP p q s))) := by
  induction g with
  | zero =>
    intro i hi
    refine Ev.up ?_
    simp only [impl_MeetPlaces.l0]
    simp only [if_neg (show ¬ (i : Int) < (L.length : Int) by omega)]
    refine ⟨0, fun _ _ => ?_⟩
    rw [List.take_of_length_le (by omega)]
    unfold finP allT impl_areTurns.f impl_sorted.f
    simp only [Option.bind_some]
    by_cases c : ((L.map (atP p q s)).all fun t => decide (isT t.f0 t.f1)) = true
    · rw [if_pos c, if_pos c, if_pos ⟨c, by rw [List.length_map]; omega⟩]
      rfl
    · rw [if_neg c, if_neg c]
  | succ g ih =>
    intro i hi
    have hi2 : i < L.length := by omega
    have ht := hT _ (List.getElem_mem hi2)
    refine Ev.up ?_
    simp only [impl_MeetPlaces.l0]
    simp only [if_pos (show (i : Int) < (L.length : Int) by omega), if_pos (show 0 ≤ (i : Int) by omega), rdT_at L i hi2]
    refine Ev.bind (hat_val (isH_bdH h) (isT_bd ht).1 (isT_bd ht).2.2) ?_
    have hn : ((L.take i).map (atP p q s)).length < 8796093022208 := by rw [List.length_map, List.length_take]; omega
    simp only [if_pos hn]
    rw [wid (x := (i : Int) + 1) (by omega) (by omega)]
    have h2 := ih (i + 1) (by omega)
    rw [List.take_succ_eq_append_getElem hi2, List.map_append] at h2
    exact h2
theorem iMeetPlaces_val (p q s p' q' s' : Int) : Ev (fun k => impl_MeetPlaces.f k p q s p' q' s') (placesT p q s p' q' s') := by
  unfold impl_MeetPlaces.f placesT
  refine Ev.bind (iMeetTimes_val p q s p' q' s') ?_
  generalize hM : aheadL p q s p' q' s' 0 1 = M
  obtain ⟨L, b⟩ := M
  obtain ⟨hl, hy⟩ := aheadL_yes low01 hM
  cases b with
  | false => simp only [Bool.false_eq_true, if_false]; exact Ev.const
  | true =>
    obtain ⟨c1, _, _, _, hT, _⟩ := hy rfl
    simp only [if_true]
    exact iMeetPlaces_loop c1.1 L hl hT L.length 0 (by omega)
theorem allT_take {out : List S25} {i : Nat} (h : allT (out.take i) = false) : allT out = false := by
  unfold allT at h ⊢
  rw [List.all_eq_false] at h ⊢
  obtain ⟨x, hx, e⟩ := h
  exact ⟨x, List.mem_of_mem_take hx, e⟩
theorem atP_isT {p q s : Int} {t : S25} (h : isH p q s) (ht : isT t.f0 t.f1) : isT (atP p q s t).f0 (atP p q s t).f1 ↔ (placeT p q s t.f0 t.f1).2 ≤ 1000000 := by
  unfold atP placeT
  exact isT_mk _ (Int.mul_pos (isH_bd h).2.1.1 (isT_bd ht).2.1)
theorem sMeetPlaces_loop {p q s : Int} (h : isH p q s) (L : List S25) (hl : L.length ≤ 800) (hT : ∀ t ∈ L, isT t.f0 t.f1) (g : Nat) : ∀ i : Nat, i + g = L.length → allT ((L.take i).map (atP p q s)) = true → Ev (fun k => spec_MeetPlaces.l0 k (((L.take i).map (atP p q s)).foldl (fun acc t => insS t acc) []) L (L.length : Int) i p q s) (finP (L.map (atP p q s))) := by
  induction g with
  | zero =>
    intro i hi ha
    refine Ev.up ?_
    simp only [spec_MeetPlaces.l0]
    simp only [if_neg (show ¬ (i : Int) < (L.length : Int) by omega)]
    refine ⟨0, fun _ _ => ?_⟩
    rw [List.take_of_length_le (by omega)] at ha ⊢
    rw [fold_sort _ (fun t ht => of_decide_eq_true (List.all_eq_true.1 ha t ht))]
    unfold finP
    rw [if_pos ha]
  | succ g ih =>
    intro i hi ha
    have hi2 : i < L.length := by omega
    have ht := hT _ (List.getElem_mem hi2)
    refine Ev.up ?_
    simp only [spec_MeetPlaces.l0]
    simp only [if_pos (show (i : Int) < (L.length : Int) by omega), if_pos (show 0 ≤ (i : Int) by omega), rdT_at L i hi2]
    refine Ev.bind (meAt_val (isH_bdH h) (isT_bd ht).1 (isT_bd ht).2.2) ?_
    have hat := atP_isT h ht
    unfold tell
    have e1 : allT ((L.take (i + 1)).map (atP p q s)) = decide (isT (atP p q s L[i]).f0 (atP p q s L[i]).f1) := by
      rw [List.take_succ_eq_append_getElem hi2, List.map_append]
      show allT (_ ++ [atP p q s L[i]]) = _
      rw [allT_snoc, ha, Bool.true_and]
    by_cases c : (placeT p q s (L[i]).f0 (L[i]).f1).2 > 1000000
    · simp only [if_pos c, Bool.false_eq_true, if_false]
      refine ⟨0, fun _ _ => ?_⟩
      have e2 : allT (L.map (atP p q s)) = false := by
        refine allT_take (i := i + 1) ?_
        rw [← List.map_take, e1]
        exact decide_eq_false (fun z => by have := hat.1 z; omega)
      unfold finP
      rw [e2]
      rfl
    · simp only [if_neg c, if_true]
      have hp : isT (atP p q s L[i]).f0 (atP p q s L[i]).f1 := hat.2 (by omega)
      have hall : ∀ t ∈ (L.take i).map (atP p q s), isT t.f0 t.f1 := fun t ht => of_decide_eq_true (List.all_eq_true.1 ha t ht)
      have hfs := fold_sort _ hall
      have hlen : (((L.take i).map (atP p q s)).foldl (fun acc t => insS t acc) []).length ≤ 1000 := by
        have : ∀ (l : List S25) (acc : List S25), (l.foldl (fun acc t => insS t acc) acc).length ≤ acc.length + l.length := by
          intro l
          induction l with
          | nil => intro acc; exact Nat.le_refl _
          | cons t l ih =>
            intro acc
            have h1 := ih (insS t acc)
            have h2 : (insS t acc).length ≤ acc.length + 1 := by
              clear h1 ih
              induction acc with
              | nil => exact Nat.le_refl _
              | cons x xs ih => unfold insS; split; · simp only [List.length_cons]; omega
                                split; · simp only [List.length_cons]; omega
                                simp only [List.length_cons]; omega
            simp only [List.foldl_cons, List.length_cons]
            omega
        have h3 := this ((L.take i).map (atP p q s)) []
        rw [List.length_map, List.length_take, List.length_nil] at h3
        omega
      refine Ev.bind (meSorted_val _ hlen (fun u hu => by rw [hfs, sortT_mem] at hu; exact hall u hu) hp) ?_
      rw [wid (x := (i : Int) + 1) (by omega) (by omega)]
      have h2 := ih (i + 1) (by omega) (by rw [e1]; exact decide_eq_true hp)
      rw [List.take_succ_eq_append_getElem hi2, List.map_append, List.foldl_append] at h2
      exact h2
theorem sMeetPlaces_val (p q s p' q' s' : Int) : Ev (fun k => spec_MeetPlaces.f k p q s p' q' s') (placesT p q s p' q' s') := by
  unfold spec_MeetPlaces.f placesT
  refine Ev.bind (sMeetTimes_val p q s p' q' s') ?_
  generalize hM : aheadL p q s p' q' s' 0 1 = M
  obtain ⟨L, b⟩ := M
  obtain ⟨hl, hy⟩ := aheadL_yes low01 hM
  cases b with
  | false => simp only [Bool.false_eq_true, if_false]; exact Ev.const
  | true =>
    obtain ⟨c1, _, _, _, hT, _⟩ := hy rfl
    simp only [if_true]
    exact sMeetPlaces_loop c1.1 L hl hT L.length 0 (by omega) rfl
theorem sIsHand_val (p q s : Int) : Ev (fun k => spec_IsHand.f k p q s) (decide (isH p q s)) := by
  unfold spec_IsHand.f
  exact Ev.bind (meGood_val p q s) Ev.const
theorem place_same {p q s c d e x y : Int} (ha : isH p q s) (hc : isH c d e) (ht : isT x y) : placeT p q s x y = placeT c d e x y ↔ placeT (relT p q c d).1 (relT p q c d).2 (s - e) x y = (0, 1) := by
  have b1 := isH_bd ha
  have b2 := isH_bd hc
  have b3 := isT_bd ht
  have hy := b3.2.1
  have h1 := Int.mul_pos b1.2.1.1 hy
  have h2 := Int.mul_pos b2.2.1.1 hy
  have h3 := Int.mul_pos b1.2.1.1 b2.2.1.1
  unfold relT
  rw [place_start _ _ _ h3 hy]
  unfold placeT
  rw [diff0 _ _ h1 h2, ← mkT_scale ((p * d - c * q) * y + (s - e) * x * (q * d)) (Int.mul_pos h3 hy) hy]
  have e1 : (p * y + s * x * q) * (d * y) - (c * y + e * x * d) * (q * y) = y * ((p * d - c * q) * y + (s - e) * x * (q * d)) := by grind
  have e2 : q * y * (d * y) = y * (q * d * y) := by grind
  rw [e1, e2]
/-! lcur: whatever bytes are given, choices are drawn -/
theorem u64_bd (n : Int) : 0 ≤ IntKind.u64.wrap n ∧ IntKind.u64.wrap n < 18446744073709551616 := by
  rw [IntKind.wrap_u64]; omega
theorem and255 (n : Int) : 0 ≤ Go.bits .and .u64 (IntKind.u64.wrap n / 1099511627776) 255 ∧ Go.bits .and .u64 (IntKind.u64.wrap n / 1099511627776) 255 ≤ 255 := by
  have h := u64_bd n
  have e := bits_mask .u64 64 (by decide) (fun n h0 h1 => by rw [IntKind.wrap_u64]; omega) 8 (by decide) (IntKind.u64.wrap n / 1099511627776) (by omega) (by omega)
  have e2 : Go.bits .and .u64 (IntKind.u64.wrap n / 1099511627776) 255 = (IntKind.u64.wrap n / 1099511627776) % 256 := e
  rw [e2]; omega
def bytesOk (l : List Int) : Prop := ∀ x ∈ l, 0 ≤ x ∧ x ≤ 255
theorem rd_ok {l : List Int} (hl : bytesOk l) {i : Int} (h0 : 0 ≤ i) (h1 : i < (l.length : Int)) : 0 ≤ rd l i ∧ rd l i ≤ 255 := by
  have hi : i.toNat < l.length := by omega
  have e : rd l i = l[i.toNat] := by unfold rd; rw [List.getD_eq_getElem?_getD, List.getElem?_eq_getElem hi]; rfl
  rw [e]; exact hl _ (List.getElem_mem hi)
theorem next_tot {l : List Int} (hl : bytesOk l) {i : Int} (h0 : 0 ≤ i) (h1 : i ≤ 1000000) (s : Int) : ∃ x s', spec_l1Cur_next.f l i s = some (x, i + 1, s') ∧ 0 ≤ x ∧ x ≤ 255 := by
  unfold spec_l1Cur_next.f
  rw [wid (x := i + 1) (by omega) (by omega)]
  by_cases a : i < (l.length : Int)
  · have r := rd_ok hl h0 a
    rw [if_pos a, if_pos h0]
    by_cases b : i + 1 ≤ (l.length : Int)
    · rw [if_pos b, wid (x := rd l i) (by omega) (by omega)]
      exact ⟨_, _, rfl, r⟩
    · omega
  · rw [if_neg a]
    by_cases b : i + 1 ≤ (l.length : Int)
    · omega
    · rw [if_neg b]
      have z := and255 ((IntKind.u64.wrap (IntKind.u64.wrap (s * 6364136223846793005))) + 1442695040888963407)
      exact ⟨_, _, rfl, by rw [wid (by omega) (by omega)]; exact z⟩
theorem pick_tot {l : List Int} (hl : bytesOk l) {i : Int} (h0 : 0 ≤ i) (h1 : i ≤ 999990) (s : Int) {n : Int} (hn : n ≤ 1000000) : ∃ x j s', spec_l1Cur_pick.f l i s n = some (x, j, s') ∧ (0 ≤ x ∧ (x < n ∨ x = 0)) ∧ i ≤ j ∧ j ≤ i + 2 := by
  unfold spec_l1Cur_pick.f
  by_cases a : n ≤ 1
  · rw [if_pos a]
    exact ⟨_, _, _, rfl, ⟨by omega, Or.inr rfl⟩, by omega, by omega⟩
  · rw [if_neg a]
    obtain ⟨x, s', e, b⟩ := next_tot hl h0 (by omega) s
    rw [e]
    simp only [Option.bind_some]
    by_cases c : n > 200
    · obtain ⟨x', s'', e', b'⟩ := next_tot hl (i := i + 1) (by omega) (by omega) s'
      rw [if_pos c, e']
      simp only [Option.bind_some]
      rw [if_neg (by omega), wid (x := x * 256) (by omega) (by omega), wid (x := x * 256 + x') (by omega) (by omega), tmod_nn _ (by omega)]
      exact ⟨_, _, _, rfl, ⟨Int.emod_nonneg _ (by omega), Or.inl (Int.emod_lt_of_pos _ (by omega))⟩, by omega, by omega⟩
    · rw [if_neg c, if_neg (by omega), tmod_nn _ (by omega)]
      exact ⟨_, _, _, rfl, ⟨Int.emod_nonneg _ (by omega), Or.inl (Int.emod_lt_of_pos _ (by omega))⟩, by omega, by omega⟩
theorem among_tot {l : List Int} (hl : bytesOk l) {i : Int} (h0 : 0 ≤ i) (h1 : i ≤ 999990) (s : Int) (xs : List Int) (hx : 0 < xs.length ∧ xs.length ≤ 1000) : ∃ x j s', spec_l1Cur_among.f l i s xs = some (x, j, s') ∧ i ≤ j ∧ j ≤ i + 2 := by
  obtain ⟨x, j, s', e, b, c⟩ := pick_tot hl h0 h1 s (n := (xs.length : Int)) (by omega)
  unfold spec_l1Cur_among.f
  rw [e]
  simp only [Option.bind_some]
  rw [if_pos b.1, if_pos (by omega)]
  exact ⟨_, _, _, rfl, c⟩
theorem sureTurn_tot {l : List Int} (hl : bytesOk l) {i : Int} (h0 : 0 ≤ i) (h1 : i ≤ 999980) (s : Int) : ∃ a b j s', Ev (fun k => spec_l1Cur_sureTurn.f k l i s) (a, b, j, s') ∧ i ≤ j ∧ j ≤ i + 4 := by
  unfold spec_l1Cur_sureTurn.f
  simp only [Option.bind_some]
  obtain ⟨x, j, s', e, b, c⟩ := pick_tot hl h0 (by omega) s (n := (([1, 2, 3, 4, 6, 8, 11, 12, 13, 24, 60, 143, 720, 719, 7, 5] : List Int).length : Int)) (by decide)
  rw [e]
  simp only [Option.bind_some]
  have hb : x < (([1, 2, 3, 4, 6, 8, 11, 12, 13, 24, 60, 143, 720, 719, 7, 5] : List Int).length : Int) := by
    have : (([1, 2, 3, 4, 6, 8, 11, 12, 13, 24, 60, 143, 720, 719, 7, 5] : List Int).length : Int) = 16 := rfl
    omega
  simp only [if_pos b.1, if_pos hb]
  have hd : 0 < rd [1, 2, 3, 4, 6, 8, 11, 12, 13, 24, 60, 143, 720, 719, 7, 5] x ∧ rd [1, 2, 3, 4, 6, 8, 11, 12, 13, 24, 60, 143, 720, 719, 7, 5] x ≤ 720 := by
    have hx : x < 16 := hb
    have hx0 := b.1
    obtain ⟨n, rfl⟩ := Int.eq_ofNat_of_zero_le hx0
    have hn : n < 16 := by omega
    have : ∀ m : Fin 16, 0 < rd [1, 2, 3, 4, 6, 8, 11, 12, 13, 24, 60, 143, 720, 719, 7, 5] (m.val : Int) ∧ rd [1, 2, 3, 4, 6, 8, 11, 12, 13, 24, 60, 143, 720, 719, 7, 5] (m.val : Int) ≤ 720 := by decide
    exact this ⟨n, hn⟩
  generalize rd [1, 2, 3, 4, 6, 8, 11, 12, 13, 24, 60, 143, 720, 719, 7, 5] x = d at hd
  obtain ⟨y, j', s'', e', b', c'⟩ := pick_tot hl (i := j) (by omega) (by omega) s' (n := d) (by omega)
  rw [e']
  simp only [Option.bind_some]
  exact ⟨_, _, _, _, Ev.bind (diMake_val hd.1 (by omega)) ⟨0, fun _ _ => rfl⟩, (by (try dsimp only); omega), (by (try dsimp only); omega)⟩
theorem turn_tot {l : List Int} (hl : bytesOk l) {i : Int} (h0 : 0 ≤ i) (h1 : i ≤ 999970) (s : Int) : ∃ a b j s', Ev (fun k => spec_l1Cur_turn.f k l i s) (a, b, j, s') ∧ i ≤ j ∧ j ≤ i + 6 := by
  unfold spec_l1Cur_turn.f
  obtain ⟨x, j, s', e, b, c⟩ := pick_tot hl h0 (by omega) s (n := 16) (by omega)
  rw [e]
  simp only [Option.bind_some]
  by_cases x0 : x = 0
  · simp only [if_pos x0]
    obtain ⟨y, j', s2, e2, c2⟩ := among_tot hl (i := j) (by omega) (by omega) s' [(-1), 0, 2, 5, 4611686018427387904] (by decide)
    rw [e2]
    simp only [Option.bind_some]
    obtain ⟨z, j3, s3, e3, c3⟩ := among_tot hl (i := j') (by omega) (by omega) s2 [0, 1, 2, 4, 1000000, 1000001, (-3)] (by decide)
    rw [e3]
    exact ⟨_, _, _, _, ⟨0, fun _ _ => rfl⟩, (by (try dsimp only); omega), (by (try dsimp only); omega)⟩
  · simp only [if_neg x0]
    by_cases x1 : x = 1
    · simp only [if_pos x1]
      obtain ⟨y, j', s2, e2, c2⟩ := among_tot hl (i := j) (by omega) (by omega) s' [1, 999999, 7] (by decide)
      rw [e2]
      exact ⟨_, _, _, _, ⟨0, fun _ _ => rfl⟩, (by (try dsimp only); omega), (by (try dsimp only); omega)⟩
    · simp only [if_neg x1]
      by_cases x2 : x = 2
      · simp only [if_pos x2]
        obtain ⟨y, j', s2, e2, b2, c2⟩ := pick_tot hl (i := j) (by omega) (by omega) s' (n := 900000) (by omega)
        rw [e2]
        exact ⟨_, _, _, _, ⟨0, fun _ _ => rfl⟩, (by (try dsimp only); omega), (by (try dsimp only); omega)⟩
      · simp only [if_neg x2]
        obtain ⟨a, b', j', s2, e2, c2⟩ := sureTurn_tot hl (i := j) (by omega) (by omega) s'
        exact ⟨_, _, _, _, Ev.bind e2 ⟨0, fun _ _ => rfl⟩, (by (try dsimp only); omega), (by (try dsimp only); omega)⟩
theorem handj_tot {l : List Int} (hl : bytesOk l) {i : Int} (h0 : 0 ≤ i) (h1 : i ≤ 999900) (s x y z : Int) : ∃ a b c j s', Ev (fun k => spec_l1Cur_hand.j0 k l i s x y z) (a, b, c, j, s') ∧ i ≤ j ∧ j ≤ i + 8 := by
  obtain ⟨v, j, s', e, b, c⟩ := pick_tot hl h0 (by omega) s (n := 16) (by omega)
  by_cases v0 : v = 0
  · obtain ⟨a2, b2, j2, s2, e2, c2⟩ := turn_tot hl (i := j) (by omega) (by omega) s'
    refine ⟨a2, b2, z, j2, s2, Ev.up ?_, by omega, by omega⟩
    simp only [spec_l1Cur_hand.j0, e, Option.bind_some, if_pos v0]
    exact Ev.bind e2 ⟨0, fun _ _ => rfl⟩
  · by_cases v1 : v = 1
    · obtain ⟨a2, j2, s2, e2, c2⟩ := among_tot hl (i := j) (by omega) (by omega) s' [(-401), (-400), 400, 401, 4611686018427387904] (by decide)
      refine ⟨x, y, a2, j2, s2, Ev.up ?_, by omega, by omega⟩
      simp only [spec_l1Cur_hand.j0, e, Option.bind_some, if_neg v0, if_pos v1, e2]
      exact ⟨0, fun _ _ => rfl⟩
    · refine ⟨x, y, z, j, s', Ev.up ?_, by omega, by omega⟩
      simp only [spec_l1Cur_hand.j0, e, Option.bind_some, if_neg v0, if_neg v1]
      exact ⟨0, fun _ _ => rfl⟩
theorem hand_tot {l : List Int} (hl : bytesOk l) {i : Int} (h0 : 0 ≤ i) (h1 : i ≤ 999800) (s : Int) : ∃ a b c j s', Ev (fun k => spec_l1Cur_hand.f k l i s) (a, b, c, j, s') ∧ i ≤ j ∧ j ≤ i + 20 := by
  obtain ⟨v, j, s', e, b, c⟩ := pick_tot hl h0 (by omega) s (n := 15) (by omega)
  obtain ⟨u, j2, s2, e2, b2, c2⟩ := pick_tot hl (i := j) (by omega) (by omega) s' (n := 2) (by omega)
  unfold spec_l1Cur_hand.f spec_l1Cur_one.f
  simp only [e, e2, Option.bind_some]
  by_cases u0 : u = 0
  · simp only [beq_iff_eq.mpr u0, if_true]
    obtain ⟨a3, b3, j3, s3, e3, c3⟩ := sureTurn_tot hl (i := j2) (by omega) (by omega) s2
    obtain ⟨a4, b4, d4, j4, s4, e4, c4⟩ := handj_tot hl (i := j3) (by omega) (by omega) s3 a3 b3 (wrap64 (v - 5))
    exact ⟨a4, b4, d4, j4, s4, Ev.bind e3 e4, by omega, by omega⟩
  · simp only [beq_eq_false_iff_ne.mpr u0, Bool.false_eq_true, if_false]
    obtain ⟨a4, b4, d4, j4, s4, e4, c4⟩ := handj_tot hl (i := j2) (by omega) (by omega) s2 0 1 (wrap64 (v - 5))
    exact ⟨a4, b4, d4, j4, s4, e4, by omega, by omega⟩
theorem big_val (l0 l1 : List Int) : ∃ b, laws_big.f l0 l1 = some b := by
  unfold laws_big.f
  by_cases h : (l0.length : Int) > 1048576
  · rw [if_pos h]; exact ⟨_, rfl⟩
  · rw [if_neg h]; exact ⟨_, rfl⟩
theorem tell_ok {x y : Int} (h : y ≤ 1000000) : tell (x, y) = (x, y, true) := by unfold tell; rw [if_neg (show ¬ (x, y).2 > 1000000 by dsimp only; omega)]
theorem handT_of {p q s x y x' y' : Int} (h : isH p q s) (ht : isT x y) (hu : isT x' y') (e : placeT p q s x y = (x', y')) : handT p q s x y = (x', y', true) := by
  unfold handT
  rw [if_pos ⟨h, ht⟩, e]
  exact tell_ok (isT_bd hu).2.2
theorem bytes_of {l : List Int} (h : ∀ x ∈ l, (Lit.int .u8 x).wf = true) : bytesOk l := by
  intro x hx
  have := h x hx
  simp only [Lit.wf, IntKind.min, IntKind.max, IntKind.signed, IntKind.bits, Bool.and_eq_true, decide_eq_true_eq] at this
  simp at this
  omega
instance lessT2_dec (a b : S25) : Decidable (lessT2 a b) := by unfold lessT2; infer_instance
theorem less_asym {a b : S25} (h : lessT2 a b) (k : lessT2 b a) : False := by unfold lessT2 at h k; omega
theorem gt_less {x u : S25} (hx : isT x.f0 x.f1) (hu : isT u.f0 u.f1) : impl_NextMeet.gt x.f0 x.f1 u = decide (lessT2 x u) := by
  rw [gt_eq hx hu]
  unfold lessT2
  exact decide_eq_decide.mpr Iff.rfl
theorem pick_mem (x y : Int) {L : List S25} (h : 0 < L.length) : pickT x y L ∈ L := by
  have e := pick_some x y h
  unfold impl_NextMeet.pick at e
  cases hf : L.find? (impl_NextMeet.gt x y) with
  | some z => rw [hf] at e; rw [← Option.some.inj e]; exact List.mem_of_find?_eq_some hf
  | none => rw [hf] at e; exact List.mem_of_mem_head? e
theorem pick_next {L : List S25} (hp : L.Pairwise lessT2) (hT : ∀ t ∈ L, isT t.f0 t.f1) (i : Nat) (hi : i < L.length) : pickT (L[i]).f0 (L[i]).f1 L = L[(i + 1) % L.length]'(Nat.mod_lt _ (by omega)) := by
  have no : ∀ j (hj : j < L.length), j ≤ i → impl_NextMeet.gt (L[i]).f0 (L[i]).f1 L[j] = false := by
    intro j hj hle
    rw [gt_less (hT _ (List.getElem_mem hi)) (hT _ (List.getElem_mem hj))]
    refine decide_eq_false fun h => ?_
    by_cases e : j = i
    · subst e; exact less_asym h h
    · exact less_asym h (List.pairwise_iff_getElem.1 hp j i hj hi (by omega))
  unfold pickT impl_NextMeet.pick
  by_cases c : i + 1 < L.length
  · have hg : impl_NextMeet.gt (L[i]).f0 (L[i]).f1 L[i + 1] = true := by
      rw [gt_less (hT _ (List.getElem_mem hi)) (hT _ (List.getElem_mem c))]
      exact decide_eq_true (List.pairwise_iff_getElem.1 hp i (i + 1) hi c (by omega))
    rw [find_take _ L (i + 1) c hg (fun t ht => by
      obtain ⟨j, hj, rfl⟩ := List.getElem_of_mem ht
      rw [List.length_take] at hj
      rw [List.getElem_take]
      exact no j (by omega) (by omega))]
    simp only [Nat.mod_eq_of_lt c]
    rfl
  · have e : i + 1 = L.length := by omega
    rw [List.find?_eq_none.2 (fun t ht => by
      obtain ⟨j, hj, rfl⟩ := List.getElem_of_mem ht
      rw [no j hj (by omega)]; simp)]
    simp only [e, Nat.mod_self]
    rw [List.head?_eq_getElem?, List.getElem?_eq_getElem (show 0 < L.length by omega)]
    rfl
theorem next_first {L : List S25} (hp : L.Pairwise lessT2) {x y : Int} {u : S25} (hu : u ∈ L) (hg : impl_NextMeet.gt x y u = true) : impl_NextMeet.gt x y (pickT x y L) = true ∧ ¬ lessT2 u (pickT x y L) := by
  obtain ⟨j, hj, rfl⟩ := List.getElem_of_mem hu
  unfold pickT impl_NextMeet.pick
  cases hf : L.find? (impl_NextMeet.gt x y) with
  | none => have := List.find?_eq_none.1 hf _ hu; rw [hg] at this; simp at this
  | some z =>
    refine ⟨List.find?_some hf, ?_⟩
    obtain ⟨_, i, hi, e, hlt⟩ := List.find?_eq_some_iff_getElem.1 hf
    simp only [Option.getD_some]
    intro hl
    rw [← e] at hl
    by_cases c : j < i
    · have := hlt j c
      rw [hg] at this
      simp at this
    · by_cases c2 : j = i
      · subst c2; exact less_asym hl hl
      · exact less_asym hl (List.pairwise_iff_getElem.1 hp i j hi hj (by omega))
theorem l1_val {x y n0 n1 : Int} (hxy : isT x y) (L : List S25) (hl : L.length ≤ 800) (hp : L.Pairwise lessT2) (hT : ∀ t ∈ L, isT t.f0 t.f1) (h0 : 0 < L.length) (hn : (pickT x y L).f0 = n0 ∧ (pickT x y L).f1 = n1) (g : Nat) : ∀ i : Nat, i + g = L.length → Ev (fun k => laws_FnHandsMeet.l1 k (decide (wrap64 (n0 * y) > wrap64 (x * n1))) L (L.length : Int) i x y n0 n1) true := by
  have hm := hT _ (pick_mem x y h0)
  obtain ⟨rfl, rfl⟩ := hn
  have later : decide (wrap64 ((pickT x y L).f0 * y) > wrap64 (x * (pickT x y L).f1)) = impl_NextMeet.gt x y (pickT x y L) := by
    unfold impl_NextMeet.gt
    exact decide_eq_decide.mpr Iff.rfl
  rw [later]
  induction g with
  | zero =>
    intro i hi
    refine Ev.up ?_
    simp only [laws_FnHandsMeet.l1]
    simp only [if_neg (show ¬ (i : Int) < (L.length : Int) by omega)]
    exact Ev.const
  | succ g ih =>
    intro i hi
    have hi2 : i < L.length := by omega
    have h := ih (i + 1) (by omega)
    have ht := hT _ (List.getElem_mem hi2)
    refine Ev.up ?_
    simp only [laws_FnHandsMeet.l1]
    simp only [if_pos (show (i : Int) < (L.length : Int) by omega), if_pos (show 0 ≤ (i : Int) by omega), rdT_at L i hi2]
    have e : (wrap64 ((L[i]).f0 * y) > wrap64 (x * (L[i]).f1)) ↔ impl_NextMeet.gt x y L[i] = true := by
      unfold impl_NextMeet.gt
      rw [decide_eq_true_eq]
    rw [wid (x := (i : Int) + 1) (by omega) (by omega)]
    by_cases c : impl_NextMeet.gt x y L[i] = true
    · obtain ⟨q1, q2⟩ := next_first hp (List.getElem_mem hi2) c
      have b1 := isT_bd hm
      have b2 := isT_bd ht
      have m1 := mul_bd (M := 1000000) (N := 1000000) (x := (L[i]).f0) (y := (pickT x y L).f1) (by omega) (by omega)
      have m2 := mul_bd (M := 1000000) (N := 1000000) (x := (pickT x y L).f0) (y := (L[i]).f1) (by omega) (by omega)
      have q3 : ¬ wrap64 ((L[i]).f0 * (pickT x y L).f1) < wrap64 ((pickT x y L).f0 * (L[i]).f1) := by
        rw [wid (by omega) (by omega), wid (by omega) (by omega)]
        exact q2
      simp only [if_pos (e.2 c), q1, if_true, if_neg q3]
      rw [q1] at h
      exact h
    · simp only [if_neg (fun z => c (e.1 z))]
      exact h
theorem j5_val {l : List Int} (hb : bytesOk l) (hd : ∃ a b c d e f x y, Ev (fun k => spec_DrawNextMeet.f k l) (a, b, c, d, e, f, x, y)) : Ev (fun k => laws_FnHandsMeet.j5 k l false) true := by
  obtain ⟨p, q, s, p', q', s', x, y, e⟩ := hd
  refine Ev.up ?_
  simp only [laws_FnHandsMeet.j5, Bool.false_eq_true, if_false]
  refine Ev.bind e ?_
  refine Ev.bind (iNextMeet_val p q s p' q' s' x y) ?_
  refine Ev.bind (sNextMeet_val p q s p' q' s' x y) ?_
  simp only [bne_self_eq_false, Bool.false_eq_true, if_false, beq_self_eq_true, Bool.not_true, Bool.or_false]
  refine Ev.up ?_
  simp only [laws_FnHandsMeet.j6, Bool.false_eq_true, if_false]
  have iM := iMeetTimes_val p q s p' q' s'
  unfold nextT
  generalize hM : aheadL p q s p' q' s' 0 1 = M at iM
  obtain ⟨L, b⟩ := M
  obtain ⟨hl, hy⟩ := aheadL_yes low01 hM
  dsimp only
  by_cases c : b = true ∧ isT x y
  · obtain ⟨rfl, hxy⟩ := c
    obtain ⟨_, _, _, hp, hT, _⟩ := hy rfl
    have h0 := meet_pos hM
    simp only [if_pos (show True ∧ isT x y from ⟨trivial, hxy⟩), if_true]
    refine Ev.bind iM ?_
    simp only [if_true]
    refine Ev.bind (kIn_val L (by omega) _ _) ?_
    have e0 : decide ((⟨(pickT x y L).f0, (pickT x y L).f1⟩ : S25) ∈ L) = true := decide_eq_true (pick_mem x y h0)
    rw [e0]
    refine Ev.up ?_
    simp only [laws_FnHandsMeet.j7, Bool.not_true, Bool.false_eq_true, if_false]
    exact l1_val hxy L hl hp hT h0 ⟨rfl, rfl⟩ L.length 0 (by omega)
  · simp only [if_neg c, Bool.false_eq_true, if_false]
    exact Ev.const
theorem back {p q s p' q' s' : Int} : aheadL p' q' s' p q s 0 1 = aheadL p q s p' q' s' 0 1 := by
  unfold aheadL
  by_cases c : (isH p q s ∧ isH p' q' s') ∧ s ≠ s'
  · rw [if_pos c, if_pos ⟨⟨c.1.2, c.1.1⟩, fun e => c.2 e.symm⟩]
    have b1 := isH_bd c.1.1
    have b2 := isH_bd c.1.2
    have hD := Int.mul_pos b1.2.1.1 b2.2.1.1
    have hD' := Int.mul_pos b2.2.1.1 b1.2.1.1
    have e : wayT (relT p' q' p q).1 (relT p' q' p q).2 (s' - s) 0 1 = wayT (relT p q p' q').1 (relT p q p' q').2 (s - s') 0 1 := by
      have r1 := (rel_bd c.1.1 c.1.2).2.1
      have r2 := (rel_bd c.1.2 c.1.1).2.1
      rw [wayT_eq _ _ _ r1.1 (by decide), wayT_eq _ _ _ r2.1 (by decide)]
      have f1 := mkT_mul (p * q' - p' * q) (-1) hD
      have f2 := mkT_mul (p' * q - p * q') (-1) hD'
      have i1 : mkT (relT p q p' q').1 (relT p q p' q').2 = relT p q p' q' := mkT_id r1
      have i2 : mkT (relT p' q' p q).1 (relT p' q' p q).2 = relT p' q' p q := mkT_id r2
      have g1 : relT p' q' p q = mkT ((relT p q p' q').1 * -1) (relT p q p' q').2 := by
        show mkT (p' * q - p * q') (q' * q) = mkT ((mkT (p * q' - p' * q) (q * q')).1 * -1) (mkT (p * q' - p' * q) (q * q')).2
        rw [f1]
        exact congr (congrArg mkT (by grind)) (by grind)
      have g2 : relT p q p' q' = mkT ((relT p' q' p q).1 * -1) (relT p' q' p q).2 := by
        show mkT (p * q' - p' * q) (q * q') = mkT ((mkT (p' * q - p * q') (q' * q)).1 * -1) (mkT (p' * q - p * q') (q' * q)).2
        rw [f2]
        exact congr (congrArg mkT (by grind)) (by grind)
      have z : ∀ u v : Int, 0 * v - u * 1 = u * -1 := fun u v => by omega
      have z2 : ∀ u v : Int, (0 * v - u * 1) * -1 = u := fun u v => by omega
      by_cases d : s - s' < 0
      · rw [if_pos d, if_neg (show ¬ s' - s < 0 by omega), z2, z, Int.one_mul, Int.one_mul, ← g2, i1]
      · rw [if_neg d, if_pos (show s' - s < 0 by have := c.2; omega), z2, z, Int.one_mul, Int.one_mul, i2, g1]
    unfold timesT timesL
    rw [e, show (s' - s).natAbs = (s - s').natAbs by omega]
  · rw [if_neg c, if_neg (fun z => c ⟨⟨z.1.2, z.1.1⟩, fun e => z.2 e.symm⟩)]
theorem sortT_len (l : List S25) : (sortT l).length ≤ l.length := by
  unfold sortT
  rw [List.length_map]
  have h := Lib.compact_length_le (sortP (l.map pairOf))
  rw [sortP_len, List.length_map] at h
  exact h
theorem placesT_yes {p q s p' q' s' : Int} {P : List S25} {five : Bool} (h : placesT p q s p' q' s' = (P, five)) : P.length ≤ 800 ∧ (five = true → ∃ L, aheadL p q s p' q' s' 0 1 = (L, true) ∧ P = sortT (L.map (atP p q s)) ∧ P.Pairwise lessT2 ∧ (∀ t ∈ P, isT t.f0 t.f1) ∧ P.length ≤ L.length ∧ 0 < P.length) := by
  unfold placesT at h
  generalize hM : aheadL p q s p' q' s' 0 1 = M at h ⊢
  obtain ⟨L, b⟩ := M
  obtain ⟨hl, hy⟩ := aheadL_yes low01 hM
  dsimp only at h
  cases b with
  | false =>
    simp only [Bool.false_eq_true, if_false, Prod.mk.injEq] at h
    obtain ⟨rfl, rfl⟩ := h
    exact ⟨by simp, fun x => by simp at x⟩
  | true =>
    simp only [if_true] at h
    unfold finP at h
    by_cases c : allT (L.map (atP p q s)) = true
    · rw [if_pos c] at h
      simp only [Prod.mk.injEq] at h
      obtain ⟨rfl, rfl⟩ := h
      have hT : ∀ t ∈ L.map (atP p q s), isT t.f0 t.f1 := fun t ht => of_decide_eq_true (List.all_eq_true.1 c t ht)
      have hle := sortT_len (L.map (atP p q s))
      rw [List.length_map] at hle
      have h0 := meet_pos hM
      refine ⟨by omega, fun _ => ⟨L, rfl, rfl, sortT_strict _ hT, fun t ht => hT t ((sortT_mem _ t).1 ht), hle, ?_⟩⟩
      exact List.length_pos_of_mem ((sortT_mem _ (atP p q s L[0])).2 (List.mem_map.2 ⟨L[0], List.getElem_mem h0, rfl⟩))
    · rw [if_neg c] at h
      simp only [Prod.mk.injEq] at h
      obtain ⟨rfl, rfl⟩ := h
      exact ⟨by simp, fun x => by simp at x⟩
section
variable {l : List Int} {p q s p' q' s' : Int} {P T : List S25} {five : Bool}
theorem j4_val (hb : bytesOk l) (hd : ∃ a b c d e f x y, Ev (fun k => spec_DrawNextMeet.f k l) (a, b, c, d, e, f, x, y)) (hP : placesT p q s p' q' s' = (P, five)) {n : Int} (hn : five = true → ∀ L, aheadL p q s p' q' s' 0 1 = (L, true) → n = (L.length : Int)) : Ev (fun k => laws_FnHandsMeet.j4 k l n P five) true := by
  obtain ⟨h1, h2⟩ := placesT_yes hP
  refine Ev.up ?_
  simp only [laws_FnHandsMeet.j4]
  cases five with
  | false =>
    simp only [Bool.false_eq_true, if_false]
    exact j5_val hb hd
  | true =>
    obtain ⟨L, c1, _, c3, c4, c5, c6⟩ := h2 rfl
    have e := hn rfl L c1
    simp only [if_true]
    refine Ev.bind (kRises_val P (by omega) c3 c4) ?_
    simp only [if_true, if_neg (show ¬ (P.length : Int) < 1 by omega), decide_eq_false (show ¬ (P.length : Int) > n by omega)]
    exact j5_val hb hd
theorem l0_val (hb : bytesOk l) (hd : ∃ a b c d e f x y, Ev (fun k => spec_DrawNextMeet.f k l) (a, b, c, d, e, f, x, y)) (hP : placesT p q s p' q' s' = (P, five)) (hM : aheadL p q s p' q' s' 0 1 = (T, true)) (g : Nat) : ∀ i : Nat, i + g = T.length → Ev (fun k => laws_FnHandsMeet.l0 k l T (T.length : Int) P five T (T.length : Int) i p q s p' q' s') true := by
  obtain ⟨hl, hy⟩ := aheadL_yes low01 hM
  obtain ⟨c1, c2, c3, hp, hT, hat⟩ := hy rfl
  have h0 := meet_pos hM
  obtain ⟨hPl, hP2⟩ := placesT_yes hP
  induction g with
  | zero =>
    intro i hi
    refine Ev.up ?_
    simp only [laws_FnHandsMeet.l0]
    simp only [if_neg (show ¬ (i : Int) < (T.length : Int) by omega)]
    have iM := iMeetTimes_val p' q' s' p q s
    rw [back, hM] at iM
    refine Ev.bind iM ?_
    simp only [if_true]
    refine Ev.bind (kTurns_val T (by omega)) ?_
    simp only [if_true]
    exact j4_val hb hd hP (fun _ L e => by rw [hM] at e; simp only [Prod.mk.injEq] at e; rw [e.1])
  | succ g ih =>
    intro i hi
    have hi2 : i < T.length := by omega
    have h := ih (i + 1) (by omega)
    have ht := hT _ (List.getElem_mem hi2)
    have same : handT p' q' s' (T[i]).f0 (T[i]).f1 = handT p q s (T[i]).f0 (T[i]).f1 := by
      unfold handT
      rw [if_pos ⟨c1.2, ht⟩, if_pos ⟨c1.1, ht⟩, (place_same c1.1 c1.2 ht).2 (hat _ (List.getElem_mem hi2))]
    have hin : five = true → (handT p q s (T[i]).f0 (T[i]).f1).2.2 = true → decide ((⟨(handT p q s (T[i]).f0 (T[i]).f1).1, (handT p q s (T[i]).f0 (T[i]).f1).2.1⟩ : S25) ∈ P) = true := by
      intro h5 hok
      obtain ⟨L, e1, e2, _⟩ := hP2 h5
      rw [hM] at e1
      simp only [Prod.mk.injEq] at e1
      obtain ⟨rfl, _⟩ := e1
      unfold handT at hok ⊢
      rw [if_pos ⟨c1.1, ht⟩] at hok ⊢
      unfold tell at hok ⊢
      by_cases c : (placeT p q s (T[i]).f0 (T[i]).f1).2 > 1000000
      · rw [if_pos c] at hok; simp at hok
      · rw [if_neg c, e2]
        exact decide_eq_true ((sortT_mem _ _).2 (List.mem_map.2 ⟨T[i], List.getElem_mem hi2, rfl⟩))
    have hmod : Int.tmod (wrap64 ((i : Int) + 1)) (T.length : Int) = (((i + 1) % T.length : Nat) : Int) := by
      rw [wid (by omega) (by omega), Int.tmod_eq_emod_of_nonneg (by omega), show ((i : Int) + 1) = ((i + 1 : Nat) : Int) from by omega]
      exact (Int.natCast_emod _ _).symm
    have hml : (i + 1) % T.length < T.length := Nat.mod_lt _ (by omega)
    have next : Ev (fun k => laws_FnHandsMeet.j3 k l T (T.length : Int) P five i T (T.length : Int) i false p q s p' q' s' (T[i]).f0 (T[i]).f1) true := by
      refine Ev.up ?_
      simp only [laws_FnHandsMeet.j3, Bool.false_eq_true, if_false]
      refine Ev.bind (iNextMeet_val p q s p' q' s' _ _) ?_
      unfold nextT
      rw [hM]
      dsimp only
      rw [if_pos ⟨rfl, ht⟩, pick_next hp hT i hi2, hmod]
      simp only [if_true, if_neg (show ¬ (T.length : Int) = 0 by omega), if_pos (show 0 ≤ (((i + 1) % T.length : Nat) : Int) by omega), if_pos (show (((i + 1) % T.length : Nat) : Int) < (T.length : Int) by omega), rdT_at T _ hml, beq_self_eq_true, Bool.not_true, Bool.or_false, Bool.false_eq_true, if_false]
      rw [wid (x := (i : Int) + 1) (by omega) (by omega)]
      exact h
    refine Ev.up ?_
    simp only [laws_FnHandsMeet.l0]
    simp only [if_pos (show (i : Int) < (T.length : Int) by omega), if_pos (show 0 ≤ (i : Int) by omega), rdT_at T i hi2]
    refine Ev.bind (iHandAt_val _ _ _ _ _) ?_
    refine Ev.bind (iHandAt_val _ _ _ _ _) ?_
    rw [same]
    generalize handT p q s (T[i]).f0 (T[i]).f1 = z at hin
    obtain ⟨z1, z2, z3⟩ := z
    simp only [bne_self_eq_false, Bool.false_eq_true, if_false, beq_self_eq_true, Bool.not_true, Bool.or_false]
    cases z3 with
    | false => simp only [Bool.false_eq_true, if_false]; exact next
    | true =>
      simp only [if_true]
      cases five with
      | false => simp only [Bool.false_eq_true, if_false]; exact next
      | true =>
        simp only [if_true]
        refine Ev.bind (kIn_val P (by omega) _ _) ?_
        rw [hin rfl rfl]
        exact next
theorem j0_val {n : Int} {one : Bool} {f1 f2 : Int} {three ok : Bool} (hb : bytesOk l) (hd : ∃ a b c d e f x y, Ev (fun k => spec_DrawNextMeet.f k l) (a, b, c, d, e, f, x, y)) (hP : placesT p q s p' q' s' = (P, five)) (hM : aheadL p q s p' q' s' 0 1 = (T, ok)) (hC : countT p q s p' q' s' = (n, one)) (hF : firstT p q s p' q' s' = (f1, f2, three)) : Ev (fun k => laws_FnHandsMeet.j0 k l T ok n P five false p q s p' q' s' f1 f2) true := by
  refine Ev.up ?_
  simp only [laws_FnHandsMeet.j0, Bool.false_eq_true, if_false]
  cases ok with
  | false =>
    simp only [Bool.false_eq_true, if_false]
    exact j4_val hb hd hP (fun _ L e => by rw [hM] at e; simp at e)
  | true =>
    obtain ⟨hl, hy⟩ := aheadL_yes low01 hM
    obtain ⟨c1, c2, c3, hp, hT, hat⟩ := hy rfl
    have h0 := meet_pos hM
    have q1 := isH_bd c1.1
    have q2 := isH_bd c1.2
    unfold countT at hC
    rw [if_pos ⟨c1, c2⟩] at hC
    simp only [Prod.mk.injEq] at hC
    obtain ⟨rfl, rfl⟩ := hC
    unfold firstT at hF
    rw [hM] at hF
    simp only [if_true, Prod.mk.injEq] at hF
    obtain ⟨rfl, rfl, _⟩ := hF
    rw [← c3, wid (x := s - s') (by omega) (by omega), kAbs_val (by omega), ← c3]
    simp only [if_true, Option.bind_some, if_pos (show 0 < (T.length : Int) by omega), beq_self_eq_true, Bool.not_true, Bool.or_false, Bool.false_eq_true, if_false]
    refine Ev.bind (kRises_val T (by omega) hp hT) ?_
    refine Ev.up ?_
    simp only [laws_FnHandsMeet.j1, Bool.not_true, Bool.false_eq_true, if_false]
    exact l0_val hb hd hP hM T.length 0 (by omega)
end
theorem drawRel_tot {l : List Int} (hl : bytesOk l) : ∃ a b c d e f, Ev (fun k => spec_DrawMeetTimes.f k l) (a, b, c, d, e, f) := by
  obtain ⟨a, b, c, j, s1, e1, c1⟩ := hand_tot hl (i := 0) (by omega) (by omega) 0
  obtain ⟨d, e, f, j2, s2, e2, c2⟩ := hand_tot hl (i := j) (by omega) (by omega) s1
  refine ⟨a, b, c, d, e, f, ?_⟩
  unfold spec_DrawMeetTimes.f spec_DrawRelativeHand.f
  exact Ev.bind (Ev.bind e1 (Ev.bind e2 ⟨0, fun _ _ => rfl⟩)) ⟨0, fun _ _ => rfl⟩
theorem drawNext_tot {l : List Int} (hl : bytesOk l) : ∃ a b c d e f x y, Ev (fun k => spec_DrawNextMeet.f k l) (a, b, c, d, e, f, x, y) := by
  obtain ⟨a, b, c, j, s1, e1, c1⟩ := hand_tot hl (i := 0) (by omega) (by omega) 0
  obtain ⟨d, e, f, j2, s2, e2, c2⟩ := hand_tot hl (i := j) (by omega) (by omega) s1
  have sM := sMeetTimes_val a b c d e f
  unfold spec_DrawNextMeet.f
  generalize hM : aheadL a b c d e f 0 1 = M at sM
  obtain ⟨L, ok⟩ := M
  obtain ⟨hlen, _⟩ := aheadL_yes low01 hM
  cases ok with
  | false =>
    obtain ⟨x, y, j3, s3, e3, c3⟩ := turn_tot hl (i := j2) (by omega) (by omega) s2
    refine ⟨a, b, c, d, e, f, x, y, Ev.bind e1 (Ev.bind e2 (Ev.bind sM ?_))⟩
    simp only [Bool.false_eq_true, if_false]
    exact Ev.bind e3 ⟨0, fun _ _ => rfl⟩
  | true =>
    have h0 := meet_pos hM
    obtain ⟨o, j3, s3, e3, b3, c3⟩ := pick_tot hl (i := j2) (by omega) (by omega) s2 (n := 2) (by omega)
    by_cases u0 : o = 0
    · obtain ⟨v, j4, s4, e4, b4, c4⟩ := pick_tot hl (i := j3) (by omega) (by omega) s3 (n := (L.length : Int)) (by omega)
      refine ⟨a, b, c, d, e, f, (rd_T25 L v).f0, (rd_T25 L v).f1, Ev.bind e1 (Ev.bind e2 (Ev.bind sM ?_))⟩
      unfold spec_l1Cur_one.f
      simp only [if_true, e3, Option.bind_some, beq_iff_eq.mpr u0, e4, if_pos (show 0 ≤ v ∧ v < (L.length : Int) by omega)]
      exact ⟨0, fun _ _ => rfl⟩
    · obtain ⟨x, y, j4, s4, e4, c4⟩ := turn_tot hl (i := j3) (by omega) (by omega) s3
      refine ⟨a, b, c, d, e, f, x, y, Ev.bind e1 (Ev.bind e2 (Ev.bind sM ?_))⟩
      unfold spec_l1Cur_one.f
      simp only [if_true, e3, Option.bind_some, beq_eq_false_iff_ne.mpr u0, Bool.false_eq_true, if_false]
      exact Ev.bind e4 ⟨0, fun _ _ => rfl⟩
theorem FnHandsMeet : laws_FnHandsMeet.Pure := by
  intro l0 l1 _ _ h0 _ _ h1
  have hb0 := bytes_of h0
  have hb1 := bytes_of h1
  have hd := drawNext_tot hb1
  have main : Ev (fun k => laws_FnHandsMeet.f k l0 l1) true := by
    unfold laws_FnHandsMeet.f
    obtain ⟨b, eb⟩ := big_val l0 l1
    simp only [eb, Option.bind_some]
    cases b with
    | true => simp only [if_true]; exact Ev.const
    | false =>
      simp only [Bool.false_eq_true, if_false]
      obtain ⟨p, q, s, p', q', s', e⟩ := drawRel_tot hb0
      refine Ev.bind e ?_
      refine Ev.bind (iMeetTimes_val _ _ _ _ _ _) ?_
      refine Ev.bind (sMeetTimes_val _ _ _ _ _ _) ?_
      simp only [iCountMeets_val, Option.bind_some]
      refine Ev.bind (sCountMeets_val _ _ _ _ _ _) ?_
      refine Ev.bind (iFirstMeet_val _ _ _ _ _ _) ?_
      refine Ev.bind (sFirstMeet_val _ _ _ _ _ _) ?_
      refine Ev.bind (iMeetPlaces_val _ _ _ _ _ _) ?_
      refine Ev.bind (sMeetPlaces_val _ _ _ _ _ _) ?_
      try dsimp only
      generalize hM : aheadL p q s p' q' s' 0 1 = M
      generalize hC : countT p q s p' q' s' = C
      generalize hF : firstT p q s p' q' s' = F
      generalize hP : placesT p q s p' q' s' = P
      obtain ⟨T, ok⟩ := M
      obtain ⟨n, one⟩ := C
      obtain ⟨f1, f2, three⟩ := F
      obtain ⟨P, five⟩ := P
      have hl := (aheadL_yes low01 hM).1
      have hpl := (placesT_yes hP).1
      have k1 : three = ok := by
        unfold firstT at hF
        rw [hM] at hF
        cases ok <;> simp at hF <;> simp [hF]
      have k2 : five = true → ok = true := by
        intro h5
        obtain ⟨L, e1, _⟩ := (placesT_yes hP).2 h5
        rw [hM] at e1
        simp only [Prod.mk.injEq] at e1
        exact e1.2
      have k3 : ok = true → one = true := by
        intro ho
        obtain ⟨c1, c2, _⟩ := (aheadL_yes low01 hM).2 ho
        unfold countT at hC
        rw [if_pos ⟨c1, c2⟩] at hC
        simp only [Prod.mk.injEq] at hC
        exact hC.2.symm
      have fin := j0_val hb1 hd hP hM hC hF
      simp only [bne_self_eq_false, Bool.false_eq_true, if_false, beq_self_eq_true, Bool.not_true, Bool.or_false, if_true]
      refine Ev.bind (kTurns_val T (by omega)) ?_
      simp only [if_true]
      refine Ev.bind (kTurns_val P (by omega)) ?_
      subst k1
      simp only [if_true, bne_self_eq_false, Bool.false_eq_true, if_false]
      have last : Ev (fun k => (impl_IsHand.f k p q s).bind fun t555 => ((spec_IsHand.f k p q s).bind fun t556 => (laws_FnHandsMeet.j0 k l1 T three n P five (t555 != t556) p q s p' q' s' f1 f2))) true := by
        refine Ev.bind (IsHand_val p q s) ?_
        refine Ev.bind (sIsHand_val p q s) ?_
        simp only [bne_self_eq_false]
        exact fin
      cases five with
      | true =>
        obtain rfl := k2 rfl
        obtain rfl := k3 rfl
        simp only [if_true]
        exact last
      | false =>
        simp only [Bool.false_eq_true, if_false]
        cases three with
        | true =>
          obtain rfl := k3 rfl
          simp only [if_true]
          exact last
        | false =>
          simp only [Bool.false_eq_true, if_false]
          exact last
  obtain ⟨K, h⟩ := main
  exact ⟨K, h K (Nat.le_refl _)⟩

end Go.Proofs.Ytoneipoioiokcaa.Pure
