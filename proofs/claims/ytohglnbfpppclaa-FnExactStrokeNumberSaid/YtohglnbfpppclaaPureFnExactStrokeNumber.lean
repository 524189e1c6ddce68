/- For every dial and every number of a stroke the program's StrokeNumber answers as the reference does; no condition. -/
import Derived.Test.YtohglnbfpppclaaPFnExactStrokeNumberx2
set_option linter.unusedVariables false
set_option linter.unusedSimpArgs false
namespace Go.Proofs.Ytohglnbfpppclaa.Pure
open Go.RowKit Go.Proofs.Ytohglnbfpppclaa.PFnExactStrokeNumber Go.Proofs.YtohglnbfpppclaaW.PrintWords Go.Proofs.YtohglnbfpppclaaW.PrintLast Go.Proofs.YtohglnbfpppclaaW.PrintMore

/-! base: whole numbers of 64 bits -/
theorem wid {x : Int} (h0 : -9223372036854775808 ≤ x) (h1 : x ≤ 9223372036854775807) : wrap64 x = x := by unfold wrap64; omega
theorem wf_bd {a : Int} (h : (Lit.int .i64 a).wf = true) : -9223372036854775808 ≤ a ∧ a ≤ 9223372036854775807 := by
  simp only [Lit.wf, IntKind.min, IntKind.max, IntKind.signed, IntKind.bits, Bool.and_eq_true, decide_eq_true_eq] at h
  simp at h
  exact h
theorem tmod_nn {a : Int} (b : Int) (h : 0 ≤ a) : Int.tmod a b = a % b := Int.tmod_eq_emod_of_nonneg h
theorem tdiv_nn {a : Int} (b : Int) (h : 0 ≤ a) : Int.tdiv a b = a / b := Int.tdiv_eq_ediv_of_nonneg h
theorem mul_bd {x y M N : Int} (hx : -M ≤ x ∧ x ≤ M) (hy : -N ≤ y ∧ y ≤ N) : -(M * N) ≤ x * y ∧ x * y ≤ M * N := by
  have h1 : x.natAbs ≤ M.natAbs := by omega
  have h2 : y.natAbs ≤ N.natAbs := by omega
  have h3 := Nat.mul_le_mul h1 h2
  rw [← Int.natAbs_mul, ← Int.natAbs_mul] at h3
  have h4 : 0 ≤ M * N := Int.mul_nonneg (by omega) (by omega)
  omega
theorem l1In_val (a b c : Int) : spec_l1In.f a b c = some (decide (b ≤ a ∧ a ≤ c)) := by
  unfold spec_l1In.f
  by_cases h : a ≥ b
  · have e : (b ≤ a ∧ a ≤ c) ↔ a ≤ c := ⟨fun x => x.2, fun x => ⟨h, x⟩⟩
    rw [if_pos h, decide_eq_decide.mpr e]
  · rw [if_neg h, decide_eq_false (fun x => h x.1)]
theorem within_val (a b c : Int) : impl_within.f a b c = some (decide (b ≤ a ∧ a ≤ c)) := by
  unfold impl_within.f
  by_cases h : a ≥ b
  · have e : (b ≤ a ∧ a ≤ c) ↔ a ≤ c := ⟨fun x => x.2, fun x => ⟨h, x⟩⟩
    rw [if_pos h, decide_eq_decide.mpr e]
  · rw [if_neg h, decide_eq_false (fun x => h x.1)]
theorem diHours_val (h : Int) : spec_diHours.f h = some (decide (2 ≤ h ∧ h ≤ 24)) := by
  unfold spec_diHours.f; rw [l1In_val]; rfl
theorem isDial_val (h : Int) : impl_isDial.f h = some (decide (2 ≤ h ∧ h ≤ 24)) := by
  unfold impl_isDial.f; rw [within_val]; rfl
def st (h j : Int) : Int := if j % 2 = 1 then 1 else if j = 0 then h else j / 2
theorem st_pos {h j : Int} (hh : 2 ≤ h) (h0 : 0 ≤ j) : 1 ≤ st h j := by
  unfold st; split
  · omega
  · split <;> omega
theorem st_le {h j : Int} (hh : 2 ≤ h) (h1 : j < 2 * h) : st h j ≤ h := by
  unfold st; split
  · omega
  · split <;> omega
theorem stAt_val (h : Int) {j : Int} (h0 : 0 ≤ j) (h1 : j ≤ 4611686018427387904) : spec_stAt.f h j = some (st h j) := by
  unfold spec_stAt.f st
  rw [tmod_nn _ h0, tdiv_nn _ h0]
  split
  · rfl
  · split
    · rfl
    · rw [wid (by omega) (by omega)]
theorem strokes_val {h j : Int} (hd : 2 ≤ h ∧ h ≤ 24) (h0 : 0 ≤ j) : impl_strokes.f h j = some (st h (j % (2 * h))) := by
  have hw : wrap64 (2 * h) = 2 * h := wid (by omega) (by omega)
  have hm : 0 ≤ j % (2 * h) := Int.emod_nonneg _ (by omega)
  have hl : j % (2 * h) < 2 * h := Int.emod_lt_of_pos _ (by omega)
  unfold impl_strokes.f st
  rw [hw, tmod_nn _ h0, tmod_nn _ hm, tdiv_nn _ hm, if_neg (by omega)]
  by_cases h1 : j % (2 * h) = 0
  · rw [if_pos h1, h1]; simp
  · rw [if_neg h1]
    by_cases h2 : j % (2 * h) % 2 = 1
    · rw [if_pos h2, if_pos h2]
    · rw [if_neg h2, if_neg h2, if_neg h1, wid (by omega) (by omega)]
/-- The strokes at the first n halves. -/
def S (h : Int) : Nat → Int
  | 0 => 0
  | n + 1 => S h n + st h ((n : Int) % (2 * h))
def T (h : Int) : Int := h * (h + 1) / 2 + h
theorem S_le {h : Int} (hh : 2 ≤ h) (n : Nat) : ∀ m, S h n ≤ S h (n + m)
  | 0 => Int.le_refl _
  | m + 1 => by
    have h1 := S_le hh n m
    have h2 := st_pos hh (Int.emod_nonneg ((n + m : Nat) : Int) (show 2 * h ≠ 0 by omega))
    show S h n ≤ S h (n + m) + st h (((n + m : Nat) : Int) % (2 * h))
    omega
theorem S_mono {h : Int} (hh : 2 ≤ h) {n m : Nat} (hm : n ≤ m) : S h n ≤ S h m := by
  obtain ⟨d, rfl⟩ := Nat.exists_eq_add_of_le hm
  exact S_le hh n d
theorem S_up {h : Int} (hh : 2 ≤ h ∧ h ≤ 24) : ∀ n : Nat, 0 ≤ S h n ∧ S h n ≤ 24 * n
  | 0 => ⟨Int.le_refl _, Int.le_refl _⟩
  | n + 1 => by
    have h1 := S_up hh n
    have h2 := st_pos hh.1 (Int.emod_nonneg (n : Int) (show 2 * h ≠ 0 by omega))
    have h3 := st_le (j := (n : Int) % (2 * h)) hh.1 (Int.emod_lt_of_pos _ (by omega))
    show 0 ≤ S h n + _ ∧ S h n + st h ((n : Int) % (2 * h)) ≤ 24 * ((n + 1 : Nat) : Int)
    omega
theorem S_turn_all : ∀ x : Fin 25, 2 ≤ x.val → S (x.val : Int) (2 * x.val) = T (x.val : Int) := by decide +kernel
theorem S_turn {h : Int} (hh : 2 ≤ h ∧ h ≤ 24) {m : Nat} (hm : (m : Int) = 2 * h) : S h m = T h := by
  have := S_turn_all ⟨h.toNat, by omega⟩ (by show 2 ≤ h.toNat; omega)
  have e : ((h.toNat : Nat) : Int) = h := by omega
  have e2 : 2 * h.toNat = m := by omega
  simp only [e, e2] at this
  exact this
theorem S_add {h : Int} (hh : 2 ≤ h ∧ h ≤ 24) {m : Nat} (hm : (m : Int) = 2 * h) : ∀ n : Nat, S h (m + n) = T h + S h n
  | 0 => by rw [Nat.add_zero, S_turn hh hm]; show _ = T h + 0; omega
  | n + 1 => by
    show S h (m + n) + st h (((m + n : Nat) : Int) % (2 * h)) = T h + (S h n + st h ((n : Int) % (2 * h)))
    rw [S_add hh hm n]
    have e : ((m + n : Nat) : Int) % (2 * h) = (n : Int) % (2 * h) := by
      have : ((m + n : Nat) : Int) = (n : Int) + (2 * h) := by omega
      rw [this, Int.add_emod_right]
    rw [e]; omega
theorem S_mul {h : Int} (hh : 2 ≤ h ∧ h ≤ 24) {m : Nat} (hm : (m : Int) = 2 * h) (n : Nat) : ∀ q : Nat, S h (m * q + n) = T h * q + S h n
  | 0 => by simp
  | q + 1 => by
    have : m * (q + 1) + n = m + (m * q + n) := by rw [Nat.mul_succ]; omega
    rw [this, S_add hh hm, S_mul hh hm n q]
    have : T h * ((q + 1 : Nat) : Int) = T h * q + T h := by rw [show ((q + 1 : Nat) : Int) = (q : Int) + 1 from rfl, Int.mul_add, Int.mul_one]
    omega
theorem T_bd {h : Int} (hh : 2 ≤ h ∧ h ≤ 24) : 5 ≤ T h ∧ T h ≤ 324 := by
  unfold T
  have h1 : h * (h + 1) ≤ 24 * 25 := Int.mul_le_mul hh.2 (by omega) (by omega) (by omega)
  have h2 : 2 * 3 ≤ h * (h + 1) := Int.mul_le_mul hh.1 (by omega) (by omega) (by omega)
  omega
theorem T_wrap {h : Int} (hh : 2 ≤ h ∧ h ≤ 24) : wrap64 (wrap64 ((wrap64 (h * wrap64 (h + 1))).tdiv 2) + h) = T h := by
  have h1 : h * (h + 1) ≤ 24 * 25 := Int.mul_le_mul hh.2 (by omega) (by omega) (by omega)
  have h2 : 2 * 3 ≤ h * (h + 1) := Int.mul_le_mul hh.1 (by omega) (by omega) (by omega)
  rw [wid (x := h + 1) (by omega) (by omega), wid (x := h * (h + 1)) (by omega) (by omega), tdiv_nn _ (by omega), wid (x := h * (h + 1) / 2) (by omega) (by omega), wid (by omega) (by omega)]
  rfl
/-- A number of halves, by turns and the rest. -/
theorem S_split {h : Int} (hh : 2 ≤ h ∧ h ≤ 24) (n : Nat) : S h n = (n : Int) / (2 * h) * T h + S h (((n : Int) % (2 * h)).toNat) := by
  obtain ⟨m, hm⟩ : ∃ m : Nat, (m : Int) = 2 * h := ⟨(2 * h).toNat, by omega⟩
  have hq : 0 ≤ (n : Int) / (2 * h) := Int.ediv_nonneg (by omega) (by omega)
  have hr : 0 ≤ (n : Int) % (2 * h) := Int.emod_nonneg _ (by omega)
  have := S_mul hh hm ((n : Int) % (2 * h)).toNat ((n : Int) / (2 * h)).toNat
  have e : m * ((n : Int) / (2 * h)).toNat + ((n : Int) % (2 * h)).toNat = n := by
    have h1 := Int.mul_ediv_add_emod (n : Int) (2 * h)
    apply Int.ofNat.inj
    show ((m * ((n : Int) / (2 * h)).toNat + ((n : Int) % (2 * h)).toNat : Nat) : Int) = (n : Int)
    rw [Int.natCast_add, Int.natCast_mul, hm, Int.toNat_of_nonneg hq, Int.toNat_of_nonneg hr]
    exact h1
  rw [e, Int.toNat_of_nonneg hq, Int.mul_comm] at this
  exact this
/-- Two functions that come to the same: the law over them. -/
theorem same_ib {g f : Nat → Option (Int × Bool)} {v : Int × Bool} (hg : Ev g v) (hf : Ev f v) :
    ∃ k, ((g k).bind fun b => ((f k).bind fun c => (if c.1 = b.1 then (if (c.2 != b.2) = true then (some false) else (some true)) else (some false)))) = some true := by
  obtain ⟨K, h1⟩ := hg
  obtain ⟨K', h2⟩ := hf
  refine ⟨max K K', ?_⟩
  rw [h1 _ (by omega), h2 _ (by omega)]
  simp
theorem same_iib {g f : Nat → Option (Int × Int × Bool)} {v : Int × Int × Bool} (hg : Ev g v) (hf : Ev f v) :
    ∃ k, ((g k).bind fun b => ((f k).bind fun c => (if c.1 = b.1 then (if c.2.1 = b.2.1 then (if (c.2.2 != b.2.2) = true then (some false) else (some true)) else (some false)) else (some false)))) = some true := by
  obtain ⟨K, h1⟩ := hg
  obtain ⟨K', h2⟩ := hf
  refine ⟨max K K', ?_⟩
  rw [h1 _ (by omega), h2 _ (by omega)]
  simp
theorem Ev.mk {α : Type} {g : Nat → Option α} {r : α} (K : Nat) (h : ∀ k, K ≤ k → g k = some r) : Ev g r := ⟨K, h⟩
theorem number_loop {h : Int} (hd : 2 ≤ h ∧ h ≤ 24) (d : Nat) : ∀ (n x : Int), 1 ≤ n → n ≤ d → 0 ≤ x → x + d ≤ 400000000000 →
    ∃ r : Int × Int, ∀ k, d < k → impl_strokeNumber.l0 k h n x = some r ∧ spec_StrokeNumber.l0 k h n x = some (r.1, r.2, true) := by
  induction d with
  | zero => intro n x h1 h2; omega
  | succ d ih =>
    intro n x h1 h2 h3 h4
    have hm : 0 ≤ x % (2 * h) := Int.emod_nonneg _ (by omega)
    have hl : x % (2 * h) < 2 * h := Int.emod_lt_of_pos _ (by omega)
    have p := st_pos (h := h) (j := x % (2 * h)) hd.1 hm
    have q := st_le (h := h) (j := x % (2 * h)) hd.1 hl
    by_cases hgt : n > st h (x % (2 * h))
    · obtain ⟨r, hr⟩ := ih (n - st h (x % (2 * h))) (x + 1) (by omega) (by omega) (by omega) (by omega)
      refine ⟨r, fun k hk => ?_⟩
      obtain ⟨k, rfl⟩ : ∃ m, k = m + 1 := ⟨k - 1, by omega⟩
      simp only [spec_StrokeNumber.l0, impl_strokeNumber.l0]
      rw [wid (x := 2 * h) (by omega) (by omega), if_neg (by omega), tmod_nn _ h3, stAt_val _ hm (by omega), strokes_val hd h3]
      simp only [Option.bind_some, if_pos hgt]
      rw [wid (x := n - st h (x % (2 * h))) (by omega) (by omega), wid (x := x + 1) (by omega) (by omega)]
      exact hr k (by omega)
    · refine ⟨(x, n), fun k hk => ?_⟩
      obtain ⟨k, rfl⟩ : ∃ m, k = m + 1 := ⟨k - 1, by omega⟩
      simp only [spec_StrokeNumber.l0, impl_strokeNumber.l0]
      rw [wid (x := 2 * h) (by omega) (by omega), if_neg (by omega), tmod_nn _ h3, stAt_val _ hm (by omega), strokes_val hd h3]
      simp only [Option.bind_some, if_neg hgt, and_self]
theorem FnExactStrokeNumber : laws_FnExactStrokeNumber.Pure := by
  intro h n _ _
  suffices H : ∃ v, Ev (fun k => spec_StrokeNumber.f k h n) v ∧ Ev (fun k => impl_StrokeNumber.f k h n) v by
    obtain ⟨v, h1, h2⟩ := H
    exact same_iib h1 h2
  have no : Ev (fun k => spec_StrokeNumber.j0 k h n true) (0, 0, false) := by
    refine ⟨1, fun k hk => ?_⟩; obtain ⟨k, rfl⟩ : ∃ m, k = m + 1 := ⟨k - 1, by omega⟩; rfl
  unfold spec_StrokeNumber.f impl_StrokeNumber.f impl_strokeNumber.f impl_ofTurn.f
  simp only [diHours_val, isDial_val, l1In_val, within_val, Option.bind_some]
  by_cases hd : 2 ≤ h ∧ h ≤ 24
  · simp only [decide_eq_true hd, if_true]
    by_cases hn : 1 ≤ n ∧ n ≤ 1000000000
    · simp only [decide_eq_true hn, Bool.not_true, if_true]
      have t := T_bd hd
      simp only [T_wrap hd]
      have q0 : 0 ≤ (n - 1) / T h := Int.ediv_nonneg (by omega) (by omega)
      have q1 : (n - 1) / T h ≤ n - 1 := Int.ediv_le_self _ (by omega)
      have m0 : 0 ≤ (n - 1) % T h := Int.emod_nonneg _ (by omega)
      have m1 : (n - 1) % T h < T h := Int.emod_lt_of_pos _ (by omega)
      have e := Int.mul_ediv_add_emod (n - 1) (T h)
      have x0 : 0 ≤ (n - 1) / T h * 2 * h := Int.mul_nonneg (by omega) (by omega)
      have x1 : (n - 1) / T h * 2 * h ≤ (1000000000 * 2) * 24 := Int.mul_le_mul (by omega) hd.2 (by omega) (by omega)
      have y0 : 0 ≤ (n - 1) / T h * T h := Int.mul_nonneg q0 (by omega)
      have y1 : (n - 1) / T h * T h ≤ 1000000000 * 324 := Int.mul_le_mul (by omega) t.2 (by omega) (by omega)
      have ey : T h * ((n - 1) / T h) = (n - 1) / T h * T h := Int.mul_comm _ _
      obtain ⟨r, hr⟩ := number_loop hd 324 ((n - 1) % T h + 1) ((n - 1) / T h * 2 * h) (by omega) (by omega) x0 (by omega)
      refine ⟨(r.1, r.2, true), ⟨400, fun k hk => ?_⟩, ⟨400, fun k hk => ?_⟩⟩
      · obtain ⟨k, rfl⟩ : ∃ m, k = m + 1 := ⟨k - 1, by omega⟩
        simp only [spec_StrokeNumber.j0, spec_stTurn.f, T_wrap hd, Option.bind_some]
        rw [if_neg (by simp), if_neg (by omega), wid (x := n - 1) (by omega) (by omega), tdiv_nn _ (by omega), wid (x := (n - 1) / T h) (by omega) (by omega), wid (x := (n - 1) / T h * 2) (by omega) (by omega), wid (x := (n - 1) / T h * 2 * h) (by omega) (by omega), wid (x := (n - 1) / T h * T h) (by omega) (by omega), wid (x := n - (n - 1) / T h * T h) (by omega) (by omega)]
        rw [show n - (n - 1) / T h * T h = (n - 1) % T h + 1 by omega]
        exact (hr k (by omega)).2
      · dsimp only
        rw [if_neg (by omega), wid (x := n - 1) (by omega) (by omega), tdiv_nn _ (by omega), tmod_nn _ (by omega), wid (x := (n - 1) / T h) (by omega) (by omega), wid (x := (n - 1) / T h * 2) (by omega) (by omega), wid (x := (n - 1) / T h * 2 * h) (by omega) (by omega), wid (x := (n - 1) % T h + 1) (by omega) (by omega)]
        show ((impl_strokeNumber.l0 k h _ _).bind _) = _
        rw [(hr k (by omega)).1]
        rfl
    · simp only [decide_eq_false hn, Bool.not_false]
      exact ⟨_, no, ⟨0, fun k _ => by simp⟩⟩
  · simp only [decide_eq_false hd]
    exact ⟨_, no, ⟨0, fun k _ => by simp⟩⟩

end Go.Proofs.Ytohglnbfpppclaa.Pure
