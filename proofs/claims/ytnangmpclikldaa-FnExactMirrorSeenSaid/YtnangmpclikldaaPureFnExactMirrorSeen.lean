/- For every two parts the program's MirrorSeen answers as the reference does; no condition. -/
import Derived.Test.YtnangmpclikldaaPFnExactMirrorSeenx5
set_option linter.unusedVariables false
set_option linter.unusedSimpArgs false
namespace Go.Proofs.Ytnangmpclikldaa.Pure
open Go.RowKit Go.Proofs.Ytnangmpclikldaa.PFnExactMirrorSeen Go.Proofs.YtnangmpclikldaaW.PrintWords Go.Proofs.YtnangmpclikldaaW.PrintLast Go.Proofs.YtnangmpclikldaaW.PrintMore

theorem l1In_val (a b c : Int) : spec_l1In.f a b c = some (decide (b ≤ a ∧ a ≤ c)) := by
  unfold spec_l1In.f
  by_cases h : a ≥ b
  · have e : (b ≤ a ∧ a ≤ c) ↔ a ≤ c := ⟨fun x => x.2, fun x => ⟨h, x⟩⟩
    rw [if_pos h, decide_eq_decide.mpr e]
  · rw [if_neg h, decide_eq_false (fun x => h x.1)]
theorem diCommon_ev : ∀ (n : Nat) (a b : Int), 0 ≤ a → 0 ≤ b → b.toNat ≤ n → ∀ k, n < k → spec_diCommon.l0 k a b = some (gI a b)
  | 0, a, b, ha, hb, hn, k, hk => by
    obtain ⟨k, rfl⟩ : ∃ m, k = m + 1 := ⟨k - 1, by omega⟩
    have : b = 0 := by omega
    subst this
    simp only [spec_diCommon.l0]
    rw [if_neg (by omega)]
    unfold gI
    rw [Int.gcd_zero_right]; congr 1; omega
  | n + 1, a, b, ha, hb, hn, k, hk => by
    obtain ⟨k, rfl⟩ : ∃ m, k = m + 1 := ⟨k - 1, by omega⟩
    simp only [spec_diCommon.l0]
    by_cases h0 : b = 0
    · subst h0
      rw [if_neg (by omega)]
      unfold gI
      rw [Int.gcd_zero_right]; congr 1; omega
    · have h1 : 0 ≤ Int.tmod a b := by rw [tmod_nn _ ha]; exact Int.emod_nonneg _ h0
      have h2 : Int.tmod a b < b := by rw [tmod_nn _ ha]; exact Int.emod_lt_of_pos _ (by omega)
      rw [if_pos (by omega), if_neg h0, diCommon_ev n b (Int.tmod a b) hb h1 (by omega) k (by omega), gI_tmod]
theorem diCommon_val {a b : Int} (ha : 0 ≤ a) (hb : 0 ≤ b) : Ev (fun k => spec_diCommon.f k a b) (gI a b) :=
  ⟨b.toNat + 1, fun k hk => diCommon_ev b.toNat a b ha hb (Nat.le_refl _) k (by omega)⟩
theorem diGood_val (a b : Int) : Ev (fun k => spec_diGood.f k a b) (decide (isT a b)) := by
  unfold spec_diGood.f
  simp only [l1In_val, Option.bind_some]
  by_cases h1 : 1 ≤ b ∧ b ≤ 1000000
  · simp only [decide_eq_true h1, if_true]
    rw [wid (x := b - 1) (by omega) (by omega)]
    by_cases h2 : 0 ≤ a ∧ a ≤ b - 1
    · simp only [decide_eq_true h2, if_true]
      refine Ev.bind (diCommon_val h2.1 (by omega)) ?_
      refine ⟨0, fun _ _ => ?_⟩
      unfold isT
      rw [show (gI a b == 1) = decide (gI a b = 1) from Bool.eq_iff_iff.mpr (by simp)]
      simp [h1, h2]
    · simp only [decide_eq_false h2]
      exact ⟨0, fun _ _ => by unfold isT; simp [h2]⟩
  · simp only [decide_eq_false h1]
    exact ⟨0, fun _ _ => by unfold isT; simp [h1]⟩
def isD (h : Int) : Prop := 2 ≤ h ∧ h ≤ 24
instance (h : Int) : Decidable (isD h) := by unfold isD; exact inferInstance
theorem Ev.and {g : Nat → Option Bool} {p q : Prop} [Decidable p] [Decidable q] (h : Ev g (decide q)) : Ev (fun k => if decide p = true then (g k).bind fun t => some t else some false) (decide (p ∧ q)) := by
  by_cases hp : p
  · simp only [decide_eq_true hp, if_true]
    refine Ev.bind h ⟨0, fun _ _ => ?_⟩
    simp [hp]
  · simp only [decide_eq_false hp]
    exact ⟨0, fun _ _ => by simp [hp]⟩
theorem seGood_val (a b c d : Int) : Ev (fun k => spec_seGood.f k a b c d) (decide (isT a b ∧ isT c d)) := by
  unfold spec_seGood.f
  refine Ev.bind (diGood_val a b) ?_
  exact Ev.and (diGood_val c d)
theorem iIsSeen_val (a b c d : Int) : impl_IsSeen.f a b c d = some (decide (isT a b ∧ isT c d)) := by
  unfold impl_IsSeen.f impl_areTurns.f
  simp only [Option.bind_some, List.all_cons, List.all_nil, Bool.and_true]
  by_cases ha : isT a b <;> by_cases hb : isT c d <;> simp [ha, hb]
/-- What diMake tells of a part in lowest terms: it, if it is a turn. -/
def tell (t : Int × Int) : Int × Int × Bool := if t.2 > 1000000 then (0, 0, false) else (t.1, t.2, true)
theorem norm_mod (n : Int) {d : Int} (hd : 0 < d) : (Int.tmod n d + d) % d = n % d := by
  rw [Int.add_emod_right]
  have e := Int.mul_tdiv_add_tmod n d
  have : n % d = (Int.tmod n d + d * Int.tdiv n d) % d := by rw [Int.add_comm, e]
  rw [this, Int.add_mul_emod_self_left]
theorem diMake_val {n d : Int} (hd : 0 < d) (hb : d ≤ 4611686018427387904) : Ev (fun k => spec_diMake.f k n d) (tell (mkT n d)) := by
  unfold spec_diMake.f
  obtain ⟨t1, t0⟩ := tmod_bd n hd
  have g0 := gI_pos (a := n % d) (show d ≠ 0 by omega)
  have m0 : 0 ≤ n % d := Int.emod_nonneg _ (by omega)
  have m1 : n % d < d := Int.emod_lt_of_pos _ hd
  have q0 : 0 ≤ d / gI (n % d) d := Int.ediv_nonneg (by omega) (by omega)
  have q1 : d / gI (n % d) d ≤ d := Int.ediv_le_self _ (by omega)
  have r0 : 0 ≤ n % d / gI (n % d) d := Int.ediv_nonneg (by omega) (by omega)
  have r1 : n % d / gI (n % d) d ≤ n % d := Int.ediv_le_self _ (by omega)
  simp only [if_neg (show ¬ d = 0 by omega)]
  rw [wid (x := Int.tmod n d + d) (by omega) (by omega), tmod_nn _ (show 0 ≤ Int.tmod n d + d by omega), norm_mod n hd]
  refine Ev.bind (diCommon_val m0 (by omega)) ?_
  rw [if_neg (by omega), tdiv_nn _ m0, tdiv_nn _ (by omega), wid (x := d / gI (n % d) d) (by omega) (by omega), wid (x := n % d / gI (n % d) d) (by omega) (by omega)]
  refine ⟨0, fun _ _ => ?_⟩
  unfold tell mkT
  dsimp only
  split <;> rfl
theorem mkT_small (n : Int) {d : Int} (hd : 0 < d) : (mkT n d).2 ≤ d := Int.le_of_dvd hd (mkT_dvd n)
theorem tell_small (n : Int) {d : Int} (hd : 0 < d) (h : d ≤ 1000000) : tell (mkT n d) = ((mkT n d).1, (mkT n d).2, true) := by
  have := mkT_small n hd
  unfold tell
  rw [if_neg (by omega)]
theorem diTimes_val {a b k : Int} (ha : -1000000000 ≤ a ∧ a ≤ 1000000000) (hb : 0 < b ∧ b ≤ 1000000) (hk : -1000000000 ≤ k ∧ k ≤ 1000000000) : Ev (fun n => spec_diTimes.f n a b k) (mkT (a * k) b) := by
  have e1 := mul_bd ha hk
  unfold spec_diTimes.f
  rw [wid (x := a * k) (by omega) (by omega)]
  refine Ev.bind (diMake_val hb.1 (by omega)) ⟨0, fun _ _ => ?_⟩
  rw [tell_small _ hb.1 hb.2]
theorem diMirror_val {a b : Int} (ha : -1000000000 ≤ a ∧ a ≤ 1000000000) (hb : 0 < b ∧ b ≤ 1000000) : Ev (fun n => spec_diMirror.f n a b) (mkT (a * (-1)) b) := by
  unfold spec_diMirror.f
  exact Ev.bind (diTimes_val ha hb (by omega)) ⟨0, fun _ _ => rfl⟩
theorem floorDiv_val {n d : Int} (hd : 0 < d) (hb : d ≤ 4611686018427387904) : ∃ q, impl_floorDiv.f n d = some (q, n % d) := by
  unfold impl_floorDiv.f
  obtain ⟨t1, t0⟩ := tmod_bd n hd
  have m0 : 0 ≤ n % d := Int.emod_nonneg _ (by omega)
  have m1 : n % d < d := Int.emod_lt_of_pos _ hd
  have e := Int.mul_tdiv_add_tmod n d
  have e2 : n % d = (Int.tmod n d) % d := by
    have : n % d = (Int.tmod n d + d * Int.tdiv n d) % d := by rw [Int.add_comm, e]
    rw [this, Int.add_mul_emod_self_left]
  rw [if_neg (by omega)]
  by_cases h : Int.tmod n d < 0
  · rw [if_pos h, wid (x := Int.tmod n d + d) (by omega) (by omega)]
    refine ⟨_, congrArg some (Prod.ext rfl ?_)⟩
    rw [e2, ← Int.add_emod_right, Int.emod_eq_of_lt (by omega) (by omega)]
  · rw [if_neg h]
    refine ⟨_, congrArg some (Prod.ext rfl ?_)⟩
    rw [e2, Int.emod_eq_of_lt (by omega) (by omega)]
theorem part_val {n d : Int} (hd : 0 < d) (hb : d ≤ 4611686018427387904) : Ev (fun k => impl_part.f k n d) (mkT n d) := by
  unfold impl_part.f
  have g0 := gI_pos (a := n % d) (show d ≠ 0 by omega)
  have m0 : 0 ≤ n % d := Int.emod_nonneg _ (by omega)
  have m1 : n % d < d := Int.emod_lt_of_pos _ hd
  have q0 : 0 ≤ d / gI (n % d) d := Int.ediv_nonneg (by omega) (by omega)
  have q1 : d / gI (n % d) d ≤ d := Int.ediv_le_self _ (by omega)
  have r0 : 0 ≤ n % d / gI (n % d) d := Int.ediv_nonneg (by omega) (by omega)
  have r1 : n % d / gI (n % d) d ≤ n % d := Int.ediv_le_self _ (by omega)
  obtain ⟨q, hq⟩ := floorDiv_val (n := n) hd hb
  simp only [hq, Option.bind_some]
  refine Ev.bind (igcd_val (by omega) (by omega) (by omega) (by omega)) ?_
  rw [if_neg (by omega), tdiv_nn _ m0, tdiv_nn _ (by omega), wid (x := d / gI (n % d) d) (by omega) (by omega), wid (x := n % d / gI (n % d) d) (by omega) (by omega)]
  exact ⟨0, fun _ _ => rfl⟩
theorem times_val {a b k : Int} (ha : -1000000000 ≤ a ∧ a ≤ 1000000000) (hb : 0 < b ∧ b ≤ 1000000000) (hk : -1000000000 ≤ k ∧ k ≤ 1000000000) : Ev (fun n => impl_Turn_times.f n a b k) (mkT (a * k) b) := by
  have e1 := mul_bd ha hk
  unfold impl_Turn_times.f
  rw [wid (x := a * k) (by omega) (by omega)]
  exact Ev.bind (part_val hb.1 (by omega)) ⟨0, fun _ _ => rfl⟩
theorem mirror_val {a b : Int} (ha : -1000000000 ≤ a ∧ a ≤ 1000000000) (hb : 0 < b ∧ b ≤ 1000000000) : Ev (fun n => impl_Turn_mirror.f n a b) (mkT (a * (-1)) b) := by
  unfold impl_Turn_mirror.f
  exact Ev.bind (times_val ha hb (by omega)) ⟨0, fun _ _ => rfl⟩
theorem isT_bd {a b : Int} (h : isT a b) : (-1000000000 ≤ a ∧ a ≤ 1000000000) ∧ (0 < b ∧ b ≤ 1000000) := by
  obtain ⟨h1, h2, _⟩ := h
  omega
theorem isT_bd9 {a b : Int} (h : isT a b) : (-1000000000 ≤ a ∧ a ≤ 1000000000) ∧ (0 < b ∧ b ≤ 1000000000) := by
  obtain ⟨h1, h2, _⟩ := h
  omega
theorem eqTurn_refl (a b : Int) : laws_eqTurn.f a b a b = some true := by unfold laws_eqTurn.f; rw [if_pos rfl, if_pos rfl]
theorem eqSeen_refl (a b c d : Int) : laws_eqSeen.f a b c d a b c d = some true := by unfold laws_eqSeen.f; rw [eqTurn_refl, eqTurn_refl]; rfl
theorem both (a b c d : Int) : ∃ v, Ev (fun k => spec_MirrorSeen.f k a b c d) v ∧ Ev (fun k => impl_MirrorSeen.f k a b c d) v := by
  unfold spec_MirrorSeen.f impl_MirrorSeen.f spec_seMirror.f
  simp only [iIsSeen_val, Option.bind_some]
  by_cases hq : isT a b ∧ isT c d
  · refine ⟨((mkT (a * (-1)) b).1, (mkT (a * (-1)) b).2, (mkT (c * (-1)) d).1, (mkT (c * (-1)) d).2, true), Ev.bind (seGood_val a b c d) ?_, ?_⟩ <;> simp only [decide_eq_true hq, if_true]
    · exact Ev.bind (Ev.bind (diMirror_val (isT_bd hq.1).1 (isT_bd hq.1).2) (Ev.bind (diMirror_val (isT_bd hq.2).1 (isT_bd hq.2).2) ⟨0, fun _ _ => rfl⟩)) ⟨0, fun _ _ => rfl⟩
    · exact Ev.bind (mirror_val (isT_bd9 hq.1).1 (isT_bd9 hq.1).2) (Ev.bind (mirror_val (isT_bd9 hq.2).1 (isT_bd9 hq.2).2) ⟨0, fun _ _ => rfl⟩)
  · refine ⟨(0, 0, 0, 0, false), Ev.bind (seGood_val a b c d) ?_, ?_⟩ <;> simp only [decide_eq_false hq] <;> exact ⟨0, fun _ _ => rfl⟩
theorem FnExactMirrorSeen : laws_FnExactMirrorSeen.Pure := by
  intro a b c d _ _ _ _
  obtain ⟨v, ⟨K1, h1⟩, ⟨K2, h2⟩⟩ := both a b c d
  refine ⟨max K1 K2, ?_⟩
  have e1 := h1 (max K1 K2) (by omega)
  have e2 := h2 (max K1 K2) (by omega)
  dsimp only at e1 e2
  unfold laws_FnExactMirrorSeen.f laws_toSeen.f laws_toTurn.f
  simp only [Option.bind_some, e1, e2, eqSeen_refl]
  simp

end Go.Proofs.Ytnangmpclikldaa.Pure
