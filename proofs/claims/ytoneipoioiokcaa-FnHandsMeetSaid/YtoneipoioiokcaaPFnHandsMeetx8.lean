/- A part of the walk of FnHandsMeet: which Lean function each Go function comes to, and that the machine's call does so. Written by a program of this repo (wip/gen/xprint.py). -/
import Derived.Test.YtoneipoioiokcaaPFnHandsMeetx0
import Derived.Test.YtoneipoioiokcaaPFnHandsMeetx6
import Derived.Test.YtoneipoioiokcaaPFnHandsMeetx7
namespace Go.Proofs.Ytoneipoioiokcaa.PFnHandsMeet
open Go.RowKit Go.Proofs.YtoneipoioiokcaaW.PrintWords Go.Proofs.YtoneipoioiokcaaW.PrintLast Go.Proofs.YtoneipoioiokcaaW.PrintMore
attribute [local go_sem] max2_int min2_int max_two min_two max_three min_three max_four min_four   -- for this text's walks alone
set_option linter.unusedVariables false
set_option linter.unusedSimpArgs false

/-! ### impl_areTurns: function 32 -/
def impl_areTurns.f (l0 : List S25) : Option Bool := some (l0.all fun t => decide (isT t.f0 t.f1))
/-- What the search for one that is no turn tells. -/
def impl_areTurns.Found (l0 : List S25) (w : World) (e : Ending) (w' : World) : Prop := ∃ i : Int, e = .returned (.int .i64 i) ∧ (0 ≤ i ↔ (l0.all fun t => decide (isT t.f0 t.f1)) = false) ∧ Below w.heap.size w w'
theorem impl_areTurns.one (t : S25) (w : World) : Calls Try.prog 62 #[.agg #[.int .i64 t.f0, .int .i64 t.f1]] w fun e w' => e = .returned (.bool (!decide (isT t.f0 t.f1))) ∧ Below w.heap.size w w' := by
  obtain ⟨K, h⟩ := IsTurn_val t.f0 t.f1
  exact impl_areTurns_1.calls K t.f0 t.f1 _ w (by unfold impl_areTurns_1.f; have h1 := h K (Nat.le_refl _); dsimp only at h1; rw [h1]; rfl)
set_option maxHeartbeats 8000000 in
set_option maxRecDepth 100000 in
theorem impl_areTurns.search (A0 : Option Addr) (c0 : Nat) (l0 : List S25) (w : World) (hr0 : Kd.C k25 w A0 l0.length l0) :
    Calls Try.prog 41 #[.slice A0 l0.length c0, .func (.func 62) #[] #[]] w (impl_areTurns.Found l0 w) := by
  have hM : l0.length ≤ 9223372036854775807 := Kd.C_max hr0
  have HR0 := Aside0.mk hr0
  clear hr0
  go_enter Try.func41, Try.ntmps41
  go_wp2
  go_loopg [5, 8] l0.length (fun gg _ s8 wr => ∃ kk : Nat, kk ≤ l0.length ∧ l0.length - kk ≤ gg ∧ s8 = .int .i64 kk ∧ Aside0 (Below w.heap.size w wr) ∧ Aside0 (∀ t ∈ l0.take kk, isT t.f0 t.f1))
  case atStart => exact ⟨0, Nat.zero_le _, by omega, rfl, ⟨Below.refl _ w⟩, ⟨fun t ht => by simp at ht⟩⟩
  case round =>
    obtain ⟨kk, hkk, hg, rfl, BW, A⟩ := hrel
    by_cases hlt : kk < l0.length
    · have hltz : (kk : Int) < (l0.length : Int) := by omega
      have p435 : 0 ≤ (kk : Int) := by omega
      obtain ⟨ad435, e435, hx0, hx1⟩ := at_T25 (Kd.C_below HR0.1 BW.1) (kk : Int) p435 hltz
      cases e435
      have hget : rd_T25 l0 (kk : Int) = l0[kk] := by unfold rd_T25; rw [show ((kk : Int)).toNat = kk by omega, List.getD_eq_getElem?_getD, List.getElem?_eq_getElem hlt]; rfl
      rw [hget] at hx0 hx1
      rw [show ((kk : Int)).toNat = kk by omega] at hx0 hx1
      have hcall := impl_areTurns.one l0[kk] wr
      have HT := Aside0.mk (List.take_succ_eq_append_getElem hlt)
      have HM := Aside0.mk (List.getElem_mem hlt)
      clear hget
      generalize hy : l0[kk] = y at hx0 hx1 hcall HT HM
      clear hy
      by_cases hq : isT y.f0 y.f1
      · rw [decide_eq_true hq] at hcall
        have HQ := Aside0.mk hq
        clear hq
        go_wp2_with (go_at_call 62; refine hcall.mono ?_; rintro e w' ⟨rfl, hb'⟩)
        go_roundg (l0.length - (kk + 1))
        case measure => omega
        case rel =>
          refine ⟨kk + 1, by omega, by omega, by go_num, ⟨below_then BW.1 BW.1.size hb'⟩, ⟨fun t ht => ?_⟩⟩
          rw [HT.1] at ht
          rcases List.mem_append.1 ht with ht | ht
          · exact A.1 t ht
          rw [List.mem_singleton.1 ht]; exact HQ.1
      rw [decide_eq_false hq] at hcall
      have HQ := Aside0.mk hq
      clear hq
      go_wp2_with (go_at_call 62; refine hcall.mono ?_; rintro e w' ⟨rfl, hb'⟩)
      go_ret
      refine ⟨kk, rfl, ⟨fun _ => ?_, fun _ => p435⟩, below_then BW.1 BW.1.size hb'⟩
      rw [List.all_eq_false]
      exact ⟨y, HM.1, by simp [HQ.1]⟩
    have hltz : ¬ (kk : Int) < (l0.length : Int) := by omega
    go_wp2
    go_ret
    refine ⟨-1, rfl, ⟨fun h => by omega, fun h => ?_⟩, BW.1⟩
    rw [List.all_eq_false] at h
    obtain ⟨t, ht, hn⟩ := h
    exact absurd (A.1 t (by rw [List.take_of_length_le (by omega)]; exact ht)) (by simpa using hn)
set_option maxHeartbeats 8000000 in
set_option maxRecDepth 100000 in
theorem impl_areTurns.calls (A0 : Option Addr) (c0 : Nat) (l0 : List S25) (r : Bool) (w : World) (hr0 : Kd.C k25 w A0 l0.length l0) (hc0 : l0.length ≤ c0) (h : impl_areTurns.f l0 = some r) :
    Calls Try.prog 32 #[.slice A0 l0.length c0] w fun e w' => e = .returned (.bool r) ∧ Below w.heap.size w w' := by
  have hs := impl_areTurns.search A0 c0 l0 w hr0
  obtain rfl := Option.some.inj h
  have H2 : Calls Try.prog 61 #[.slice A0 l0.length c0, .func (.func 62) #[] #[]] w fun e w' => e = .returned (.bool (!(l0.all fun t => decide (isT t.f0 t.f1)))) ∧ Below w.heap.size w w' := by
    cases hb : (l0.all fun t => decide (isT t.f0 t.f1)) with
    | false =>
      have hs2 : Calls Try.prog 41 #[.slice A0 l0.length c0, .func (.func 62) #[] #[]] w fun e w' => (∃ i : Nat, e = .returned (.int .i64 (i : Int))) ∧ Below w.heap.size w w' := by
        refine hs.mono fun e w' ⟨i, he, hi, hw⟩ => ⟨?_, hw⟩
        rw [hb] at hi
        obtain ⟨n, rfl⟩ := Int.eq_ofNat_of_zero_le (hi.2 rfl)
        exact ⟨n, he⟩
      clear hs hb hr0 hc0
      go_enter Try.func61, Try.ntmps61
      go_wp2_with (go_at_call 41; refine hs2.mono ?_; rintro e w' ⟨⟨i, rfl⟩, hw⟩)
      go_ret
      exact ⟨by simp, hw⟩
    | true =>
      have hs2 : Calls Try.prog 41 #[.slice A0 l0.length c0, .func (.func 62) #[] #[]] w fun e w' => (∃ i : Int, e = .returned (.int .i64 i) ∧ i < 0) ∧ Below w.heap.size w w' := by
        refine hs.mono fun e w' ⟨i, he, hi, hw⟩ => ⟨⟨i, he, ?_⟩, hw⟩
        rw [hb] at hi
        have : ¬ 0 ≤ i := fun h => by have := hi.1 h; simp at this
        omega
      clear hs hb hr0 hc0
      go_enter Try.func61, Try.ntmps61
      go_wp2_with (go_at_call 41; refine hs2.mono ?_; rintro e w' ⟨⟨i, rfl, hi⟩, hw⟩; have hi2 : decide (0 ≤ i) = false := decide_eq_false (by omega); clear hi)
      go_ret
      exact ⟨by simp [hi2], hw⟩
  clear hs hr0 hc0
  generalize (l0.all fun t => decide (isT t.f0 t.f1)) = b at H2 ⊢
  go_enter Try.func32, Try.ntmps32
  go_wp2_with (go_at_call 61; refine H2.mono ?_; rintro e w' ⟨rfl, hw⟩)
  go_ret
  exact ⟨by simp, hw⟩

/-! ### impl_ifTurns: function 76 -/
def impl_ifTurns.f (l0 : List (S25)) (a1 : Bool) : Option ((List (S25)) × Bool) := if a1 = true then ((impl_areTurns.f l0).bind fun t230 => (if t230 = true then (some (l0, true)) else (some (([] : List (S25)), false)))) else (some (([] : List (S25)), false))
set_option maxHeartbeats 8000000 in
set_option maxRecDepth 100000 in
theorem impl_ifTurns.calls (P0_ : Nat → Prop) (u9000_ : Value) (l0 : List (S25)) (a1 : Bool) (r1 : List (S25)) (r2 : Bool) (w0 w : World) (hB : Below w0.heap.size w0 w) (ho0 : Kd.R k25 25 w w0.heap.size P0_ u9000_ l0) (h : impl_ifTurns.f l0 a1 = some (r1, r2)) :
    Calls Try.prog 76 #[u9000_, .bool a1] w fun e w' => ∃ v0_ : Value, e = .returned (.tuple #[v0_, .bool r2]) ∧ Kd.R k25 25 w' w0.heap.size (fun k_ => (P0_ k_ ∨ w.heap.size ≤ k_)) v0_ r1 ∧ Below w0.heap.size w0 w' ∧ Kept w w' (fun k_ => P0_ k_) := by
  have HO0 := Aside0.mk (show Kd.R k25 25 w w0.heap.size (fun k_ => (P0_ k_ ∨ w.heap.size ≤ k_)) u9000_ l0 from Kd.R_mono ho0 (fun k_ hk => (.inl hk)))
  have HK := Aside0.mk (Kept.refl w (fun k_ => P0_ k_))
  have HW0 := Aside0.mk hB.size
  have HB := Aside0.mk hB
  clear hB
  have H : (if a1 = true then ((impl_areTurns.f l0).bind fun t230 => (if t230 = true then (some (l0, true)) else (some (([] : List (S25)), false)))) else (some (([] : List (S25)), false))) = some (r1, r2) := h
  clear h
  by_cases c3 : a1 = true
  · subst c3
    rw [if_pos rfl] at H
    replace H := Option.bind_eq_some_iff.mp H
    obtain ⟨t230, A40, H⟩ := H
    (try dsimp only at H)
    have A4 := Aside0.mk A40
    clear A40
    by_cases c5 : t230 = true
    · subst c5
      rw [if_pos rfl] at H
      simp only [Option.some.injEq, Prod.mk.injEq] at H
      obtain ⟨rfl, rfl⟩ := H
      obtain ⟨Ao6, co6, eo6⟩ := Kd.R_slice HO0.1
      subst eo6
      go_enter Try.func76, Try.ntmps76
      go_wp2_with (first | (go_at_call 32; (with_reducible refine (impl_areTurns.calls _ _ l0 true _ ?side1 ?side2 A4.1).mono ?_); (case side1 => repeat (first | exact (Kd.R_reads' HO0.1).2.2 | (with_reducible refine Kd.C_alloc ?_ _) | (with_reducible refine Kd.C_drewN ?_ _) | (with_reducible refine Kd.C_drew ?_))); (case side2 => exact (Kd.R_reads' HO0.1).2.1); rintro e w7 ⟨rfl, hb⟩; replace HO0 := rB HO0 hb; replace HK := Aside0.mk (Kept.below (S := (fun k_ => P0_ k_)) (by repeat (first | (with_reducible first | exact HK.1 | apply Kept.alloc | apply Kept.drewN | apply Kept.drew) | exact HK.1)) hb); replace HB := zB HB hb; clear hb))
      go_ret2
      exact ⟨_, er, rq HO0, bq HB, by repeat (first | (with_reducible first | exact HK.1 | apply Kept.alloc | apply Kept.drewN | apply Kept.drew) | exact HK.1)⟩
    replace c5 := Bool.eq_false_iff.mpr c5
    subst c5
    rw [if_neg (show ¬ (false = true) by decide)] at H
    simp only [Option.some.injEq, Prod.mk.injEq] at H
    obtain ⟨rfl, rfl⟩ := H
    obtain ⟨Ao8, co8, eo8⟩ := Kd.R_slice HO0.1
    subst eo8
    go_enter Try.func76, Try.ntmps76
    go_wp2_with (first | (go_at_call 32; (with_reducible refine (impl_areTurns.calls _ _ l0 false _ ?side1 ?side2 A4.1).mono ?_); (case side1 => repeat (first | exact (Kd.R_reads' HO0.1).2.2 | (with_reducible refine Kd.C_alloc ?_ _) | (with_reducible refine Kd.C_drewN ?_ _) | (with_reducible refine Kd.C_drew ?_))); (case side2 => exact (Kd.R_reads' HO0.1).2.1); rintro e w9 ⟨rfl, hb⟩; replace HO0 := rB HO0 hb; replace HK := Aside0.mk (Kept.below (S := (fun k_ => P0_ k_)) (by repeat (first | (with_reducible first | exact HK.1 | apply Kept.alloc | apply Kept.drewN | apply Kept.drew) | exact HK.1)) hb); replace HB := zB HB hb; clear hb))
    go_ret2
    exact ⟨_, er, by first | exact Kd.R_nil _ _ _ _ _ | exact Kd.N_nil _ _ _ _ _ | exact Kd.V_nil _ _ _ _ _ | exact Kd.Q_nil _ _ _ _ _ | exact Kd.S_nil _ _ _ _ _, bq HB, by repeat (first | (with_reducible first | exact HK.1 | apply Kept.alloc | apply Kept.drewN | apply Kept.drew) | exact HK.1)⟩
  replace c3 := Bool.eq_false_iff.mpr c3
  subst c3
  rw [if_neg (show ¬ (false = true) by decide)] at H
  simp only [Option.some.injEq, Prod.mk.injEq] at H
  obtain ⟨rfl, rfl⟩ := H
  go_enter Try.func76, Try.ntmps76
  go_wp2
  go_ret2
  exact ⟨_, er, by first | exact Kd.R_nil _ _ _ _ _ | exact Kd.N_nil _ _ _ _ _ | exact Kd.V_nil _ _ _ _ _ | exact Kd.Q_nil _ _ _ _ _ | exact Kd.S_nil _ _ _ _ _, bq HB, by repeat (first | (with_reducible first | exact HK.1 | apply Kept.alloc | apply Kept.drewN | apply Kept.drew) | exact HK.1)⟩

/-! ### impl_roots: function 77 -/
def impl_roots.l0 : Nat → Int → List (S25) → Int → Int → Int → Int → Option ((List (S25)) × Bool)
  | 0, _, _, _, _, _, _ => none
  | k + 1, x1, x6, x9, x10, x232000, x232001 => if x10 < x9 then ((impl_part.f k (wrap64 (x232000 + (wrap64 (x10 * x232001)))) (wrap64 (x232001 * x1))).bind fun bt235 => (if x6.length < 8796093022208 then (impl_roots.l0 k x1 (x6 ++ [(⟨bt235.1, bt235.2⟩ : S25)]) x9 (wrap64 (x10 + 1)) x232000 x232001) else (none))) else ((impl_areTurns.f x6).bind fun t240 => (some (x6, t240)))
def impl_roots.f (k : Nat) (a0_0 : Int) (a0_1 : Int) (a1 : Int) : Option ((List (S25)) × Bool) := impl_roots.l0 k a1 (([] : List (S25))) a1 0 a0_0 a0_1
theorem impl_roots.mono_l : ∀ k, (∀ y0 y1 y2 y3 y4 y5, LeO (impl_roots.l0 k y0 y1 y2 y3 y4 y5) (impl_roots.l0 (k + 1) y0 y1 y2 y3 y4 y5))
  | 0 => fun _ _ _ _ _ _ r h => by simp [impl_roots.l0] at h
  | k + 1 => by
    have ih0 := impl_roots.mono_l k
    intro y0 y1 y2 y3 y4 y5
    unfold impl_roots.l0
    repeat' first
    | (with_reducible exact ih0 _ _ _ _ _ _)
    | (with_reducible exact impl_part.mono _ _ _)
    | (with_reducible exact LeO.refl _)
    | (with_reducible exact LeO.none _)
    | (with_reducible refine LeO.ite ?_ ?_)
    | (with_reducible refine LeO.bind ?_ (fun _ => ?_))
    | exact ih0 _ _ _ _ _ _
    | exact impl_part.mono _ _ _
    | exact LeO.none _
    | refine LeO.ite ?_ ?_
    | refine LeO.bind ?_ (fun _ => ?_)
theorem impl_roots.mono : ∀ a0 a1 a2 k, LeO (impl_roots.f k a0 a1 a2) (impl_roots.f (k + 1) a0 a1 a2) := by
  intro a0 a1 a2 k
  have ih0 := impl_roots.mono_l k
  unfold impl_roots.f
  repeat' first
      | (with_reducible exact ih0 _ _ _ _ _ _)
      | (with_reducible exact impl_part.mono _ _ _)
      | (with_reducible exact LeO.refl _)
      | (with_reducible exact LeO.none _)
      | (with_reducible refine LeO.ite ?_ ?_)
      | (with_reducible refine LeO.bind ?_ (fun _ => ?_))
      | exact ih0 _ _ _ _ _ _
      | exact impl_part.mono _ _ _
      | exact LeO.none _
      | refine LeO.ite ?_ ?_
      | refine LeO.bind ?_ (fun _ => ?_)
set_option maxHeartbeats 8000000 in
set_option maxRecDepth 100000 in
theorem impl_roots.calls (k : Nat) (a0_0 : Int) (a0_1 : Int) (a1 : Int) (r1 : List (S25)) (r2 : Bool) (w : World) (h : impl_roots.f k a0_0 a0_1 a1 = some (r1, r2)) :
    Calls Try.prog 77 #[.agg #[.int .i64 a0_0, .int .i64 a0_1], .int .i64 a1] w fun e w' => ∃ v0_ : Value, e = .returned (.tuple #[v0_, .bool r2]) ∧ Kd.R k25 25 w' w.heap.size (fun _ => True) v0_ r1 ∧ Below w.heap.size w w' := by
  have hu25 := Try.underlying25
  have HB := Aside0.mk (Below.refl w.heap.size w)
  have H : (impl_roots.l0 k a1 (([] : List (S25))) a1 0 a0_0 a0_1) = some (r1, r2) := h
  clear h
  obtain ⟨y232, hy232⟩ : ∃ y_ : List (S25), y_ = (([] : List (S25))) := ⟨_, rfl⟩
  replace H : (impl_roots.l0 k a1 y232 a1 0 a0_0 a0_1) = some (r1, r2) := by first | (rw [hy232]; with_reducible exact H) | (have H2_ := (Option.bind_some _ _).symm.trans H; rw [hy232]; with_reducible exact H2_) | (have H2_ := (Option.bind_some _ _).symm.trans H; with_reducible exact H2_) | with_reducible exact H | (rw [hy232]; exact H) | exact H
  have Ny232 := Aside0.mk hy232
  clear hy232
  have H' := Aside0.mk H
  clear H
  go_enter Try.func77, Try.ntmps77
  go_wp2_with (first | ((with_reducible refine gate_dst (N := 2) rfl ?_); refine be #[.int .i64 a0_0, .int .i64 a0_1] 25 ?_; intro gb231 hg w3 hbox hb; have BK231 := Aside0.mk hbox; have GW231 := zs HB hg; have GE231 := zs HB hg; replace HB := zB HB hb; clear hb hbox hg) | ((with_reducible refine gate_dst (N := 8) rfl ?_); refine Kd.R_lit k25 _ 25 ?hg (N := 8) ?hd (xs := ([] : List (S25))) (inner := []) (ok := fun _ => True) (okp := fun _ => True) ?hr ?hp (fun _ hk => hk) trivial (Below.refl _ _) (Nat.le_refl _) (by simp) ?_; (case hd => rfl); (case hg => rfl); (case hr => first | (go_simp; done) | (go_simp; rfl)); (case hp => exact (Reps.none _ _)); intro v233 w4 ho5 hb hg_ hnew_; clear hg_ hnew_; (first | rw [← Ny232.1] at ho5 | (simp only [Int.reduceToNat] at ho5; rw [← Ny232.1] at ho5)); have HO234 := Aside0.mk (Kd.R_lower (Kd.R_newB ho5 (g := gb231) (o := .cells #[.int .i64 a0_0, .int .i64 a0_1] 25 (0, 0)) (bk BK231)) (below_size (bq HB))); replace BK231 := zb BK231 hb; replace HB := zB HB hb; clear hb ho5))
  go_loopg [6, 10] k (fun kq v6 v10 w' => ∃ (x6_1 : List (S25)) (x10_1 : Int), v10 = .int .i64 x10_1 ∧ Aside0 (impl_roots.l0 kq a1 x6_1 a1 x10_1 a0_0 a0_1 = some (r1, r2)) ∧ Aside0 (kq ≤ k) ∧ Aside0 (Kd.R k25 25 w' w.heap.size (fun k_ => k_ ≠ gb231) v6 x6_1) ∧ Aside0 (w'.heap[gb231]? = some (.cells #[.int .i64 a0_0, .int .i64 a0_1] 25 (0, 0))) ∧ Aside0 (Below w.heap.size w w'))
  case atStart => exact ⟨(y232), (0), ew, H', ⟨Nat.le_refl _⟩, ⟨by (with_reducible repeat (first | apply Kd.R_alloc | apply Kd.R_drewN | apply Kd.R_drew)); exact Kd.R_mono HO234.1 (fun _ hk => hk.2)⟩, ⟨bk BK231⟩, ⟨bq HB⟩⟩
  case round =>
    clear H'
    obtain ⟨x6_1, x10_1, rfl, HA, HK1, HO_6, BK231, HB⟩ := hrel
    cases gk with
    | zero => exact absurd HA.1 (by simp [impl_roots.l0])
    | succ k1 =>
      have H := HA.1
      clear HA
      simp only [impl_roots.l0] at H
      by_cases c6 : x10_1 < a1
      · rw [if_pos c6] at H
        have c6b0 : decide (x10_1 < a1) = true := decide_eq_true c6
        clear c6
        replace H := Option.bind_eq_some_iff.mp H
        obtain ⟨⟨t235, t236⟩, A70, H⟩ := H
        (try dsimp only at H)
        have A7 := Aside0.mk A70
        clear A70
        by_cases c8 : x6_1.length < 8796093022208
        · rw [if_pos c8] at H
          have LMc8 := Aside0.mk c8
          clear c8
          obtain ⟨y237, hy237⟩ : ∃ y_ : List (S25), y_ = (x6_1 ++ [(⟨t235, t236⟩ : S25)]) := ⟨_, rfl⟩
          replace H : (impl_roots.l0 k1 a1 y237 a1 (wrap64 (x10_1 + 1)) a0_0 a0_1) = some (r1, r2) := by first | (rw [hy237]; with_reducible exact H) | (have H2_ := (Option.bind_some _ _).symm.trans H; rw [hy237]; with_reducible exact H2_) | (have H2_ := (Option.bind_some _ _).symm.trans H; with_reducible exact H2_) | with_reducible exact H | (rw [hy237]; exact H) | exact H
          have Ny237 := Aside0.mk hy237
          clear hy237
          have H' := Aside0.mk H
          clear H
          obtain ⟨hcz9_0, hcz9_1, hfz9_0, hfz9_1⟩ := zc2 BK231
          go_wp2_with (first | ((with_reducible refine gate_callee (f := 80) rfl ?_); refine gl (some 25) Try.func80 #[.int .i64 (wrap64 (a0_0 + (wrap64 (x10_1 * a0_1)))), .int .i64 (wrap64 (a0_1 * a1))] ?_; (with_reducible refine (impl_part.calls k1 (wrap64 (a0_0 + (wrap64 (x10_1 * a0_1)))) (wrap64 (a0_1 * a1)) t235 t236 _ A7.1).mono ?_); rintro e w10 ⟨rfl, hb⟩; refine ⟨_, rfl, ?_⟩; replace HO_6 := rB HO_6 hb; replace BK231 := zb BK231 hb; replace HB := zB HB hb; clear hb) | ((with_reducible refine gate_builtin (b := .append) (xs := #[.tmp 13, .tmp 26]) rfl ?_); at_builtin; refine Kd.R_append k25 (w0 := w) w.heap.size rfl (.tmp 13) (.tmp 26) 30 25 (.agg #[(.int .i64 0), (.int .i64 0)]) 16 rfl Try.underlying30 info25 rfl (by decide) (by omega) u6 x6_1 (⟨t235, t236⟩ : S25) [.int .i64 t235, .int .i64 t236] (fun k_ => k_ ≠ gb231) (fun _ => False) rfl rfl ?aP (fun _ hk => hk.elim) ?aF ?aO ?aB ?aS ?aL ?_; (case aP => exact k25_mkM _ _ _ (⟨t235, t236⟩ : S25)); (case aB => exact (bq HB)); (case aF => exact (fun k_ hk => Kd.freshB (g := gb231) (o := .cells #[.int .i64 a0_0, .int .i64 a0_1] 25 (0, 0)) (bk BK231) k_ hk)); (case aO => exact (rq HO_6)); (case aS => exact (below_size (bq HB))); (case aL => have := LMc8.1; omega); intro v238 w11 ho hb hg hat; rw [← Ny237.1] at ho; have HO239 := Aside0.mk ho; replace BK231 := Aside0.mk (blk_grown (g := gb231) (o := .cells #[.int .i64 a0_0, .int .i64 a0_1] 25 (0, 0)) (bk BK231) hg (Kd.R_away HO_6.1 (fun _ hk => hk))); replace HB := Aside0.mk hb; clear HO_6; clear ho hb hg hat))
          go_roundg k1
          case measure => have := HK1.1; omega
          case rel => exact ⟨(y237), (wrap64 (x10_1 + 1)), ew, H', ⟨by have := HK1.1; omega⟩, ⟨rq HO239⟩, ⟨bk BK231⟩, ⟨bq HB⟩⟩
        rw [if_neg c8] at H
        exact absurd H (by simp)
      rw [if_neg c6] at H
      have c6b0 : decide (x10_1 < a1) = false := decide_eq_false c6
      clear c6
      replace H := Option.bind_eq_some_iff.mp H
      obtain ⟨t240, A120, H⟩ := H
      (try dsimp only at H)
      have A12 := Aside0.mk A120
      clear A120
      simp only [Option.some.injEq, Prod.mk.injEq] at H
      obtain ⟨rfl, rfl⟩ := H
      obtain ⟨Ao13, co13, eo13⟩ := Kd.R_slice HO_6.1
      subst eo13
      go_wp2_with (first | ((with_reducible refine gate_callee (f := 32) rfl ?_); refine gl (some 31) Try.func32 #[.slice Ao13 x6_1.length co13] ?_; (with_reducible refine (impl_areTurns.calls _ _ x6_1 t240 _ ?side1 ?side2 A12.1).mono ?_); (case side1 => repeat (first | exact (Kd.R_reads' HO_6.1).2.2 | (with_reducible refine Kd.C_alloc ?_ _) | (with_reducible refine Kd.C_drewN ?_ _) | (with_reducible refine Kd.C_drew ?_))); (case side2 => exact (Kd.R_reads' HO_6.1).2.1); rintro e w14 ⟨rfl, hb⟩; refine ⟨_, rfl, ?_⟩; replace HO_6 := rB HO_6 hb; replace BK231 := zb BK231 hb; replace HB := zB HB hb; clear hb))
      go_ret2
      exact ⟨_, er, by (with_reducible repeat (first | apply Kd.R_alloc | apply Kd.R_drewN | apply Kd.R_drew)); exact Kd.R_mono HO_6.1 (fun _ hk => trivial), bq HB⟩

end Go.Proofs.Ytoneipoioiokcaa.PFnHandsMeet
