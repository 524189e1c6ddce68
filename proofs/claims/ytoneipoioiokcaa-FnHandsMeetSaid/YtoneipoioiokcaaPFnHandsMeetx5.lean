/- A part of the walk of FnHandsMeet: which Lean function each Go function comes to, and that the machine's call does so. Written by a program of this repo (wip/gen/xprint.py). -/
import Derived.Test.YtoneipoioiokcaaPFnHandsMeetx0
import Derived.Test.YtoneipoioiokcaaPFnHandsMeetx2
import Derived.Test.YtoneipoioiokcaaPFnHandsMeetx4
namespace Go.Proofs.Ytoneipoioiokcaa.PFnHandsMeet
open Go.RowKit Go.Proofs.YtoneipoioiokcaaW.PrintWords Go.Proofs.YtoneipoioiokcaaW.PrintLast Go.Proofs.YtoneipoioiokcaaW.PrintMore
attribute [local go_sem] max2_int min2_int max_two min_two max_three min_three max_four min_four   -- for this text's walks alone
set_option linter.unusedVariables false
set_option linter.unusedSimpArgs false

/-! ### spec_DrawRelativeHand: function 24 -/
/-! own: the blocks that the call has laid, under one name -/
structure Own (w0 : World) (bs : List (Nat × Obj)) (w : World) : Prop where
  below : Below w0.heap.size w0 w
  at_ : ∀ (i g : Nat) (o : Obj), bs[i]? = some (g, o) → w0.heap.size ≤ g ∧ w.heap[g]? = some o
  apart : (bs.map (·.1)).Pairwise (· < ·)
theorem Own.start (w : World) : Own w [] w := ⟨Below.refl _ _, fun i g o h => by simp at h, List.Pairwise.nil⟩
section
variable {w0 w w' : World} {bs : List (Nat × Obj)}
theorem Own.call (h : Own w0 bs w) (hb : Below w.heap.size w w') : Own w0 bs w' :=
  ⟨below_step h.below hb, fun i g o e => ⟨(h.at_ i g o e).1, blk_below (h.at_ i g o e).2 hb⟩, h.apart⟩
theorem Own.drew (h : Own w0 bs w) : Own w0 bs w.drew := ⟨below_drew1 h.below, fun i g o e => h.at_ i g o e, h.apart⟩
theorem Own.drewN (h : Own w0 bs w) (n : Nat) : Own w0 bs (w.drewN n) := ⟨pw_below_drewN h.below n, fun i g o e => h.at_ i g o e, h.apart⟩
theorem Own.alloc (h : Own w0 bs w) (o : Obj) : Own w0 (bs ++ [(w.heap.size, o)]) (w.alloc o) := by
  refine ⟨below_alloc h.below o, fun i g o' e => ?_, ?_⟩
  · by_cases hi : i < bs.length
    · rw [List.getElem?_append_left hi] at e
      exact ⟨(h.at_ i g o' e).1, blk_alloc (h.at_ i g o' e).2 o⟩
    rw [List.getElem?_append_right (by omega)] at e
    have h0 : i - bs.length = 0 := by
      have := (List.getElem?_eq_some_iff.1 e).1
      simp at this
      omega
    rw [h0] at e
    simp only [List.getElem?_cons_zero, Option.some.injEq, Prod.mk.injEq] at e
    obtain ⟨rfl, rfl⟩ := e
    exact ⟨h.below.size, blk_new w _⟩
  rw [List.map_append, List.pairwise_append]
  refine ⟨h.apart, by simp, fun a ha b hb => ?_⟩
  simp only [List.map_cons, List.map_nil, List.mem_singleton] at hb
  subst hb
  obtain ⟨⟨g, o'⟩, hm, rfl⟩ := List.mem_map.1 ha
  obtain ⟨i, hi⟩ := List.mem_iff_getElem?.1 hm
  exact blk_lt (h.at_ i g o' hi).2
theorem Own.ne (h : Own w0 bs w) {i j g g' : Nat} {o o' : Obj} (hi : bs[i]? = some (g, o)) (hj : bs[j]? = some (g', o')) (hij : i ≠ j) : g ≠ g' := by
  have hp := List.pairwise_iff_getElem.1 h.apart
  have li := (List.getElem?_eq_some_iff.1 hi).1
  have lj := (List.getElem?_eq_some_iff.1 hj).1
  have ei : (bs.map (·.1))[i]'(by simpa using li) = g := by simp [(List.getElem?_eq_some_iff.1 hi).2]
  have ej : (bs.map (·.1))[j]'(by simpa using lj) = g' := by simp [(List.getElem?_eq_some_iff.1 hj).2]
  rcases Nat.lt_or_gt_of_ne hij with k | k
  · have := hp i j (by simpa using li) (by simpa using lj) k
    rw [ei, ej] at this
    omega
  have := hp j i (by simpa using lj) (by simpa using li) k
  rw [ei, ej] at this
  omega
theorem Own.set (h : Own w0 bs w) (i : Nat) {g : Nat} {cs : Array Value} {t : TypeId} (e : bs[i]? = some (g, .cells cs t (0, 0))) (j : Nat) (v : Value) : Own w0 (bs.set i (g, .cells (cs.setIfInBounds j v) t (0, 0))) (w.setCell ⟨g, j, none⟩ v) := by
  refine ⟨below_set h.below (h.at_ i g _ e).1, fun k g' o' ek => ?_, ?_⟩
  · rw [List.getElem?_set] at ek
    by_cases hk : i = k
    · subst hk
      have hl := (List.getElem?_eq_some_iff.1 e).1
      rw [if_pos rfl, if_pos hl] at ek
      simp only [Option.some.injEq, Prod.mk.injEq] at ek
      obtain ⟨rfl, rfl⟩ := ek
      exact ⟨(h.at_ i g _ e).1, blk_put (h.at_ i g _ e).2 j v rfl⟩
    rw [if_neg hk] at ek
    refine ⟨(h.at_ k g' o' ek).1, ?_⟩
    have hne := h.ne e ek hk
    exact (Below.heap_setCell w ⟨g, j, none⟩ v g' (Ne.symm hne)).trans (h.at_ k g' o' ek).2
  have : (bs.set i (g, Obj.cells (cs.setIfInBounds j v) t (0, 0))).map (·.1) = bs.map (·.1) := by
    rw [List.map_set]
    refine List.ext_getElem? fun k => ?_
    rw [List.getElem?_set]
    by_cases hk : i = k
    · subst hk
      have hl := (List.getElem?_eq_some_iff.1 e).1
      rw [if_pos rfl, if_pos (by simpa using hl), List.getElem?_map, e]
      rfl
    rw [if_neg hk]
  rw [this]; exact h.apart
end
section
variable {w0 w : World} {bs : List (Nat × Obj)} {P : Program} {Q : Exit → Act → World → Prop} {c : Code} {a : Act}
theorem Own.gen (h : Own w0 bs w) (k : ∀ w2, Own w0 bs w2 → c.wp P Q a w2) : c.wp P Q a w := k w h
end
theorem Own.c1 {w0 w : World} {bs : List (Nat × Obj)} (h : Own w0 bs w) (i : Nat) {g : Nat} {x0 : Value} {t : TypeId} (e : bs[i]? = some (g, .cells #[x0] t (0, 0))) : w.cell? ⟨g, 0, none⟩ = some x0 ∧ w.frozen? ⟨g, 0, none⟩ = false := by
  have z := (h.at_ i g _ e).2
  exact ⟨(blk_cell z 0).trans rfl, blk_frozen z 0⟩
theorem Own.c2 {w0 w : World} {bs : List (Nat × Obj)} (h : Own w0 bs w) (i : Nat) {g : Nat} {x0 x1 : Value} {t : TypeId} (e : bs[i]? = some (g, .cells #[x0, x1] t (0, 0))) : w.cell? ⟨g, 0, none⟩ = some x0 ∧ w.cell? ⟨g, 1, none⟩ = some x1 ∧ w.frozen? ⟨g, 0, none⟩ = false ∧ w.frozen? ⟨g, 1, none⟩ = false := by
  have z := (h.at_ i g _ e).2
  exact ⟨(blk_cell z 0).trans rfl, (blk_cell z 1).trans rfl, blk_frozen z 0, blk_frozen z 1⟩
theorem Own.c3 {w0 w : World} {bs : List (Nat × Obj)} (h : Own w0 bs w) (i : Nat) {g : Nat} {x0 x1 x2 : Value} {t : TypeId} (e : bs[i]? = some (g, .cells #[x0, x1, x2] t (0, 0))) : w.cell? ⟨g, 0, none⟩ = some x0 ∧ w.cell? ⟨g, 1, none⟩ = some x1 ∧ w.cell? ⟨g, 2, none⟩ = some x2 ∧ w.frozen? ⟨g, 0, none⟩ = false ∧ w.frozen? ⟨g, 1, none⟩ = false ∧ w.frozen? ⟨g, 2, none⟩ = false := by
  have z := (h.at_ i g _ e).2
  exact ⟨(blk_cell z 0).trans rfl, (blk_cell z 1).trans rfl, (blk_cell z 2).trans rfl, blk_frozen z 0, blk_frozen z 1, blk_frozen z 2⟩
theorem Own.c4 {w0 w : World} {bs : List (Nat × Obj)} (h : Own w0 bs w) (i : Nat) {g : Nat} {x0 x1 x2 x3 : Value} {t : TypeId} (e : bs[i]? = some (g, .cells #[x0, x1, x2, x3] t (0, 0))) : w.cell? ⟨g, 0, none⟩ = some x0 ∧ w.cell? ⟨g, 1, none⟩ = some x1 ∧ w.cell? ⟨g, 2, none⟩ = some x2 ∧ w.cell? ⟨g, 3, none⟩ = some x3 ∧ w.frozen? ⟨g, 0, none⟩ = false ∧ w.frozen? ⟨g, 1, none⟩ = false ∧ w.frozen? ⟨g, 2, none⟩ = false ∧ w.frozen? ⟨g, 3, none⟩ = false := by
  have z := (h.at_ i g _ e).2
  exact ⟨(blk_cell z 0).trans rfl, (blk_cell z 1).trans rfl, (blk_cell z 2).trans rfl, (blk_cell z 3).trans rfl, blk_frozen z 0, blk_frozen z 1, blk_frozen z 2, blk_frozen z 3⟩
theorem Own.c5 {w0 w : World} {bs : List (Nat × Obj)} (h : Own w0 bs w) (i : Nat) {g : Nat} {x0 x1 x2 x3 x4 : Value} {t : TypeId} (e : bs[i]? = some (g, .cells #[x0, x1, x2, x3, x4] t (0, 0))) : w.cell? ⟨g, 0, none⟩ = some x0 ∧ w.cell? ⟨g, 1, none⟩ = some x1 ∧ w.cell? ⟨g, 2, none⟩ = some x2 ∧ w.cell? ⟨g, 3, none⟩ = some x3 ∧ w.cell? ⟨g, 4, none⟩ = some x4 ∧ w.frozen? ⟨g, 0, none⟩ = false ∧ w.frozen? ⟨g, 1, none⟩ = false ∧ w.frozen? ⟨g, 2, none⟩ = false ∧ w.frozen? ⟨g, 3, none⟩ = false ∧ w.frozen? ⟨g, 4, none⟩ = false := by
  have z := (h.at_ i g _ e).2
  exact ⟨(blk_cell z 0).trans rfl, (blk_cell z 1).trans rfl, (blk_cell z 2).trans rfl, (blk_cell z 3).trans rfl, (blk_cell z 4).trans rfl, blk_frozen z 0, blk_frozen z 1, blk_frozen z 2, blk_frozen z 3, blk_frozen z 4⟩
/-- A new block, and what is laid into it at once. -/
theorem Own.new1 {w0 w : World} {bs : List (Nat × Obj)} (h : Own w0 bs w) {z0 v0 : Value} {t : TypeId} : Own w0 (bs ++ [(w.heap.size, .cells #[v0] t (0, 0))]) ((w.alloc (.cells #[z0] t (0, 0))).setCell ⟨w.heap.size, 0, none⟩ v0) := by
  have h0 := h.alloc (.cells #[z0] t (0, 0))
  have h1 : Own w0 (bs ++ [(w.heap.size, .cells #[v0] t (0, 0))]) ((w.alloc (.cells #[z0] t (0, 0))).setCell ⟨w.heap.size, 0, none⟩ v0) := by simpa [List.set_append_right] using h0.set bs.length (g := w.heap.size) (cs := #[z0]) (t := t) (by simp) 0 v0
  exact h1
/-- A new block, and what is laid into it at once. -/
theorem Own.new2 {w0 w : World} {bs : List (Nat × Obj)} (h : Own w0 bs w) {z0 z1 v0 v1 : Value} {t : TypeId} : Own w0 (bs ++ [(w.heap.size, .cells #[v0, v1] t (0, 0))]) (((w.alloc (.cells #[z0, z1] t (0, 0))).setCell ⟨w.heap.size, 0, none⟩ v0).setCell ⟨w.heap.size, 1, none⟩ v1) := by
  have h0 := h.alloc (.cells #[z0, z1] t (0, 0))
  have h1 : Own w0 (bs ++ [(w.heap.size, .cells #[v0, z1] t (0, 0))]) ((w.alloc (.cells #[z0, z1] t (0, 0))).setCell ⟨w.heap.size, 0, none⟩ v0) := by simpa [List.set_append_right] using h0.set bs.length (g := w.heap.size) (cs := #[z0, z1]) (t := t) (by simp) 0 v0
  have h2 : Own w0 (bs ++ [(w.heap.size, .cells #[v0, v1] t (0, 0))]) (((w.alloc (.cells #[z0, z1] t (0, 0))).setCell ⟨w.heap.size, 0, none⟩ v0).setCell ⟨w.heap.size, 1, none⟩ v1) := by simpa [List.set_append_right] using h1.set bs.length (g := w.heap.size) (cs := #[v0, z1]) (t := t) (by simp) 1 v1
  exact h2
/-- A new block, and what is laid into it at once. -/
theorem Own.new3 {w0 w : World} {bs : List (Nat × Obj)} (h : Own w0 bs w) {z0 z1 z2 v0 v1 v2 : Value} {t : TypeId} : Own w0 (bs ++ [(w.heap.size, .cells #[v0, v1, v2] t (0, 0))]) ((((w.alloc (.cells #[z0, z1, z2] t (0, 0))).setCell ⟨w.heap.size, 0, none⟩ v0).setCell ⟨w.heap.size, 1, none⟩ v1).setCell ⟨w.heap.size, 2, none⟩ v2) := by
  have h0 := h.alloc (.cells #[z0, z1, z2] t (0, 0))
  have h1 : Own w0 (bs ++ [(w.heap.size, .cells #[v0, z1, z2] t (0, 0))]) ((w.alloc (.cells #[z0, z1, z2] t (0, 0))).setCell ⟨w.heap.size, 0, none⟩ v0) := by simpa [List.set_append_right] using h0.set bs.length (g := w.heap.size) (cs := #[z0, z1, z2]) (t := t) (by simp) 0 v0
  have h2 : Own w0 (bs ++ [(w.heap.size, .cells #[v0, v1, z2] t (0, 0))]) (((w.alloc (.cells #[z0, z1, z2] t (0, 0))).setCell ⟨w.heap.size, 0, none⟩ v0).setCell ⟨w.heap.size, 1, none⟩ v1) := by simpa [List.set_append_right] using h1.set bs.length (g := w.heap.size) (cs := #[v0, z1, z2]) (t := t) (by simp) 1 v1
  have h3 : Own w0 (bs ++ [(w.heap.size, .cells #[v0, v1, v2] t (0, 0))]) ((((w.alloc (.cells #[z0, z1, z2] t (0, 0))).setCell ⟨w.heap.size, 0, none⟩ v0).setCell ⟨w.heap.size, 1, none⟩ v1).setCell ⟨w.heap.size, 2, none⟩ v2) := by simpa [List.set_append_right] using h2.set bs.length (g := w.heap.size) (cs := #[v0, v1, z2]) (t := t) (by simp) 2 v2
  exact h3
/-- A new block, and what is laid into it at once. -/
theorem Own.new4 {w0 w : World} {bs : List (Nat × Obj)} (h : Own w0 bs w) {z0 z1 z2 z3 v0 v1 v2 v3 : Value} {t : TypeId} : Own w0 (bs ++ [(w.heap.size, .cells #[v0, v1, v2, v3] t (0, 0))]) (((((w.alloc (.cells #[z0, z1, z2, z3] t (0, 0))).setCell ⟨w.heap.size, 0, none⟩ v0).setCell ⟨w.heap.size, 1, none⟩ v1).setCell ⟨w.heap.size, 2, none⟩ v2).setCell ⟨w.heap.size, 3, none⟩ v3) := by
  have h0 := h.alloc (.cells #[z0, z1, z2, z3] t (0, 0))
  have h1 : Own w0 (bs ++ [(w.heap.size, .cells #[v0, z1, z2, z3] t (0, 0))]) ((w.alloc (.cells #[z0, z1, z2, z3] t (0, 0))).setCell ⟨w.heap.size, 0, none⟩ v0) := by simpa [List.set_append_right] using h0.set bs.length (g := w.heap.size) (cs := #[z0, z1, z2, z3]) (t := t) (by simp) 0 v0
  have h2 : Own w0 (bs ++ [(w.heap.size, .cells #[v0, v1, z2, z3] t (0, 0))]) (((w.alloc (.cells #[z0, z1, z2, z3] t (0, 0))).setCell ⟨w.heap.size, 0, none⟩ v0).setCell ⟨w.heap.size, 1, none⟩ v1) := by simpa [List.set_append_right] using h1.set bs.length (g := w.heap.size) (cs := #[v0, z1, z2, z3]) (t := t) (by simp) 1 v1
  have h3 : Own w0 (bs ++ [(w.heap.size, .cells #[v0, v1, v2, z3] t (0, 0))]) ((((w.alloc (.cells #[z0, z1, z2, z3] t (0, 0))).setCell ⟨w.heap.size, 0, none⟩ v0).setCell ⟨w.heap.size, 1, none⟩ v1).setCell ⟨w.heap.size, 2, none⟩ v2) := by simpa [List.set_append_right] using h2.set bs.length (g := w.heap.size) (cs := #[v0, v1, z2, z3]) (t := t) (by simp) 2 v2
  have h4 : Own w0 (bs ++ [(w.heap.size, .cells #[v0, v1, v2, v3] t (0, 0))]) (((((w.alloc (.cells #[z0, z1, z2, z3] t (0, 0))).setCell ⟨w.heap.size, 0, none⟩ v0).setCell ⟨w.heap.size, 1, none⟩ v1).setCell ⟨w.heap.size, 2, none⟩ v2).setCell ⟨w.heap.size, 3, none⟩ v3) := by simpa [List.set_append_right] using h3.set bs.length (g := w.heap.size) (cs := #[v0, v1, v2, z3]) (t := t) (by simp) 3 v3
  exact h4
/-- A new block, and what is laid into it at once. -/
theorem Own.new5 {w0 w : World} {bs : List (Nat × Obj)} (h : Own w0 bs w) {z0 z1 z2 z3 z4 v0 v1 v2 v3 v4 : Value} {t : TypeId} : Own w0 (bs ++ [(w.heap.size, .cells #[v0, v1, v2, v3, v4] t (0, 0))]) ((((((w.alloc (.cells #[z0, z1, z2, z3, z4] t (0, 0))).setCell ⟨w.heap.size, 0, none⟩ v0).setCell ⟨w.heap.size, 1, none⟩ v1).setCell ⟨w.heap.size, 2, none⟩ v2).setCell ⟨w.heap.size, 3, none⟩ v3).setCell ⟨w.heap.size, 4, none⟩ v4) := by
  have h0 := h.alloc (.cells #[z0, z1, z2, z3, z4] t (0, 0))
  have h1 : Own w0 (bs ++ [(w.heap.size, .cells #[v0, z1, z2, z3, z4] t (0, 0))]) ((w.alloc (.cells #[z0, z1, z2, z3, z4] t (0, 0))).setCell ⟨w.heap.size, 0, none⟩ v0) := by simpa [List.set_append_right] using h0.set bs.length (g := w.heap.size) (cs := #[z0, z1, z2, z3, z4]) (t := t) (by simp) 0 v0
  have h2 : Own w0 (bs ++ [(w.heap.size, .cells #[v0, v1, z2, z3, z4] t (0, 0))]) (((w.alloc (.cells #[z0, z1, z2, z3, z4] t (0, 0))).setCell ⟨w.heap.size, 0, none⟩ v0).setCell ⟨w.heap.size, 1, none⟩ v1) := by simpa [List.set_append_right] using h1.set bs.length (g := w.heap.size) (cs := #[v0, z1, z2, z3, z4]) (t := t) (by simp) 1 v1
  have h3 : Own w0 (bs ++ [(w.heap.size, .cells #[v0, v1, v2, z3, z4] t (0, 0))]) ((((w.alloc (.cells #[z0, z1, z2, z3, z4] t (0, 0))).setCell ⟨w.heap.size, 0, none⟩ v0).setCell ⟨w.heap.size, 1, none⟩ v1).setCell ⟨w.heap.size, 2, none⟩ v2) := by simpa [List.set_append_right] using h2.set bs.length (g := w.heap.size) (cs := #[v0, v1, z2, z3, z4]) (t := t) (by simp) 2 v2
  have h4 : Own w0 (bs ++ [(w.heap.size, .cells #[v0, v1, v2, v3, z4] t (0, 0))]) (((((w.alloc (.cells #[z0, z1, z2, z3, z4] t (0, 0))).setCell ⟨w.heap.size, 0, none⟩ v0).setCell ⟨w.heap.size, 1, none⟩ v1).setCell ⟨w.heap.size, 2, none⟩ v2).setCell ⟨w.heap.size, 3, none⟩ v3) := by simpa [List.set_append_right] using h3.set bs.length (g := w.heap.size) (cs := #[v0, v1, v2, z3, z4]) (t := t) (by simp) 3 v3
  have h5 : Own w0 (bs ++ [(w.heap.size, .cells #[v0, v1, v2, v3, v4] t (0, 0))]) ((((((w.alloc (.cells #[z0, z1, z2, z3, z4] t (0, 0))).setCell ⟨w.heap.size, 0, none⟩ v0).setCell ⟨w.heap.size, 1, none⟩ v1).setCell ⟨w.heap.size, 2, none⟩ v2).setCell ⟨w.heap.size, 3, none⟩ v3).setCell ⟨w.heap.size, 4, none⟩ v4) := by simpa [List.set_append_right] using h4.set bs.length (g := w.heap.size) (cs := #[v0, v1, v2, v3, z4]) (t := t) (by simp) 4 v4
  exact h5
theorem size_alloc_ (w : World) (o : Obj) : (w.alloc o).heap.size = w.heap.size + 1 := by unfold World.alloc; simp
theorem Own.alloc_at {w0 w : World} {bs : List (Nat × Obj)} (h : Own w0 bs w) {n : Nat} (e : w.heap.size = n) (o : Obj) : Own w0 (bs ++ [(n, o)]) (w.alloc o) ∧ (w.alloc o).heap.size = n + 1 := ⟨e ▸ h.alloc o, by rw [size_alloc_, e]⟩
theorem Own.boxes1 (w : World) {o0 : Obj} : Own w [(w.heap.size, o0)] (w.alloc o0) := by
  have h0 := (Own.start w).alloc_at rfl o0
  exact h0.1
theorem Own.boxes2 (w : World) {o0 o1 : Obj} : Own w [(w.heap.size, o0), (w.heap.size + 1, o1)] ((w.alloc o0).alloc o1) := by
  have h0 := (Own.start w).alloc_at rfl o0
  have h1 := h0.1.alloc_at h0.2 o1
  exact h1.1
theorem Own.boxes3 (w : World) {o0 o1 o2 : Obj} : Own w [(w.heap.size, o0), (w.heap.size + 1, o1), (w.heap.size + 1 + 1, o2)] (((w.alloc o0).alloc o1).alloc o2) := by
  have h0 := (Own.start w).alloc_at rfl o0
  have h1 := h0.1.alloc_at h0.2 o1
  have h2 := h1.1.alloc_at h1.2 o2
  exact h2.1
theorem Own.boxes4 (w : World) {o0 o1 o2 o3 : Obj} : Own w [(w.heap.size, o0), (w.heap.size + 1, o1), (w.heap.size + 1 + 1, o2), (w.heap.size + 1 + 1 + 1, o3)] ((((w.alloc o0).alloc o1).alloc o2).alloc o3) := by
  have h0 := (Own.start w).alloc_at rfl o0
  have h1 := h0.1.alloc_at h0.2 o1
  have h2 := h1.1.alloc_at h1.2 o2
  have h3 := h2.1.alloc_at h2.2 o3
  exact h3.1
theorem Own.boxes5 (w : World) {o0 o1 o2 o3 o4 : Obj} : Own w [(w.heap.size, o0), (w.heap.size + 1, o1), (w.heap.size + 1 + 1, o2), (w.heap.size + 1 + 1 + 1, o3), (w.heap.size + 1 + 1 + 1 + 1, o4)] (((((w.alloc o0).alloc o1).alloc o2).alloc o3).alloc o4) := by
  have h0 := (Own.start w).alloc_at rfl o0
  have h1 := h0.1.alloc_at h0.2 o1
  have h2 := h1.1.alloc_at h1.2 o2
  have h3 := h2.1.alloc_at h2.2 o3
  have h4 := h3.1.alloc_at h3.2 o4
  exact h4.1
theorem Own.boxes6 (w : World) {o0 o1 o2 o3 o4 o5 : Obj} : Own w [(w.heap.size, o0), (w.heap.size + 1, o1), (w.heap.size + 1 + 1, o2), (w.heap.size + 1 + 1 + 1, o3), (w.heap.size + 1 + 1 + 1 + 1, o4), (w.heap.size + 1 + 1 + 1 + 1 + 1, o5)] ((((((w.alloc o0).alloc o1).alloc o2).alloc o3).alloc o4).alloc o5) := by
  have h0 := (Own.start w).alloc_at rfl o0
  have h1 := h0.1.alloc_at h0.2 o1
  have h2 := h1.1.alloc_at h1.2 o2
  have h3 := h2.1.alloc_at h2.2 o3
  have h4 := h3.1.alloc_at h3.2 o4
  have h5 := h4.1.alloc_at h4.2 o5
  exact h5.1
theorem Own.boxes7 (w : World) {o0 o1 o2 o3 o4 o5 o6 : Obj} : Own w [(w.heap.size, o0), (w.heap.size + 1, o1), (w.heap.size + 1 + 1, o2), (w.heap.size + 1 + 1 + 1, o3), (w.heap.size + 1 + 1 + 1 + 1, o4), (w.heap.size + 1 + 1 + 1 + 1 + 1, o5), (w.heap.size + 1 + 1 + 1 + 1 + 1 + 1, o6)] (((((((w.alloc o0).alloc o1).alloc o2).alloc o3).alloc o4).alloc o5).alloc o6) := by
  have h0 := (Own.start w).alloc_at rfl o0
  have h1 := h0.1.alloc_at h0.2 o1
  have h2 := h1.1.alloc_at h1.2 o2
  have h3 := h2.1.alloc_at h2.2 o3
  have h4 := h3.1.alloc_at h3.2 o4
  have h5 := h4.1.alloc_at h4.2 o5
  have h6 := h5.1.alloc_at h5.2 o6
  exact h6.1
theorem Own.boxes8 (w : World) {o0 o1 o2 o3 o4 o5 o6 o7 : Obj} : Own w [(w.heap.size, o0), (w.heap.size + 1, o1), (w.heap.size + 1 + 1, o2), (w.heap.size + 1 + 1 + 1, o3), (w.heap.size + 1 + 1 + 1 + 1, o4), (w.heap.size + 1 + 1 + 1 + 1 + 1, o5), (w.heap.size + 1 + 1 + 1 + 1 + 1 + 1, o6), (w.heap.size + 1 + 1 + 1 + 1 + 1 + 1 + 1, o7)] ((((((((w.alloc o0).alloc o1).alloc o2).alloc o3).alloc o4).alloc o5).alloc o6).alloc o7) := by
  have h0 := (Own.start w).alloc_at rfl o0
  have h1 := h0.1.alloc_at h0.2 o1
  have h2 := h1.1.alloc_at h1.2 o2
  have h3 := h2.1.alloc_at h2.2 o3
  have h4 := h3.1.alloc_at h3.2 o4
  have h5 := h4.1.alloc_at h4.2 o5
  have h6 := h5.1.alloc_at h5.2 o6
  have h7 := h6.1.alloc_at h6.2 o7
  exact h7.1
theorem Own.less {w0 w : World} {bs : List (Nat × Obj)} {x : Nat × Obj} (h : Own w0 (bs ++ [x]) w) : Own w0 bs w := by
  refine ⟨h.below, fun i g o e => h.at_ i g o ?_, ?_⟩
  · rw [List.getElem?_append_left (List.getElem?_eq_some_iff.1 e).1]; exact e
  have := h.apart
  rw [List.map_append, List.pairwise_append] at this
  exact this.1
/-! litc: a row laid at once; what a state's block leaves alone -/
theorem lit_C (w : World) (xs : List Int) (t : TypeId) (h : xs.length ≤ 9223372036854775807) : Kd.C (Kd.int .i64) (w.alloc (.cells (xs.map (Value.int .i64)).toArray t (0, 0))) (some ⟨w.heap.size, 0, none⟩) xs.length xs := by
  refine Kd.C_of_reads (d := 0) ⟨rfl, h, fun _ => ⟨_, rfl, fun j hj => ?_⟩⟩
  have z := blk_cell (blk_new w (.cells (xs.map (Value.int .i64)).toArray t (0, 0))) j
  have e : (⟨w.heap.size, 0, none⟩ : Addr).add j = ⟨w.heap.size, j, none⟩ := by simp [Addr.add] <;> omega
  rw [e, z]
  simp [hj]
theorem kept_blk {w w' : World} {g g' : Nat} {o : Obj} (z : Aside0 (w.heap[g']? = some o)) (hk : KeepBut w w' g none) (n : g' ≠ g) : Aside0 (w'.heap[g']? = some o) := ⟨(hk.2 g' (blk_lt z.out) n (by simp)).trans z.out⟩
theorem alloc_blk {w : World} {g' : Nat} {o o' : Obj} (z : Aside0 (w.heap[g']? = some o)) : Aside0 ((w.alloc o').heap[g']? = some o) := ⟨blk_alloc z.out o'⟩
def spec_DrawRelativeHand.f (k : Nat) (l0 : List Int) : Option (Int × Int × Int × Int × Int × Int) := (spec_l1Cur_hand.f k l0 0 0).bind fun b => (spec_l1Cur_hand.f k l0 b.2.2.2.1 b.2.2.2.2).bind fun c => some (b.1, b.2.1, b.2.2.1, c.1, c.2.1, c.2.2.1)
theorem spec_DrawRelativeHand.mono : ∀ a0 k, LeO (spec_DrawRelativeHand.f k a0) (spec_DrawRelativeHand.f (k + 1) a0) := by
  intro a0 k
  unfold spec_DrawRelativeHand.f
  exact LeO.bind (spec_l1Cur_hand.mono _ _ _ _) (fun _ => LeO.bind (spec_l1Cur_hand.mono _ _ _ _) (fun _ => LeO.refl _))
set_option maxHeartbeats 8000000 in
set_option maxRecDepth 100000 in
theorem spec_DrawRelativeHand.calls (k : Nat) (A0 : Option Addr) (c0 : Nat) (l0 : List Int) (r1 r2 r3 r4 r5 r6 : Int) (w : World) (hr0 : Kd.C (Kd.int .u8) w A0 l0.length l0) (hc0 : l0.length ≤ c0) (h : spec_DrawRelativeHand.f k l0 = some (r1, r2, r3, r4, r5, r6)) :
    Calls Try.prog 24 #[.slice A0 l0.length c0] w fun e w' => e = .returned (.tuple #[.agg #[.int .i64 r1, .int .i64 r2, .int .i64 r3], .agg #[.int .i64 r4, .int .i64 r5, .int .i64 r6]]) ∧ Below w.heap.size w w' := by
  unfold spec_DrawRelativeHand.f at h
  obtain ⟨⟨v0a, v0b, v0c, i0, s0⟩, e0, h⟩ := Option.bind_eq_some_iff.mp h
  dsimp only at h
  obtain ⟨⟨v1a, v1b, v1c, i1, s1⟩, e1, h⟩ := Option.bind_eq_some_iff.mp h
  dsimp only at h
  simp only [Option.some.injEq, Prod.mk.injEq] at h
  obtain ⟨rfl, rfl, rfl, rfl, rfl, rfl⟩ := h
  have hu0 := Try.underlying27
  have huT := Try.underlying25
  go_enter Try.func24, Try.ntmps24
  go_upto_region 2 with (fail)
  refine Own.gen (Own.boxes3 w) ?_
  intro w1 HO
  generalize w.heap.size + 1 + 1 = gs at HO ⊢
  generalize w.heap.size + 1 = g3 at HO ⊢
  generalize w.heap.size = g2 at HO ⊢
  have z := HO.at_ 2 gs _ rfl
  have Z0 := Aside0.mk (HO.at_ 0 g2 _ rfl).2
  have lb0 := Aside0.mk (HO.at_ 0 g2 _ rfl).1
  have n0 : g2 ≠ gs := HO.ne (i := 0) (j := 2) rfl rfl (by decide)
  have Z1 := Aside0.mk (HO.at_ 1 g3 _ rfl).2
  have lb1 := Aside0.mk (HO.at_ 1 g3 _ rfl).1
  have n1 : g3 ≠ gs := HO.ne (i := 1) (j := 2) rfl rfl (by decide)
  have n0_1 : g2 ≠ g3 := HO.ne (i := 0) (j := 1) rfl rfl (by decide)
  have n1_0 : g3 ≠ g2 := HO.ne (i := 1) (j := 0) rfl rfl (by decide)
  have hI : IsS63 w w1 gs l0 0 0 := ⟨A0, c0, z.2, z.1, hr0⟩
  have C0 := Aside0.mk (spec_l1Cur_hand.calls k gs l0 0 0 v0a v0b v0c i0 s0 w w1 hI HO.below e0)
  have C1 := fun w2 (h2 : IsS63 w w2 gs l0 i0 s0) (hb2 : Below w.heap.size w w2) => spec_l1Cur_hand.calls k gs l0 i0 s0 v1a v1b v1c i1 s1 w w2 h2 hb2 e1
  clear hI z HO hr0 hc0 e0 e1
  go_wp2_with (first
    | (go_at_call 44; refine C0.1.mono ?_; rintro e w2 ⟨rfl, hI0, hb0, hk0⟩; have D1 := Aside0.mk (C1 w2 hI0 hb0); replace Z0 := Aside0.mk ((hk0.2 g2 (blk_lt Z0.1) n0 (by simp)).trans Z0.1); replace Z1 := Aside0.mk ((hk0.2 g3 (blk_lt Z1.1) n1 (by simp)).trans Z1.1); clear C0 hI0 hb0 hk0 C1)
    | (go_at_call 44; refine D1.1.mono ?_; rintro e w3 ⟨rfl, hI1, hb1, hk1⟩; replace Z0 := Aside0.mk ((hk1.2 g2 (blk_lt Z0.1) n0 (by simp)).trans Z0.1); replace Z1 := Aside0.mk ((hk1.2 g3 (blk_lt Z1.1) n1 (by simp)).trans Z1.1); have HB := Aside0.mk hb1; obtain ⟨p0_0, p0_1, p0_2, f0_0, f0_1, f0_2⟩ := zc3 Z0; obtain ⟨p1_0, p1_1, p1_2, f1_0, f1_1, f1_2⟩ := zc3 Z1; clear D1 hI1 hb1 hk1))
  have G0 := (blk_far (blk_far (blk_far (blk_put (cs' := #[.int .i64 v0a, .int .i64 v0b, .int .i64 v0c]) (blk_put (cs' := #[.int .i64 v0a, .int .i64 v0b, .int .i64 0]) (blk_put (cs' := #[.int .i64 v0a, .int .i64 0, .int .i64 0]) Z0.1 0 (.int .i64 v0a) rfl) 1 (.int .i64 v0b) rfl) 2 (.int .i64 v0c) rfl) (p := ⟨g3, 0, none⟩) n0_1 (.int .i64 v1a)) (p := ⟨g3, 1, none⟩) n0_1 (.int .i64 v1b)) (p := ⟨g3, 2, none⟩) n0_1 (.int .i64 v1c))
  have G1 := (blk_put (cs' := #[.int .i64 v1a, .int .i64 v1b, .int .i64 v1c]) (blk_put (cs' := #[.int .i64 v1a, .int .i64 v1b, .int .i64 0]) (blk_put (cs' := #[.int .i64 v1a, .int .i64 0, .int .i64 0]) (blk_far (blk_far (blk_far Z1.1 (p := ⟨g2, 0, none⟩) n1_0 (.int .i64 v0a)) (p := ⟨g2, 1, none⟩) n1_0 (.int .i64 v0b)) (p := ⟨g2, 2, none⟩) n1_0 (.int .i64 v0c)) 0 (.int .i64 v1a) rfl) 1 (.int .i64 v1b) rfl) 2 (.int .i64 v1c) rfl)
  refine bodyPost_ret (results_list (rs := [.cell 2 27, .cell 3 27]) rfl (by simp) (.cell g2 27 #[.int .i64 v0a, .int .i64 v0b, .int .i64 v0c] (0, 0) _ rfl G0 Try.underlying27 rfl (by kernel_rfl) (.cell g3 27 #[.int .i64 v1a, .int .i64 v1b, .int .i64 v1c] (0, 0) _ rfl G1 Try.underlying27 rfl (by kernel_rfl) .nil))) rfl ?_
  exact ⟨rfl, (below_set (below_set (below_set (below_set (below_set (below_set HB.1 lb0.out) lb0.out) lb0.out) lb1.out) lb1.out) lb1.out)⟩

/-! ### spec_DrawMeetTimes: function 5 -/
def spec_DrawMeetTimes.f (k : Nat) (l0 : List Int) : Option (Int × Int × Int × Int × Int × Int) := (spec_DrawRelativeHand.f k l0).bind fun bt189 => (some (bt189.1, bt189.2.1, bt189.2.2.1, bt189.2.2.2.1, bt189.2.2.2.2.1, bt189.2.2.2.2.2))
theorem spec_DrawMeetTimes.mono : ∀ a0 k, LeO (spec_DrawMeetTimes.f k a0) (spec_DrawMeetTimes.f (k + 1) a0) := by
  intro a0 k
  unfold spec_DrawMeetTimes.f
  repeat' first
      | (with_reducible exact spec_DrawRelativeHand.mono _ _)
      | (with_reducible exact LeO.refl _)
      | (with_reducible exact LeO.none _)
      | (with_reducible refine LeO.ite ?_ ?_)
      | (with_reducible refine LeO.bind ?_ (fun _ => ?_))
      | exact spec_DrawRelativeHand.mono _ _
      | exact LeO.none _
      | refine LeO.ite ?_ ?_
      | refine LeO.bind ?_ (fun _ => ?_)
set_option maxHeartbeats 8000000 in
set_option maxRecDepth 100000 in
theorem spec_DrawMeetTimes.calls (k : Nat) (A0 : Option Addr) (c0 : Nat) (l0 : List Int) (r1 : Int) (r2 : Int) (r3 : Int) (r4 : Int) (r5 : Int) (r6 : Int) (w : World) (hr0 : Kd.C (Kd.int .u8) w A0 l0.length l0) (hc0 : l0.length ≤ c0) (h : spec_DrawMeetTimes.f k l0 = some (r1, r2, r3, r4, r5, r6)) :
    Calls Try.prog 5 #[.slice A0 l0.length c0] w fun e w' => e = .returned (.tuple #[.agg #[.int .i64 r1, .int .i64 r2, .int .i64 r3], .agg #[.int .i64 r4, .int .i64 r5, .int .i64 r6]]) ∧ Below w.heap.size w w' := by
  have hu27 := Try.underlying27
  have HR0 := Aside0.mk hr0
  have HC0 := Aside0.mk hc0
  clear hr0 hc0
  have HB := Aside0.mk (Below.refl w.heap.size w)
  have H : ((spec_DrawRelativeHand.f k l0).bind fun bt189 => (some (bt189.1, bt189.2.1, bt189.2.2.1, bt189.2.2.2.1, bt189.2.2.2.2.1, bt189.2.2.2.2.2))) = some (r1, r2, r3, r4, r5, r6) := h
  clear h
  replace H := Option.bind_eq_some_iff.mp H
  obtain ⟨⟨t189, t190, t191, t192, t193, t194⟩, A20, H⟩ := H
  (try dsimp only at H)
  have A2 := Aside0.mk A20
  clear A20
  simp only [Option.some.injEq, Prod.mk.injEq] at H
  obtain ⟨rfl, rfl, rfl, rfl, rfl, rfl⟩ := H
  go_enter Try.func5, Try.ntmps5
  go_wp2_with (first | ((with_reducible refine gate_dst (N := 2) rfl ?_); refine be #[.int .i64 0, .int .i64 0, .int .i64 0] 27 ?_; intro gb187 hg w3 hbox hb; have BK187 := Aside0.mk hbox; have GW187 := zs HB hg; have GE187 := zs HB hg; replace HB := zB HB hb; clear hb hbox hg) | ((with_reducible refine gate_dst (N := 3) rfl ?_); refine be #[.int .i64 0, .int .i64 0, .int .i64 0] 27 ?_; intro gb188 hg w4 hbox hb; have BK188 := Aside0.mk hbox; have GW188 := zs HB hg; have GE188 := zs HB hg; have NB187_188 := zn BK187 hg; have NB188_187 := zm BK187 hg; replace BK187 := zb BK187 hb; replace HB := zB HB hb; clear hb hbox hg) | ((with_reducible refine gate_callee (f := 24) rfl ?_); refine gl (some 5) Try.func24 #[.slice A0 l0.length c0] ?_; (with_reducible refine (spec_DrawRelativeHand.calls k _ _ l0 t189 t190 t191 t192 t193 t194 _ ?side1 ?side2 A2.1).mono ?_); (case side1 => repeat (first | exact (Kd.C_below HR0.1 HB.1) | (with_reducible refine Kd.C_alloc ?_ _) | (with_reducible refine Kd.C_drewN ?_ _) | (with_reducible refine Kd.C_drew ?_))); (case side2 => exact HC0.1); rintro e w5 ⟨rfl, hb⟩; refine ⟨_, rfl, ?_⟩; replace BK187 := zb BK187 hb; replace BK188 := zb BK188 hb; replace HB := zB HB hb; clear hb; have hnb6 := NB187_188.1; have hnc6 := NB188_187.1; obtain ⟨hcz7_0, hcz7_1, hcz7_2, hfz7_0, hfz7_1, hfz7_2⟩ := zc3 BK187; obtain ⟨hcz8_0, hcz8_1, hcz8_2, hfz8_0, hfz8_1, hfz8_2⟩ := zc3 BK188))
  refine bodyPost_ret (results_cc rfl _ _ gb187 gb188 27 27 #[.int .i64 t189, .int .i64 t190, .int .i64 t191] #[.int .i64 t192, .int .i64 t193, .int .i64 t194] (0, 0) (0, 0) _ _ rfl (bk BK187) Try.underlying27 rfl (by kernel_rfl) rfl (bk BK188) Try.underlying27 rfl (by kernel_rfl)) rfl ?_
  exact ⟨er, bq HB⟩

/-! ### impl_within: function 37 -/
def impl_within.f (a0 : Int) (a1 : Int) (a2 : Int) : Option (Bool) := if a0 ≥ a1 then (some (decide (a0 ≤ a2))) else (some false)
set_option maxHeartbeats 8000000 in
set_option maxRecDepth 100000 in
theorem impl_within.calls (a0 : Int) (a1 : Int) (a2 : Int) (r : Bool) (w : World) (h : impl_within.f a0 a1 a2 = some r) :
    Calls Try.prog 37 #[.int .i64 a0, .int .i64 a1, .int .i64 a2] w fun e w' => e = .returned (.bool r) ∧ Drawn0 w w' := by
  have H : (if a0 ≥ a1 then (some (decide (a0 ≤ a2))) else (some false)) = some r := h
  clear h
  by_cases c4 : a0 ≥ a1
  · rw [if_pos c4] at H
    have c4b0 : decide (a1 ≤ a0) = true := decide_eq_true c4
    clear c4
    obtain rfl := Option.some.inj H
    go_enter Try.func37, Try.ntmps37
    go_wp2
    go_ret
    exact ⟨by first | rfl | (simp; done) | (simp [*]; done), by repeat (first | exact Drawn0.refl _ | apply Drawn0.step)⟩
  rw [if_neg c4] at H
  have c4b0 : decide (a1 ≤ a0) = false := decide_eq_false c4
  clear c4
  obtain rfl := Option.some.inj H
  go_enter Try.func37, Try.ntmps37
  go_wp2
  go_ret
  exact ⟨by first | rfl | (simp; done) | (simp [*]; done), by repeat (first | exact Drawn0.refl _ | apply Drawn0.step)⟩

/-! ### impl_gcd: function 67 -/
def impl_gcd.l0 : Nat → Int → Int → Option (Int)
  | 0, _, _ => none
  | k + 1, x0, x1 => if x1 = 0 then (some (mx x0 (wrap64 (-x0)))) else (impl_gcd.l0 k x1 (Int.tmod x0 x1))
def impl_gcd.f (k : Nat) (a0 : Int) (a1 : Int) : Option (Int) := impl_gcd.l0 k a0 a1
theorem impl_gcd.mono_l : ∀ k, (∀ y0 y1, LeO (impl_gcd.l0 k y0 y1) (impl_gcd.l0 (k + 1) y0 y1))
  | 0 => fun _ _ r h => by simp [impl_gcd.l0] at h
  | k + 1 => by
    have ih0 := impl_gcd.mono_l k
    intro y0 y1
    unfold impl_gcd.l0
    repeat' first
    | (with_reducible exact ih0 _ _)
    | (with_reducible exact LeO.refl _)
    | (with_reducible exact LeO.none _)
    | (with_reducible refine LeO.ite ?_ ?_)
    | (with_reducible refine LeO.bind ?_ (fun _ => ?_))
    | exact ih0 _ _
    | exact LeO.none _
    | refine LeO.ite ?_ ?_
    | refine LeO.bind ?_ (fun _ => ?_)
theorem impl_gcd.mono : ∀ a0 a1 k, LeO (impl_gcd.f k a0 a1) (impl_gcd.f (k + 1) a0 a1) := by
  intro a0 a1 k
  have ih0 := impl_gcd.mono_l k
  unfold impl_gcd.f
  repeat' first
      | (with_reducible exact ih0 _ _)
      | (with_reducible exact LeO.refl _)
      | (with_reducible exact LeO.none _)
      | (with_reducible refine LeO.ite ?_ ?_)
      | (with_reducible refine LeO.bind ?_ (fun _ => ?_))
      | exact ih0 _ _
      | exact LeO.none _
      | refine LeO.ite ?_ ?_
      | refine LeO.bind ?_ (fun _ => ?_)
set_option maxHeartbeats 8000000 in
set_option maxRecDepth 100000 in
theorem impl_gcd.calls (k : Nat) (a0 : Int) (a1 : Int) (r : Int) (w : World) (h : impl_gcd.f k a0 a1 = some r) :
    Calls Try.prog 67 #[.int .i64 a0, .int .i64 a1] w fun e w' => e = .returned (.int .i64 r) ∧ Below w.heap.size w w' := by
  have HB := Aside0.mk (Below.refl w.heap.size w)
  have H : (impl_gcd.l0 k a0 a1) = some r := h
  clear h
  have H' := Aside0.mk H
  clear H
  go_enter Try.func67, Try.ntmps67
  go_wp2
  repeat (go_quiet (fail); try go_wp2)
  go_loopg [0, 1] k (fun kq v0 v1 w' => ∃ (x0_1 : Int) (x1_1 : Int), v0 = .int .i64 x0_1 ∧ v1 = .int .i64 x1_1 ∧ Aside0 (impl_gcd.l0 kq x0_1 x1_1 = some r) ∧ Aside0 (kq ≤ k) ∧ Aside0 (Below w.heap.size w w'))
  case atStart => exact ⟨(a0), (a1), ew, ew, H', ⟨Nat.le_refl _⟩, ⟨bq HB⟩⟩
  case round =>
    clear H'
    obtain ⟨x0_1, x1_1, rfl, rfl, HA, HK1, HB⟩ := hrel
    cases gk with
    | zero => exact absurd HA.1 (by simp [impl_gcd.l0])
    | succ k1 =>
      have H := HA.1
      clear HA
      simp only [impl_gcd.l0] at H
      by_cases c3 : x1_1 = 0
      · rw [if_pos c3] at H
        have c3b0 : (x1_1 == 0) = true := beq_iff_eq.mpr c3
        have c3b1 : (x1_1 != 0) = false := bne_eq_false_iff_eq.mpr c3
        clear c3
        obtain ⟨ji4, hji4⟩ : ∃ j_ : Int, (mx x0_1 (wrap64 (-x0_1))) = j_ := ⟨_, rfl⟩
        replace H : (some ji4) = some r := by first | (rw [hji4] at H; exact H) | (simp only [hji4] at H ⊢; exact H)
        have hji4_ : (if x0_1 < (wrap64 (-x0_1)) then (wrap64 (-x0_1)) else x0_1) = ji4 := hji4
        obtain rfl := Option.some.inj H
        go_wp2
        repeat (go_quiet (fail); try go_wp2)
        go_ret
        exact ⟨by first | rfl | (simp [errW_none, errW_some] <;> rfl) | (simp only [← hji4]; first | rfl | (simp [errW_none, errW_some] <;> rfl)) | (simp [*, errW_none, errW_some] <;> rfl), bq HB⟩
      rw [if_neg c3] at H
      have c3b0 : (x1_1 == 0) = false := beq_eq_false_iff_ne.mpr c3
      have c3b1 : (x1_1 != 0) = true := bne_iff_ne.mpr c3
      have H' := Aside0.mk H
      clear H
      go_wp2
      repeat (go_quiet (fail); try go_wp2)
      go_roundg k1
      case measure => have := HK1.1; omega
      case rel => exact ⟨(x1_1), (Int.tmod x0_1 x1_1), ew, ew, H', ⟨by have := HK1.1; omega⟩, ⟨bq HB⟩⟩

/-! ### impl_IsTurn: function 39 -/
def impl_IsTurn.f (k : Nat) (a0_0 : Int) (a0_1 : Int) : Option (Bool) := (impl_within.f a0_1 1 1000000).bind fun t196 => (if t196 = true then ((impl_within.f a0_0 0 (wrap64 (a0_1 - 1))).bind fun t197 => (if t197 = true then ((impl_gcd.f k a0_0 a0_1).bind fun t198 => (some (t198 == 1))) else (some false))) else (some false))
theorem impl_IsTurn.mono : ∀ a0 a1 k, LeO (impl_IsTurn.f k a0 a1) (impl_IsTurn.f (k + 1) a0 a1) := by
  intro a0 a1 k
  unfold impl_IsTurn.f
  repeat' first
      | (with_reducible exact impl_gcd.mono _ _ _)
      | (with_reducible exact LeO.refl _)
      | (with_reducible exact LeO.none _)
      | (with_reducible refine LeO.ite ?_ ?_)
      | (with_reducible refine LeO.bind ?_ (fun _ => ?_))
      | exact impl_gcd.mono _ _ _
      | exact LeO.none _
      | refine LeO.ite ?_ ?_
      | refine LeO.bind ?_ (fun _ => ?_)
set_option maxHeartbeats 8000000 in
set_option maxRecDepth 100000 in
theorem impl_IsTurn.calls (k : Nat) (a0_0 : Int) (a0_1 : Int) (r : Bool) (w : World) (h : impl_IsTurn.f k a0_0 a0_1 = some r) :
    Calls Try.prog 39 #[.agg #[.int .i64 a0_0, .int .i64 a0_1]] w fun e w' => e = .returned (.bool r) ∧ Below w.heap.size w w' := by
  have hu25 := Try.underlying25
  have HB := Aside0.mk (Below.refl w.heap.size w)
  have H : ((impl_within.f a0_1 1 1000000).bind fun t196 => (if t196 = true then ((impl_within.f a0_0 0 (wrap64 (a0_1 - 1))).bind fun t197 => (if t197 = true then ((impl_gcd.f k a0_0 a0_1).bind fun t198 => (some (t198 == 1))) else (some false))) else (some false))) = some r := h
  clear h
  replace H := Option.bind_eq_some_iff.mp H
  obtain ⟨t196, A20, H⟩ := H
  (try dsimp only at H)
  have A2 := Aside0.mk A20
  clear A20
  by_cases c3 : t196 = true
  · subst c3
    rw [if_pos rfl] at H
    replace H := Option.bind_eq_some_iff.mp H
    obtain ⟨t197, A40, H⟩ := H
    (try dsimp only at H)
    have A4 := Aside0.mk A40
    clear A40
    by_cases c5 : t197 = true
    · subst c5
      rw [if_pos rfl] at H
      replace H := Option.bind_eq_some_iff.mp H
      obtain ⟨t198, A60, H⟩ := H
      (try dsimp only at H)
      have A6 := Aside0.mk A60
      clear A60
      obtain rfl := Option.some.inj H
      go_enter Try.func39, Try.ntmps39
      go_wp2_with (first | ((with_reducible refine gate_dst (N := 1) rfl ?_); refine be #[.int .i64 a0_0, .int .i64 a0_1] 25 ?_; intro gb195 hg w7 hbox hb; have BK195 := Aside0.mk hbox; have GW195 := zs HB hg; have GE195 := zs HB hg; replace HB := zB HB hb; clear hb hbox hg; obtain ⟨hcz8_0, hcz8_1, hfz8_0, hfz8_1⟩ := zc2 BK195) | ((with_reducible refine gate_callee (f := 37) rfl ?_); refine gl (some 5) Try.func37 #[.int .i64 a0_1, .int .i64 1, .int .i64 1000000] ?_; (with_reducible refine (impl_within.calls a0_1 1 1000000 true _ A2.1).mono ?_); rintro e w' ⟨rfl, ⟨nd, rfl⟩⟩; refine ⟨_, rfl, ?_⟩) | (go_at_call 37; (with_reducible refine (impl_within.calls a0_0 0 (wrap64 (a0_1 - 1)) true _ A4.1).mono ?_); rintro e w' ⟨rfl, ⟨nd, rfl⟩⟩) | (go_at_call 67; (with_reducible refine (impl_gcd.calls k a0_0 a0_1 t198 _ A6.1).mono ?_); rintro e w9 ⟨rfl, hb⟩; replace BK195 := zb BK195 hb; replace HB := zB HB hb; clear hb))
      go_ret
      exact ⟨er, bq HB⟩
    replace c5 := Bool.eq_false_iff.mpr c5
    subst c5
    rw [if_neg (show ¬ (false = true) by decide)] at H
    obtain rfl := Option.some.inj H
    go_enter Try.func39, Try.ntmps39
    go_wp2_with (first | ((with_reducible refine gate_dst (N := 1) rfl ?_); refine be #[.int .i64 a0_0, .int .i64 a0_1] 25 ?_; intro gb195 hg w10 hbox hb; have BK195 := Aside0.mk hbox; have GW195 := zs HB hg; have GE195 := zs HB hg; replace HB := zB HB hb; clear hb hbox hg; obtain ⟨hcz11_0, hcz11_1, hfz11_0, hfz11_1⟩ := zc2 BK195) | ((with_reducible refine gate_callee (f := 37) rfl ?_); refine gl (some 5) Try.func37 #[.int .i64 a0_1, .int .i64 1, .int .i64 1000000] ?_; (with_reducible refine (impl_within.calls a0_1 1 1000000 true _ A2.1).mono ?_); rintro e w' ⟨rfl, ⟨nd, rfl⟩⟩; refine ⟨_, rfl, ?_⟩) | (go_at_call 37; (with_reducible refine (impl_within.calls a0_0 0 (wrap64 (a0_1 - 1)) false _ A4.1).mono ?_); rintro e w' ⟨rfl, ⟨nd, rfl⟩⟩))
    go_ret
    exact ⟨er, bq HB⟩
  replace c3 := Bool.eq_false_iff.mpr c3
  subst c3
  rw [if_neg (show ¬ (false = true) by decide)] at H
  obtain rfl := Option.some.inj H
  go_enter Try.func39, Try.ntmps39
  go_wp2_with (first | ((with_reducible refine gate_dst (N := 1) rfl ?_); refine be #[.int .i64 a0_0, .int .i64 a0_1] 25 ?_; intro gb195 hg w12 hbox hb; have BK195 := Aside0.mk hbox; have GW195 := zs HB hg; have GE195 := zs HB hg; replace HB := zB HB hb; clear hb hbox hg; obtain ⟨hcz13_0, hcz13_1, hfz13_0, hfz13_1⟩ := zc2 BK195) | ((with_reducible refine gate_callee (f := 37) rfl ?_); refine gl (some 5) Try.func37 #[.int .i64 a0_1, .int .i64 1, .int .i64 1000000] ?_; (with_reducible refine (impl_within.calls a0_1 1 1000000 false _ A2.1).mono ?_); rintro e w' ⟨rfl, ⟨nd, rfl⟩⟩; refine ⟨_, rfl, ?_⟩))
  go_ret
  exact ⟨er, bq HB⟩

end Go.Proofs.Ytoneipoioiokcaa.PFnHandsMeet
