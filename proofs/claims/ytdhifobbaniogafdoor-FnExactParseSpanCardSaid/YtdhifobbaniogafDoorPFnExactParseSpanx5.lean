/- A part of the walk of FnExactParseSpan: which Lean function each Go function comes to, and that the machine's call does so. Written by a program of this repo (wip/gen/xprint.py). -/
import Derived.Test.YtdhifobbaniogafDoorPFnExactParseSpanx0
import Derived.Test.YtdhifobbaniogafDoorPFnExactParseSpanx4
namespace Go.Proofs.YtdhifobbaniogafDoor.PFnExactParseSpan
open Go.RowKit Go.Proofs.YtdhifobbaniogafDoorW.PrintWords Go.Proofs.YtdhifobbaniogafDoorW.PrintLast Go.Proofs.YtdhifobbaniogafDoorW.PrintMore
attribute [local go_sem] max2_int min2_int max_two min_two max_three min_three max_four min_four   -- for this text's walks alone
set_option linter.unusedVariables false
set_option linter.unusedSimpArgs false

/-! ### impl_ParseSpan: function 5 -/
/-! own: the blocks that the call has laid, under one name -/
structure Own (w0 : World) (bs : List (Nat × Obj)) (w : World) : Prop where
  below : Below w0.heap.size w0 w
  at_ : ∀ (i g : Nat) (o : Obj), bs[i]? = some (g, o) → w0.heap.size ≤ g ∧ w.heap[g]? = some o
  apart : (bs.map (·.1)).Pairwise (· < ·)
theorem Own.start (w : World) : Own w [] w := ⟨Below.refl _ _, fun i g o h => by simp at h, List.Pairwise.nil⟩
section
variable {w0 w w' : World} {bs : List (Nat × Obj)}
theorem Own.call (h : Own w0 bs w) (hb : Below w.heap.size w w') : Own w0 bs w' :=
  ⟨below_step h.below hb, fun i g o e => ⟨(h.at_ i g o e).1, blk_below (h.at_ i g o e).2 hb⟩, h.apart⟩
theorem Own.drew (h : Own w0 bs w) : Own w0 bs w.drew := ⟨below_drew1 h.below, fun i g o e => h.at_ i g o e, h.apart⟩
theorem Own.drewN (h : Own w0 bs w) (n : Nat) : Own w0 bs (w.drewN n) := ⟨pw_below_drewN h.below n, fun i g o e => h.at_ i g o e, h.apart⟩
theorem Own.alloc (h : Own w0 bs w) (o : Obj) : Own w0 (bs ++ [(w.heap.size, o)]) (w.alloc o) := by
  refine ⟨below_alloc h.below o, fun i g o' e => ?_, ?_⟩
  · by_cases hi : i < bs.length
    · rw [List.getElem?_append_left hi] at e
      exact ⟨(h.at_ i g o' e).1, blk_alloc (h.at_ i g o' e).2 o⟩
    · rw [List.getElem?_append_right (by omega)] at e
      have h0 : i - bs.length = 0 := by
        have := (List.getElem?_eq_some_iff.1 e).1
        simp at this
        omega
      rw [h0] at e
      simp only [List.getElem?_cons_zero, Option.some.injEq, Prod.mk.injEq] at e
      obtain ⟨rfl, rfl⟩ := e
      exact ⟨h.below.size, blk_new w _⟩
  · rw [List.map_append, List.pairwise_append]
    refine ⟨h.apart, by simp, fun a ha b hb => ?_⟩
    simp only [List.map_cons, List.map_nil, List.mem_singleton] at hb
    subst hb
    obtain ⟨⟨g, o'⟩, hm, rfl⟩ := List.mem_map.1 ha
    obtain ⟨i, hi⟩ := List.mem_iff_getElem?.1 hm
    exact blk_lt (h.at_ i g o' hi).2
theorem Own.ne (h : Own w0 bs w) {i j g g' : Nat} {o o' : Obj} (hi : bs[i]? = some (g, o)) (hj : bs[j]? = some (g', o')) (hij : i ≠ j) : g ≠ g' := by
  have hp := List.pairwise_iff_getElem.1 h.apart
  have li := (List.getElem?_eq_some_iff.1 hi).1
  have lj := (List.getElem?_eq_some_iff.1 hj).1
  have ei : (bs.map (·.1))[i]'(by simpa using li) = g := by simp [(List.getElem?_eq_some_iff.1 hi).2]
  have ej : (bs.map (·.1))[j]'(by simpa using lj) = g' := by simp [(List.getElem?_eq_some_iff.1 hj).2]
  rcases Nat.lt_or_gt_of_ne hij with k | k
  · have := hp i j (by simpa using li) (by simpa using lj) k
    rw [ei, ej] at this
    omega
  · have := hp j i (by simpa using lj) (by simpa using li) k
    rw [ei, ej] at this
    omega
theorem Own.set (h : Own w0 bs w) (i : Nat) {g : Nat} {cs : Array Value} {t : TypeId} (e : bs[i]? = some (g, .cells cs t (0, 0))) (j : Nat) (v : Value) : Own w0 (bs.set i (g, .cells (cs.setIfInBounds j v) t (0, 0))) (w.setCell ⟨g, j, none⟩ v) := by
  refine ⟨below_set h.below (h.at_ i g _ e).1, fun k g' o' ek => ?_, ?_⟩
  · rw [List.getElem?_set] at ek
    by_cases hk : i = k
    · subst hk
      have hl := (List.getElem?_eq_some_iff.1 e).1
      rw [if_pos rfl, if_pos hl] at ek
      simp only [Option.some.injEq, Prod.mk.injEq] at ek
      obtain ⟨rfl, rfl⟩ := ek
      exact ⟨(h.at_ i g _ e).1, blk_put (h.at_ i g _ e).2 j v rfl⟩
    · rw [if_neg hk] at ek
      refine ⟨(h.at_ k g' o' ek).1, ?_⟩
      have hne := h.ne e ek hk
      exact (Below.heap_setCell w ⟨g, j, none⟩ v g' (Ne.symm hne)).trans (h.at_ k g' o' ek).2
  · have : (bs.set i (g, Obj.cells (cs.setIfInBounds j v) t (0, 0))).map (·.1) = bs.map (·.1) := by
      rw [List.map_set]
      refine List.ext_getElem? fun k => ?_
      rw [List.getElem?_set]
      by_cases hk : i = k
      · subst hk
        have hl := (List.getElem?_eq_some_iff.1 e).1
        rw [if_pos rfl, if_pos (by simpa using hl), List.getElem?_map, e]
        rfl
      · rw [if_neg hk]
    rw [this]; exact h.apart
end
section
variable {w0 w : World} {bs : List (Nat × Obj)} {P : Program} {Q : Exit → Act → World → Prop} {c : Code} {a : Act}
theorem Own.gen (h : Own w0 bs w) (k : ∀ w2, Own w0 bs w2 → c.wp P Q a w2) : c.wp P Q a w := k w h
end
theorem Own.c1 {w0 w : World} {bs : List (Nat × Obj)} (h : Own w0 bs w) (i : Nat) {g : Nat} {x0 : Value} {t : TypeId} (e : bs[i]? = some (g, .cells #[x0] t (0, 0))) : w.cell? ⟨g, 0, none⟩ = some x0 ∧ w.frozen? ⟨g, 0, none⟩ = false := by
  have z := (h.at_ i g _ e).2
  exact ⟨(blk_cell z 0).trans rfl, blk_frozen z 0⟩
theorem Own.c2 {w0 w : World} {bs : List (Nat × Obj)} (h : Own w0 bs w) (i : Nat) {g : Nat} {x0 x1 : Value} {t : TypeId} (e : bs[i]? = some (g, .cells #[x0, x1] t (0, 0))) : w.cell? ⟨g, 0, none⟩ = some x0 ∧ w.cell? ⟨g, 1, none⟩ = some x1 ∧ w.frozen? ⟨g, 0, none⟩ = false ∧ w.frozen? ⟨g, 1, none⟩ = false := by
  have z := (h.at_ i g _ e).2
  exact ⟨(blk_cell z 0).trans rfl, (blk_cell z 1).trans rfl, blk_frozen z 0, blk_frozen z 1⟩
theorem Own.c3 {w0 w : World} {bs : List (Nat × Obj)} (h : Own w0 bs w) (i : Nat) {g : Nat} {x0 x1 x2 : Value} {t : TypeId} (e : bs[i]? = some (g, .cells #[x0, x1, x2] t (0, 0))) : w.cell? ⟨g, 0, none⟩ = some x0 ∧ w.cell? ⟨g, 1, none⟩ = some x1 ∧ w.cell? ⟨g, 2, none⟩ = some x2 ∧ w.frozen? ⟨g, 0, none⟩ = false ∧ w.frozen? ⟨g, 1, none⟩ = false ∧ w.frozen? ⟨g, 2, none⟩ = false := by
  have z := (h.at_ i g _ e).2
  exact ⟨(blk_cell z 0).trans rfl, (blk_cell z 1).trans rfl, (blk_cell z 2).trans rfl, blk_frozen z 0, blk_frozen z 1, blk_frozen z 2⟩
theorem Own.c4 {w0 w : World} {bs : List (Nat × Obj)} (h : Own w0 bs w) (i : Nat) {g : Nat} {x0 x1 x2 x3 : Value} {t : TypeId} (e : bs[i]? = some (g, .cells #[x0, x1, x2, x3] t (0, 0))) : w.cell? ⟨g, 0, none⟩ = some x0 ∧ w.cell? ⟨g, 1, none⟩ = some x1 ∧ w.cell? ⟨g, 2, none⟩ = some x2 ∧ w.cell? ⟨g, 3, none⟩ = some x3 ∧ w.frozen? ⟨g, 0, none⟩ = false ∧ w.frozen? ⟨g, 1, none⟩ = false ∧ w.frozen? ⟨g, 2, none⟩ = false ∧ w.frozen? ⟨g, 3, none⟩ = false := by
  have z := (h.at_ i g _ e).2
  exact ⟨(blk_cell z 0).trans rfl, (blk_cell z 1).trans rfl, (blk_cell z 2).trans rfl, (blk_cell z 3).trans rfl, blk_frozen z 0, blk_frozen z 1, blk_frozen z 2, blk_frozen z 3⟩
theorem Own.c5 {w0 w : World} {bs : List (Nat × Obj)} (h : Own w0 bs w) (i : Nat) {g : Nat} {x0 x1 x2 x3 x4 : Value} {t : TypeId} (e : bs[i]? = some (g, .cells #[x0, x1, x2, x3, x4] t (0, 0))) : w.cell? ⟨g, 0, none⟩ = some x0 ∧ w.cell? ⟨g, 1, none⟩ = some x1 ∧ w.cell? ⟨g, 2, none⟩ = some x2 ∧ w.cell? ⟨g, 3, none⟩ = some x3 ∧ w.cell? ⟨g, 4, none⟩ = some x4 ∧ w.frozen? ⟨g, 0, none⟩ = false ∧ w.frozen? ⟨g, 1, none⟩ = false ∧ w.frozen? ⟨g, 2, none⟩ = false ∧ w.frozen? ⟨g, 3, none⟩ = false ∧ w.frozen? ⟨g, 4, none⟩ = false := by
  have z := (h.at_ i g _ e).2
  exact ⟨(blk_cell z 0).trans rfl, (blk_cell z 1).trans rfl, (blk_cell z 2).trans rfl, (blk_cell z 3).trans rfl, (blk_cell z 4).trans rfl, blk_frozen z 0, blk_frozen z 1, blk_frozen z 2, blk_frozen z 3, blk_frozen z 4⟩
/-- A new block, and what is laid into it at once. -/
theorem Own.new1 {w0 w : World} {bs : List (Nat × Obj)} (h : Own w0 bs w) {z0 v0 : Value} {t : TypeId} : Own w0 (bs ++ [(w.heap.size, .cells #[v0] t (0, 0))]) ((w.alloc (.cells #[z0] t (0, 0))).setCell ⟨w.heap.size, 0, none⟩ v0) := by
  have h0 := h.alloc (.cells #[z0] t (0, 0))
  have h1 : Own w0 (bs ++ [(w.heap.size, .cells #[v0] t (0, 0))]) ((w.alloc (.cells #[z0] t (0, 0))).setCell ⟨w.heap.size, 0, none⟩ v0) := by simpa [List.set_append_right] using h0.set bs.length (g := w.heap.size) (cs := #[z0]) (t := t) (by simp) 0 v0
  exact h1
/-- A new block, and what is laid into it at once. -/
theorem Own.new2 {w0 w : World} {bs : List (Nat × Obj)} (h : Own w0 bs w) {z0 z1 v0 v1 : Value} {t : TypeId} : Own w0 (bs ++ [(w.heap.size, .cells #[v0, v1] t (0, 0))]) (((w.alloc (.cells #[z0, z1] t (0, 0))).setCell ⟨w.heap.size, 0, none⟩ v0).setCell ⟨w.heap.size, 1, none⟩ v1) := by
  have h0 := h.alloc (.cells #[z0, z1] t (0, 0))
  have h1 : Own w0 (bs ++ [(w.heap.size, .cells #[v0, z1] t (0, 0))]) ((w.alloc (.cells #[z0, z1] t (0, 0))).setCell ⟨w.heap.size, 0, none⟩ v0) := by simpa [List.set_append_right] using h0.set bs.length (g := w.heap.size) (cs := #[z0, z1]) (t := t) (by simp) 0 v0
  have h2 : Own w0 (bs ++ [(w.heap.size, .cells #[v0, v1] t (0, 0))]) (((w.alloc (.cells #[z0, z1] t (0, 0))).setCell ⟨w.heap.size, 0, none⟩ v0).setCell ⟨w.heap.size, 1, none⟩ v1) := by simpa [List.set_append_right] using h1.set bs.length (g := w.heap.size) (cs := #[v0, z1]) (t := t) (by simp) 1 v1
  exact h2
/-- A new block, and what is laid into it at once. -/
theorem Own.new3 {w0 w : World} {bs : List (Nat × Obj)} (h : Own w0 bs w) {z0 z1 z2 v0 v1 v2 : Value} {t : TypeId} : Own w0 (bs ++ [(w.heap.size, .cells #[v0, v1, v2] t (0, 0))]) ((((w.alloc (.cells #[z0, z1, z2] t (0, 0))).setCell ⟨w.heap.size, 0, none⟩ v0).setCell ⟨w.heap.size, 1, none⟩ v1).setCell ⟨w.heap.size, 2, none⟩ v2) := by
  have h0 := h.alloc (.cells #[z0, z1, z2] t (0, 0))
  have h1 : Own w0 (bs ++ [(w.heap.size, .cells #[v0, z1, z2] t (0, 0))]) ((w.alloc (.cells #[z0, z1, z2] t (0, 0))).setCell ⟨w.heap.size, 0, none⟩ v0) := by simpa [List.set_append_right] using h0.set bs.length (g := w.heap.size) (cs := #[z0, z1, z2]) (t := t) (by simp) 0 v0
  have h2 : Own w0 (bs ++ [(w.heap.size, .cells #[v0, v1, z2] t (0, 0))]) (((w.alloc (.cells #[z0, z1, z2] t (0, 0))).setCell ⟨w.heap.size, 0, none⟩ v0).setCell ⟨w.heap.size, 1, none⟩ v1) := by simpa [List.set_append_right] using h1.set bs.length (g := w.heap.size) (cs := #[v0, z1, z2]) (t := t) (by simp) 1 v1
  have h3 : Own w0 (bs ++ [(w.heap.size, .cells #[v0, v1, v2] t (0, 0))]) ((((w.alloc (.cells #[z0, z1, z2] t (0, 0))).setCell ⟨w.heap.size, 0, none⟩ v0).setCell ⟨w.heap.size, 1, none⟩ v1).setCell ⟨w.heap.size, 2, none⟩ v2) := by simpa [List.set_append_right] using h2.set bs.length (g := w.heap.size) (cs := #[v0, v1, z2]) (t := t) (by simp) 2 v2
  exact h3
/-- A new block, and what is laid into it at once. -/
theorem Own.new4 {w0 w : World} {bs : List (Nat × Obj)} (h : Own w0 bs w) {z0 z1 z2 z3 v0 v1 v2 v3 : Value} {t : TypeId} : Own w0 (bs ++ [(w.heap.size, .cells #[v0, v1, v2, v3] t (0, 0))]) (((((w.alloc (.cells #[z0, z1, z2, z3] t (0, 0))).setCell ⟨w.heap.size, 0, none⟩ v0).setCell ⟨w.heap.size, 1, none⟩ v1).setCell ⟨w.heap.size, 2, none⟩ v2).setCell ⟨w.heap.size, 3, none⟩ v3) := by
  have h0 := h.alloc (.cells #[z0, z1, z2, z3] t (0, 0))
  have h1 : Own w0 (bs ++ [(w.heap.size, .cells #[v0, z1, z2, z3] t (0, 0))]) ((w.alloc (.cells #[z0, z1, z2, z3] t (0, 0))).setCell ⟨w.heap.size, 0, none⟩ v0) := by simpa [List.set_append_right] using h0.set bs.length (g := w.heap.size) (cs := #[z0, z1, z2, z3]) (t := t) (by simp) 0 v0
  have h2 : Own w0 (bs ++ [(w.heap.size, .cells #[v0, v1, z2, z3] t (0, 0))]) (((w.alloc (.cells #[z0, z1, z2, z3] t (0, 0))).setCell ⟨w.heap.size, 0, none⟩ v0).setCell ⟨w.heap.size, 1, none⟩ v1) := by simpa [List.set_append_right] using h1.set bs.length (g := w.heap.size) (cs := #[v0, z1, z2, z3]) (t := t) (by simp) 1 v1
  have h3 : Own w0 (bs ++ [(w.heap.size, .cells #[v0, v1, v2, z3] t (0, 0))]) ((((w.alloc (.cells #[z0, z1, z2, z3] t (0, 0))).setCell ⟨w.heap.size, 0, none⟩ v0).setCell ⟨w.heap.size, 1, none⟩ v1).setCell ⟨w.heap.size, 2, none⟩ v2) := by simpa [List.set_append_right] using h2.set bs.length (g := w.heap.size) (cs := #[v0, v1, z2, z3]) (t := t) (by simp) 2 v2
  have h4 : Own w0 (bs ++ [(w.heap.size, .cells #[v0, v1, v2, v3] t (0, 0))]) (((((w.alloc (.cells #[z0, z1, z2, z3] t (0, 0))).setCell ⟨w.heap.size, 0, none⟩ v0).setCell ⟨w.heap.size, 1, none⟩ v1).setCell ⟨w.heap.size, 2, none⟩ v2).setCell ⟨w.heap.size, 3, none⟩ v3) := by simpa [List.set_append_right] using h3.set bs.length (g := w.heap.size) (cs := #[v0, v1, v2, z3]) (t := t) (by simp) 3 v3
  exact h4
/-- A new block, and what is laid into it at once. -/
theorem Own.new5 {w0 w : World} {bs : List (Nat × Obj)} (h : Own w0 bs w) {z0 z1 z2 z3 z4 v0 v1 v2 v3 v4 : Value} {t : TypeId} : Own w0 (bs ++ [(w.heap.size, .cells #[v0, v1, v2, v3, v4] t (0, 0))]) ((((((w.alloc (.cells #[z0, z1, z2, z3, z4] t (0, 0))).setCell ⟨w.heap.size, 0, none⟩ v0).setCell ⟨w.heap.size, 1, none⟩ v1).setCell ⟨w.heap.size, 2, none⟩ v2).setCell ⟨w.heap.size, 3, none⟩ v3).setCell ⟨w.heap.size, 4, none⟩ v4) := by
  have h0 := h.alloc (.cells #[z0, z1, z2, z3, z4] t (0, 0))
  have h1 : Own w0 (bs ++ [(w.heap.size, .cells #[v0, z1, z2, z3, z4] t (0, 0))]) ((w.alloc (.cells #[z0, z1, z2, z3, z4] t (0, 0))).setCell ⟨w.heap.size, 0, none⟩ v0) := by simpa [List.set_append_right] using h0.set bs.length (g := w.heap.size) (cs := #[z0, z1, z2, z3, z4]) (t := t) (by simp) 0 v0
  have h2 : Own w0 (bs ++ [(w.heap.size, .cells #[v0, v1, z2, z3, z4] t (0, 0))]) (((w.alloc (.cells #[z0, z1, z2, z3, z4] t (0, 0))).setCell ⟨w.heap.size, 0, none⟩ v0).setCell ⟨w.heap.size, 1, none⟩ v1) := by simpa [List.set_append_right] using h1.set bs.length (g := w.heap.size) (cs := #[v0, z1, z2, z3, z4]) (t := t) (by simp) 1 v1
  have h3 : Own w0 (bs ++ [(w.heap.size, .cells #[v0, v1, v2, z3, z4] t (0, 0))]) ((((w.alloc (.cells #[z0, z1, z2, z3, z4] t (0, 0))).setCell ⟨w.heap.size, 0, none⟩ v0).setCell ⟨w.heap.size, 1, none⟩ v1).setCell ⟨w.heap.size, 2, none⟩ v2) := by simpa [List.set_append_right] using h2.set bs.length (g := w.heap.size) (cs := #[v0, v1, z2, z3, z4]) (t := t) (by simp) 2 v2
  have h4 : Own w0 (bs ++ [(w.heap.size, .cells #[v0, v1, v2, v3, z4] t (0, 0))]) (((((w.alloc (.cells #[z0, z1, z2, z3, z4] t (0, 0))).setCell ⟨w.heap.size, 0, none⟩ v0).setCell ⟨w.heap.size, 1, none⟩ v1).setCell ⟨w.heap.size, 2, none⟩ v2).setCell ⟨w.heap.size, 3, none⟩ v3) := by simpa [List.set_append_right] using h3.set bs.length (g := w.heap.size) (cs := #[v0, v1, v2, z3, z4]) (t := t) (by simp) 3 v3
  have h5 : Own w0 (bs ++ [(w.heap.size, .cells #[v0, v1, v2, v3, v4] t (0, 0))]) ((((((w.alloc (.cells #[z0, z1, z2, z3, z4] t (0, 0))).setCell ⟨w.heap.size, 0, none⟩ v0).setCell ⟨w.heap.size, 1, none⟩ v1).setCell ⟨w.heap.size, 2, none⟩ v2).setCell ⟨w.heap.size, 3, none⟩ v3).setCell ⟨w.heap.size, 4, none⟩ v4) := by simpa [List.set_append_right] using h4.set bs.length (g := w.heap.size) (cs := #[v0, v1, v2, v3, z4]) (t := t) (by simp) 4 v4
  exact h5
theorem size_alloc_ (w : World) (o : Obj) : (w.alloc o).heap.size = w.heap.size + 1 := by unfold World.alloc; simp
theorem Own.alloc_at {w0 w : World} {bs : List (Nat × Obj)} (h : Own w0 bs w) {n : Nat} (e : w.heap.size = n) (o : Obj) : Own w0 (bs ++ [(n, o)]) (w.alloc o) ∧ (w.alloc o).heap.size = n + 1 := ⟨e ▸ h.alloc o, by rw [size_alloc_, e]⟩
theorem Own.boxes1 (w : World) {o0 : Obj} : Own w [(w.heap.size, o0)] (w.alloc o0) := by
  have h0 := (Own.start w).alloc_at rfl o0
  exact h0.1
theorem Own.boxes2 (w : World) {o0 o1 : Obj} : Own w [(w.heap.size, o0), (w.heap.size + 1, o1)] ((w.alloc o0).alloc o1) := by
  have h0 := (Own.start w).alloc_at rfl o0
  have h1 := h0.1.alloc_at h0.2 o1
  exact h1.1
theorem Own.boxes3 (w : World) {o0 o1 o2 : Obj} : Own w [(w.heap.size, o0), (w.heap.size + 1, o1), (w.heap.size + 1 + 1, o2)] (((w.alloc o0).alloc o1).alloc o2) := by
  have h0 := (Own.start w).alloc_at rfl o0
  have h1 := h0.1.alloc_at h0.2 o1
  have h2 := h1.1.alloc_at h1.2 o2
  exact h2.1
theorem Own.boxes4 (w : World) {o0 o1 o2 o3 : Obj} : Own w [(w.heap.size, o0), (w.heap.size + 1, o1), (w.heap.size + 1 + 1, o2), (w.heap.size + 1 + 1 + 1, o3)] ((((w.alloc o0).alloc o1).alloc o2).alloc o3) := by
  have h0 := (Own.start w).alloc_at rfl o0
  have h1 := h0.1.alloc_at h0.2 o1
  have h2 := h1.1.alloc_at h1.2 o2
  have h3 := h2.1.alloc_at h2.2 o3
  exact h3.1
theorem Own.boxes5 (w : World) {o0 o1 o2 o3 o4 : Obj} : Own w [(w.heap.size, o0), (w.heap.size + 1, o1), (w.heap.size + 1 + 1, o2), (w.heap.size + 1 + 1 + 1, o3), (w.heap.size + 1 + 1 + 1 + 1, o4)] (((((w.alloc o0).alloc o1).alloc o2).alloc o3).alloc o4) := by
  have h0 := (Own.start w).alloc_at rfl o0
  have h1 := h0.1.alloc_at h0.2 o1
  have h2 := h1.1.alloc_at h1.2 o2
  have h3 := h2.1.alloc_at h2.2 o3
  have h4 := h3.1.alloc_at h3.2 o4
  exact h4.1
theorem Own.boxes6 (w : World) {o0 o1 o2 o3 o4 o5 : Obj} : Own w [(w.heap.size, o0), (w.heap.size + 1, o1), (w.heap.size + 1 + 1, o2), (w.heap.size + 1 + 1 + 1, o3), (w.heap.size + 1 + 1 + 1 + 1, o4), (w.heap.size + 1 + 1 + 1 + 1 + 1, o5)] ((((((w.alloc o0).alloc o1).alloc o2).alloc o3).alloc o4).alloc o5) := by
  have h0 := (Own.start w).alloc_at rfl o0
  have h1 := h0.1.alloc_at h0.2 o1
  have h2 := h1.1.alloc_at h1.2 o2
  have h3 := h2.1.alloc_at h2.2 o3
  have h4 := h3.1.alloc_at h3.2 o4
  have h5 := h4.1.alloc_at h4.2 o5
  exact h5.1
theorem Own.boxes7 (w : World) {o0 o1 o2 o3 o4 o5 o6 : Obj} : Own w [(w.heap.size, o0), (w.heap.size + 1, o1), (w.heap.size + 1 + 1, o2), (w.heap.size + 1 + 1 + 1, o3), (w.heap.size + 1 + 1 + 1 + 1, o4), (w.heap.size + 1 + 1 + 1 + 1 + 1, o5), (w.heap.size + 1 + 1 + 1 + 1 + 1 + 1, o6)] (((((((w.alloc o0).alloc o1).alloc o2).alloc o3).alloc o4).alloc o5).alloc o6) := by
  have h0 := (Own.start w).alloc_at rfl o0
  have h1 := h0.1.alloc_at h0.2 o1
  have h2 := h1.1.alloc_at h1.2 o2
  have h3 := h2.1.alloc_at h2.2 o3
  have h4 := h3.1.alloc_at h3.2 o4
  have h5 := h4.1.alloc_at h4.2 o5
  have h6 := h5.1.alloc_at h5.2 o6
  exact h6.1
theorem Own.boxes8 (w : World) {o0 o1 o2 o3 o4 o5 o6 o7 : Obj} : Own w [(w.heap.size, o0), (w.heap.size + 1, o1), (w.heap.size + 1 + 1, o2), (w.heap.size + 1 + 1 + 1, o3), (w.heap.size + 1 + 1 + 1 + 1, o4), (w.heap.size + 1 + 1 + 1 + 1 + 1, o5), (w.heap.size + 1 + 1 + 1 + 1 + 1 + 1, o6), (w.heap.size + 1 + 1 + 1 + 1 + 1 + 1 + 1, o7)] ((((((((w.alloc o0).alloc o1).alloc o2).alloc o3).alloc o4).alloc o5).alloc o6).alloc o7) := by
  have h0 := (Own.start w).alloc_at rfl o0
  have h1 := h0.1.alloc_at h0.2 o1
  have h2 := h1.1.alloc_at h1.2 o2
  have h3 := h2.1.alloc_at h2.2 o3
  have h4 := h3.1.alloc_at h3.2 o4
  have h5 := h4.1.alloc_at h4.2 o5
  have h6 := h5.1.alloc_at h5.2 o6
  have h7 := h6.1.alloc_at h6.2 o7
  exact h7.1
theorem Own.less {w0 w : World} {bs : List (Nat × Obj)} {x : Nat × Obj} (h : Own w0 (bs ++ [x]) w) : Own w0 bs w := by
  refine ⟨h.below, fun i g o e => h.at_ i g o ?_, ?_⟩
  · rw [List.getElem?_append_left (List.getElem?_eq_some_iff.1 e).1]; exact e
  · have := h.apart
    rw [List.map_append, List.pairwise_append] at this
    exact this.1
theorem within_val (a b c : Int) : impl_within.f a b c = some (decide (b ≤ a ∧ a ≤ c)) := by
  unfold impl_within.f
  by_cases h : a ≥ b
  · have e : (b ≤ a ∧ a ≤ c) ↔ a ≤ c := ⟨fun x => x.2, fun x => ⟨h, x⟩⟩
    rw [if_pos h, decide_eq_decide.mpr e]
  · rw [if_neg h, decide_eq_false (fun x => h x.1)]
def lay_atoi_ren : Go.Shelf.Ren := ⟨fun | 172 => 16 | 244 => 21 | 245 => 22 | 247 => 28 | 279 => 29 | 280 => 30 | 281 => 31 | 282 => 32 | 287 => 36 | 316 => 37 | 171 => 18 | 205 => 38 | 321 => 43 | 322 => 44 | 243 => 23 | 246 => 33 | 283 => 39 | 284 => 40 | 285 => 41 | 286 => 42 | 129 => 46 | 317 => 45 | 318 => 47 | 319 => 48 | 320 => 49 | 337 => 50 | 338 => 51 | n => n, fun | 9 => 9 | 3 => 3 | 75 => 39 | 76 => 40 | 4 => 4 | 5 => 5 | 167 => 48 | 37 => 49 | 0 => 0 | 85 => 50 | 2 => 2 | 168 => 52 | 53 => 59 | 175 => 60 | 46 => 47 | 210 => 64 | 127 => 72 | 145 => 75 | 143 => 73 | 21 => 21 | 171 => 66 | 173 => 69 | 212 => 77 | 51 => 56 | 20 => 20 | 213 => 78 | 232 => 82 | 233 => 83 | 80 => 84 | n => n, fun | 15 => 1 | 16 => 2 | 17 => 3 | 18 => 4 | 19 => 5 | n => n⟩
theorem lay_atoi : Go.Proofs.LaysC.n172 Tryd.prog lay_atoi_ren := {
  mixed := by kernel_rfl
  f129 := Tryd.func46.trans (congrArg some (by kernel_rfl))
  f171 := Tryd.func18.trans (congrArg some (by kernel_rfl))
  f172 := Tryd.func16.trans (congrArg some (by kernel_rfl))
  f205 := Tryd.func38.trans (congrArg some (by kernel_rfl))
  f243 := Tryd.func23.trans (congrArg some (by kernel_rfl))
  f244 := Tryd.func21.trans (congrArg some (by kernel_rfl))
  f245 := Tryd.func22.trans (congrArg some (by kernel_rfl))
  f246 := Tryd.func33.trans (congrArg some (by kernel_rfl))
  f247 := Tryd.func28.trans (congrArg some (by kernel_rfl))
  f279 := Tryd.func29.trans (congrArg some (by kernel_rfl))
  f280 := Tryd.func30.trans (congrArg some (by kernel_rfl))
  f281 := Tryd.func31.trans (congrArg some (by kernel_rfl))
  f282 := Tryd.func32.trans (congrArg some (by kernel_rfl))
  f283 := Tryd.func39.trans (congrArg some (by kernel_rfl))
  f284 := Tryd.func40.trans (congrArg some (by kernel_rfl))
  f285 := Tryd.func41.trans (congrArg some (by kernel_rfl))
  f286 := Tryd.func42.trans (congrArg some (by kernel_rfl))
  f287 := Tryd.func36.trans (congrArg some (by kernel_rfl))
  f316 := Tryd.func37.trans (congrArg some (by kernel_rfl))
  f317 := Tryd.func45.trans (congrArg some (by kernel_rfl))
  f318 := Tryd.func47.trans (congrArg some (by kernel_rfl))
  f319 := Tryd.func48.trans (congrArg some (by kernel_rfl))
  f320 := Tryd.func49.trans (congrArg some (by kernel_rfl))
  f321 := Tryd.func43.trans (congrArg some (by kernel_rfl))
  f322 := Tryd.func44.trans (congrArg some (by kernel_rfl))
  f337 := Tryd.func50.trans (congrArg some (by kernel_rfl))
  f338 := Tryd.func51.trans (congrArg some (by kernel_rfl))
  t0 := Tryd.underlying0
  a0 := Tryd.isAgg0
  z0 := Tryd.sizeOf0
  v0 := Tryd.zeroValue0
  t2 := Tryd.underlying2
  a2 := Tryd.isAgg2
  z2 := Tryd.sizeOf2
  v2 := Tryd.zeroValue2
  t3 := Tryd.underlying3
  a3 := Tryd.isAgg3
  z3 := Tryd.sizeOf3
  v3 := Tryd.zeroValue3
  t4 := Tryd.underlying4
  a4 := Tryd.isAgg4
  z4 := Tryd.sizeOf4
  v4 := Tryd.zeroValue4
  t5 := Tryd.underlying5
  a5 := Tryd.isAgg5
  z5 := Tryd.sizeOf5
  v5 := Tryd.zeroValue5
  t9 := Tryd.underlying9
  a9 := Tryd.isAgg9
  z9 := Tryd.sizeOf9
  v9 := Tryd.zeroValue9
  t20 := Tryd.underlying20
  a20 := Tryd.isAgg20
  z20 := Tryd.sizeOf20
  v20 := Tryd.zeroValue20
  t21 := Tryd.underlying21
  a21 := Tryd.isAgg21
  z21 := Tryd.sizeOf21
  v21 := Tryd.zeroValue21
  t37 := Tryd.underlying49
  a37 := Tryd.isAgg49
  z37 := Tryd.sizeOf49
  v37 := Tryd.zeroValue49
  t46 := Tryd.underlying47
  a46 := Tryd.isAgg47
  z46 := Tryd.sizeOf47
  v46 := Tryd.zeroValue47
  t51 := Tryd.underlying56
  a51 := Tryd.isAgg56
  z51 := Tryd.sizeOf56
  v51 := Tryd.zeroValue56
  t53 := Tryd.underlying59
  a53 := Tryd.isAgg59
  z53 := Tryd.sizeOf59
  v53 := Tryd.zeroValue59
  t75 := Tryd.underlying39
  a75 := Tryd.isAgg39
  z75 := Tryd.sizeOf39
  v75 := Tryd.zeroValue39
  t76 := Tryd.underlying40
  a76 := Tryd.isAgg40
  z76 := Tryd.sizeOf40
  v76 := Tryd.zeroValue40
  t85 := Tryd.underlying50
  a85 := Tryd.isAgg50
  z85 := Tryd.sizeOf50
  v85 := Tryd.zeroValue50
  t127 := Tryd.underlying72
  a127 := Tryd.isAgg72
  z127 := Tryd.sizeOf72
  v127 := Tryd.zeroValue72
  t143 := Tryd.underlying73
  a143 := Tryd.isAgg73
  z143 := Tryd.sizeOf73
  v143 := Tryd.zeroValue73
  t145 := Tryd.underlying75
  a145 := Tryd.isAgg75
  z145 := Tryd.sizeOf75
  v145 := Tryd.zeroValue75
  t167 := Tryd.underlying48
  a167 := Tryd.isAgg48
  z167 := Tryd.sizeOf48
  v167 := Tryd.zeroValue48
  t168 := Tryd.underlying52
  a168 := Tryd.isAgg52
  z168 := Tryd.sizeOf52
  v168 := Tryd.zeroValue52
  t171 := Tryd.underlying66
  a171 := Tryd.isAgg66
  z171 := Tryd.sizeOf66
  v171 := Tryd.zeroValue66
  t173 := Tryd.underlying69
  a173 := Tryd.isAgg69
  z173 := Tryd.sizeOf69
  v173 := Tryd.zeroValue69
  t175 := Tryd.underlying60
  a175 := Tryd.isAgg60
  z175 := Tryd.sizeOf60
  v175 := Tryd.zeroValue60
  t210 := Tryd.underlying64
  a210 := Tryd.isAgg64
  z210 := Tryd.sizeOf64
  v210 := Tryd.zeroValue64
  t212 := Tryd.underlying77
  a212 := Tryd.isAgg77
  z212 := Tryd.sizeOf77
  v212 := Tryd.zeroValue77
  t213 := Tryd.underlying78
  a213 := Tryd.isAgg78
  z213 := Tryd.sizeOf78
  t232 := Tryd.underlying82
  a232 := Tryd.isAgg82
  z232 := Tryd.sizeOf82
  v232 := Tryd.zeroValue82
  t233 := Tryd.underlying83
  a233 := Tryd.isAgg83
  z233 := Tryd.sizeOf83
  v233 := Tryd.zeroValue83
  g15 := by kernel_rfl
  g16 := by kernel_rfl
  g17 := by kernel_rfl
  g18 := by kernel_rfl
  g19 := by kernel_rfl
  t80 := Tryd.underlying84
  a80 := Tryd.isAgg84
  z80 := Tryd.sizeOf84
  v80 := Tryd.zeroValue84
  i0 := by kernel_rfl
  i2 := by kernel_rfl
  i3 := by kernel_rfl
  i4 := by kernel_rfl
  i5 := by kernel_rfl
  i9 := by kernel_rfl
  i20 := by kernel_rfl
  i21 := by kernel_rfl
  i37 := by kernel_rfl
  i46 := by kernel_rfl
  i51 := by kernel_rfl
  i53 := by kernel_rfl
  i75 := by kernel_rfl
  i76 := by kernel_rfl
  i80 := by kernel_rfl
  i85 := by kernel_rfl
  i127 := by kernel_rfl
  i143 := by kernel_rfl
  i145 := by kernel_rfl
  i167 := by kernel_rfl
  i168 := by kernel_rfl
  i171 := by kernel_rfl
  i173 := by kernel_rfl
  i175 := by kernel_rfl
  i210 := by kernel_rfl
  i212 := by kernel_rfl
  i232 := by kernel_rfl
  i233 := by kernel_rfl
  m15 := by kernel_rfl
  m16 := by kernel_rfl
  m17 := by kernel_rfl
  m18 := by kernel_rfl
  m19 := by kernel_rfl
  c0 := by kernel_rfl
  c2 := by kernel_rfl
  c3 := by kernel_rfl
  c4 := by kernel_rfl
  c5 := by kernel_rfl
  c9 := by kernel_rfl
  c20 := by kernel_rfl
  c21 := by kernel_rfl
  c37 := by kernel_rfl
  c46 := by kernel_rfl
  c51 := by kernel_rfl
  c53 := by kernel_rfl
  c75 := by kernel_rfl
  c76 := by kernel_rfl
  c80 := by kernel_rfl
  c85 := by kernel_rfl
  c127 := by kernel_rfl
  c143 := by kernel_rfl
  c145 := by kernel_rfl
  c167 := by kernel_rfl
  c168 := by kernel_rfl
  c171 := by kernel_rfl
  c173 := by kernel_rfl
  c175 := by kernel_rfl
  c210 := by kernel_rfl
  c212 := by kernel_rfl
  c213 := by kernel_rfl
  c232 := by kernel_rfl
  c233 := by kernel_rfl }
def lay_ixb_ren : Go.Shelf.Ren := ⟨fun | 217 => 24 | 266 => 34 | n => n, fun | 9 => 9 | 5 => 5 | 3 => 3 | n => n, fun | n => n⟩
theorem lay_ixb : Go.Proofs.Lays.n217 Tryd.prog lay_ixb_ren := {
  mixed := by kernel_rfl
  f217 := Tryd.func24.trans (congrArg some (by kernel_rfl))
  f266 := Tryd.func34.trans (congrArg some (by kernel_rfl))
  t3 := Tryd.underlying3
  a3 := Tryd.isAgg3
  z3 := Tryd.sizeOf3
  v3 := Tryd.zeroValue3
  t5 := Tryd.underlying5
  a5 := Tryd.isAgg5
  z5 := Tryd.sizeOf5
  v5 := Tryd.zeroValue5
  t9 := Tryd.underlying9
  a9 := Tryd.isAgg9
  z9 := Tryd.sizeOf9
  v9 := Tryd.zeroValue9 }
/-- The library's two sentinels, in this world and in each that goes on from it. -/
def HasErr (w : World) : Prop := (∃ tp p, w.var? Tryd.prog "strconv.ErrSyntax" = some #[.iface tp p]) ∧ ∃ tp p, w.var? Tryd.prog "strconv.ErrRange" = some #[.iface tp p]
theorem var_on {P : Program} {w w' : World} {n : String} {v : Array Value} (h : w.var? P n = some v) (hb : Below w.heap.size w w') : w'.var? P n = some v := by
  unfold World.var? at *
  cases hg : P.globalNamed n with
  | none => simp [hg] at h
  | some g =>
    simp only [hg, Option.bind_some] at h ⊢
    have hlt : g < w.heap.size := by
      rcases Nat.lt_or_ge g w.heap.size with h' | h'
      · exact h'
      · rw [Array.getElem?_eq_none h'] at h; simp at h
    rw [hb.block g hlt]
    exact h
theorem HasErr.on {w w' : World} (h : HasErr w) (hb : Below w.heap.size w w') : HasErr w' := by
  obtain ⟨⟨a, b, h1⟩, c, d, h2⟩ := h
  exact ⟨⟨a, b, var_on h1 hb⟩, c, d, var_on h2 hb⟩
/-- What stands ahead of the first '/', and what behind it. -/
def ixS (s : ByteArray) : Int := Go.Lib.indexByte s.data.toList 47
def cutL (s : ByteArray) : ByteArray × ByteArray × Bool := if ixS s = -1 then (s, ⟨#[]⟩, false) else (s.extract 0 (ixS s).toNat, s.extract ((ixS s).toNat + 1) s.size, true)
theorem slIndexByte.calls (s : ByteArray) (w : World) : Calls Tryd.prog 24 #[.string s, .int .u8 47] w fun e w' => e = .returned (.int .i64 (ixS s)) ∧ w' = w :=
  Any.stringslite_IndexByte lay_ixb s 47 w
theorem ixS_lt (s : ByteArray) : -1 ≤ ixS s ∧ ixS s < s.size := by
  have key : ∀ l : List UInt8, -1 ≤ Go.Lib.indexByte l 47 ∧ Go.Lib.indexByte l 47 < (l.length : Int) := by
    intro l
    induction l with
    | nil => simp [Go.Lib.indexByte]
    | cons b l ih =>
      simp only [Go.Lib.indexByte, List.length_cons]
      split
      · omega
      · split <;> omega
  have h := key s.data.toList
  rw [← Go.Lib.size_eq] at h
  exact h
set_option maxHeartbeats 4000000 in
set_option maxRecDepth 100000 in
theorem slIndex.calls (s : ByteArray) (w : World) : Calls Tryd.prog 20 #[.string s, .string ⟨#[47]⟩] w fun e w' => e = .returned (.int .i64 (ixS s)) ∧ Below w.heap.size w w' := by
  have C := fun W => slIndexByte.calls s W
  by_cases hs : s.toList = [47]
  · have e1 : s = ⟨#[47]⟩ := by
      rw [ByteArray.toList_eq] at hs
      obtain ⟨⟨l⟩⟩ := s
      have e2 : l = [47] := hs
      subst e2
      rfl
    have e0 : ixS s = 0 := by rw [e1]; decide
    have h1 : (([47] : List UInt8) == s.toList) = true := beq_iff_eq.mpr hs.symm
    rw [e0]
    clear C hs e1 e0
    go_enter Tryd.func20, Tryd.ntmps20
    go_wp2
    go_ret
    exact ⟨rfl, Below.refl _ _⟩
  · have h1 : (([47] : List UInt8) == s.toList) = false := beq_eq_false_iff_ne.mpr (fun e => hs e.symm)
    clear hs
    go_enter Tryd.func20, Tryd.ntmps20
    go_wp2_with (go_at_call 24; refine (C _).mono ?_; rintro e w' ⟨rfl, rfl⟩)
    go_ret
    exact ⟨rfl, Below.refl _ _⟩
set_option maxHeartbeats 4000000 in
set_option maxRecDepth 100000 in
theorem slCut.calls (s : ByteArray) (hl : s.size ≤ 281474976710656) (w : World) : Calls Tryd.prog 15 #[.string s, .string ⟨#[47]⟩] w fun e w' => e = .returned (.tuple #[.string (cutL s).1, .string (cutL s).2.1, .bool (cutL s).2.2]) ∧ Below w.heap.size w w' := by
  have C := fun W => slIndex.calls s W
  have hb := ixS_lt s
  by_cases hi : ixS s = -1
  · have e : cutL s = (s, ⟨#[]⟩, false) := by unfold cutL; rw [if_pos hi]
    rw [e]
    rw [hi] at C
    clear hb hi e
    go_enter Tryd.func15, Tryd.ntmps15
    go_wp2_with (go_at_call 20; refine (C _).mono ?_; rintro e w' ⟨rfl, hb⟩)
    go_ret3
    exact ⟨rfl, hb⟩
  · obtain ⟨i, hi2⟩ := Int.eq_ofNat_of_zero_le (show 0 ≤ ixS s by omega)
    have e : cutL s = (s.extract 0 i, s.extract (i + 1) s.size, true) := by unfold cutL; rw [if_neg hi, hi2]; rfl
    have hlt : i < s.size := by omega
    rw [e]
    rw [hi2] at C
    have c1 : (0 : Int) ≤ (i : Int) := by omega
    have c2 : (i : Int) ≤ (s.size : Int) := by omega
    have c3 : (0 : Int) ≤ (i : Int) + 1 := by omega
    have c4 : (i : Int) + 1 ≤ (s.size : Int) := by omega
    have c5 : wrap64 ((i : Int) + 1) = (i : Int) + 1 := by unfold wrap64; omega
    have mixed : Tryd.prog.follows .mixedOrders = true := by kernel_rfl
    clear hb hi hi2 e hl
    go_enter Tryd.func15, Tryd.ntmps15
    go_wp2_with (go_at_call 20; refine (C _).mono ?_; rintro e w' ⟨rfl, hb⟩)
    go_region_o
    go_wp2
    go_ret3
    exact ⟨by first | rfl | simp, below_drew1 hb⟩
set_option maxHeartbeats 4000000 in
set_option maxRecDepth 100000 in
theorem strings_Cut.calls (s : ByteArray) (hl : s.size ≤ 281474976710656) (w : World) : Calls Tryd.prog 10 #[.string s, .string ⟨#[47]⟩] w fun e w' => e = .returned (.tuple #[.string (cutL s).1, .string (cutL s).2.1, .bool (cutL s).2.2]) ∧ Below w.heap.size w w' := by
  have C := fun W => slCut.calls s hl W
  generalize cutL s = c at C
  obtain ⟨c1, c2, c3⟩ := c
  clear hl
  go_enter Tryd.func10, Tryd.ntmps10
  go_wp2_with (go_at_call 15; refine (C _).mono ?_; rintro e w' ⟨rfl, hb⟩)
  go_ret3
  exact ⟨rfl, hb⟩
/-- A numeral of a whole number from 0 to m. -/
def readN (s : ByteArray) (m : Int) : Int × Bool := match Go.Lib.atoiAll s.data.toList with
  | .ok v => if 0 ≤ v ∧ v ≤ m ∧ (Go.Lib.itoa v) = s.toList then (v, true) else (0, false)
  | _ => (0, false)
set_option maxHeartbeats 8000000 in
set_option maxRecDepth 100000 in
theorem impl_readNumber.calls (s : ByteArray) (m : Int) (hm : m ≤ 1000000) (hl : s.size ≤ 281474976710656) (w : World) (ht : HasTab w) (he : HasErr w) : Calls Tryd.prog 11 #[.string s, .int .i64 m] w fun e w' => e = .returned (.tuple #[.int .i64 (readN s m).1, .bool (readN s m).2]) ∧ Below w.heap.size w w' := by
  obtain ⟨⟨tp, p, h1⟩, tp2, p2, h2⟩ := he
  cases ha : Go.Lib.atoiAll s.data.toList with
  | ok v =>
    have C0 : Calls Tryd.prog 16 #[.string s] w fun e w' => e = .returned (.tuple #[.int .i64 v, .nilIface]) ∧ Below w.heap.size w w' := (Any.strconv_Atoi_ok lay_atoi s (by omega) v ha w).mono fun e w' ⟨h, h'⟩ => ⟨h, by
      rcases h' with rfl | ⟨t, rfl⟩
      · exact Below.refl _ _
      · exact Go.Lib.bytesWorld_below _ _ _⟩
    have C1 := fun W => impl_within.calls v 0 m (decide (0 ≤ v ∧ v ≤ m)) W (within_val v 0 m)
    by_cases c : 0 ≤ v ∧ v ≤ m
    · rw [decide_eq_true c] at C1
      have C2 := fun W (hT : HasTab W) => strconv_Itoa.calls v (by omega) (by omega) W hT
      have et : (⟨(Go.Lib.itoa v).toArray⟩ : ByteArray).toList = Go.Lib.itoa v := by rw [ByteArray.toList_eq]
      generalize hT : (⟨(Go.Lib.itoa v).toArray⟩ : ByteArray) = T at C2 et
      by_cases q : Go.Lib.itoa v = s.toList
      · have e : readN s m = (v, true) := by unfold readN; rw [ha]; exact if_pos ⟨c.1, c.2, q⟩
        rw [e]
        have n1 : (T.toList == s.toList) = true := by rw [et]; exact beq_iff_eq.mpr q
        have n2 : (T.toList != s.toList) = false := by rw [et]; exact bne_eq_false_iff_eq.mpr q
        clear q e et hT c ha h1 h2 hl hm
        go_enter Tryd.func11, Tryd.ntmps11
        go_wp2_with (first
          | (go_at_call 16; refine C0.mono ?_; rintro e w1 ⟨rfl, hb1⟩)
          | (go_at_call 17; refine (C1 _).mono ?_; rintro e w2 ⟨rfl, hd2⟩; have hb2 := hd2.below; have C3 := C2 w2 (ht.on (below_step hb1 hb2)))
          | (go_at_call 18; refine C3.mono ?_; rintro e w3 ⟨rfl, hb3⟩))
        go_ret2
        exact ⟨rfl, below_step (below_step hb1 hb2) hb3⟩
      · have e : readN s m = (0, false) := by unfold readN; rw [ha]; exact if_neg (fun x => q x.2.2)
        rw [e]
        have n1 : (T.toList == s.toList) = false := by rw [et]; exact beq_eq_false_iff_ne.mpr q
        have n2 : (T.toList != s.toList) = true := by rw [et]; exact bne_iff_ne.mpr q
        clear q e et hT c ha h1 h2 hl hm
        go_enter Tryd.func11, Tryd.ntmps11
        go_wp2_with (first
          | (go_at_call 16; refine C0.mono ?_; rintro e w1 ⟨rfl, hb1⟩)
          | (go_at_call 17; refine (C1 _).mono ?_; rintro e w2 ⟨rfl, hd2⟩; have hb2 := hd2.below; have C3 := C2 w2 (ht.on (below_step hb1 hb2)))
          | (go_at_call 18; refine C3.mono ?_; rintro e w3 ⟨rfl, hb3⟩))
        go_ret2
        exact ⟨rfl, below_step (below_step hb1 hb2) hb3⟩
    · have e : readN s m = (0, false) := by unfold readN; rw [ha]; exact if_neg (fun x => c ⟨x.1, x.2.1⟩)
      rw [e]
      rw [decide_eq_false c] at C1
      clear e c ha h1 h2 hl hm
      go_enter Tryd.func11, Tryd.ntmps11
      go_wp2_with (first
        | (go_at_call 16; refine C0.mono ?_; rintro e w1 ⟨rfl, hb1⟩)
        | (go_at_call 17; refine (C1 _).mono ?_; rintro e w2 ⟨rfl, hd2⟩; have hb2 := hd2.below))
      go_ret2
      exact ⟨rfl, below_step hb1 hb2⟩
  | range =>
    have e : readN s m = (0, false) := by unfold readN; rw [ha]
    rw [e]
    have C0 := Any.strconv_Atoi_range_var lay_atoi s hl ha tp2 p2 w h2
    clear e ha h1 h2 hl hm ht
    go_enter Tryd.func11, Tryd.ntmps11
    go_wp2_with (first | (go_at_call 16; refine C0.mono ?_; rintro e w1 ⟨N, rfl, -, -, hb1⟩))
    go_ret2
    exact ⟨rfl, hb1⟩
  | _ =>
    have e : readN s m = (0, false) := by unfold readN; rw [ha]
    rw [e]
    have C0 := Any.strconv_Atoi_syntax_var lay_atoi s hl ha tp p w h1
    clear e ha h1 h2 hl hm ht
    go_enter Tryd.func11, Tryd.ntmps11
    go_wp2_with (first | (go_at_call 16; refine C0.mono ?_; rintro e w1 ⟨N, rfl, -, -, hb1⟩))
    go_ret2
    exact ⟨rfl, hb1⟩
def impl_ParseSpan.f (k : Nat) (s : ByteArray) : Option (Int × Int × Bool) := if (readN (cutL s).1 1000000).2 = true then (if (readN (cutL s).2.1 10000).2 = true then (impl_IsSpan.f k (readN (cutL s).1 1000000).1 (readN (cutL s).2.1 10000).1).bind fun t => if t = true then some ((readN (cutL s).1 1000000).1, (readN (cutL s).2.1 10000).1, true) else some (0, 0, false) else some (0, 0, false)) else some (0, 0, false)
set_option maxHeartbeats 8000000 in
set_option maxRecDepth 100000 in
theorem impl_ParseSpan.calls (k : Nat) (s : ByteArray) (r1 r2 : Int) (r3 : Bool) (w : World) (hl : s.size ≤ 281474976710656) (ht : HasTab w) (he : HasErr w) (h : impl_ParseSpan.f k s = some (r1, r2, r3)) :
    Calls Tryd.prog 5 #[.string s] w fun e w' => e = .returned (.tuple #[.agg #[.int .i64 r1, .int .i64 r2], .bool r3]) ∧ Below w.heap.size w w' := by
  have CC := fun W => strings_Cut.calls s hl W
  have hs : (cutL s).1.size ≤ s.size ∧ (cutL s).2.1.size ≤ s.size := by
    unfold cutL
    split
    · exact ⟨Nat.le_refl _, Nat.zero_le _⟩
    · simp only [ByteArray.size_extract]; omega
  unfold impl_ParseSpan.f at h
  generalize cutL s = c at CC hs h
  obtain ⟨top, bot, fnd⟩ := c
  dsimp only at CC hs h
  have R1 := fun W (hb : Below w.heap.size w W) => impl_readNumber.calls top 1000000 (by omega) (by omega) W (ht.on hb) (he.on hb)
  have R2 := fun W (hb : Below w.heap.size w W) => impl_readNumber.calls bot 10000 (by omega) (by omega) W (ht.on hb) (he.on hb)
  generalize readN top 1000000 = x at R1 h
  generalize readN bot 10000 = y at R2 h
  obtain ⟨n, one⟩ := x
  obtain ⟨d, two⟩ := y
  dsimp only at R1 R2 h
  obtain ⟨ok, hok, hr⟩ : ∃ ok : Bool, (one = true → two = true → impl_IsSpan.f k n d = some ok) ∧ (r1, r2, r3) = (if one = true ∧ two = true ∧ ok = true then (n, d, true) else (0, 0, false)) := by
    cases one with
    | false => rw [if_neg (by simp)] at h; exact ⟨false, by simp, by rw [if_neg (by simp)]; exact (Option.some.inj h).symm⟩
    | true =>
      cases two with
      | false => rw [if_pos rfl, if_neg (by simp)] at h; exact ⟨false, by simp, by rw [if_neg (by simp)]; exact (Option.some.inj h).symm⟩
      | true =>
        rw [if_pos rfl, if_pos rfl] at h
        obtain ⟨t, e1, h⟩ := Option.bind_eq_some_iff.mp h
        refine ⟨t, fun _ _ => e1, ?_⟩
        cases t with
        | false => rw [if_neg (by simp)]; rw [if_neg (by simp)] at h; exact (Option.some.inj h).symm
        | true => rw [if_pos (by simp)]; rw [if_pos rfl] at h; exact (Option.some.inj h).symm
  clear h hl hs ht he
  have hu := Tryd.underlying23
  have CS := fun (o : one = true) (o2 : two = true) W => impl_IsSpan.calls k n d ok W (hok o o2)
  clear hok
  cases one with
  | false =>
    rw [if_neg (by simp)] at hr
    simp only [Prod.mk.injEq] at hr
    obtain ⟨rfl, rfl, rfl⟩ := hr
    go_enter Tryd.func5, Tryd.ntmps5
    go_upto_region 1 with (fail)
    refine Own.gen (Own.boxes1 w) ?_
    intro w1 HO
    generalize w.heap.size = g2 at HO ⊢
    go_upto_region 2 with (first | (go_at_call 10; refine (CC _).mono ?_; rintro e w2 ⟨rfl, hb⟩; replace HO := HO.call hb; clear hb CC))
    have R1' := R1 _ HO.below
    clear R1
    go_upto_region 3 with (first | (go_at_call 11; refine R1'.mono ?_; rintro e w3 ⟨rfl, hb⟩; replace HO := HO.call hb; clear hb R1'))
    have R2' := R2 _ HO.below
    clear R2
    go_upto_region 4 with (first | (go_at_call 11; refine R2'.mono ?_; rintro e w4 ⟨rfl, hb⟩; replace HO := HO.call hb; clear hb R2'))
    go_upto_region 5 with (fail)
    refine Own.gen (HO.alloc _) ?_
    clear HO
    intro w5 HO
    generalize w4.heap.size = g11 at HO ⊢
    replace HO : Own w [(g2, .cells #[.int .i64 0, .int .i64 0] 23 (0, 0)), (g11, .cells #[.int .i64 n, .int .i64 d] 23 (0, 0))] w5 := HO
    clear w4
    have Z2 := Aside0.mk (HO.at_ 0 g2 _ rfl).2
    have L2 := Aside0.mk (HO.at_ 0 g2 _ rfl).1
    have B2 := Aside0.mk HO.below
    obtain ⟨p2_0, p2_1, f2_0, f2_1⟩ := HO.c2 0 rfl
    have n2 : g2 ≠ g11 := HO.ne (i := 0) (j := 1) rfl rfl (by decide)
    clear HO
    go_wp2
    have G2 := blk_put (cs' := #[.int .i64 0, .int .i64 0]) (blk_put (cs' := #[.int .i64 0, .int .i64 0]) Z2.out 0 (.int .i64 0) rfl) 1 (.int .i64 0) rfl
    refine bodyPost_ret (results_ct rfl _ _ g2 23 #[.int .i64 0, .int .i64 0] (0, 0) _ rfl G2 Tryd.underlying23 rfl (by kernel_rfl)) rfl ?_
    exact ⟨rfl, below_set (below_set B2.out L2.out) L2.out⟩
  | true =>
    cases two with
    | false =>
      rw [if_neg (by simp)] at hr
      simp only [Prod.mk.injEq] at hr
      obtain ⟨rfl, rfl, rfl⟩ := hr
      go_enter Tryd.func5, Tryd.ntmps5
      go_upto_region 1 with (fail)
      refine Own.gen (Own.boxes1 w) ?_
      intro w1 HO
      generalize w.heap.size = g2 at HO ⊢
      go_upto_region 2 with (first | (go_at_call 10; refine (CC _).mono ?_; rintro e w2 ⟨rfl, hb⟩; replace HO := HO.call hb; clear hb CC))
      have R1' := R1 _ HO.below
      clear R1
      go_upto_region 3 with (first | (go_at_call 11; refine R1'.mono ?_; rintro e w3 ⟨rfl, hb⟩; replace HO := HO.call hb; clear hb R1'))
      have R2' := R2 _ HO.below
      clear R2
      go_upto_region 4 with (first | (go_at_call 11; refine R2'.mono ?_; rintro e w4 ⟨rfl, hb⟩; replace HO := HO.call hb; clear hb R2'))
      go_upto_region 5 with (fail)
      refine Own.gen (HO.alloc _) ?_
      clear HO
      intro w5 HO
      generalize w4.heap.size = g11 at HO ⊢
      replace HO : Own w [(g2, .cells #[.int .i64 0, .int .i64 0] 23 (0, 0)), (g11, .cells #[.int .i64 n, .int .i64 d] 23 (0, 0))] w5 := HO
      clear w4
      have Z2 := Aside0.mk (HO.at_ 0 g2 _ rfl).2
      have L2 := Aside0.mk (HO.at_ 0 g2 _ rfl).1
      have B2 := Aside0.mk HO.below
      obtain ⟨p2_0, p2_1, f2_0, f2_1⟩ := HO.c2 0 rfl
      have n2 : g2 ≠ g11 := HO.ne (i := 0) (j := 1) rfl rfl (by decide)
      clear HO
      go_wp2
      have G2 := blk_put (cs' := #[.int .i64 0, .int .i64 0]) (blk_put (cs' := #[.int .i64 0, .int .i64 0]) Z2.out 0 (.int .i64 0) rfl) 1 (.int .i64 0) rfl
      refine bodyPost_ret (results_ct rfl _ _ g2 23 #[.int .i64 0, .int .i64 0] (0, 0) _ rfl G2 Tryd.underlying23 rfl (by kernel_rfl)) rfl ?_
      exact ⟨rfl, below_set (below_set B2.out L2.out) L2.out⟩
    | true =>
      replace CS := CS rfl rfl
      cases ok with
      | false =>
        rw [if_neg (by simp)] at hr
        simp only [Prod.mk.injEq] at hr
        obtain ⟨rfl, rfl, rfl⟩ := hr
        go_enter Tryd.func5, Tryd.ntmps5
        go_upto_region 1 with (fail)
        refine Own.gen (Own.boxes1 w) ?_
        intro w1 HO
        generalize w.heap.size = g2 at HO ⊢
        go_upto_region 2 with (first | (go_at_call 10; refine (CC _).mono ?_; rintro e w2 ⟨rfl, hb⟩; replace HO := HO.call hb; clear hb CC))
        have R1' := R1 _ HO.below
        clear R1
        go_upto_region 3 with (first | (go_at_call 11; refine R1'.mono ?_; rintro e w3 ⟨rfl, hb⟩; replace HO := HO.call hb; clear hb R1'))
        have R2' := R2 _ HO.below
        clear R2
        go_upto_region 4 with (first | (go_at_call 11; refine R2'.mono ?_; rintro e w4 ⟨rfl, hb⟩; replace HO := HO.call hb; clear hb R2'))
        go_upto_region 5 with (fail)
        refine Own.gen (HO.alloc _) ?_
        clear HO
        intro w5 HO
        generalize w4.heap.size = g11 at HO ⊢
        replace HO : Own w [(g2, .cells #[.int .i64 0, .int .i64 0] 23 (0, 0)), (g11, .cells #[.int .i64 n, .int .i64 d] 23 (0, 0))] w5 := HO
        clear w4
        obtain ⟨p11_0, p11_1, f11_0, f11_1⟩ := HO.c2 1 rfl
        have Z2 := Aside0.mk (HO.at_ 0 g2 _ rfl).2
        have L2 := Aside0.mk (HO.at_ 0 g2 _ rfl).1
        have CS' := CS w5
        clear CS
        go_upto_region 6 with (first | (go_at_call 12; refine CS'.mono ?_; rintro e w6 ⟨rfl, hb⟩; replace HO := HO.call hb; clear hb CS' p11_0 p11_1 f11_0 f11_1))
        replace Z2 := Aside0.mk (HO.at_ 0 g2 _ rfl).2
        have B2 := Aside0.mk HO.below
        obtain ⟨p2_0, p2_1, f2_0, f2_1⟩ := HO.c2 0 rfl
        obtain ⟨p11_0, p11_1, f11_0, f11_1⟩ := HO.c2 1 rfl
        clear HO
        go_wp2
        have G2 := blk_put (cs' := #[.int .i64 0, .int .i64 0]) (blk_put (cs' := #[.int .i64 0, .int .i64 0]) Z2.out 0 (.int .i64 0) rfl) 1 (.int .i64 0) rfl
        refine bodyPost_ret (results_ct rfl _ _ g2 23 #[.int .i64 0, .int .i64 0] (0, 0) _ rfl G2 Tryd.underlying23 rfl (by kernel_rfl)) rfl ?_
        exact ⟨rfl, below_set (below_set B2.out L2.out) L2.out⟩
      | true =>
        rw [if_pos (by simp)] at hr
        simp only [Prod.mk.injEq] at hr
        obtain ⟨e1, e2, rfl⟩ := hr
        obtain rfl := e1.symm
        obtain rfl := e2.symm
        clear e1 e2
        go_enter Tryd.func5, Tryd.ntmps5
        go_upto_region 1 with (fail)
        refine Own.gen (Own.boxes1 w) ?_
        intro w1 HO
        generalize w.heap.size = g2 at HO ⊢
        go_upto_region 2 with (first | (go_at_call 10; refine (CC _).mono ?_; rintro e w2 ⟨rfl, hb⟩; replace HO := HO.call hb; clear hb CC))
        have R1' := R1 _ HO.below
        clear R1
        go_upto_region 3 with (first | (go_at_call 11; refine R1'.mono ?_; rintro e w3 ⟨rfl, hb⟩; replace HO := HO.call hb; clear hb R1'))
        have R2' := R2 _ HO.below
        clear R2
        go_upto_region 4 with (first | (go_at_call 11; refine R2'.mono ?_; rintro e w4 ⟨rfl, hb⟩; replace HO := HO.call hb; clear hb R2'))
        go_upto_region 5 with (fail)
        refine Own.gen (HO.alloc _) ?_
        clear HO
        intro w5 HO
        generalize w4.heap.size = g11 at HO ⊢
        replace HO : Own w [(g2, .cells #[.int .i64 0, .int .i64 0] 23 (0, 0)), (g11, .cells #[.int .i64 n, .int .i64 d] 23 (0, 0))] w5 := HO
        clear w4
        obtain ⟨p11_0, p11_1, f11_0, f11_1⟩ := HO.c2 1 rfl
        have Z2 := Aside0.mk (HO.at_ 0 g2 _ rfl).2
        have L2 := Aside0.mk (HO.at_ 0 g2 _ rfl).1
        have CS' := CS w5
        clear CS
        go_upto_region 7 with (first | (go_at_call 12; refine CS'.mono ?_; rintro e w6 ⟨rfl, hb⟩; replace HO := HO.call hb; clear hb CS' p11_0 p11_1 f11_0 f11_1))
        replace Z2 := Aside0.mk (HO.at_ 0 g2 _ rfl).2
        have B2 := Aside0.mk HO.below
        obtain ⟨p2_0, p2_1, f2_0, f2_1⟩ := HO.c2 0 rfl
        obtain ⟨p11_0, p11_1, f11_0, f11_1⟩ := HO.c2 1 rfl
        clear HO
        go_wp2
        have G2 := blk_put (cs' := #[.int .i64 n, .int .i64 d]) (blk_put (cs' := #[.int .i64 n, .int .i64 0]) Z2.out 0 (.int .i64 n) rfl) 1 (.int .i64 d) rfl
        refine bodyPost_ret (results_ct rfl _ _ g2 23 #[.int .i64 n, .int .i64 d] (0, 0) _ rfl G2 Tryd.underlying23 rfl (by kernel_rfl)) rfl ?_
        exact ⟨rfl, below_set (below_set B2.out L2.out) L2.out⟩

end Go.Proofs.YtdhifobbaniogafDoor.PFnExactParseSpan
