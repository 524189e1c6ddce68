/- A part of the walk of FnClocksAgreeOfAll: which Lean function each Go function comes to, and that the machine's call does so. Written by a program of this repo (wip/gen/xprint.py). -/
import Derived.Test.YtdhifobbaniogabGreatDoorPFnClocksAgreeOfAllx0
import Derived.Test.YtdhifobbaniogabGreatDoorPFnClocksAgreeOfAllx5
import Derived.Test.YtdhifobbaniogabGreatDoorPFnClocksAgreeOfAllx15
import Derived.Test.YtdhifobbaniogabGreatDoorPFnClocksAgreeOfAllx22
namespace Go.Proofs.YtdhifobbaniogabGreatDoor.PFnClocksAgreeOfAll
open Go.RowKit Go.Proofs.YtdhifobbaniogabGreatDoorW.PrintWords Go.Proofs.YtdhifobbaniogabGreatDoorW.PrintLast Go.Proofs.YtdhifobbaniogabGreatDoorW.PrintMore
attribute [local go_sem] max2_int min2_int max_two min_two max_three min_three max_four min_four   -- for this text's walks alone
set_option linter.unusedVariables false
set_option linter.unusedSimpArgs false

/-! ### impl_SpanText: function 20 -/
/-! own: the blocks that the call has laid, under one name -/
structure Own (w0 : World) (bs : List (Nat × Obj)) (w : World) : Prop where
  below : Below w0.heap.size w0 w
  at_ : ∀ (i g : Nat) (o : Obj), bs[i]? = some (g, o) → w0.heap.size ≤ g ∧ w.heap[g]? = some o
  apart : (bs.map (·.1)).Pairwise (· < ·)
theorem Own.start (w : World) : Own w [] w := ⟨Below.refl _ _, fun i g o h => by simp at h, List.Pairwise.nil⟩
section
variable {w0 w w' : World} {bs : List (Nat × Obj)}
theorem Own.call (h : Own w0 bs w) (hb : Below w.heap.size w w') : Own w0 bs w' :=
  ⟨below_step h.below hb, fun i g o e => ⟨(h.at_ i g o e).1, blk_below (h.at_ i g o e).2 hb⟩, h.apart⟩
theorem Own.drew (h : Own w0 bs w) : Own w0 bs w.drew := ⟨below_drew1 h.below, fun i g o e => h.at_ i g o e, h.apart⟩
theorem Own.drewN (h : Own w0 bs w) (n : Nat) : Own w0 bs (w.drewN n) := ⟨pw_below_drewN h.below n, fun i g o e => h.at_ i g o e, h.apart⟩
theorem Own.alloc (h : Own w0 bs w) (o : Obj) : Own w0 (bs ++ [(w.heap.size, o)]) (w.alloc o) := by
  refine ⟨below_alloc h.below o, fun i g o' e => ?_, ?_⟩
  · by_cases hi : i < bs.length
    · rw [List.getElem?_append_left hi] at e
      exact ⟨(h.at_ i g o' e).1, blk_alloc (h.at_ i g o' e).2 o⟩
    · rw [List.getElem?_append_right (by omega)] at e
      have h0 : i - bs.length = 0 := by
        have := (List.getElem?_eq_some_iff.1 e).1
        simp at this
        omega
      rw [h0] at e
      simp only [List.getElem?_cons_zero, Option.some.injEq, Prod.mk.injEq] at e
      obtain ⟨rfl, rfl⟩ := e
      exact ⟨h.below.size, blk_new w _⟩
  · rw [List.map_append, List.pairwise_append]
    refine ⟨h.apart, by simp, fun a ha b hb => ?_⟩
    simp only [List.map_cons, List.map_nil, List.mem_singleton] at hb
    subst hb
    obtain ⟨⟨g, o'⟩, hm, rfl⟩ := List.mem_map.1 ha
    obtain ⟨i, hi⟩ := List.mem_iff_getElem?.1 hm
    exact blk_lt (h.at_ i g o' hi).2
theorem Own.ne (h : Own w0 bs w) {i j g g' : Nat} {o o' : Obj} (hi : bs[i]? = some (g, o)) (hj : bs[j]? = some (g', o')) (hij : i ≠ j) : g ≠ g' := by
  have hp := List.pairwise_iff_getElem.1 h.apart
  have li := (List.getElem?_eq_some_iff.1 hi).1
  have lj := (List.getElem?_eq_some_iff.1 hj).1
  have ei : (bs.map (·.1))[i]'(by simpa using li) = g := by simp [(List.getElem?_eq_some_iff.1 hi).2]
  have ej : (bs.map (·.1))[j]'(by simpa using lj) = g' := by simp [(List.getElem?_eq_some_iff.1 hj).2]
  rcases Nat.lt_or_gt_of_ne hij with k | k
  · have := hp i j (by simpa using li) (by simpa using lj) k
    rw [ei, ej] at this
    omega
  · have := hp j i (by simpa using lj) (by simpa using li) k
    rw [ei, ej] at this
    omega
theorem Own.set (h : Own w0 bs w) (i : Nat) {g : Nat} {cs : Array Value} {t : TypeId} (e : bs[i]? = some (g, .cells cs t (0, 0))) (j : Nat) (v : Value) : Own w0 (bs.set i (g, .cells (cs.setIfInBounds j v) t (0, 0))) (w.setCell ⟨g, j, none⟩ v) := by
  refine ⟨below_set h.below (h.at_ i g _ e).1, fun k g' o' ek => ?_, ?_⟩
  · rw [List.getElem?_set] at ek
    by_cases hk : i = k
    · subst hk
      have hl := (List.getElem?_eq_some_iff.1 e).1
      rw [if_pos rfl, if_pos hl] at ek
      simp only [Option.some.injEq, Prod.mk.injEq] at ek
      obtain ⟨rfl, rfl⟩ := ek
      exact ⟨(h.at_ i g _ e).1, blk_put (h.at_ i g _ e).2 j v rfl⟩
    · rw [if_neg hk] at ek
      refine ⟨(h.at_ k g' o' ek).1, ?_⟩
      have hne := h.ne e ek hk
      exact (Below.heap_setCell w ⟨g, j, none⟩ v g' (Ne.symm hne)).trans (h.at_ k g' o' ek).2
  · have : (bs.set i (g, Obj.cells (cs.setIfInBounds j v) t (0, 0))).map (·.1) = bs.map (·.1) := by
      rw [List.map_set]
      refine List.ext_getElem? fun k => ?_
      rw [List.getElem?_set]
      by_cases hk : i = k
      · subst hk
        have hl := (List.getElem?_eq_some_iff.1 e).1
        rw [if_pos rfl, if_pos (by simpa using hl), List.getElem?_map, e]
        rfl
      · rw [if_neg hk]
    rw [this]; exact h.apart
end
section
variable {w0 w : World} {bs : List (Nat × Obj)} {P : Program} {Q : Exit → Act → World → Prop} {c : Code} {a : Act}
theorem Own.gen (h : Own w0 bs w) (k : ∀ w2, Own w0 bs w2 → c.wp P Q a w2) : c.wp P Q a w := k w h
end
theorem Own.c1 {w0 w : World} {bs : List (Nat × Obj)} (h : Own w0 bs w) (i : Nat) {g : Nat} {x0 : Value} {t : TypeId} (e : bs[i]? = some (g, .cells #[x0] t (0, 0))) : w.cell? ⟨g, 0, none⟩ = some x0 ∧ w.frozen? ⟨g, 0, none⟩ = false := by
  have z := (h.at_ i g _ e).2
  exact ⟨(blk_cell z 0).trans rfl, blk_frozen z 0⟩
theorem Own.c2 {w0 w : World} {bs : List (Nat × Obj)} (h : Own w0 bs w) (i : Nat) {g : Nat} {x0 x1 : Value} {t : TypeId} (e : bs[i]? = some (g, .cells #[x0, x1] t (0, 0))) : w.cell? ⟨g, 0, none⟩ = some x0 ∧ w.cell? ⟨g, 1, none⟩ = some x1 ∧ w.frozen? ⟨g, 0, none⟩ = false ∧ w.frozen? ⟨g, 1, none⟩ = false := by
  have z := (h.at_ i g _ e).2
  exact ⟨(blk_cell z 0).trans rfl, (blk_cell z 1).trans rfl, blk_frozen z 0, blk_frozen z 1⟩
theorem Own.c3 {w0 w : World} {bs : List (Nat × Obj)} (h : Own w0 bs w) (i : Nat) {g : Nat} {x0 x1 x2 : Value} {t : TypeId} (e : bs[i]? = some (g, .cells #[x0, x1, x2] t (0, 0))) : w.cell? ⟨g, 0, none⟩ = some x0 ∧ w.cell? ⟨g, 1, none⟩ = some x1 ∧ w.cell? ⟨g, 2, none⟩ = some x2 ∧ w.frozen? ⟨g, 0, none⟩ = false ∧ w.frozen? ⟨g, 1, none⟩ = false ∧ w.frozen? ⟨g, 2, none⟩ = false := by
  have z := (h.at_ i g _ e).2
  exact ⟨(blk_cell z 0).trans rfl, (blk_cell z 1).trans rfl, (blk_cell z 2).trans rfl, blk_frozen z 0, blk_frozen z 1, blk_frozen z 2⟩
theorem Own.c4 {w0 w : World} {bs : List (Nat × Obj)} (h : Own w0 bs w) (i : Nat) {g : Nat} {x0 x1 x2 x3 : Value} {t : TypeId} (e : bs[i]? = some (g, .cells #[x0, x1, x2, x3] t (0, 0))) : w.cell? ⟨g, 0, none⟩ = some x0 ∧ w.cell? ⟨g, 1, none⟩ = some x1 ∧ w.cell? ⟨g, 2, none⟩ = some x2 ∧ w.cell? ⟨g, 3, none⟩ = some x3 ∧ w.frozen? ⟨g, 0, none⟩ = false ∧ w.frozen? ⟨g, 1, none⟩ = false ∧ w.frozen? ⟨g, 2, none⟩ = false ∧ w.frozen? ⟨g, 3, none⟩ = false := by
  have z := (h.at_ i g _ e).2
  exact ⟨(blk_cell z 0).trans rfl, (blk_cell z 1).trans rfl, (blk_cell z 2).trans rfl, (blk_cell z 3).trans rfl, blk_frozen z 0, blk_frozen z 1, blk_frozen z 2, blk_frozen z 3⟩
theorem Own.c5 {w0 w : World} {bs : List (Nat × Obj)} (h : Own w0 bs w) (i : Nat) {g : Nat} {x0 x1 x2 x3 x4 : Value} {t : TypeId} (e : bs[i]? = some (g, .cells #[x0, x1, x2, x3, x4] t (0, 0))) : w.cell? ⟨g, 0, none⟩ = some x0 ∧ w.cell? ⟨g, 1, none⟩ = some x1 ∧ w.cell? ⟨g, 2, none⟩ = some x2 ∧ w.cell? ⟨g, 3, none⟩ = some x3 ∧ w.cell? ⟨g, 4, none⟩ = some x4 ∧ w.frozen? ⟨g, 0, none⟩ = false ∧ w.frozen? ⟨g, 1, none⟩ = false ∧ w.frozen? ⟨g, 2, none⟩ = false ∧ w.frozen? ⟨g, 3, none⟩ = false ∧ w.frozen? ⟨g, 4, none⟩ = false := by
  have z := (h.at_ i g _ e).2
  exact ⟨(blk_cell z 0).trans rfl, (blk_cell z 1).trans rfl, (blk_cell z 2).trans rfl, (blk_cell z 3).trans rfl, (blk_cell z 4).trans rfl, blk_frozen z 0, blk_frozen z 1, blk_frozen z 2, blk_frozen z 3, blk_frozen z 4⟩
/-- A new block, and what is laid into it at once. -/
theorem Own.new1 {w0 w : World} {bs : List (Nat × Obj)} (h : Own w0 bs w) {z0 v0 : Value} {t : TypeId} : Own w0 (bs ++ [(w.heap.size, .cells #[v0] t (0, 0))]) ((w.alloc (.cells #[z0] t (0, 0))).setCell ⟨w.heap.size, 0, none⟩ v0) := by
  have h0 := h.alloc (.cells #[z0] t (0, 0))
  have h1 : Own w0 (bs ++ [(w.heap.size, .cells #[v0] t (0, 0))]) ((w.alloc (.cells #[z0] t (0, 0))).setCell ⟨w.heap.size, 0, none⟩ v0) := by simpa [List.set_append_right] using h0.set bs.length (g := w.heap.size) (cs := #[z0]) (t := t) (by simp) 0 v0
  exact h1
/-- A new block, and what is laid into it at once. -/
theorem Own.new2 {w0 w : World} {bs : List (Nat × Obj)} (h : Own w0 bs w) {z0 z1 v0 v1 : Value} {t : TypeId} : Own w0 (bs ++ [(w.heap.size, .cells #[v0, v1] t (0, 0))]) (((w.alloc (.cells #[z0, z1] t (0, 0))).setCell ⟨w.heap.size, 0, none⟩ v0).setCell ⟨w.heap.size, 1, none⟩ v1) := by
  have h0 := h.alloc (.cells #[z0, z1] t (0, 0))
  have h1 : Own w0 (bs ++ [(w.heap.size, .cells #[v0, z1] t (0, 0))]) ((w.alloc (.cells #[z0, z1] t (0, 0))).setCell ⟨w.heap.size, 0, none⟩ v0) := by simpa [List.set_append_right] using h0.set bs.length (g := w.heap.size) (cs := #[z0, z1]) (t := t) (by simp) 0 v0
  have h2 : Own w0 (bs ++ [(w.heap.size, .cells #[v0, v1] t (0, 0))]) (((w.alloc (.cells #[z0, z1] t (0, 0))).setCell ⟨w.heap.size, 0, none⟩ v0).setCell ⟨w.heap.size, 1, none⟩ v1) := by simpa [List.set_append_right] using h1.set bs.length (g := w.heap.size) (cs := #[v0, z1]) (t := t) (by simp) 1 v1
  exact h2
/-- A new block, and what is laid into it at once. -/
theorem Own.new3 {w0 w : World} {bs : List (Nat × Obj)} (h : Own w0 bs w) {z0 z1 z2 v0 v1 v2 : Value} {t : TypeId} : Own w0 (bs ++ [(w.heap.size, .cells #[v0, v1, v2] t (0, 0))]) ((((w.alloc (.cells #[z0, z1, z2] t (0, 0))).setCell ⟨w.heap.size, 0, none⟩ v0).setCell ⟨w.heap.size, 1, none⟩ v1).setCell ⟨w.heap.size, 2, none⟩ v2) := by
  have h0 := h.alloc (.cells #[z0, z1, z2] t (0, 0))
  have h1 : Own w0 (bs ++ [(w.heap.size, .cells #[v0, z1, z2] t (0, 0))]) ((w.alloc (.cells #[z0, z1, z2] t (0, 0))).setCell ⟨w.heap.size, 0, none⟩ v0) := by simpa [List.set_append_right] using h0.set bs.length (g := w.heap.size) (cs := #[z0, z1, z2]) (t := t) (by simp) 0 v0
  have h2 : Own w0 (bs ++ [(w.heap.size, .cells #[v0, v1, z2] t (0, 0))]) (((w.alloc (.cells #[z0, z1, z2] t (0, 0))).setCell ⟨w.heap.size, 0, none⟩ v0).setCell ⟨w.heap.size, 1, none⟩ v1) := by simpa [List.set_append_right] using h1.set bs.length (g := w.heap.size) (cs := #[v0, z1, z2]) (t := t) (by simp) 1 v1
  have h3 : Own w0 (bs ++ [(w.heap.size, .cells #[v0, v1, v2] t (0, 0))]) ((((w.alloc (.cells #[z0, z1, z2] t (0, 0))).setCell ⟨w.heap.size, 0, none⟩ v0).setCell ⟨w.heap.size, 1, none⟩ v1).setCell ⟨w.heap.size, 2, none⟩ v2) := by simpa [List.set_append_right] using h2.set bs.length (g := w.heap.size) (cs := #[v0, v1, z2]) (t := t) (by simp) 2 v2
  exact h3
/-- A new block, and what is laid into it at once. -/
theorem Own.new4 {w0 w : World} {bs : List (Nat × Obj)} (h : Own w0 bs w) {z0 z1 z2 z3 v0 v1 v2 v3 : Value} {t : TypeId} : Own w0 (bs ++ [(w.heap.size, .cells #[v0, v1, v2, v3] t (0, 0))]) (((((w.alloc (.cells #[z0, z1, z2, z3] t (0, 0))).setCell ⟨w.heap.size, 0, none⟩ v0).setCell ⟨w.heap.size, 1, none⟩ v1).setCell ⟨w.heap.size, 2, none⟩ v2).setCell ⟨w.heap.size, 3, none⟩ v3) := by
  have h0 := h.alloc (.cells #[z0, z1, z2, z3] t (0, 0))
  have h1 : Own w0 (bs ++ [(w.heap.size, .cells #[v0, z1, z2, z3] t (0, 0))]) ((w.alloc (.cells #[z0, z1, z2, z3] t (0, 0))).setCell ⟨w.heap.size, 0, none⟩ v0) := by simpa [List.set_append_right] using h0.set bs.length (g := w.heap.size) (cs := #[z0, z1, z2, z3]) (t := t) (by simp) 0 v0
  have h2 : Own w0 (bs ++ [(w.heap.size, .cells #[v0, v1, z2, z3] t (0, 0))]) (((w.alloc (.cells #[z0, z1, z2, z3] t (0, 0))).setCell ⟨w.heap.size, 0, none⟩ v0).setCell ⟨w.heap.size, 1, none⟩ v1) := by simpa [List.set_append_right] using h1.set bs.length (g := w.heap.size) (cs := #[v0, z1, z2, z3]) (t := t) (by simp) 1 v1
  have h3 : Own w0 (bs ++ [(w.heap.size, .cells #[v0, v1, v2, z3] t (0, 0))]) ((((w.alloc (.cells #[z0, z1, z2, z3] t (0, 0))).setCell ⟨w.heap.size, 0, none⟩ v0).setCell ⟨w.heap.size, 1, none⟩ v1).setCell ⟨w.heap.size, 2, none⟩ v2) := by simpa [List.set_append_right] using h2.set bs.length (g := w.heap.size) (cs := #[v0, v1, z2, z3]) (t := t) (by simp) 2 v2
  have h4 : Own w0 (bs ++ [(w.heap.size, .cells #[v0, v1, v2, v3] t (0, 0))]) (((((w.alloc (.cells #[z0, z1, z2, z3] t (0, 0))).setCell ⟨w.heap.size, 0, none⟩ v0).setCell ⟨w.heap.size, 1, none⟩ v1).setCell ⟨w.heap.size, 2, none⟩ v2).setCell ⟨w.heap.size, 3, none⟩ v3) := by simpa [List.set_append_right] using h3.set bs.length (g := w.heap.size) (cs := #[v0, v1, v2, z3]) (t := t) (by simp) 3 v3
  exact h4
/-- A new block, and what is laid into it at once. -/
theorem Own.new5 {w0 w : World} {bs : List (Nat × Obj)} (h : Own w0 bs w) {z0 z1 z2 z3 z4 v0 v1 v2 v3 v4 : Value} {t : TypeId} : Own w0 (bs ++ [(w.heap.size, .cells #[v0, v1, v2, v3, v4] t (0, 0))]) ((((((w.alloc (.cells #[z0, z1, z2, z3, z4] t (0, 0))).setCell ⟨w.heap.size, 0, none⟩ v0).setCell ⟨w.heap.size, 1, none⟩ v1).setCell ⟨w.heap.size, 2, none⟩ v2).setCell ⟨w.heap.size, 3, none⟩ v3).setCell ⟨w.heap.size, 4, none⟩ v4) := by
  have h0 := h.alloc (.cells #[z0, z1, z2, z3, z4] t (0, 0))
  have h1 : Own w0 (bs ++ [(w.heap.size, .cells #[v0, z1, z2, z3, z4] t (0, 0))]) ((w.alloc (.cells #[z0, z1, z2, z3, z4] t (0, 0))).setCell ⟨w.heap.size, 0, none⟩ v0) := by simpa [List.set_append_right] using h0.set bs.length (g := w.heap.size) (cs := #[z0, z1, z2, z3, z4]) (t := t) (by simp) 0 v0
  have h2 : Own w0 (bs ++ [(w.heap.size, .cells #[v0, v1, z2, z3, z4] t (0, 0))]) (((w.alloc (.cells #[z0, z1, z2, z3, z4] t (0, 0))).setCell ⟨w.heap.size, 0, none⟩ v0).setCell ⟨w.heap.size, 1, none⟩ v1) := by simpa [List.set_append_right] using h1.set bs.length (g := w.heap.size) (cs := #[v0, z1, z2, z3, z4]) (t := t) (by simp) 1 v1
  have h3 : Own w0 (bs ++ [(w.heap.size, .cells #[v0, v1, v2, z3, z4] t (0, 0))]) ((((w.alloc (.cells #[z0, z1, z2, z3, z4] t (0, 0))).setCell ⟨w.heap.size, 0, none⟩ v0).setCell ⟨w.heap.size, 1, none⟩ v1).setCell ⟨w.heap.size, 2, none⟩ v2) := by simpa [List.set_append_right] using h2.set bs.length (g := w.heap.size) (cs := #[v0, v1, z2, z3, z4]) (t := t) (by simp) 2 v2
  have h4 : Own w0 (bs ++ [(w.heap.size, .cells #[v0, v1, v2, v3, z4] t (0, 0))]) (((((w.alloc (.cells #[z0, z1, z2, z3, z4] t (0, 0))).setCell ⟨w.heap.size, 0, none⟩ v0).setCell ⟨w.heap.size, 1, none⟩ v1).setCell ⟨w.heap.size, 2, none⟩ v2).setCell ⟨w.heap.size, 3, none⟩ v3) := by simpa [List.set_append_right] using h3.set bs.length (g := w.heap.size) (cs := #[v0, v1, v2, z3, z4]) (t := t) (by simp) 3 v3
  have h5 : Own w0 (bs ++ [(w.heap.size, .cells #[v0, v1, v2, v3, v4] t (0, 0))]) ((((((w.alloc (.cells #[z0, z1, z2, z3, z4] t (0, 0))).setCell ⟨w.heap.size, 0, none⟩ v0).setCell ⟨w.heap.size, 1, none⟩ v1).setCell ⟨w.heap.size, 2, none⟩ v2).setCell ⟨w.heap.size, 3, none⟩ v3).setCell ⟨w.heap.size, 4, none⟩ v4) := by simpa [List.set_append_right] using h4.set bs.length (g := w.heap.size) (cs := #[v0, v1, v2, v3, z4]) (t := t) (by simp) 4 v4
  exact h5
theorem size_alloc_ (w : World) (o : Obj) : (w.alloc o).heap.size = w.heap.size + 1 := by unfold World.alloc; simp
theorem Own.alloc_at {w0 w : World} {bs : List (Nat × Obj)} (h : Own w0 bs w) {n : Nat} (e : w.heap.size = n) (o : Obj) : Own w0 (bs ++ [(n, o)]) (w.alloc o) ∧ (w.alloc o).heap.size = n + 1 := ⟨e ▸ h.alloc o, by rw [size_alloc_, e]⟩
theorem Own.boxes1 (w : World) {o0 : Obj} : Own w [(w.heap.size, o0)] (w.alloc o0) := by
  have h0 := (Own.start w).alloc_at rfl o0
  exact h0.1
theorem Own.boxes2 (w : World) {o0 o1 : Obj} : Own w [(w.heap.size, o0), (w.heap.size + 1, o1)] ((w.alloc o0).alloc o1) := by
  have h0 := (Own.start w).alloc_at rfl o0
  have h1 := h0.1.alloc_at h0.2 o1
  exact h1.1
theorem Own.boxes3 (w : World) {o0 o1 o2 : Obj} : Own w [(w.heap.size, o0), (w.heap.size + 1, o1), (w.heap.size + 1 + 1, o2)] (((w.alloc o0).alloc o1).alloc o2) := by
  have h0 := (Own.start w).alloc_at rfl o0
  have h1 := h0.1.alloc_at h0.2 o1
  have h2 := h1.1.alloc_at h1.2 o2
  exact h2.1
theorem Own.boxes4 (w : World) {o0 o1 o2 o3 : Obj} : Own w [(w.heap.size, o0), (w.heap.size + 1, o1), (w.heap.size + 1 + 1, o2), (w.heap.size + 1 + 1 + 1, o3)] ((((w.alloc o0).alloc o1).alloc o2).alloc o3) := by
  have h0 := (Own.start w).alloc_at rfl o0
  have h1 := h0.1.alloc_at h0.2 o1
  have h2 := h1.1.alloc_at h1.2 o2
  have h3 := h2.1.alloc_at h2.2 o3
  exact h3.1
theorem Own.boxes5 (w : World) {o0 o1 o2 o3 o4 : Obj} : Own w [(w.heap.size, o0), (w.heap.size + 1, o1), (w.heap.size + 1 + 1, o2), (w.heap.size + 1 + 1 + 1, o3), (w.heap.size + 1 + 1 + 1 + 1, o4)] (((((w.alloc o0).alloc o1).alloc o2).alloc o3).alloc o4) := by
  have h0 := (Own.start w).alloc_at rfl o0
  have h1 := h0.1.alloc_at h0.2 o1
  have h2 := h1.1.alloc_at h1.2 o2
  have h3 := h2.1.alloc_at h2.2 o3
  have h4 := h3.1.alloc_at h3.2 o4
  exact h4.1
theorem Own.boxes6 (w : World) {o0 o1 o2 o3 o4 o5 : Obj} : Own w [(w.heap.size, o0), (w.heap.size + 1, o1), (w.heap.size + 1 + 1, o2), (w.heap.size + 1 + 1 + 1, o3), (w.heap.size + 1 + 1 + 1 + 1, o4), (w.heap.size + 1 + 1 + 1 + 1 + 1, o5)] ((((((w.alloc o0).alloc o1).alloc o2).alloc o3).alloc o4).alloc o5) := by
  have h0 := (Own.start w).alloc_at rfl o0
  have h1 := h0.1.alloc_at h0.2 o1
  have h2 := h1.1.alloc_at h1.2 o2
  have h3 := h2.1.alloc_at h2.2 o3
  have h4 := h3.1.alloc_at h3.2 o4
  have h5 := h4.1.alloc_at h4.2 o5
  exact h5.1
theorem Own.boxes7 (w : World) {o0 o1 o2 o3 o4 o5 o6 : Obj} : Own w [(w.heap.size, o0), (w.heap.size + 1, o1), (w.heap.size + 1 + 1, o2), (w.heap.size + 1 + 1 + 1, o3), (w.heap.size + 1 + 1 + 1 + 1, o4), (w.heap.size + 1 + 1 + 1 + 1 + 1, o5), (w.heap.size + 1 + 1 + 1 + 1 + 1 + 1, o6)] (((((((w.alloc o0).alloc o1).alloc o2).alloc o3).alloc o4).alloc o5).alloc o6) := by
  have h0 := (Own.start w).alloc_at rfl o0
  have h1 := h0.1.alloc_at h0.2 o1
  have h2 := h1.1.alloc_at h1.2 o2
  have h3 := h2.1.alloc_at h2.2 o3
  have h4 := h3.1.alloc_at h3.2 o4
  have h5 := h4.1.alloc_at h4.2 o5
  have h6 := h5.1.alloc_at h5.2 o6
  exact h6.1
theorem Own.boxes8 (w : World) {o0 o1 o2 o3 o4 o5 o6 o7 : Obj} : Own w [(w.heap.size, o0), (w.heap.size + 1, o1), (w.heap.size + 1 + 1, o2), (w.heap.size + 1 + 1 + 1, o3), (w.heap.size + 1 + 1 + 1 + 1, o4), (w.heap.size + 1 + 1 + 1 + 1 + 1, o5), (w.heap.size + 1 + 1 + 1 + 1 + 1 + 1, o6), (w.heap.size + 1 + 1 + 1 + 1 + 1 + 1 + 1, o7)] ((((((((w.alloc o0).alloc o1).alloc o2).alloc o3).alloc o4).alloc o5).alloc o6).alloc o7) := by
  have h0 := (Own.start w).alloc_at rfl o0
  have h1 := h0.1.alloc_at h0.2 o1
  have h2 := h1.1.alloc_at h1.2 o2
  have h3 := h2.1.alloc_at h2.2 o3
  have h4 := h3.1.alloc_at h3.2 o4
  have h5 := h4.1.alloc_at h4.2 o5
  have h6 := h5.1.alloc_at h5.2 o6
  have h7 := h6.1.alloc_at h6.2 o7
  exact h7.1
theorem Own.less {w0 w : World} {bs : List (Nat × Obj)} {x : Nat × Obj} (h : Own w0 (bs ++ [x]) w) : Own w0 bs w := by
  refine ⟨h.below, fun i g o e => h.at_ i g o ?_, ?_⟩
  · rw [List.getElem?_append_left (List.getElem?_eq_some_iff.1 e).1]; exact e
  · have := h.apart
    rw [List.map_append, List.pairwise_append] at this
    exact this.1
def textOf (a b : Int) : ByteArray := ((⟨(Go.Lib.itoa a).toArray⟩ : ByteArray) ++ (⟨#[47]⟩ : ByteArray)) ++ ⟨(Go.Lib.itoa b).toArray⟩
set_option maxHeartbeats 8000000 in
set_option maxRecDepth 100000 in
theorem impl_spanText.calls (a b : Int) (ha : 0 ≤ a ∧ a ≤ 1000000) (hb : 0 ≤ b ∧ b ≤ 1000000) (w : World) (ht : HasTab w) :
    Calls Tryz.prog 52 #[.agg #[.int .i64 a, .int .i64 b]] w fun e w' => e = .returned (.string (textOf a b)) ∧ Below w.heap.size w w' := by
  have la := Go.Lib.itoa_length_le a (by omega) (by omega)
  have lb := Go.Lib.itoa_length_le b (by omega) (by omega)
  obtain ⟨A, hA⟩ : ∃ A : ByteArray, A = ⟨(Go.Lib.itoa a).toArray⟩ := ⟨_, rfl⟩
  obtain ⟨B, hB⟩ : ∃ B : ByteArray, B = ⟨(Go.Lib.itoa b).toArray⟩ := ⟨_, rfl⟩
  have e0 : textOf a b = (A ++ (⟨#[47]⟩ : ByteArray)) ++ B := by rw [hA, hB]; rfl
  have sa : A.size ≤ 21 := by rw [hA]; simpa [ByteArray.size] using la
  have sb : B.size ≤ 21 := by rw [hB]; simpa [ByteArray.size] using lb
  have sc : (A ++ (⟨#[47]⟩ : ByteArray)).size ≤ 22 := by rw [ByteArray.size_append]; show A.size + 1 ≤ 22; omega
  rw [e0]
  have hu := Tryz.underlying26
  go_enter Tryz.func52, Tryz.ntmps52
  go_upto_region 1 with (fail)
  refine Own.gen (Own.boxes1 w) ?_
  intro w1 HO
  generalize w.heap.size = g1 at HO ⊢
  obtain ⟨p0, p1, f0, f1⟩ := HO.c2 0 rfl
  have ht1 := ht.on HO.below
  have c1 : A.size + 1 ≤ 9223372036854775807 := by omega
  have c2 : (A ++ (⟨#[47]⟩ : ByteArray)).size + B.size ≤ 9223372036854775807 := by omega
  have c1b0 := eq_true c1
  have c1b1 := decide_eq_true c1
  have c1b2 : (9223372036854775807 < A.size + 1) = False := eq_false (Nat.not_lt.2 c1)
  have c2b0 := eq_true c2
  have c2b1 := decide_eq_true c2
  have c2b2 : (9223372036854775807 < (A ++ (⟨#[47]⟩ : ByteArray)).size + B.size) = False := eq_false (Nat.not_lt.2 c2)
  have c2b3 : (9223372036854775807 < A.size + 1 + B.size) = False := eq_false (by omega)
  have Q1 : ∀ d os, Calls Tryz.prog 66 #[.int .i64 a] (Go.Sort.grow (redrawn w1 d) os) fun e w'' => e = .returned (.string A) ∧ ∃ p : Regrown, w'' = Go.Sort.grow (redrawn w1 p.d) p.os := fun d os => Calls.regrown_of (by rw [hA]; exact strconv_Itoa.calls a (by omega) (by omega) _ (ht1.on (below_regrown w1 d os)))
  have Q2 : ∀ d os, Calls Tryz.prog 66 #[.int .i64 b] (Go.Sort.grow (redrawn w1 d) os) fun e w'' => e = .returned (.string B) ∧ ∃ p : Regrown, w'' = Go.Sort.grow (redrawn w1 p.d) p.os := fun d os => Calls.regrown_of (by rw [hB]; exact strconv_Itoa.calls b (by omega) (by omega) _ (ht1.on (below_regrown w1 d os)))
  clear e0 hA hB la lb sa sb sc c1 c2 ha hb ht ht1
  have kp0 := cell_regrown p0
  have kp1 := cell_regrown p1
  refine wp_region_quiet_below (by kernel_rfl) (by kernel_rfl) ?_
  repeat (first | go_big_quiet_step (first | exact Q1 _ _ | exact Q2 _ _) | quiet_step (first | exact Q1 _ _ | exact Q2 _ _))
  refine wpQuiet_nil ?_
  intro _ hw'; obtain ⟨⟨dq, osq⟩, hw''⟩ := hw'; subst hw''
  replace HO := HO.call (below_regrown _ dq osq)
  go_wp2
  go_ret
  exact ⟨by first | rfl | simp, HO.below⟩
def impl_SpanText.f (k : Nat) (a b : Int) : Option (ByteArray × Bool) := (impl_IsSpan.f k a b).bind fun t => if t = true then some (textOf a b, true) else some ((⟨#[]⟩ : ByteArray), false)
set_option maxHeartbeats 8000000 in
set_option maxRecDepth 100000 in
theorem impl_SpanText.calls (k : Nat) (a b : Int) (r1 : ByteArray) (r2 : Bool) (w : World) (ht : HasTab w) (h : impl_SpanText.f k a b = some (r1, r2)) :
    Calls Tryz.prog 20 #[.agg #[.int .i64 a, .int .i64 b]] w fun e w' => e = .returned (.tuple #[.string r1, .bool r2]) ∧ Below w.heap.size w w' := by
  unfold impl_SpanText.f at h
  obtain ⟨t, ei, h⟩ := Option.bind_eq_some_iff.mp h
  have C1 := fun W => impl_IsSpan.calls k a b t W ei
  have hu := Tryz.underlying26
  cases t with
  | false =>
    rw [if_neg (by simp)] at h
    simp only [Option.some.injEq, Prod.mk.injEq] at h
    obtain ⟨rfl, rfl⟩ := h
    clear ei
    go_enter Tryz.func20, Tryz.ntmps20
    go_upto_region 1 with (fail)
    refine Own.gen (Own.boxes1 w) ?_
    intro w1 HO
    generalize w.heap.size = g1 at HO ⊢
    obtain ⟨p0, p1, f0, f1⟩ := HO.c2 0 rfl
    go_wp2_with (first | (go_at_call 24; refine (C1 _).mono ?_; rintro e w2 ⟨rfl, hb⟩; replace HO := HO.call hb; clear hb))
    go_ret2
    exact ⟨rfl, HO.below⟩
  | true =>
    rw [if_pos rfl] at h
    simp only [Option.some.injEq, Prod.mk.injEq] at h
    obtain ⟨rfl, rfl⟩ := h
    have hbd : (0 ≤ a ∧ a ≤ 1000000) ∧ (0 ≤ b ∧ b ≤ 1000000) := by
      unfold impl_IsSpan.f at ei
      simp only [within_val, Option.bind_some] at ei
      by_cases h1 : 0 ≤ a ∧ a ≤ 1000000
      · by_cases h2 : 1 ≤ b ∧ b ≤ 10000
        · exact ⟨h1, by omega, by omega⟩
        · simp [h1, h2] at ei
      · simp [h1] at ei
    have C2 := fun W (hT : HasTab W) => impl_spanText.calls a b hbd.1 hbd.2 W hT
    clear ei hbd
    go_enter Tryz.func20, Tryz.ntmps20
    go_upto_region 1 with (fail)
    refine Own.gen (Own.boxes1 w) ?_
    intro w1 HO
    generalize w.heap.size = g1 at HO ⊢
    obtain ⟨p0, p1, f0, f1⟩ := HO.c2 0 rfl
    go_upto_region 3 with (first | (go_at_call 24; refine (C1 _).mono ?_; rintro e w2 ⟨rfl, hb⟩; replace HO := HO.call hb; clear hb p0 p1 f0 f1))
    obtain ⟨p0, p1, f0, f1⟩ := HO.c2 0 rfl
    have C3 := C2 w2 (ht.on HO.below)
    clear C1 C2
    go_wp2_with (first | (go_at_call 52; refine C3.mono ?_; rintro e w3 ⟨rfl, hb⟩; replace HO := HO.call hb; clear hb))
    go_ret2
    exact ⟨rfl, HO.below⟩

end Go.Proofs.YtdhifobbaniogabGreatDoor.PFnClocksAgreeOfAll
