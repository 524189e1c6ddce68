/- The walk of FnStrokesCountedOfAll, directed: what its calls return is given, its tests are decided. Written by a program of this repo (wip/gen/lawgen.py, wip/law). -/
import Derived.Test.YtjalknehgfomlabPFnStrokesCountedOfAllx0
import Derived.Test.YtjalknehgfomlabPFnStrokesCountedOfAllx1
import Derived.Test.YtjalknehgfomlabPFnStrokesCountedOfAllx2
import Derived.Test.YtjalknehgfomlabPFnStrokesCountedOfAllx3
import Derived.Test.YtjalknehgfomlabPFnStrokesCountedOfAllx4
import Derived.Test.YtjalknehgfomlabPFnStrokesCountedOfAllx5
import Derived.Test.YtjalknehgfomlabPFnStrokesCountedOfAllx6
import Derived.Test.YtjalknehgfomlabPFnStrokesCountedOfAllx7
import Derived.Test.YtjalknehgfomlabPFnStrokesCountedOfAllx8
import Derived.Test.YtjalknehgfomlabPFnStrokesCountedOfAllx9
import Derived.Deep.DeepCutAuto
import Derived.Lib.QuietBelow
import Derived.BigQuiet
set_option linter.unusedVariables false
set_option linter.unusedSimpArgs false
namespace Go.Proofs.Ytjalknehgfomlab.PFnStrokesCountedOfAll
open Go.RowKit Go.Sort Go.Proofs.YtjalknehgfomlabW.PrintWords Go.Proofs.YtjalknehgfomlabW.PrintLast Go.Proofs.YtjalknehgfomlabW.PrintMore
/-! own: the blocks that the call has laid, under one name -/
structure Own (w0 : World) (bs : List (Nat × Obj)) (w : World) : Prop where
  below : Below w0.heap.size w0 w
  at_ : ∀ (i g : Nat) (o : Obj), bs[i]? = some (g, o) → w0.heap.size ≤ g ∧ w.heap[g]? = some o
  apart : (bs.map (·.1)).Pairwise (· < ·)
theorem Own.start (w : World) : Own w [] w := ⟨Below.refl _ _, fun i g o h => by simp at h, List.Pairwise.nil⟩
section
variable {w0 w w' : World} {bs : List (Nat × Obj)}
theorem Own.call (h : Own w0 bs w) (hb : Below w.heap.size w w') : Own w0 bs w' :=
  ⟨below_step h.below hb, fun i g o e => ⟨(h.at_ i g o e).1, blk_below (h.at_ i g o e).2 hb⟩, h.apart⟩
theorem Own.drew (h : Own w0 bs w) : Own w0 bs w.drew := ⟨below_drew1 h.below, fun i g o e => h.at_ i g o e, h.apart⟩
theorem Own.drewN (h : Own w0 bs w) (n : Nat) : Own w0 bs (w.drewN n) := ⟨pw_below_drewN h.below n, fun i g o e => h.at_ i g o e, h.apart⟩
theorem Own.alloc (h : Own w0 bs w) (o : Obj) : Own w0 (bs ++ [(w.heap.size, o)]) (w.alloc o) := by
  refine ⟨below_alloc h.below o, fun i g o' e => ?_, ?_⟩
  · by_cases hi : i < bs.length
    · rw [List.getElem?_append_left hi] at e
      exact ⟨(h.at_ i g o' e).1, blk_alloc (h.at_ i g o' e).2 o⟩
    · rw [List.getElem?_append_right (by omega)] at e
      have h0 : i - bs.length = 0 := by
        have := (List.getElem?_eq_some_iff.1 e).1
        simp at this
        omega
      rw [h0] at e
      simp only [List.getElem?_cons_zero, Option.some.injEq, Prod.mk.injEq] at e
      obtain ⟨rfl, rfl⟩ := e
      exact ⟨h.below.size, blk_new w _⟩
  · rw [List.map_append, List.pairwise_append]
    refine ⟨h.apart, by simp, fun a ha b hb => ?_⟩
    simp only [List.map_cons, List.map_nil, List.mem_singleton] at hb
    subst hb
    obtain ⟨⟨g, o'⟩, hm, rfl⟩ := List.mem_map.1 ha
    obtain ⟨i, hi⟩ := List.mem_iff_getElem?.1 hm
    exact blk_lt (h.at_ i g o' hi).2
theorem Own.ne (h : Own w0 bs w) {i j g g' : Nat} {o o' : Obj} (hi : bs[i]? = some (g, o)) (hj : bs[j]? = some (g', o')) (hij : i ≠ j) : g ≠ g' := by
  have hp := List.pairwise_iff_getElem.1 h.apart
  have li := (List.getElem?_eq_some_iff.1 hi).1
  have lj := (List.getElem?_eq_some_iff.1 hj).1
  have ei : (bs.map (·.1))[i]'(by simpa using li) = g := by simp [(List.getElem?_eq_some_iff.1 hi).2]
  have ej : (bs.map (·.1))[j]'(by simpa using lj) = g' := by simp [(List.getElem?_eq_some_iff.1 hj).2]
  rcases Nat.lt_or_gt_of_ne hij with k | k
  · have := hp i j (by simpa using li) (by simpa using lj) k
    rw [ei, ej] at this
    omega
  · have := hp j i (by simpa using lj) (by simpa using li) k
    rw [ei, ej] at this
    omega
theorem Own.set (h : Own w0 bs w) (i : Nat) {g : Nat} {cs : Array Value} {t : TypeId} (e : bs[i]? = some (g, .cells cs t (0, 0))) (j : Nat) (v : Value) : Own w0 (bs.set i (g, .cells (cs.setIfInBounds j v) t (0, 0))) (w.setCell ⟨g, j, none⟩ v) := by
  refine ⟨below_set h.below (h.at_ i g _ e).1, fun k g' o' ek => ?_, ?_⟩
  · rw [List.getElem?_set] at ek
    by_cases hk : i = k
    · subst hk
      have hl := (List.getElem?_eq_some_iff.1 e).1
      rw [if_pos rfl, if_pos hl] at ek
      simp only [Option.some.injEq, Prod.mk.injEq] at ek
      obtain ⟨rfl, rfl⟩ := ek
      exact ⟨(h.at_ i g _ e).1, blk_put (h.at_ i g _ e).2 j v rfl⟩
    · rw [if_neg hk] at ek
      refine ⟨(h.at_ k g' o' ek).1, ?_⟩
      have hne := h.ne e ek hk
      exact (Below.heap_setCell w ⟨g, j, none⟩ v g' (Ne.symm hne)).trans (h.at_ k g' o' ek).2
  · have : (bs.set i (g, Obj.cells (cs.setIfInBounds j v) t (0, 0))).map (·.1) = bs.map (·.1) := by
      rw [List.map_set]
      refine List.ext_getElem? fun k => ?_
      rw [List.getElem?_set]
      by_cases hk : i = k
      · subst hk
        have hl := (List.getElem?_eq_some_iff.1 e).1
        rw [if_pos rfl, if_pos (by simpa using hl), List.getElem?_map, e]
        rfl
      · rw [if_neg hk]
    rw [this]; exact h.apart
end
section
variable {w0 w : World} {bs : List (Nat × Obj)} {P : Program} {Q : Exit → Act → World → Prop} {c : Code} {a : Act}
theorem Own.gen (h : Own w0 bs w) (k : ∀ w2, Own w0 bs w2 → c.wp P Q a w2) : c.wp P Q a w := k w h
end
theorem Own.c1 {w0 w : World} {bs : List (Nat × Obj)} (h : Own w0 bs w) (i : Nat) {g : Nat} {x0 : Value} {t : TypeId} (e : bs[i]? = some (g, .cells #[x0] t (0, 0))) : w.cell? ⟨g, 0, none⟩ = some x0 ∧ w.frozen? ⟨g, 0, none⟩ = false := by
  have z := (h.at_ i g _ e).2
  exact ⟨(blk_cell z 0).trans rfl, blk_frozen z 0⟩
theorem Own.c2 {w0 w : World} {bs : List (Nat × Obj)} (h : Own w0 bs w) (i : Nat) {g : Nat} {x0 x1 : Value} {t : TypeId} (e : bs[i]? = some (g, .cells #[x0, x1] t (0, 0))) : w.cell? ⟨g, 0, none⟩ = some x0 ∧ w.cell? ⟨g, 1, none⟩ = some x1 ∧ w.frozen? ⟨g, 0, none⟩ = false ∧ w.frozen? ⟨g, 1, none⟩ = false := by
  have z := (h.at_ i g _ e).2
  exact ⟨(blk_cell z 0).trans rfl, (blk_cell z 1).trans rfl, blk_frozen z 0, blk_frozen z 1⟩
theorem Own.c3 {w0 w : World} {bs : List (Nat × Obj)} (h : Own w0 bs w) (i : Nat) {g : Nat} {x0 x1 x2 : Value} {t : TypeId} (e : bs[i]? = some (g, .cells #[x0, x1, x2] t (0, 0))) : w.cell? ⟨g, 0, none⟩ = some x0 ∧ w.cell? ⟨g, 1, none⟩ = some x1 ∧ w.cell? ⟨g, 2, none⟩ = some x2 ∧ w.frozen? ⟨g, 0, none⟩ = false ∧ w.frozen? ⟨g, 1, none⟩ = false ∧ w.frozen? ⟨g, 2, none⟩ = false := by
  have z := (h.at_ i g _ e).2
  exact ⟨(blk_cell z 0).trans rfl, (blk_cell z 1).trans rfl, (blk_cell z 2).trans rfl, blk_frozen z 0, blk_frozen z 1, blk_frozen z 2⟩
theorem Own.c4 {w0 w : World} {bs : List (Nat × Obj)} (h : Own w0 bs w) (i : Nat) {g : Nat} {x0 x1 x2 x3 : Value} {t : TypeId} (e : bs[i]? = some (g, .cells #[x0, x1, x2, x3] t (0, 0))) : w.cell? ⟨g, 0, none⟩ = some x0 ∧ w.cell? ⟨g, 1, none⟩ = some x1 ∧ w.cell? ⟨g, 2, none⟩ = some x2 ∧ w.cell? ⟨g, 3, none⟩ = some x3 ∧ w.frozen? ⟨g, 0, none⟩ = false ∧ w.frozen? ⟨g, 1, none⟩ = false ∧ w.frozen? ⟨g, 2, none⟩ = false ∧ w.frozen? ⟨g, 3, none⟩ = false := by
  have z := (h.at_ i g _ e).2
  exact ⟨(blk_cell z 0).trans rfl, (blk_cell z 1).trans rfl, (blk_cell z 2).trans rfl, (blk_cell z 3).trans rfl, blk_frozen z 0, blk_frozen z 1, blk_frozen z 2, blk_frozen z 3⟩
theorem Own.c5 {w0 w : World} {bs : List (Nat × Obj)} (h : Own w0 bs w) (i : Nat) {g : Nat} {x0 x1 x2 x3 x4 : Value} {t : TypeId} (e : bs[i]? = some (g, .cells #[x0, x1, x2, x3, x4] t (0, 0))) : w.cell? ⟨g, 0, none⟩ = some x0 ∧ w.cell? ⟨g, 1, none⟩ = some x1 ∧ w.cell? ⟨g, 2, none⟩ = some x2 ∧ w.cell? ⟨g, 3, none⟩ = some x3 ∧ w.cell? ⟨g, 4, none⟩ = some x4 ∧ w.frozen? ⟨g, 0, none⟩ = false ∧ w.frozen? ⟨g, 1, none⟩ = false ∧ w.frozen? ⟨g, 2, none⟩ = false ∧ w.frozen? ⟨g, 3, none⟩ = false ∧ w.frozen? ⟨g, 4, none⟩ = false := by
  have z := (h.at_ i g _ e).2
  exact ⟨(blk_cell z 0).trans rfl, (blk_cell z 1).trans rfl, (blk_cell z 2).trans rfl, (blk_cell z 3).trans rfl, (blk_cell z 4).trans rfl, blk_frozen z 0, blk_frozen z 1, blk_frozen z 2, blk_frozen z 3, blk_frozen z 4⟩
/-- A new block, and what is laid into it at once. -/
theorem Own.new1 {w0 w : World} {bs : List (Nat × Obj)} (h : Own w0 bs w) {z0 v0 : Value} {t : TypeId} : Own w0 (bs ++ [(w.heap.size, .cells #[v0] t (0, 0))]) ((w.alloc (.cells #[z0] t (0, 0))).setCell ⟨w.heap.size, 0, none⟩ v0) := by
  have h0 := h.alloc (.cells #[z0] t (0, 0))
  have h1 : Own w0 (bs ++ [(w.heap.size, .cells #[v0] t (0, 0))]) ((w.alloc (.cells #[z0] t (0, 0))).setCell ⟨w.heap.size, 0, none⟩ v0) := by simpa [List.set_append_right] using h0.set bs.length (g := w.heap.size) (cs := #[z0]) (t := t) (by simp) 0 v0
  exact h1
/-- A new block, and what is laid into it at once. -/
theorem Own.new2 {w0 w : World} {bs : List (Nat × Obj)} (h : Own w0 bs w) {z0 z1 v0 v1 : Value} {t : TypeId} : Own w0 (bs ++ [(w.heap.size, .cells #[v0, v1] t (0, 0))]) (((w.alloc (.cells #[z0, z1] t (0, 0))).setCell ⟨w.heap.size, 0, none⟩ v0).setCell ⟨w.heap.size, 1, none⟩ v1) := by
  have h0 := h.alloc (.cells #[z0, z1] t (0, 0))
  have h1 : Own w0 (bs ++ [(w.heap.size, .cells #[v0, z1] t (0, 0))]) ((w.alloc (.cells #[z0, z1] t (0, 0))).setCell ⟨w.heap.size, 0, none⟩ v0) := by simpa [List.set_append_right] using h0.set bs.length (g := w.heap.size) (cs := #[z0, z1]) (t := t) (by simp) 0 v0
  have h2 : Own w0 (bs ++ [(w.heap.size, .cells #[v0, v1] t (0, 0))]) (((w.alloc (.cells #[z0, z1] t (0, 0))).setCell ⟨w.heap.size, 0, none⟩ v0).setCell ⟨w.heap.size, 1, none⟩ v1) := by simpa [List.set_append_right] using h1.set bs.length (g := w.heap.size) (cs := #[v0, z1]) (t := t) (by simp) 1 v1
  exact h2
/-- A new block, and what is laid into it at once. -/
theorem Own.new3 {w0 w : World} {bs : List (Nat × Obj)} (h : Own w0 bs w) {z0 z1 z2 v0 v1 v2 : Value} {t : TypeId} : Own w0 (bs ++ [(w.heap.size, .cells #[v0, v1, v2] t (0, 0))]) ((((w.alloc (.cells #[z0, z1, z2] t (0, 0))).setCell ⟨w.heap.size, 0, none⟩ v0).setCell ⟨w.heap.size, 1, none⟩ v1).setCell ⟨w.heap.size, 2, none⟩ v2) := by
  have h0 := h.alloc (.cells #[z0, z1, z2] t (0, 0))
  have h1 : Own w0 (bs ++ [(w.heap.size, .cells #[v0, z1, z2] t (0, 0))]) ((w.alloc (.cells #[z0, z1, z2] t (0, 0))).setCell ⟨w.heap.size, 0, none⟩ v0) := by simpa [List.set_append_right] using h0.set bs.length (g := w.heap.size) (cs := #[z0, z1, z2]) (t := t) (by simp) 0 v0
  have h2 : Own w0 (bs ++ [(w.heap.size, .cells #[v0, v1, z2] t (0, 0))]) (((w.alloc (.cells #[z0, z1, z2] t (0, 0))).setCell ⟨w.heap.size, 0, none⟩ v0).setCell ⟨w.heap.size, 1, none⟩ v1) := by simpa [List.set_append_right] using h1.set bs.length (g := w.heap.size) (cs := #[v0, z1, z2]) (t := t) (by simp) 1 v1
  have h3 : Own w0 (bs ++ [(w.heap.size, .cells #[v0, v1, v2] t (0, 0))]) ((((w.alloc (.cells #[z0, z1, z2] t (0, 0))).setCell ⟨w.heap.size, 0, none⟩ v0).setCell ⟨w.heap.size, 1, none⟩ v1).setCell ⟨w.heap.size, 2, none⟩ v2) := by simpa [List.set_append_right] using h2.set bs.length (g := w.heap.size) (cs := #[v0, v1, z2]) (t := t) (by simp) 2 v2
  exact h3
/-- A new block, and what is laid into it at once. -/
theorem Own.new4 {w0 w : World} {bs : List (Nat × Obj)} (h : Own w0 bs w) {z0 z1 z2 z3 v0 v1 v2 v3 : Value} {t : TypeId} : Own w0 (bs ++ [(w.heap.size, .cells #[v0, v1, v2, v3] t (0, 0))]) (((((w.alloc (.cells #[z0, z1, z2, z3] t (0, 0))).setCell ⟨w.heap.size, 0, none⟩ v0).setCell ⟨w.heap.size, 1, none⟩ v1).setCell ⟨w.heap.size, 2, none⟩ v2).setCell ⟨w.heap.size, 3, none⟩ v3) := by
  have h0 := h.alloc (.cells #[z0, z1, z2, z3] t (0, 0))
  have h1 : Own w0 (bs ++ [(w.heap.size, .cells #[v0, z1, z2, z3] t (0, 0))]) ((w.alloc (.cells #[z0, z1, z2, z3] t (0, 0))).setCell ⟨w.heap.size, 0, none⟩ v0) := by simpa [List.set_append_right] using h0.set bs.length (g := w.heap.size) (cs := #[z0, z1, z2, z3]) (t := t) (by simp) 0 v0
  have h2 : Own w0 (bs ++ [(w.heap.size, .cells #[v0, v1, z2, z3] t (0, 0))]) (((w.alloc (.cells #[z0, z1, z2, z3] t (0, 0))).setCell ⟨w.heap.size, 0, none⟩ v0).setCell ⟨w.heap.size, 1, none⟩ v1) := by simpa [List.set_append_right] using h1.set bs.length (g := w.heap.size) (cs := #[v0, z1, z2, z3]) (t := t) (by simp) 1 v1
  have h3 : Own w0 (bs ++ [(w.heap.size, .cells #[v0, v1, v2, z3] t (0, 0))]) ((((w.alloc (.cells #[z0, z1, z2, z3] t (0, 0))).setCell ⟨w.heap.size, 0, none⟩ v0).setCell ⟨w.heap.size, 1, none⟩ v1).setCell ⟨w.heap.size, 2, none⟩ v2) := by simpa [List.set_append_right] using h2.set bs.length (g := w.heap.size) (cs := #[v0, v1, z2, z3]) (t := t) (by simp) 2 v2
  have h4 : Own w0 (bs ++ [(w.heap.size, .cells #[v0, v1, v2, v3] t (0, 0))]) (((((w.alloc (.cells #[z0, z1, z2, z3] t (0, 0))).setCell ⟨w.heap.size, 0, none⟩ v0).setCell ⟨w.heap.size, 1, none⟩ v1).setCell ⟨w.heap.size, 2, none⟩ v2).setCell ⟨w.heap.size, 3, none⟩ v3) := by simpa [List.set_append_right] using h3.set bs.length (g := w.heap.size) (cs := #[v0, v1, v2, z3]) (t := t) (by simp) 3 v3
  exact h4
/-- A new block, and what is laid into it at once. -/
theorem Own.new5 {w0 w : World} {bs : List (Nat × Obj)} (h : Own w0 bs w) {z0 z1 z2 z3 z4 v0 v1 v2 v3 v4 : Value} {t : TypeId} : Own w0 (bs ++ [(w.heap.size, .cells #[v0, v1, v2, v3, v4] t (0, 0))]) ((((((w.alloc (.cells #[z0, z1, z2, z3, z4] t (0, 0))).setCell ⟨w.heap.size, 0, none⟩ v0).setCell ⟨w.heap.size, 1, none⟩ v1).setCell ⟨w.heap.size, 2, none⟩ v2).setCell ⟨w.heap.size, 3, none⟩ v3).setCell ⟨w.heap.size, 4, none⟩ v4) := by
  have h0 := h.alloc (.cells #[z0, z1, z2, z3, z4] t (0, 0))
  have h1 : Own w0 (bs ++ [(w.heap.size, .cells #[v0, z1, z2, z3, z4] t (0, 0))]) ((w.alloc (.cells #[z0, z1, z2, z3, z4] t (0, 0))).setCell ⟨w.heap.size, 0, none⟩ v0) := by simpa [List.set_append_right] using h0.set bs.length (g := w.heap.size) (cs := #[z0, z1, z2, z3, z4]) (t := t) (by simp) 0 v0
  have h2 : Own w0 (bs ++ [(w.heap.size, .cells #[v0, v1, z2, z3, z4] t (0, 0))]) (((w.alloc (.cells #[z0, z1, z2, z3, z4] t (0, 0))).setCell ⟨w.heap.size, 0, none⟩ v0).setCell ⟨w.heap.size, 1, none⟩ v1) := by simpa [List.set_append_right] using h1.set bs.length (g := w.heap.size) (cs := #[v0, z1, z2, z3, z4]) (t := t) (by simp) 1 v1
  have h3 : Own w0 (bs ++ [(w.heap.size, .cells #[v0, v1, v2, z3, z4] t (0, 0))]) ((((w.alloc (.cells #[z0, z1, z2, z3, z4] t (0, 0))).setCell ⟨w.heap.size, 0, none⟩ v0).setCell ⟨w.heap.size, 1, none⟩ v1).setCell ⟨w.heap.size, 2, none⟩ v2) := by simpa [List.set_append_right] using h2.set bs.length (g := w.heap.size) (cs := #[v0, v1, z2, z3, z4]) (t := t) (by simp) 2 v2
  have h4 : Own w0 (bs ++ [(w.heap.size, .cells #[v0, v1, v2, v3, z4] t (0, 0))]) (((((w.alloc (.cells #[z0, z1, z2, z3, z4] t (0, 0))).setCell ⟨w.heap.size, 0, none⟩ v0).setCell ⟨w.heap.size, 1, none⟩ v1).setCell ⟨w.heap.size, 2, none⟩ v2).setCell ⟨w.heap.size, 3, none⟩ v3) := by simpa [List.set_append_right] using h3.set bs.length (g := w.heap.size) (cs := #[v0, v1, v2, z3, z4]) (t := t) (by simp) 3 v3
  have h5 : Own w0 (bs ++ [(w.heap.size, .cells #[v0, v1, v2, v3, v4] t (0, 0))]) ((((((w.alloc (.cells #[z0, z1, z2, z3, z4] t (0, 0))).setCell ⟨w.heap.size, 0, none⟩ v0).setCell ⟨w.heap.size, 1, none⟩ v1).setCell ⟨w.heap.size, 2, none⟩ v2).setCell ⟨w.heap.size, 3, none⟩ v3).setCell ⟨w.heap.size, 4, none⟩ v4) := by simpa [List.set_append_right] using h4.set bs.length (g := w.heap.size) (cs := #[v0, v1, v2, v3, z4]) (t := t) (by simp) 4 v4
  exact h5
theorem size_alloc_ (w : World) (o : Obj) : (w.alloc o).heap.size = w.heap.size + 1 := by unfold World.alloc; simp
theorem Own.alloc_at {w0 w : World} {bs : List (Nat × Obj)} (h : Own w0 bs w) {n : Nat} (e : w.heap.size = n) (o : Obj) : Own w0 (bs ++ [(n, o)]) (w.alloc o) ∧ (w.alloc o).heap.size = n + 1 := ⟨e ▸ h.alloc o, by rw [size_alloc_, e]⟩
theorem Own.boxes1 (w : World) {o0 : Obj} : Own w [(w.heap.size, o0)] (w.alloc o0) := by
  have h0 := (Own.start w).alloc_at rfl o0
  exact h0.1
theorem Own.boxes2 (w : World) {o0 o1 : Obj} : Own w [(w.heap.size, o0), (w.heap.size + 1, o1)] ((w.alloc o0).alloc o1) := by
  have h0 := (Own.start w).alloc_at rfl o0
  have h1 := h0.1.alloc_at h0.2 o1
  exact h1.1
theorem Own.boxes3 (w : World) {o0 o1 o2 : Obj} : Own w [(w.heap.size, o0), (w.heap.size + 1, o1), (w.heap.size + 1 + 1, o2)] (((w.alloc o0).alloc o1).alloc o2) := by
  have h0 := (Own.start w).alloc_at rfl o0
  have h1 := h0.1.alloc_at h0.2 o1
  have h2 := h1.1.alloc_at h1.2 o2
  exact h2.1
theorem Own.boxes4 (w : World) {o0 o1 o2 o3 : Obj} : Own w [(w.heap.size, o0), (w.heap.size + 1, o1), (w.heap.size + 1 + 1, o2), (w.heap.size + 1 + 1 + 1, o3)] ((((w.alloc o0).alloc o1).alloc o2).alloc o3) := by
  have h0 := (Own.start w).alloc_at rfl o0
  have h1 := h0.1.alloc_at h0.2 o1
  have h2 := h1.1.alloc_at h1.2 o2
  have h3 := h2.1.alloc_at h2.2 o3
  exact h3.1
theorem Own.boxes5 (w : World) {o0 o1 o2 o3 o4 : Obj} : Own w [(w.heap.size, o0), (w.heap.size + 1, o1), (w.heap.size + 1 + 1, o2), (w.heap.size + 1 + 1 + 1, o3), (w.heap.size + 1 + 1 + 1 + 1, o4)] (((((w.alloc o0).alloc o1).alloc o2).alloc o3).alloc o4) := by
  have h0 := (Own.start w).alloc_at rfl o0
  have h1 := h0.1.alloc_at h0.2 o1
  have h2 := h1.1.alloc_at h1.2 o2
  have h3 := h2.1.alloc_at h2.2 o3
  have h4 := h3.1.alloc_at h3.2 o4
  exact h4.1
theorem Own.boxes6 (w : World) {o0 o1 o2 o3 o4 o5 : Obj} : Own w [(w.heap.size, o0), (w.heap.size + 1, o1), (w.heap.size + 1 + 1, o2), (w.heap.size + 1 + 1 + 1, o3), (w.heap.size + 1 + 1 + 1 + 1, o4), (w.heap.size + 1 + 1 + 1 + 1 + 1, o5)] ((((((w.alloc o0).alloc o1).alloc o2).alloc o3).alloc o4).alloc o5) := by
  have h0 := (Own.start w).alloc_at rfl o0
  have h1 := h0.1.alloc_at h0.2 o1
  have h2 := h1.1.alloc_at h1.2 o2
  have h3 := h2.1.alloc_at h2.2 o3
  have h4 := h3.1.alloc_at h3.2 o4
  have h5 := h4.1.alloc_at h4.2 o5
  exact h5.1
theorem Own.boxes7 (w : World) {o0 o1 o2 o3 o4 o5 o6 : Obj} : Own w [(w.heap.size, o0), (w.heap.size + 1, o1), (w.heap.size + 1 + 1, o2), (w.heap.size + 1 + 1 + 1, o3), (w.heap.size + 1 + 1 + 1 + 1, o4), (w.heap.size + 1 + 1 + 1 + 1 + 1, o5), (w.heap.size + 1 + 1 + 1 + 1 + 1 + 1, o6)] (((((((w.alloc o0).alloc o1).alloc o2).alloc o3).alloc o4).alloc o5).alloc o6) := by
  have h0 := (Own.start w).alloc_at rfl o0
  have h1 := h0.1.alloc_at h0.2 o1
  have h2 := h1.1.alloc_at h1.2 o2
  have h3 := h2.1.alloc_at h2.2 o3
  have h4 := h3.1.alloc_at h3.2 o4
  have h5 := h4.1.alloc_at h4.2 o5
  have h6 := h5.1.alloc_at h5.2 o6
  exact h6.1
theorem Own.boxes8 (w : World) {o0 o1 o2 o3 o4 o5 o6 o7 : Obj} : Own w [(w.heap.size, o0), (w.heap.size + 1, o1), (w.heap.size + 1 + 1, o2), (w.heap.size + 1 + 1 + 1, o3), (w.heap.size + 1 + 1 + 1 + 1, o4), (w.heap.size + 1 + 1 + 1 + 1 + 1, o5), (w.heap.size + 1 + 1 + 1 + 1 + 1 + 1, o6), (w.heap.size + 1 + 1 + 1 + 1 + 1 + 1 + 1, o7)] ((((((((w.alloc o0).alloc o1).alloc o2).alloc o3).alloc o4).alloc o5).alloc o6).alloc o7) := by
  have h0 := (Own.start w).alloc_at rfl o0
  have h1 := h0.1.alloc_at h0.2 o1
  have h2 := h1.1.alloc_at h1.2 o2
  have h3 := h2.1.alloc_at h2.2 o3
  have h4 := h3.1.alloc_at h3.2 o4
  have h5 := h4.1.alloc_at h4.2 o5
  have h6 := h5.1.alloc_at h5.2 o6
  have h7 := h6.1.alloc_at h6.2 o7
  exact h7.1
theorem Own.less {w0 w : World} {bs : List (Nat × Obj)} {x : Nat × Obj} (h : Own w0 (bs ++ [x]) w) : Own w0 bs w := by
  refine ⟨h.below, fun i g o e => h.at_ i g o ?_, ?_⟩
  · rw [List.getElem?_append_left (List.getElem?_eq_some_iff.1 e).1]; exact e
  · have := h.apart
    rw [List.map_append, List.pairwise_append] at this
    exact this.1
theorem calls_below {P : Program} {f : FuncId} {a : Array Value} {W : World} {v : Ending} (h : Calls P f a W fun e w' => e = v ∧ Drawn0 W w') : Calls P f a W fun e w' => e = v ∧ Below W.heap.size W w' := h.mono fun _ _ ⟨e1, nd, e2⟩ => ⟨e1, by subst e2; exact pw_below_drewN (Below.refl _ _) nd⟩
/-! litc: a row laid at once; what a state's block leaves alone -/
theorem lit_C (w : World) (xs : List Int) (t : TypeId) (h : xs.length ≤ 9223372036854775807) : Kd.C (Kd.int .i64) (w.alloc (.cells (xs.map (Value.int .i64)).toArray t (0, 0))) (some ⟨w.heap.size, 0, none⟩) xs.length xs := by
  refine Kd.C_of_reads (d := 0) ⟨rfl, h, fun _ => ⟨_, rfl, fun j hj => ?_⟩⟩
  have z := blk_cell (blk_new w (.cells (xs.map (Value.int .i64)).toArray t (0, 0))) j
  have e : (⟨w.heap.size, 0, none⟩ : Addr).add j = ⟨w.heap.size, j, none⟩ := by simp [Addr.add] <;> omega
  rw [e, z]
  simp [hj]
theorem kept_blk {w w' : World} {g g' : Nat} {o : Obj} (z : Aside0 (w.heap[g']? = some o)) (hk : KeepBut w w' g none) (n : g' ≠ g) : Aside0 (w'.heap[g']? = some o) := ⟨(hk.2 g' (blk_lt z.out) n (by simp)).trans z.out⟩
theorem alloc_blk {w : World} {g' : Nat} {o o' : Obj} (z : Aside0 (w.heap[g']? = some o)) : Aside0 ((w.alloc o').heap[g']? = some o) := ⟨blk_alloc z.out o'⟩
set_option maxHeartbeats 60000000 in
set_option maxRecDepth 100000 in
theorem walkV (k : Nat) (a0 a1 a2 a3 a4 a5 a6 a7 a8 a9 cn tn oc hf sk wl st md : Int) (ok one five seven nine : Bool) (w : World) (al : Nat → Int)
  (A1 : impl_StrokesBetween.f k a0 a1 a2 = some (cn, ok))
  (A2 : spec_StrokesBetween.f k a0 a1 a2 = some (cn, ok))
  (A3 : impl_StrokesOfTurn.f a0 = some (tn, one))
  (A4 : spec_StrokesOfTurn.f a0 = some (tn, one))
  (A5 : impl_CountHeardOnce.f k a0 = some (oc, one))
  (A6 : spec_CountHeardOnce.f k a0 = some (oc, one))
  (B1 : ok = true → one = true)
  (B2 : ok = true → a1 ≤ a2 → wrap64 (2 * a0) ≠ 0 ∧ ∃ ls, impl_StrokesAt.f a0 (Int.tmod a2 (wrap64 (2 * a0))) = some (ls, true) ∧ (a1 < a2 → ∃ xx, impl_StrokesBetween.f k a0 a1 (wrap64 (a2 - 1)) = some (xx, true) ∧ wrap64 (xx + ls) = cn) ∧ (¬ a1 < a2 → wrap64 ls = cn))
  (B3 : one = true → impl_StrokesBetween.f k a0 0 (wrap64 (wrap64 (2 * a0) - 1)) = some (tn, true) ∧ tn = wrap64 (wrap64 (Int.tdiv (wrap64 (a0 * wrap64 (a0 + 1))) 2) + a0) ∧ (1 ≤ a0 ∧ a0 ≤ 1000) ∧ al 0 = 0 ∧ al a0.toNat = oc ∧ ∀ i : Nat, (i : Int) < a0 → ∃ l : List Int, impl_HalvesOfHeard.f k a0 [(i : Int) + 1] = some (l, true) ∧ al (i + 1) = (if (l.length : Int) = 1 then wrap64 (al i + 1) else al i))
  (A7 : impl_StrokeNumber.f k a3 a4 = some (hf, sk, five))
  (A8 : spec_StrokeNumber.f k a3 a4 = some (hf, sk, five))
  (A9 : impl_HalfOfWheel.f k a5 a6 = some (wl, seven))
  (A10 : spec_HalfOfWheel.f k a5 a6 = some (wl, seven))
  (B4 : five = true → hf ≤ 1000000 → wrap64 (2 * a3) ≠ 0 ∧ ∃ ss uu, impl_StrokesAt.f a3 (Int.tmod hf (wrap64 (2 * a3))) = some (ss, true) ∧ impl_StrokesBetween.f k a3 0 hf = some (uu, true) ∧ ¬ sk < 1 ∧ ¬ sk > ss ∧ wrap64 (wrap64 (uu - ss) + sk) = a4)
  (B5 : seven = true → a6 > 0 → ∃ tp, impl_StrokesAt.f a5 0 = some (tp, true) ∧ (a6 ≤ wrap64 (1000000000 - tp) → ∃ at_ zz, impl_StrokeNumber.f k a5 (wrap64 (a6 + tp)) = some (at_, zz, true) ∧ wrap64 (2 * a5) ≠ 0 ∧ Int.tmod at_ (wrap64 (2 * a5)) = wl))
  (A11 : impl_StepsBack.f a7 a8 a9 = some (st, nine))
  (A12 : spec_StepsBack.f a7 a8 a9 = some (st, nine))
  (A13 : impl_StrokesToMend.f k a7 a8 a9 = some (md, nine))
  (A14 : spec_StrokesToMend.f k a7 a8 a9 = some (md, nine))
  (B6 : nine = true → ¬ st < 0 ∧ ¬ st ≥ wrap64 (2 * a7) ∧ wrap64 (2 * a7) ≠ 0 ∧ Int.tmod (wrap64 (a9 + st)) (wrap64 (2 * a7)) = a8 ∧ (st > 0 → impl_StrokesBetween.f k a7 (wrap64 (a9 + 1)) (wrap64 (a9 + st)) = some (md, true)) ∧ (¬ st > 0 → md = 0)) :
    Calls Try.prog 3 #[.int .i64 a0, .int .i64 a1, .int .i64 a2, .int .i64 a3, .int .i64 a4, .int .i64 a5, .int .i64 a6, .int .i64 a7, .int .i64 a8, .int .i64 a9] w fun e w' => e = .returned (.bool true) ∧ Below w.heap.size w w' := by
  have K1 := fun W => impl_StrokesBetween.calls k a0 a1 a2 cn ok W A1
  have K2 := fun W => calls_below (spec_StrokesBetween.calls k a0 a1 a2 cn ok W A2)
  have K3 := fun W => calls_below (impl_StrokesOfTurn.calls a0 tn one W A3)
  have K4 := fun W => calls_below (spec_StrokesOfTurn.calls a0 tn one W A4)
  have K5 := fun W => impl_CountHeardOnce.calls k a0 oc one W A5
  have K6 := fun W => spec_CountHeardOnce.calls k a0 oc one W A6
  have K7 := fun W => calls_below (impl_StrokeNumber.calls k a3 a4 hf sk five W A7)
  have K8 := fun W => calls_below (spec_StrokeNumber.calls k a3 a4 hf sk five W A8)
  have K9 := fun W => calls_below (impl_HalfOfWheel.calls k a5 a6 wl seven W A9)
  have K10 := fun W => calls_below (spec_HalfOfWheel.calls k a5 a6 wl seven W A10)
  have K11 := fun W => calls_below (impl_StepsBack.calls a7 a8 a9 st nine W A11)
  have K12 := fun W => calls_below (spec_StepsBack.calls a7 a8 a9 st nine W A12)
  have K13 := fun W => calls_below (impl_StrokesToMend.calls k a7 a8 a9 md nine W A13)
  have K14 := fun W => calls_below (spec_StrokesToMend.calls k a7 a8 a9 md nine W A14)
  replace B1 := Aside0.mk B1
  replace B2 := Aside0.mk B2
  replace B3 := Aside0.mk B3
  replace B4 := Aside0.mk B4
  replace B5 := Aside0.mk B5
  replace B6 := Aside0.mk B6
  clear A1 A2 A3 A4 A5 A6 A7 A8 A9 A10 A11 A12 A13 A14
  go_enter Try.func3, Try.ntmps3
  go_upto_region 1 with (fail)
  have HO := Own.start w
  go_upto_region 2 with (first | (go_at_call 4; refine (K1 _).mono ?_; rintro e w1a ⟨rfl, hb⟩; replace HO := HO.call hb; clear hb))
  refine Own.gen HO ?_; clear HO; intro w1 HO; clear w1a
  go_upto_region 3 with (first | (go_at_call 5; refine (K2 _).mono ?_; rintro e w2a ⟨rfl, hb⟩; replace HO := HO.call hb; clear hb))
  refine Own.gen HO ?_; clear HO; intro w2 HO; clear w2a
  go_upto_region 4 with (first | (go_at_call 6; refine (K3 _).mono ?_; rintro e w3a ⟨rfl, hb⟩; replace HO := HO.call hb; clear hb))
  refine Own.gen HO ?_; clear HO; intro w3 HO; clear w3a
  go_upto_region 5 with (first | (go_at_call 7; refine (K4 _).mono ?_; rintro e w4a ⟨rfl, hb⟩; replace HO := HO.call hb; clear hb))
  refine Own.gen HO ?_; clear HO; intro w4 HO; clear w4a
  go_upto_region 6 with (first | (go_at_call 8; refine (K5 _).mono ?_; rintro e w5a ⟨rfl, hb⟩; replace HO := HO.call hb; clear hb))
  refine Own.gen HO ?_; clear HO; intro w5 HO; clear w5a
  go_upto_region 7 with (first | (go_at_call 9; refine (K6 _).mono ?_; rintro e w6a ⟨rfl, hb⟩; replace HO := HO.call hb; clear hb))
  refine Own.gen HO ?_; clear HO; intro w6 HO; clear w6a
  clear K1 K2 K3 K4 K5 K6
  go_cut [146] (fun v146 wc => v146 = .bool false ∧ Own w [] wc)
  case first =>
    as_aux_lemma =>
      cases ok with
      | false => cases one <;> (go_wp2; go_meet; exact ⟨by first | rfl | simp, HO⟩)
      | true =>
        obtain rfl : one = true := B1.out rfl
        go_wp2; go_meet
        exact ⟨by first | rfl | simp, HO⟩
  case rest =>
    as_aux_lemma =>
      clear HO; obtain ⟨rfl, HO⟩ := hcut
      revert HO; generalize wc = w7; intro HO
      go_upto_region 9 with (fail)
      obtain ⟨q152, hq152⟩ : ∃ q, q = (ok && decide (a1 ≤ a2)) := ⟨_, rfl⟩
      replace hq152 := Aside0.mk hq152
      go_cut [152] (fun v152 wc => v152 = .bool q152 ∧ Own w [] wc)
      case first =>
        as_aux_lemma =>
          cases ok
          all_goals (go_wp2; go_meet)
          all_goals exact ⟨by rw [hq152.out]; first | rfl | simp, HO⟩
      case rest =>
        as_aux_lemma =>
          clear HO; obtain ⟨rfl, HO⟩ := hcut
          revert HO; generalize wc = w8; intro HO
          go_upto_if 152 with (fail)
          go_cut [] (fun wc => Own w [] wc)
          case first =>
            as_aux_lemma =>
              cases q152 with
              | false =>
                as_aux_lemma =>
                  go_wp2
                  go_meet
                  exact HO
              | true =>
                as_aux_lemma =>
                  have hq := hq152.out; simp only [Bool.true_eq, Bool.and_eq_true, decide_eq_true_eq] at hq
                  obtain ⟨M0, ls, M1, M2, M3⟩ := B2.out hq.1 hq.2; replace M2 := Aside0.mk M2; replace M3 := Aside0.mk M3; clear hq hq152
                  have L1 := fun W => calls_below (impl_StrokesAt.calls a0 (Int.tmod a2 (wrap64 (2 * a0))) ls true W M1)
                  have N0 : ((wrap64 (2 * a0)) == 0) = false := beq_eq_false_iff_ne.mpr M0
                  have N0b : ((wrap64 (2 * a0)) != 0) = true := bne_iff_ne.mpr M0; have N0c : ((wrap64 (2 * a0)) = 0) = False := eq_false M0
                  clear M0 M1
                  go_upto_region 10 with (fail)
                  go_upto_region 11 with (first | (go_at_call 10; refine (L1 _).mono ?_; rintro e w9a ⟨rfl, hb⟩; replace HO := HO.call hb; clear hb))
                  refine Own.gen HO ?_; clear HO; intro w9 HO; clear w9a
                  clear L1 N0 N0b N0c
                  go_upto_region 12 with (fail)
                  by_cases lt : a1 < a2
                  · as_aux_lemma =>
                    obtain ⟨xx, E1, E2⟩ := M2.out lt; have N1 : decide (a1 < a2) = true := decide_eq_true lt; clear lt M2 M3
                    have L2 := fun W => impl_StrokesBetween.calls k a0 a1 (wrap64 (a2 - 1)) xx true W E1
                    have N2a : ((wrap64 (xx + ls)) == (cn)) = true := beq_iff_eq.mpr E2
                    have N2b : ((wrap64 (xx + ls)) != (cn)) = false := bne_eq_false_iff_eq.mpr E2
                    clear E1 E2
                    go_upto_region 13 with (fail)
                    go_upto_region 14 with (first | (go_at_call 4; refine (L2 _).mono ?_; rintro e w10a ⟨rfl, hb⟩; replace HO := HO.call hb; clear hb))
                    refine Own.gen HO ?_; clear HO; intro w10 HO; clear w10a
                    go_wp2
                    go_meet
                    exact HO
                  · as_aux_lemma =>
                    have E2 := M3.out (by omega); have N1 : decide (a1 < a2) = false := decide_eq_false lt; clear lt M2 M3
                    have N2a : ((wrap64 ls) == (cn)) = true := beq_iff_eq.mpr E2
                    have N2b : ((wrap64 ls) != (cn)) = false := bne_eq_false_iff_eq.mpr E2
                    clear E2
                    go_wp2
                    go_meet
                    exact HO
          case rest =>
            as_aux_lemma =>
              clear HO; have HO := hcut; clear hcut
              revert HO; generalize wc = w9; intro HO
              go_upto_if 185 with (fail)
              go_cut [] (fun wc => Own w [] wc)
              case first =>
                as_aux_lemma =>
                  cases one with
                  | false =>
                    as_aux_lemma =>
                      go_wp2
                      go_meet
                      exact HO
                  | true =>
                    as_aux_lemma =>
                      obtain ⟨M1, M2, M3, M4, M5, M6⟩ := B3.out rfl; replace M3 := Aside0.mk M3; replace M6 := Aside0.mk M6; replace M4 := Aside0.mk M4; replace M5 := Aside0.mk M5
                      have L1 := fun W => impl_StrokesBetween.calls k a0 0 (wrap64 (wrap64 (2 * a0) - 1)) tn true W M1
                      have N1a : ((tn) == (wrap64 (wrap64 (Int.tdiv (wrap64 (a0 * wrap64 (a0 + 1))) 2) + a0))) = true := beq_iff_eq.mpr M2
                      have N1b : ((tn) != (wrap64 (wrap64 (Int.tdiv (wrap64 (a0 * wrap64 (a0 + 1))) 2) + a0))) = false := bne_eq_false_iff_eq.mpr M2
                      clear M1 M2
                      go_upto_region 20 with (fail)
                      go_upto_region 21 with (first | (go_at_call 4; refine (L1 _).mono ?_; rintro e w10a ⟨rfl, hb⟩; replace HO := HO.call hb; clear hb))
                      refine Own.gen HO ?_; clear HO; intro w10 HO; clear w10a
                      clear L1
                      go_wp2
                      clear N1a N1b
                      go_loopg [40, 41] a0.toNat (fun kq v40 v41 w' => ∃ i : Nat, kq + i = a0.toNat ∧ v40 = .int .i64 (al i) ∧ v41 = .int .i64 ((i : Int) + 1) ∧ Own w [] w')
                      case atStart => exact ⟨0, by simp, by rw [M4.out], by simp, HO⟩
                      case round =>
                        as_aux_lemma =>
                          clear HO; obtain ⟨i, ei, rfl, rfl, HO⟩ := hrel; have M := M3.out
                          by_cases lt : (i : Int) + 1 ≤ a0
                          · as_aux_lemma =>
                            obtain ⟨l, H1, H2⟩ := M6.out i (by omega); replace H2 := Aside0.mk H2; have N1 : decide ((i : Int) + 1 ≤ a0) = true := decide_eq_true lt
                            have C1 := fun w2 => impl_HalvesOfHeard.calls k a0 (some ⟨w2.heap.size, 0, none⟩) 1 [(i : Int) + 1] l true (w2.alloc _) (lit_C w2 [(i : Int) + 1] 3 (by simp)) (by simp) H1
                            clear H1
                            have EI := Aside0.mk ei; have LT := Aside0.mk lt; clear ei lt
                            by_cases c1 : (l.length : Int) = 1
                            · as_aux_lemma =>
                              have N2 : ((l.length : Int) == 1) = true := beq_iff_eq.mpr c1
                              go_wp2_with (first | (go_at_call 11; refine (C1 _).mono ?_; rintro e w' ⟨v0, rfl, hR, hb⟩; obtain ⟨Ao, co, eo⟩ := Kd.R_slice hR; subst eo; replace HO := (Own.less (HO.alloc _)).call hb; clear hb hR C1))
                              go_roundg (gk - 1)
                              case measure => have := EI.out; have := LT.out; have := M3.out; omega
                              case rel => exact ⟨i + 1, by have := EI.out; have := LT.out; have := M3.out; omega, by rw [H2.out, if_pos c1], by (have := M3.out; have := LT.out; rw [show wrap64 ((i : Int) + 1 + 1) = ((i + 1 : Nat) : Int) + 1 by unfold wrap64; omega]), HO⟩
                            · as_aux_lemma =>
                              have N2 : ((l.length : Int) == 1) = false := beq_eq_false_iff_ne.mpr c1
                              go_wp2_with (first | (go_at_call 11; refine (C1 _).mono ?_; rintro e w' ⟨v0, rfl, hR, hb⟩; obtain ⟨Ao, co, eo⟩ := Kd.R_slice hR; subst eo; replace HO := (Own.less (HO.alloc _)).call hb; clear hb hR C1))
                              go_roundg (gk - 1)
                              case measure => have := EI.out; have := LT.out; have := M3.out; omega
                              case rel => exact ⟨i + 1, by have := EI.out; have := LT.out; have := M3.out; omega, by rw [H2.out, if_neg c1], by (have := M3.out; have := LT.out; rw [show wrap64 ((i : Int) + 1 + 1) = ((i + 1 : Nat) : Int) + 1 by unfold wrap64; omega]), HO⟩
                          · as_aux_lemma =>
                            have N1 : decide ((i : Int) + 1 ≤ a0) = false := decide_eq_false lt; obtain rfl : i = a0.toNat := by omega
                            have N2a : ((al a0.toNat) == (oc)) = true := beq_iff_eq.mpr M5.out
                            have N2b : ((al a0.toNat) != (oc)) = false := bne_eq_false_iff_eq.mpr M5.out
                            clear lt ei M
                            go_wp2
                            go_meet
                            exact HO
              case rest =>
                as_aux_lemma =>
                  clear HO; have HO := hcut; clear hcut
                  revert HO; generalize wc = w10; intro HO
                  go_upto_region 34 with (fail)
                  go_upto_region 35 with (first | (go_at_call 12; refine (K7 _).mono ?_; rintro e w11a ⟨rfl, hb⟩; replace HO := HO.call hb; clear hb))
                  refine Own.gen HO ?_; clear HO; intro w11 HO; clear w11a
                  go_upto_region 36 with (first | (go_at_call 13; refine (K8 _).mono ?_; rintro e w12a ⟨rfl, hb⟩; replace HO := HO.call hb; clear hb))
                  refine Own.gen HO ?_; clear HO; intro w12 HO; clear w12a
                  go_upto_region 37 with (first | (go_at_call 14; refine (K9 _).mono ?_; rintro e w13a ⟨rfl, hb⟩; replace HO := HO.call hb; clear hb))
                  refine Own.gen HO ?_; clear HO; intro w13 HO; clear w13a
                  go_upto_region 38 with (first | (go_at_call 15; refine (K10 _).mono ?_; rintro e w14a ⟨rfl, hb⟩; replace HO := HO.call hb; clear hb))
                  refine Own.gen HO ?_; clear HO; intro w14 HO; clear w14a
                  clear K7 K8 K9 K10
                  go_upto_region 40 with (fail)
                  obtain ⟨q287, hq287⟩ : ∃ q, q = (five && decide (hf ≤ 1000000)) := ⟨_, rfl⟩
                  replace hq287 := Aside0.mk hq287
                  go_cut [287] (fun v287 wc => v287 = .bool q287 ∧ Own w [] wc)
                  case first =>
                    as_aux_lemma =>
                      cases five
                      all_goals (go_wp2; go_meet)
                      all_goals exact ⟨by rw [hq287.out]; first | rfl | simp, HO⟩
                  case rest =>
                    as_aux_lemma =>
                      clear HO; obtain ⟨rfl, HO⟩ := hcut
                      revert HO; generalize wc = w15; intro HO
                      go_upto_if 287 with (fail)
                      go_cut [] (fun wc => Own w [] wc)
                      case first =>
                        as_aux_lemma =>
                          cases q287 with
                          | false =>
                            as_aux_lemma =>
                              go_wp2
                              go_meet
                              exact HO
                          | true =>
                            as_aux_lemma =>
                              have hq := hq287.out; simp only [Bool.true_eq, Bool.and_eq_true, decide_eq_true_eq] at hq
                              obtain ⟨M0, ss, uu, M1, M2, M3, M4, M5⟩ := B4.out hq.1 hq.2; clear hq hq287
                              have L1 := fun W => calls_below (impl_StrokesAt.calls a3 (Int.tmod hf (wrap64 (2 * a3))) ss true W M1)
                              have L2 := fun W => impl_StrokesBetween.calls k a3 0 hf uu true W M2
                              have N0 : ((wrap64 (2 * a3)) == 0) = false := beq_eq_false_iff_ne.mpr M0
                              have N0b : ((wrap64 (2 * a3)) != 0) = true := bne_iff_ne.mpr M0; have N0c : ((wrap64 (2 * a3)) = 0) = False := eq_false M0
                              have N1 : decide (sk < 1) = false := decide_eq_false (by omega)
                              have N2 : decide (ss < sk) = false := decide_eq_false (by omega)
                              have N3 : decide (sk > ss) = false := decide_eq_false (by omega)
                              have N4a : ((wrap64 (wrap64 (uu - ss) + sk)) == (a4)) = true := beq_iff_eq.mpr M5
                              have N4b : ((wrap64 (wrap64 (uu - ss) + sk)) != (a4)) = false := bne_eq_false_iff_eq.mpr M5
                              clear M0 M1 M2 M3 M4 M5
                              go_upto_region 41 with (fail)
                              go_upto_region 42 with (first | (go_at_call 10; refine (L1 _).mono ?_; rintro e w16a ⟨rfl, hb⟩; replace HO := HO.call hb; clear hb))
                              refine Own.gen HO ?_; clear HO; intro w16 HO; clear w16a
                              go_upto_region 43 with (first | (go_at_call 4; refine (L2 _).mono ?_; rintro e w17a ⟨rfl, hb⟩; replace HO := HO.call hb; clear hb))
                              refine Own.gen HO ?_; clear HO; intro w17 HO; clear w17a
                              go_wp2
                              go_meet
                              exact HO
                      case rest =>
                        as_aux_lemma =>
                          clear HO; have HO := hcut; clear hcut
                          revert HO; generalize wc = w16; intro HO
                          go_upto_region 45 with (fail)
                          obtain ⟨q331, hq331⟩ : ∃ q, q = (seven && decide (a6 > 0)) := ⟨_, rfl⟩
                          replace hq331 := Aside0.mk hq331
                          go_cut [331] (fun v331 wc => v331 = .bool q331 ∧ Own w [] wc)
                          case first =>
                            as_aux_lemma =>
                              cases seven
                              all_goals (go_wp2; go_meet)
                              all_goals exact ⟨by rw [hq331.out]; first | rfl | simp, HO⟩
                          case rest =>
                            as_aux_lemma =>
                              clear HO; obtain ⟨rfl, HO⟩ := hcut
                              revert HO; generalize wc = w17; intro HO
                              go_upto_if 331 with (fail)
                              go_cut [] (fun wc => Own w [] wc)
                              case first =>
                                as_aux_lemma =>
                                  cases q331 with
                                  | false =>
                                    as_aux_lemma =>
                                      go_wp2
                                      go_meet
                                      exact HO
                                  | true =>
                                    as_aux_lemma =>
                                      have hq := hq331.out; simp only [Bool.true_eq, Bool.and_eq_true, decide_eq_true_eq] at hq
                                      obtain ⟨tp, M1, M2⟩ := B5.out hq.1 hq.2; replace M2 := Aside0.mk M2; clear hq hq331
                                      have L1 := fun W => calls_below (impl_StrokesAt.calls a5 0 tp true W M1)
                                      clear M1
                                      go_upto_region 46 with (fail)
                                      go_upto_region 47 with (first | (go_at_call 10; refine (L1 _).mono ?_; rintro e w18a ⟨rfl, hb⟩; replace HO := HO.call hb; clear hb))
                                      refine Own.gen HO ?_; clear HO; intro w18 HO; clear w18a
                                      clear L1
                                      by_cases lt : a6 ≤ wrap64 (1000000000 - tp)
                                      · as_aux_lemma =>
                                        obtain ⟨at_, zz, E1, E0, E2⟩ := M2.out lt; have N1 : decide (a6 ≤ wrap64 (1000000000 - tp)) = true := decide_eq_true lt
                                        have L2 := fun W => calls_below (impl_StrokeNumber.calls k a5 (wrap64 (a6 + tp)) at_ zz true W E1)
                                        have N0 : ((wrap64 (2 * a5)) == 0) = false := beq_eq_false_iff_ne.mpr E0
                                        have N0b : ((wrap64 (2 * a5)) != 0) = true := bne_iff_ne.mpr E0; have N0c : ((wrap64 (2 * a5)) = 0) = False := eq_false E0
                                        have N2a : ((Int.tmod at_ (wrap64 (2 * a5))) == (wl)) = true := beq_iff_eq.mpr E2
                                        have N2b : ((Int.tmod at_ (wrap64 (2 * a5))) != (wl)) = false := bne_eq_false_iff_eq.mpr E2
                                        clear lt M2 E1 E0 E2
                                        go_upto_region 48 with (fail)
                                        go_upto_region 49 with (first | (go_at_call 12; refine (L2 _).mono ?_; rintro e w19a ⟨rfl, hb⟩; replace HO := HO.call hb; clear hb))
                                        refine Own.gen HO ?_; clear HO; intro w19 HO; clear w19a
                                        go_wp2
                                        go_meet
                                        exact HO
                                      · as_aux_lemma =>
                                        have N1 : decide (a6 ≤ wrap64 (1000000000 - tp)) = false := decide_eq_false lt; clear lt M2
                                        go_wp2
                                        go_meet
                                        exact HO
                              case rest =>
                                as_aux_lemma =>
                                  clear HO; have HO := hcut; clear hcut
                                  revert HO; generalize wc = w18; intro HO
                                  go_upto_region 51 with (fail)
                                  go_upto_region 52 with (first | (go_at_call 16; refine (K11 _).mono ?_; rintro e w19a ⟨rfl, hb⟩; replace HO := HO.call hb; clear hb))
                                  refine Own.gen HO ?_; clear HO; intro w19 HO; clear w19a
                                  go_upto_region 53 with (first | (go_at_call 17; refine (K12 _).mono ?_; rintro e w20a ⟨rfl, hb⟩; replace HO := HO.call hb; clear hb))
                                  refine Own.gen HO ?_; clear HO; intro w20 HO; clear w20a
                                  go_upto_region 54 with (first | (go_at_call 18; refine (K13 _).mono ?_; rintro e w21a ⟨rfl, hb⟩; replace HO := HO.call hb; clear hb))
                                  refine Own.gen HO ?_; clear HO; intro w21 HO; clear w21a
                                  go_upto_region 55 with (first | (go_at_call 19; refine (K14 _).mono ?_; rintro e w22a ⟨rfl, hb⟩; replace HO := HO.call hb; clear hb))
                                  refine Own.gen HO ?_; clear HO; intro w22 HO; clear w22a
                                  clear K11 K12 K13 K14
                                  go_upto_region 57 with (fail)
                                  cases nine with
                                  | false =>
                                    as_aux_lemma =>
                                      go_wp2; go_ret; exact ⟨rfl, HO.below⟩
                                  | true =>
                                    as_aux_lemma =>
                                      obtain ⟨M1, M2, M3, M4, M5, M6⟩ := B6.out rfl; replace M5 := Aside0.mk M5; replace M6 := Aside0.mk M6
                                      have N0 : ((wrap64 (2 * a7)) == 0) = false := beq_eq_false_iff_ne.mpr M3
                                      have N0b : ((wrap64 (2 * a7)) != 0) = true := bne_iff_ne.mpr M3; have N0c : ((wrap64 (2 * a7)) = 0) = False := eq_false M3
                                      have N3a : ((Int.tmod (wrap64 (a9 + st)) (wrap64 (2 * a7))) == (a8)) = true := beq_iff_eq.mpr M4
                                      have N3b : ((Int.tmod (wrap64 (a9 + st)) (wrap64 (2 * a7))) != (a8)) = false := bne_eq_false_iff_eq.mpr M4
                                      have N1 : decide (st < 0) = false := decide_eq_false (by omega)
                                      have N2 : decide (st ≥ wrap64 (2 * a7)) = false := decide_eq_false (by omega)
                                      have N4 : decide (wrap64 (2 * a7) ≤ st) = false := decide_eq_false (by omega)
                                      clear M1 M2 M3 M4
                                      by_cases lt : st > 0
                                      · as_aux_lemma =>
                                        have E1 := M5.out lt; have N5 : decide (st > 0) = true := decide_eq_true lt; have N6 : decide (0 < st) = true := decide_eq_true lt
                                        have L1 := fun W => impl_StrokesBetween.calls k a7 (wrap64 (a9 + 1)) (wrap64 (a9 + st)) md true W E1
                                        clear lt M5 M6 E1
                                        go_upto_region 61 with (fail)
                                        go_upto_region 62 with (first | (go_at_call 4; refine (L1 _).mono ?_; rintro e w23a ⟨rfl, hb⟩; replace HO := HO.call hb; clear hb))
                                        refine Own.gen HO ?_; clear HO; intro w23 HO; clear w23a
                                        go_wp2; go_ret; exact ⟨rfl, HO.below⟩
                                      · as_aux_lemma =>
                                        have E1 := M6.out (by omega); have N5 : decide (st > 0) = false := decide_eq_false lt; have N6 : decide (0 < st) = false := decide_eq_false lt
                                        have N7a : ((md) == (0)) = true := beq_iff_eq.mpr E1
                                        have N7b : ((md) != (0)) = false := bne_eq_false_iff_eq.mpr E1
                                        clear lt M5 M6 E1
                                        go_wp2; go_ret; exact ⟨rfl, HO.below⟩
end Go.Proofs.Ytjalknehgfomlab.PFnStrokesCountedOfAll
