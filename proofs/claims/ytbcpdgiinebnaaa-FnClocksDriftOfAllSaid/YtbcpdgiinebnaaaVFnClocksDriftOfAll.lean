/- The walk of FnClocksDriftOfAll, directed: what its calls return is given, its tests are decided. Written by a program of this repo (wip/gen/lawgen.py, wip/law). -/
import Derived.Test.YtbcpdgiinebnaaaPFnClocksDriftOfAllx0
import Derived.Test.YtbcpdgiinebnaaaPFnClocksDriftOfAllx1
import Derived.Test.YtbcpdgiinebnaaaPFnClocksDriftOfAllx2
import Derived.Test.YtbcpdgiinebnaaaPFnClocksDriftOfAllx3
import Derived.Test.YtbcpdgiinebnaaaPFnClocksDriftOfAllx4
import Derived.Test.YtbcpdgiinebnaaaPFnClocksDriftOfAllx5
import Derived.Test.YtbcpdgiinebnaaaPFnClocksDriftOfAllx6
import Derived.Test.YtbcpdgiinebnaaaPFnClocksDriftOfAllx7
import Derived.Test.YtbcpdgiinebnaaaPFnClocksDriftOfAllx8
import Derived.Test.YtbcpdgiinebnaaaPFnClocksDriftOfAllx9
import Derived.Test.YtbcpdgiinebnaaaPFnClocksDriftOfAllx10
import Derived.Test.YtbcpdgiinebnaaaPFnClocksDriftOfAllx11
import Derived.Test.YtbcpdgiinebnaaaPFnClocksDriftOfAllx12
import Derived.Test.YtbcpdgiinebnaaaPFnClocksDriftOfAllx13
import Derived.Test.YtbcpdgiinebnaaaPFnClocksDriftOfAllx14
import Derived.Test.YtbcpdgiinebnaaaPFnClocksDriftOfAllx15
import Derived.Test.YtbcpdgiinebnaaaPFnClocksDriftOfAllx16
import Derived.Test.YtbcpdgiinebnaaaPFnClocksDriftOfAllx17
import Derived.Test.YtbcpdgiinebnaaaPFnClocksDriftOfAllx18
import Derived.Test.YtbcpdgiinebnaaaPFnClocksDriftOfAllx19
import Derived.Test.YtbcpdgiinebnaaaPFnClocksDriftOfAllx20
import Derived.Test.YtbcpdgiinebnaaaPFnClocksDriftOfAllx21
import Derived.Test.YtbcpdgiinebnaaaPFnClocksDriftOfAllx22
import Derived.Deep.DeepCutAuto
import Derived.Lib.QuietBelow
set_option linter.unusedVariables false
set_option linter.unusedSimpArgs false
namespace Go.Proofs.Ytbcpdgiinebnaaa.PFnClocksDriftOfAll
open Go.RowKit Go.Sort Go.Proofs.YtbcpdgiinebnaaaW.PrintWords Go.Proofs.YtbcpdgiinebnaaaW.PrintLast Go.Proofs.YtbcpdgiinebnaaaW.PrintMore
/-! own: the blocks that the call has laid, under one name -/
structure Own (w0 : World) (bs : List (Nat × Obj)) (w : World) : Prop where
  below : Below w0.heap.size w0 w
  at_ : ∀ (i g : Nat) (o : Obj), bs[i]? = some (g, o) → w0.heap.size ≤ g ∧ w.heap[g]? = some o
  apart : (bs.map (·.1)).Pairwise (· < ·)
theorem Own.start (w : World) : Own w [] w := ⟨Below.refl _ _, fun i g o h => by simp at h, List.Pairwise.nil⟩
section
variable {w0 w w' : World} {bs : List (Nat × Obj)}
theorem Own.call (h : Own w0 bs w) (hb : Below w.heap.size w w') : Own w0 bs w' :=
  ⟨below_step h.below hb, fun i g o e => ⟨(h.at_ i g o e).1, blk_below (h.at_ i g o e).2 hb⟩, h.apart⟩
theorem Own.drew (h : Own w0 bs w) : Own w0 bs w.drew := ⟨below_drew1 h.below, fun i g o e => h.at_ i g o e, h.apart⟩
theorem Own.drewN (h : Own w0 bs w) (n : Nat) : Own w0 bs (w.drewN n) := ⟨pw_below_drewN h.below n, fun i g o e => h.at_ i g o e, h.apart⟩
theorem Own.alloc (h : Own w0 bs w) (o : Obj) : Own w0 (bs ++ [(w.heap.size, o)]) (w.alloc o) := by
  refine ⟨below_alloc h.below o, fun i g o' e => ?_, ?_⟩
  · by_cases hi : i < bs.length
    · rw [List.getElem?_append_left hi] at e
      exact ⟨(h.at_ i g o' e).1, blk_alloc (h.at_ i g o' e).2 o⟩
    · rw [List.getElem?_append_right (by omega)] at e
      have h0 : i - bs.length = 0 := by
        have := (List.getElem?_eq_some_iff.1 e).1
        simp at this
        omega
      rw [h0] at e
      simp only [List.getElem?_cons_zero, Option.some.injEq, Prod.mk.injEq] at e
      obtain ⟨rfl, rfl⟩ := e
      exact ⟨h.below.size, blk_new w _⟩
  · rw [List.map_append, List.pairwise_append]
    refine ⟨h.apart, by simp, fun a ha b hb => ?_⟩
    simp only [List.map_cons, List.map_nil, List.mem_singleton] at hb
    subst hb
    obtain ⟨⟨g, o'⟩, hm, rfl⟩ := List.mem_map.1 ha
    obtain ⟨i, hi⟩ := List.mem_iff_getElem?.1 hm
    exact blk_lt (h.at_ i g o' hi).2
theorem Own.ne (h : Own w0 bs w) {i j g g' : Nat} {o o' : Obj} (hi : bs[i]? = some (g, o)) (hj : bs[j]? = some (g', o')) (hij : i ≠ j) : g ≠ g' := by
  have hp := List.pairwise_iff_getElem.1 h.apart
  have li := (List.getElem?_eq_some_iff.1 hi).1
  have lj := (List.getElem?_eq_some_iff.1 hj).1
  have ei : (bs.map (·.1))[i]'(by simpa using li) = g := by simp [(List.getElem?_eq_some_iff.1 hi).2]
  have ej : (bs.map (·.1))[j]'(by simpa using lj) = g' := by simp [(List.getElem?_eq_some_iff.1 hj).2]
  rcases Nat.lt_or_gt_of_ne hij with k | k
  · have := hp i j (by simpa using li) (by simpa using lj) k
    rw [ei, ej] at this
    omega
  · have := hp j i (by simpa using lj) (by simpa using li) k
    rw [ei, ej] at this
    omega
theorem Own.set (h : Own w0 bs w) (i : Nat) {g : Nat} {cs : Array Value} {t : TypeId} (e : bs[i]? = some (g, .cells cs t (0, 0))) (j : Nat) (v : Value) : Own w0 (bs.set i (g, .cells (cs.setIfInBounds j v) t (0, 0))) (w.setCell ⟨g, j, none⟩ v) := by
  refine ⟨below_set h.below (h.at_ i g _ e).1, fun k g' o' ek => ?_, ?_⟩
  · rw [List.getElem?_set] at ek
    by_cases hk : i = k
    · subst hk
      have hl := (List.getElem?_eq_some_iff.1 e).1
      rw [if_pos rfl, if_pos hl] at ek
      simp only [Option.some.injEq, Prod.mk.injEq] at ek
      obtain ⟨rfl, rfl⟩ := ek
      exact ⟨(h.at_ i g _ e).1, blk_put (h.at_ i g _ e).2 j v rfl⟩
    · rw [if_neg hk] at ek
      refine ⟨(h.at_ k g' o' ek).1, ?_⟩
      have hne := h.ne e ek hk
      exact (Below.heap_setCell w ⟨g, j, none⟩ v g' (Ne.symm hne)).trans (h.at_ k g' o' ek).2
  · have : (bs.set i (g, Obj.cells (cs.setIfInBounds j v) t (0, 0))).map (·.1) = bs.map (·.1) := by
      rw [List.map_set]
      refine List.ext_getElem? fun k => ?_
      rw [List.getElem?_set]
      by_cases hk : i = k
      · subst hk
        have hl := (List.getElem?_eq_some_iff.1 e).1
        rw [if_pos rfl, if_pos (by simpa using hl), List.getElem?_map, e]
        rfl
      · rw [if_neg hk]
    rw [this]; exact h.apart
end
section
variable {w0 w : World} {bs : List (Nat × Obj)} {P : Program} {Q : Exit → Act → World → Prop} {c : Code} {a : Act}
theorem Own.gen (h : Own w0 bs w) (k : ∀ w2, Own w0 bs w2 → c.wp P Q a w2) : c.wp P Q a w := k w h
end
theorem Own.c1 {w0 w : World} {bs : List (Nat × Obj)} (h : Own w0 bs w) (i : Nat) {g : Nat} {x0 : Value} {t : TypeId} (e : bs[i]? = some (g, .cells #[x0] t (0, 0))) : w.cell? ⟨g, 0, none⟩ = some x0 ∧ w.frozen? ⟨g, 0, none⟩ = false := by
  have z := (h.at_ i g _ e).2
  exact ⟨(blk_cell z 0).trans rfl, blk_frozen z 0⟩
theorem Own.c2 {w0 w : World} {bs : List (Nat × Obj)} (h : Own w0 bs w) (i : Nat) {g : Nat} {x0 x1 : Value} {t : TypeId} (e : bs[i]? = some (g, .cells #[x0, x1] t (0, 0))) : w.cell? ⟨g, 0, none⟩ = some x0 ∧ w.cell? ⟨g, 1, none⟩ = some x1 ∧ w.frozen? ⟨g, 0, none⟩ = false ∧ w.frozen? ⟨g, 1, none⟩ = false := by
  have z := (h.at_ i g _ e).2
  exact ⟨(blk_cell z 0).trans rfl, (blk_cell z 1).trans rfl, blk_frozen z 0, blk_frozen z 1⟩
theorem Own.c3 {w0 w : World} {bs : List (Nat × Obj)} (h : Own w0 bs w) (i : Nat) {g : Nat} {x0 x1 x2 : Value} {t : TypeId} (e : bs[i]? = some (g, .cells #[x0, x1, x2] t (0, 0))) : w.cell? ⟨g, 0, none⟩ = some x0 ∧ w.cell? ⟨g, 1, none⟩ = some x1 ∧ w.cell? ⟨g, 2, none⟩ = some x2 ∧ w.frozen? ⟨g, 0, none⟩ = false ∧ w.frozen? ⟨g, 1, none⟩ = false ∧ w.frozen? ⟨g, 2, none⟩ = false := by
  have z := (h.at_ i g _ e).2
  exact ⟨(blk_cell z 0).trans rfl, (blk_cell z 1).trans rfl, (blk_cell z 2).trans rfl, blk_frozen z 0, blk_frozen z 1, blk_frozen z 2⟩
theorem Own.c4 {w0 w : World} {bs : List (Nat × Obj)} (h : Own w0 bs w) (i : Nat) {g : Nat} {x0 x1 x2 x3 : Value} {t : TypeId} (e : bs[i]? = some (g, .cells #[x0, x1, x2, x3] t (0, 0))) : w.cell? ⟨g, 0, none⟩ = some x0 ∧ w.cell? ⟨g, 1, none⟩ = some x1 ∧ w.cell? ⟨g, 2, none⟩ = some x2 ∧ w.cell? ⟨g, 3, none⟩ = some x3 ∧ w.frozen? ⟨g, 0, none⟩ = false ∧ w.frozen? ⟨g, 1, none⟩ = false ∧ w.frozen? ⟨g, 2, none⟩ = false ∧ w.frozen? ⟨g, 3, none⟩ = false := by
  have z := (h.at_ i g _ e).2
  exact ⟨(blk_cell z 0).trans rfl, (blk_cell z 1).trans rfl, (blk_cell z 2).trans rfl, (blk_cell z 3).trans rfl, blk_frozen z 0, blk_frozen z 1, blk_frozen z 2, blk_frozen z 3⟩
theorem Own.c5 {w0 w : World} {bs : List (Nat × Obj)} (h : Own w0 bs w) (i : Nat) {g : Nat} {x0 x1 x2 x3 x4 : Value} {t : TypeId} (e : bs[i]? = some (g, .cells #[x0, x1, x2, x3, x4] t (0, 0))) : w.cell? ⟨g, 0, none⟩ = some x0 ∧ w.cell? ⟨g, 1, none⟩ = some x1 ∧ w.cell? ⟨g, 2, none⟩ = some x2 ∧ w.cell? ⟨g, 3, none⟩ = some x3 ∧ w.cell? ⟨g, 4, none⟩ = some x4 ∧ w.frozen? ⟨g, 0, none⟩ = false ∧ w.frozen? ⟨g, 1, none⟩ = false ∧ w.frozen? ⟨g, 2, none⟩ = false ∧ w.frozen? ⟨g, 3, none⟩ = false ∧ w.frozen? ⟨g, 4, none⟩ = false := by
  have z := (h.at_ i g _ e).2
  exact ⟨(blk_cell z 0).trans rfl, (blk_cell z 1).trans rfl, (blk_cell z 2).trans rfl, (blk_cell z 3).trans rfl, (blk_cell z 4).trans rfl, blk_frozen z 0, blk_frozen z 1, blk_frozen z 2, blk_frozen z 3, blk_frozen z 4⟩
/-- A new block, and what is laid into it at once. -/
theorem Own.new1 {w0 w : World} {bs : List (Nat × Obj)} (h : Own w0 bs w) {z0 v0 : Value} {t : TypeId} : Own w0 (bs ++ [(w.heap.size, .cells #[v0] t (0, 0))]) ((w.alloc (.cells #[z0] t (0, 0))).setCell ⟨w.heap.size, 0, none⟩ v0) := by
  have h0 := h.alloc (.cells #[z0] t (0, 0))
  have h1 : Own w0 (bs ++ [(w.heap.size, .cells #[v0] t (0, 0))]) ((w.alloc (.cells #[z0] t (0, 0))).setCell ⟨w.heap.size, 0, none⟩ v0) := by simpa [List.set_append_right] using h0.set bs.length (g := w.heap.size) (cs := #[z0]) (t := t) (by simp) 0 v0
  exact h1
/-- A new block, and what is laid into it at once. -/
theorem Own.new2 {w0 w : World} {bs : List (Nat × Obj)} (h : Own w0 bs w) {z0 z1 v0 v1 : Value} {t : TypeId} : Own w0 (bs ++ [(w.heap.size, .cells #[v0, v1] t (0, 0))]) (((w.alloc (.cells #[z0, z1] t (0, 0))).setCell ⟨w.heap.size, 0, none⟩ v0).setCell ⟨w.heap.size, 1, none⟩ v1) := by
  have h0 := h.alloc (.cells #[z0, z1] t (0, 0))
  have h1 : Own w0 (bs ++ [(w.heap.size, .cells #[v0, z1] t (0, 0))]) ((w.alloc (.cells #[z0, z1] t (0, 0))).setCell ⟨w.heap.size, 0, none⟩ v0) := by simpa [List.set_append_right] using h0.set bs.length (g := w.heap.size) (cs := #[z0, z1]) (t := t) (by simp) 0 v0
  have h2 : Own w0 (bs ++ [(w.heap.size, .cells #[v0, v1] t (0, 0))]) (((w.alloc (.cells #[z0, z1] t (0, 0))).setCell ⟨w.heap.size, 0, none⟩ v0).setCell ⟨w.heap.size, 1, none⟩ v1) := by simpa [List.set_append_right] using h1.set bs.length (g := w.heap.size) (cs := #[v0, z1]) (t := t) (by simp) 1 v1
  exact h2
/-- A new block, and what is laid into it at once. -/
theorem Own.new3 {w0 w : World} {bs : List (Nat × Obj)} (h : Own w0 bs w) {z0 z1 z2 v0 v1 v2 : Value} {t : TypeId} : Own w0 (bs ++ [(w.heap.size, .cells #[v0, v1, v2] t (0, 0))]) ((((w.alloc (.cells #[z0, z1, z2] t (0, 0))).setCell ⟨w.heap.size, 0, none⟩ v0).setCell ⟨w.heap.size, 1, none⟩ v1).setCell ⟨w.heap.size, 2, none⟩ v2) := by
  have h0 := h.alloc (.cells #[z0, z1, z2] t (0, 0))
  have h1 : Own w0 (bs ++ [(w.heap.size, .cells #[v0, z1, z2] t (0, 0))]) ((w.alloc (.cells #[z0, z1, z2] t (0, 0))).setCell ⟨w.heap.size, 0, none⟩ v0) := by simpa [List.set_append_right] using h0.set bs.length (g := w.heap.size) (cs := #[z0, z1, z2]) (t := t) (by simp) 0 v0
  have h2 : Own w0 (bs ++ [(w.heap.size, .cells #[v0, v1, z2] t (0, 0))]) (((w.alloc (.cells #[z0, z1, z2] t (0, 0))).setCell ⟨w.heap.size, 0, none⟩ v0).setCell ⟨w.heap.size, 1, none⟩ v1) := by simpa [List.set_append_right] using h1.set bs.length (g := w.heap.size) (cs := #[v0, z1, z2]) (t := t) (by simp) 1 v1
  have h3 : Own w0 (bs ++ [(w.heap.size, .cells #[v0, v1, v2] t (0, 0))]) ((((w.alloc (.cells #[z0, z1, z2] t (0, 0))).setCell ⟨w.heap.size, 0, none⟩ v0).setCell ⟨w.heap.size, 1, none⟩ v1).setCell ⟨w.heap.size, 2, none⟩ v2) := by simpa [List.set_append_right] using h2.set bs.length (g := w.heap.size) (cs := #[v0, v1, z2]) (t := t) (by simp) 2 v2
  exact h3
/-- A new block, and what is laid into it at once. -/
theorem Own.new4 {w0 w : World} {bs : List (Nat × Obj)} (h : Own w0 bs w) {z0 z1 z2 z3 v0 v1 v2 v3 : Value} {t : TypeId} : Own w0 (bs ++ [(w.heap.size, .cells #[v0, v1, v2, v3] t (0, 0))]) (((((w.alloc (.cells #[z0, z1, z2, z3] t (0, 0))).setCell ⟨w.heap.size, 0, none⟩ v0).setCell ⟨w.heap.size, 1, none⟩ v1).setCell ⟨w.heap.size, 2, none⟩ v2).setCell ⟨w.heap.size, 3, none⟩ v3) := by
  have h0 := h.alloc (.cells #[z0, z1, z2, z3] t (0, 0))
  have h1 : Own w0 (bs ++ [(w.heap.size, .cells #[v0, z1, z2, z3] t (0, 0))]) ((w.alloc (.cells #[z0, z1, z2, z3] t (0, 0))).setCell ⟨w.heap.size, 0, none⟩ v0) := by simpa [List.set_append_right] using h0.set bs.length (g := w.heap.size) (cs := #[z0, z1, z2, z3]) (t := t) (by simp) 0 v0
  have h2 : Own w0 (bs ++ [(w.heap.size, .cells #[v0, v1, z2, z3] t (0, 0))]) (((w.alloc (.cells #[z0, z1, z2, z3] t (0, 0))).setCell ⟨w.heap.size, 0, none⟩ v0).setCell ⟨w.heap.size, 1, none⟩ v1) := by simpa [List.set_append_right] using h1.set bs.length (g := w.heap.size) (cs := #[v0, z1, z2, z3]) (t := t) (by simp) 1 v1
  have h3 : Own w0 (bs ++ [(w.heap.size, .cells #[v0, v1, v2, z3] t (0, 0))]) ((((w.alloc (.cells #[z0, z1, z2, z3] t (0, 0))).setCell ⟨w.heap.size, 0, none⟩ v0).setCell ⟨w.heap.size, 1, none⟩ v1).setCell ⟨w.heap.size, 2, none⟩ v2) := by simpa [List.set_append_right] using h2.set bs.length (g := w.heap.size) (cs := #[v0, v1, z2, z3]) (t := t) (by simp) 2 v2
  have h4 : Own w0 (bs ++ [(w.heap.size, .cells #[v0, v1, v2, v3] t (0, 0))]) (((((w.alloc (.cells #[z0, z1, z2, z3] t (0, 0))).setCell ⟨w.heap.size, 0, none⟩ v0).setCell ⟨w.heap.size, 1, none⟩ v1).setCell ⟨w.heap.size, 2, none⟩ v2).setCell ⟨w.heap.size, 3, none⟩ v3) := by simpa [List.set_append_right] using h3.set bs.length (g := w.heap.size) (cs := #[v0, v1, v2, z3]) (t := t) (by simp) 3 v3
  exact h4
/-- A new block, and what is laid into it at once. -/
theorem Own.new5 {w0 w : World} {bs : List (Nat × Obj)} (h : Own w0 bs w) {z0 z1 z2 z3 z4 v0 v1 v2 v3 v4 : Value} {t : TypeId} : Own w0 (bs ++ [(w.heap.size, .cells #[v0, v1, v2, v3, v4] t (0, 0))]) ((((((w.alloc (.cells #[z0, z1, z2, z3, z4] t (0, 0))).setCell ⟨w.heap.size, 0, none⟩ v0).setCell ⟨w.heap.size, 1, none⟩ v1).setCell ⟨w.heap.size, 2, none⟩ v2).setCell ⟨w.heap.size, 3, none⟩ v3).setCell ⟨w.heap.size, 4, none⟩ v4) := by
  have h0 := h.alloc (.cells #[z0, z1, z2, z3, z4] t (0, 0))
  have h1 : Own w0 (bs ++ [(w.heap.size, .cells #[v0, z1, z2, z3, z4] t (0, 0))]) ((w.alloc (.cells #[z0, z1, z2, z3, z4] t (0, 0))).setCell ⟨w.heap.size, 0, none⟩ v0) := by simpa [List.set_append_right] using h0.set bs.length (g := w.heap.size) (cs := #[z0, z1, z2, z3, z4]) (t := t) (by simp) 0 v0
  have h2 : Own w0 (bs ++ [(w.heap.size, .cells #[v0, v1, z2, z3, z4] t (0, 0))]) (((w.alloc (.cells #[z0, z1, z2, z3, z4] t (0, 0))).setCell ⟨w.heap.size, 0, none⟩ v0).setCell ⟨w.heap.size, 1, none⟩ v1) := by simpa [List.set_append_right] using h1.set bs.length (g := w.heap.size) (cs := #[v0, z1, z2, z3, z4]) (t := t) (by simp) 1 v1
  have h3 : Own w0 (bs ++ [(w.heap.size, .cells #[v0, v1, v2, z3, z4] t (0, 0))]) ((((w.alloc (.cells #[z0, z1, z2, z3, z4] t (0, 0))).setCell ⟨w.heap.size, 0, none⟩ v0).setCell ⟨w.heap.size, 1, none⟩ v1).setCell ⟨w.heap.size, 2, none⟩ v2) := by simpa [List.set_append_right] using h2.set bs.length (g := w.heap.size) (cs := #[v0, v1, z2, z3, z4]) (t := t) (by simp) 2 v2
  have h4 : Own w0 (bs ++ [(w.heap.size, .cells #[v0, v1, v2, v3, z4] t (0, 0))]) (((((w.alloc (.cells #[z0, z1, z2, z3, z4] t (0, 0))).setCell ⟨w.heap.size, 0, none⟩ v0).setCell ⟨w.heap.size, 1, none⟩ v1).setCell ⟨w.heap.size, 2, none⟩ v2).setCell ⟨w.heap.size, 3, none⟩ v3) := by simpa [List.set_append_right] using h3.set bs.length (g := w.heap.size) (cs := #[v0, v1, v2, z3, z4]) (t := t) (by simp) 3 v3
  have h5 : Own w0 (bs ++ [(w.heap.size, .cells #[v0, v1, v2, v3, v4] t (0, 0))]) ((((((w.alloc (.cells #[z0, z1, z2, z3, z4] t (0, 0))).setCell ⟨w.heap.size, 0, none⟩ v0).setCell ⟨w.heap.size, 1, none⟩ v1).setCell ⟨w.heap.size, 2, none⟩ v2).setCell ⟨w.heap.size, 3, none⟩ v3).setCell ⟨w.heap.size, 4, none⟩ v4) := by simpa [List.set_append_right] using h4.set bs.length (g := w.heap.size) (cs := #[v0, v1, v2, v3, z4]) (t := t) (by simp) 4 v4
  exact h5
theorem size_alloc_ (w : World) (o : Obj) : (w.alloc o).heap.size = w.heap.size + 1 := by unfold World.alloc; simp
theorem Own.alloc_at {w0 w : World} {bs : List (Nat × Obj)} (h : Own w0 bs w) {n : Nat} (e : w.heap.size = n) (o : Obj) : Own w0 (bs ++ [(n, o)]) (w.alloc o) ∧ (w.alloc o).heap.size = n + 1 := ⟨e ▸ h.alloc o, by rw [size_alloc_, e]⟩
theorem Own.boxes1 (w : World) {o0 : Obj} : Own w [(w.heap.size, o0)] (w.alloc o0) := by
  have h0 := (Own.start w).alloc_at rfl o0
  exact h0.1
theorem Own.boxes2 (w : World) {o0 o1 : Obj} : Own w [(w.heap.size, o0), (w.heap.size + 1, o1)] ((w.alloc o0).alloc o1) := by
  have h0 := (Own.start w).alloc_at rfl o0
  have h1 := h0.1.alloc_at h0.2 o1
  exact h1.1
theorem Own.boxes3 (w : World) {o0 o1 o2 : Obj} : Own w [(w.heap.size, o0), (w.heap.size + 1, o1), (w.heap.size + 1 + 1, o2)] (((w.alloc o0).alloc o1).alloc o2) := by
  have h0 := (Own.start w).alloc_at rfl o0
  have h1 := h0.1.alloc_at h0.2 o1
  have h2 := h1.1.alloc_at h1.2 o2
  exact h2.1
theorem Own.boxes4 (w : World) {o0 o1 o2 o3 : Obj} : Own w [(w.heap.size, o0), (w.heap.size + 1, o1), (w.heap.size + 1 + 1, o2), (w.heap.size + 1 + 1 + 1, o3)] ((((w.alloc o0).alloc o1).alloc o2).alloc o3) := by
  have h0 := (Own.start w).alloc_at rfl o0
  have h1 := h0.1.alloc_at h0.2 o1
  have h2 := h1.1.alloc_at h1.2 o2
  have h3 := h2.1.alloc_at h2.2 o3
  exact h3.1
theorem Own.boxes5 (w : World) {o0 o1 o2 o3 o4 : Obj} : Own w [(w.heap.size, o0), (w.heap.size + 1, o1), (w.heap.size + 1 + 1, o2), (w.heap.size + 1 + 1 + 1, o3), (w.heap.size + 1 + 1 + 1 + 1, o4)] (((((w.alloc o0).alloc o1).alloc o2).alloc o3).alloc o4) := by
  have h0 := (Own.start w).alloc_at rfl o0
  have h1 := h0.1.alloc_at h0.2 o1
  have h2 := h1.1.alloc_at h1.2 o2
  have h3 := h2.1.alloc_at h2.2 o3
  have h4 := h3.1.alloc_at h3.2 o4
  exact h4.1
theorem Own.boxes6 (w : World) {o0 o1 o2 o3 o4 o5 : Obj} : Own w [(w.heap.size, o0), (w.heap.size + 1, o1), (w.heap.size + 1 + 1, o2), (w.heap.size + 1 + 1 + 1, o3), (w.heap.size + 1 + 1 + 1 + 1, o4), (w.heap.size + 1 + 1 + 1 + 1 + 1, o5)] ((((((w.alloc o0).alloc o1).alloc o2).alloc o3).alloc o4).alloc o5) := by
  have h0 := (Own.start w).alloc_at rfl o0
  have h1 := h0.1.alloc_at h0.2 o1
  have h2 := h1.1.alloc_at h1.2 o2
  have h3 := h2.1.alloc_at h2.2 o3
  have h4 := h3.1.alloc_at h3.2 o4
  have h5 := h4.1.alloc_at h4.2 o5
  exact h5.1
theorem Own.boxes7 (w : World) {o0 o1 o2 o3 o4 o5 o6 : Obj} : Own w [(w.heap.size, o0), (w.heap.size + 1, o1), (w.heap.size + 1 + 1, o2), (w.heap.size + 1 + 1 + 1, o3), (w.heap.size + 1 + 1 + 1 + 1, o4), (w.heap.size + 1 + 1 + 1 + 1 + 1, o5), (w.heap.size + 1 + 1 + 1 + 1 + 1 + 1, o6)] (((((((w.alloc o0).alloc o1).alloc o2).alloc o3).alloc o4).alloc o5).alloc o6) := by
  have h0 := (Own.start w).alloc_at rfl o0
  have h1 := h0.1.alloc_at h0.2 o1
  have h2 := h1.1.alloc_at h1.2 o2
  have h3 := h2.1.alloc_at h2.2 o3
  have h4 := h3.1.alloc_at h3.2 o4
  have h5 := h4.1.alloc_at h4.2 o5
  have h6 := h5.1.alloc_at h5.2 o6
  exact h6.1
theorem Own.boxes8 (w : World) {o0 o1 o2 o3 o4 o5 o6 o7 : Obj} : Own w [(w.heap.size, o0), (w.heap.size + 1, o1), (w.heap.size + 1 + 1, o2), (w.heap.size + 1 + 1 + 1, o3), (w.heap.size + 1 + 1 + 1 + 1, o4), (w.heap.size + 1 + 1 + 1 + 1 + 1, o5), (w.heap.size + 1 + 1 + 1 + 1 + 1 + 1, o6), (w.heap.size + 1 + 1 + 1 + 1 + 1 + 1 + 1, o7)] ((((((((w.alloc o0).alloc o1).alloc o2).alloc o3).alloc o4).alloc o5).alloc o6).alloc o7) := by
  have h0 := (Own.start w).alloc_at rfl o0
  have h1 := h0.1.alloc_at h0.2 o1
  have h2 := h1.1.alloc_at h1.2 o2
  have h3 := h2.1.alloc_at h2.2 o3
  have h4 := h3.1.alloc_at h3.2 o4
  have h5 := h4.1.alloc_at h4.2 o5
  have h6 := h5.1.alloc_at h5.2 o6
  have h7 := h6.1.alloc_at h6.2 o7
  exact h7.1
theorem Own.less {w0 w : World} {bs : List (Nat × Obj)} {x : Nat × Obj} (h : Own w0 (bs ++ [x]) w) : Own w0 bs w := by
  refine ⟨h.below, fun i g o e => h.at_ i g o ?_, ?_⟩
  · rw [List.getElem?_append_left (List.getElem?_eq_some_iff.1 e).1]; exact e
  · have := h.apart
    rw [List.map_append, List.pairwise_append] at this
    exact this.1
attribute [local go_sem high] eqA35 eqA43 eqA44
set_option maxHeartbeats 60000000 in
set_option maxRecDepth 100000 in
theorem walkV (k : Nat) (a0 a1 a2 a3 b0 b1 c0 c1 c2 c3 d0 d1 d2 d3 t0 t1 x1 x2 y1 y2 s1 s2 s3 s4 f1 f2 e1 e2 h1 h2 : Int) (ok one three five seven nine ck : Bool) (w : World)
  (A1 : impl_ShownAfter.f k a0 a1 a2 a3 b0 b1 = some (x1, x2, ok))
  (A2 : spec_ShownAfter.f k a0 a1 a2 a3 b0 b1 = some (x1, x2, ok))
  (A3 : impl_AheadAfter.f k a0 a1 a2 a3 b0 b1 = some (y1, y2, one))
  (A4 : spec_AheadAfter.f k a0 a1 a2 a3 b0 b1 = some (y1, y2, one))
  (A5 : impl_SetRight.f k a0 a1 a2 a3 b0 b1 = some (s1, s2, s3, s4, three))
  (A6 : spec_SetRight.f k a0 a1 a2 a3 b0 b1 = some (s1, s2, s3, s4, three))
  (B1 : ok = true → one = true → ∃ m1 m2 u1 u2 six, impl_MakeTurn.f k b0 b1 = some (m1, m2, true) ∧ impl_AddTurns.f k m1 m2 y1 y2 = some (u1, u2, six) ∧ (six = true → u1 = x1 ∧ u2 = x2))
  (B2 : three = true → impl_AheadAfter.f k s1 s2 s3 s4 b0 b1 = some (0, 1, true) ∧ a2 = s3 ∧ a3 = s4)
  (A7 : impl_FirstRight.f k c0 c1 c2 c3 = some (f1, f2, five))
  (A8 : spec_FirstRight.f k c0 c1 c2 c3 = some (f1, f2, five))
  (A9 : impl_RightEvery.f k c0 c1 c2 c3 = some (e1, e2, seven))
  (A10 : spec_RightEvery.f k c0 c1 c2 c3 = some (e1, e2, seven))
  (A11 : impl_IsClock.f k c0 c1 c2 c3 = some ck)
  (A12 : spec_IsClock.f k c0 c1 c2 c3 = some ck)
  (B3 : five = true → ck = true)
  (B4 : seven = true → ck = true)
  (B5 : five = true → impl_AheadAfter.f k c0 c1 c2 c3 f1 f2 = some (0, 1, true) ∧ ¬ f1 < 1)
  (B6 : five = true → seven = true → ¬ wrap64 (f1 * e2) > wrap64 (e1 * f2) ∧ ∃ n1 n2 nn, impl_AddSpans.f k f1 f2 e1 e2 = some (n1, n2, nn) ∧ (nn = true → impl_AheadAfter.f k c0 c1 c2 c3 n1 n2 = some (0, 1, true)))
  (A13 : impl_FirstShown.f k d0 d1 d2 d3 t0 t1 = some (h1, h2, nine))
  (A14 : spec_FirstShown.f k d0 d1 d2 d3 t0 t1 = some (h1, h2, nine))
  (B7 : nine = true → impl_ShownAfter.f k d0 d1 d2 d3 h1 h2 = some (t0, t1, true) ∧ ¬ wrap64 (h1 * d2) ≥ wrap64 (h2 * d3)) :
    Calls Try.prog 6 #[.agg #[.int .i64 a0, .int .i64 a1, .int .i64 a2, .int .i64 a3], .agg #[.int .i64 b0, .int .i64 b1], .agg #[.int .i64 c0, .int .i64 c1, .int .i64 c2, .int .i64 c3], .agg #[.int .i64 d0, .int .i64 d1, .int .i64 d2, .int .i64 d3], .agg #[.int .i64 t0, .int .i64 t1]] w fun e w' => e = .returned (.bool true) ∧ Below w.heap.size w w' := by
  have hu35 := Try.underlying35
  have hu43 := Try.underlying43
  have hu44 := Try.underlying44
  have K1 := fun W => impl_ShownAfter.calls k a0 a1 a2 a3 b0 b1 x1 x2 ok W A1
  have K2 := fun W => spec_ShownAfter.calls k a0 a1 a2 a3 b0 b1 x1 x2 ok W A2
  have K3 := fun W => impl_AheadAfter.calls k a0 a1 a2 a3 b0 b1 y1 y2 one W A3
  have K4 := fun W => spec_AheadAfter.calls k a0 a1 a2 a3 b0 b1 y1 y2 one W A4
  have K5 := fun W => impl_SetRight.calls k a0 a1 a2 a3 b0 b1 s1 s2 s3 s4 three W A5
  have K6 := fun W => spec_SetRight.calls k a0 a1 a2 a3 b0 b1 s1 s2 s3 s4 three W A6
  have K7 := fun W => impl_FirstRight.calls k c0 c1 c2 c3 f1 f2 five W A7
  have K8 := fun W => spec_FirstRight.calls k c0 c1 c2 c3 f1 f2 five W A8
  have K9 := fun W => impl_RightEvery.calls k c0 c1 c2 c3 e1 e2 seven W A9
  have K10 := fun W => spec_RightEvery.calls k c0 c1 c2 c3 e1 e2 seven W A10
  have K11 := fun W => impl_IsClock.calls k c0 c1 c2 c3 ck W A11
  have K12 := fun W => spec_IsClock.calls k c0 c1 c2 c3 ck W A12
  have K13 := fun W => impl_FirstShown.calls k d0 d1 d2 d3 t0 t1 h1 h2 nine W A13
  have K14 := fun W => spec_FirstShown.calls k d0 d1 d2 d3 t0 t1 h1 h2 nine W A14
  replace B1 := Aside0.mk B1
  replace B2 := Aside0.mk B2
  replace B3 := Aside0.mk B3
  replace B4 := Aside0.mk B4
  replace B5 := Aside0.mk B5
  replace B6 := Aside0.mk B6
  replace B7 := Aside0.mk B7
  clear A1 A2 A3 A4 A5 A6 A7 A8 A9 A10 A11 A12 A13 A14
  go_enter Try.func6, Try.ntmps6
  go_upto_region 1 with (fail)
  refine Own.gen (Own.boxes5 w) ?_
  intro w0 HO
  generalize w.heap.size + 1 + 1 + 1 + 1 = g9 at HO ⊢
  generalize w.heap.size + 1 + 1 + 1 = g8 at HO ⊢
  generalize w.heap.size + 1 + 1 = g7 at HO ⊢
  generalize w.heap.size + 1 = g6 at HO ⊢
  generalize w.heap.size = g5 at HO ⊢
  replace HO : Own w [(g5, .cells #[.int .i64 a0, .int .i64 a1, .int .i64 a2, .int .i64 a3] 43 (0, 0)), (g6, .cells #[.int .i64 b0, .int .i64 b1] 44 (0, 0)), (g7, .cells #[.int .i64 c0, .int .i64 c1, .int .i64 c2, .int .i64 c3] 43 (0, 0)), (g8, .cells #[.int .i64 d0, .int .i64 d1, .int .i64 d2, .int .i64 d3] 43 (0, 0)), (g9, .cells #[.int .i64 t0, .int .i64 t1] 35 (0, 0))] w0 := HO
  obtain ⟨p5_0, p5_1, p5_2, p5_3, f5_0, f5_1, f5_2, f5_3⟩ := HO.c4 0 rfl
  obtain ⟨p6_0, p6_1, f6_0, f6_1⟩ := HO.c2 1 rfl
  go_upto_region 2 with (first | (go_at_call 27; refine (K1 _).mono ?_; rintro e w1a ⟨rfl, hb⟩; replace HO := HO.call hb; clear hb p5_0 p5_1 p5_2 p5_3 f5_0 f5_1 f5_2 f5_3 p6_0 p6_1 f6_0 f6_1))
  refine Own.gen (HO.alloc _) ?_
  clear HO; intro w1 HO; generalize w1a.heap.size = g11 at HO ⊢; clear w1a
  replace HO : Own w [(g5, .cells #[.int .i64 a0, .int .i64 a1, .int .i64 a2, .int .i64 a3] 43 (0, 0)), (g6, .cells #[.int .i64 b0, .int .i64 b1] 44 (0, 0)), (g7, .cells #[.int .i64 c0, .int .i64 c1, .int .i64 c2, .int .i64 c3] 43 (0, 0)), (g8, .cells #[.int .i64 d0, .int .i64 d1, .int .i64 d2, .int .i64 d3] 43 (0, 0)), (g9, .cells #[.int .i64 t0, .int .i64 t1] 35 (0, 0)), (g11, .cells #[.int .i64 x1, .int .i64 x2] 35 (0, 0))] w1 := HO
  obtain ⟨p5_0, p5_1, p5_2, p5_3, f5_0, f5_1, f5_2, f5_3⟩ := HO.c4 0 rfl
  obtain ⟨p6_0, p6_1, f6_0, f6_1⟩ := HO.c2 1 rfl
  go_upto_region 3 with (first | (go_at_call 28; refine (K2 _).mono ?_; rintro e w2a ⟨rfl, hb⟩; replace HO := HO.call hb; clear hb p5_0 p5_1 p5_2 p5_3 f5_0 f5_1 f5_2 f5_3 p6_0 p6_1 f6_0 f6_1))
  refine Own.gen (HO.alloc _) ?_
  clear HO; intro w2 HO; generalize w2a.heap.size = g13 at HO ⊢; clear w2a
  replace HO : Own w [(g5, .cells #[.int .i64 a0, .int .i64 a1, .int .i64 a2, .int .i64 a3] 43 (0, 0)), (g6, .cells #[.int .i64 b0, .int .i64 b1] 44 (0, 0)), (g7, .cells #[.int .i64 c0, .int .i64 c1, .int .i64 c2, .int .i64 c3] 43 (0, 0)), (g8, .cells #[.int .i64 d0, .int .i64 d1, .int .i64 d2, .int .i64 d3] 43 (0, 0)), (g9, .cells #[.int .i64 t0, .int .i64 t1] 35 (0, 0)), (g11, .cells #[.int .i64 x1, .int .i64 x2] 35 (0, 0)), (g13, .cells #[.int .i64 x1, .int .i64 x2] 35 (0, 0))] w2 := HO
  obtain ⟨p5_0, p5_1, p5_2, p5_3, f5_0, f5_1, f5_2, f5_3⟩ := HO.c4 0 rfl
  obtain ⟨p6_0, p6_1, f6_0, f6_1⟩ := HO.c2 1 rfl
  go_upto_region 4 with (first | (go_at_call 29; refine (K3 _).mono ?_; rintro e w3a ⟨rfl, hb⟩; replace HO := HO.call hb; clear hb p5_0 p5_1 p5_2 p5_3 f5_0 f5_1 f5_2 f5_3 p6_0 p6_1 f6_0 f6_1))
  refine Own.gen (HO.alloc _) ?_
  clear HO; intro w3 HO; generalize w3a.heap.size = g15 at HO ⊢; clear w3a
  replace HO : Own w [(g5, .cells #[.int .i64 a0, .int .i64 a1, .int .i64 a2, .int .i64 a3] 43 (0, 0)), (g6, .cells #[.int .i64 b0, .int .i64 b1] 44 (0, 0)), (g7, .cells #[.int .i64 c0, .int .i64 c1, .int .i64 c2, .int .i64 c3] 43 (0, 0)), (g8, .cells #[.int .i64 d0, .int .i64 d1, .int .i64 d2, .int .i64 d3] 43 (0, 0)), (g9, .cells #[.int .i64 t0, .int .i64 t1] 35 (0, 0)), (g11, .cells #[.int .i64 x1, .int .i64 x2] 35 (0, 0)), (g13, .cells #[.int .i64 x1, .int .i64 x2] 35 (0, 0)), (g15, .cells #[.int .i64 y1, .int .i64 y2] 35 (0, 0))] w3 := HO
  obtain ⟨p5_0, p5_1, p5_2, p5_3, f5_0, f5_1, f5_2, f5_3⟩ := HO.c4 0 rfl
  obtain ⟨p6_0, p6_1, f6_0, f6_1⟩ := HO.c2 1 rfl
  go_upto_region 5 with (first | (go_at_call 30; refine (K4 _).mono ?_; rintro e w4a ⟨rfl, hb⟩; replace HO := HO.call hb; clear hb p5_0 p5_1 p5_2 p5_3 f5_0 f5_1 f5_2 f5_3 p6_0 p6_1 f6_0 f6_1))
  refine Own.gen (HO.alloc _) ?_
  clear HO; intro w4 HO; generalize w4a.heap.size = g17 at HO ⊢; clear w4a
  replace HO : Own w [(g5, .cells #[.int .i64 a0, .int .i64 a1, .int .i64 a2, .int .i64 a3] 43 (0, 0)), (g6, .cells #[.int .i64 b0, .int .i64 b1] 44 (0, 0)), (g7, .cells #[.int .i64 c0, .int .i64 c1, .int .i64 c2, .int .i64 c3] 43 (0, 0)), (g8, .cells #[.int .i64 d0, .int .i64 d1, .int .i64 d2, .int .i64 d3] 43 (0, 0)), (g9, .cells #[.int .i64 t0, .int .i64 t1] 35 (0, 0)), (g11, .cells #[.int .i64 x1, .int .i64 x2] 35 (0, 0)), (g13, .cells #[.int .i64 x1, .int .i64 x2] 35 (0, 0)), (g15, .cells #[.int .i64 y1, .int .i64 y2] 35 (0, 0)), (g17, .cells #[.int .i64 y1, .int .i64 y2] 35 (0, 0))] w4 := HO
  obtain ⟨p5_0, p5_1, p5_2, p5_3, f5_0, f5_1, f5_2, f5_3⟩ := HO.c4 0 rfl
  obtain ⟨p6_0, p6_1, f6_0, f6_1⟩ := HO.c2 1 rfl
  go_upto_region 6 with (first | (go_at_call 31; refine (K5 _).mono ?_; rintro e w5a ⟨rfl, hb⟩; replace HO := HO.call hb; clear hb p5_0 p5_1 p5_2 p5_3 f5_0 f5_1 f5_2 f5_3 p6_0 p6_1 f6_0 f6_1))
  refine Own.gen (HO.alloc _) ?_
  clear HO; intro w5 HO; generalize w5a.heap.size = g19 at HO ⊢; clear w5a
  replace HO : Own w [(g5, .cells #[.int .i64 a0, .int .i64 a1, .int .i64 a2, .int .i64 a3] 43 (0, 0)), (g6, .cells #[.int .i64 b0, .int .i64 b1] 44 (0, 0)), (g7, .cells #[.int .i64 c0, .int .i64 c1, .int .i64 c2, .int .i64 c3] 43 (0, 0)), (g8, .cells #[.int .i64 d0, .int .i64 d1, .int .i64 d2, .int .i64 d3] 43 (0, 0)), (g9, .cells #[.int .i64 t0, .int .i64 t1] 35 (0, 0)), (g11, .cells #[.int .i64 x1, .int .i64 x2] 35 (0, 0)), (g13, .cells #[.int .i64 x1, .int .i64 x2] 35 (0, 0)), (g15, .cells #[.int .i64 y1, .int .i64 y2] 35 (0, 0)), (g17, .cells #[.int .i64 y1, .int .i64 y2] 35 (0, 0)), (g19, .cells #[.int .i64 s1, .int .i64 s2, .int .i64 s3, .int .i64 s4] 43 (0, 0))] w5 := HO
  obtain ⟨p5_0, p5_1, p5_2, p5_3, f5_0, f5_1, f5_2, f5_3⟩ := HO.c4 0 rfl
  obtain ⟨p6_0, p6_1, f6_0, f6_1⟩ := HO.c2 1 rfl
  go_upto_region 7 with (first | (go_at_call 32; refine (K6 _).mono ?_; rintro e w6a ⟨rfl, hb⟩; replace HO := HO.call hb; clear hb p5_0 p5_1 p5_2 p5_3 f5_0 f5_1 f5_2 f5_3 p6_0 p6_1 f6_0 f6_1))
  refine Own.gen (HO.alloc _) ?_
  clear HO; intro w6 HO; generalize w6a.heap.size = g21 at HO ⊢; clear w6a
  replace HO : Own w [(g5, .cells #[.int .i64 a0, .int .i64 a1, .int .i64 a2, .int .i64 a3] 43 (0, 0)), (g6, .cells #[.int .i64 b0, .int .i64 b1] 44 (0, 0)), (g7, .cells #[.int .i64 c0, .int .i64 c1, .int .i64 c2, .int .i64 c3] 43 (0, 0)), (g8, .cells #[.int .i64 d0, .int .i64 d1, .int .i64 d2, .int .i64 d3] 43 (0, 0)), (g9, .cells #[.int .i64 t0, .int .i64 t1] 35 (0, 0)), (g11, .cells #[.int .i64 x1, .int .i64 x2] 35 (0, 0)), (g13, .cells #[.int .i64 x1, .int .i64 x2] 35 (0, 0)), (g15, .cells #[.int .i64 y1, .int .i64 y2] 35 (0, 0)), (g17, .cells #[.int .i64 y1, .int .i64 y2] 35 (0, 0)), (g19, .cells #[.int .i64 s1, .int .i64 s2, .int .i64 s3, .int .i64 s4] 43 (0, 0)), (g21, .cells #[.int .i64 s1, .int .i64 s2, .int .i64 s3, .int .i64 s4] 43 (0, 0))] w6 := HO
  clear K1 K2 K3 K4 K5 K6
  obtain ⟨p11_0, p11_1, f11_0, f11_1⟩ := HO.c2 5 rfl
  obtain ⟨p13_0, p13_1, f13_0, f13_1⟩ := HO.c2 6 rfl
  obtain ⟨p15_0, p15_1, f15_0, f15_1⟩ := HO.c2 7 rfl
  obtain ⟨p17_0, p17_1, f17_0, f17_1⟩ := HO.c2 8 rfl
  obtain ⟨p19_0, p19_1, p19_2, p19_3, f19_0, f19_1, f19_2, f19_3⟩ := HO.c4 9 rfl
  obtain ⟨p21_0, p21_1, p21_2, p21_3, f21_0, f21_1, f21_2, f21_3⟩ := HO.c4 10 rfl
  go_upto_region 9 with (fail)
  clear p11_0 p11_1 f11_0 f11_1 p13_0 p13_1 f13_0 f13_1 p15_0 p15_1 f15_0 f15_1 p17_0 p17_1 f17_0 f17_1 p19_0 p19_1 p19_2 p19_3 f19_0 f19_1 f19_2 f19_3 p21_0 p21_1 p21_2 p21_3 f21_0 f21_1 f21_2 f21_3
  obtain ⟨q116, hq116⟩ : ∃ q, q = (ok && one) := ⟨_, rfl⟩
  replace hq116 := Aside0.mk hq116
  go_cut [116] (fun v116 wc => v116 = .bool q116 ∧ Own w [(g5, .cells #[.int .i64 a0, .int .i64 a1, .int .i64 a2, .int .i64 a3] 43 (0, 0)), (g6, .cells #[.int .i64 b0, .int .i64 b1] 44 (0, 0)), (g7, .cells #[.int .i64 c0, .int .i64 c1, .int .i64 c2, .int .i64 c3] 43 (0, 0)), (g8, .cells #[.int .i64 d0, .int .i64 d1, .int .i64 d2, .int .i64 d3] 43 (0, 0)), (g9, .cells #[.int .i64 t0, .int .i64 t1] 35 (0, 0)), (g11, .cells #[.int .i64 x1, .int .i64 x2] 35 (0, 0)), (g13, .cells #[.int .i64 x1, .int .i64 x2] 35 (0, 0)), (g15, .cells #[.int .i64 y1, .int .i64 y2] 35 (0, 0)), (g17, .cells #[.int .i64 y1, .int .i64 y2] 35 (0, 0)), (g19, .cells #[.int .i64 s1, .int .i64 s2, .int .i64 s3, .int .i64 s4] 43 (0, 0)), (g21, .cells #[.int .i64 s1, .int .i64 s2, .int .i64 s3, .int .i64 s4] 43 (0, 0))] wc)
  case first =>
    as_aux_lemma =>
      cases ok
      all_goals (go_wp2; go_meet)
      all_goals exact ⟨by rw [hq116.out]; first | rfl | simp, HO⟩
  case rest =>
    as_aux_lemma =>
      clear HO; obtain ⟨rfl, HO⟩ := hcut
      revert HO; generalize wc = w7; intro HO
      go_upto_if 116 with (fail)
      go_cut [] (fun wc => Own w [(g5, .cells #[.int .i64 a0, .int .i64 a1, .int .i64 a2, .int .i64 a3] 43 (0, 0)), (g6, .cells #[.int .i64 b0, .int .i64 b1] 44 (0, 0)), (g7, .cells #[.int .i64 c0, .int .i64 c1, .int .i64 c2, .int .i64 c3] 43 (0, 0)), (g8, .cells #[.int .i64 d0, .int .i64 d1, .int .i64 d2, .int .i64 d3] 43 (0, 0)), (g9, .cells #[.int .i64 t0, .int .i64 t1] 35 (0, 0)), (g11, .cells #[.int .i64 x1, .int .i64 x2] 35 (0, 0)), (g13, .cells #[.int .i64 x1, .int .i64 x2] 35 (0, 0)), (g15, .cells #[.int .i64 y1, .int .i64 y2] 35 (0, 0)), (g17, .cells #[.int .i64 y1, .int .i64 y2] 35 (0, 0)), (g19, .cells #[.int .i64 s1, .int .i64 s2, .int .i64 s3, .int .i64 s4] 43 (0, 0)), (g21, .cells #[.int .i64 s1, .int .i64 s2, .int .i64 s3, .int .i64 s4] 43 (0, 0))] wc)
      case first =>
        as_aux_lemma =>
          cases q116 with
          | false =>
            as_aux_lemma =>
              go_wp2
              go_meet
              exact HO
          | true =>
            as_aux_lemma =>
              have hq := hq116.out; simp only [Bool.true_eq, Bool.and_eq_true] at hq
              obtain ⟨m1, m2, u1, u2, six, M1, M2, M3⟩ := B1.out hq.1 hq.2; have M3 := Aside0.mk M3; clear hq hq116
              have L1 := fun W => impl_MakeTurn.calls k b0 b1 m1 m2 true W M1
              have L2 := fun W => impl_AddTurns.calls k m1 m2 y1 y2 u1 u2 six W M2
              clear M1 M2
              go_upto_region 10 with (fail)
              obtain ⟨p6_0, p6_1, f6_0, f6_1⟩ := HO.c2 1 rfl
              go_upto_region 11 with (first | (go_at_call 33; refine (L1 _).mono ?_; rintro e w8a ⟨rfl, hb⟩; replace HO := HO.call hb; clear hb p6_0 p6_1 f6_0 f6_1))
              refine Own.gen (HO.alloc _) ?_
              clear HO; intro w8 HO; generalize w8a.heap.size = g23 at HO ⊢; clear w8a
              replace HO : Own w [(g5, .cells #[.int .i64 a0, .int .i64 a1, .int .i64 a2, .int .i64 a3] 43 (0, 0)), (g6, .cells #[.int .i64 b0, .int .i64 b1] 44 (0, 0)), (g7, .cells #[.int .i64 c0, .int .i64 c1, .int .i64 c2, .int .i64 c3] 43 (0, 0)), (g8, .cells #[.int .i64 d0, .int .i64 d1, .int .i64 d2, .int .i64 d3] 43 (0, 0)), (g9, .cells #[.int .i64 t0, .int .i64 t1] 35 (0, 0)), (g11, .cells #[.int .i64 x1, .int .i64 x2] 35 (0, 0)), (g13, .cells #[.int .i64 x1, .int .i64 x2] 35 (0, 0)), (g15, .cells #[.int .i64 y1, .int .i64 y2] 35 (0, 0)), (g17, .cells #[.int .i64 y1, .int .i64 y2] 35 (0, 0)), (g19, .cells #[.int .i64 s1, .int .i64 s2, .int .i64 s3, .int .i64 s4] 43 (0, 0)), (g21, .cells #[.int .i64 s1, .int .i64 s2, .int .i64 s3, .int .i64 s4] 43 (0, 0)), (g23, .cells #[.int .i64 m1, .int .i64 m2] 35 (0, 0))] w8 := HO
              obtain ⟨p23_0, p23_1, f23_0, f23_1⟩ := HO.c2 11 rfl
              obtain ⟨p15_0, p15_1, f15_0, f15_1⟩ := HO.c2 7 rfl
              go_upto_region 12 with (first | (go_at_call 34; refine (L2 _).mono ?_; rintro e w9a ⟨rfl, hb⟩; replace HO := HO.call hb; clear hb p23_0 p23_1 f23_0 f23_1 p15_0 p15_1 f15_0 f15_1))
              refine Own.gen (HO.alloc _) ?_
              clear HO; intro w9 HO; generalize w9a.heap.size = g25 at HO ⊢; clear w9a
              replace HO : Own w [(g5, .cells #[.int .i64 a0, .int .i64 a1, .int .i64 a2, .int .i64 a3] 43 (0, 0)), (g6, .cells #[.int .i64 b0, .int .i64 b1] 44 (0, 0)), (g7, .cells #[.int .i64 c0, .int .i64 c1, .int .i64 c2, .int .i64 c3] 43 (0, 0)), (g8, .cells #[.int .i64 d0, .int .i64 d1, .int .i64 d2, .int .i64 d3] 43 (0, 0)), (g9, .cells #[.int .i64 t0, .int .i64 t1] 35 (0, 0)), (g11, .cells #[.int .i64 x1, .int .i64 x2] 35 (0, 0)), (g13, .cells #[.int .i64 x1, .int .i64 x2] 35 (0, 0)), (g15, .cells #[.int .i64 y1, .int .i64 y2] 35 (0, 0)), (g17, .cells #[.int .i64 y1, .int .i64 y2] 35 (0, 0)), (g19, .cells #[.int .i64 s1, .int .i64 s2, .int .i64 s3, .int .i64 s4] 43 (0, 0)), (g21, .cells #[.int .i64 s1, .int .i64 s2, .int .i64 s3, .int .i64 s4] 43 (0, 0)), (g23, .cells #[.int .i64 m1, .int .i64 m2] 35 (0, 0)), (g25, .cells #[.int .i64 u1, .int .i64 u2] 35 (0, 0))] w9 := HO
              obtain ⟨p25_0, p25_1, f25_0, f25_1⟩ := HO.c2 12 rfl
              obtain ⟨p11_0, p11_1, f11_0, f11_1⟩ := HO.c2 5 rfl
              cases six with
              | false =>
                go_wp2
                go_meet
                exact Own.less (Own.less (HO))
              | true =>
                obtain ⟨rfl, rfl⟩ := M3.out rfl
                go_wp2
                go_meet
                exact Own.less (Own.less (HO))
      case rest =>
        as_aux_lemma =>
          clear HO; have HO := hcut; clear hcut
          revert HO; generalize wc = w8; intro HO
          go_upto_if 141 with (fail)
          go_cut [] (fun wc => Own w [(g5, .cells #[.int .i64 a0, .int .i64 a1, .int .i64 a2, .int .i64 a3] 43 (0, 0)), (g6, .cells #[.int .i64 b0, .int .i64 b1] 44 (0, 0)), (g7, .cells #[.int .i64 c0, .int .i64 c1, .int .i64 c2, .int .i64 c3] 43 (0, 0)), (g8, .cells #[.int .i64 d0, .int .i64 d1, .int .i64 d2, .int .i64 d3] 43 (0, 0)), (g9, .cells #[.int .i64 t0, .int .i64 t1] 35 (0, 0)), (g11, .cells #[.int .i64 x1, .int .i64 x2] 35 (0, 0)), (g13, .cells #[.int .i64 x1, .int .i64 x2] 35 (0, 0)), (g15, .cells #[.int .i64 y1, .int .i64 y2] 35 (0, 0)), (g17, .cells #[.int .i64 y1, .int .i64 y2] 35 (0, 0)), (g19, .cells #[.int .i64 s1, .int .i64 s2, .int .i64 s3, .int .i64 s4] 43 (0, 0)), (g21, .cells #[.int .i64 s1, .int .i64 s2, .int .i64 s3, .int .i64 s4] 43 (0, 0))] wc)
          case first =>
            as_aux_lemma =>
              cases three with
              | false =>
                as_aux_lemma =>
                  go_wp2
                  go_meet
                  exact HO
              | true =>
                as_aux_lemma =>
                  obtain ⟨M1, rfl, rfl⟩ := B2.out rfl
                  have L1 := fun W => impl_AheadAfter.calls k s1 s2 a2 a3 b0 b1 0 1 true W M1
                  clear M1
                  go_upto_region 15 with (fail)
                  obtain ⟨p19_0, p19_1, p19_2, p19_3, f19_0, f19_1, f19_2, f19_3⟩ := HO.c4 9 rfl
                  obtain ⟨p6_0, p6_1, f6_0, f6_1⟩ := HO.c2 1 rfl
                  go_upto_region 16 with (first | (go_at_call 29; refine (L1 _).mono ?_; rintro e w9a ⟨rfl, hb⟩; replace HO := HO.call hb; clear hb p19_0 p19_1 p19_2 p19_3 f19_0 f19_1 f19_2 f19_3 p6_0 p6_1 f6_0 f6_1))
                  refine Own.gen (HO.alloc _) ?_
                  clear HO; intro w9 HO; generalize w9a.heap.size = g27 at HO ⊢; clear w9a
                  replace HO : Own w [(g5, .cells #[.int .i64 a0, .int .i64 a1, .int .i64 a2, .int .i64 a3] 43 (0, 0)), (g6, .cells #[.int .i64 b0, .int .i64 b1] 44 (0, 0)), (g7, .cells #[.int .i64 c0, .int .i64 c1, .int .i64 c2, .int .i64 c3] 43 (0, 0)), (g8, .cells #[.int .i64 d0, .int .i64 d1, .int .i64 d2, .int .i64 d3] 43 (0, 0)), (g9, .cells #[.int .i64 t0, .int .i64 t1] 35 (0, 0)), (g11, .cells #[.int .i64 x1, .int .i64 x2] 35 (0, 0)), (g13, .cells #[.int .i64 x1, .int .i64 x2] 35 (0, 0)), (g15, .cells #[.int .i64 y1, .int .i64 y2] 35 (0, 0)), (g17, .cells #[.int .i64 y1, .int .i64 y2] 35 (0, 0)), (g19, .cells #[.int .i64 s1, .int .i64 s2, .int .i64 a2, .int .i64 a3] 43 (0, 0)), (g21, .cells #[.int .i64 s1, .int .i64 s2, .int .i64 a2, .int .i64 a3] 43 (0, 0)), (g27, .cells #[.int .i64 0, .int .i64 1] 35 (0, 0))] w9 := HO
                  obtain ⟨p27_0, p27_1, f27_0, f27_1⟩ := HO.c2 11 rfl
                  obtain ⟨p19_0, p19_1, p19_2, p19_3, f19_0, f19_1, f19_2, f19_3⟩ := HO.c4 9 rfl
                  obtain ⟨p5_0, p5_1, p5_2, p5_3, f5_0, f5_1, f5_2, f5_3⟩ := HO.c4 0 rfl
                  go_wp2
                  go_meet
                  exact Own.less (HO)
          case rest =>
            as_aux_lemma =>
              clear HO; have HO := hcut; clear hcut
              revert HO; generalize wc = w9; intro HO
              go_upto_region 18 with (fail)
              obtain ⟨p7_0, p7_1, p7_2, p7_3, f7_0, f7_1, f7_2, f7_3⟩ := HO.c4 2 rfl
              go_upto_region 19 with (first | (go_at_call 35; refine (K7 _).mono ?_; rintro e w10a ⟨rfl, hb⟩; replace HO := HO.call hb; clear hb p7_0 p7_1 p7_2 p7_3 f7_0 f7_1 f7_2 f7_3))
              refine Own.gen (HO.alloc _) ?_
              clear HO; intro w10 HO; generalize w10a.heap.size = g29 at HO ⊢; clear w10a
              replace HO : Own w [(g5, .cells #[.int .i64 a0, .int .i64 a1, .int .i64 a2, .int .i64 a3] 43 (0, 0)), (g6, .cells #[.int .i64 b0, .int .i64 b1] 44 (0, 0)), (g7, .cells #[.int .i64 c0, .int .i64 c1, .int .i64 c2, .int .i64 c3] 43 (0, 0)), (g8, .cells #[.int .i64 d0, .int .i64 d1, .int .i64 d2, .int .i64 d3] 43 (0, 0)), (g9, .cells #[.int .i64 t0, .int .i64 t1] 35 (0, 0)), (g11, .cells #[.int .i64 x1, .int .i64 x2] 35 (0, 0)), (g13, .cells #[.int .i64 x1, .int .i64 x2] 35 (0, 0)), (g15, .cells #[.int .i64 y1, .int .i64 y2] 35 (0, 0)), (g17, .cells #[.int .i64 y1, .int .i64 y2] 35 (0, 0)), (g19, .cells #[.int .i64 s1, .int .i64 s2, .int .i64 s3, .int .i64 s4] 43 (0, 0)), (g21, .cells #[.int .i64 s1, .int .i64 s2, .int .i64 s3, .int .i64 s4] 43 (0, 0)), (g29, .cells #[.int .i64 f1, .int .i64 f2] 44 (0, 0))] w10 := HO
              obtain ⟨p7_0, p7_1, p7_2, p7_3, f7_0, f7_1, f7_2, f7_3⟩ := HO.c4 2 rfl
              go_upto_region 20 with (first | (go_at_call 36; refine (K8 _).mono ?_; rintro e w11a ⟨rfl, hb⟩; replace HO := HO.call hb; clear hb p7_0 p7_1 p7_2 p7_3 f7_0 f7_1 f7_2 f7_3))
              refine Own.gen (HO.alloc _) ?_
              clear HO; intro w11 HO; generalize w11a.heap.size = g31 at HO ⊢; clear w11a
              replace HO : Own w [(g5, .cells #[.int .i64 a0, .int .i64 a1, .int .i64 a2, .int .i64 a3] 43 (0, 0)), (g6, .cells #[.int .i64 b0, .int .i64 b1] 44 (0, 0)), (g7, .cells #[.int .i64 c0, .int .i64 c1, .int .i64 c2, .int .i64 c3] 43 (0, 0)), (g8, .cells #[.int .i64 d0, .int .i64 d1, .int .i64 d2, .int .i64 d3] 43 (0, 0)), (g9, .cells #[.int .i64 t0, .int .i64 t1] 35 (0, 0)), (g11, .cells #[.int .i64 x1, .int .i64 x2] 35 (0, 0)), (g13, .cells #[.int .i64 x1, .int .i64 x2] 35 (0, 0)), (g15, .cells #[.int .i64 y1, .int .i64 y2] 35 (0, 0)), (g17, .cells #[.int .i64 y1, .int .i64 y2] 35 (0, 0)), (g19, .cells #[.int .i64 s1, .int .i64 s2, .int .i64 s3, .int .i64 s4] 43 (0, 0)), (g21, .cells #[.int .i64 s1, .int .i64 s2, .int .i64 s3, .int .i64 s4] 43 (0, 0)), (g29, .cells #[.int .i64 f1, .int .i64 f2] 44 (0, 0)), (g31, .cells #[.int .i64 f1, .int .i64 f2] 44 (0, 0))] w11 := HO
              obtain ⟨p7_0, p7_1, p7_2, p7_3, f7_0, f7_1, f7_2, f7_3⟩ := HO.c4 2 rfl
              go_upto_region 21 with (first | (go_at_call 37; refine (K9 _).mono ?_; rintro e w12a ⟨rfl, hb⟩; replace HO := HO.call hb; clear hb p7_0 p7_1 p7_2 p7_3 f7_0 f7_1 f7_2 f7_3))
              refine Own.gen (HO.alloc _) ?_
              clear HO; intro w12 HO; generalize w12a.heap.size = g33 at HO ⊢; clear w12a
              replace HO : Own w [(g5, .cells #[.int .i64 a0, .int .i64 a1, .int .i64 a2, .int .i64 a3] 43 (0, 0)), (g6, .cells #[.int .i64 b0, .int .i64 b1] 44 (0, 0)), (g7, .cells #[.int .i64 c0, .int .i64 c1, .int .i64 c2, .int .i64 c3] 43 (0, 0)), (g8, .cells #[.int .i64 d0, .int .i64 d1, .int .i64 d2, .int .i64 d3] 43 (0, 0)), (g9, .cells #[.int .i64 t0, .int .i64 t1] 35 (0, 0)), (g11, .cells #[.int .i64 x1, .int .i64 x2] 35 (0, 0)), (g13, .cells #[.int .i64 x1, .int .i64 x2] 35 (0, 0)), (g15, .cells #[.int .i64 y1, .int .i64 y2] 35 (0, 0)), (g17, .cells #[.int .i64 y1, .int .i64 y2] 35 (0, 0)), (g19, .cells #[.int .i64 s1, .int .i64 s2, .int .i64 s3, .int .i64 s4] 43 (0, 0)), (g21, .cells #[.int .i64 s1, .int .i64 s2, .int .i64 s3, .int .i64 s4] 43 (0, 0)), (g29, .cells #[.int .i64 f1, .int .i64 f2] 44 (0, 0)), (g31, .cells #[.int .i64 f1, .int .i64 f2] 44 (0, 0)), (g33, .cells #[.int .i64 e1, .int .i64 e2] 44 (0, 0))] w12 := HO
              obtain ⟨p7_0, p7_1, p7_2, p7_3, f7_0, f7_1, f7_2, f7_3⟩ := HO.c4 2 rfl
              go_upto_region 22 with (first | (go_at_call 38; refine (K10 _).mono ?_; rintro e w13a ⟨rfl, hb⟩; replace HO := HO.call hb; clear hb p7_0 p7_1 p7_2 p7_3 f7_0 f7_1 f7_2 f7_3))
              refine Own.gen (HO.alloc _) ?_
              clear HO; intro w13 HO; generalize w13a.heap.size = g35 at HO ⊢; clear w13a
              replace HO : Own w [(g5, .cells #[.int .i64 a0, .int .i64 a1, .int .i64 a2, .int .i64 a3] 43 (0, 0)), (g6, .cells #[.int .i64 b0, .int .i64 b1] 44 (0, 0)), (g7, .cells #[.int .i64 c0, .int .i64 c1, .int .i64 c2, .int .i64 c3] 43 (0, 0)), (g8, .cells #[.int .i64 d0, .int .i64 d1, .int .i64 d2, .int .i64 d3] 43 (0, 0)), (g9, .cells #[.int .i64 t0, .int .i64 t1] 35 (0, 0)), (g11, .cells #[.int .i64 x1, .int .i64 x2] 35 (0, 0)), (g13, .cells #[.int .i64 x1, .int .i64 x2] 35 (0, 0)), (g15, .cells #[.int .i64 y1, .int .i64 y2] 35 (0, 0)), (g17, .cells #[.int .i64 y1, .int .i64 y2] 35 (0, 0)), (g19, .cells #[.int .i64 s1, .int .i64 s2, .int .i64 s3, .int .i64 s4] 43 (0, 0)), (g21, .cells #[.int .i64 s1, .int .i64 s2, .int .i64 s3, .int .i64 s4] 43 (0, 0)), (g29, .cells #[.int .i64 f1, .int .i64 f2] 44 (0, 0)), (g31, .cells #[.int .i64 f1, .int .i64 f2] 44 (0, 0)), (g33, .cells #[.int .i64 e1, .int .i64 e2] 44 (0, 0)), (g35, .cells #[.int .i64 e1, .int .i64 e2] 44 (0, 0))] w13 := HO
              clear K7 K8 K9 K10
              go_cut [229] (fun v229 wc => v229 = .bool false ∧ Own w [(g5, .cells #[.int .i64 a0, .int .i64 a1, .int .i64 a2, .int .i64 a3] 43 (0, 0)), (g6, .cells #[.int .i64 b0, .int .i64 b1] 44 (0, 0)), (g7, .cells #[.int .i64 c0, .int .i64 c1, .int .i64 c2, .int .i64 c3] 43 (0, 0)), (g8, .cells #[.int .i64 d0, .int .i64 d1, .int .i64 d2, .int .i64 d3] 43 (0, 0)), (g9, .cells #[.int .i64 t0, .int .i64 t1] 35 (0, 0)), (g11, .cells #[.int .i64 x1, .int .i64 x2] 35 (0, 0)), (g13, .cells #[.int .i64 x1, .int .i64 x2] 35 (0, 0)), (g15, .cells #[.int .i64 y1, .int .i64 y2] 35 (0, 0)), (g17, .cells #[.int .i64 y1, .int .i64 y2] 35 (0, 0)), (g19, .cells #[.int .i64 s1, .int .i64 s2, .int .i64 s3, .int .i64 s4] 43 (0, 0)), (g21, .cells #[.int .i64 s1, .int .i64 s2, .int .i64 s3, .int .i64 s4] 43 (0, 0)), (g29, .cells #[.int .i64 f1, .int .i64 f2] 44 (0, 0)), (g31, .cells #[.int .i64 f1, .int .i64 f2] 44 (0, 0)), (g33, .cells #[.int .i64 e1, .int .i64 e2] 44 (0, 0)), (g35, .cells #[.int .i64 e1, .int .i64 e2] 44 (0, 0))] wc)
              case first =>
                as_aux_lemma =>
                  have Q11 : ∀ d os, Calls Try.prog 39 #[.agg #[.int .i64 c0, .int .i64 c1, .int .i64 c2, .int .i64 c3]] (grow (redrawn w13 d) os) fun e w'' => e = .returned (.bool ck) ∧ ∃ p : Regrown, w'' = grow (redrawn w13 p.d) p.os := fun d os => Calls.regrown_of (K11 _)
                  have Q12 : ∀ d os, Calls Try.prog 40 #[.agg #[.int .i64 c0, .int .i64 c1, .int .i64 c2, .int .i64 c3]] (grow (redrawn w13 d) os) fun e w'' => e = .returned (.bool ck) ∧ ∃ p : Regrown, w'' = grow (redrawn w13 p.d) p.os := fun d os => Calls.regrown_of (K12 _)
                  cases five <;> cases seven
                  · as_aux_lemma =>
                    obtain ⟨p29_0, p29_1, f29_0, f29_1⟩ := HO.c2 11 rfl
                    obtain ⟨p31_0, p31_1, f31_0, f31_1⟩ := HO.c2 12 rfl
                    obtain ⟨p33_0, p33_1, f33_0, f33_1⟩ := HO.c2 13 rfl
                    obtain ⟨p35_0, p35_1, f35_0, f35_1⟩ := HO.c2 14 rfl
                    obtain ⟨p7_0, p7_1, p7_2, p7_3, f7_0, f7_1, f7_2, f7_3⟩ := HO.c4 2 rfl
                    have kp29_0 := cell_regrown p29_0; have kp29_1 := cell_regrown p29_1; have kp31_0 := cell_regrown p31_0; have kp31_1 := cell_regrown p31_1; have kp33_0 := cell_regrown p33_0; have kp33_1 := cell_regrown p33_1; have kp35_0 := cell_regrown p35_0; have kp35_1 := cell_regrown p35_1; have kp7_0 := cell_regrown p7_0; have kp7_1 := cell_regrown p7_1; have kp7_2 := cell_regrown p7_2; have kp7_3 := cell_regrown p7_3
                    refine wp_region_quiet_below (by kernel_rfl) (by kernel_rfl) ?_
                    repeat (quiet_step (first | exact Q11 _ _ | exact Q12 _ _))
                    refine wpQuiet_nil ?_
                    intro _ hw'; obtain ⟨⟨dq, osq⟩, hw''⟩ := hw'; subst hw''
                    replace HO := HO.call (below_regrown _ dq osq)
                    go_wp2; go_meet
                    exact ⟨by first | rfl | simp, HO⟩
                  · as_aux_lemma =>
                    obtain rfl := B4.out rfl
                    obtain ⟨p29_0, p29_1, f29_0, f29_1⟩ := HO.c2 11 rfl
                    obtain ⟨p31_0, p31_1, f31_0, f31_1⟩ := HO.c2 12 rfl
                    obtain ⟨p33_0, p33_1, f33_0, f33_1⟩ := HO.c2 13 rfl
                    obtain ⟨p35_0, p35_1, f35_0, f35_1⟩ := HO.c2 14 rfl
                    obtain ⟨p7_0, p7_1, p7_2, p7_3, f7_0, f7_1, f7_2, f7_3⟩ := HO.c4 2 rfl
                    have kp29_0 := cell_regrown p29_0; have kp29_1 := cell_regrown p29_1; have kp31_0 := cell_regrown p31_0; have kp31_1 := cell_regrown p31_1; have kp33_0 := cell_regrown p33_0; have kp33_1 := cell_regrown p33_1; have kp35_0 := cell_regrown p35_0; have kp35_1 := cell_regrown p35_1; have kp7_0 := cell_regrown p7_0; have kp7_1 := cell_regrown p7_1; have kp7_2 := cell_regrown p7_2; have kp7_3 := cell_regrown p7_3
                    refine wp_region_quiet_below (by kernel_rfl) (by kernel_rfl) ?_
                    repeat (quiet_step (first | exact Q11 _ _ | exact Q12 _ _))
                    refine wpQuiet_nil ?_
                    intro _ hw'; obtain ⟨⟨dq, osq⟩, hw''⟩ := hw'; subst hw''
                    replace HO := HO.call (below_regrown _ dq osq)
                    go_wp2; go_meet
                    exact ⟨by first | rfl | simp, HO⟩
                  · as_aux_lemma =>
                    obtain rfl := B3.out rfl
                    obtain ⟨p29_0, p29_1, f29_0, f29_1⟩ := HO.c2 11 rfl
                    obtain ⟨p31_0, p31_1, f31_0, f31_1⟩ := HO.c2 12 rfl
                    obtain ⟨p33_0, p33_1, f33_0, f33_1⟩ := HO.c2 13 rfl
                    obtain ⟨p35_0, p35_1, f35_0, f35_1⟩ := HO.c2 14 rfl
                    obtain ⟨p7_0, p7_1, p7_2, p7_3, f7_0, f7_1, f7_2, f7_3⟩ := HO.c4 2 rfl
                    have kp29_0 := cell_regrown p29_0; have kp29_1 := cell_regrown p29_1; have kp31_0 := cell_regrown p31_0; have kp31_1 := cell_regrown p31_1; have kp33_0 := cell_regrown p33_0; have kp33_1 := cell_regrown p33_1; have kp35_0 := cell_regrown p35_0; have kp35_1 := cell_regrown p35_1; have kp7_0 := cell_regrown p7_0; have kp7_1 := cell_regrown p7_1; have kp7_2 := cell_regrown p7_2; have kp7_3 := cell_regrown p7_3
                    refine wp_region_quiet_below (by kernel_rfl) (by kernel_rfl) ?_
                    repeat (quiet_step (first | exact Q11 _ _ | exact Q12 _ _))
                    refine wpQuiet_nil ?_
                    intro _ hw'; obtain ⟨⟨dq, osq⟩, hw''⟩ := hw'; subst hw''
                    replace HO := HO.call (below_regrown _ dq osq)
                    go_wp2; go_meet
                    exact ⟨by first | rfl | simp, HO⟩
                  · as_aux_lemma =>
                    obtain rfl := B3.out rfl
                    obtain ⟨p29_0, p29_1, f29_0, f29_1⟩ := HO.c2 11 rfl
                    obtain ⟨p31_0, p31_1, f31_0, f31_1⟩ := HO.c2 12 rfl
                    obtain ⟨p33_0, p33_1, f33_0, f33_1⟩ := HO.c2 13 rfl
                    obtain ⟨p35_0, p35_1, f35_0, f35_1⟩ := HO.c2 14 rfl
                    obtain ⟨p7_0, p7_1, p7_2, p7_3, f7_0, f7_1, f7_2, f7_3⟩ := HO.c4 2 rfl
                    have kp29_0 := cell_regrown p29_0; have kp29_1 := cell_regrown p29_1; have kp31_0 := cell_regrown p31_0; have kp31_1 := cell_regrown p31_1; have kp33_0 := cell_regrown p33_0; have kp33_1 := cell_regrown p33_1; have kp35_0 := cell_regrown p35_0; have kp35_1 := cell_regrown p35_1; have kp7_0 := cell_regrown p7_0; have kp7_1 := cell_regrown p7_1; have kp7_2 := cell_regrown p7_2; have kp7_3 := cell_regrown p7_3
                    refine wp_region_quiet_below (by kernel_rfl) (by kernel_rfl) ?_
                    repeat (quiet_step (first | exact Q11 _ _ | exact Q12 _ _))
                    refine wpQuiet_nil ?_
                    intro _ hw'; obtain ⟨⟨dq, osq⟩, hw''⟩ := hw'; subst hw''
                    replace HO := HO.call (below_regrown _ dq osq)
                    go_wp2; go_meet
                    exact ⟨by first | rfl | simp, HO⟩
              case rest =>
                as_aux_lemma =>
                  clear HO; obtain ⟨rfl, HO⟩ := hcut
                  revert HO; generalize wc = w14; intro HO
                  clear K11 K12
                  go_upto_if 230 with (fail)
                  go_cut [] (fun wc => Own w [(g5, .cells #[.int .i64 a0, .int .i64 a1, .int .i64 a2, .int .i64 a3] 43 (0, 0)), (g6, .cells #[.int .i64 b0, .int .i64 b1] 44 (0, 0)), (g7, .cells #[.int .i64 c0, .int .i64 c1, .int .i64 c2, .int .i64 c3] 43 (0, 0)), (g8, .cells #[.int .i64 d0, .int .i64 d1, .int .i64 d2, .int .i64 d3] 43 (0, 0)), (g9, .cells #[.int .i64 t0, .int .i64 t1] 35 (0, 0)), (g11, .cells #[.int .i64 x1, .int .i64 x2] 35 (0, 0)), (g13, .cells #[.int .i64 x1, .int .i64 x2] 35 (0, 0)), (g15, .cells #[.int .i64 y1, .int .i64 y2] 35 (0, 0)), (g17, .cells #[.int .i64 y1, .int .i64 y2] 35 (0, 0)), (g19, .cells #[.int .i64 s1, .int .i64 s2, .int .i64 s3, .int .i64 s4] 43 (0, 0)), (g21, .cells #[.int .i64 s1, .int .i64 s2, .int .i64 s3, .int .i64 s4] 43 (0, 0)), (g29, .cells #[.int .i64 f1, .int .i64 f2] 44 (0, 0)), (g31, .cells #[.int .i64 f1, .int .i64 f2] 44 (0, 0)), (g33, .cells #[.int .i64 e1, .int .i64 e2] 44 (0, 0)), (g35, .cells #[.int .i64 e1, .int .i64 e2] 44 (0, 0))] wc)
                  case first =>
                    as_aux_lemma =>
                      cases five with
                      | false =>
                        as_aux_lemma =>
                          go_wp2
                          go_meet
                          exact HO
                      | true =>
                        as_aux_lemma =>
                          obtain ⟨M1, M2⟩ := B5.out rfl; have M2 : decide (f1 < 1) = false := decide_eq_false (by omega)
                          have L1 := fun W => impl_AheadAfter.calls k c0 c1 c2 c3 f1 f2 0 1 true W M1
                          clear M1
                          go_upto_region 25 with (fail)
                          obtain ⟨p7_0, p7_1, p7_2, p7_3, f7_0, f7_1, f7_2, f7_3⟩ := HO.c4 2 rfl
                          obtain ⟨p29_0, p29_1, f29_0, f29_1⟩ := HO.c2 11 rfl
                          go_upto_region 26 with (first | (go_at_call 29; refine (L1 _).mono ?_; rintro e w15a ⟨rfl, hb⟩; replace HO := HO.call hb; clear hb p7_0 p7_1 p7_2 p7_3 f7_0 f7_1 f7_2 f7_3 p29_0 p29_1 f29_0 f29_1))
                          refine Own.gen (HO.alloc _) ?_
                          clear HO; intro w15 HO; generalize w15a.heap.size = g37 at HO ⊢; clear w15a
                          replace HO : Own w [(g5, .cells #[.int .i64 a0, .int .i64 a1, .int .i64 a2, .int .i64 a3] 43 (0, 0)), (g6, .cells #[.int .i64 b0, .int .i64 b1] 44 (0, 0)), (g7, .cells #[.int .i64 c0, .int .i64 c1, .int .i64 c2, .int .i64 c3] 43 (0, 0)), (g8, .cells #[.int .i64 d0, .int .i64 d1, .int .i64 d2, .int .i64 d3] 43 (0, 0)), (g9, .cells #[.int .i64 t0, .int .i64 t1] 35 (0, 0)), (g11, .cells #[.int .i64 x1, .int .i64 x2] 35 (0, 0)), (g13, .cells #[.int .i64 x1, .int .i64 x2] 35 (0, 0)), (g15, .cells #[.int .i64 y1, .int .i64 y2] 35 (0, 0)), (g17, .cells #[.int .i64 y1, .int .i64 y2] 35 (0, 0)), (g19, .cells #[.int .i64 s1, .int .i64 s2, .int .i64 s3, .int .i64 s4] 43 (0, 0)), (g21, .cells #[.int .i64 s1, .int .i64 s2, .int .i64 s3, .int .i64 s4] 43 (0, 0)), (g29, .cells #[.int .i64 f1, .int .i64 f2] 44 (0, 0)), (g31, .cells #[.int .i64 f1, .int .i64 f2] 44 (0, 0)), (g33, .cells #[.int .i64 e1, .int .i64 e2] 44 (0, 0)), (g35, .cells #[.int .i64 e1, .int .i64 e2] 44 (0, 0)), (g37, .cells #[.int .i64 0, .int .i64 1] 35 (0, 0))] w15 := HO
                          obtain ⟨p37_0, p37_1, f37_0, f37_1⟩ := HO.c2 15 rfl
                          obtain ⟨p29_0, p29_1, f29_0, f29_1⟩ := HO.c2 11 rfl
                          go_wp2
                          go_meet
                          exact Own.less (HO)
                  case rest =>
                    as_aux_lemma =>
                      clear HO; have HO := hcut; clear hcut
                      revert HO; generalize wc = w15; intro HO
                      go_upto_region 28 with (fail)
                      obtain ⟨q252, hq252⟩ : ∃ q, q = (five && seven) := ⟨_, rfl⟩
                      replace hq252 := Aside0.mk hq252
                      go_cut [252] (fun v252 wc => v252 = .bool q252 ∧ Own w [(g5, .cells #[.int .i64 a0, .int .i64 a1, .int .i64 a2, .int .i64 a3] 43 (0, 0)), (g6, .cells #[.int .i64 b0, .int .i64 b1] 44 (0, 0)), (g7, .cells #[.int .i64 c0, .int .i64 c1, .int .i64 c2, .int .i64 c3] 43 (0, 0)), (g8, .cells #[.int .i64 d0, .int .i64 d1, .int .i64 d2, .int .i64 d3] 43 (0, 0)), (g9, .cells #[.int .i64 t0, .int .i64 t1] 35 (0, 0)), (g11, .cells #[.int .i64 x1, .int .i64 x2] 35 (0, 0)), (g13, .cells #[.int .i64 x1, .int .i64 x2] 35 (0, 0)), (g15, .cells #[.int .i64 y1, .int .i64 y2] 35 (0, 0)), (g17, .cells #[.int .i64 y1, .int .i64 y2] 35 (0, 0)), (g19, .cells #[.int .i64 s1, .int .i64 s2, .int .i64 s3, .int .i64 s4] 43 (0, 0)), (g21, .cells #[.int .i64 s1, .int .i64 s2, .int .i64 s3, .int .i64 s4] 43 (0, 0)), (g29, .cells #[.int .i64 f1, .int .i64 f2] 44 (0, 0)), (g31, .cells #[.int .i64 f1, .int .i64 f2] 44 (0, 0)), (g33, .cells #[.int .i64 e1, .int .i64 e2] 44 (0, 0)), (g35, .cells #[.int .i64 e1, .int .i64 e2] 44 (0, 0))] wc)
                      case first =>
                        as_aux_lemma =>
                          cases five
                          all_goals (go_wp2; go_meet)
                          all_goals exact ⟨by rw [hq252.out]; first | rfl | simp, HO⟩
                      case rest =>
                        as_aux_lemma =>
                          clear HO; obtain ⟨rfl, HO⟩ := hcut
                          revert HO; generalize wc = w16; intro HO
                          go_upto_if 252 with (fail)
                          go_cut [] (fun wc => Own w [(g5, .cells #[.int .i64 a0, .int .i64 a1, .int .i64 a2, .int .i64 a3] 43 (0, 0)), (g6, .cells #[.int .i64 b0, .int .i64 b1] 44 (0, 0)), (g7, .cells #[.int .i64 c0, .int .i64 c1, .int .i64 c2, .int .i64 c3] 43 (0, 0)), (g8, .cells #[.int .i64 d0, .int .i64 d1, .int .i64 d2, .int .i64 d3] 43 (0, 0)), (g9, .cells #[.int .i64 t0, .int .i64 t1] 35 (0, 0)), (g11, .cells #[.int .i64 x1, .int .i64 x2] 35 (0, 0)), (g13, .cells #[.int .i64 x1, .int .i64 x2] 35 (0, 0)), (g15, .cells #[.int .i64 y1, .int .i64 y2] 35 (0, 0)), (g17, .cells #[.int .i64 y1, .int .i64 y2] 35 (0, 0)), (g19, .cells #[.int .i64 s1, .int .i64 s2, .int .i64 s3, .int .i64 s4] 43 (0, 0)), (g21, .cells #[.int .i64 s1, .int .i64 s2, .int .i64 s3, .int .i64 s4] 43 (0, 0)), (g29, .cells #[.int .i64 f1, .int .i64 f2] 44 (0, 0)), (g31, .cells #[.int .i64 f1, .int .i64 f2] 44 (0, 0)), (g33, .cells #[.int .i64 e1, .int .i64 e2] 44 (0, 0)), (g35, .cells #[.int .i64 e1, .int .i64 e2] 44 (0, 0))] wc)
                          case first =>
                            as_aux_lemma =>
                              cases q252 with
                              | false =>
                                as_aux_lemma =>
                                  go_wp2
                                  go_meet
                                  exact HO
                              | true =>
                                as_aux_lemma =>
                                  have hq := hq252.out; simp only [Bool.true_eq, Bool.and_eq_true] at hq
                                  obtain ⟨M0, n1, n2, nn, M1, M2⟩ := B6.out hq.1 hq.2; have M2 := Aside0.mk M2; have M0 : decide (wrap64 (f1 * e2) > wrap64 (e1 * f2)) = false := decide_eq_false (by omega); clear hq hq252
                                  have L1 := fun W => impl_AddSpans.calls k f1 f2 e1 e2 n1 n2 nn W M1
                                  clear M1
                                  go_upto_region 29 with (fail)
                                  obtain ⟨p29_0, p29_1, f29_0, f29_1⟩ := HO.c2 11 rfl
                                  obtain ⟨p33_0, p33_1, f33_0, f33_1⟩ := HO.c2 13 rfl
                                  go_upto_region 31 with (fail)
                                  clear p29_0 p29_1 f29_0 f29_1 p33_0 p33_1 f33_0 f33_1
                                  obtain ⟨p29_0, p29_1, f29_0, f29_1⟩ := HO.c2 11 rfl
                                  obtain ⟨p33_0, p33_1, f33_0, f33_1⟩ := HO.c2 13 rfl
                                  go_upto_region 32 with (first | (go_at_call 41; refine (L1 _).mono ?_; rintro e w17a ⟨rfl, hb⟩; replace HO := HO.call hb; clear hb p29_0 p29_1 f29_0 f29_1 p33_0 p33_1 f33_0 f33_1))
                                  refine Own.gen (HO.alloc _) ?_
                                  clear HO; intro w17 HO; generalize w17a.heap.size = g39 at HO ⊢; clear w17a
                                  replace HO : Own w [(g5, .cells #[.int .i64 a0, .int .i64 a1, .int .i64 a2, .int .i64 a3] 43 (0, 0)), (g6, .cells #[.int .i64 b0, .int .i64 b1] 44 (0, 0)), (g7, .cells #[.int .i64 c0, .int .i64 c1, .int .i64 c2, .int .i64 c3] 43 (0, 0)), (g8, .cells #[.int .i64 d0, .int .i64 d1, .int .i64 d2, .int .i64 d3] 43 (0, 0)), (g9, .cells #[.int .i64 t0, .int .i64 t1] 35 (0, 0)), (g11, .cells #[.int .i64 x1, .int .i64 x2] 35 (0, 0)), (g13, .cells #[.int .i64 x1, .int .i64 x2] 35 (0, 0)), (g15, .cells #[.int .i64 y1, .int .i64 y2] 35 (0, 0)), (g17, .cells #[.int .i64 y1, .int .i64 y2] 35 (0, 0)), (g19, .cells #[.int .i64 s1, .int .i64 s2, .int .i64 s3, .int .i64 s4] 43 (0, 0)), (g21, .cells #[.int .i64 s1, .int .i64 s2, .int .i64 s3, .int .i64 s4] 43 (0, 0)), (g29, .cells #[.int .i64 f1, .int .i64 f2] 44 (0, 0)), (g31, .cells #[.int .i64 f1, .int .i64 f2] 44 (0, 0)), (g33, .cells #[.int .i64 e1, .int .i64 e2] 44 (0, 0)), (g35, .cells #[.int .i64 e1, .int .i64 e2] 44 (0, 0)), (g39, .cells #[.int .i64 n1, .int .i64 n2] 44 (0, 0))] w17 := HO
                                  cases nn with
                                  | false =>
                                    as_aux_lemma =>
                                      go_wp2
                                      go_meet
                                      exact Own.less (HO)
                                  | true =>
                                    as_aux_lemma =>
                                      have M2 := M2.out rfl
                                      have L2 := fun W => impl_AheadAfter.calls k c0 c1 c2 c3 n1 n2 0 1 true W M2
                                      clear M2
                                      go_upto_region 33 with (fail)
                                      obtain ⟨p7_0, p7_1, p7_2, p7_3, f7_0, f7_1, f7_2, f7_3⟩ := HO.c4 2 rfl
                                      obtain ⟨p39_0, p39_1, f39_0, f39_1⟩ := HO.c2 15 rfl
                                      go_upto_region 34 with (first | (go_at_call 29; refine (L2 _).mono ?_; rintro e w18a ⟨rfl, hb⟩; replace HO := HO.call hb; clear hb p7_0 p7_1 p7_2 p7_3 f7_0 f7_1 f7_2 f7_3 p39_0 p39_1 f39_0 f39_1))
                                      refine Own.gen (HO.alloc _) ?_
                                      clear HO; intro w18 HO; generalize w18a.heap.size = g41 at HO ⊢; clear w18a
                                      replace HO : Own w [(g5, .cells #[.int .i64 a0, .int .i64 a1, .int .i64 a2, .int .i64 a3] 43 (0, 0)), (g6, .cells #[.int .i64 b0, .int .i64 b1] 44 (0, 0)), (g7, .cells #[.int .i64 c0, .int .i64 c1, .int .i64 c2, .int .i64 c3] 43 (0, 0)), (g8, .cells #[.int .i64 d0, .int .i64 d1, .int .i64 d2, .int .i64 d3] 43 (0, 0)), (g9, .cells #[.int .i64 t0, .int .i64 t1] 35 (0, 0)), (g11, .cells #[.int .i64 x1, .int .i64 x2] 35 (0, 0)), (g13, .cells #[.int .i64 x1, .int .i64 x2] 35 (0, 0)), (g15, .cells #[.int .i64 y1, .int .i64 y2] 35 (0, 0)), (g17, .cells #[.int .i64 y1, .int .i64 y2] 35 (0, 0)), (g19, .cells #[.int .i64 s1, .int .i64 s2, .int .i64 s3, .int .i64 s4] 43 (0, 0)), (g21, .cells #[.int .i64 s1, .int .i64 s2, .int .i64 s3, .int .i64 s4] 43 (0, 0)), (g29, .cells #[.int .i64 f1, .int .i64 f2] 44 (0, 0)), (g31, .cells #[.int .i64 f1, .int .i64 f2] 44 (0, 0)), (g33, .cells #[.int .i64 e1, .int .i64 e2] 44 (0, 0)), (g35, .cells #[.int .i64 e1, .int .i64 e2] 44 (0, 0)), (g39, .cells #[.int .i64 n1, .int .i64 n2] 44 (0, 0)), (g41, .cells #[.int .i64 0, .int .i64 1] 35 (0, 0))] w18 := HO
                                      obtain ⟨p41_0, p41_1, f41_0, f41_1⟩ := HO.c2 16 rfl
                                      go_wp2
                                      go_meet
                                      exact Own.less (Own.less (HO))
                          case rest =>
                            as_aux_lemma =>
                              clear HO; have HO := hcut; clear hcut
                              revert HO; generalize wc = w17; intro HO
                              go_upto_region 36 with (fail)
                              obtain ⟨p8_0, p8_1, p8_2, p8_3, f8_0, f8_1, f8_2, f8_3⟩ := HO.c4 3 rfl
                              obtain ⟨p9_0, p9_1, f9_0, f9_1⟩ := HO.c2 4 rfl
                              go_upto_region 37 with (first | (go_at_call 42; refine (K13 _).mono ?_; rintro e w18a ⟨rfl, hb⟩; replace HO := HO.call hb; clear hb p8_0 p8_1 p8_2 p8_3 f8_0 f8_1 f8_2 f8_3 p9_0 p9_1 f9_0 f9_1))
                              refine Own.gen (HO.alloc _) ?_
                              clear HO; intro w18 HO; generalize w18a.heap.size = g43 at HO ⊢; clear w18a
                              replace HO : Own w [(g5, .cells #[.int .i64 a0, .int .i64 a1, .int .i64 a2, .int .i64 a3] 43 (0, 0)), (g6, .cells #[.int .i64 b0, .int .i64 b1] 44 (0, 0)), (g7, .cells #[.int .i64 c0, .int .i64 c1, .int .i64 c2, .int .i64 c3] 43 (0, 0)), (g8, .cells #[.int .i64 d0, .int .i64 d1, .int .i64 d2, .int .i64 d3] 43 (0, 0)), (g9, .cells #[.int .i64 t0, .int .i64 t1] 35 (0, 0)), (g11, .cells #[.int .i64 x1, .int .i64 x2] 35 (0, 0)), (g13, .cells #[.int .i64 x1, .int .i64 x2] 35 (0, 0)), (g15, .cells #[.int .i64 y1, .int .i64 y2] 35 (0, 0)), (g17, .cells #[.int .i64 y1, .int .i64 y2] 35 (0, 0)), (g19, .cells #[.int .i64 s1, .int .i64 s2, .int .i64 s3, .int .i64 s4] 43 (0, 0)), (g21, .cells #[.int .i64 s1, .int .i64 s2, .int .i64 s3, .int .i64 s4] 43 (0, 0)), (g29, .cells #[.int .i64 f1, .int .i64 f2] 44 (0, 0)), (g31, .cells #[.int .i64 f1, .int .i64 f2] 44 (0, 0)), (g33, .cells #[.int .i64 e1, .int .i64 e2] 44 (0, 0)), (g35, .cells #[.int .i64 e1, .int .i64 e2] 44 (0, 0)), (g43, .cells #[.int .i64 h1, .int .i64 h2] 44 (0, 0))] w18 := HO
                              obtain ⟨p8_0, p8_1, p8_2, p8_3, f8_0, f8_1, f8_2, f8_3⟩ := HO.c4 3 rfl
                              obtain ⟨p9_0, p9_1, f9_0, f9_1⟩ := HO.c2 4 rfl
                              go_upto_region 38 with (first | (go_at_call 43; refine (K14 _).mono ?_; rintro e w19a ⟨rfl, hb⟩; replace HO := HO.call hb; clear hb p8_0 p8_1 p8_2 p8_3 f8_0 f8_1 f8_2 f8_3 p9_0 p9_1 f9_0 f9_1))
                              refine Own.gen (HO.alloc _) ?_
                              clear HO; intro w19 HO; generalize w19a.heap.size = g45 at HO ⊢; clear w19a
                              replace HO : Own w [(g5, .cells #[.int .i64 a0, .int .i64 a1, .int .i64 a2, .int .i64 a3] 43 (0, 0)), (g6, .cells #[.int .i64 b0, .int .i64 b1] 44 (0, 0)), (g7, .cells #[.int .i64 c0, .int .i64 c1, .int .i64 c2, .int .i64 c3] 43 (0, 0)), (g8, .cells #[.int .i64 d0, .int .i64 d1, .int .i64 d2, .int .i64 d3] 43 (0, 0)), (g9, .cells #[.int .i64 t0, .int .i64 t1] 35 (0, 0)), (g11, .cells #[.int .i64 x1, .int .i64 x2] 35 (0, 0)), (g13, .cells #[.int .i64 x1, .int .i64 x2] 35 (0, 0)), (g15, .cells #[.int .i64 y1, .int .i64 y2] 35 (0, 0)), (g17, .cells #[.int .i64 y1, .int .i64 y2] 35 (0, 0)), (g19, .cells #[.int .i64 s1, .int .i64 s2, .int .i64 s3, .int .i64 s4] 43 (0, 0)), (g21, .cells #[.int .i64 s1, .int .i64 s2, .int .i64 s3, .int .i64 s4] 43 (0, 0)), (g29, .cells #[.int .i64 f1, .int .i64 f2] 44 (0, 0)), (g31, .cells #[.int .i64 f1, .int .i64 f2] 44 (0, 0)), (g33, .cells #[.int .i64 e1, .int .i64 e2] 44 (0, 0)), (g35, .cells #[.int .i64 e1, .int .i64 e2] 44 (0, 0)), (g43, .cells #[.int .i64 h1, .int .i64 h2] 44 (0, 0)), (g45, .cells #[.int .i64 h1, .int .i64 h2] 44 (0, 0))] w19 := HO
                              obtain ⟨p43_0, p43_1, f43_0, f43_1⟩ := HO.c2 15 rfl
                              obtain ⟨p45_0, p45_1, f45_0, f45_1⟩ := HO.c2 16 rfl
                              go_upto_region 40 with (fail)
                              clear p43_0 p43_1 f43_0 f43_1 p45_0 p45_1 f45_0 f45_1
                              cases nine with
                              | false =>
                                as_aux_lemma =>
                                  go_wp2; go_ret; exact ⟨rfl, HO.below⟩
                              | true =>
                                as_aux_lemma =>
                                  obtain ⟨M1, M2⟩ := B7.out rfl; have M2 : decide (wrap64 (h1 * d2) ≥ wrap64 (h2 * d3)) = false := decide_eq_false (by omega)
                                  have L1 := fun W => impl_ShownAfter.calls k d0 d1 d2 d3 h1 h2 t0 t1 true W M1
                                  clear M1
                                  go_upto_region 41 with (fail)
                                  obtain ⟨p8_0, p8_1, p8_2, p8_3, f8_0, f8_1, f8_2, f8_3⟩ := HO.c4 3 rfl
                                  obtain ⟨p43_0, p43_1, f43_0, f43_1⟩ := HO.c2 15 rfl
                                  go_upto_region 42 with (first | (go_at_call 27; refine (L1 _).mono ?_; rintro e w20a ⟨rfl, hb⟩; replace HO := HO.call hb; clear hb p8_0 p8_1 p8_2 p8_3 f8_0 f8_1 f8_2 f8_3 p43_0 p43_1 f43_0 f43_1))
                                  refine Own.gen (HO.alloc _) ?_
                                  clear HO; intro w20 HO; generalize w20a.heap.size = g47 at HO ⊢; clear w20a
                                  replace HO : Own w [(g5, .cells #[.int .i64 a0, .int .i64 a1, .int .i64 a2, .int .i64 a3] 43 (0, 0)), (g6, .cells #[.int .i64 b0, .int .i64 b1] 44 (0, 0)), (g7, .cells #[.int .i64 c0, .int .i64 c1, .int .i64 c2, .int .i64 c3] 43 (0, 0)), (g8, .cells #[.int .i64 d0, .int .i64 d1, .int .i64 d2, .int .i64 d3] 43 (0, 0)), (g9, .cells #[.int .i64 t0, .int .i64 t1] 35 (0, 0)), (g11, .cells #[.int .i64 x1, .int .i64 x2] 35 (0, 0)), (g13, .cells #[.int .i64 x1, .int .i64 x2] 35 (0, 0)), (g15, .cells #[.int .i64 y1, .int .i64 y2] 35 (0, 0)), (g17, .cells #[.int .i64 y1, .int .i64 y2] 35 (0, 0)), (g19, .cells #[.int .i64 s1, .int .i64 s2, .int .i64 s3, .int .i64 s4] 43 (0, 0)), (g21, .cells #[.int .i64 s1, .int .i64 s2, .int .i64 s3, .int .i64 s4] 43 (0, 0)), (g29, .cells #[.int .i64 f1, .int .i64 f2] 44 (0, 0)), (g31, .cells #[.int .i64 f1, .int .i64 f2] 44 (0, 0)), (g33, .cells #[.int .i64 e1, .int .i64 e2] 44 (0, 0)), (g35, .cells #[.int .i64 e1, .int .i64 e2] 44 (0, 0)), (g43, .cells #[.int .i64 h1, .int .i64 h2] 44 (0, 0)), (g45, .cells #[.int .i64 h1, .int .i64 h2] 44 (0, 0)), (g47, .cells #[.int .i64 t0, .int .i64 t1] 35 (0, 0))] w20 := HO
                                  obtain ⟨p47_0, p47_1, f47_0, f47_1⟩ := HO.c2 17 rfl
                                  obtain ⟨p9_0, p9_1, f9_0, f9_1⟩ := HO.c2 4 rfl
                                  obtain ⟨p43_0, p43_1, f43_0, f43_1⟩ := HO.c2 15 rfl
                                  obtain ⟨p8_0, p8_1, p8_2, p8_3, f8_0, f8_1, f8_2, f8_3⟩ := HO.c4 3 rfl
                                  go_wp2; go_ret; exact ⟨rfl, HO.below⟩
end Go.Proofs.Ytbcpdgiinebnaaa.PFnClocksDriftOfAll
