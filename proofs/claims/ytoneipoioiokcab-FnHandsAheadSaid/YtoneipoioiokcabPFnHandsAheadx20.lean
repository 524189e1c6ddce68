/- A part of the walk of FnHandsAhead: which Lean function each Go function comes to, and that the machine's call does so. Written by a program of this repo (wip/gen/xprint.py). -/
import Derived.Test.YtoneipoioiokcabPFnHandsAheadx0
import Derived.Test.YtoneipoioiokcabPFnHandsAheadx7
import Derived.Test.YtoneipoioiokcabPFnHandsAheadx15
import Derived.Test.YtoneipoioiokcabPFnHandsAheadx19
namespace Go.Proofs.Ytoneipoioiokcab.PFnHandsAhead
open Go.RowKit Go.Proofs.YtoneipoioiokcabW.PrintWords Go.Proofs.YtoneipoioiokcabW.PrintLast Go.Proofs.YtoneipoioiokcabW.PrintMore
attribute [local go_sem] max2_int min2_int max_two min_two max_three min_three max_four min_four   -- for this text's walks alone
set_option linter.unusedVariables false
set_option linter.unusedSimpArgs false

/-! ### impl_ThreeMeet: function 19 -/
section
open Go.Sort
theorem eqTT (d : Nat) (w : World) (x0 y0 : Int) (x1 y1 : Int) :
    (Op.equalIn (d + 2) 25 (.agg #[.int .i64 x0, .int .i64 x1]) (.agg #[.int .i64 y0, .int .i64 y1])).run Try.prog w = .ok (x0 == y0 && (x1 == y1)) w := by
  refine eqA_of Try.underlying25 (by kernel_rfl) ?_
  refine eqf_cons (by rfl) (by go_simp; rfl) (by go_simp; rfl) (by go_simp) ?_
  exact eqf_last (by rfl) (by go_simp; rfl) (by go_simp; rfl) (by go_simp)
attribute [local go_sem high] eqTT
set_option maxHeartbeats 4000000 in
set_option maxRecDepth 100000 in
theorem impl_ThreeMeet.del (k : Nat) (ga gc : Nat) (a0 a1 a2 c0 c1 c2 x y p1 p2 q1 q2 : Int) (w : World) (ha : w.heap[ga]? = some (.cells #[.int .i64 a0, .int .i64 a1, .int .i64 a2] 27 (0, 0))) (hc : w.heap[gc]? = some (.cells #[.int .i64 c0, .int .i64 c1, .int .i64 c2] 27 (0, 0)))
    (h1 : impl_Hand_at.f k a0 a1 a2 x y = some (p1, p2)) (h2 : impl_Hand_at.f k c0 c1 c2 x y = some (q1, q2)) :
    Calls Try.prog 46 #[.agg #[.int .i64 x, .int .i64 y], .pointer (some ⟨ga, 0, none⟩), .pointer (some ⟨gc, 0, none⟩)] w fun e w' => e = .returned (.bool (!(p1 == q1 && (p2 == q2)))) ∧ Below w.heap.size w w' := by
  have HB := Aside0.mk (Below.refl w.heap.size w)
  have BA := Aside0.mk ha
  have BC := Aside0.mk hc
  clear ha hc
  go_enter Try.func46, Try.ntmps46
  go_upto_region 1 with (first | ((with_reducible refine gate_dst (N := 3) rfl ?_); refine be #[.int .i64 x, .int .i64 y] 25 ?_; intro gb hg w1 hbox hb; have BK := Aside0.mk hbox; replace BA := zb BA hb; replace BC := zb BC hb; replace HB := zB HB hb; clear hb hbox hg))
  obtain ⟨pa0, pa1, pa2, fa0, fa1, fa2⟩ := zc3 BA
  obtain ⟨pc0, pc1, pc2, fc0, fc1, fc2⟩ := zc3 BC
  obtain ⟨pb0, pb1, fb0, fb1⟩ := zc2 BK
  have ka0 := cell_regrown pa0; have ka1 := cell_regrown pa1; have ka2 := cell_regrown pa2
  have kc0 := cell_regrown pc0; have kc1 := cell_regrown pc1; have kc2 := cell_regrown pc2
  have kb0 := cell_regrown pb0; have kb1 := cell_regrown pb1
  have Q1 : ∀ d os, Calls Try.prog 38 #[.agg #[.int .i64 a0, .int .i64 a1, .int .i64 a2], .agg #[.int .i64 x, .int .i64 y]] (grow (redrawn w1 d) os) fun e w'' => e = .returned (.agg #[.int .i64 p1, .int .i64 p2]) ∧ ∃ p : Regrown, w'' = grow (redrawn w1 p.d) p.os := fun d os => Calls.regrown_of (impl_Hand_at.calls k a0 a1 a2 x y p1 p2 _ h1)
  have Q2 : ∀ d os, Calls Try.prog 38 #[.agg #[.int .i64 c0, .int .i64 c1, .int .i64 c2], .agg #[.int .i64 x, .int .i64 y]] (grow (redrawn w1 d) os) fun e w'' => e = .returned (.agg #[.int .i64 q1, .int .i64 q2]) ∧ ∃ p : Regrown, w'' = grow (redrawn w1 p.d) p.os := fun d os => Calls.regrown_of (impl_Hand_at.calls k c0 c1 c2 x y q1 q2 _ h2)
  clear h1 h2
  try dsimp only [List.append]
  refine wp_region_quiet_below (by kernel_rfl) (by kernel_rfl) ?_
  repeat (first | go_big_quiet_step (first | with_reducible exact Q1 _ _ | with_reducible exact Q2 _ _) | quiet_step (first | with_reducible exact Q1 _ _ | with_reducible exact Q2 _ _))
  refine wpQuiet_nil ?_
  intro _ hw'; obtain ⟨⟨dq, osq⟩, hw''⟩ := hw'; subst hw''
  replace HB := Aside0.mk (below_step HB.1 (below_regrown _ dq osq))
  go_wp2
  go_ret
  exact ⟨by first | rfl | simp, HB.1⟩
/-- What the search tells: the first that is to go. -/
def impl_ThreeMeet.Found (p : S25 → Bool) (l0 : List S25) (w : World) (e : Ending) (w' : World) : Prop :=
  ((e = .returned (.int .i64 (-1)) ∧ ∀ t ∈ l0, p t = false) ∨ ∃ n : Nat, e = .returned (.int .i64 n) ∧ ∃ hn : n < l0.length, p l0[n] = true ∧ ∀ t ∈ l0.take n, p t = false) ∧ Below w.heap.size w w'
def impl_ThreeMeet.Cl (p : S25 → Bool) (l0 : List S25) (ga gc : Nat) (oa oc : Obj) : Prop :=
  ∀ t ∈ l0, ∀ W : World, W.heap[ga]? = some oa → W.heap[gc]? = some oc → Calls Try.prog 46 #[.agg #[.int .i64 t.f0, .int .i64 t.f1], .pointer (some ⟨ga, 0, none⟩), .pointer (some ⟨gc, 0, none⟩)] W fun e W' => e = .returned (.bool (p t)) ∧ Below W.heap.size W W'
set_option maxHeartbeats 8000000 in
set_option maxRecDepth 100000 in
theorem impl_ThreeMeet.search (p : S25 → Bool) (ga gc : Nat) (oa oc : Obj) (A0 : Option Addr) (c0 : Nat) (l0 : List S25) (w : World) (hr0 : Kd.C k25 w A0 l0.length l0) (ha : w.heap[ga]? = some oa) (hc : w.heap[gc]? = some oc) (hcl : impl_ThreeMeet.Cl p l0 ga gc oa oc) :
    Calls Try.prog 67 #[.slice A0 l0.length c0, .func (.func 46) #[] #[.pointer (some ⟨ga, 0, none⟩), .pointer (some ⟨gc, 0, none⟩)]] w (impl_ThreeMeet.Found p l0 w) := by
  have hM : l0.length ≤ 9223372036854775807 := Kd.C_max hr0
  have HR0 := Aside0.mk hr0
  have HA0 := Aside0.mk ha
  have HC0 := Aside0.mk hc
  have HCL := Aside0.mk hcl
  clear hr0 ha hc hcl
  go_enter Try.func67, Try.ntmps67
  go_wp2
  go_loopg [5, 8] l0.length (fun gg _ s8 wr => ∃ kk : Nat, kk ≤ l0.length ∧ l0.length - kk ≤ gg ∧ s8 = .int .i64 kk ∧ Aside0 (Below w.heap.size w wr) ∧ Aside0 (∀ t ∈ l0.take kk, p t = false))
  case atStart => exact ⟨0, Nat.zero_le _, by omega, rfl, ⟨Below.refl _ w⟩, ⟨fun t ht => by simp at ht⟩⟩
  case round =>
    obtain ⟨kk, hkk, hg, rfl, BW, A⟩ := hrel
    by_cases hlt : kk < l0.length
    · have hltz : (kk : Int) < (l0.length : Int) := by omega
      have p435 : 0 ≤ (kk : Int) := by omega
      obtain ⟨ad435, e435, hx0, hx1⟩ := at_T25 (Kd.C_below HR0.1 BW.1) (kk : Int) p435 hltz
      cases e435
      have hget : rd_T25 l0 (kk : Int) = l0[kk] := by unfold rd_T25; rw [show ((kk : Int)).toNat = kk by omega, List.getD_eq_getElem?_getD, List.getElem?_eq_getElem hlt]; rfl
      rw [hget] at hx0 hx1
      rw [show ((kk : Int)).toNat = kk by omega] at hx0 hx1
      have hcall := HCL.1 l0[kk] (List.getElem_mem hlt) wr (blk_below HA0.1 BW.1) (blk_below HC0.1 BW.1)
      have HT := Aside0.mk (List.take_succ_eq_append_getElem hlt)
      have HL := Aside0.mk hlt
      have HY : Aside0 (∃ h : kk < l0.length, l0[kk] = l0[kk]) := ⟨hlt, rfl⟩
      clear hget
      cases hq : p l0[kk] with
      | false =>
        have HQ := Aside0.mk hq
        rw [hq] at hcall
        clear hq
        generalize hy : l0[kk] = y at hx0 hx1 hcall HT HQ
        clear hy HY
        go_wp2_with (go_at_call 46; refine hcall.mono ?_; rintro e w' ⟨rfl, hb'⟩)
        go_roundg (l0.length - (kk + 1))
        case measure => omega
        case rel =>
          refine ⟨kk + 1, by omega, by omega, by go_num, ⟨below_then BW.1 BW.1.size hb'⟩, ⟨fun t ht => ?_⟩⟩
          rw [HT.1] at ht
          rcases List.mem_append.1 ht with ht | ht
          · exact A.1 t ht
          rw [List.mem_singleton.1 ht]; exact HQ.1
      | true =>
        have HQ : Aside0 (∃ hn : kk < l0.length, p l0[kk] = true) := ⟨hlt, hq⟩
        rw [hq] at hcall
        clear hq HY
        generalize l0[kk] = y at hx0 hx1 hcall
        clear HT
        go_wp2_with (go_at_call 46; refine hcall.mono ?_; rintro e w' ⟨rfl, hb'⟩)
        go_ret
        obtain ⟨hn, hq⟩ := HQ.1
        exact ⟨.inr ⟨kk, rfl, hn, hq, A.1⟩, below_then BW.1 BW.1.size hb'⟩
    have hltz : ¬ (kk : Int) < (l0.length : Int) := by omega
    go_wp2
    go_ret
    exact ⟨.inl ⟨rfl, fun t ht => A.1 t (by rw [List.take_of_length_le (by omega)]; exact ht)⟩, BW.1⟩
def enc2 (x : Int × Int) : List Value := [.int .i64 x.1, .int .i64 x.2]
theorem zero2 (n : Nat) : (Builtin.zeroCells #[Value.int .i64 0, Value.int .i64 0] n).toList = (List.replicate n ((0, 0) : Int × Int)).flatMap enc2 := by
  induction n with
  | zero => simp [Builtin.zeroCells]
  | succ n ih =>
    have e : (Builtin.zeroCells #[Value.int .i64 0, Value.int .i64 0] (n + 1)).toList = (Builtin.zeroCells #[Value.int .i64 0, Value.int .i64 0] n).toList ++ [Value.int .i64 0, Value.int .i64 0] := by
      simp only [Builtin.zeroCells]
      apply List.ext_getElem
      · simp; omega
      intro i h1 h2
      simp at h1
      have hi : ∀ j : Nat, (#[Value.int IntKind.i64 0, Value.int IntKind.i64 0] : Array Value)[j % 2]! = Value.int .i64 0 := by
        intro j
        rcases Nat.mod_two_eq_zero_or_one j with h | h <;> rw [h] <;> rfl
      by_cases c : i < n * 2
      · rw [List.getElem_append_left (by simpa using c)]
        simp [hi]
      rw [List.getElem_append_right (by simpa using Nat.le_of_not_lt c)]
      simp [hi]
      have : i - n * 2 = 0 ∨ i - n * 2 = 1 := by omega
      rcases this with h | h <;> simp [h]
    rw [e, ih, List.replicate_succ', List.flatMap_append]
    rfl
theorem run_clear2 {P : Program} (w : World) (t e ty : TypeId) (z : Value) (ht : P.underlying t = some (.slice e)) (hv : ∀ w, (zeroValue e).run P w = .ok z w) (hz : z.cells = #[.int .i64 0, .int .i64 0]) (b o n c : Nat) (hn : 0 < n)
    (hc : ∀ j, j < n * 2 → (w.cell? ⟨b, o + j, none⟩).isSome = true) (hf : ∀ j, j < n * 2 → w.frozen? ⟨b, o + j, none⟩ = false) :
    (Builtin.clear_ #[t] ty #[.slice (some ⟨b, o, none⟩) n c]).run P w = .ok (.tuple #[]) (w.setCells b o ((List.replicate n ((0, 0) : Int × Int)).flatMap enc2)) := by
  have hzc : (Builtin.zeroCells z.cells n).toList = (List.replicate n ((0, 0) : Int × Int)).flatMap enc2 := by rw [hz]; exact zero2 n
  have hl : ((List.replicate n ((0, 0) : Int × Int)).flatMap enc2).length = n * 2 := by rw [← zero2]; simp [Builtin.zeroCells]
  have hst := run_storeCells_cells (P := P) b o ((List.replicate n ((0, 0) : Int × Int)).flatMap enc2) 0 w (by rw [hl]; simpa using hc) (by rw [hl]; simpa using hf) (by intro v hv'; obtain ⟨x, _, hx⟩ := List.mem_flatMap.1 hv'; simp [enc2] at hx; rcases hx with rfl | rfl <;> rfl)
  simp only [Nat.add_zero] at hst
  obtain ⟨m, rfl⟩ : ∃ m, n = m + 1 := ⟨n - 1, by omega⟩
  simp [Builtin.clear_, run_underlying ht, hv, hzc, hst]
theorem far_any {w : World} {g : Nat} {o : Obj} {p : Addr} (h : w.heap[g]? = some o) (hp : g ≠ p.block) (u : Value) : (w.setCell p u).heap[g]? = some o := (Below.heap_setCell w p u g hp).trans h
theorem rowIs_below {W W' : World} {b : Nat} {t : TypeId} {n : Nat} {f : Nat → Value} (h : W.rowIs b t n f) (hb : Below W.heap.size W W') : W'.rowIs b t n f := h.of_block (hb.block b h.lt)
def isAt (F : Nat → Value) (j : Nat) (t : S25) : Prop := F (j * 2) = .int .i64 t.f0 ∧ F (j * 2 + 1) = .int .i64 t.f1
theorem filter_take_succ {α : Type} (q : α → Bool) (l : List α) (j : Nat) (hj : j < l.length) : ((l.take (j + 1)).filter q) = (l.take j).filter q ++ (if q l[j] = true then [l[j]] else []) := by
  rw [List.take_succ_eq_append_getElem hj, List.filter_append]
  congr 1
  by_cases h : q l[j] = true
  · rw [if_pos h, List.filter_cons_of_pos h]; rfl
  rw [if_neg h, List.filter_cons_of_neg h]; rfl
theorem del_start (p : S25 → Bool) (F : Nat → Value) (l0 : List S25) (n : Nat) (hn : n < l0.length) (hp : p l0[n] = true) (hq : ∀ t ∈ l0.take n, p t = false) (hF : ∀ j (hj : j < l0.length), isAt F j l0[j]) :
    n = ((l0.take (n + 1)).filter fun t => !p t).length ∧ ∀ t (ht : t < ((l0.take (n + 1)).filter fun t => !p t).length), isAt F t ((l0.take (n + 1)).filter fun t => !p t)[t] := by
  have e : ((l0.take (n + 1)).filter fun t => !p t) = l0.take n := by
    rw [filter_take_succ _ _ _ hn, if_neg (by simp [hp]), List.append_nil]
    exact List.filter_eq_self.2 fun t ht => by rw [hq t ht]; rfl
  rw [e]
  refine ⟨by rw [List.length_take]; omega, fun t ht => ?_⟩
  rw [List.length_take] at ht
  rw [List.getElem_take]
  exact hF t (by omega)
theorem del_step (p : S25 → Bool) (l0 : List S25) (i j : Nat) (hj : j < l0.length) (F : Nat → Value) (hI : i = ((l0.take j).filter fun t => !p t).length ∧ ∀ t (ht : t < ((l0.take j).filter fun t => !p t).length), isAt F t ((l0.take j).filter fun t => !p t)[t]) (hF : ∀ t (ht : t < l0.length), j ≤ t → isAt F t l0[t]) :
    (p l0[j] = true → i = ((l0.take (j + 1)).filter fun t => !p t).length ∧ ∀ t (ht : t < ((l0.take (j + 1)).filter fun t => !p t).length), isAt F t ((l0.take (j + 1)).filter fun t => !p t)[t]) ∧
    (p l0[j] = false → ∀ F2 : Nat → Value, isAt F2 i l0[j] → (∀ q, q ≠ i * 2 → q ≠ i * 2 + 1 → F2 q = F q) → i + 1 = ((l0.take (j + 1)).filter fun t => !p t).length ∧ ∀ t (ht : t < ((l0.take (j + 1)).filter fun t => !p t).length), isAt F2 t ((l0.take (j + 1)).filter fun t => !p t)[t]) := by
  obtain ⟨h1, h2⟩ := hI
  constructor
  · intro hp
    have e : ((l0.take (j + 1)).filter fun t => !p t) = (l0.take j).filter fun t => !p t := by rw [filter_take_succ _ _ _ hj, if_neg (by simp [hp]), List.append_nil]
    rw [e]
    exact ⟨h1, h2⟩
  intro hp F2 hi2 ho
  have e : ((l0.take (j + 1)).filter fun t => !p t) = ((l0.take j).filter fun t => !p t) ++ [l0[j]] := by rw [filter_take_succ _ _ _ hj, if_pos (by simp [hp])]
  rw [e]
  refine ⟨by rw [List.length_append, ← h1]; rfl, fun t ht => ?_⟩
  rw [List.length_append, List.length_singleton] at ht
  by_cases c : t < ((l0.take j).filter fun t => !p t).length
  · rw [List.getElem_append_left c]
    obtain ⟨a, b⟩ := h2 t c
    exact ⟨by rw [ho _ (by omega) (by omega)]; exact a, by rw [ho _ (by omega) (by omega)]; exact b⟩
  have ht2 : t = i := by omega
  subst ht2
  rw [List.getElem_append_right (by omega)]
  simpa using hi2
set_option maxHeartbeats 8000000 in
set_option maxRecDepth 100000 in
theorem impl_ThreeMeet.delete (p : S25 → Bool) (ga gc : Nat) (oa oc : Obj) (g cap : Nat) (l0 : List S25) (F : Nat → Value) (w0 w : World) (hB : Below w0.heap.size w0 w) (hg : w0.heap.size ≤ g) (hrow : w.rowIs g 25 (cap * 2) F) (hF : ∀ j (hj : j < l0.length), isAt F j l0[j])
    (hcap : l0.length ≤ cap) (hmax : cap ≤ maxLen) (hr0 : Kd.C k25 w (some ⟨g, 0, none⟩) l0.length l0) (ha : w.heap[ga]? = some oa) (hc : w.heap[gc]? = some oc) (hga : ga ≠ g) (hgc : gc ≠ g) (hcl : impl_ThreeMeet.Cl p l0 ga gc oa oc) :
    Calls Try.prog 45 #[.slice (some ⟨g, 0, none⟩) l0.length cap, .func (.func 46) #[] #[.pointer (some ⟨ga, 0, none⟩), .pointer (some ⟨gc, 0, none⟩)]] w fun e w' => ∃ F', e = .returned (.slice (some ⟨g, 0, none⟩) (l0.filter fun t => !p t).length cap) ∧ Below w0.heap.size w0 w' ∧ w'.rowIs g 25 (cap * 2) F' ∧ ∀ j (hj : j < (l0.filter fun t => !p t).length), isAt F' j (l0.filter fun t => !p t)[j] := by
  have hM : l0.length ≤ 9223372036854775807 := Kd.C_max hr0
  have hs := impl_ThreeMeet.search p ga gc oa oc (some ⟨g, 0, none⟩) cap l0 w hr0 ha hc hcl
  have HB := Aside0.mk hB
  have HG := Aside0.mk hg
  have HR := Aside0.mk hrow
  have HF := Aside0.mk hF
  have HA := Aside0.mk ha
  have HC := Aside0.mk hc
  have HX := Aside0.mk hmax
  have HCL := Aside0.mk hcl
  clear hr0 hB hg hrow hF ha hc hcl hmax
  have hmz : (Int.ofNat l0.length : Int) = (l0.length : Int) := rfl
  rcases Classical.em (∀ t ∈ l0, p t = false) with hall | hsome
  · have hs2 : Calls Try.prog 67 #[.slice (some ⟨g, 0, none⟩) l0.length cap, .func (.func 46) #[] #[.pointer (some ⟨ga, 0, none⟩), .pointer (some ⟨gc, 0, none⟩)]] w fun e w' => e = .returned (.int .i64 (-1)) ∧ Below w.heap.size w w' := by
      refine hs.mono fun e w' h => ⟨?_, h.2⟩
      rcases h.1 with ⟨e1, _⟩ | ⟨n, _, hn, hp, _⟩
      · exact e1
      rw [hall _ (List.getElem_mem hn)] at hp; cases hp
    have HE : Aside0 ((l0.filter fun t => !p t) = l0) := ⟨List.filter_eq_self.2 fun t ht => by rw [hall t ht]; rfl⟩
    clear hs hall
    go_enter Try.func45, Try.ntmps45
    go_wp2_with (go_at_call 67; refine hs2.mono ?_; rintro e w' ⟨rfl, hb'⟩)
    go_ret
    rw [HE.1]
    exact ⟨F, rfl, below_step HB.1 hb', rowIs_below HR.1 hb', HF.1⟩
  have hs2 : Calls Try.prog 67 #[.slice (some ⟨g, 0, none⟩) l0.length cap, .func (.func 46) #[] #[.pointer (some ⟨ga, 0, none⟩), .pointer (some ⟨gc, 0, none⟩)]] w fun e w' => ∃ n : Nat, e = .returned (.int .i64 n) ∧ Below w.heap.size w w' ∧ n < l0.length ∧ Aside0 (∃ hn : n < l0.length, p l0[n] = true ∧ ∀ t ∈ l0.take n, p t = false) := by
    refine hs.mono fun e w' h => ?_
    rcases h.1 with ⟨_, e1⟩ | ⟨n, e1, hn, hp, hq⟩
    · exact absurd e1 hsome
    exact ⟨n, e1, h.2, hn, ⟨hn, hp, hq⟩⟩
  clear hs hsome
  go_enter Try.func45, Try.ntmps45
  go_wp2_with (go_at_call 67; refine hs2.mono ?_; rintro e w1 ⟨n, rfl, hb', hn, HN⟩; replace HB := Aside0.mk (below_step HB.1 hb'); replace HR := Aside0.mk (rowIs_below HR.1 hb'); replace HA := Aside0.mk (blk_below HA.1 hb'); replace HC := Aside0.mk (blk_below HC.1 hb'); have hn1 : (n : Int) ≠ -1 := by omega)
  go_loopg [5, 6, 7] l0.length (fun gg s5 s6 _ wr => ∃ (i j : Nat) (F' : Nat → Value), s5 = .int .i64 i ∧ s6 = .int .i64 j ∧ i < j ∧ j ≤ l0.length ∧ l0.length - j ≤ gg ∧ Aside0 (Below w0.heap.size w0 wr) ∧ Aside0 (wr.rowIs g 25 (cap * 2) F') ∧ Aside0 (wr.heap[ga]? = some oa) ∧ Aside0 (wr.heap[gc]? = some oc) ∧ Aside0 (∀ t (ht : t < l0.length), j ≤ t → isAt F' t l0[t]) ∧ Aside0 (i = ((l0.take j).filter fun t => !p t).length ∧ ∀ t (ht : t < ((l0.take j).filter fun t => !p t).length), isAt F' t ((l0.take j).filter fun t => !p t)[t]))
  case atStart => exact ⟨n, n + 1, F, rfl, by go_num, by omega, by omega, by omega, HB, HR, HA, HC, ⟨fun t ht _ => HF.1 t ht⟩, ⟨by obtain ⟨h1, h2, h3⟩ := HN.1; exact del_start p F l0 n h1 h2 h3 HF.1⟩⟩
  case round =>
    clear HB HR HA HC HF HN hb'
    obtain ⟨i, j, F', rfl, rfl, hij, hjn, hgg, HB, HR, HA, HC, HF, HI⟩ := hrel
    by_cases hlt : j < l0.length
    · have hltz : (j : Int) < (l0.length : Int) := by omega
      obtain ⟨e0, e1⟩ := HF.1 j hlt (Nat.le_refl _)
      have m0 : wr.cell? ⟨g, j * 2, none⟩ = some (.int .i64 l0[j].f0) := (HR.1.cell (by omega)).trans (congrArg some e0)
      have m1 : wr.cell? ⟨g, j * 2 + 1, none⟩ = some (.int .i64 l0[j].f1) := (HR.1.cell (by omega)).trans (congrArg some e1)
      have HM := Aside0.mk (HCL.1 l0[j] (List.getElem_mem hlt))
      have HI2 := Aside0.mk (del_step p l0 i j hlt F' HI.1 HF.1)
      clear e0 e1
      cases hp : p l0[j] with
      | true =>
        rw [hp] at HM
        replace HI2 := Aside0.mk (HI2.1.1 hp)
        clear hp
        generalize l0[j] = y at m0 m1 HM
        go_wp2_with (first | ((with_reducible refine gate_dst (N := 7) rfl ?_); refine be #[.int .i64 0, .int .i64 0] 25 ?_; intro gb hg w4 hbox hb; have BK := Aside0.mk hbox; have GE := zs HB hg; have NA : Aside0 (ga ≠ gb) := ⟨by rw [hg]; exact Nat.ne_of_lt (blk_lt HA.1)⟩; have NC : Aside0 (gc ≠ gb) := ⟨by rw [hg]; exact Nat.ne_of_lt (blk_lt HC.1)⟩; have NG : Aside0 (g ≠ gb) := ⟨by rw [hg]; exact Nat.ne_of_lt HR.1.lt⟩; replace HA := Aside0.mk (blk_below HA.1 hb); replace HC := Aside0.mk (blk_below HC.1 hb); replace HR := Aside0.mk (rowIs_below HR.1 hb); replace HB := zB HB hb; clear hb hbox hg; obtain ⟨hz0, hz1, fz0, fz1⟩ := zc2 BK) | (go_at_call 46; with_reducible refine (HM.1 _ ?sa ?sc).mono ?_; (case sa => exact far_any (far_any HA.1 NA.1 _) NA.1 _); (case sc => exact far_any (far_any HC.1 NC.1 _) NC.1 _); rintro e w5 ⟨rfl, hb'⟩; replace HB := Aside0.mk (below_step (bq HB) hb'); replace HA := Aside0.mk (blk_below (far_any (far_any HA.1 NA.1 _) NA.1 _) hb'); replace HC := Aside0.mk (blk_below (far_any (far_any HC.1 NC.1 _) NC.1 _) hb'); replace HR := Aside0.mk (rowIs_below ((HR.1.setOther (a := ⟨gb, 0, none⟩) NG.1 _).setOther (a := ⟨gb, 1, none⟩) NG.1 _) hb')))
        go_roundg (l0.length - (j + 1))
        case measure => omega
        case rel => exact ⟨i, j + 1, F', rfl, by go_num, by omega, by omega, by omega, HB, HR, HA, HC, ⟨fun t ht h => HF.1 t ht (by omega)⟩, HI2⟩
      | false =>
        rw [hp] at HM
        replace HI2 := Aside0.mk (HI2.1.2 hp)
        clear hp
        generalize l0[j] = y at m0 m1 HM HI2
        go_wp2_with (first | ((with_reducible refine gate_dst (N := 7) rfl ?_); refine be #[.int .i64 0, .int .i64 0] 25 ?_; intro gb hg w4 hbox hb; have BK := Aside0.mk hbox; have GE := zs HB hg; have NA : Aside0 (ga ≠ gb) := ⟨by rw [hg]; exact Nat.ne_of_lt (blk_lt HA.1)⟩; have NC : Aside0 (gc ≠ gb) := ⟨by rw [hg]; exact Nat.ne_of_lt (blk_lt HC.1)⟩; have NG : Aside0 (g ≠ gb) := ⟨by rw [hg]; exact Nat.ne_of_lt HR.1.lt⟩; replace HA := Aside0.mk (blk_below HA.1 hb); replace HC := Aside0.mk (blk_below HC.1 hb); replace HR := Aside0.mk (rowIs_below HR.1 hb); replace HB := zB HB hb; clear hb hbox hg; obtain ⟨hz0, hz1, fz0, fz1⟩ := zc2 BK) | (go_at_call 46; with_reducible refine (HM.1 _ ?sa ?sc).mono ?_; (case sa => exact far_any (far_any HA.1 NA.1 _) NA.1 _); (case sc => exact far_any (far_any HC.1 NC.1 _) NC.1 _); rintro e w5 ⟨rfl, hb'⟩; replace HB := Aside0.mk (below_step (bq HB) hb'); replace HA := Aside0.mk (blk_below (far_any (far_any HA.1 NA.1 _) NA.1 _) hb'); replace HC := Aside0.mk (blk_below (far_any (far_any HC.1 NC.1 _) NC.1 _) hb'); replace HR := Aside0.mk (rowIs_below ((HR.1.setOther (a := ⟨gb, 0, none⟩) NG.1 _).setOther (a := ⟨gb, 1, none⟩) NG.1 _) hb'); obtain ⟨hz2, hz3, fz2, fz3⟩ := zc2 (Aside0.mk (blk_below (blk_put (cs' := #[.int .i64 y.f0, .int .i64 y.f1]) (blk_put (cs' := #[.int .i64 y.f0, .int .i64 0]) BK.1 0 _ rfl) 1 _ rfl) hb')); have n0 := HR.1.cell (i := i * 2) (by omega); have n1 := HR.1.cell (i := i * 2 + 1) (by omega); have r0 := HR.1.frozen (i * 2); have r1 := HR.1.frozen (i * 2 + 1)))
        go_roundg (l0.length - (j + 1))
        case measure => omega
        case rel =>
          refine ⟨i + 1, j + 1, _, by go_num, by go_num, by omega, by omega, by omega, ⟨below_set (below_set HB.1 HG.1) HG.1⟩, ⟨(HR.1.set (i * 2) (.int .i64 y.f0)).set (i * 2 + 1) (.int .i64 y.f1)⟩, ⟨far_any (far_any HA.1 hga _) hga _⟩, ⟨far_any (far_any HC.1 hgc _) hgc _⟩, ⟨fun t ht h => ?_⟩, ⟨HI2.1 _ ?_ ?_⟩⟩
          · obtain ⟨b0, b1⟩ := HF.1 t ht (by omega)
            refine ⟨?_, ?_⟩
            · show (if t * 2 = i * 2 + 1 then _ else if t * 2 = i * 2 then _ else F' (t * 2)) = _
              rw [if_neg (by omega), if_neg (by omega)]; exact b0
            show (if t * 2 + 1 = i * 2 + 1 then _ else if t * 2 + 1 = i * 2 then _ else F' (t * 2 + 1)) = _
            rw [if_neg (by omega), if_neg (by omega)]; exact b1
          · refine ⟨?_, ?_⟩
            · show (if i * 2 = i * 2 + 1 then _ else if i * 2 = i * 2 then _ else F' (i * 2)) = _
              rw [if_neg (by omega), if_pos rfl]
            show (if i * 2 + 1 = i * 2 + 1 then _ else if i * 2 + 1 = i * 2 then _ else F' (i * 2 + 1)) = _
            rw [if_pos rfl]
          intro q q0 q1
          show (if q = i * 2 + 1 then _ else if q = i * 2 then _ else F' q) = _
          rw [if_neg q1, if_neg q0]
    have hje : j = l0.length := by omega
    subst hje
    have hi := HI.1
    rw [List.take_length] at hi
    have HI2 := Aside0.mk hi
    clear hi HI
    have hin : i < l0.length := hij
    have hcl : ∀ ty, (Builtin.clear_ #[30] ty #[.slice (some ⟨g, i * 2, none⟩) (l0.length - i) (cap - i)]).run Try.prog wr = .ok (.tuple #[]) (wr.setCells g (i * 2) ((List.replicate (l0.length - i) ((0, 0) : Int × Int)).flatMap enc2)) :=
      fun ty => run_clear2 wr 30 25 ty _ Try.underlying30 Try.zeroValue25 rfl g (i * 2) _ _ (by omega) (fun q hq => by rw [HR.1.cell (i := i * 2 + q) (by omega)]; rfl) (fun q hq => HR.1.frozen _)
    have hzl : ((List.replicate (l0.length - i) ((0, 0) : Int × Int)).flatMap enc2).length = (l0.length - i) * 2 := by rw [← zero2]; simp [Builtin.zeroCells]
    generalize hzs : (List.replicate (l0.length - i) ((0, 0) : Int × Int)).flatMap enc2 = zs_ at hcl hzl
    clear hzs
    have HZ := Aside0.mk hzl
    clear hzl
    go_wp2
    go_ret
    refine ⟨_, by rw [HI2.1.1]; rfl, below_setCells HG.1 _ _ _ HB.1, rowIs_setCells _ _ _ _ HR.1, fun q hq => ?_⟩
    obtain ⟨h1, h2⟩ := HI2.1
    obtain ⟨b0, b1⟩ := h2 q hq
    refine ⟨?_, ?_⟩
    · show (if i * 2 ≤ q * 2 ∧ q * 2 < i * 2 + zs_.length then _ else F' (q * 2)) = _
      rw [if_neg (by omega)]; exact b0
    show (if i * 2 ≤ q * 2 + 1 ∧ q * 2 + 1 < i * 2 + zs_.length then _ else F' (q * 2 + 1)) = _
    rw [if_neg (by omega)]; exact b1

def pairOf (t : S25) : Int × Int := (t.f0, t.f1)
theorem reps_flat (w : World) (base : Nat) (ok : Nat → Prop) : ∀ ps : List S25, Reps (k25.M w base ok) 2 ps ((ps.map pairOf).flatMap enc2)
  | [] => Reps.none _ _
  | p :: ps => Reps.c2 (k25_mkM w base ok p) (reps_flat w base ok ps)
theorem reps_cells {w : World} {base : Nat} {ok : Nat → Prop} : ∀ (ps : List S25) (cs : List Value), Reps (k25.M w base ok) 2 ps cs → cs = (ps.map pairOf).flatMap enc2
  | [], cs, h => by
    have := h.1
    exact List.eq_nil_of_length_eq_zero (by simpa using this)
  | p :: ps, cs, h => by
    have hl : cs.length = (ps.length + 1) * 2 := by simpa using h.1
    have h0 := h.2 0 p rfl
    simp only [Nat.zero_mul, List.drop_zero] at h0
    have e0 := k25_openM h0
    have ht : Reps (k25.M w base ok) 2 ps (cs.drop 2) := by
      refine ⟨by rw [List.length_drop]; omega, fun j q hq => ?_⟩
      have := h.2 (j + 1) q (by simpa using hq)
      rwa [show (j + 1) * 2 = 2 + j * 2 by omega, ← List.drop_drop] at this
    have e1 := reps_cells ps (cs.drop 2) ht
    have e2 : cs = cs.take 2 ++ cs.drop 2 := (List.take_append_drop 2 cs).symm
    rw [e2, e0, e1]
    rfl

theorem flat_at : ∀ (l : List S25) (q : Nat) (hq : q < l.length), ((l.map pairOf).flatMap enc2)[q * 2]? = some (.int .i64 l[q].f0) ∧ ((l.map pairOf).flatMap enc2)[q * 2 + 1]? = some (.int .i64 l[q].f1)
  | [], q, h => absurd h (by simp)
  | t :: l, 0, _ => ⟨rfl, rfl⟩
  | t :: l, q + 1, h => by
    have ih := flat_at l q (by simpa using h)
    have e : (((t :: l).map pairOf).flatMap enc2) = .int .i64 t.f0 :: .int .i64 t.f1 :: ((l.map pairOf).flatMap enc2) := rfl
    rw [e, show (q + 1) * 2 = q * 2 + 1 + 1 by omega, show (q * 2 + 1 + 1 + 1) = (q * 2 + 1) + 1 + 1 by omega]
    simpa using ih
theorem flat_length (l : List S25) : ((l.map pairOf).flatMap enc2).length = l.length * 2 := by
  induction l with
  | nil => rfl
  | cons t l ih =>
    have e : (((t :: l).map pairOf).flatMap enc2) = .int .i64 t.f0 :: .int .i64 t.f1 :: ((l.map pairOf).flatMap enc2) := rfl
    rw [e, List.length_cons, List.length_cons, ih, List.length_cons]
    omega
/-- A row of turns, laid: a row of the kind. -/
theorem row_of {base : Nat} {W : World} {g cap : Nat} {F : Nat → Value} {l : List S25} (hr : W.rowIs g 25 (cap * 2) F) (hb : base ≤ g) (hl : l.length ≤ cap) (hm : cap ≤ maxLen) (hF : ∀ j (hj : j < l.length), isAt F j l[j]) : Kd.R k25 25 W base (fun _ => True) (.slice (some ⟨g, 0, none⟩) l.length cap) l := by
  obtain ⟨cur, h1, h2, h3⟩ := hr
  refine ⟨fun _ _ => trivial, (l.map pairOf).flatMap enc2, ⟨flat_length l, .inr ⟨g, cap, cur, rfl, hb, h1, hl, hm, h2, ?_⟩⟩, reps_flat _ _ _ l⟩
  apply List.ext_getElem?
  intro q
  rw [List.getElem?_take, show k25.sz = 2 from rfl]
  by_cases hq : q < l.length * 2
  · rw [if_pos hq, Array.getElem?_toList, h3 q (by omega)]
    obtain ⟨a, b⟩ := flat_at l (q / 2) (by omega)
    obtain ⟨c, d⟩ := hF (q / 2) (by omega)
    rcases Nat.mod_two_eq_zero_or_one q with h | h
    · rw [show q / 2 * 2 = q by omega] at a c
      rw [a, c]
    rw [show q / 2 * 2 + 1 = q by omega] at b d
    rw [b, d]
  rw [if_neg hq, List.getElem?_eq_none (by rw [flat_length]; omega)]
theorem row_open {base : Nat} {W : World} {ok : Nat → Prop} {v : Value} {l : List S25} (h : Kd.R k25 25 W base ok v l) : (v = .slice none 0 0 ∧ l = []) ∨ ∃ g cap F, v = .slice (some ⟨g, 0, none⟩) l.length cap ∧ base ≤ g ∧ W.rowIs g 25 (cap * 2) F ∧ l.length ≤ cap ∧ cap ≤ maxLen ∧ ∀ j (hj : j < l.length), isAt F j l[j] := by
  obtain ⟨hok, inner, ho, hr⟩ := h
  have hc := reps_cells l inner hr
  subst hc
  rcases ho.2 with ⟨rfl, h0⟩ | ⟨g, cap, cur, rfl, hbase, hb, h1, h2, h3, h4⟩
  · exact .inl ⟨rfl, List.eq_nil_of_length_eq_zero h0⟩
  rw [show k25.sz = 2 from rfl] at h3 h4
  refine .inr ⟨g, cap, fun i => cur[i]?.getD default, rfl, hbase, ⟨cur, hb, h3, fun i hi => by show cur[i]? = some (cur[i]?.getD default); rw [Array.getElem?_eq_getElem (by omega)]; rfl⟩, h1, h2, fun j hj => ?_⟩
  obtain ⟨a, b⟩ := flat_at l j hj
  rw [← h4] at a b
  rw [List.getElem?_take, if_pos (by omega), Array.getElem?_toList] at a b
  exact ⟨by show cur[j * 2]?.getD default = _; rw [a]; rfl, by show cur[j * 2 + 1]?.getD default = _; rw [b]; rfl⟩
set_option maxHeartbeats 8000000 in
set_option maxRecDepth 100000 in
theorem impl_ThreeMeet.none_ (p : S25 → Bool) (ga gc : Nat) (oa oc : Obj) (w : World) (ha : w.heap[ga]? = some oa) (hc : w.heap[gc]? = some oc) :
    Calls Try.prog 45 #[.slice none 0 0, .func (.func 46) #[] #[.pointer (some ⟨ga, 0, none⟩), .pointer (some ⟨gc, 0, none⟩)]] w fun e w' => e = .returned (.slice none 0 0) ∧ Below w.heap.size w w' := by
  have hs := impl_ThreeMeet.search p ga gc oa oc none 0 [] w (Kd.C_nil _ _) ha hc (fun t ht => by simp at ht)
  have hs2 : Calls Try.prog 67 #[.slice none 0 0, .func (.func 46) #[] #[.pointer (some ⟨ga, 0, none⟩), .pointer (some ⟨gc, 0, none⟩)]] w fun e w' => e = .returned (.int .i64 (-1)) ∧ Below w.heap.size w w' := by
    refine hs.mono fun e w' h => ⟨?_, h.2⟩
    rcases h.1 with ⟨e1, _⟩ | ⟨n, _, hn, hp, _⟩
    · exact e1
    simp at hn
  clear hs ha hc
  go_enter Try.func45, Try.ntmps45
  go_wp2_with (go_at_call 67; refine hs2.mono ?_; rintro e w' ⟨rfl, hb'⟩)
  go_ret
  exact ⟨rfl, hb'⟩
theorem impl_ThreeMeet.any_ (p : S25 → Bool) (ga gc : Nat) (oa oc : Obj) (v : Value) (l0 : List S25) (base : Nat) (ok : Nat → Prop) (w0 w : World) (hB : Below w0.heap.size w0 w) (hg : w0.heap.size ≤ base) (hR : Kd.R k25 25 w base ok v l0) (ha : w.heap[ga]? = some oa) (hc : w.heap[gc]? = some oc) (hga : ga < base) (hgc : gc < base) (hcl : impl_ThreeMeet.Cl p l0 ga gc oa oc) :
    Calls Try.prog 45 #[v, .func (.func 46) #[] #[.pointer (some ⟨ga, 0, none⟩), .pointer (some ⟨gc, 0, none⟩)]] w fun e w' => ∃ v', e = .returned v' ∧ Kd.R k25 25 w' w0.heap.size (fun _ => True) v' (l0.filter fun t => !p t) ∧ Below w0.heap.size w0 w' := by
  rcases row_open hR with ⟨rfl, rfl⟩ | ⟨g, cap, F, rfl, hbg, hrow, h1, h2, hF⟩
  · refine (impl_ThreeMeet.none_ p ga gc oa oc w ha hc).mono ?_
    rintro e w' ⟨rfl, hb⟩
    exact ⟨_, rfl, Kd.R_nil _ _ _ _ _, below_step hB hb⟩
  refine (impl_ThreeMeet.delete p ga gc oa oc g cap l0 F w0 w hB (by omega) hrow hF h1 h2 (Kd.R_reads' hR).2.2 ha hc (by omega) (by omega) hcl).mono ?_
  rintro e w' ⟨F', rfl, hb, hr, hF'⟩
  refine ⟨_, rfl, row_of hr (by omega) (Nat.le_trans (List.length_filter_le _ _) h1) h2 hF', hb⟩
def impl_ThreeMeet.f (k : Nat) (a0_0 : Int) (a0_1 : Int) (a0_2 : Int) (a1_0 : Int) (a1_1 : Int) (a1_2 : Int) (a2_0 : Int) (a2_1 : Int) (a2_2 : Int) : Option (List S25 × Bool) := (impl_MeetTimes.f k a0_0 a0_1 a0_2 a1_0 a1_1 a1_2).bind fun r => if r.2 = true then ((impl_IsHand.f k a2_0 a2_1 a2_2).bind fun t => if t = true then (if (r.1.all fun t => (impl_Hand_at.f k a0_0 a0_1 a0_2 t.f0 t.f1).isSome && (impl_Hand_at.f k a2_0 a2_1 a2_2 t.f0 t.f1).isSome) = true then some (r.1.filter fun t => decide (impl_Hand_at.f k a0_0 a0_1 a0_2 t.f0 t.f1 = impl_Hand_at.f k a2_0 a2_1 a2_2 t.f0 t.f1), true) else none) else some ([], false)) else some ([], false)
theorem impl_ThreeMeet.mono : ∀ a0_0 a0_1 a0_2 a1_0 a1_1 a1_2 a2_0 a2_1 a2_2 k, LeO (impl_ThreeMeet.f k a0_0 a0_1 a0_2 a1_0 a1_1 a1_2 a2_0 a2_1 a2_2) (impl_ThreeMeet.f (k + 1) a0_0 a0_1 a0_2 a1_0 a1_1 a1_2 a2_0 a2_1 a2_2) := by
  intro a0_0 a0_1 a0_2 a1_0 a1_1 a1_2 a2_0 a2_1 a2_2 k r h
  unfold impl_ThreeMeet.f at h ⊢
  obtain ⟨⟨l, b⟩, e1, h⟩ := Option.bind_eq_some_iff.mp h
  rw [impl_MeetTimes.mono _ _ _ _ _ _ k _ e1, Option.bind_some]
  dsimp only at h ⊢
  cases b with
  | false => exact h
  | true =>
    rw [if_pos rfl] at h ⊢
    obtain ⟨t, e2, h⟩ := Option.bind_eq_some_iff.mp h
    rw [impl_IsHand.mono _ _ _ k _ e2, Option.bind_some]
    cases t with
    | false => exact h
    | true =>
      rw [if_pos rfl] at h ⊢
      have step : ∀ x y z t, (impl_Hand_at.f k x y z (t : S25).f0 t.f1).isSome = true → impl_Hand_at.f (k + 1) x y z t.f0 t.f1 = impl_Hand_at.f k x y z t.f0 t.f1 := by
        intro x y z t hs
        obtain ⟨q, hq⟩ := Option.isSome_iff_exists.1 hs
        rw [hq]
        exact impl_Hand_at.mono _ _ _ _ _ k _ hq
      by_cases ha : (l.all fun t => (impl_Hand_at.f k a0_0 a0_1 a0_2 t.f0 t.f1).isSome && (impl_Hand_at.f k a2_0 a2_1 a2_2 t.f0 t.f1).isSome) = true
      · rw [if_pos ha] at h
        have hx := List.all_eq_true.1 ha
        rw [if_pos, ← h]
        · congr 2
          refine List.filter_congr fun t ht => ?_
          have := hx t ht
          rw [Bool.and_eq_true] at this
          rw [step _ _ _ _ this.1, step _ _ _ _ this.2]
        rw [List.all_eq_true]
        intro t ht
        have := hx t ht
        rw [Bool.and_eq_true] at this
        rw [step _ _ _ _ this.1, step _ _ _ _ this.2, this.1, this.2]
        rfl
      rw [if_neg ha] at h
      cases h
set_option maxHeartbeats 8000000 in
set_option maxRecDepth 100000 in
theorem impl_ThreeMeet.calls (k : Nat) (a0_0 : Int) (a0_1 : Int) (a0_2 : Int) (a1_0 : Int) (a1_1 : Int) (a1_2 : Int) (a2_0 : Int) (a2_1 : Int) (a2_2 : Int) (r1 : List S25) (r2 : Bool) (w : World) (h : impl_ThreeMeet.f k a0_0 a0_1 a0_2 a1_0 a1_1 a1_2 a2_0 a2_1 a2_2 = some (r1, r2)) :
    Calls Try.prog 19 #[.agg #[.int .i64 a0_0, .int .i64 a0_1, .int .i64 a0_2], .agg #[.int .i64 a1_0, .int .i64 a1_1, .int .i64 a1_2], .agg #[.int .i64 a2_0, .int .i64 a2_1, .int .i64 a2_2]] w fun e w' => ∃ v0_ : Value, e = .returned (.tuple #[v0_, .bool r2]) ∧ Kd.R k25 25 w' w.heap.size (fun _ => True) v0_ r1 ∧ Below w.heap.size w w' := by
  unfold impl_ThreeMeet.f at h
  obtain ⟨⟨l, b⟩, e1, h⟩ := Option.bind_eq_some_iff.mp h
  dsimp only at h
  have HB := Aside0.mk (Below.refl w.heap.size w)
  have E1 := Aside0.mk e1
  clear e1
  cases b with
  | false =>
    simp only [Bool.false_eq_true, if_false, Option.some.injEq, Prod.mk.injEq] at h
    obtain ⟨rfl, rfl⟩ := h
    go_enter Try.func19, Try.ntmps19
    go_upto_region 1 with (first | ((with_reducible refine gate_dst (N := 3) rfl ?_); refine be #[.int .i64 a0_0, .int .i64 a0_1, .int .i64 a0_2] 27 ?_; intro g0 hg w1 hbox hb; have B0 := Aside0.mk hbox; have G0 := zs HB hg; replace HB := zB HB hb; clear hb hbox hg) | ((with_reducible refine gate_dst (N := 4) rfl ?_); refine be #[.int .i64 a1_0, .int .i64 a1_1, .int .i64 a1_2] 27 ?_; intro g1 hg w2 hbox hb; have B1 := Aside0.mk hbox; have G1 := zs HB hg; have N01 := zn B0 hg; replace B0 := zb B0 hb; replace HB := zB HB hb; clear hb hbox hg) | ((with_reducible refine gate_dst (N := 5) rfl ?_); refine be #[.int .i64 a2_0, .int .i64 a2_1, .int .i64 a2_2] 27 ?_; intro g2 hg w3 hbox hb; have B2 := Aside0.mk hbox; have G2 := zs HB hg; have N02 := zn B0 hg; replace B0 := zb B0 hb; have N12 := zn B1 hg; replace B1 := zb B1 hb; replace HB := zB HB hb; clear hb hbox hg))
    obtain ⟨p00, p01, p02, f00, f01, f02⟩ := zc3 B0
    obtain ⟨p10, p11, p12, f10, f11, f12⟩ := zc3 B1
    go_wp2_with (first | (go_at_call 21; refine (impl_MeetTimes.calls k a0_0 a0_1 a0_2 a1_0 a1_1 a1_2 l _ _ E1.1).mono ?_; rintro e w4 ⟨v, rfl, hr, hb⟩; replace HB := zB HB hb; replace B2 := zb B2 hb; obtain ⟨p20, p21, p22, f20, f21, f22⟩ := zc3 B2))
    go_ret2
    exact ⟨_, rfl, Kd.R_nil _ _ _ _ _, HB.1⟩
  | true =>
    rw [if_pos rfl] at h
    obtain ⟨t, e2, h⟩ := Option.bind_eq_some_iff.mp h
    have E2 := Aside0.mk e2
    clear e2
    cases t with
    | false =>
      simp only [Bool.false_eq_true, if_false, Option.some.injEq, Prod.mk.injEq] at h
      obtain ⟨rfl, rfl⟩ := h
      go_enter Try.func19, Try.ntmps19
      go_upto_region 1 with (first | ((with_reducible refine gate_dst (N := 3) rfl ?_); refine be #[.int .i64 a0_0, .int .i64 a0_1, .int .i64 a0_2] 27 ?_; intro g0 hg w1 hbox hb; have B0 := Aside0.mk hbox; have G0 := zs HB hg; replace HB := zB HB hb; clear hb hbox hg) | ((with_reducible refine gate_dst (N := 4) rfl ?_); refine be #[.int .i64 a1_0, .int .i64 a1_1, .int .i64 a1_2] 27 ?_; intro g1 hg w2 hbox hb; have B1 := Aside0.mk hbox; have G1 := zs HB hg; have N01 := zn B0 hg; replace B0 := zb B0 hb; replace HB := zB HB hb; clear hb hbox hg) | ((with_reducible refine gate_dst (N := 5) rfl ?_); refine be #[.int .i64 a2_0, .int .i64 a2_1, .int .i64 a2_2] 27 ?_; intro g2 hg w3 hbox hb; have B2 := Aside0.mk hbox; have G2 := zs HB hg; have N02 := zn B0 hg; replace B0 := zb B0 hb; have N12 := zn B1 hg; replace B1 := zb B1 hb; replace HB := zB HB hb; clear hb hbox hg))
      obtain ⟨p00, p01, p02, f00, f01, f02⟩ := zc3 B0
      obtain ⟨p10, p11, p12, f10, f11, f12⟩ := zc3 B1
      go_wp2_with (first | (go_at_call 21; refine (impl_MeetTimes.calls k a0_0 a0_1 a0_2 a1_0 a1_1 a1_2 l _ _ E1.1).mono ?_; rintro e w4 ⟨v, rfl, hr, hb⟩; replace HB := zB HB hb; replace B2 := zb B2 hb; obtain ⟨p20, p21, p22, f20, f21, f22⟩ := zc3 B2) | (go_at_call 42; refine (impl_IsHand.calls k a2_0 a2_1 a2_2 _ _ E2.1).mono ?_; rintro e w5 ⟨rfl, hb5⟩; replace HB := zB HB hb5))
      go_ret2
      exact ⟨_, rfl, Kd.R_nil _ _ _ _ _, HB.1⟩
    | true =>
      rw [if_pos rfl] at h
      by_cases ha : (l.all fun t => (impl_Hand_at.f k a0_0 a0_1 a0_2 t.f0 t.f1).isSome && (impl_Hand_at.f k a2_0 a2_1 a2_2 t.f0 t.f1).isSome) = true
      · rw [if_pos ha] at h
        simp only [Option.some.injEq, Prod.mk.injEq] at h
        obtain ⟨rfl, rfl⟩ := h
        have HCL : Aside0 (∀ ga gc, impl_ThreeMeet.Cl (fun t => !decide (impl_Hand_at.f k a0_0 a0_1 a0_2 t.f0 t.f1 = impl_Hand_at.f k a2_0 a2_1 a2_2 t.f0 t.f1)) l ga gc (.cells #[.int .i64 a0_0, .int .i64 a0_1, .int .i64 a0_2] 27 (0, 0)) (.cells #[.int .i64 a2_0, .int .i64 a2_1, .int .i64 a2_2] 27 (0, 0))) := ⟨by
          intro ga gc t ht W hga hgc
          have hx := List.all_eq_true.1 ha t ht
          rw [Bool.and_eq_true] at hx
          obtain ⟨⟨p1, p2⟩, hp⟩ := Option.isSome_iff_exists.1 hx.1
          obtain ⟨⟨q1, q2⟩, hq⟩ := Option.isSome_iff_exists.1 hx.2
          refine (impl_ThreeMeet.del k ga gc a0_0 a0_1 a0_2 a2_0 a2_1 a2_2 t.f0 t.f1 p1 p2 q1 q2 W hga hgc hp hq).mono ?_
          rintro e w' ⟨rfl, hb⟩
          refine ⟨?_, hb⟩
          dsimp only
          rw [hp, hq]
          have e : decide (some (p1, p2) = some (q1, q2)) = (p1 == q1 && (p2 == q2)) := Bool.eq_iff_iff.mpr (by simp)
          rw [e]⟩
        clear ha
        have HL : Aside0 ((l.filter fun t => decide (impl_Hand_at.f k a0_0 a0_1 a0_2 t.f0 t.f1 = impl_Hand_at.f k a2_0 a2_1 a2_2 t.f0 t.f1)) = l.filter fun t => !(!decide (impl_Hand_at.f k a0_0 a0_1 a0_2 t.f0 t.f1 = impl_Hand_at.f k a2_0 a2_1 a2_2 t.f0 t.f1))) := ⟨by simp⟩
        go_enter Try.func19, Try.ntmps19
        go_upto_region 1 with (first | ((with_reducible refine gate_dst (N := 3) rfl ?_); refine be #[.int .i64 a0_0, .int .i64 a0_1, .int .i64 a0_2] 27 ?_; intro g0 hg w1 hbox hb; have B0 := Aside0.mk hbox; have G0 := zs HB hg; replace HB := zB HB hb; clear hb hbox hg) | ((with_reducible refine gate_dst (N := 4) rfl ?_); refine be #[.int .i64 a1_0, .int .i64 a1_1, .int .i64 a1_2] 27 ?_; intro g1 hg w2 hbox hb; have B1 := Aside0.mk hbox; have G1 := zs HB hg; have N01 := zn B0 hg; replace B0 := zb B0 hb; replace HB := zB HB hb; clear hb hbox hg) | ((with_reducible refine gate_dst (N := 5) rfl ?_); refine be #[.int .i64 a2_0, .int .i64 a2_1, .int .i64 a2_2] 27 ?_; intro g2 hg w3 hbox hb; have B2 := Aside0.mk hbox; have G2 := zs HB hg; have N02 := zn B0 hg; replace B0 := zb B0 hb; have N12 := zn B1 hg; replace B1 := zb B1 hb; replace HB := zB HB hb; clear hb hbox hg))
        obtain ⟨p00, p01, p02, f00, f01, f02⟩ := zc3 B0
        obtain ⟨p10, p11, p12, f10, f11, f12⟩ := zc3 B1
        go_wp2_with (first | (go_at_call 21; have HL0 := Aside0.mk (blk_lt B0.1); have HL2 := Aside0.mk (blk_lt B2.1); have HS := Aside0.mk (below_size HB.1); refine (impl_MeetTimes.calls k a0_0 a0_1 a0_2 a1_0 a1_1 a1_2 l _ _ E1.1).mono ?_; rintro e w4 ⟨v, rfl, hr, hb⟩; have HR := Aside0.mk hr; replace HB := zB HB hb; replace B0 := zb B0 hb; replace B2 := zb B2 hb; obtain ⟨p20, p21, p22, f20, f21, f22⟩ := zc3 B2; clear hr) | (go_at_call 42; refine (impl_IsHand.calls k a2_0 a2_1 a2_2 _ _ E2.1).mono ?_; rintro e w5 ⟨rfl, hb5⟩; replace HB := zB HB hb5; replace HR := rB HR hb5; replace B0 := zb B0 hb5; replace B2 := zb B2 hb5) | (go_at_call 45; refine (impl_ThreeMeet.any_ _ g0 g2 _ _ v l _ _ w _ HB.1 HS.1 HR.1 B0.1 B2.1 HL0.1 HL2.1 (HCL.1 g0 g2)).mono ?_; rintro e w6 ⟨v', rfl, hr6, hb6⟩))
        go_ret2
        rw [HL.1]
        exact ⟨_, rfl, hr6, hb6⟩
      rw [if_neg ha] at h
      cases h
end

end Go.Proofs.Ytoneipoioiokcab.PFnHandsAhead
