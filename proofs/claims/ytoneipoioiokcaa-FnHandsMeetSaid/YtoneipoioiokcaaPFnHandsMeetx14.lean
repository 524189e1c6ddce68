/- A part of the walk of FnHandsMeet: which Lean function each Go function comes to, and that the machine's call does so. Written by a program of this repo (wip/gen/xprint.py). -/
import Derived.Test.YtoneipoioiokcaaPFnHandsMeetx0
import Derived.Test.YtoneipoioiokcaaPFnHandsMeetx6
namespace Go.Proofs.Ytoneipoioiokcaa.PFnHandsMeet
open Go.RowKit Go.Proofs.YtoneipoioiokcaaW.PrintWords Go.Proofs.YtoneipoioiokcaaW.PrintLast Go.Proofs.YtoneipoioiokcaaW.PrintMore
attribute [local go_sem] max2_int min2_int max_two min_two max_three min_three max_four min_four   -- for this text's walks alone
set_option linter.unusedVariables false
set_option linter.unusedSimpArgs false

/-! ### impl_sorted: function 33 -/
def lay_clone_ren : Go.Shelf.Ren := ⟨fun | 41 => 63 | n => n, fun | 22 => 30 | 23 => 25 | 4 => 4 | n => n, fun | n => n⟩
theorem lay_clone : Go.Proofs.SlLaysE0.n41 Try.prog lay_clone_ren := {
  mixed := by kernel_rfl
  f41 := ⟨Try.f63.name, by decide, Try.func63.trans (congrArg some (by kernel_rfl))⟩
  t4 := Try.underlying4
  a4 := Try.isAgg4
  z4 := Try.sizeOf4
  v4 := Try.zeroValue4
  t22 := Try.underlying30
  a22 := Try.isAgg30
  z22 := Try.sizeOf30
  v22 := Try.zeroValue30 }
def lay_sortf_ren : Go.Shelf.Ren := ⟨fun | 6 => 64 | 15 => 82 | 14 => 81 | 28 => 93 | 29 => 94 | 20 => 85 | 21 => 86 | 22 => 87 | 23 => 88 | 24 => 89 | 25 => 90 | 26 => 91 | 27 => 92 | 46 => 95 | 47 => 96 | 48 => 97 | 49 => 98 | 50 => 99 | 57 => 100 | n => n, fun | 22 => 30 | 24 => 25 | 25 => 67 | 3 => 3 | 39 => 87 | 0 => 0 | 53 => 98 | 55 => 61 | 4 => 4 | 46 => 92 | 45 => 91 | 50 => 33 | 5 => 5 | 9 => 9 | 66 => 100 | 70 => 104 | 76 => 106 | 77 => 88 | n => n, fun | n => n⟩
theorem lay_sortf : Go.Proofs.SlLaysF0.n6 Try.prog lay_sortf_ren := {
  mixed := by kernel_rfl
  f6 := ⟨Try.f64.name, by decide, Try.func64.trans (congrArg some (by kernel_rfl))⟩
  f14 := ⟨Try.f81.name, by decide, Try.func81.trans (congrArg some (by kernel_rfl))⟩
  f15 := Try.func82.trans (congrArg some (by kernel_rfl))
  f20 := ⟨Try.f85.name, by decide, Try.func85.trans (congrArg some (by kernel_rfl))⟩
  f21 := ⟨Try.f86.name, by decide, Try.func86.trans (congrArg some (by kernel_rfl))⟩
  f22 := ⟨Try.f87.name, by decide, Try.func87.trans (congrArg some (by kernel_rfl))⟩
  f23 := ⟨Try.f88.name, by decide, Try.func88.trans (congrArg some (by kernel_rfl))⟩
  f24 := ⟨Try.f89.name, by decide, Try.func89.trans (congrArg some (by kernel_rfl))⟩
  f25 := ⟨Try.f90.name, by decide, Try.func90.trans (congrArg some (by kernel_rfl))⟩
  f26 := ⟨Try.f91.name, by decide, Try.func91.trans (congrArg some (by kernel_rfl))⟩
  f27 := ⟨Try.f92.name, by decide, Try.func92.trans (congrArg some (by kernel_rfl))⟩
  f28 := Try.func93.trans (congrArg some (by kernel_rfl))
  f29 := Try.func94.trans (congrArg some (by kernel_rfl))
  f46 := ⟨Try.f95.name, by decide, Try.func95.trans (congrArg some (by kernel_rfl))⟩
  f47 := Try.func96.trans (congrArg some (by kernel_rfl))
  f48 := Try.func97.trans (congrArg some (by kernel_rfl))
  f49 := ⟨Try.f98.name, by decide, Try.func98.trans (congrArg some (by kernel_rfl))⟩
  f50 := ⟨Try.f99.name, by decide, Try.func99.trans (congrArg some (by kernel_rfl))⟩
  f57 := ⟨Try.f100.name, by decide, Try.func100.trans (congrArg some (by kernel_rfl))⟩
  t0 := Try.underlying0
  a0 := Try.isAgg0
  z0 := Try.sizeOf0
  v0 := Try.zeroValue0
  t3 := Try.underlying3
  a3 := Try.isAgg3
  z3 := Try.sizeOf3
  v3 := Try.zeroValue3
  t4 := Try.underlying4
  a4 := Try.isAgg4
  z4 := Try.sizeOf4
  v4 := Try.zeroValue4
  t5 := Try.underlying5
  a5 := Try.isAgg5
  z5 := Try.sizeOf5
  v5 := Try.zeroValue5
  t9 := Try.underlying9
  a9 := Try.isAgg9
  z9 := Try.sizeOf9
  v9 := Try.zeroValue9
  t22 := Try.underlying30
  a22 := Try.isAgg30
  z22 := Try.sizeOf30
  v22 := Try.zeroValue30
  t25 := Try.underlying67
  a25 := Try.isAgg67
  z25 := Try.sizeOf67
  v25 := Try.zeroValue67
  t39 := Try.underlying87
  a39 := Try.isAgg87
  z39 := Try.sizeOf87
  v39 := Try.zeroValue87
  t45 := Try.underlying91
  a45 := Try.isAgg91
  z45 := Try.sizeOf91
  v45 := Try.zeroValue91
  t46 := Try.underlying92
  a46 := Try.isAgg92
  z46 := Try.sizeOf92
  v46 := Try.zeroValue92
  t50 := Try.underlying33
  a50 := Try.isAgg33
  z50 := Try.sizeOf33
  v50 := Try.zeroValue33
  t53 := Try.underlying98
  a53 := Try.isAgg98
  z53 := Try.sizeOf98
  v53 := Try.zeroValue98
  t55 := Try.underlying61
  a55 := Try.isAgg61
  z55 := Try.sizeOf61
  v55 := Try.zeroValue61
  t66 := Try.underlying100
  a66 := Try.isAgg100
  z66 := Try.sizeOf100
  v66 := Try.zeroValue100
  t70 := Try.underlying104
  a70 := Try.isAgg104
  z70 := Try.sizeOf104
  v70 := Try.zeroValue104
  t76 := Try.underlying106
  a76 := Try.isAgg106
  z76 := Try.sizeOf106
  v76 := Try.zeroValue106
  t77 := Try.underlying88
  a77 := Try.isAgg88
  z77 := Try.sizeOf88
  v77 := Try.zeroValue88 }
section
open Go.Shelf Go.Lib Go.Sort
theorem eqAT (d : Nat) (w : World) (x0 y0 : Int) (x1 y1 : Int) :
    (Op.equalIn (d + 2) 25 (.agg #[.int .i64 x0, .int .i64 x1]) (.agg #[.int .i64 y0, .int .i64 y1])).run Try.prog w = .ok (x0 == y0 && (x1 == y1)) w := by
  refine eqA_of Try.underlying25 (by kernel_rfl) ?_
  refine eqf_cons (by rfl) (by go_simp; rfl) (by go_simp; rfl) (by go_simp) ?_
  exact eqf_last (by rfl) (by go_simp; rfl) (by go_simp; rfl) (by go_simp)
section
attribute [local go_sem high] eqAT
def enc2 (x : Int × Int) : List Value := [.int .i64 x.1, .int .i64 x.2]
theorem cells2 {w : World} {blk : Nat} {d : Array (Int × Int)} (h : HoldsK enc2 2 w blk 0 d) (i : Nat) (hi : i < d.size) :
    (w.cell? ⟨blk, i * 2, none⟩ = some (.int .i64 d[i]!.1) ∧ w.frozen? ⟨blk, i * 2, none⟩ = false) ∧ w.cell? ⟨blk, i * 2 + 1, none⟩ = some (.int .i64 d[i]!.2) ∧ w.frozen? ⟨blk, i * 2 + 1, none⟩ = false := by
  have a := h.cell hi (c := 0) (by omega)
  have b := h.cell hi (c := 1) (by omega)
  simp only [Nat.zero_add, Nat.add_zero] at a b
  exact ⟨a, b⟩
theorem setMany_set (d : Array (Int × Int)) (i : Nat) (hi : i < d.size) (u : Int × Int) : setMany (flatK enc2 2 d) (i * 2) (enc2 u) = flatK enc2 2 (d.setIfInBounds i u) := by
  refine ext_get! (by simp) fun t ht => ?_
  have ht' : t < d.size * 2 := by simpa using ht
  rw [get_setMany _ _ _ t (by simpa using ht'), get_flatK _ _ _ t ht', get_flatK _ _ _ t (by simpa using ht')]
  have hl : (enc2 u).length = 2 := rfl
  rw [hl]
  by_cases c : i * 2 ≤ t ∧ t < i * 2 + 2
  · have e : t / 2 = i := by omega
    rw [if_pos c, e, getElem!_set_same _ _ _ hi, show t - i * 2 = t % 2 by omega]
  have e : t / 2 ≠ i := by omega
  rw [if_neg c, getElem!_set_other _ _ _ _ e]
theorem store2 {w wr : World} {q blk i : Nat} {dk : Array (Int × Int)} (hi : i < dk.size) (hwr : wr = putRowK enc2 2 (Sort.ahead w q) blk 0 dk) (u : Int × Int) :
    ((wr.setCell ⟨blk, i * 2, none⟩ (.int .i64 u.1)).setCell ⟨blk, i * 2 + 1, none⟩ (.int .i64 u.2)).drew = putRowK enc2 2 (Sort.ahead w (q + 1)) blk 0 (dk.setIfInBounds i u) := by
  subst hwr
  have h := setCells_putRow (Sort.ahead w q) blk 0 (enc2 u) (i * 2) (flatK enc2 2 dk) (by simp [enc2]; omega)
  rw [setMany_set dk i hi u, Nat.zero_add] at h
  have h2 : ((putRowK enc2 2 (Sort.ahead w q) blk 0 dk).setCell ⟨blk, i * 2, none⟩ (.int .i64 u.1)).setCell ⟨blk, i * 2 + 1, none⟩ (.int .i64 u.2) = putRowK enc2 2 (Sort.ahead w q) blk 0 (dk.setIfInBounds i u) := h
  rw [h2]
  exact putRowK_drewN enc2 2 w q 1 blk 0 _
theorem setMany_lay : ∀ (xs : List (Int × Int)) (d : Array (Int × Int)) (k : Nat), k + xs.length ≤ d.size → setMany (flatK enc2 2 d) (k * 2) (xs.flatMap enc2) = flatK enc2 2 (lay d k xs)
  | [], _, _, _ => rfl
  | x :: r, d, k, h => by
    have hl : k + (r.length + 1) ≤ d.size := by simpa using h
    have e : setMany (flatK enc2 2 d) (k * 2) ((x :: r).flatMap enc2) = setMany (setMany (flatK enc2 2 d) (k * 2) (enc2 x)) (k * 2 + 1 + 1) (r.flatMap enc2) := rfl
    rw [e, setMany_set d k (by omega) x, show k * 2 + 1 + 1 = (k + 1) * 2 by omega, setMany_lay r _ (k + 1) (by simp; omega)]
    rfl
theorem zero2 (n : Nat) : (Builtin.zeroCells #[Value.int .i64 0, Value.int .i64 0] n).toList = (List.replicate n ((0, 0) : Int × Int)).flatMap enc2 := by
  induction n with
  | zero => simp [Builtin.zeroCells]
  | succ n ih =>
    have e : (Builtin.zeroCells #[Value.int .i64 0, Value.int .i64 0] (n + 1)).toList = (Builtin.zeroCells #[Value.int .i64 0, Value.int .i64 0] n).toList ++ [Value.int .i64 0, Value.int .i64 0] := by
      simp only [Builtin.zeroCells]
      apply List.ext_getElem
      · simp; omega
      intro i h1 h2
      simp at h1
      have hi : ∀ j : Nat, (#[Value.int IntKind.i64 0, Value.int IntKind.i64 0] : Array Value)[j % 2]! = Value.int .i64 0 := by
        intro j
        rcases Nat.mod_two_eq_zero_or_one j with h | h <;> rw [h] <;> rfl
      by_cases c : i < n * 2
      · rw [List.getElem_append_left (by simpa using c)]
        simp [hi]
      rw [List.getElem_append_right (by simpa using Nat.le_of_not_lt c)]
      simp [hi]
      have : i - n * 2 = 0 ∨ i - n * 2 = 1 := by omega
      rcases this with h | h <;> simp [h]
    rw [e, ih, List.replicate_succ', List.flatMap_append]
    rfl
theorem run_clear2 {P : Program} (w : World) (t e ty : TypeId) (z : Value) (ht : P.underlying t = some (.slice e)) (hv : ∀ w, (zeroValue e).run P w = .ok z w) (hz : z.cells = #[.int .i64 0, .int .i64 0]) (b o n c : Nat) (hn : 0 < n)
    (hc : ∀ j, j < n * 2 → (w.cell? ⟨b, o + j, none⟩).isSome = true) (hf : ∀ j, j < n * 2 → w.frozen? ⟨b, o + j, none⟩ = false) :
    (Builtin.clear_ #[t] ty #[.slice (some ⟨b, o, none⟩) n c]).run P w = .ok (.tuple #[]) (w.setCells b o ((List.replicate n ((0, 0) : Int × Int)).flatMap enc2)) := by
  have hzc : (Builtin.zeroCells z.cells n).toList = (List.replicate n ((0, 0) : Int × Int)).flatMap enc2 := by rw [hz]; exact zero2 n
  have hl : ((List.replicate n ((0, 0) : Int × Int)).flatMap enc2).length = n * 2 := by rw [← zero2]; simp [Builtin.zeroCells]
  have hst := run_storeCells_cells (P := P) b o ((List.replicate n ((0, 0) : Int × Int)).flatMap enc2) 0 w (by rw [hl]; simpa using hc) (by rw [hl]; simpa using hf) (by intro v hv'; obtain ⟨x, _, hx⟩ := List.mem_flatMap.1 hv'; simp [enc2] at hx; rcases hx with rfl | rfl <;> rfl)
  simp only [Nat.add_zero] at hst
  obtain ⟨m, rfl⟩ : ∃ m, n = m + 1 := ⟨n - 1, by omega⟩
  simp [Builtin.clear_, run_underlying ht, hv, hzc, hst]
set_option maxHeartbeats 4000000 in
set_option maxRecDepth 1000000 in
theorem compact2 (blk cap : Nat) (d : Array (Int × Int)) (w : World) (hH : HoldsK enc2 2 w blk 0 d) (hsz : d.size ≤ 9223372036854775807) (hcap : d.size ≤ cap) :
    Calls Try.prog 65 #[.slice (some ⟨blk, 0, none⟩) d.size cap] w fun e w' => e = .returned (.slice (some ⟨blk, 0, none⟩) (compactUpTo d d.size).length cap) ∧ ∃ q, w' = putRowK enc2 2 (Sort.ahead w q) blk 0 (compactUpTo d d.size ++ List.replicate (d.size - (compactUpTo d d.size).length) (0, 0)).toArray := by
  have same : ∀ q, (∀ j, j < d.size → keeps d j = true) → (compactUpTo d d.size).length = d.size ∧ w.drewN q = putRowK enc2 2 (Sort.ahead w q) blk 0 (compactUpTo d d.size ++ List.replicate (d.size - (compactUpTo d d.size).length) (0, 0)).toArray := by
    intro q hall
    have e : compactUpTo d d.size = d.toList := by rw [compactUpTo_all d _ hall, range_map_get]
    rw [e]
    refine ⟨by simp, ?_⟩
    simp only [Array.length_toList, Nat.sub_self, List.replicate_zero, List.append_nil, Array.toArray_toList]
    exact (putRowK_self enc2 2 (Sort.ahead w q) blk 0 d (holdsK_ahead enc2 2 w q blk 0 d hH)).symm
  have mixed : Try.prog.follows .mixedOrders = true := by kernel_rfl
  have HS : Aside (∀ q, (∀ j, j < d.size → keeps d j = true) → (compactUpTo d d.size).length = d.size ∧ w.drewN q = putRowK enc2 2 (Sort.ahead w q) blk 0 (compactUpTo d d.size ++ List.replicate (d.size - (compactUpTo d d.size).length) (0, 0)).toArray) := same
  clear same
  by_cases h2 : d.size < 2
  · have HH : Aside (HoldsK enc2 2 w blk 0 d) := hH
    clear hH
    go_enter Try.func65, Try.ntmps65
    go_wp2
    go_ret
    obtain ⟨e1, e2⟩ := HS.out 0 (fun j hj => keeps_lt_one d j (by omega))
    exact ⟨by rw [e1]; rfl, 0, e2⟩
  go_enter Try.func65, Try.ntmps65
  go_wp2
  go_loopg [3] d.size (fun g s3 wr => ∃ k q : Nat, 1 ≤ k ∧ k ≤ d.size ∧ d.size - k ≤ g ∧ s3 = .int .i64 k ∧ wr = w.drewN q ∧ ∀ j, j < k → keeps d j = true)
  case atStart => exact ⟨1, 0, Nat.le_refl _, by omega, by omega, rfl, rfl, keeps_lt_one d⟩
  case round =>
    obtain ⟨k, q, hk1, hk, hg, rfl, rfl, hall⟩ := hrel
    by_cases hlt : k < d.size
    · obtain ⟨⟨c1, f1⟩, c2, f2⟩ := cells2 hH k hlt
      obtain ⟨⟨c3, f3⟩, c4, f4⟩ := cells2 hH (k - 1) (by omega)
      have A : Aside (∀ j, j < k → keeps d j = true) := hall
      have HH : Aside (HoldsK enc2 2 w blk 0 d) := hH
      clear hall hH
      generalize hx : d[k]! = x at c1 c2
      generalize hy : d[k - 1]! = y at c3 c4
      have B : Aside (d[k]! = x ∧ d[k - 1]! = y) := ⟨hx, hy⟩
      clear hx hy
      by_cases hdup : x = y
      · subst hdup
        go_wp2_with fail
        go_region_o
        go_wp2
        clear c1 c2 c3 c4 f1 f2 f3 f4
        go_loopg [3, 5] d.size (fun g s3 s5 wr => ∃ (kk k2 q2 : Nat) (dk : Array (Int × Int)), s3 = .int .i64 kk ∧ s5 = .int .i64 k2 ∧ 1 ≤ k2 ∧ k + k2 ≤ d.size ∧ d.size - (k + k2) ≤ g ∧ wr = putRowK enc2 2 (Sort.ahead w q2) blk 0 dk ∧ CompInv d (k + k2) kk dk)
        case atStart => exact ⟨k, 1, q + 1, d, rfl, rfl, Nat.le_refl _, by omega, by omega, (putRowK_self enc2 2 (Sort.ahead w (q + 1)) blk 0 d (holdsK_ahead enc2 2 w (q + 1) blk 0 d HH.out)).symm, CompInv.start A.out (keeps_neg (by omega) (by rw [B.out.1, B.out.2]))⟩
        case round =>
          obtain ⟨kk, k2, q2, dk, rfl, rfl, h1, hle, hg2, hwr, hI⟩ := hrel
          have hkk := hI.lt
          have hds := hI.size
          have hHk : HoldsK enc2 2 wr blk 0 dk := by rw [hwr]; exact holdsK_putRowK enc2 2 _ blk 0 d dk (holdsK_ahead enc2 2 w q2 blk 0 d HH.out) hds
          have W2 : Aside (wr = putRowK enc2 2 (Sort.ahead w q2) blk 0 dk) := hwr
          have I2 : Aside (CompInv d (k + k2) kk dk) := hI
          clear hwr
          by_cases hlt2 : k + k2 < d.size
          · obtain ⟨⟨m1, _⟩, m2, _⟩ := cells2 hHk (k + k2) (by omega)
            obtain ⟨⟨p1, _⟩, p2, _⟩ := cells2 hHk (k + k2 - 1) (by omega)
            obtain ⟨⟨o1, g1⟩, o2, g2⟩ := cells2 hHk kk (by omega)
            rw [hI.high (k + k2) (by omega), show (k + k2) * 2 = k * 2 + k2 * 2 by omega] at m1 m2
            rw [hI.high (k + k2 - 1) (by omega), show (k + k2 - 1) * 2 = k * 2 + (k2 - 1) * 2 by omega] at p1 p2
            clear hHk hI
            generalize hu : d[k + k2]! = u at m1 m2
            generalize hv : d[k + k2 - 1]! = v at p1 p2
            generalize dk[kk]! = old at o1 o2
            have C : Aside (d[k + k2]! = u ∧ d[k + k2 - 1]! = v) := ⟨hu, hv⟩
            clear hu hv
            by_cases huv : u = v
            · subst huv
              go_wp2_with fail
              go_region_o
              go_wp2
              go_roundg (d.size - (k + (k2 + 1)))
              case measure => omega
              case rel => exact ⟨kk, k2 + 1, q2 + 1, dk, rfl, by go_num, by omega, by omega, Nat.le_refl _, by rw [W2.out]; rfl, I2.out.skip (keeps_neg (by omega) (by rw [C.out.1, C.out.2]))⟩
            have hne : (u.fst == v.fst && u.snd == v.snd) = false := by
              rw [Bool.eq_false_iff]
              intro e
              simp only [Bool.and_eq_true, beq_iff_eq] at e
              exact huv (Prod.ext e.1 e.2)
            go_wp2_with fail
            go_region_o
            go_wp2
            go_roundg (d.size - (k + (k2 + 1)))
            case measure => omega
            case rel =>
              exact ⟨kk + 1, k2 + 1, q2 + 1, dk.setIfInBounds kk u, by go_num, by go_num, by omega, by omega, Nat.le_refl _, store2 (by omega) W2.out u, by have := I2.out.keep hlt2 (keeps_pos (by rw [C.out.1, C.out.2]; exact huv)); rwa [C.out.1] at this⟩
          have hend : k + k2 = d.size := by omega
          have hcl : ∀ ty, (Builtin.clear_ #[30] ty #[.slice (some ⟨blk, kk * 2, none⟩) (d.size - kk) (cap - kk)]).run Try.prog wr = .ok (.tuple #[]) (wr.setCells blk (kk * 2) ((List.replicate (d.size - kk) ((0, 0) : Int × Int)).flatMap enc2)) :=
            fun ty => run_clear2 wr 30 25 ty _ Try.underlying30 Try.zeroValue25 rfl blk (kk * 2) _ _ (by omega) (fun j hj => by
              obtain ⟨⟨a1, _⟩, a2, _⟩ := cells2 hHk (kk + j / 2) (by omega)
              rcases Nat.mod_two_eq_zero_or_one j with h | h
              · rw [show kk * 2 + j = (kk + j / 2) * 2 by omega, a1]; rfl
              · rw [show kk * 2 + j = (kk + j / 2) * 2 + 1 by omega, a2]; rfl) (fun j hj => by
              obtain ⟨⟨_, a1⟩, _, a2⟩ := cells2 hHk (kk + j / 2) (by omega)
              rcases Nat.mod_two_eq_zero_or_one j with h | h
              · rw [show kk * 2 + j = (kk + j / 2) * 2 by omega, a1]
              rw [show kk * 2 + j = (kk + j / 2) * 2 + 1 by omega, a2])
          clear hHk hI
          go_wp2
          go_ret
          have hI := I2.out
          rw [hend] at hI
          refine ⟨by rw [hI.len]; rfl, q2, ?_⟩
          rw [hI.len, ← hI.done (0, 0), W2.out]
          have h := setCells_putRow (Sort.ahead w q2) blk 0 ((List.replicate (d.size - kk) ((0, 0) : Int × Int)).flatMap enc2) (kk * 2) (flatK enc2 2 dk) (by rw [← zero2]; simp [Builtin.zeroCells]; omega)
          rw [setMany_lay _ dk kk (by simp; omega), Nat.zero_add] at h
          exact h
      have hne : (x.fst == y.fst && x.snd == y.snd) = false := by
        rw [Bool.eq_false_iff]
        intro e
        simp only [Bool.and_eq_true, beq_iff_eq] at e
        exact hdup (Prod.ext e.1 e.2)
      go_wp2_with fail
      go_region_o
      go_wp2
      go_roundg (d.size - (k + 1))
      case measure => omega
      case rel =>
        refine ⟨k + 1, q + 1, by omega, by omega, Nat.le_refl _, by go_num, rfl, fun j hj => ?_⟩
        by_cases e : j = k
        · subst e
          exact keeps_pos (by rw [B.out.1, B.out.2]; exact hdup)
        exact A.out j (by omega)
    have : k = d.size := by omega
    subst this
    have HH : Aside (HoldsK enc2 2 w blk 0 d) := hH
    clear hH
    go_wp2
    go_ret
    obtain ⟨e1, e2⟩ := HS.out q hall
    exact ⟨by rw [e1]; rfl, q, e2⟩
end
def cmpI (a b : Int) : Int := if a < b then -1 else if b < a then 1 else 0
set_option maxHeartbeats 1000000 in
theorem cmp_int (x y : Int) (W : World) : Calls Try.prog 68 #[.int .i64 x, .int .i64 y] W fun e w' => e = .returned (.int .i64 (cmpI x y)) ∧ w' = W := by
  unfold cmpI
  by_cases h1 : x < y
  · rw [if_pos h1]
    go_enter Try.func68, Try.ntmps68
    go_wp2
    go_ret
    exact ⟨rfl, rfl⟩
  by_cases h2 : y < x
  · rw [if_neg h1, if_pos h2]
    go_enter Try.func68, Try.ntmps68
    go_wp2
    go_ret
    exact ⟨rfl, rfl⟩
  rw [if_neg h1, if_neg h2]
  go_enter Try.func68, Try.ntmps68
  go_wp2
  go_ret
  exact ⟨rfl, rfl⟩
set_option maxHeartbeats 1000000 in
theorem compareT (a b c d : Int) (W : World) : Calls Try.prog 43 #[.agg #[.int .i64 a, .int .i64 b], .agg #[.int .i64 c, .int .i64 d]] W fun e w' => e = .returned (.int .i64 (cmpI (wrap64 (a * d)) (wrap64 (c * b)))) ∧ ∃ q os', w' = grow (W.drewN q) os' := by
  have hcon := fun x y W' => cmp_int x y W'
  go_enter Try.func43, Try.ntmps43
  go_wp2_with (go_at_call 68; refine (hcon _ _ _).mono ?_; rintro e w' ⟨rfl, rfl⟩)
  go_ret
  exact ⟨rfl, 0, _, by rw [alloc_eq_grow, alloc_eq_grow, grow_grow]; rfl⟩

theorem heap_flat {w : World} {g n : Nat} {os : Array Obj} {cur : Array Value} {e : TypeId} {fr : Nat × Nat} (F : Array Value) (hb : w.heap[g]? = some (.cells cur e fr)) :
    (grow (putRow id (Sort.ahead w n) g 0 F) os).heap[g]? = some (.cells (putCells id 0 F cur) e fr) := by
  have hg : g < w.heap.size := (Array.getElem?_eq_some_iff.1 hb).1
  rw [heap_grow_old _ _ (by simpa using hg)]
  simp [putRow, mapBlock, Sort.ahead, Array.getElem?_modify, hb, onCells]
theorem grownBy_flat {w : World} {g n : Nat} {os : Array Obj} (F : Array Value) : w.grownBy (grow (putRow id (Sort.ahead w n) g 0 F) os) (some g) := by
  refine ⟨rfl, rfl, rfl, by simp, fun k hk hne => ?_⟩
  rw [heap_grow_old _ _ (by simpa using hk)]
  have : g ≠ k := fun e => hne (by rw [e])
  simp [putRow, mapBlock, Sort.ahead, Array.getElem?_modify, this]
theorem take_flat (cur : Array Value) (ts : List Value) (h : ts.length ≤ cur.size) : (putCells id 0 ts.toArray cur).toList.take ts.length = ts := by
  apply List.ext_getElem?
  intro j
  by_cases hj : j < ts.length
  · rw [List.getElem?_take_of_lt hj, Array.getElem?_toList]
    simp [putCells, hj, show j < cur.size by omega]
  rw [List.getElem?_take_eq_none (by omega), List.getElem?_eq_none (by omega)]
theorem flat_list : ∀ ps : List (Int × Int), (flatK enc2 2 ps.toArray).toList = ps.flatMap enc2 := by
  intro ps
  apply List.ext_getElem?
  intro j
  by_cases hj : j < ps.length * 2
  · have hs : j < (flatK enc2 2 ps.toArray).size := by simpa using hj
    rw [Array.getElem?_toList, Array.getElem?_eq_getElem hs]
    have e := get_flatK enc2 2 ps.toArray j (by simpa using hj)
    rw [getElem!_pos _ j hs] at e
    rw [e]
    have key : ∀ (qs : List (Int × Int)) (i : Nat), i < qs.length * 2 → (qs.flatMap enc2)[i]? = some (enc2 (qs[i / 2]!))[i % 2]! := by
      intro qs
      induction qs with
      | nil => intro i hi; simp at hi
      | cons q qs ih =>
        intro i hi
        have e2 : ((q :: qs).flatMap enc2) = Value.int .i64 q.1 :: Value.int .i64 q.2 :: qs.flatMap enc2 := rfl
        rw [e2]
        rcases i with _ | _ | i
        · rfl
        · rfl
        have := ih i (by simp at hi; omega)
        simp only [List.getElem?_cons_succ]
        rw [this, show (i + 1 + 1) / 2 = i / 2 + 1 by omega, show (i + 1 + 1) % 2 = i % 2 by omega]
        rfl
    rw [key ps j hj]
    simp
  rw [List.getElem?_eq_none (by simp; omega), List.getElem?_eq_none (by rw [show (ps.flatMap enc2).length = ps.length * 2 by clear hj; induction ps with | nil => rfl | cons p ps ih => simp [List.flatMap_cons, enc2, ih] at *; omega]; omega)]

theorem holds_flat {w : World} {g : Nat} {cur : Array Value} {e : TypeId} {ts : List Value} (hb : w.heap[g]? = some (.cells cur e (0, 0))) (ht : cur.toList.take ts.length = ts) : Holds id w g 0 ts.toArray := by
  intro j hj
  have hj' : j < ts.length := by simpa using hj
  refine ⟨?_, by simp [World.frozen?, hb]⟩
  have h1 : (cur.toList.take ts.length)[j]? = ts[j]? := by rw [ht]
  rw [List.getElem?_take_of_lt hj'] at h1
  simp only [World.cell?, hb, Nat.zero_add]
  simp only [Option.isSome_none, Bool.false_eq_true, if_false]
  rw [← Array.getElem?_toList, h1]
  simp [hj']
theorem flat_eq (ps : List (Int × Int)) : flatK enc2 2 ps.toArray = (ps.flatMap enc2).toArray := by rw [← flat_list]
theorem flat_len (ps : List (Int × Int)) : (ps.flatMap enc2).length = ps.length * 2 := by
  rw [← flat_list]; simp
theorem flat_map {α : Type} [Inhabited α] (enc : α → List Value) (f : α → Int × Int) (he : ∀ x, enc x = enc2 (f x)) (xs : List α) : flatK enc 2 xs.toArray = flatK enc2 2 (xs.map f).toArray := by
  refine ext_get! (by simp) fun t ht => ?_
  have ht' : t < xs.length * 2 := by simpa using ht
  have h2 : t / 2 < xs.length := by omega
  rw [get_flatK _ _ _ t (by simpa using ht'), get_flatK _ _ _ t (by simpa using ht'), he]
  congr 2
  rw [getElem!_pos _ _ (by simpa using h2), getElem!_pos _ _ (by simpa using h2)]
  simp
theorem ownsRow_flat {w : World} {base g cap n m : Nat} {e : TypeId} {os : Array Obj} {cur : Array Value} (ts : List Value) (hl : ts.length = m * 2) (hbase : base ≤ g) (hb : w.heap[g]? = some (.cells cur e (0, 0))) (h1 : m ≤ cap) (h2 : cap ≤ maxLen) (h3 : cur.size = cap * 2) :
    (grow (putRow id (Sort.ahead w n) g 0 ts.toArray) os).ownsRow base e 2 (.slice (some ⟨g, 0, none⟩) m cap) m ts :=
  ⟨hl, .inr ⟨g, cap, _, rfl, hbase, heap_flat _ hb, h1, h2, by simp [putCells, h3], by rw [← hl]; exact take_flat cur ts (by omega)⟩⟩
def pairOf (t : S25) : Int × Int := (t.f0, t.f1)
def unpair (p : Int × Int) : S25 := ⟨p.1, p.2⟩
/-- Turns in lowest terms: what is sorted. -/
abbrev TT : Type := {t : S25 // isT t.f0 t.f1}
instance : Inhabited TT := ⟨⟨⟨0, 1⟩, ⟨by decide, by decide, rfl⟩⟩⟩
def encT (x : TT) : List Value := enc2 (pairOf x.1)
def cfT (x y : TT) : Int := cmpI (x.1.f0 * y.1.f1) (y.1.f0 * x.1.f1)
theorem ltT (x y : TT) : ltOf cfT x y = decide (x.1.f0 * y.1.f1 < y.1.f0 * x.1.f1) := by
  unfold ltOf cfT cmpI
  by_cases h : x.1.f0 * y.1.f1 < y.1.f0 * x.1.f1
  · simp [h]
  by_cases h2 : y.1.f0 * x.1.f1 < x.1.f0 * y.1.f1 <;> simp [h, h2]
theorem ratio_le {a b c d e f : Int} (hb : 0 < b) (hd : 0 < d) (hf : 0 < f) (h1 : c * b ≤ a * d) (h2 : e * d ≤ c * f) : e * b ≤ a * f := by
  have k1 := Int.mul_le_mul_of_nonneg_right h1 (Int.le_of_lt hf)
  have k2 := Int.mul_le_mul_of_nonneg_right h2 (Int.le_of_lt hb)
  refine Int.le_of_mul_le_mul_right (a := d) ?_ hd
  rw [show e * b * d = e * d * b by rw [Int.mul_right_comm], show a * f * d = a * d * f by rw [Int.mul_right_comm]]
  rw [show c * f * b = c * b * f by rw [Int.mul_right_comm]] at k2
  exact Int.le_trans k2 k1
theorem ratio_lt {a b c d e f : Int} (hb : 0 < b) (hd : 0 < d) (hf : 0 < f) (h1 : a * d < c * b) (h2 : c * f < e * d) : a * f < e * b := by
  have k1 := Int.mul_lt_mul_of_pos_right h1 hf
  have k2 := Int.mul_lt_mul_of_pos_right h2 hb
  refine Int.lt_of_mul_lt_mul_right (a := d) ?_ (Int.le_of_lt hd)
  rw [show a * f * d = a * d * f by rw [Int.mul_right_comm], show e * b * d = e * d * b by rw [Int.mul_right_comm]]
  rw [show c * f * b = c * b * f by rw [Int.mul_right_comm]] at k2
  exact Int.lt_trans k1 k2
theorem den_pos (x : TT) : 0 < x.1.f1 := by have := x.2.1; omega
theorem swoT : SWO (ltOf cfT) where
  irrefl x := by rw [ltT]; simp
  trans x y z h1 h2 := by
    rw [ltT, decide_eq_true_eq] at *
    exact ratio_lt (den_pos x) (den_pos y) (den_pos z) h1 h2
  ntrans x y z h1 h2 := by
    rw [ltT, decide_eq_false_iff_not] at *
    have := ratio_le (den_pos x) (den_pos y) (den_pos z) (Int.not_lt.1 h1) (Int.not_lt.1 h2)
    omega
theorem isT_one {a b c d : Int} (h : isT a b) (k : isT c d) (e : a * d = c * b) : a = c ∧ b = d := low_ext (isT_low h) (isT_low k) e
theorem oneT (x y : TT) (h1 : ltOf cfT x y = false) (h2 : ltOf cfT y x = false) : x = y := by
  rw [ltT, decide_eq_false_iff_not] at *
  obtain ⟨a, b⟩ := isT_one x.2 y.2 (by omega)
  obtain ⟨⟨p, q⟩, hx⟩ := x
  obtain ⟨⟨r, s⟩, hy⟩ := y
  simp only at a b
  subst a; subst b
  rfl
/-- Turns, increasing, each once. -/
def sortP (ps : List (Int × Int)) : List (Int × Int) := ps.mergeSort fun x y => decide (x.1 * y.2 ≤ y.1 * x.2)
def sortT (l : List S25) : List S25 := (Lib.compact (sortP (l.map pairOf))).map unpair
def impl_sorted.f (l0 : List S25) : Option (List S25) := if (l0.all fun t => decide (isT t.f0 t.f1)) = true ∧ l0.length ≤ 1000000000000 then some (sortT l0) else none
theorem compareTT (x y : TT) (W : World) : Calls Try.prog 43 #[.agg (encT x).toArray, .agg (encT y).toArray] W fun e w' => e = .returned (.int .i64 (cfT x y)) ∧ ∃ q os', w' = grow (W.drewN q) os' := by
  have h := compareT x.1.f0 x.1.f1 y.1.f0 y.1.f1 W
  have hx := x.2
  have hy := y.2
  have p1 := Int.mul_nonneg hx.2.1.1 (Int.le_of_lt (den_pos y))
  have p2 := Int.mul_nonneg hy.2.1.1 (Int.le_of_lt (den_pos x))
  have q1 : x.1.f0 * y.1.f1 ≤ 1000000 * 1000000 := Int.mul_le_mul (by have := hx.1; have := hx.2.1; omega) hy.1.2 (Int.le_of_lt (den_pos y)) (by decide)
  have q2 : y.1.f0 * x.1.f1 ≤ 1000000 * 1000000 := Int.mul_le_mul (by have := hy.1; have := hy.2.1; omega) hx.1.2 (Int.le_of_lt (den_pos x)) (by decide)
  rw [wid (x := x.1.f0 * y.1.f1) (by omega) (by omega), wid (x := y.1.f0 * x.1.f1) (by omega) (by omega)] at h
  exact h
theorem reps_flat (w : World) (base : Nat) (ok : Nat → Prop) : ∀ ps : List S25, Reps (k25.M w base ok) 2 ps ((ps.map pairOf).flatMap enc2)
  | [] => Reps.none _ _
  | p :: ps => Reps.c2 (k25_mkM w base ok p) (reps_flat w base ok ps)
theorem reps_cells {w : World} {base : Nat} {ok : Nat → Prop} : ∀ (ps : List S25) (cs : List Value), Reps (k25.M w base ok) 2 ps cs → cs = (ps.map pairOf).flatMap enc2
  | [], cs, h => by
    have := h.1
    exact List.eq_nil_of_length_eq_zero (by simpa using this)
  | p :: ps, cs, h => by
    have hl : cs.length = (ps.length + 1) * 2 := by simpa using h.1
    have h0 := h.2 0 p rfl
    simp only [Nat.zero_mul, List.drop_zero] at h0
    have e0 := k25_openM h0
    have ht : Reps (k25.M w base ok) 2 ps (cs.drop 2) := by
      refine ⟨by rw [List.length_drop]; omega, fun j q hq => ?_⟩
      have := h.2 (j + 1) q (by simpa using hq)
      rwa [show (j + 1) * 2 = 2 + j * 2 by omega, ← List.drop_drop] at this
    have e1 := reps_cells ps (cs.drop 2) ht
    have e2 : cs = cs.take 2 ++ cs.drop 2 := (List.take_append_drop 2 cs).symm
    rw [e2, e0, e1]
    rfl
theorem compact2_nil (w : World) : Calls Try.prog 65 #[.slice none 0 0] w fun e w' => e = .returned (.slice none 0 0) ∧ w' = w := by
  go_enter Try.func65, Try.ntmps65
  go_wp2
  go_ret
  exact ⟨rfl, rfl⟩
theorem sortT_nil : sortT [] = [] := by
  unfold sortT sortP
  rw [List.map_nil, List.mergeSort_nil]
  rfl
set_option maxHeartbeats 4000000 in
set_option maxRecDepth 100000 in
theorem impl_sorted.nil_ (w : World) : Calls Try.prog 33 #[.slice none 0 0] w fun e w' => e = .returned (.slice none 0 0) ∧ Below w.heap.size w w' := by
  go_enter Try.func33, Try.ntmps33
  go_wp2_with (first
    | (go_at_call 63; refine (AnyE.slices_Clone_nil lay_clone 0 0 _).mono ?_; rintro e w' ⟨rfl, rfl⟩)
    | (go_at_call 64; refine (AnyF.slices_SortFunc_none lay_sortf none 0 _ _).mono ?_; rintro e w' ⟨rfl, rfl⟩)
    | (go_at_call 65; refine (compact2_nil _).mono ?_; rintro e w' ⟨rfl, rfl⟩))
  go_ret
  exact ⟨rfl, Below.refl _ _⟩
theorem sort_pairs (xs : List TT) : (xs.mergeSort fun x y => !ltOf cfT y x).map (fun x => pairOf x.1) = sortP (xs.map fun x => pairOf x.1) := by
  unfold sortP
  refine List.map_mergeSort fun a _ b _ => ?_
  rw [ltT]
  show (!decide (b.1.f0 * a.1.f1 < a.1.f0 * b.1.f1)) = decide (a.1.f0 * b.1.f1 ≤ b.1.f0 * a.1.f1)
  by_cases c : b.1.f0 * a.1.f1 < a.1.f0 * b.1.f1
  · rw [decide_eq_true c, decide_eq_false (by omega)]; rfl
  rw [decide_eq_false c, decide_eq_true (by omega)]; rfl
theorem unpair_pair (t : S25) : unpair (pairOf t) = t := rfl
theorem pair_unpair (ps : List (Int × Int)) : (ps.map unpair).map pairOf = ps := by
  rw [List.map_map]; exact List.map_id ps
/-- A row of turns, laid: a row of the kind. -/
theorem row_turns {e base : Nat} {ok : Nat → Prop} {w : World} {v : Value} {ps : List (Int × Int)} (ho : w.ownsRow base e 2 v ps.length (ps.flatMap enc2)) (hok : ∀ k, v.ownBlock = some k → ok k) : Kd.R k25 e w base ok v (ps.map unpair) := by
  refine ⟨hok, ps.flatMap enc2, by rw [List.length_map]; exact ho, ?_⟩
  have := reps_flat w base (fun k => ok k ∧ some k ≠ v.ownBlock) (ps.map unpair)
  rwa [pair_unpair] at this
theorem sort_turns (g c : Nat) (cur : Array Value) (l0 : List S25) (w : World) (hall : ∀ t ∈ l0, isT t.f0 t.f1) (hlen : l0.length ≤ 1000000000000) (hb : w.heap[g]? = some (.cells cur 25 (0, 0))) (h4 : cur.toList.take (l0.length * 2) = (l0.map pairOf).flatMap enc2) :
    Calls Try.prog 64 #[.slice (some ⟨g, 0, none⟩) l0.length c, .func (.func 43) #[] #[]] w fun e w' => e = .returned (.tuple #[]) ∧ ∃ n os, w' = grow (putRow id (Sort.ahead w n) g 0 ((sortP (l0.map pairOf)).flatMap enc2).toArray) os := by
  obtain ⟨ts, hts⟩ : ∃ ts : List TT, ts.map (fun x => x.1) = l0 := ⟨l0.pmap (fun t h => (⟨t, h⟩ : TT)) hall, by rw [List.map_pmap]; exact List.pmap_eq_self.2 (fun _ _ => rfl)⟩
  subst hts
  have e0 : (ts.map fun x => x.1).map pairOf = ts.map fun x => pairOf x.1 := by rw [List.map_map]; rfl
  rw [e0] at h4 ⊢
  rw [List.length_map] at h4 hlen ⊢
  have eg : ∀ args w, (callFunc 43 args).run Try.prog w = .ok (.enter 43 args) w := enters_of Try.func43 (by kernel_rfl) rfl
  have hcmp : Go.Proofs.CmpLays Try.prog 43 #[] encT 2 cfT g 0 ts.toArray.size w := fun _ _ _ _ x y => compareTT x y _
  have hF : flatK encT 2 ts.toArray = ((ts.map fun x => pairOf x.1).flatMap enc2).toArray := by rw [flat_map encT (fun x => pairOf x.1) (fun _ => rfl), flat_eq]
  have hH : HoldsK encT 2 w g 0 ts.toArray := by
    unfold HoldsK
    rw [hF]
    exact holds_flat hb (by rw [flat_len, List.length_map]; exact h4)
  have h := AnyQ.slices_SortFunc_total lay_sortf 2 Try.isAgg25 Try.sizeOf25 encT (fun _ => rfl) (fun x v hv => by simp [encT, enc2] at hv; rcases hv with rfl | rfl <;> rfl) cfT swoT 43 #[] g 0 c ts.toArray w eg hcmp hH (Array.getElem?_eq_some_iff.1 hb).1 (by simp; omega) oneT
  have e1 : ts.toArray.size = ts.length := by simp
  rw [e1] at h
  refine Calls.mono h ?_
  rintro e w' ⟨rfl, n, os, rfl⟩
  refine ⟨rfl, n, os, ?_⟩
  have e2 : flatK encT 2 (ts.toArray.toList.mergeSort fun x y => !ltOf cfT y x).toArray = ((sortP (ts.map fun x => pairOf x.1)).flatMap enc2).toArray := by
    rw [flat_map encT (fun x => pairOf x.1) (fun _ => rfl), flat_eq, show ts.toArray.toList = ts from rfl, sort_pairs]
  unfold sortWorldK putRowK
  rw [e2]
theorem comp_turns (g c : Nat) (cur : Array Value) (ps : List (Int × Int)) (w : World) (hlen : ps.length ≤ 1000000000000) (hc : ps.length ≤ c) (hb : w.heap[g]? = some (.cells cur 25 (0, 0))) (h4 : cur.toList.take (ps.length * 2) = ps.flatMap enc2) :
    Calls Try.prog 65 #[.slice (some ⟨g, 0, none⟩) ps.length c] w fun e w' => e = .returned (.slice (some ⟨g, 0, none⟩) (Lib.compact ps).length c) ∧ ∃ (q : Nat) (qs : List (Int × Int)), qs.take (Lib.compact ps).length = Lib.compact ps ∧ qs.length = ps.length ∧ w' = putRow id (Sort.ahead w q) g 0 (qs.flatMap enc2).toArray := by
  have hH : HoldsK enc2 2 w g 0 ps.toArray := by
    unfold HoldsK
    rw [flat_eq]
    exact holds_flat hb (by rw [flat_len]; exact h4)
  have h := compact2 g c ps.toArray w hH (by simp; omega) (by simpa using hc)
  have e1 : ps.toArray.size = ps.length := by simp
  rw [e1] at h
  refine Calls.mono h ?_
  rintro e w' ⟨rfl, q, rfl⟩
  have hcle := Lib.compact_length_le ps
  refine ⟨rfl, q, Lib.compact ps ++ List.replicate (ps.length - (Lib.compact ps).length) (0, 0), by rw [List.take_left], by rw [List.length_append, List.length_replicate]; omega, ?_⟩
  unfold putRowK
  rw [flat_eq]
  rfl
theorem sortP_len (ps : List (Int × Int)) : (sortP ps).length = ps.length := List.length_mergeSort ps
set_option maxHeartbeats 8000000 in
set_option maxRecDepth 100000 in
theorem impl_sorted.block (g cap : Nat) (cur : Array Value) (l0 : List S25) (w : World) (hall : ∀ t ∈ l0, isT t.f0 t.f1) (hlen : l0.length ≤ 1000000000000) (hb : w.heap[g]? = some (.cells cur 25 (0, 0))) (h1 : l0.length ≤ cap) (h2 : cap ≤ maxLen) (h4 : cur.toList.take (l0.length * 2) = (l0.map pairOf).flatMap enc2) :
    Calls Try.prog 33 #[.slice (some ⟨g, 0, none⟩) l0.length cap] w fun e w' => ∃ v, e = .returned v ∧ Below w.heap.size w w' ∧ ∃ ps : List (Int × Int), ps.take (Lib.compact (sortP (l0.map pairOf))).length = Lib.compact (sortP (l0.map pairOf)) ∧ ∃ g2 c2, v = .slice (some ⟨g2, 0, none⟩) (Lib.compact (sortP (l0.map pairOf))).length c2 ∧ w.heap.size ≤ g2 ∧ w'.ownsRow w.heap.size 25 2 (.slice (some ⟨g2, 0, none⟩) ps.length c2) ps.length (ps.flatMap enc2) := by
  have hlf : ((l0.map pairOf).flatMap enc2).length = l0.length * 2 := by rw [flat_len, List.length_map]
  have hi := info25
  rw [Option.map_eq_some_iff] at hi
  obtain ⟨i0, hi, hz⟩ := hi
  simp only [Prod.mk.injEq] at hz
  have hcl := AnyE.slices_Clone lay_clone i0 _ 2 16 hi hz.1 hz.2.1 hz.2.2 rfl (by decide) Try.sizeOf25 g 0 l0.length cap ((l0.map pairOf).flatMap enc2) w hlf (by omega) (by omega) (fun j u hj => by
    have hjl := (List.getElem?_eq_some_iff.1 hj).1
    have := (holds_flat hb (by rw [hlf]; exact h4) j (by simpa using hjl)).1
    rw [this]
    have e : ((l0.map pairOf).flatMap enc2).toArray[j]! = u := by
      rw [getElem!_pos _ _ (by simpa using hjl)]
      have := (List.getElem?_eq_some_iff.1 hj).2
      simpa using this
    rw [e]; rfl) (fun u hu => by obtain ⟨x, _, hx⟩ := List.mem_flatMap.1 hu; simp [enc2] at hx; rcases hx with rfl | rfl <;> rfl)
  have HA : Aside (∀ t ∈ l0, isT t.f0 t.f1) := hall
  clear hall h4 hb hi hz
  change Calls Try.prog 63 _ _ _ at hcl
  have hdone : ∀ w1 : World, ∀ g2 c2 : Nat, ∀ cur2 : Array Value, w.heap.size ≤ g2 → Below w.heap.size w w1 → w1.heap[g2]? = some (.cells cur2 25 (0, 0)) → l0.length ≤ c2 → c2 ≤ maxLen → cur2.size = c2 * 2 → ∀ n os q (qs : List (Int × Int)), qs.length = l0.length →
      Below w.heap.size w (putRow id (Sort.ahead (grow (putRow id (Sort.ahead w1 n) g2 0 ((sortP (l0.map pairOf)).flatMap enc2).toArray) os) q) g2 0 (qs.flatMap enc2).toArray) ∧
      (putRow id (Sort.ahead (grow (putRow id (Sort.ahead w1 n) g2 0 ((sortP (l0.map pairOf)).flatMap enc2).toArray) os) q) g2 0 (qs.flatMap enc2).toArray).ownsRow w.heap.size 25 2 (.slice (some ⟨g2, 0, none⟩) qs.length c2) qs.length (qs.flatMap enc2) := by
    intro w1 g2 c2 cur2 hg2 hB1 hb2 k1 k2 k3 n os q qs hl
    have hg1 := grownBy_flat (w := w1) (g := g2) (n := n) (os := os) ((sortP (l0.map pairOf)).flatMap enc2).toArray
    have hh1 := heap_flat (n := n) (os := os) ((sortP (l0.map pairOf)).flatMap enc2).toArray hb2
    have hB2 := Below.grown hB1 hg1 hB1.size (fun k hk => by cases hk; exact hg2)
    have hg3 := grownBy_flat (w := grow (putRow id (Sort.ahead w1 n) g2 0 ((sortP (l0.map pairOf)).flatMap enc2).toArray) os) (g := g2) (n := q) (os := #[]) (qs.flatMap enc2).toArray
    have ho := ownsRow_flat (n := q) (os := #[]) (m := qs.length) (qs.flatMap enc2) (flat_len qs) hg2 hh1 (by omega) k2 (by simp [putCells, k3])
    rw [grow_empty] at hg3 ho
    exact ⟨Below.grown hB2 hg3 hB2.size (fun k hk => by cases hk; exact hg2), ho⟩
  have hsort := fun (w1 : World) (g2 c2 : Nat) (cur2 : Array Value) hb2 h42 => sort_turns g2 c2 cur2 l0 w1 HA.out hlen hb2 h42
  have hcomp := fun (w1 : World) (g2 c2 : Nat) (cur2 : Array Value) hc2 hb2 h42 => comp_turns g2 c2 cur2 (sortP (l0.map pairOf)) w1 (by rw [sortP_len, List.length_map]; exact hlen) hc2 hb2 h42
  rw [sortP_len, List.length_map] at hcomp
  have HD := Aside0.mk hdone
  clear hdone
  go_enter Try.func33, Try.ntmps33
  go_wp2_with (first
    | (go_at_call 63; refine hcl.mono ?_; rintro e w1 ⟨v1, rfl, hown, hne, hbl⟩; obtain ⟨g2, c2, cur2, rfl, hg2, hb2, k1, k2, k3, k4⟩ := hown.2.resolve_left (fun c => hne c.1); have hs2 := hsort w1 g2 c2 cur2 hb2 k4)
    | (go_at_call 64; refine hs2.mono ?_; rintro e w2 ⟨rfl, n2, os2, rfl⟩; have hc3 := hcomp _ g2 c2 _ k1 (heap_flat (n := n2) (os := os2) ((sortP (l0.map pairOf)).flatMap enc2).toArray hb2) (by have := take_flat cur2 ((sortP (l0.map pairOf)).flatMap enc2) (by rw [flat_len, sortP_len, List.length_map]; omega); rwa [flat_len, sortP_len, List.length_map] at this))
    | (go_at_call 65; refine hc3.mono ?_; rintro e w3 ⟨rfl, q3, qs3, hq3, hl3, rfl⟩))
  go_ret
  obtain ⟨hB3, hO3⟩ := HD.out w1 g2 c2 cur2 hg2 hbl hb2 k1 k2 k3 n2 os2 q3 qs3 (by first | exact hl3 | rw [hl3, sortP_len, List.length_map])
  exact ⟨_, rfl, hB3, qs3, hq3, g2, c2, rfl, hg2, hO3⟩
theorem impl_sorted.calls (P0_ : Nat → Prop) (u9000_ : Value) (l0 : List S25) (r : List S25) (w0 w : World) (hB : Below w0.heap.size w0 w) (ho0 : Kd.R k25 25 w w0.heap.size P0_ u9000_ l0) (h : impl_sorted.f l0 = some r) :
    Calls Try.prog 33 #[u9000_] w fun e w' => ∃ v0_ : Value, e = .returned (v0_) ∧ Kd.R k25 25 w' w0.heap.size (fun k_ => (P0_ k_ ∨ w.heap.size ≤ k_)) v0_ r ∧ Below w0.heap.size w0 w' ∧ Kept w w' (fun k_ => P0_ k_) := by
  unfold impl_sorted.f at h
  split at h
  case isFalse => cases h
  rename_i hq
  obtain rfl := Option.some.inj h
  obtain ⟨hok, inner, ho, hr⟩ := ho0
  have hc := reps_cells l0 inner hr
  subst hc
  rcases ho.2 with ⟨rfl, h0⟩ | ⟨g, cap, cur, rfl, hbase, hb, h1, h2, h3, h4⟩
  · have e0 : l0 = [] := List.eq_nil_of_length_eq_zero h0
    subst e0
    refine (impl_sorted.nil_ w).mono ?_
    rintro e w' ⟨rfl, hb⟩
    exact ⟨_, rfl, by rw [sortT_nil]; exact Kd.R_nil _ _ _ _ _, below_step hB hb, Kept.of_below hb _⟩
  have hall : ∀ t ∈ l0, isT t.f0 t.f1 := by
    have := List.all_eq_true.1 hq.1
    exact fun t ht => of_decide_eq_true (this t ht)
  refine (impl_sorted.block g cap cur l0 w hall hq.2 hb h1 h2 h4).mono ?_
  rintro e w' ⟨v, rfl, hbl, ps, hps, g2, c2, rfl, hg2, hown⟩
  refine ⟨_, rfl, ?_, below_step hB hbl, Kept.of_below hbl _⟩
  have hR : Kd.R k25 25 w' w.heap.size (fun k_ => (P0_ k_ ∨ w.heap.size ≤ k_)) (.slice (some ⟨g2, 0, none⟩) ps.length c2) (ps.map unpair) := row_turns hown (fun k hk => by simp [Value.ownBlock] at hk; subst hk; exact .inr hg2)
  have hl : (Lib.compact (sortP (l0.map pairOf))).length ≤ ps.length := by
    have := congrArg List.length hps
    rw [List.length_take] at this
    omega
  have := Kd.R_take hR (m := (Lib.compact (sortP (l0.map pairOf))).length) (by rw [List.length_map]; exact hl)
  rw [← List.map_take, hps] at this
  exact Kd.R_lower this hB.size
end

end Go.Proofs.Ytoneipoioiokcaa.PFnHandsMeet
