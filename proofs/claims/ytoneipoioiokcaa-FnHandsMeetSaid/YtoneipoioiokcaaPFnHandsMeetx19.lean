/- A part of the walk of FnHandsMeet: which Lean function each Go function comes to, and that the machine's call does so. Written by a program of this repo (wip/gen/xprint.py). -/
import Derived.Test.YtoneipoioiokcaaPFnHandsMeetx0
import Derived.Test.YtoneipoioiokcaaPFnHandsMeetx1
import Derived.Test.YtoneipoioiokcaaPFnHandsMeetx5
import Derived.Test.YtoneipoioiokcaaPFnHandsMeetx10
import Derived.Test.YtoneipoioiokcaaPFnHandsMeetx14
namespace Go.Proofs.Ytoneipoioiokcaa.PFnHandsMeet
open Go.RowKit Go.Proofs.YtoneipoioiokcaaW.PrintWords Go.Proofs.YtoneipoioiokcaaW.PrintLast Go.Proofs.YtoneipoioiokcaaW.PrintMore
attribute [local go_sem] max2_int min2_int max_two min_two max_three min_three max_four min_four   -- for this text's walks alone
set_option linter.unusedVariables false
set_option linter.unusedSimpArgs false

attribute [local go_sem high] eqA25
/-! ### laws_kIn: function 20 -/
def laws_kIn.l0 : Nat → List (S25) → Int → Int → Int → Int → Option (Bool)
  | 0, _, _, _, _, _ => none
  | k + 1, x7, x8, x9, x501000, x501001 => if x9 < x8 then (if 0 ≤ x9 then (if x9 < (x7.length : Int) then (if (((rd_T25 x7 x9).f0) == x501000 && (((rd_T25 x7 x9).f1) == x501001)) = true then (some true) else (laws_kIn.l0 k x7 x8 (wrap64 (x9 + 1)) x501000 x501001)) else (none)) else (none)) else (some false)
def laws_kIn.f (k : Nat) (l0 : List (S25)) (a1_0 : Int) (a1_1 : Int) : Option (Bool) := laws_kIn.l0 k l0 (l0.length : Int) 0 a1_0 a1_1
theorem laws_kIn.mono_l : ∀ k, (∀ y0 y1 y2 y3 y4, LeO (laws_kIn.l0 k y0 y1 y2 y3 y4) (laws_kIn.l0 (k + 1) y0 y1 y2 y3 y4))
  | 0 => fun _ _ _ _ _ r h => by simp [laws_kIn.l0] at h
  | k + 1 => by
    have ih0 := laws_kIn.mono_l k
    intro y0 y1 y2 y3 y4
    unfold laws_kIn.l0
    repeat' first
    | (with_reducible exact ih0 _ _ _ _ _)
    | (with_reducible exact LeO.refl _)
    | (with_reducible exact LeO.none _)
    | (with_reducible refine LeO.ite ?_ ?_)
    | (with_reducible refine LeO.bind ?_ (fun _ => ?_))
    | exact ih0 _ _ _ _ _
    | exact LeO.none _
    | refine LeO.ite ?_ ?_
    | refine LeO.bind ?_ (fun _ => ?_)
theorem laws_kIn.mono : ∀ a0 a1 a2 k, LeO (laws_kIn.f k a0 a1 a2) (laws_kIn.f (k + 1) a0 a1 a2) := by
  intro a0 a1 a2 k
  have ih0 := laws_kIn.mono_l k
  unfold laws_kIn.f
  repeat' first
      | (with_reducible exact ih0 _ _ _ _ _)
      | (with_reducible exact LeO.refl _)
      | (with_reducible exact LeO.none _)
      | (with_reducible refine LeO.ite ?_ ?_)
      | (with_reducible refine LeO.bind ?_ (fun _ => ?_))
      | exact ih0 _ _ _ _ _
      | exact LeO.none _
      | refine LeO.ite ?_ ?_
      | refine LeO.bind ?_ (fun _ => ?_)
set_option maxHeartbeats 8000000 in
set_option maxRecDepth 100000 in
theorem laws_kIn.calls (k : Nat) (A0 : Option Addr) (c0 : Nat) (l0 : List (S25)) (a1_0 : Int) (a1_1 : Int) (r : Bool) (w : World) (hr0 : Kd.C k25 w A0 l0.length l0) (hc0 : l0.length ≤ c0) (h : laws_kIn.f k l0 a1_0 a1_1 = some r) :
    Calls Try.prog 20 #[.slice A0 l0.length c0, .agg #[.int .i64 a1_0, .int .i64 a1_1]] w fun e w' => e = .returned (.bool r) ∧ Below w.heap.size w w' := by
  have hu25 := Try.underlying25
  have HR0 := Aside0.mk hr0
  have HC0 := Aside0.mk hc0
  clear hr0 hc0
  have HB := Aside0.mk (Below.refl w.heap.size w)
  have H : (laws_kIn.l0 k l0 (l0.length : Int) 0 a1_0 a1_1) = some r := h
  clear h
  have H' := Aside0.mk H
  clear H
  go_enter Try.func20, Try.ntmps20
  go_wp2_with (first | ((with_reducible refine gate_dst (N := 3) rfl ?_); refine be #[.int .i64 a1_0, .int .i64 a1_1] 25 ?_; intro gb500 hg w3 hbox hb; have BK500 := Aside0.mk hbox; have GW500 := zs HB hg; have GE500 := zs HB hg; replace HB := zB HB hb; clear hb hbox hg))
  go_loopg [9] k (fun kq v9 w' => ∃ (x9_1 : Int), v9 = .int .i64 x9_1 ∧ Aside0 (laws_kIn.l0 kq l0 (l0.length : Int) x9_1 a1_0 a1_1 = some r) ∧ Aside0 (kq ≤ k) ∧ Aside0 (w'.heap[gb500]? = some (.cells #[.int .i64 a1_0, .int .i64 a1_1] 25 (0, 0))) ∧ Aside0 (Below w.heap.size w w'))
  case atStart => exact ⟨(0), ew, H', ⟨Nat.le_refl _⟩, ⟨bk BK500⟩, ⟨bq HB⟩⟩
  case round =>
    clear H'
    obtain ⟨x9_1, rfl, HA, HK1, BK500, HB⟩ := hrel
    cases gk with
    | zero => exact absurd HA.1 (by simp [laws_kIn.l0])
    | succ k1 =>
      have H := HA.1
      clear HA
      simp only [laws_kIn.l0] at H
      by_cases c4 : x9_1 < (l0.length : Int)
      · rw [if_pos c4] at H
        have c4b0 : decide (x9_1 < (l0.length : Int)) = true := decide_eq_true c4
        clear c4
        by_cases c5 : 0 ≤ x9_1
        · rw [if_pos c5] at H
          have c5b0 : decide (0 ≤ x9_1) = true := decide_eq_true c5
          clear c5
          by_cases c6 : x9_1 < (l0.length : Int)
          · rw [if_pos c6] at H
            have c6b0 : decide (x9_1 < (l0.length : Int)) = true := decide_eq_true c6
            clear c6
            by_cases c7 : (((rd_T25 l0 x9_1).f0) == a1_0 && (((rd_T25 l0 x9_1).f1) == a1_1)) = true
            · rw [if_pos c7] at H
              have c7b0 : (((rd_T25 l0 x9_1).f0) == a1_0 && (((rd_T25 l0 x9_1).f1) == a1_1)) = true := c7
              (try (have c7b1 : decide (((rd_T25 l0 x9_1).f0) = a1_0 && (((rd_T25 l0 x9_1).f1) == a1_1)) = true := by simpa using c7))
              (try (have c7b2 : (((rd_T25 l0 x9_1).f0) == a1_0 && (((rd_T25 l0 x9_1).f1) == a1_1)) = true := by simpa using c7))
              clear c7
              obtain rfl := Option.some.inj H
              have p501 : 0 ≤ (x9_1 : Int) := of_decide_eq_true (by first | (with_reducible assumption) | assumption)
              have q501 : x9_1 < (l0.length : Int) := of_decide_eq_true (by first | (with_reducible assumption) | assumption)
              obtain ⟨ad501, e501, hx501_0, hx501_1⟩ := at_T25 HR0.1 x9_1 p501 q501
              cases e501
              replace hx501_0 := (HB.1.cell (World.block_lt_of_cell? w _ hx501_0)).trans hx501_0
              replace hx501_1 := (HB.1.cell (World.block_lt_of_cell? w _ hx501_1)).trans hx501_1
              replace p501 := eq_true p501
              replace q501 := eq_true q501
              go_wp2_with (first | ((with_reducible refine gate_dst (N := 6) rfl ?_); refine be #[.int .i64 0, .int .i64 0] 25 ?_; intro gb502 hg w8 hbox hb; have BK502 := Aside0.mk hbox; have GW502 := zs HB hg; have GE502 := zs HB hg; have NB500_502 := zn BK500 hg; have NB502_500 := zm BK500 hg; replace BK500 := zb BK500 hb; replace HB := zB HB hb; clear hb hbox hg; have hnb9 := NB502_500.1; have hnc9 := NB500_502.1; obtain ⟨hcz10_0, hcz10_1, hfz10_0, hfz10_1⟩ := zc2 BK502; obtain ⟨hcz11_0, hcz11_1, hfz11_0, hfz11_1⟩ := zc2 BK500))
              go_ret
              exact ⟨er, bq HB⟩
            rw [if_neg c7] at H
            have c7b0 : (((rd_T25 l0 x9_1).f0) == a1_0 && (((rd_T25 l0 x9_1).f1) == a1_1)) = false := by simpa using c7
            (try (have c7b1 : decide (((rd_T25 l0 x9_1).f0) = a1_0 && (((rd_T25 l0 x9_1).f1) == a1_1)) = false := by simpa using c7))
            (try (have c7b2 : (((rd_T25 l0 x9_1).f0) == a1_0 && (((rd_T25 l0 x9_1).f1) == a1_1)) = false := by simpa using c7))
            (try (have c7b3 : ¬ (((rd_T25 l0 x9_1).f0) = a1_0 && (((rd_T25 l0 x9_1).f1) == a1_1)) := by simpa using c7))
            clear c7
            have H' := Aside0.mk H
            clear H
            have p501 : 0 ≤ (x9_1 : Int) := of_decide_eq_true (by first | (with_reducible assumption) | assumption)
            have q501 : x9_1 < (l0.length : Int) := of_decide_eq_true (by first | (with_reducible assumption) | assumption)
            obtain ⟨ad501, e501, hx501_0, hx501_1⟩ := at_T25 HR0.1 x9_1 p501 q501
            cases e501
            replace hx501_0 := (HB.1.cell (World.block_lt_of_cell? w _ hx501_0)).trans hx501_0
            replace hx501_1 := (HB.1.cell (World.block_lt_of_cell? w _ hx501_1)).trans hx501_1
            replace p501 := eq_true p501
            replace q501 := eq_true q501
            go_wp2_with (first | ((with_reducible refine gate_dst (N := 6) rfl ?_); refine be #[.int .i64 0, .int .i64 0] 25 ?_; intro gb502 hg w12 hbox hb; have BK502 := Aside0.mk hbox; have GW502 := zs HB hg; have GE502 := zs HB hg; have NB500_502 := zn BK500 hg; have NB502_500 := zm BK500 hg; replace BK500 := zb BK500 hb; replace HB := zB HB hb; clear hb hbox hg; have hnb13 := NB502_500.1; have hnc13 := NB500_502.1; obtain ⟨hcz14_0, hcz14_1, hfz14_0, hfz14_1⟩ := zc2 BK502; obtain ⟨hcz15_0, hcz15_1, hfz15_0, hfz15_1⟩ := zc2 BK500))
            go_roundg k1
            case measure => have := HK1.1; omega
            case rel => exact ⟨(wrap64 (x9_1 + 1)), ew, H', ⟨by have := HK1.1; omega⟩, ⟨bk BK500⟩, ⟨bq HB⟩⟩
          rw [if_neg c6] at H
          exact absurd H (by simp)
        rw [if_neg c5] at H
        exact absurd H (by simp)
      rw [if_neg c4] at H
      have c4b0 : decide (x9_1 < (l0.length : Int)) = false := decide_eq_false c4
      clear c4
      obtain rfl := Option.some.inj H
      go_wp2
      go_ret
      exact ⟨er, bq HB⟩

/-! ### impl_NextMeet: function 21 -/
section
open Go.Sort
set_option maxHeartbeats 4000000 in
set_option maxRecDepth 100000 in
theorem impl_NextMeet.del (ga : Nat) (t0 t1 x y : Int) (w : World) (ha : w.heap[ga]? = some (.cells #[.int .i64 t0, .int .i64 t1] 25 (0, 0))) :
    Calls Try.prog 42 #[.agg #[.int .i64 x, .int .i64 y], .pointer (some ⟨ga, 0, none⟩)] w fun e w' => e = .returned (.bool (decide (wrap64 (t0 * y) < wrap64 (x * t1)))) ∧ Below w.heap.size w w' := by
  have HB := Aside0.mk (Below.refl w.heap.size w)
  have BA := Aside0.mk ha
  clear ha
  have HC : Aside0 (decide (wrap64 (t0 * y) < wrap64 (x * t1)) = decide (0 < cmpI (wrap64 (x * t1)) (wrap64 (t0 * y)))) := ⟨decide_eq_decide.mpr (by unfold cmpI; split <;> (try split) <;> omega)⟩
  rw [HC.1]
  clear HC
  have hcmp := fun W => compareT x y t0 t1 W
  go_enter Try.func42, Try.ntmps42
  go_upto_region 1 with (first | ((with_reducible refine gate_dst (N := 2) rfl ?_); refine be #[.int .i64 x, .int .i64 y] 25 ?_; intro gb hg w1 hbox hb; have BK := Aside0.mk hbox; replace BA := zb BA hb; replace HB := zB HB hb; clear hb hbox hg))
  obtain ⟨pa0, pa1, fa0, fa1⟩ := zc2 BA
  obtain ⟨pb0, pb1, fb0, fb1⟩ := zc2 BK
  go_wp2_with (go_at_call 43; refine (hcmp _).mono ?_; rintro e w2 ⟨rfl, q, os, rfl⟩)
  go_ret
  exact ⟨by first | rfl | simp, below_step HB.1 (Go.Lib.below_grow _ _ (Nat.le_refl _) _ _)⟩
/-- What the search tells: the first that is to go. -/
def impl_NextMeet.Found (p : S25 → Bool) (l0 : List S25) (w : World) (e : Ending) (w' : World) : Prop :=
  ((e = .returned (.int .i64 (-1)) ∧ ∀ t ∈ l0, p t = false) ∨ ∃ n : Nat, e = .returned (.int .i64 n) ∧ ∃ hn : n < l0.length, p l0[n] = true ∧ ∀ t ∈ l0.take n, p t = false) ∧ Below w.heap.size w w'
def impl_NextMeet.Cl (p : S25 → Bool) (l0 : List S25) (ga : Nat) (oa : Obj) : Prop :=
  ∀ t ∈ l0, ∀ W : World, W.heap[ga]? = some oa → Calls Try.prog 42 #[.agg #[.int .i64 t.f0, .int .i64 t.f1], .pointer (some ⟨ga, 0, none⟩)] W fun e W' => e = .returned (.bool (p t)) ∧ Below W.heap.size W W'
set_option maxHeartbeats 8000000 in
set_option maxRecDepth 100000 in
theorem impl_NextMeet.search (p : S25 → Bool) (ga : Nat) (oa : Obj) (A0 : Option Addr) (c0 : Nat) (l0 : List S25) (w : World) (hr0 : Kd.C k25 w A0 l0.length l0) (ha : w.heap[ga]? = some oa) (hcl : impl_NextMeet.Cl p l0 ga oa) :
    Calls Try.prog 41 #[.slice A0 l0.length c0, .func (.func 42) #[] #[.pointer (some ⟨ga, 0, none⟩)]] w (impl_NextMeet.Found p l0 w) := by
  have hM : l0.length ≤ 9223372036854775807 := Kd.C_max hr0
  have HR0 := Aside0.mk hr0
  have HA0 := Aside0.mk ha
  have HCL := Aside0.mk hcl
  clear hr0 ha hcl
  go_enter Try.func41, Try.ntmps41
  go_wp2
  go_loopg [5, 8] l0.length (fun gg _ s8 wr => ∃ kk : Nat, kk ≤ l0.length ∧ l0.length - kk ≤ gg ∧ s8 = .int .i64 kk ∧ Aside0 (Below w.heap.size w wr) ∧ Aside0 (∀ t ∈ l0.take kk, p t = false))
  case atStart => exact ⟨0, Nat.zero_le _, by omega, rfl, ⟨Below.refl _ w⟩, ⟨fun t ht => by simp at ht⟩⟩
  case round =>
    obtain ⟨kk, hkk, hg, rfl, BW, A⟩ := hrel
    by_cases hlt : kk < l0.length
    · have hltz : (kk : Int) < (l0.length : Int) := by omega
      have p435 : 0 ≤ (kk : Int) := by omega
      obtain ⟨ad435, e435, hx0, hx1⟩ := at_T25 (Kd.C_below HR0.1 BW.1) (kk : Int) p435 hltz
      cases e435
      have hget : rd_T25 l0 (kk : Int) = l0[kk] := by unfold rd_T25; rw [show ((kk : Int)).toNat = kk by omega, List.getD_eq_getElem?_getD, List.getElem?_eq_getElem hlt]; rfl
      rw [hget] at hx0 hx1
      rw [show ((kk : Int)).toNat = kk by omega] at hx0 hx1
      have hcall := HCL.1 l0[kk] (List.getElem_mem hlt) wr (blk_below HA0.1 BW.1)
      have HT := Aside0.mk (List.take_succ_eq_append_getElem hlt)
      have HL := Aside0.mk hlt
      have HY : Aside0 (∃ h : kk < l0.length, l0[kk] = l0[kk]) := ⟨hlt, rfl⟩
      clear hget
      cases hq : p l0[kk] with
      | false =>
        have HQ := Aside0.mk hq
        rw [hq] at hcall
        clear hq
        generalize hy : l0[kk] = y at hx0 hx1 hcall HT HQ
        clear hy HY
        go_wp2_with (go_at_call 42; refine hcall.mono ?_; rintro e w' ⟨rfl, hb'⟩)
        go_roundg (l0.length - (kk + 1))
        case measure => omega
        case rel =>
          refine ⟨kk + 1, by omega, by omega, by go_num, ⟨below_then BW.1 BW.1.size hb'⟩, ⟨fun t ht => ?_⟩⟩
          rw [HT.1] at ht
          rcases List.mem_append.1 ht with ht | ht
          · exact A.1 t ht
          rw [List.mem_singleton.1 ht]; exact HQ.1
      | true =>
        have HQ : Aside0 (∃ hn : kk < l0.length, p l0[kk] = true) := ⟨hlt, hq⟩
        rw [hq] at hcall
        clear hq HY
        generalize l0[kk] = y at hx0 hx1 hcall
        clear HT
        go_wp2_with (go_at_call 42; refine hcall.mono ?_; rintro e w' ⟨rfl, hb'⟩)
        go_ret
        obtain ⟨hn, hq⟩ := HQ.1
        exact ⟨.inr ⟨kk, rfl, hn, hq, A.1⟩, below_then BW.1 BW.1.size hb'⟩
    have hltz : ¬ (kk : Int) < (l0.length : Int) := by omega
    go_wp2
    go_ret
    exact ⟨.inl ⟨rfl, fun t ht => A.1 t (by rw [List.take_of_length_le (by omega)]; exact ht)⟩, BW.1⟩
theorem mx_nat (n : Nat) : mx (n : Int) 0 = n := by unfold mx; rw [if_neg (by omega)]
theorem mx_neg1 : mx (-1) 0 = 0 := rfl
def impl_NextMeet.gt (t0 t1 : Int) (u : S25) : Bool := decide (wrap64 (t0 * u.f1) < wrap64 (u.f0 * t1))
def impl_NextMeet.pick (t0 t1 : Int) (l : List S25) : Option S25 := match l.find? (impl_NextMeet.gt t0 t1) with
  | some x => some x
  | none => l.head?
def impl_NextMeet.f (k : Nat) (a0_0 : Int) (a0_1 : Int) (a0_2 : Int) (a1_0 : Int) (a1_1 : Int) (a1_2 : Int) (a2_0 : Int) (a2_1 : Int) : Option (Int × Int × Bool) := (impl_MeetTimes.f k a0_0 a0_1 a0_2 a1_0 a1_1 a1_2).bind fun r => if r.2 = true then ((impl_IsTurn.f k a2_0 a2_1).bind fun u => if u = true then ((impl_NextMeet.pick a2_0 a2_1 r.1).bind fun x => some (x.f0, x.f1, true)) else some (0, 0, false)) else some (0, 0, false)
theorem impl_NextMeet.mono : ∀ a0_0 a0_1 a0_2 a1_0 a1_1 a1_2 a2_0 a2_1 k, LeO (impl_NextMeet.f k a0_0 a0_1 a0_2 a1_0 a1_1 a1_2 a2_0 a2_1) (impl_NextMeet.f (k + 1) a0_0 a0_1 a0_2 a1_0 a1_1 a1_2 a2_0 a2_1) := by
  intro a0_0 a0_1 a0_2 a1_0 a1_1 a1_2 a2_0 a2_1 k
  unfold impl_NextMeet.f
  refine LeO.bind (impl_MeetTimes.mono _ _ _ _ _ _ _) (fun _ => LeO.ite (LeO.bind (impl_IsTurn.mono _ _ _) (fun _ => LeO.refl _)) (LeO.refl _))
theorem find_take {α : Type} (p : α → Bool) : ∀ (l : List α) (n : Nat) (hn : n < l.length), p l[n] = true → (∀ t ∈ l.take n, p t = false) → l.find? p = some l[n]
  | [], _, hn, _, _ => absurd hn (by simp)
  | x :: l, 0, _, hp, _ => by
    have hp' : p x = true := hp
    rw [List.find?_cons_of_pos hp']; rfl
  | x :: l, n + 1, hn, hp, hq => by
    rw [List.find?_cons_of_neg (by rw [hq x (by simp)]; simp)]
    exact find_take p l n (by simpa using hn) (by simpa using hp) (fun t ht => hq t (by rw [List.take_succ_cons]; exact List.mem_cons_of_mem _ ht))
theorem impl_NextMeet.cl (t0 t1 : Int) (ga : Nat) (l : List S25) : impl_NextMeet.Cl (impl_NextMeet.gt t0 t1) l ga (.cells #[.int .i64 t0, .int .i64 t1] 25 (0, 0)) := fun t _ W ha => impl_NextMeet.del ga t0 t1 t.f0 t.f1 W ha
/-- the cells of the one that is picked -/
theorem impl_NextMeet.at_ {w W : World} {base : Nat} {ok : Nat → Prop} {A : Option Addr} {c : Nat} {l : List S25} (hR : Kd.R k25 25 w base ok (.slice A l.length c) l) (hb : Below w.heap.size w W) (m : Nat) (hm : m < l.length) : ∃ ad, A = some ad ∧ W.cell? (ad.add (m * 2)) = some (.int .i64 l[m].f0) ∧ W.cell? ⟨(ad.add (m * 2)).block, (ad.add (m * 2)).off + 1, none⟩ = some (.int .i64 l[m].f1) := by
  obtain ⟨ad, e, h0, h1⟩ := at_T25 (Kd.C_below (Kd.R_reads' hR).2.2 hb) (m : Int) (by omega) (by omega)
  have hget : rd_T25 l (m : Int) = l[m] := by unfold rd_T25; rw [show ((m : Int)).toNat = m by omega, List.getD_eq_getElem?_getD, List.getElem?_eq_getElem hm]; rfl
  rw [hget, show ((m : Int)).toNat = m by omega] at h0 h1
  exact ⟨ad, e, h0, h1⟩
theorem impl_NextMeet.found (t0 t1 : Int) (ga : Nat) (A : Option Addr) (c : Nat) (l : List S25) (x : S25) (w : World) (hx : l.find? (impl_NextMeet.gt t0 t1) = some x) {base : Nat} {ok : Nat → Prop} (hR : Kd.R k25 25 w base ok (.slice A l.length c) l) (ha : w.heap[ga]? = some (.cells #[.int .i64 t0, .int .i64 t1] 25 (0, 0))) :
    Calls Try.prog 41 #[.slice A l.length c, .func (.func 42) #[] #[.pointer (some ⟨ga, 0, none⟩)]] w fun e w' => ∃ ad, A = some ad ∧ ∃ m : Nat, (m : Int) < (l.length : Int) ∧ e = .returned (.int .i64 m) ∧ w'.cell? (ad.add (m * 2)) = some (.int .i64 x.f0) ∧ w'.cell? ⟨(ad.add (m * 2)).block, (ad.add (m * 2)).off + 1, none⟩ = some (.int .i64 x.f1) ∧ Below w.heap.size w w' := by
  refine (impl_NextMeet.search (impl_NextMeet.gt t0 t1) ga _ A c l w (Kd.R_reads' hR).2.2 ha (impl_NextMeet.cl t0 t1 ga l)).mono ?_
  rintro e w' ⟨h, hb⟩
  rcases h with ⟨_, hn⟩ | ⟨n, rfl, hn, hp, hq⟩
  · rw [List.find?_eq_none.2 (fun t ht => by rw [hn t ht]; simp)] at hx
    cases hx
  rw [find_take _ l n hn hp hq] at hx
  obtain rfl := Option.some.inj hx
  obtain ⟨ad, e, h0, h1⟩ := impl_NextMeet.at_ hR hb n hn
  exact ⟨ad, e, n, by omega, rfl, h0, h1, hb⟩
theorem impl_NextMeet.notFound (t0 t1 : Int) (ga : Nat) (A : Option Addr) (c : Nat) (l : List S25) (x : S25) (w : World) (hx : l.find? (impl_NextMeet.gt t0 t1) = none ∧ l.head? = some x) {base : Nat} {ok : Nat → Prop} (hR : Kd.R k25 25 w base ok (.slice A l.length c) l) (ha : w.heap[ga]? = some (.cells #[.int .i64 t0, .int .i64 t1] 25 (0, 0))) :
    Calls Try.prog 41 #[.slice A l.length c, .func (.func 42) #[] #[.pointer (some ⟨ga, 0, none⟩)]] w fun e w' => ∃ ad, A = some ad ∧ 0 < (l.length : Int) ∧ e = .returned (.int .i64 (-1)) ∧ w'.cell? ad = some (.int .i64 x.f0) ∧ w'.cell? ⟨ad.block, ad.off + 1, none⟩ = some (.int .i64 x.f1) ∧ Below w.heap.size w w' := by
  refine (impl_NextMeet.search (impl_NextMeet.gt t0 t1) ga _ A c l w (Kd.R_reads' hR).2.2 ha (impl_NextMeet.cl t0 t1 ga l)).mono ?_
  rintro e w' ⟨h, hb⟩
  rcases h with ⟨rfl, _⟩ | ⟨n, _, hn, hp, _⟩
  · cases l with
    | nil => simp at hx
    | cons y l =>
      obtain rfl : y = x := by simpa using hx.2
      obtain ⟨ad, e, h0, h1⟩ := impl_NextMeet.at_ hR hb 0 (by simp)
      rw [Nat.zero_mul, Addr.add_zero'] at h0 h1
      exact ⟨ad, e, by rw [List.length_cons]; omega, rfl, h0, h1, hb⟩
  have := List.find?_eq_none.1 hx.1 _ (List.getElem_mem hn)
  rw [hp] at this
  simp at this
section
attribute [local go_sem high] mx_nat mx_neg1
set_option maxHeartbeats 8000000 in
set_option maxRecDepth 100000 in
theorem impl_NextMeet.calls (k : Nat) (a0_0 : Int) (a0_1 : Int) (a0_2 : Int) (a1_0 : Int) (a1_1 : Int) (a1_2 : Int) (a2_0 : Int) (a2_1 : Int) (r1 : Int) (r2 : Int) (r3 : Bool) (w : World) (h : impl_NextMeet.f k a0_0 a0_1 a0_2 a1_0 a1_1 a1_2 a2_0 a2_1 = some (r1, r2, r3)) :
    Calls Try.prog 21 #[.agg #[.int .i64 a0_0, .int .i64 a0_1, .int .i64 a0_2], .agg #[.int .i64 a1_0, .int .i64 a1_1, .int .i64 a1_2], .agg #[.int .i64 a2_0, .int .i64 a2_1]] w fun e w' => e = .returned (.tuple #[.agg #[.int .i64 r1, .int .i64 r2], .bool r3]) ∧ Below w.heap.size w w' := by
  unfold impl_NextMeet.f at h
  obtain ⟨⟨l, b⟩, e1, h⟩ := Option.bind_eq_some_iff.mp h
  dsimp only at h
  have HB := Aside0.mk (Below.refl w.heap.size w)
  have E1 := Aside0.mk e1
  clear e1
  cases b with
  | false =>
    simp only [Bool.false_eq_true, if_false, Option.some.injEq, Prod.mk.injEq] at h
    obtain ⟨rfl, rfl, rfl⟩ := h
    go_enter Try.func21, Try.ntmps21
    go_upto_region 1 with (first | ((with_reducible refine gate_dst (N := 3) rfl ?_); refine be #[.int .i64 a0_0, .int .i64 a0_1, .int .i64 a0_2] 27 ?_; intro g0 hg w1 hbox hb; have B0 := Aside0.mk hbox; have G0 := zs HB hg; replace HB := zB HB hb; clear hb hbox hg) | ((with_reducible refine gate_dst (N := 4) rfl ?_); refine be #[.int .i64 a1_0, .int .i64 a1_1, .int .i64 a1_2] 27 ?_; intro g1 hg w2 hbox hb; have B1 := Aside0.mk hbox; have G1 := zs HB hg; have N01 := zn B0 hg; replace B0 := zb B0 hb; replace HB := zB HB hb; clear hb hbox hg) | ((with_reducible refine gate_dst (N := 5) rfl ?_); refine be #[.int .i64 a2_0, .int .i64 a2_1] 25 ?_; intro g2 hg w3 hbox hb; have B2 := Aside0.mk hbox; have G2 := zs HB hg; have N02 := zn B0 hg; replace B0 := zb B0 hb; have N12 := zn B1 hg; replace B1 := zb B1 hb; replace HB := zB HB hb; clear hb hbox hg) | ((with_reducible refine gate_dst (N := 6) rfl ?_); refine be #[.int .i64 0, .int .i64 0] 25 ?_; intro g3 hg w4 hbox hb; have B3 := Aside0.mk hbox; have G3 := zs HB hg; have N03 := zn B0 hg; replace B0 := zb B0 hb; have N13 := zn B1 hg; replace B1 := zb B1 hb; have N23 := zn B2 hg; replace B2 := zb B2 hb; replace HB := zB HB hb; clear hb hbox hg))
    obtain ⟨p00, p01, p02, f00, f01, f02⟩ := zc3 B0
    obtain ⟨p10, p11, p12, f10, f11, f12⟩ := zc3 B1
    go_wp2_with (first | (go_at_call 6; refine (impl_MeetTimes.calls k a0_0 a0_1 a0_2 a1_0 a1_1 a1_2 l _ _ E1.1).mono ?_; rintro e w6 ⟨v, rfl, hr, hb⟩; obtain ⟨A, c, rfl⟩ := Kd.R_slice hr; have HR := Aside0.mk (Kd.R_lower hr (below_size HB.1)); replace HB := zB HB hb; replace B2 := zb B2 hb; replace B3 := zb B3 hb; obtain ⟨p20, p21, f20, f21⟩ := zc2 B2; obtain ⟨p30, p31, f30, f31⟩ := zc2 B3; clear hr))
    refine bodyPost_ret (results_ct rfl _ _ g3 25 #[.int .i64 0, .int .i64 0] (0, 0) _ rfl (blk_put (cs' := #[.int .i64 0, .int .i64 0]) (blk_put (cs' := #[.int .i64 0, .int .i64 0]) B3.1 0 _ rfl) 1 _ rfl) Try.underlying25 rfl (by kernel_rfl)) rfl ?_
    exact ⟨rfl, below_set (below_set HB.1 G3.1) G3.1⟩
  | true =>
    rw [if_pos rfl] at h
    obtain ⟨u, e2, h⟩ := Option.bind_eq_some_iff.mp h
    have E2 := Aside0.mk e2
    clear e2
    cases u with
    | false =>
      simp only [Bool.false_eq_true, if_false, Option.some.injEq, Prod.mk.injEq] at h
      obtain ⟨rfl, rfl, rfl⟩ := h
      go_enter Try.func21, Try.ntmps21
      go_upto_region 1 with (first | ((with_reducible refine gate_dst (N := 3) rfl ?_); refine be #[.int .i64 a0_0, .int .i64 a0_1, .int .i64 a0_2] 27 ?_; intro g0 hg w1 hbox hb; have B0 := Aside0.mk hbox; have G0 := zs HB hg; replace HB := zB HB hb; clear hb hbox hg) | ((with_reducible refine gate_dst (N := 4) rfl ?_); refine be #[.int .i64 a1_0, .int .i64 a1_1, .int .i64 a1_2] 27 ?_; intro g1 hg w2 hbox hb; have B1 := Aside0.mk hbox; have G1 := zs HB hg; have N01 := zn B0 hg; replace B0 := zb B0 hb; replace HB := zB HB hb; clear hb hbox hg) | ((with_reducible refine gate_dst (N := 5) rfl ?_); refine be #[.int .i64 a2_0, .int .i64 a2_1] 25 ?_; intro g2 hg w3 hbox hb; have B2 := Aside0.mk hbox; have G2 := zs HB hg; have N02 := zn B0 hg; replace B0 := zb B0 hb; have N12 := zn B1 hg; replace B1 := zb B1 hb; replace HB := zB HB hb; clear hb hbox hg) | ((with_reducible refine gate_dst (N := 6) rfl ?_); refine be #[.int .i64 0, .int .i64 0] 25 ?_; intro g3 hg w4 hbox hb; have B3 := Aside0.mk hbox; have G3 := zs HB hg; have N03 := zn B0 hg; replace B0 := zb B0 hb; have N13 := zn B1 hg; replace B1 := zb B1 hb; have N23 := zn B2 hg; replace B2 := zb B2 hb; replace HB := zB HB hb; clear hb hbox hg))
      obtain ⟨p00, p01, p02, f00, f01, f02⟩ := zc3 B0
      obtain ⟨p10, p11, p12, f10, f11, f12⟩ := zc3 B1
      go_wp2_with (first | (go_at_call 6; refine (impl_MeetTimes.calls k a0_0 a0_1 a0_2 a1_0 a1_1 a1_2 l _ _ E1.1).mono ?_; rintro e w6 ⟨v, rfl, hr, hb⟩; obtain ⟨A, c, rfl⟩ := Kd.R_slice hr; have HR := Aside0.mk (Kd.R_lower hr (below_size HB.1)); replace HB := zB HB hb; replace B2 := zb B2 hb; replace B3 := zb B3 hb; obtain ⟨p20, p21, f20, f21⟩ := zc2 B2; obtain ⟨p30, p31, f30, f31⟩ := zc2 B3; clear hr) | (go_at_call 39; refine (impl_IsTurn.calls k a2_0 a2_1 _ _ E2.1).mono ?_; rintro e w7 ⟨rfl, hb7⟩; clear p20 p21 f20 f21 p30 p31 f30 f31; replace HB := zB HB hb7; replace B2 := zb B2 hb7; replace B3 := zb B3 hb7; replace HR := rB HR hb7; obtain ⟨p20, p21, f20, f21⟩ := zc2 B2; obtain ⟨p30, p31, f30, f31⟩ := zc2 B3))
      refine bodyPost_ret (results_ct rfl _ _ g3 25 #[.int .i64 0, .int .i64 0] (0, 0) _ rfl (blk_put (cs' := #[.int .i64 0, .int .i64 0]) (blk_put (cs' := #[.int .i64 0, .int .i64 0]) B3.1 0 _ rfl) 1 _ rfl) Try.underlying25 rfl (by kernel_rfl)) rfl ?_
      exact ⟨rfl, below_set (below_set HB.1 G3.1) G3.1⟩
    | true =>
      rw [if_pos rfl] at h
      obtain ⟨x, ex, h⟩ := Option.bind_eq_some_iff.mp h
      simp only [Option.some.injEq, Prod.mk.injEq] at h
      obtain ⟨rfl, rfl, rfl⟩ := h
      unfold impl_NextMeet.pick at ex
      cases hf : l.find? (impl_NextMeet.gt a2_0 a2_1) with
      | some y =>
        rw [hf] at ex
        obtain rfl := Option.some.inj ex
        have HX := Aside0.mk hf
        clear hf ex
        go_enter Try.func21, Try.ntmps21
        go_upto_region 1 with (first | ((with_reducible refine gate_dst (N := 3) rfl ?_); refine be #[.int .i64 a0_0, .int .i64 a0_1, .int .i64 a0_2] 27 ?_; intro g0 hg w1 hbox hb; have B0 := Aside0.mk hbox; have G0 := zs HB hg; replace HB := zB HB hb; clear hb hbox hg) | ((with_reducible refine gate_dst (N := 4) rfl ?_); refine be #[.int .i64 a1_0, .int .i64 a1_1, .int .i64 a1_2] 27 ?_; intro g1 hg w2 hbox hb; have B1 := Aside0.mk hbox; have G1 := zs HB hg; have N01 := zn B0 hg; replace B0 := zb B0 hb; replace HB := zB HB hb; clear hb hbox hg) | ((with_reducible refine gate_dst (N := 5) rfl ?_); refine be #[.int .i64 a2_0, .int .i64 a2_1] 25 ?_; intro g2 hg w3 hbox hb; have B2 := Aside0.mk hbox; have G2 := zs HB hg; have N02 := zn B0 hg; replace B0 := zb B0 hb; have N12 := zn B1 hg; replace B1 := zb B1 hb; replace HB := zB HB hb; clear hb hbox hg) | ((with_reducible refine gate_dst (N := 6) rfl ?_); refine be #[.int .i64 0, .int .i64 0] 25 ?_; intro g3 hg w4 hbox hb; have B3 := Aside0.mk hbox; have G3 := zs HB hg; have N03 := zn B0 hg; replace B0 := zb B0 hb; have N13 := zn B1 hg; replace B1 := zb B1 hb; have N23 := zn B2 hg; replace B2 := zb B2 hb; replace HB := zB HB hb; clear hb hbox hg))
        obtain ⟨p00, p01, p02, f00, f01, f02⟩ := zc3 B0
        obtain ⟨p10, p11, p12, f10, f11, f12⟩ := zc3 B1
        go_wp2_with (first | (go_at_call 6; refine (impl_MeetTimes.calls k a0_0 a0_1 a0_2 a1_0 a1_1 a1_2 l _ _ E1.1).mono ?_; rintro e w6 ⟨v, rfl, hr, hb⟩; obtain ⟨A, c, rfl⟩ := Kd.R_slice hr; have HR := Aside0.mk (Kd.R_lower hr (below_size HB.1)); replace HB := zB HB hb; replace B2 := zb B2 hb; replace B3 := zb B3 hb; obtain ⟨p20, p21, f20, f21⟩ := zc2 B2; obtain ⟨p30, p31, f30, f31⟩ := zc2 B3; clear hr) | (go_at_call 39; refine (impl_IsTurn.calls k a2_0 a2_1 _ _ E2.1).mono ?_; rintro e w7 ⟨rfl, hb7⟩; clear p20 p21 f20 f21 p30 p31 f30 f31; replace HB := zB HB hb7; replace B2 := zb B2 hb7; replace B3 := zb B3 hb7; replace HR := rB HR hb7; obtain ⟨p20, p21, f20, f21⟩ := zc2 B2; obtain ⟨p30, p31, f30, f31⟩ := zc2 B3) | (go_at_call 41; refine (impl_NextMeet.found a2_0 a2_1 g2 A c l _ _ HX.1 HR.1 B2.1).mono ?_; rintro e w8 ⟨ad, rfl, m, hm, rfl, hx0, hx1, hb8⟩; clear p20 p21 f20 f21 p30 p31 f30 f31; replace HB := zB HB hb8; replace B3 := zb B3 hb8; obtain ⟨p30, p31, f30, f31⟩ := zc2 B3))
        refine bodyPost_ret (results_ct rfl _ _ g3 25 #[.int .i64 _, .int .i64 _] (0, 0) _ rfl (blk_put (cs' := #[.int .i64 _, .int .i64 _]) (blk_put (cs' := #[.int .i64 _, .int .i64 0]) B3.1 0 _ rfl) 1 _ rfl) Try.underlying25 rfl (by kernel_rfl)) rfl ?_
        exact ⟨rfl, below_set (below_set HB.1 G3.1) G3.1⟩
      | none =>
        rw [hf] at ex
        have HX := Aside0.mk (And.intro hf ex)
        clear hf ex
        go_enter Try.func21, Try.ntmps21
        go_upto_region 1 with (first | ((with_reducible refine gate_dst (N := 3) rfl ?_); refine be #[.int .i64 a0_0, .int .i64 a0_1, .int .i64 a0_2] 27 ?_; intro g0 hg w1 hbox hb; have B0 := Aside0.mk hbox; have G0 := zs HB hg; replace HB := zB HB hb; clear hb hbox hg) | ((with_reducible refine gate_dst (N := 4) rfl ?_); refine be #[.int .i64 a1_0, .int .i64 a1_1, .int .i64 a1_2] 27 ?_; intro g1 hg w2 hbox hb; have B1 := Aside0.mk hbox; have G1 := zs HB hg; have N01 := zn B0 hg; replace B0 := zb B0 hb; replace HB := zB HB hb; clear hb hbox hg) | ((with_reducible refine gate_dst (N := 5) rfl ?_); refine be #[.int .i64 a2_0, .int .i64 a2_1] 25 ?_; intro g2 hg w3 hbox hb; have B2 := Aside0.mk hbox; have G2 := zs HB hg; have N02 := zn B0 hg; replace B0 := zb B0 hb; have N12 := zn B1 hg; replace B1 := zb B1 hb; replace HB := zB HB hb; clear hb hbox hg) | ((with_reducible refine gate_dst (N := 6) rfl ?_); refine be #[.int .i64 0, .int .i64 0] 25 ?_; intro g3 hg w4 hbox hb; have B3 := Aside0.mk hbox; have G3 := zs HB hg; have N03 := zn B0 hg; replace B0 := zb B0 hb; have N13 := zn B1 hg; replace B1 := zb B1 hb; have N23 := zn B2 hg; replace B2 := zb B2 hb; replace HB := zB HB hb; clear hb hbox hg))
        obtain ⟨p00, p01, p02, f00, f01, f02⟩ := zc3 B0
        obtain ⟨p10, p11, p12, f10, f11, f12⟩ := zc3 B1
        go_wp2_with (first | (go_at_call 6; refine (impl_MeetTimes.calls k a0_0 a0_1 a0_2 a1_0 a1_1 a1_2 l _ _ E1.1).mono ?_; rintro e w6 ⟨v, rfl, hr, hb⟩; obtain ⟨A, c, rfl⟩ := Kd.R_slice hr; have HR := Aside0.mk (Kd.R_lower hr (below_size HB.1)); replace HB := zB HB hb; replace B2 := zb B2 hb; replace B3 := zb B3 hb; obtain ⟨p20, p21, f20, f21⟩ := zc2 B2; obtain ⟨p30, p31, f30, f31⟩ := zc2 B3; clear hr) | (go_at_call 39; refine (impl_IsTurn.calls k a2_0 a2_1 _ _ E2.1).mono ?_; rintro e w7 ⟨rfl, hb7⟩; clear p20 p21 f20 f21 p30 p31 f30 f31; replace HB := zB HB hb7; replace B2 := zb B2 hb7; replace B3 := zb B3 hb7; replace HR := rB HR hb7; obtain ⟨p20, p21, f20, f21⟩ := zc2 B2; obtain ⟨p30, p31, f30, f31⟩ := zc2 B3) | (go_at_call 41; refine (impl_NextMeet.notFound a2_0 a2_1 g2 A c l _ _ HX.1 HR.1 B2.1).mono ?_; rintro e w8 ⟨ad, rfl, hm, rfl, hx0, hx1, hb8⟩; clear p20 p21 f20 f21 p30 p31 f30 f31; replace HB := zB HB hb8; replace B3 := zb B3 hb8; obtain ⟨p30, p31, f30, f31⟩ := zc2 B3))
        refine bodyPost_ret (results_ct rfl _ _ g3 25 #[.int .i64 _, .int .i64 _] (0, 0) _ rfl (blk_put (cs' := #[.int .i64 _, .int .i64 _]) (blk_put (cs' := #[.int .i64 _, .int .i64 0]) B3.1 0 _ rfl) 1 _ rfl) Try.underlying25 rfl (by kernel_rfl)) rfl ?_
        exact ⟨rfl, below_set (below_set HB.1 G3.1) G3.1⟩
end
end

end Go.Proofs.Ytoneipoioiokcaa.PFnHandsMeet
