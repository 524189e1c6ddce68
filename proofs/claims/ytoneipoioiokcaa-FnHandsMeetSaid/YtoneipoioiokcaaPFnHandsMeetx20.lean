/- A part of the walk of FnHandsMeet: which Lean function each Go function comes to, and that the machine's call does so. Written by a program of this repo (wip/gen/xprint.py). -/
import Derived.Test.YtoneipoioiokcaaPFnHandsMeetx0
import Derived.Test.YtoneipoioiokcaaPFnHandsMeetx2
import Derived.Test.YtoneipoioiokcaaPFnHandsMeetx4
import Derived.Test.YtoneipoioiokcaaPFnHandsMeetx5
import Derived.Test.YtoneipoioiokcaaPFnHandsMeetx12
import Derived.Test.YtoneipoioiokcaaPFnHandsMeetx14
namespace Go.Proofs.Ytoneipoioiokcaa.PFnHandsMeet
open Go.RowKit Go.Proofs.YtoneipoioiokcaaW.PrintWords Go.Proofs.YtoneipoioiokcaaW.PrintLast Go.Proofs.YtoneipoioiokcaaW.PrintMore
attribute [local go_sem] max2_int min2_int max_two min_two max_three min_three max_four min_four   -- for this text's walks alone
set_option linter.unusedVariables false
set_option linter.unusedSimpArgs false

/-! ### spec_DrawNextMeet: function 22 -/
def isAt (F : Nat → Value) (j : Nat) (t : S25) : Prop := F (j * 2) = .int .i64 t.f0 ∧ F (j * 2 + 1) = .int .i64 t.f1
theorem rowIs_below {W W' : World} {b : Nat} {t : TypeId} {n : Nat} {f : Nat → Value} (h : W.rowIs b t n f) (hb : Below W.heap.size W W') : W'.rowIs b t n f := h.of_block (hb.block b h.lt)
theorem flat_at : ∀ (l : List S25) (q : Nat) (hq : q < l.length), ((l.map pairOf).flatMap enc2)[q * 2]? = some (.int .i64 l[q].f0) ∧ ((l.map pairOf).flatMap enc2)[q * 2 + 1]? = some (.int .i64 l[q].f1)
  | [], q, h => absurd h (by simp)
  | t :: l, 0, _ => ⟨rfl, rfl⟩
  | t :: l, q + 1, h => by
    have ih := flat_at l q (by simpa using h)
    have e : (((t :: l).map pairOf).flatMap enc2) = .int .i64 t.f0 :: .int .i64 t.f1 :: ((l.map pairOf).flatMap enc2) := rfl
    rw [e, show (q + 1) * 2 = q * 2 + 1 + 1 by omega, show (q * 2 + 1 + 1 + 1) = (q * 2 + 1) + 1 + 1 by omega]
    simpa using ih
theorem flat_length (l : List S25) : ((l.map pairOf).flatMap enc2).length = l.length * 2 := by
  induction l with
  | nil => rfl
  | cons t l ih =>
    have e : (((t :: l).map pairOf).flatMap enc2) = .int .i64 t.f0 :: .int .i64 t.f1 :: ((l.map pairOf).flatMap enc2) := rfl
    rw [e, List.length_cons, List.length_cons, ih, List.length_cons]
    omega
theorem row_open {base : Nat} {W : World} {ok : Nat → Prop} {v : Value} {l : List S25} (h : Kd.R k25 25 W base ok v l) : (v = .slice none 0 0 ∧ l = []) ∨ ∃ g cap F, v = .slice (some ⟨g, 0, none⟩) l.length cap ∧ base ≤ g ∧ W.rowIs g 25 (cap * 2) F ∧ l.length ≤ cap ∧ cap ≤ maxLen ∧ ∀ j (hj : j < l.length), isAt F j l[j] := by
  obtain ⟨hok, inner, ho, hr⟩ := h
  have hc := reps_cells l inner hr
  subst hc
  rcases ho.2 with ⟨rfl, h0⟩ | ⟨g, cap, cur, rfl, hbase, hb, h1, h2, h3, h4⟩
  · exact .inl ⟨rfl, List.eq_nil_of_length_eq_zero h0⟩
  rw [show k25.sz = 2 from rfl] at h3 h4
  refine .inr ⟨g, cap, fun i => cur[i]?.getD default, rfl, hbase, ⟨cur, hb, h3, fun i hi => by show cur[i]? = some (cur[i]?.getD default); rw [Array.getElem?_eq_getElem (by omega)]; rfl⟩, h1, h2, fun j hj => ?_⟩
  obtain ⟨a, b⟩ := flat_at l j hj
  rw [← h4] at a b
  rw [List.getElem?_take, if_pos (by omega), Array.getElem?_toList] at a b
  exact ⟨by show cur[j * 2]?.getD default = _; rw [a]; rfl, by show cur[j * 2 + 1]?.getD default = _; rw [b]; rfl⟩

theorem row_open1 {base : Nat} {W : World} {ok : Nat → Prop} {v : Value} {l : List S25} (h : Kd.R k25 25 W base ok v l) (hne : l ≠ []) : ∃ g cap F, v = .slice (some ⟨g, 0, none⟩) l.length cap ∧ base ≤ g ∧ W.rowIs g 25 (cap * 2) F ∧ l.length ≤ cap ∧ ∀ j (hj : j < l.length), isAt F j l[j] := by
  rcases row_open h with ⟨_, e⟩ | ⟨g, cap, F, e, h1, h2, h3, _, h5⟩
  · exact absurd e hne
  exact ⟨g, cap, F, e, h1, h2, h3, h5⟩
theorem far_any {w : World} {g : Nat} {o : Obj} {p : Addr} (h : w.heap[g]? = some o) (hp : g ≠ p.block) (u : Value) : (w.setCell p u).heap[g]? = some o := (Below.heap_setCell w p u g hp).trans h
theorem im_ {a b : Nat} (h : Aside0 (a ≠ b)) : Aside0 (b ≠ a) := ⟨Ne.symm h.out⟩
theorem put3_ {w : World} {g : Nat} {t : TypeId} {x0 x1 x2 y0 y1 y2 : Value} (h : w.heap[g]? = some (.cells #[x0, x1, x2] t (0, 0))) {Q : World → Prop} (hq : ∀ w' : World, w'.heap[g]? = some (.cells #[y0, y1, y2] t (0, 0)) → (∀ b, b ≠ g → w'.heap[b]? = w.heap[b]?) → (∀ v0 : World, Below v0.heap.size v0 w → v0.heap.size ≤ g → Below v0.heap.size v0 w') → Q w') : Q (((w.setCell ⟨g, 0, none⟩ y0).setCell ⟨g, 1, none⟩ y1).setCell ⟨g, 2, none⟩ y2) :=
  hq _ (blk_put (cs' := #[y0, y1, y2]) (blk_put (cs' := #[y0, y1, x2]) (blk_put (cs' := #[y0, x1, x2]) h 0 _ rfl) 1 _ rfl) 2 _ rfl) (fun b hb => ((Below.heap_setCell _ ⟨g, 2, none⟩ _ b hb).trans (Below.heap_setCell _ ⟨g, 1, none⟩ _ b hb)).trans (Below.heap_setCell _ ⟨g, 0, none⟩ _ b hb)) (fun v0 hb hg => below_set (below_set (below_set hb hg) hg) hg)
theorem put2_ {w : World} {g : Nat} {t : TypeId} {x0 x1 y0 y1 : Value} (h : w.heap[g]? = some (.cells #[x0, x1] t (0, 0))) {Q : World → Prop} (hq : ∀ w' : World, w'.heap[g]? = some (.cells #[y0, y1] t (0, 0)) → (∀ b, b ≠ g → w'.heap[b]? = w.heap[b]?) → (∀ v0 : World, Below v0.heap.size v0 w → v0.heap.size ≤ g → Below v0.heap.size v0 w') → Q w') : Q ((w.setCell ⟨g, 0, none⟩ y0).setCell ⟨g, 1, none⟩ y1) :=
  hq _ (blk_put (cs' := #[y0, y1]) (blk_put (cs' := #[y0, x1]) h 0 _ rfl) 1 _ rfl) (fun b hb => (Below.heap_setCell _ ⟨g, 1, none⟩ _ b hb).trans (Below.heap_setCell _ ⟨g, 0, none⟩ _ b hb)) (fun v0 hb hg => below_set (below_set hb hg) hg)
def spec_DrawNextMeet.f (k : Nat) (l0 : List Int) : Option (Int × Int × Int × Int × Int × Int × Int × Int) := (spec_l1Cur_hand.f k l0 0 0).bind fun b => (spec_l1Cur_hand.f k l0 b.2.2.2.1 b.2.2.2.2).bind fun c => (spec_MeetTimes.f k b.1 b.2.1 b.2.2.1 c.1 c.2.1 c.2.2.1).bind fun r => if r.2 = true then ((spec_l1Cur_one.f l0 c.2.2.2.1 c.2.2.2.2 2).bind fun o => if o.1 = true then ((spec_l1Cur_pick.f l0 o.2.1 o.2.2 (r.1.length : Int)).bind fun p => if 0 ≤ p.1 ∧ p.1 < (r.1.length : Int) then some (b.1, b.2.1, b.2.2.1, c.1, c.2.1, c.2.2.1, (rd_T25 r.1 p.1).f0, (rd_T25 r.1 p.1).f1) else none) else ((spec_l1Cur_turn.f k l0 o.2.1 o.2.2).bind fun d => some (b.1, b.2.1, b.2.2.1, c.1, c.2.1, c.2.2.1, d.1, d.2.1))) else ((spec_l1Cur_turn.f k l0 c.2.2.2.1 c.2.2.2.2).bind fun d => some (b.1, b.2.1, b.2.2.1, c.1, c.2.1, c.2.2.1, d.1, d.2.1))
theorem spec_DrawNextMeet.mono : ∀ a0 k, LeO (spec_DrawNextMeet.f k a0) (spec_DrawNextMeet.f (k + 1) a0) := by
  intro a0 k
  unfold spec_DrawNextMeet.f
  exact LeO.bind (spec_l1Cur_hand.mono _ _ _ _) (fun _ => LeO.bind (spec_l1Cur_hand.mono _ _ _ _) (fun _ => LeO.bind (spec_MeetTimes.mono _ _ _ _ _ _ _) (fun _ => LeO.ite (LeO.bind (LeO.refl _) (fun _ => LeO.ite (LeO.refl _) (LeO.bind (spec_l1Cur_turn.mono _ _ _ _) (fun _ => LeO.refl _)))) (LeO.bind (spec_l1Cur_turn.mono _ _ _ _) (fun _ => LeO.refl _)))))
def spec_DrawNextMeet.T5 : Bool × List (List Nat × List Nat) := (true, [([], []), ([], []), ([], []), ([], []), ([], []), ([4], [4]), ([3, 5], [3, 5]), ([2, 6], [2, 6]), ([7], [7]), ([0, 6, 0], [0]), ([1, 9, 0, 1, 9], [1]), ([8, 10, 0, 1, 2, 3, 4, 5, 6, 7, 8, 9, 10], [8])])
def spec_DrawNextMeet.B5 : List Nat := [0, 0, 0, 0, 0, 16, 56, 124, 252, 121, 635, 2047]
def spec_DrawNextMeet.T6 : Bool × List (List Nat × List Nat) := (true, [([], []), ([], []), ([], []), ([2], [2]), ([0, 3, 0], [0]), ([1, 4, 0, 1, 4], [1]), ([3, 5, 0, 1, 2, 3, 4, 5], [3])])
def spec_DrawNextMeet.B6 : List Nat := [0, 0, 0, 4, 13, 31, 63]
theorem spec_DrawNextMeet.tab5 : rtab .any (opsOf Try.f22 5) = spec_DrawNextMeet.T5 := by kernel_rfl
theorem spec_DrawNextMeet.bits5 : waitsOk spec_DrawNextMeet.T5.2 spec_DrawNextMeet.B5 = true := by kernel_rfl
theorem spec_DrawNextMeet.tab6 : rtab .any (opsOf Try.f22 6) = spec_DrawNextMeet.T6 := by kernel_rfl
theorem spec_DrawNextMeet.bits6 : waitsOk spec_DrawNextMeet.T6.2 spec_DrawNextMeet.B6 = true := by kernel_rfl
set_option maxHeartbeats 1600000 in
set_option maxRecDepth 100000 in
theorem spec_DrawNextMeet.calls (k : Nat) (A0 : Option Addr) (c0 : Nat) (l0 : List Int) (r1 r2 r3 r4 r5 r6 r7 r8 : Int) (w : World) (hr0 : Kd.C (Kd.int .u8) w A0 l0.length l0) (hc0 : l0.length ≤ c0) (h : spec_DrawNextMeet.f k l0 = some (r1, r2, r3, r4, r5, r6, r7, r8)) :
    Calls Try.prog 22 #[.slice A0 l0.length c0] w fun e w' => e = .returned (.tuple #[.agg #[.int .i64 r1, .int .i64 r2, .int .i64 r3], .agg #[.int .i64 r4, .int .i64 r5, .int .i64 r6], .agg #[.int .i64 r7, .int .i64 r8]]) ∧ Below w.heap.size w w' := by
  unfold spec_DrawNextMeet.f at h
  obtain ⟨⟨b1, b2, b3, i0, s0⟩, e0, h⟩ := Option.bind_eq_some_iff.mp h
  dsimp only at h
  obtain ⟨⟨d1, d2, d3, i1, s1⟩, e1, h⟩ := Option.bind_eq_some_iff.mp h
  dsimp only at h
  obtain ⟨⟨l, ok⟩, e2, h⟩ := Option.bind_eq_some_iff.mp h
  dsimp only at h
  have hu0 := Try.underlying27
  have hu1 := Try.underlying25
  have C0 := Aside0.mk (fun gc W (hI : IsS63 w W gc l0 0 0) (hB : Below w.heap.size w W) => spec_l1Cur_hand.calls k gc l0 0 0 b1 b2 b3 i0 s0 w W hI hB e0)
  have C1 := Aside0.mk (fun gc W (hI : IsS63 w W gc l0 i0 s0) (hB : Below w.heap.size w W) => spec_l1Cur_hand.calls k gc l0 i0 s0 d1 d2 d3 i1 s1 w W hI hB e1)
  have C2 := Aside0.mk (fun W => spec_MeetTimes.calls k b1 b2 b3 d1 d2 d3 l ok W e2)
  clear e0 e1 e2
  cases ok with
  | false =>
    simp only [Bool.false_eq_true, if_false] at h
    obtain ⟨⟨v1, v2, i3, s3⟩, e3, h⟩ := Option.bind_eq_some_iff.mp h
    simp only [Option.some.injEq, Prod.mk.injEq] at h
    obtain ⟨rfl, rfl, rfl, rfl, rfl, rfl, rfl, rfl⟩ := h
    have C4 := Aside0.mk (fun gc W (hI : IsS63 w W gc l0 i1 s1) (hB : Below w.heap.size w W) => spec_l1Cur_turn.calls k gc l0 i1 s1 v1 v2 i3 s3 w W hI hB e3)
    clear e3
    go_enter Try.func22, Try.ntmps22
    go_upto_region 2 with (fail)
    refine Own.gen (Own.boxes4 w) ?_
    intro w1 HO
    generalize w.heap.size + 1 + 1 + 1 = gc at HO ⊢
    generalize w.heap.size + 1 + 1 = g4 at HO ⊢
    generalize w.heap.size + 1 = g3 at HO ⊢
    generalize w.heap.size = g2 at HO ⊢
    have z := HO.at_ 3 gc _ rfl
    have Z2 := Aside0.mk (HO.at_ 0 g2 _ rfl).2
    have L2 := Aside0.mk (HO.at_ 0 g2 _ rfl).1
    have N2s : Aside0 (g2 ≠ gc) := ⟨HO.ne (i := 0) (j := 3) rfl rfl (by decide)⟩
    have N23 : Aside0 (g2 ≠ g3) := ⟨HO.ne (i := 0) (j := 1) rfl rfl (by decide)⟩
    have N24 : Aside0 (g2 ≠ g4) := ⟨HO.ne (i := 0) (j := 2) rfl rfl (by decide)⟩
    have Z3 := Aside0.mk (HO.at_ 1 g3 _ rfl).2
    have L3 := Aside0.mk (HO.at_ 1 g3 _ rfl).1
    have N3s : Aside0 (g3 ≠ gc) := ⟨HO.ne (i := 1) (j := 3) rfl rfl (by decide)⟩
    have N32 : Aside0 (g3 ≠ g2) := ⟨HO.ne (i := 1) (j := 0) rfl rfl (by decide)⟩
    have N34 : Aside0 (g3 ≠ g4) := ⟨HO.ne (i := 1) (j := 2) rfl rfl (by decide)⟩
    have Z4 := Aside0.mk (HO.at_ 2 g4 _ rfl).2
    have L4 := Aside0.mk (HO.at_ 2 g4 _ rfl).1
    have N4s : Aside0 (g4 ≠ gc) := ⟨HO.ne (i := 2) (j := 3) rfl rfl (by decide)⟩
    have N42 : Aside0 (g4 ≠ g2) := ⟨HO.ne (i := 2) (j := 0) rfl rfl (by decide)⟩
    have N43 : Aside0 (g4 ≠ g3) := ⟨HO.ne (i := 2) (j := 1) rfl rfl (by decide)⟩
    have HI : Aside0 (IsS63 w w1 gc l0 0 0) := ⟨⟨A0, c0, z.2, z.1, hr0⟩⟩
    have HB := Aside0.mk HO.below
    clear HO z hr0 hc0
    go_upto_region 3 with (first | (go_at_call 44; with_reducible refine (C0.1 gc _ HI.1 HB.1).mono ?_; rintro e w2 ⟨rfl, hi, hb, hk⟩; replace Z2 := kb Z2 hk N2s; replace Z3 := kb Z3 hk N3s; replace Z4 := kb Z4 hk N4s; replace HI := Aside0.mk hi; replace HB := Aside0.mk hb; clear hi hb hk C0) | (go_at_call 44; with_reducible refine (C1.1 gc _ HI.1 HB.1).mono ?_; rintro e w3 ⟨rfl, hi, hb, hk⟩; replace Z2 := kb Z2 hk N2s; replace Z3 := kb Z3 hk N3s; replace Z4 := kb Z4 hk N4s; replace HI := Aside0.mk hi; replace HB := Aside0.mk hb; clear hi hb hk C1) | ((with_reducible refine gate_dst (N := 6) rfl ?_); refine be #[.int .i64 0, .int .i64 0, .int .i64 0] 27 ?_; intro g6 hg w4 hbox hb; have B6 := Aside0.mk hbox; have L6 := zs HB hg; have Ns6 := il63 HI hg; have N26 := zn Z2 hg; have M62 := zm Z2 hg; have N36 := zn Z3 hg; have M63 := zm Z3 hg; have N46 := zn Z4 hg; have M64 := zm Z4 hg; replace Z2 := zb Z2 hb; replace Z3 := zb Z3 hb; replace Z4 := zb Z4 hb; replace HI := iB63 HI hb; replace HB := zB HB hb; clear hb hbox hg) | ((with_reducible refine gate_dst (N := 7) rfl ?_); refine be #[.int .i64 0, .int .i64 0, .int .i64 0] 27 ?_; intro g7 hg w5 hbox hb; have B7 := Aside0.mk hbox; have L7 := zs HB hg; have Ns7 := il63 HI hg; have N67 := zn B6 hg; have M76 := zm B6 hg; have N27 := zn Z2 hg; have M72 := zm Z2 hg; have N37 := zn Z3 hg; have M73 := zm Z3 hg; have N47 := zn Z4 hg; have M74 := zm Z4 hg; replace Z2 := zb Z2 hb; replace Z3 := zb Z3 hb; replace Z4 := zb Z4 hb; replace B6 := zb B6 hb; replace HI := iB63 HI hb; replace HB := zB HB hb; clear hb hbox hg; obtain ⟨h60, h61, h62, f60, f61, f62⟩ := zc3 B6; obtain ⟨h70, h71, h72, f70, f71, f72⟩ := zc3 B7; have o67 := N67.1; have o76 := M76.1))
    go_wp2_with (first | (go_at_call 7; refine (C2.1 _).mono ?_; rintro e w6 ⟨v, rfl, hr, hb⟩; clear h60 h61 h62 f60 f61 f62 h70 h71 h72 f70 f71 f72 o67 o76; replace Z2 := zy Z2 hb; replace Z3 := zy Z3 hb; replace Z4 := zy Z4 hb; replace B6 : Aside0 (w6.heap[g6]? = some (.cells #[.int .i64 b1, .int .i64 b2, .int .i64 b3] 27 (0, 0))) := ⟨blk_below (far_any (far_any (far_any (blk_put (cs' := #[.int .i64 b1, .int .i64 b2, .int .i64 b3]) (blk_put (cs' := #[.int .i64 b1, .int .i64 b2, .int .i64 0]) (blk_put (cs' := #[.int .i64 b1, .int .i64 0, .int .i64 0]) B6.1 0 _ rfl) 1 _ rfl) 2 _ rfl) N67.1 _) N67.1 _) N67.1 _) hb⟩; replace B7 : Aside0 (w6.heap[g7]? = some (.cells #[.int .i64 d1, .int .i64 d2, .int .i64 d3] 27 (0, 0))) := ⟨blk_below (blk_put (cs' := #[.int .i64 d1, .int .i64 d2, .int .i64 d3]) (blk_put (cs' := #[.int .i64 d1, .int .i64 d2, .int .i64 0]) (blk_put (cs' := #[.int .i64 d1, .int .i64 0, .int .i64 0]) (far_any (far_any (far_any B7.1 M76.1 _) M76.1 _) M76.1 _) 0 _ rfl) 1 _ rfl) 2 _ rfl) hb⟩; replace HI : Aside0 (IsS63 w w6 gc l0 i1 s1) := ⟨IsS63.below (IsS63.far (IsS63.far (IsS63.far (IsS63.far (IsS63.far (IsS63.far HI.1 (p := ⟨g6, 0, none⟩) Ns6.1 _) (p := ⟨g6, 1, none⟩) Ns6.1 _) (p := ⟨g6, 2, none⟩) Ns6.1 _) (p := ⟨g7, 0, none⟩) Ns7.1 _) (p := ⟨g7, 1, none⟩) Ns7.1 _) (p := ⟨g7, 2, none⟩) Ns7.1 _) hb⟩; have HR := Aside0.mk hr; replace HB := zB HB hb; clear hb hr C2))
    replace HI := Aside0.mk (IsS63.drew HI.1)
    replace Z2 := Aside0.mk (blk_drew Z2.1)
    replace Z3 := Aside0.mk (blk_drew Z3.1)
    replace Z4 := Aside0.mk (blk_drew Z4.1)
    replace B6 := Aside0.mk (blk_drew B6.1)
    replace B7 := Aside0.mk (blk_drew B7.1)
    replace HB := Aside0.mk (below_drew1 HB.1)
    refine start_ (n := 7) (S := (fun W => W.heap[g6]? = some (.cells #[.int .i64 b1, .int .i64 b2, .int .i64 b3] 27 (0, 0)) ∧ W.heap[g7]? = some (.cells #[.int .i64 d1, .int .i64 d2, .int .i64 d3] 27 (0, 0)))) (ds := []) (bs 7 0) (by kernel_rfl) rfl rfl ⟨B6.1, B7.1⟩ (fun hHeld => ?_); refine with_tabW spec_DrawNextMeet.tab6 spec_DrawNextMeet.bits6 (fun HT_ HW_ => ?_)
    generalize World.drew _ = w9 at HI Z2 Z3 Z4 B6 B7 HB hHeld ⊢
    refine take_ (i := 0) (N := some 37) (v := ?_) (a' := ?_) (bs 7 1) rfl rfl (take_ofW HT_.1 HW_.1 (by kernel_rfl)) (fun _ _ _ h => h) (Or.inl ⟨by rfl, ?_⟩) hHeld ?_ ?_
    rotate_left
    · rintro w' ⟨s6, s7⟩
      obtain ⟨q0, q1, q2, q3, q4, q5⟩ := zc3 (Aside0.mk s6)
      go_simp
      with_reducible rfl
    rotate_left
    · simp only [Act.put, List.setIfInBounds_toArray, List.set_cons_zero, List.set_cons_succ, i64_w, i32_w]
      rfl
    refine take_ (i := 1) (N := some 38) (v := ?_) (a' := ?_) (bs 7 3) rfl rfl (take_ofW HT_.1 HW_.1 (by kernel_rfl)) (fun _ _ _ h => h) (Or.inl ⟨by rfl, ?_⟩) hHeld ?_ ?_
    rotate_left
    · rintro w' ⟨s6, s7⟩
      obtain ⟨q0, q1, q2, q3, q4, q5⟩ := zc3 (Aside0.mk s7)
      go_simp
      with_reducible rfl
    rotate_left
    · simp only [Act.put, List.setIfInBounds_toArray, List.set_cons_zero, List.set_cons_succ, i64_w, i32_w]
      rfl
    refine pu 2 39 HT_ rfl rfl (bs 7 7) ?_
    refine one_ (i := 3) (N := some 40) (bs 7 15) rfl rfl (one_of HT_.1 (by kernel_rfl)) (by decide) (fun K hK => ?_)
    refine gs Try.func47 #[.pointer (some ⟨gc, 0, none⟩)] ?_
    refine (C4.1 gc _ HI.1 HB.1).mono ?_
    rintro e w10 ⟨rfl, hi, hb, hk⟩
    refine ⟨_, rfl, ?_⟩
    replace Z2 := kb Z2 hk N2s
    replace Z3 := kb Z3 hk N3s
    replace Z4 := kb Z4 hk N4s
    replace B6 := kb B6 hk (im_ Ns6)
    replace B7 := kb B7 hk (im_ Ns7)
    replace HB := Aside0.mk hb
    clear hi hb hk C4 HI
    refine hK.out _ _ ⟨B6.1, B7.1⟩ (fun hHeld => ?_)
    clear hK K
    refine norm_ (aq 40) ?_
    refine one_ (i := 4) (N := none) (bs 7 31) rfl rfl (one_of HT_.1 (by kernel_rfl)) (by decide) (fun K hK => ?_)
    obtain ⟨c0, c1, c2, f0, f1, f2⟩ := zc3 Z2
    refine skip_ (w1 := ?_) (by rfl) rfl ?_ ?_
    rotate_left
    · go_simp
      rfl
    clear c0 c1 c2 f0 f1 f2
    refine put3_ Z2.1 (Q := fun W => K _ W) ?_
    intro w11 z hoth hbel
    have ZZ := Aside0.mk z
    replace Z3 := Aside0.mk ((hoth g3 N32.1).trans Z3.1)
    replace Z4 := Aside0.mk ((hoth g4 N42.1).trans Z4.1)
    replace B6 := Aside0.mk ((hoth g6 M62.1).trans B6.1)
    replace B7 := Aside0.mk ((hoth g7 M72.1).trans B7.1)
    replace Z2 := ZZ
    replace HB := Aside0.mk (hbel w HB.1 L2.1)
    clear z hoth hbel ZZ
    refine hK.out _ _ ⟨B6.1, B7.1⟩ (fun hHeld => ?_)
    clear hK K
    refine one_ (i := 5) (N := none) (bs 7 63) rfl rfl (one_of HT_.1 (by kernel_rfl)) (by decide) (fun K hK => ?_)
    obtain ⟨c0, c1, c2, f0, f1, f2⟩ := zc3 Z3
    refine skip_ (w1 := ?_) (by rfl) rfl ?_ ?_
    rotate_left
    · go_simp
      rfl
    clear c0 c1 c2 f0 f1 f2
    refine put3_ Z3.1 (Q := fun W => K _ W) ?_
    intro w12 z hoth hbel
    have ZZ := Aside0.mk z
    replace Z2 := Aside0.mk ((hoth g2 N23.1).trans Z2.1)
    replace Z4 := Aside0.mk ((hoth g4 N43.1).trans Z4.1)
    replace B6 := Aside0.mk ((hoth g6 M63.1).trans B6.1)
    replace B7 := Aside0.mk ((hoth g7 M73.1).trans B7.1)
    replace Z3 := ZZ
    replace HB := Aside0.mk (hbel w HB.1 L3.1)
    clear z hoth hbel ZZ
    refine hK.out _ _ ⟨B6.1, B7.1⟩ (fun hHeld => ?_)
    clear hK K
    refine one_ (i := 6) (N := none) (bs 7 127) rfl rfl (one_of HT_.1 (by kernel_rfl)) (by decide) (fun K hK => ?_)
    obtain ⟨c0, c1, f0, f1⟩ := zc2 Z4
    refine skip_ (w1 := ?_) (by rfl) rfl ?_ ?_
    rotate_left
    · go_simp
      rfl
    clear c0 c1 f0 f1
    refine put2_ Z4.1 (Q := fun W => K _ W) ?_
    intro w13 z hoth hbel
    have ZZ := Aside0.mk z
    replace Z2 := Aside0.mk ((hoth g2 N24.1).trans Z2.1)
    replace Z3 := Aside0.mk ((hoth g3 N34.1).trans Z3.1)
    replace B6 := Aside0.mk ((hoth g6 M64.1).trans B6.1)
    replace B7 := Aside0.mk ((hoth g7 M74.1).trans B7.1)
    replace Z4 := ZZ
    replace HB := Aside0.mk (hbel w HB.1 L4.1)
    clear z hoth hbel ZZ
    refine hK.out _ _ ⟨B6.1, B7.1⟩ (fun hHeld => ?_)
    clear hK K
    refine done_ (done_of HT_.1 (by kernel_rfl)) ?_
    try go_wp2
    refine bodyPost_ret (results_list (rs := [.cell 2 27, .cell 3 27, .cell 4 25]) rfl (by simp) (.cell g2 27 #[.int .i64 b1, .int .i64 b2, .int .i64 b3] (0, 0) _ rfl Z2.1 Try.underlying27 rfl (by kernel_rfl) (.cell g3 27 #[.int .i64 d1, .int .i64 d2, .int .i64 d3] (0, 0) _ rfl Z3.1 Try.underlying27 rfl (by kernel_rfl) (.cell g4 25 #[.int .i64 v1, .int .i64 v2] (0, 0) _ rfl Z4.1 Try.underlying25 rfl (by kernel_rfl) .nil)))) rfl ?_
    exact ⟨rfl, HB.1⟩
  | true =>
    rw [if_pos rfl] at h
    obtain ⟨⟨o, i2, s2⟩, e3, h⟩ := Option.bind_eq_some_iff.mp h
    dsimp only at h
    have C3 := Aside0.mk (fun gc W (hI : IsS63 w W gc l0 i1 s1) (hB : Below w.heap.size w W) => spec_l1Cur_one.calls gc l0 i1 s1 2 o i2 s2 w W hI hB e3)
    clear e3
    cases o with
    | false =>
      simp only [Bool.false_eq_true, if_false] at h
      obtain ⟨⟨v1, v2, i3, s3⟩, e3, h⟩ := Option.bind_eq_some_iff.mp h
      simp only [Option.some.injEq, Prod.mk.injEq] at h
      obtain ⟨rfl, rfl, rfl, rfl, rfl, rfl, rfl, rfl⟩ := h
      have C4 := Aside0.mk (fun gc W (hI : IsS63 w W gc l0 i2 s2) (hB : Below w.heap.size w W) => spec_l1Cur_turn.calls k gc l0 i2 s2 v1 v2 i3 s3 w W hI hB e3)
      clear e3
      go_enter Try.func22, Try.ntmps22
      go_upto_region 2 with (fail)
      refine Own.gen (Own.boxes4 w) ?_
      intro w1 HO
      generalize w.heap.size + 1 + 1 + 1 = gc at HO ⊢
      generalize w.heap.size + 1 + 1 = g4 at HO ⊢
      generalize w.heap.size + 1 = g3 at HO ⊢
      generalize w.heap.size = g2 at HO ⊢
      have z := HO.at_ 3 gc _ rfl
      have Z2 := Aside0.mk (HO.at_ 0 g2 _ rfl).2
      have L2 := Aside0.mk (HO.at_ 0 g2 _ rfl).1
      have N2s : Aside0 (g2 ≠ gc) := ⟨HO.ne (i := 0) (j := 3) rfl rfl (by decide)⟩
      have N23 : Aside0 (g2 ≠ g3) := ⟨HO.ne (i := 0) (j := 1) rfl rfl (by decide)⟩
      have N24 : Aside0 (g2 ≠ g4) := ⟨HO.ne (i := 0) (j := 2) rfl rfl (by decide)⟩
      have Z3 := Aside0.mk (HO.at_ 1 g3 _ rfl).2
      have L3 := Aside0.mk (HO.at_ 1 g3 _ rfl).1
      have N3s : Aside0 (g3 ≠ gc) := ⟨HO.ne (i := 1) (j := 3) rfl rfl (by decide)⟩
      have N32 : Aside0 (g3 ≠ g2) := ⟨HO.ne (i := 1) (j := 0) rfl rfl (by decide)⟩
      have N34 : Aside0 (g3 ≠ g4) := ⟨HO.ne (i := 1) (j := 2) rfl rfl (by decide)⟩
      have Z4 := Aside0.mk (HO.at_ 2 g4 _ rfl).2
      have L4 := Aside0.mk (HO.at_ 2 g4 _ rfl).1
      have N4s : Aside0 (g4 ≠ gc) := ⟨HO.ne (i := 2) (j := 3) rfl rfl (by decide)⟩
      have N42 : Aside0 (g4 ≠ g2) := ⟨HO.ne (i := 2) (j := 0) rfl rfl (by decide)⟩
      have N43 : Aside0 (g4 ≠ g3) := ⟨HO.ne (i := 2) (j := 1) rfl rfl (by decide)⟩
      have HI : Aside0 (IsS63 w w1 gc l0 0 0) := ⟨⟨A0, c0, z.2, z.1, hr0⟩⟩
      have HB := Aside0.mk HO.below
      clear HO z hr0 hc0
      go_upto_region 3 with (first | (go_at_call 44; with_reducible refine (C0.1 gc _ HI.1 HB.1).mono ?_; rintro e w2 ⟨rfl, hi, hb, hk⟩; replace Z2 := kb Z2 hk N2s; replace Z3 := kb Z3 hk N3s; replace Z4 := kb Z4 hk N4s; replace HI := Aside0.mk hi; replace HB := Aside0.mk hb; clear hi hb hk C0) | (go_at_call 44; with_reducible refine (C1.1 gc _ HI.1 HB.1).mono ?_; rintro e w3 ⟨rfl, hi, hb, hk⟩; replace Z2 := kb Z2 hk N2s; replace Z3 := kb Z3 hk N3s; replace Z4 := kb Z4 hk N4s; replace HI := Aside0.mk hi; replace HB := Aside0.mk hb; clear hi hb hk C1) | ((with_reducible refine gate_dst (N := 6) rfl ?_); refine be #[.int .i64 0, .int .i64 0, .int .i64 0] 27 ?_; intro g6 hg w4 hbox hb; have B6 := Aside0.mk hbox; have L6 := zs HB hg; have Ns6 := il63 HI hg; have N26 := zn Z2 hg; have M62 := zm Z2 hg; have N36 := zn Z3 hg; have M63 := zm Z3 hg; have N46 := zn Z4 hg; have M64 := zm Z4 hg; replace Z2 := zb Z2 hb; replace Z3 := zb Z3 hb; replace Z4 := zb Z4 hb; replace HI := iB63 HI hb; replace HB := zB HB hb; clear hb hbox hg) | ((with_reducible refine gate_dst (N := 7) rfl ?_); refine be #[.int .i64 0, .int .i64 0, .int .i64 0] 27 ?_; intro g7 hg w5 hbox hb; have B7 := Aside0.mk hbox; have L7 := zs HB hg; have Ns7 := il63 HI hg; have N67 := zn B6 hg; have M76 := zm B6 hg; have N27 := zn Z2 hg; have M72 := zm Z2 hg; have N37 := zn Z3 hg; have M73 := zm Z3 hg; have N47 := zn Z4 hg; have M74 := zm Z4 hg; replace Z2 := zb Z2 hb; replace Z3 := zb Z3 hb; replace Z4 := zb Z4 hb; replace B6 := zb B6 hb; replace HI := iB63 HI hb; replace HB := zB HB hb; clear hb hbox hg; obtain ⟨h60, h61, h62, f60, f61, f62⟩ := zc3 B6; obtain ⟨h70, h71, h72, f70, f71, f72⟩ := zc3 B7; have o67 := N67.1; have o76 := M76.1))
      go_wp2_with (first | (go_at_call 7; refine (C2.1 _).mono ?_; rintro e w6 ⟨v, rfl, hr, hb⟩; clear h60 h61 h62 f60 f61 f62 h70 h71 h72 f70 f71 f72 o67 o76; replace Z2 := zy Z2 hb; replace Z3 := zy Z3 hb; replace Z4 := zy Z4 hb; replace B6 : Aside0 (w6.heap[g6]? = some (.cells #[.int .i64 b1, .int .i64 b2, .int .i64 b3] 27 (0, 0))) := ⟨blk_below (far_any (far_any (far_any (blk_put (cs' := #[.int .i64 b1, .int .i64 b2, .int .i64 b3]) (blk_put (cs' := #[.int .i64 b1, .int .i64 b2, .int .i64 0]) (blk_put (cs' := #[.int .i64 b1, .int .i64 0, .int .i64 0]) B6.1 0 _ rfl) 1 _ rfl) 2 _ rfl) N67.1 _) N67.1 _) N67.1 _) hb⟩; replace B7 : Aside0 (w6.heap[g7]? = some (.cells #[.int .i64 d1, .int .i64 d2, .int .i64 d3] 27 (0, 0))) := ⟨blk_below (blk_put (cs' := #[.int .i64 d1, .int .i64 d2, .int .i64 d3]) (blk_put (cs' := #[.int .i64 d1, .int .i64 d2, .int .i64 0]) (blk_put (cs' := #[.int .i64 d1, .int .i64 0, .int .i64 0]) (far_any (far_any (far_any B7.1 M76.1 _) M76.1 _) M76.1 _) 0 _ rfl) 1 _ rfl) 2 _ rfl) hb⟩; replace HI : Aside0 (IsS63 w w6 gc l0 i1 s1) := ⟨IsS63.below (IsS63.far (IsS63.far (IsS63.far (IsS63.far (IsS63.far (IsS63.far HI.1 (p := ⟨g6, 0, none⟩) Ns6.1 _) (p := ⟨g6, 1, none⟩) Ns6.1 _) (p := ⟨g6, 2, none⟩) Ns6.1 _) (p := ⟨g7, 0, none⟩) Ns7.1 _) (p := ⟨g7, 1, none⟩) Ns7.1 _) (p := ⟨g7, 2, none⟩) Ns7.1 _) hb⟩; have HR := Aside0.mk hr; replace HB := zB HB hb; clear hb hr C2) | (go_at_call 45; refine (C3.1 gc _ HI.1 HB.1).mono ?_; rintro e w7 ⟨rfl, hi, hb, hk⟩; replace Z2 := kb Z2 hk N2s; replace Z3 := kb Z3 hk N3s; replace Z4 := kb Z4 hk N4s; replace B6 := kb B6 hk (im_ Ns6); replace B7 := kb B7 hk (im_ Ns7); replace HI := Aside0.mk hi; replace HB := Aside0.mk hb; clear hi hb hk C3))
      replace HI := Aside0.mk (IsS63.drew HI.1)
      replace Z2 := Aside0.mk (blk_drew Z2.1)
      replace Z3 := Aside0.mk (blk_drew Z3.1)
      replace Z4 := Aside0.mk (blk_drew Z4.1)
      replace B6 := Aside0.mk (blk_drew B6.1)
      replace B7 := Aside0.mk (blk_drew B7.1)
      replace HB := Aside0.mk (below_drew1 HB.1)
      refine start_ (n := 7) (S := (fun W => W.heap[g6]? = some (.cells #[.int .i64 b1, .int .i64 b2, .int .i64 b3] 27 (0, 0)) ∧ W.heap[g7]? = some (.cells #[.int .i64 d1, .int .i64 d2, .int .i64 d3] 27 (0, 0)))) (ds := []) (bs 7 0) (by kernel_rfl) rfl rfl ⟨B6.1, B7.1⟩ (fun hHeld => ?_); refine with_tabW spec_DrawNextMeet.tab6 spec_DrawNextMeet.bits6 (fun HT_ HW_ => ?_)
      generalize World.drew _ = w9 at HI Z2 Z3 Z4 B6 B7 HB hHeld ⊢
      refine take_ (i := 0) (N := some 37) (v := ?_) (a' := ?_) (bs 7 1) rfl rfl (take_ofW HT_.1 HW_.1 (by kernel_rfl)) (fun _ _ _ h => h) (Or.inl ⟨by rfl, ?_⟩) hHeld ?_ ?_
      rotate_left
      · rintro w' ⟨s6, s7⟩
        obtain ⟨q0, q1, q2, q3, q4, q5⟩ := zc3 (Aside0.mk s6)
        go_simp
        with_reducible rfl
      rotate_left
      · simp only [Act.put, List.setIfInBounds_toArray, List.set_cons_zero, List.set_cons_succ, i64_w, i32_w]
        rfl
      refine take_ (i := 1) (N := some 38) (v := ?_) (a' := ?_) (bs 7 3) rfl rfl (take_ofW HT_.1 HW_.1 (by kernel_rfl)) (fun _ _ _ h => h) (Or.inl ⟨by rfl, ?_⟩) hHeld ?_ ?_
      rotate_left
      · rintro w' ⟨s6, s7⟩
        obtain ⟨q0, q1, q2, q3, q4, q5⟩ := zc3 (Aside0.mk s7)
        go_simp
        with_reducible rfl
      rotate_left
      · simp only [Act.put, List.setIfInBounds_toArray, List.set_cons_zero, List.set_cons_succ, i64_w, i32_w]
        rfl
      refine pu 2 39 HT_ rfl rfl (bs 7 7) ?_
      refine one_ (i := 3) (N := some 40) (bs 7 15) rfl rfl (one_of HT_.1 (by kernel_rfl)) (by decide) (fun K hK => ?_)
      refine gs Try.func47 #[.pointer (some ⟨gc, 0, none⟩)] ?_
      refine (C4.1 gc _ HI.1 HB.1).mono ?_
      rintro e w10 ⟨rfl, hi, hb, hk⟩
      refine ⟨_, rfl, ?_⟩
      replace Z2 := kb Z2 hk N2s
      replace Z3 := kb Z3 hk N3s
      replace Z4 := kb Z4 hk N4s
      replace B6 := kb B6 hk (im_ Ns6)
      replace B7 := kb B7 hk (im_ Ns7)
      replace HB := Aside0.mk hb
      clear hi hb hk C4 HI
      refine hK.out _ _ ⟨B6.1, B7.1⟩ (fun hHeld => ?_)
      clear hK K
      refine norm_ (aq 40) ?_
      refine one_ (i := 4) (N := none) (bs 7 31) rfl rfl (one_of HT_.1 (by kernel_rfl)) (by decide) (fun K hK => ?_)
      obtain ⟨c0, c1, c2, f0, f1, f2⟩ := zc3 Z2
      refine skip_ (w1 := ?_) (by rfl) rfl ?_ ?_
      rotate_left
      · go_simp
        rfl
      clear c0 c1 c2 f0 f1 f2
      refine put3_ Z2.1 (Q := fun W => K _ W) ?_
      intro w11 z hoth hbel
      have ZZ := Aside0.mk z
      replace Z3 := Aside0.mk ((hoth g3 N32.1).trans Z3.1)
      replace Z4 := Aside0.mk ((hoth g4 N42.1).trans Z4.1)
      replace B6 := Aside0.mk ((hoth g6 M62.1).trans B6.1)
      replace B7 := Aside0.mk ((hoth g7 M72.1).trans B7.1)
      replace Z2 := ZZ
      replace HB := Aside0.mk (hbel w HB.1 L2.1)
      clear z hoth hbel ZZ
      refine hK.out _ _ ⟨B6.1, B7.1⟩ (fun hHeld => ?_)
      clear hK K
      refine one_ (i := 5) (N := none) (bs 7 63) rfl rfl (one_of HT_.1 (by kernel_rfl)) (by decide) (fun K hK => ?_)
      obtain ⟨c0, c1, c2, f0, f1, f2⟩ := zc3 Z3
      refine skip_ (w1 := ?_) (by rfl) rfl ?_ ?_
      rotate_left
      · go_simp
        rfl
      clear c0 c1 c2 f0 f1 f2
      refine put3_ Z3.1 (Q := fun W => K _ W) ?_
      intro w12 z hoth hbel
      have ZZ := Aside0.mk z
      replace Z2 := Aside0.mk ((hoth g2 N23.1).trans Z2.1)
      replace Z4 := Aside0.mk ((hoth g4 N43.1).trans Z4.1)
      replace B6 := Aside0.mk ((hoth g6 M63.1).trans B6.1)
      replace B7 := Aside0.mk ((hoth g7 M73.1).trans B7.1)
      replace Z3 := ZZ
      replace HB := Aside0.mk (hbel w HB.1 L3.1)
      clear z hoth hbel ZZ
      refine hK.out _ _ ⟨B6.1, B7.1⟩ (fun hHeld => ?_)
      clear hK K
      refine one_ (i := 6) (N := none) (bs 7 127) rfl rfl (one_of HT_.1 (by kernel_rfl)) (by decide) (fun K hK => ?_)
      obtain ⟨c0, c1, f0, f1⟩ := zc2 Z4
      refine skip_ (w1 := ?_) (by rfl) rfl ?_ ?_
      rotate_left
      · go_simp
        rfl
      clear c0 c1 f0 f1
      refine put2_ Z4.1 (Q := fun W => K _ W) ?_
      intro w13 z hoth hbel
      have ZZ := Aside0.mk z
      replace Z2 := Aside0.mk ((hoth g2 N24.1).trans Z2.1)
      replace Z3 := Aside0.mk ((hoth g3 N34.1).trans Z3.1)
      replace B6 := Aside0.mk ((hoth g6 M64.1).trans B6.1)
      replace B7 := Aside0.mk ((hoth g7 M74.1).trans B7.1)
      replace Z4 := ZZ
      replace HB := Aside0.mk (hbel w HB.1 L4.1)
      clear z hoth hbel ZZ
      refine hK.out _ _ ⟨B6.1, B7.1⟩ (fun hHeld => ?_)
      clear hK K
      refine done_ (done_of HT_.1 (by kernel_rfl)) ?_
      try go_wp2
      refine bodyPost_ret (results_list (rs := [.cell 2 27, .cell 3 27, .cell 4 25]) rfl (by simp) (.cell g2 27 #[.int .i64 b1, .int .i64 b2, .int .i64 b3] (0, 0) _ rfl Z2.1 Try.underlying27 rfl (by kernel_rfl) (.cell g3 27 #[.int .i64 d1, .int .i64 d2, .int .i64 d3] (0, 0) _ rfl Z3.1 Try.underlying27 rfl (by kernel_rfl) (.cell g4 25 #[.int .i64 v1, .int .i64 v2] (0, 0) _ rfl Z4.1 Try.underlying25 rfl (by kernel_rfl) .nil)))) rfl ?_
      exact ⟨rfl, HB.1⟩
    | true =>
      rw [if_pos rfl] at h
      obtain ⟨⟨pp, i3, s3⟩, e4, h⟩ := Option.bind_eq_some_iff.mp h
      dsimp only at h
      by_cases hq : 0 ≤ pp ∧ pp < (l.length : Int)
      · rw [if_pos hq] at h
        obtain ⟨m, rfl⟩ := Int.eq_ofNat_of_zero_le hq.1
        have hml : m < l.length := by have := hq.2; omega
        have hget : rd_T25 l (m : Int) = l[m] := by unfold rd_T25; rw [show ((m : Int)).toNat = m by omega, List.getD_eq_getElem?_getD, List.getElem?_eq_getElem hml]; rfl
        rw [hget] at h
        simp only [Option.some.injEq, Prod.mk.injEq] at h
        obtain ⟨rfl, rfl, rfl, rfl, rfl, rfl, rfl, rfl⟩ := h
        have HM := Aside0.mk hml
        have HNE : Aside0 (l ≠ []) := ⟨fun e => by rw [e] at hml; simp at hml⟩
        clear hq hget
        obtain ⟨x, hx, HX⟩ : ∃ x, l[m] = x ∧ Aside0 (∀ F : Nat → Value, (∀ j (hj : j < l.length), isAt F j l[j]) → isAt F m x) := ⟨_, rfl, ⟨fun F hF => hF m hml⟩⟩
        rw [hx]
        clear hx
        have C4 := Aside0.mk (fun gc W (hI : IsS63 w W gc l0 i2 s2) (hB : Below w.heap.size w W) => spec_l1Cur_pick.calls gc l0 i2 s2 (l.length : Int) (m : Int) i3 s3 w W hI hB e4)
        clear e4
        go_enter Try.func22, Try.ntmps22
        go_upto_region 2 with (fail)
        refine Own.gen (Own.boxes4 w) ?_
        intro w1 HO
        generalize w.heap.size + 1 + 1 + 1 = gc at HO ⊢
        generalize w.heap.size + 1 + 1 = g4 at HO ⊢
        generalize w.heap.size + 1 = g3 at HO ⊢
        generalize w.heap.size = g2 at HO ⊢
        have z := HO.at_ 3 gc _ rfl
        have Z2 := Aside0.mk (HO.at_ 0 g2 _ rfl).2
        have L2 := Aside0.mk (HO.at_ 0 g2 _ rfl).1
        have N2s : Aside0 (g2 ≠ gc) := ⟨HO.ne (i := 0) (j := 3) rfl rfl (by decide)⟩
        have N23 : Aside0 (g2 ≠ g3) := ⟨HO.ne (i := 0) (j := 1) rfl rfl (by decide)⟩
        have N24 : Aside0 (g2 ≠ g4) := ⟨HO.ne (i := 0) (j := 2) rfl rfl (by decide)⟩
        have Z3 := Aside0.mk (HO.at_ 1 g3 _ rfl).2
        have L3 := Aside0.mk (HO.at_ 1 g3 _ rfl).1
        have N3s : Aside0 (g3 ≠ gc) := ⟨HO.ne (i := 1) (j := 3) rfl rfl (by decide)⟩
        have N32 : Aside0 (g3 ≠ g2) := ⟨HO.ne (i := 1) (j := 0) rfl rfl (by decide)⟩
        have N34 : Aside0 (g3 ≠ g4) := ⟨HO.ne (i := 1) (j := 2) rfl rfl (by decide)⟩
        have Z4 := Aside0.mk (HO.at_ 2 g4 _ rfl).2
        have L4 := Aside0.mk (HO.at_ 2 g4 _ rfl).1
        have N4s : Aside0 (g4 ≠ gc) := ⟨HO.ne (i := 2) (j := 3) rfl rfl (by decide)⟩
        have N42 : Aside0 (g4 ≠ g2) := ⟨HO.ne (i := 2) (j := 0) rfl rfl (by decide)⟩
        have N43 : Aside0 (g4 ≠ g3) := ⟨HO.ne (i := 2) (j := 1) rfl rfl (by decide)⟩
        have HI : Aside0 (IsS63 w w1 gc l0 0 0) := ⟨⟨A0, c0, z.2, z.1, hr0⟩⟩
        have HB := Aside0.mk HO.below
        clear HO z hr0 hc0
        go_upto_region 3 with (first | (go_at_call 44; with_reducible refine (C0.1 gc _ HI.1 HB.1).mono ?_; rintro e w2 ⟨rfl, hi, hb, hk⟩; replace Z2 := kb Z2 hk N2s; replace Z3 := kb Z3 hk N3s; replace Z4 := kb Z4 hk N4s; replace HI := Aside0.mk hi; replace HB := Aside0.mk hb; clear hi hb hk C0) | (go_at_call 44; with_reducible refine (C1.1 gc _ HI.1 HB.1).mono ?_; rintro e w3 ⟨rfl, hi, hb, hk⟩; replace Z2 := kb Z2 hk N2s; replace Z3 := kb Z3 hk N3s; replace Z4 := kb Z4 hk N4s; replace HI := Aside0.mk hi; replace HB := Aside0.mk hb; clear hi hb hk C1) | ((with_reducible refine gate_dst (N := 6) rfl ?_); refine be #[.int .i64 0, .int .i64 0, .int .i64 0] 27 ?_; intro g6 hg w4 hbox hb; have B6 := Aside0.mk hbox; have L6 := zs HB hg; have Ns6 := il63 HI hg; have N26 := zn Z2 hg; have M62 := zm Z2 hg; have N36 := zn Z3 hg; have M63 := zm Z3 hg; have N46 := zn Z4 hg; have M64 := zm Z4 hg; replace Z2 := zb Z2 hb; replace Z3 := zb Z3 hb; replace Z4 := zb Z4 hb; replace HI := iB63 HI hb; replace HB := zB HB hb; clear hb hbox hg) | ((with_reducible refine gate_dst (N := 7) rfl ?_); refine be #[.int .i64 0, .int .i64 0, .int .i64 0] 27 ?_; intro g7 hg w5 hbox hb; have B7 := Aside0.mk hbox; have L7 := zs HB hg; have Ns7 := il63 HI hg; have N67 := zn B6 hg; have M76 := zm B6 hg; have N27 := zn Z2 hg; have M72 := zm Z2 hg; have N37 := zn Z3 hg; have M73 := zm Z3 hg; have N47 := zn Z4 hg; have M74 := zm Z4 hg; replace Z2 := zb Z2 hb; replace Z3 := zb Z3 hb; replace Z4 := zb Z4 hb; replace B6 := zb B6 hb; replace HI := iB63 HI hb; replace HB := zB HB hb; clear hb hbox hg; obtain ⟨h60, h61, h62, f60, f61, f62⟩ := zc3 B6; obtain ⟨h70, h71, h72, f70, f71, f72⟩ := zc3 B7; have o67 := N67.1; have o76 := M76.1))
        go_wp2_with (first | (go_at_call 7; refine (C2.1 _).mono ?_; rintro e w6 ⟨v, rfl, hr, hb⟩; obtain ⟨gl, cap, F, rfl, hbl, hrow, hcap, hF⟩ := row_open1 hr HNE.1; have hsz : w5.heap.size ≤ gl := (by simpa only [World.size_setCell] using hbl); have NLc : Aside0 (gl ≠ gc) := ⟨by have := IsS63.lt HI.1; omega⟩; have NL2 : Aside0 (gl ≠ g2) := ⟨by have := blk_lt Z2.1; omega⟩; have NL3 : Aside0 (gl ≠ g3) := ⟨by have := blk_lt Z3.1; omega⟩; have NL4 : Aside0 (gl ≠ g4) := ⟨by have := blk_lt Z4.1; omega⟩; have NL6 : Aside0 (gl ≠ g6) := ⟨by have := blk_lt B6.1; omega⟩; have NL7 : Aside0 (gl ≠ g7) := ⟨by have := blk_lt B7.1; omega⟩; have HW := Aside0.mk hrow; have HF := Aside0.mk hF; have HP := Aside0.mk hcap; clear hbl hsz hrow hF hcap; clear h60 h61 h62 f60 f61 f62 h70 h71 h72 f70 f71 f72 o67 o76; replace Z2 := zy Z2 hb; replace Z3 := zy Z3 hb; replace Z4 := zy Z4 hb; replace B6 : Aside0 (w6.heap[g6]? = some (.cells #[.int .i64 b1, .int .i64 b2, .int .i64 b3] 27 (0, 0))) := ⟨blk_below (far_any (far_any (far_any (blk_put (cs' := #[.int .i64 b1, .int .i64 b2, .int .i64 b3]) (blk_put (cs' := #[.int .i64 b1, .int .i64 b2, .int .i64 0]) (blk_put (cs' := #[.int .i64 b1, .int .i64 0, .int .i64 0]) B6.1 0 _ rfl) 1 _ rfl) 2 _ rfl) N67.1 _) N67.1 _) N67.1 _) hb⟩; replace B7 : Aside0 (w6.heap[g7]? = some (.cells #[.int .i64 d1, .int .i64 d2, .int .i64 d3] 27 (0, 0))) := ⟨blk_below (blk_put (cs' := #[.int .i64 d1, .int .i64 d2, .int .i64 d3]) (blk_put (cs' := #[.int .i64 d1, .int .i64 d2, .int .i64 0]) (blk_put (cs' := #[.int .i64 d1, .int .i64 0, .int .i64 0]) (far_any (far_any (far_any B7.1 M76.1 _) M76.1 _) M76.1 _) 0 _ rfl) 1 _ rfl) 2 _ rfl) hb⟩; replace HI : Aside0 (IsS63 w w6 gc l0 i1 s1) := ⟨IsS63.below (IsS63.far (IsS63.far (IsS63.far (IsS63.far (IsS63.far (IsS63.far HI.1 (p := ⟨g6, 0, none⟩) Ns6.1 _) (p := ⟨g6, 1, none⟩) Ns6.1 _) (p := ⟨g6, 2, none⟩) Ns6.1 _) (p := ⟨g7, 0, none⟩) Ns7.1 _) (p := ⟨g7, 1, none⟩) Ns7.1 _) (p := ⟨g7, 2, none⟩) Ns7.1 _) hb⟩; replace HB := zB HB hb; clear hb hr C2) | (go_at_call 45; refine (C3.1 gc _ HI.1 HB.1).mono ?_; rintro e w7 ⟨rfl, hi, hb, hk⟩; replace HW := Aside0.mk (World.rowIs.of_block HW.1 (hk.2 gl HW.1.lt NLc.1 (by simp))); replace Z2 := kb Z2 hk N2s; replace Z3 := kb Z3 hk N3s; replace Z4 := kb Z4 hk N4s; replace B6 := kb B6 hk (im_ Ns6); replace B7 := kb B7 hk (im_ Ns7); replace HI := Aside0.mk hi; replace HB := Aside0.mk hb; clear hi hb hk C3))
        have HE := Aside0.mk (HX.1 F HF.1)
        clear HX HF
        replace HI := Aside0.mk (IsS63.drew HI.1)
        replace Z2 := Aside0.mk (blk_drew Z2.1)
        replace Z3 := Aside0.mk (blk_drew Z3.1)
        replace Z4 := Aside0.mk (blk_drew Z4.1)
        replace B6 := Aside0.mk (blk_drew B6.1)
        replace B7 := Aside0.mk (blk_drew B7.1)
        replace HB := Aside0.mk (below_drew1 HB.1)
        replace HW := Aside0.mk (World.rowIs.drew HW.1)
        refine start_ (n := 12) (S := (fun W => W.heap[g6]? = some (.cells #[.int .i64 b1, .int .i64 b2, .int .i64 b3] 27 (0, 0)) ∧ W.heap[g7]? = some (.cells #[.int .i64 d1, .int .i64 d2, .int .i64 d3] 27 (0, 0)) ∧ W.rowIs gl 25 (cap * 2) F)) (ds := []) (bs 12 0) (by kernel_rfl) rfl rfl ⟨B6.1, B7.1, HW.1⟩ (fun hHeld => ?_); refine with_tabW spec_DrawNextMeet.tab5 spec_DrawNextMeet.bits5 (fun HT_ HW_ => ?_)
        generalize World.drew _ = w9 at HI Z2 Z3 Z4 B6 B7 HB HW hHeld ⊢
        refine take_ (i := 0) (N := some 28) (v := ?_) (a' := ?_) (bs 12 1) rfl rfl (take_ofW HT_.1 HW_.1 (by kernel_rfl)) (fun _ _ _ h => h) (Or.inl ⟨by rfl, ?_⟩) hHeld ?_ ?_
        rotate_left
        · rintro w' ⟨s6, s7, sl⟩
          obtain ⟨q0, q1, q2, q3, q4, q5⟩ := zc3 (Aside0.mk s6)
          go_simp
          with_reducible rfl
        rotate_left
        · simp only [Act.put, List.setIfInBounds_toArray, List.set_cons_zero, List.set_cons_succ, i64_w, i32_w]
          rfl
        refine take_ (i := 1) (N := some 29) (v := ?_) (a' := ?_) (bs 12 3) rfl rfl (take_ofW HT_.1 HW_.1 (by kernel_rfl)) (fun _ _ _ h => h) (Or.inl ⟨by rfl, ?_⟩) hHeld ?_ ?_
        rotate_left
        · rintro w' ⟨s6, s7, sl⟩
          obtain ⟨q0, q1, q2, q3, q4, q5⟩ := zc3 (Aside0.mk s7)
          go_simp
          with_reducible rfl
        rotate_left
        · simp only [Act.put, List.setIfInBounds_toArray, List.set_cons_zero, List.set_cons_succ, i64_w, i32_w]
          rfl
        refine pu 2 30 HT_ rfl rfl (bs 12 7) ?_
        refine pu 3 31 HT_ rfl rfl (bs 12 15) ?_
        refine pu 4 32 HT_ rfl rfl (bs 12 31) ?_
        refine pu 5 33 HT_ rfl rfl (bs 12 63) ?_
        refine one_ (i := 6) (N := some 34) (bs 12 127) rfl rfl (one_of HT_.1 (by kernel_rfl)) (by decide) (fun K hK => ?_)
        refine gs Try.func46 #[.pointer (some ⟨gc, 0, none⟩), .int .i64 (l.length : Int)] ?_
        refine (C4.1 gc _ HI.1 HB.1).mono ?_
        rintro e w10 ⟨rfl, hi, hb, hk⟩
        refine ⟨_, rfl, ?_⟩
        replace Z2 := kb Z2 hk N2s
        replace Z3 := kb Z3 hk N3s
        replace Z4 := kb Z4 hk N4s
        replace B6 := kb B6 hk (im_ Ns6)
        replace B7 := kb B7 hk (im_ Ns7)
        replace HW := Aside0.mk (World.rowIs.of_block HW.1 (hk.2 gl HW.1.lt NLc.1 (by simp)))
        replace HB := Aside0.mk hb
        clear hi hb hk C4 HI
        refine hK.out _ _ ⟨B6.1, B7.1, HW.1⟩ (fun hHeld => ?_)
        clear hK K
        refine norm_ (aq 34) ?_
        have hm1 := HM.1
        have hcp := HP.1
        have k0 : (0 ≤ (m : Int)) = True := eq_true (by omega)
        have k1 : ((m : Int) < (l.length : Int)) = True := eq_true (by omega)
        have k2 : (m < l.length) = True := eq_true hm1
        refine pu 7 35 HT_ rfl rfl (bs 12 255) ?_
        refine take_ (i := 8) (N := some 36) (v := ?_) (a' := ?_) (bs 12 511) rfl rfl (take_ofW HT_.1 HW_.1 (by kernel_rfl)) (fun _ _ _ h => h) (Or.inl ⟨by rfl, ?_⟩) hHeld ?_ ?_
        rotate_left
        · rintro w' ⟨s6, s7, sl⟩
          have x0 : w'.cell? ⟨gl, m * 2, none⟩ = some (.int .i64 x.f0) := (sl.cell (by omega)).trans (congrArg some HE.1.1)
          have x1 : w'.cell? ⟨gl, m * 2 + 1, none⟩ = some (.int .i64 x.f1) := (sl.cell (by omega)).trans (congrArg some HE.1.2)
          go_simp
          with_reducible rfl
        rotate_left
        · simp only [Act.put, List.setIfInBounds_toArray, List.set_cons_zero, List.set_cons_succ, i64_w, i32_w]
          rfl
        refine one_ (i := 9) (N := none) (bs 12 1023) rfl rfl (one_of HT_.1 (by kernel_rfl)) (by decide) (fun K hK => ?_)
        obtain ⟨c0, c1, c2, f0, f1, f2⟩ := zc3 Z2
        refine skip_ (w1 := ?_) (by rfl) rfl ?_ ?_
        rotate_left
        · go_simp
          rfl
        clear c0 c1 c2 f0 f1 f2
        refine put3_ Z2.1 (Q := fun W => K _ W) ?_
        intro w11 z hoth hbel
        have ZZ := Aside0.mk z
        replace Z3 := Aside0.mk ((hoth g3 N32.1).trans Z3.1)
        replace Z4 := Aside0.mk ((hoth g4 N42.1).trans Z4.1)
        replace B6 := Aside0.mk ((hoth g6 M62.1).trans B6.1)
        replace B7 := Aside0.mk ((hoth g7 M72.1).trans B7.1)
        replace HW := Aside0.mk (World.rowIs.of_block HW.1 (hoth gl NL2.1))
        replace Z2 := ZZ
        replace HB := Aside0.mk (hbel w HB.1 L2.1)
        clear z hoth hbel ZZ
        refine hK.out _ _ ⟨B6.1, B7.1, HW.1⟩ (fun hHeld => ?_)
        clear hK K
        refine one_ (i := 10) (N := none) (bs 12 2047) rfl rfl (one_of HT_.1 (by kernel_rfl)) (by decide) (fun K hK => ?_)
        obtain ⟨c0, c1, c2, f0, f1, f2⟩ := zc3 Z3
        refine skip_ (w1 := ?_) (by rfl) rfl ?_ ?_
        rotate_left
        · go_simp
          rfl
        clear c0 c1 c2 f0 f1 f2
        refine put3_ Z3.1 (Q := fun W => K _ W) ?_
        intro w12 z hoth hbel
        have ZZ := Aside0.mk z
        replace Z2 := Aside0.mk ((hoth g2 N23.1).trans Z2.1)
        replace Z4 := Aside0.mk ((hoth g4 N43.1).trans Z4.1)
        replace B6 := Aside0.mk ((hoth g6 M63.1).trans B6.1)
        replace B7 := Aside0.mk ((hoth g7 M73.1).trans B7.1)
        replace HW := Aside0.mk (World.rowIs.of_block HW.1 (hoth gl NL3.1))
        replace Z3 := ZZ
        replace HB := Aside0.mk (hbel w HB.1 L3.1)
        clear z hoth hbel ZZ
        refine hK.out _ _ ⟨B6.1, B7.1, HW.1⟩ (fun hHeld => ?_)
        clear hK K
        refine one_ (i := 11) (N := none) (bs 12 4095) rfl rfl (one_of HT_.1 (by kernel_rfl)) (by decide) (fun K hK => ?_)
        obtain ⟨c0, c1, f0, f1⟩ := zc2 Z4
        refine skip_ (w1 := ?_) (by rfl) rfl ?_ ?_
        rotate_left
        · go_simp
          rfl
        clear c0 c1 f0 f1
        refine put2_ Z4.1 (Q := fun W => K _ W) ?_
        intro w13 z hoth hbel
        have ZZ := Aside0.mk z
        replace Z2 := Aside0.mk ((hoth g2 N24.1).trans Z2.1)
        replace Z3 := Aside0.mk ((hoth g3 N34.1).trans Z3.1)
        replace B6 := Aside0.mk ((hoth g6 M64.1).trans B6.1)
        replace B7 := Aside0.mk ((hoth g7 M74.1).trans B7.1)
        replace HW := Aside0.mk (World.rowIs.of_block HW.1 (hoth gl NL4.1))
        replace Z4 := ZZ
        replace HB := Aside0.mk (hbel w HB.1 L4.1)
        clear z hoth hbel ZZ
        refine hK.out _ _ ⟨B6.1, B7.1, HW.1⟩ (fun hHeld => ?_)
        clear hK K
        refine done_ (done_of HT_.1 (by kernel_rfl)) ?_
        try go_wp2
        refine bodyPost_ret (results_list (rs := [.cell 2 27, .cell 3 27, .cell 4 25]) rfl (by simp) (.cell g2 27 #[.int .i64 b1, .int .i64 b2, .int .i64 b3] (0, 0) _ rfl Z2.1 Try.underlying27 rfl (by kernel_rfl) (.cell g3 27 #[.int .i64 d1, .int .i64 d2, .int .i64 d3] (0, 0) _ rfl Z3.1 Try.underlying27 rfl (by kernel_rfl) (.cell g4 25 #[.int .i64 x.f0, .int .i64 x.f1] (0, 0) _ rfl Z4.1 Try.underlying25 rfl (by kernel_rfl) .nil)))) rfl ?_
        exact ⟨rfl, HB.1⟩
      rw [if_neg hq] at h
      cases h

end Go.Proofs.Ytoneipoioiokcaa.PFnHandsMeet
