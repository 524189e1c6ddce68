/- A part of the walk of FnHandsMeet: which Lean function each Go function comes to, and that the machine's call does so. Written by a program of this repo (wip/gen/xprint.py). -/
import Derived.Test.YtoneipoioiokcaaPFnHandsMeetx0
import Derived.Test.YtoneipoioiokcaaPFnHandsMeetx5
import Derived.Test.YtoneipoioiokcaaPFnHandsMeetx6
namespace Go.Proofs.Ytoneipoioiokcaa.PFnHandsMeet
open Go.RowKit Go.Proofs.YtoneipoioiokcaaW.PrintWords Go.Proofs.YtoneipoioiokcaaW.PrintLast Go.Proofs.YtoneipoioiokcaaW.PrintMore
attribute [local go_sem] max2_int min2_int max_two min_two max_three min_three max_four min_four   -- for this text's walks alone
set_option linter.unusedVariables false
set_option linter.unusedSimpArgs false

/-! ### impl_part: function 80 -/
def impl_part.f (k : Nat) (a0 : Int) (a1 : Int) : Option (Int × Int) := (impl_floorDiv.f a0 a1).bind fun bt207 => ((impl_gcd.f k bt207.2 a1).bind fun t209 => (if t209 = 0 then (none) else (some (wrap64 (Int.tdiv bt207.2 t209), wrap64 (Int.tdiv a1 t209)))))
theorem impl_part.mono : ∀ a0 a1 k, LeO (impl_part.f k a0 a1) (impl_part.f (k + 1) a0 a1) := by
  intro a0 a1 k
  unfold impl_part.f
  repeat' first
      | (with_reducible exact impl_gcd.mono _ _ _)
      | (with_reducible exact LeO.refl _)
      | (with_reducible exact LeO.none _)
      | (with_reducible refine LeO.ite ?_ ?_)
      | (with_reducible refine LeO.bind ?_ (fun _ => ?_))
      | exact impl_gcd.mono _ _ _
      | exact LeO.none _
      | refine LeO.ite ?_ ?_
      | refine LeO.bind ?_ (fun _ => ?_)
def impl_part.T3 : Bool × List (List Nat × List Nat) := (true, [([], []), ([], []), ([0, 1], [0, 1]), ([], []), ([], []), ([3, 4], [3, 4]), ([2, 5], [2, 5]), ([6, 0, 1, 2, 3, 4, 5, 6], [6])])
def impl_part.B3 : List Nat := [0, 0, 3, 0, 0, 24, 63, 127]
theorem impl_part.tab3 : rtab .any (opsOf Try.f80 3) = impl_part.T3 := by kernel_rfl
theorem impl_part.bits3 : waitsOk impl_part.T3.2 impl_part.B3 = true := by kernel_rfl
set_option maxHeartbeats 8000000 in
set_option maxRecDepth 100000 in
theorem impl_part.calls (k : Nat) (a0 : Int) (a1 : Int) (r1 : Int) (r2 : Int) (w : World) (h : impl_part.f k a0 a1 = some (r1, r2)) :
    Calls Try.prog 80 #[.int .i64 a0, .int .i64 a1] w fun e w' => e = .returned (.agg #[.int .i64 r1, .int .i64 r2]) ∧ Below w.heap.size w w' := by
  have hu25 := Try.underlying25
  have HB := Aside0.mk (Below.refl w.heap.size w)
  have H : ((impl_floorDiv.f a0 a1).bind fun bt207 => ((impl_gcd.f k bt207.2 a1).bind fun t209 => (if t209 = 0 then (none) else (some (wrap64 (Int.tdiv bt207.2 t209), wrap64 (Int.tdiv a1 t209)))))) = some (r1, r2) := h
  clear h
  replace H := Option.bind_eq_some_iff.mp H
  obtain ⟨⟨t207, t208⟩, A30, H⟩ := H
  (try dsimp only at H)
  have A3 := Aside0.mk A30
  clear A30
  replace H := Option.bind_eq_some_iff.mp H
  obtain ⟨t209, A40, H⟩ := H
  (try dsimp only at H)
  have A4 := Aside0.mk A40
  clear A40
  by_cases c5 : t209 = 0
  · rw [if_pos c5] at H
    exact absurd H (by simp)
  rw [if_neg c5] at H
  have c5b0 : (t209 == 0) = false := beq_eq_false_iff_ne.mpr c5
  have c5b1 : (t209 != 0) = true := bne_iff_ne.mpr c5
  simp only [Option.some.injEq, Prod.mk.injEq] at H
  obtain ⟨rfl, rfl⟩ := H
  go_enter Try.func80, Try.ntmps80
  try go_wp2_with (first | ((with_reducible refine gate_dst (N := 4) rfl ?_); refine be #[.int .i64 0, .int .i64 0] 25 ?_; intro gb206 hg w6 hbox hb; have BK206 := Aside0.mk hbox; have GW206 := zs HB hg; have GE206 := zs HB hg; replace HB := zB HB hb; clear hb hbox hg) | ((with_reducible refine gate_callee (f := 84) rfl ?_); refine gl (some 11) Try.func84 #[.int .i64 a0, .int .i64 a1] ?_; (with_reducible refine (impl_floorDiv.calls a0 a1 t207 t208 _ A3.1).mono ?_); rintro e w' ⟨rfl, ⟨nd, rfl⟩⟩; refine ⟨_, rfl, ?_⟩; (try (rw [drewN_self w6]; generalize hq_ : World.drewN w6 _ = w6; have n0_ : Aside0 (w6.heap[gb206]? = some (.cells #[.int .i64 0, .int .i64 0] 25 (0, 0))) := ⟨by rw [← hq_]; exact (bk BK206)⟩; have n1_ : Aside0 (Below w.heap.size w w6) := ⟨by rw [← hq_]; exact (bq HB)⟩; clear BK206 HB hq_; have BK206 := n0_; have HB := n1_; clear n0_ n1_))) | ((with_reducible refine gate_callee (f := 67) rfl ?_); refine gl (some 16) Try.func67 #[.int .i64 t208, .int .i64 a1] ?_; (with_reducible refine (impl_gcd.calls k t208 a1 t209 _ A4.1).mono ?_); rintro e w7 ⟨rfl, hb⟩; refine ⟨_, rfl, ?_⟩; replace BK206 := zb BK206 hb; replace HB := zB HB hb; clear hb))
  replace BK206 := Aside0.mk (blk_drew BK206.1)
  replace HB := Aside0.mk (below_drew1 HB.1)
  refine start_ (n := 8) (S := fun w' => True) (ds := []) (bs 8 0) (by kernel_rfl) rfl rfl trivial (fun hHeld => ?_); refine with_tabW impl_part.tab3 impl_part.bits3 (fun HT_ HW_ => ?_)
  generalize w7.drew = w8 at BK206 HB hHeld ⊢
  refine pu 0 17 HT_ rfl rfl (bs 8 1) ?_
  refine pu 1 18 HT_ rfl rfl (bs 8 3) ?_
  refine pu 2 19 HT_ rfl rfl (bs 8 7) ?_
  refine pu 3 20 HT_ rfl rfl (bs 8 15) ?_
  refine pu 4 21 HT_ rfl rfl (bs 8 31) ?_
  refine pu 5 22 HT_ rfl rfl (bs 8 63) ?_
  refine pu 6 23 HT_ rfl rfl (bs 8 127) ?_
  refine one_ (i := 7) (N := none) (bs 8 255) rfl rfl (one_of HT_.1 (by kernel_rfl)) (by decide) (fun K hK => ?_)
  have hs9 : w8.cell? ⟨gb206, 0, none⟩ = some (.int .i64 0) := (blk_cell BK206.1 0).trans rfl
  have hfs9 := blk_frozen BK206.1 0
  have hs10 : w8.cell? ⟨gb206, 1, none⟩ = some (.int .i64 0) := (blk_cell BK206.1 1).trans rfl
  have hfs10 := blk_frozen BK206.1 1
  refine skip_ (w1 := ?_) (by rfl) rfl ?_ ?_
  rotate_left
  · go_simp
    rfl
  refine hK.out _ _ trivial (fun hHeld => ?_)
  clear hK K
  refine done_ (done_of HT_.1 (by kernel_rfl)) ?_
  try go_wp2
  refine bodyPost_ret (results_cell_row rfl _ _ gb206 25 #[.int .i64 (wrap64 (Int.tdiv t208 t209)), .int .i64 (wrap64 (Int.tdiv a1 t209))] (0, 0) _ rfl (bk BK206) Try.underlying25 rfl (by kernel_rfl)) rfl ?_
  exact ⟨er, bq HB⟩

/-! ### impl_Turn_minus: function 74 -/
def impl_Turn_minus.f (k : Nat) (a0_0 : Int) (a0_1 : Int) (a1_0 : Int) (a1_1 : Int) : Option (Int × Int) := (impl_part.f k (wrap64 ((wrap64 (a0_0 * a1_1)) - (wrap64 (a1_0 * a0_1)))) (wrap64 (a0_1 * a1_1))).bind fun bt213 => (some (bt213.1, bt213.2))
theorem impl_Turn_minus.mono : ∀ a0 a1 a2 a3 k, LeO (impl_Turn_minus.f k a0 a1 a2 a3) (impl_Turn_minus.f (k + 1) a0 a1 a2 a3) := by
  intro a0 a1 a2 a3 k
  unfold impl_Turn_minus.f
  repeat' first
      | (with_reducible exact impl_part.mono _ _ _)
      | (with_reducible exact LeO.refl _)
      | (with_reducible exact LeO.none _)
      | (with_reducible refine LeO.ite ?_ ?_)
      | (with_reducible refine LeO.bind ?_ (fun _ => ?_))
      | exact impl_part.mono _ _ _
      | exact LeO.none _
      | refine LeO.ite ?_ ?_
      | refine LeO.bind ?_ (fun _ => ?_)
set_option maxHeartbeats 8000000 in
set_option maxRecDepth 100000 in
theorem impl_Turn_minus.calls (k : Nat) (a0_0 : Int) (a0_1 : Int) (a1_0 : Int) (a1_1 : Int) (r1 : Int) (r2 : Int) (w : World) (h : impl_Turn_minus.f k a0_0 a0_1 a1_0 a1_1 = some (r1, r2)) :
    Calls Try.prog 74 #[.agg #[.int .i64 a0_0, .int .i64 a0_1], .agg #[.int .i64 a1_0, .int .i64 a1_1]] w fun e w' => e = .returned (.agg #[.int .i64 r1, .int .i64 r2]) ∧ Below w.heap.size w w' := by
  have hu25 := Try.underlying25
  have HB := Aside0.mk (Below.refl w.heap.size w)
  have H : ((impl_part.f k (wrap64 ((wrap64 (a0_0 * a1_1)) - (wrap64 (a1_0 * a0_1)))) (wrap64 (a0_1 * a1_1))).bind fun bt213 => (some (bt213.1, bt213.2))) = some (r1, r2) := h
  clear h
  replace H := Option.bind_eq_some_iff.mp H
  obtain ⟨⟨t213, t214⟩, A30, H⟩ := H
  (try dsimp only at H)
  have A3 := Aside0.mk A30
  clear A30
  simp only [Option.some.injEq, Prod.mk.injEq] at H
  obtain ⟨rfl, rfl⟩ := H
  go_enter Try.func74, Try.ntmps74
  go_wp2_with (first | ((with_reducible refine gate_dst (N := 2) rfl ?_); refine be #[.int .i64 a0_0, .int .i64 a0_1] 25 ?_; intro gb210 hg w4 hbox hb; have BK210 := Aside0.mk hbox; have GW210 := zs HB hg; have GE210 := zs HB hg; replace HB := zB HB hb; clear hb hbox hg) | ((with_reducible refine gate_dst (N := 3) rfl ?_); refine be #[.int .i64 a1_0, .int .i64 a1_1] 25 ?_; intro gb211 hg w5 hbox hb; have BK211 := Aside0.mk hbox; have GW211 := zs HB hg; have GE211 := zs HB hg; have NB210_211 := zn BK210 hg; have NB211_210 := zm BK210 hg; replace BK210 := zb BK210 hb; replace HB := zB HB hb; clear hb hbox hg) | ((with_reducible refine gate_dst (N := 4) rfl ?_); refine be #[.int .i64 0, .int .i64 0] 25 ?_; intro gb212 hg w6 hbox hb; have BK212 := Aside0.mk hbox; have GW212 := zs HB hg; have GE212 := zs HB hg; have NB210_212 := zn BK210 hg; have NB212_210 := zm BK210 hg; have NB211_212 := zn BK211 hg; have NB212_211 := zm BK211 hg; replace BK210 := zb BK210 hb; replace BK211 := zb BK211 hb; replace HB := zB HB hb; clear hb hbox hg; have hnb7 := NB210_211.1; have hnc7 := NB211_210.1; have hnb8 := NB210_212.1; have hnc8 := NB212_210.1; obtain ⟨hcz9_0, hcz9_1, hfz9_0, hfz9_1⟩ := zc2 BK210; have hnb10 := NB211_212.1; have hnc10 := NB212_211.1; obtain ⟨hcz11_0, hcz11_1, hfz11_0, hfz11_1⟩ := zc2 BK211) | ((with_reducible refine gate_callee (f := 80) rfl ?_); refine gl (some 21) Try.func80 #[.int .i64 (wrap64 ((wrap64 (a0_0 * a1_1)) - (wrap64 (a1_0 * a0_1)))), .int .i64 (wrap64 (a0_1 * a1_1))] ?_; (with_reducible refine (impl_part.calls k (wrap64 ((wrap64 (a0_0 * a1_1)) - (wrap64 (a1_0 * a0_1)))) (wrap64 (a0_1 * a1_1)) t213 t214 _ A3.1).mono ?_); rintro e w12 ⟨rfl, hb⟩; refine ⟨_, rfl, ?_⟩; replace BK210 := zb BK210 hb; replace BK211 := zb BK211 hb; replace BK212 := zb BK212 hb; replace HB := zB HB hb; clear hb; obtain ⟨hcz13_0, hcz13_1, hfz13_0, hfz13_1⟩ := zc2 BK212))
  refine bodyPost_ret (results_cell_row rfl _ _ gb212 25 #[.int .i64 t213, .int .i64 t214] (0, 0) _ rfl (bk BK212) Try.underlying25 rfl (by kernel_rfl)) rfl ?_
  exact ⟨er, bq HB⟩

/-! ### impl_relative: function 50 -/
def impl_relative.f (k : Nat) (a0_0 : Int) (a0_1 : Int) (a0_2 : Int) (a1_0 : Int) (a1_1 : Int) (a1_2 : Int) : Option (Int × Int × Int) := (impl_Turn_minus.f k a0_0 a0_1 a1_0 a1_1).bind fun bt218 => (some (bt218.1, bt218.2, wrap64 (a0_2 - a1_2)))
theorem impl_relative.mono : ∀ a0 a1 a2 a3 a4 a5 k, LeO (impl_relative.f k a0 a1 a2 a3 a4 a5) (impl_relative.f (k + 1) a0 a1 a2 a3 a4 a5) := by
  intro a0 a1 a2 a3 a4 a5 k
  unfold impl_relative.f
  repeat' first
      | (with_reducible exact impl_Turn_minus.mono _ _ _ _ _)
      | (with_reducible exact LeO.refl _)
      | (with_reducible exact LeO.none _)
      | (with_reducible refine LeO.ite ?_ ?_)
      | (with_reducible refine LeO.bind ?_ (fun _ => ?_))
      | exact impl_Turn_minus.mono _ _ _ _ _
      | exact LeO.none _
      | refine LeO.ite ?_ ?_
      | refine LeO.bind ?_ (fun _ => ?_)
def impl_relative.T1 : Bool × List (List Nat × List Nat) := (true, [([], []), ([0], [0]), ([], []), ([2], [2]), ([1, 3], [1, 3]), ([], []), ([5], [5]), ([], []), ([7], [7]), ([6, 8], [6, 8]), ([4, 9], [4, 9]), ([10, 4, 0, 1, 2, 3, 4, 5, 6, 7, 8, 9, 10], [10])])
def impl_relative.B1 : List Nat := [0, 1, 0, 4, 15, 0, 32, 0, 128, 480, 1023, 2047]
theorem impl_relative.tab1 : rtab .any (opsOf Try.f50 1) = impl_relative.T1 := by kernel_rfl
theorem impl_relative.bits1 : waitsOk impl_relative.T1.2 impl_relative.B1 = true := by kernel_rfl
set_option maxHeartbeats 8000000 in
set_option maxRecDepth 100000 in
theorem impl_relative.calls (k : Nat) (a0_0 : Int) (a0_1 : Int) (a0_2 : Int) (a1_0 : Int) (a1_1 : Int) (a1_2 : Int) (r1 : Int) (r2 : Int) (r3 : Int) (w : World) (h : impl_relative.f k a0_0 a0_1 a0_2 a1_0 a1_1 a1_2 = some (r1, r2, r3)) :
    Calls Try.prog 50 #[.agg #[.int .i64 a0_0, .int .i64 a0_1, .int .i64 a0_2], .agg #[.int .i64 a1_0, .int .i64 a1_1, .int .i64 a1_2]] w fun e w' => e = .returned (.agg #[.int .i64 r1, .int .i64 r2, .int .i64 r3]) ∧ Below w.heap.size w w' := by
  have hu27 := Try.underlying27
  have hu25 := Try.underlying25
  have HB := Aside0.mk (Below.refl w.heap.size w)
  have H : ((impl_Turn_minus.f k a0_0 a0_1 a1_0 a1_1).bind fun bt218 => (some (bt218.1, bt218.2, wrap64 (a0_2 - a1_2)))) = some (r1, r2, r3) := h
  clear h
  replace H := Option.bind_eq_some_iff.mp H
  obtain ⟨⟨t218, t219⟩, A30, H⟩ := H
  (try dsimp only at H)
  have A3 := Aside0.mk A30
  clear A30
  simp only [Option.some.injEq, Prod.mk.injEq] at H
  obtain ⟨rfl, rfl, rfl⟩ := H
  go_enter Try.func50, Try.ntmps50
  try go_wp2_with (first | ((with_reducible refine gate_dst (N := 2) rfl ?_); refine be #[.int .i64 a0_0, .int .i64 a0_1, .int .i64 a0_2] 27 ?_; intro gb215 hg w4 hbox hb; have BK215 := Aside0.mk hbox; have GW215 := zs HB hg; have GE215 := zs HB hg; replace HB := zB HB hb; clear hb hbox hg) | ((with_reducible refine gate_dst (N := 3) rfl ?_); refine be #[.int .i64 a1_0, .int .i64 a1_1, .int .i64 a1_2] 27 ?_; intro gb216 hg w5 hbox hb; have BK216 := Aside0.mk hbox; have GW216 := zs HB hg; have GE216 := zs HB hg; have NB215_216 := zn BK215 hg; have NB216_215 := zm BK215 hg; replace BK215 := zb BK215 hb; replace HB := zB HB hb; clear hb hbox hg) | ((with_reducible refine gate_dst (N := 4) rfl ?_); refine be #[.int .i64 0, .int .i64 0, .int .i64 0] 27 ?_; intro gb217 hg w6 hbox hb; have BK217 := Aside0.mk hbox; have GW217 := zs HB hg; have GE217 := zs HB hg; have NB215_217 := zn BK215 hg; have NB217_215 := zm BK215 hg; have NB216_217 := zn BK216 hg; have NB217_216 := zm BK216 hg; replace BK215 := zb BK215 hb; replace BK216 := zb BK216 hb; replace HB := zB HB hb; clear hb hbox hg))
  replace BK215 := Aside0.mk (blk_drew BK215.1)
  replace BK216 := Aside0.mk (blk_drew BK216.1)
  replace BK217 := Aside0.mk (blk_drew BK217.1)
  replace HB := Aside0.mk (below_drew1 HB.1)
  refine start_ (n := 12) (S := fun w' => w'.cell? ⟨gb215, 0, none⟩ = some (.int .i64 a0_0) ∧ w'.cell? ⟨gb215, 1, none⟩ = some (.int .i64 a0_1) ∧ w'.cell? ⟨gb215, 2, none⟩ = some (.int .i64 a0_2) ∧ w'.cell? ⟨gb216, 0, none⟩ = some (.int .i64 a1_0) ∧ w'.cell? ⟨gb216, 1, none⟩ = some (.int .i64 a1_1) ∧ w'.cell? ⟨gb216, 2, none⟩ = some (.int .i64 a1_2)) (ds := []) (bs 12 0) (by kernel_rfl) rfl rfl ⟨(blk_cell BK215.1 0).trans rfl, (blk_cell BK215.1 1).trans rfl, (blk_cell BK215.1 2).trans rfl, (blk_cell BK216.1 0).trans rfl, (blk_cell BK216.1 1).trans rfl, (blk_cell BK216.1 2).trans rfl⟩ (fun hHeld => ?_); refine with_tabW impl_relative.tab1 impl_relative.bits1 (fun HT_ HW_ => ?_)
  generalize w6.drew = w7 at BK215 BK216 BK217 HB hHeld ⊢
  refine pu 0 5 HT_ rfl rfl (bs 12 1) ?_
  refine pu 2 7 HT_ rfl rfl (bs 12 5) ?_
  refine pu 5 10 HT_ rfl rfl (bs 12 37) ?_
  refine pu 7 12 HT_ rfl rfl (bs 12 165) ?_
  refine tk 1 6 HT_ HW_ hHeld rfl rfl (bs 12 167) ?_
  refine tk 3 8 HT_ HW_ hHeld rfl rfl (bs 12 175) ?_
  refine tk 6 11 HT_ HW_ hHeld rfl rfl (bs 12 239) ?_
  refine tk 8 13 HT_ HW_ hHeld rfl rfl (bs 12 495) ?_
  refine pu 9 14 HT_ rfl rfl (bs 12 1007) ?_
  refine one_ (i := 4) (N := some 9) (bs 12 1023) rfl rfl (one_of HT_.1 (by kernel_rfl)) (by decide) (fun K hK => ?_)
  refine gs Try.func74 #[.agg #[.int .i64 a0_0, .int .i64 a0_1], .agg #[.int .i64 a1_0, .int .i64 a1_1]] ?_
  with_reducible refine (impl_Turn_minus.calls k a0_0 a0_1 a1_0 a1_1 t218 t219 _ A3.1).mono ?_
  rintro e w8 ⟨rfl, hb⟩
  refine ⟨_, rfl, ?_⟩
  replace BK215 := zb BK215 hb
  replace BK216 := zb BK216 hb
  replace BK217 := zb BK217 hb
  replace HB := zB HB hb
  (try clear hb)
  (try clear hb2)
  (try clear hk)
  (try clear hi)
  refine hK.out _ _ ⟨(blk_cell BK215.1 0).trans rfl, (blk_cell BK215.1 1).trans rfl, (blk_cell BK215.1 2).trans rfl, (blk_cell BK216.1 0).trans rfl, (blk_cell BK216.1 1).trans rfl, (blk_cell BK216.1 2).trans rfl⟩ (fun hHeld => ?_)
  clear hK K
  refine norm_ (aq 9) ?_
  refine pu 10 15 HT_ rfl rfl (bs 12 2047) ?_
  refine one_ (i := 11) (N := none) (bs 12 4095) rfl rfl (one_of HT_.1 (by kernel_rfl)) (by decide) (fun K hK => ?_)
  have hs9 : w8.cell? ⟨gb217, 0, none⟩ = some (.int .i64 0) := (blk_cell BK217.1 0).trans rfl
  have hfs9 := blk_frozen BK217.1 0
  have hns9_0 := NB215_217.1
  have hns9_1 := NB216_217.1
  have hms9_0 := NB217_215.1
  have hms9_1 := NB217_216.1
  have hs10 : w8.cell? ⟨gb217, 1, none⟩ = some (.int .i64 0) := (blk_cell BK217.1 1).trans rfl
  have hfs10 := blk_frozen BK217.1 1
  have hns10_0 := NB215_217.1
  have hns10_1 := NB216_217.1
  have hms10_0 := NB217_215.1
  have hms10_1 := NB217_216.1
  have hs11 : w8.cell? ⟨gb217, 2, none⟩ = some (.int .i64 0) := (blk_cell BK217.1 2).trans rfl
  have hfs11 := blk_frozen BK217.1 2
  have hns11_0 := NB215_217.1
  have hns11_1 := NB216_217.1
  have hms11_0 := NB217_215.1
  have hms11_1 := NB217_216.1
  refine skip_ (w1 := ?_) (by rfl) rfl ?_ ?_
  rotate_left
  · go_simp
    rfl
  refine hK.out _ _ ⟨((cell_far (p := ⟨gb217, _, none⟩) NB215_217.1 _).trans (((cell_far (p := ⟨gb217, _, none⟩) NB215_217.1 _).trans (((cell_far (p := ⟨gb217, _, none⟩) NB215_217.1 _).trans (hHeld.1)))))), ((cell_far (p := ⟨gb217, _, none⟩) NB215_217.1 _).trans (((cell_far (p := ⟨gb217, _, none⟩) NB215_217.1 _).trans (((cell_far (p := ⟨gb217, _, none⟩) NB215_217.1 _).trans (hHeld.2.1)))))), ((cell_far (p := ⟨gb217, _, none⟩) NB215_217.1 _).trans (((cell_far (p := ⟨gb217, _, none⟩) NB215_217.1 _).trans (((cell_far (p := ⟨gb217, _, none⟩) NB215_217.1 _).trans (hHeld.2.2.1)))))), ((cell_far (p := ⟨gb217, _, none⟩) NB216_217.1 _).trans (((cell_far (p := ⟨gb217, _, none⟩) NB216_217.1 _).trans (((cell_far (p := ⟨gb217, _, none⟩) NB216_217.1 _).trans (hHeld.2.2.2.1)))))), ((cell_far (p := ⟨gb217, _, none⟩) NB216_217.1 _).trans (((cell_far (p := ⟨gb217, _, none⟩) NB216_217.1 _).trans (((cell_far (p := ⟨gb217, _, none⟩) NB216_217.1 _).trans (hHeld.2.2.2.2.1)))))), ((cell_far (p := ⟨gb217, _, none⟩) NB216_217.1 _).trans (((cell_far (p := ⟨gb217, _, none⟩) NB216_217.1 _).trans (((cell_far (p := ⟨gb217, _, none⟩) NB216_217.1 _).trans (hHeld.2.2.2.2.2))))))⟩ (fun hHeld => ?_)
  clear hK K
  refine done_ (done_of HT_.1 (by kernel_rfl)) ?_
  try go_wp2
  refine bodyPost_ret (results_cell_row rfl _ _ gb217 27 #[.int .i64 t218, .int .i64 t219, .int .i64 (wrap64 (a0_2 - a1_2))] (0, 0) _ rfl (bk BK217) Try.underlying27 rfl (by kernel_rfl)) rfl ?_
  exact ⟨er, bq HB⟩

/-! ### impl_Turn_times: function 60 -/
def impl_Turn_times.f (k : Nat) (a0_0 : Int) (a0_1 : Int) (a1 : Int) : Option (Int × Int) := (impl_part.f k (wrap64 (a0_0 * a1)) a0_1).bind fun bt222 => (some (bt222.1, bt222.2))
theorem impl_Turn_times.mono : ∀ a0 a1 a2 k, LeO (impl_Turn_times.f k a0 a1 a2) (impl_Turn_times.f (k + 1) a0 a1 a2) := by
  intro a0 a1 a2 k
  unfold impl_Turn_times.f
  repeat' first
      | (with_reducible exact impl_part.mono _ _ _)
      | (with_reducible exact LeO.refl _)
      | (with_reducible exact LeO.none _)
      | (with_reducible refine LeO.ite ?_ ?_)
      | (with_reducible refine LeO.bind ?_ (fun _ => ?_))
      | exact impl_part.mono _ _ _
      | exact LeO.none _
      | refine LeO.ite ?_ ?_
      | refine LeO.bind ?_ (fun _ => ?_)
set_option maxHeartbeats 8000000 in
set_option maxRecDepth 100000 in
theorem impl_Turn_times.calls (k : Nat) (a0_0 : Int) (a0_1 : Int) (a1 : Int) (r1 : Int) (r2 : Int) (w : World) (h : impl_Turn_times.f k a0_0 a0_1 a1 = some (r1, r2)) :
    Calls Try.prog 60 #[.agg #[.int .i64 a0_0, .int .i64 a0_1], .int .i64 a1] w fun e w' => e = .returned (.agg #[.int .i64 r1, .int .i64 r2]) ∧ Below w.heap.size w w' := by
  have hu25 := Try.underlying25
  have HB := Aside0.mk (Below.refl w.heap.size w)
  have H : ((impl_part.f k (wrap64 (a0_0 * a1)) a0_1).bind fun bt222 => (some (bt222.1, bt222.2))) = some (r1, r2) := h
  clear h
  replace H := Option.bind_eq_some_iff.mp H
  obtain ⟨⟨t222, t223⟩, A30, H⟩ := H
  (try dsimp only at H)
  have A3 := Aside0.mk A30
  clear A30
  simp only [Option.some.injEq, Prod.mk.injEq] at H
  obtain ⟨rfl, rfl⟩ := H
  go_enter Try.func60, Try.ntmps60
  go_wp2_with (first | ((with_reducible refine gate_dst (N := 2) rfl ?_); refine be #[.int .i64 a0_0, .int .i64 a0_1] 25 ?_; intro gb220 hg w4 hbox hb; have BK220 := Aside0.mk hbox; have GW220 := zs HB hg; have GE220 := zs HB hg; replace HB := zB HB hb; clear hb hbox hg) | ((with_reducible refine gate_dst (N := 4) rfl ?_); refine be #[.int .i64 0, .int .i64 0] 25 ?_; intro gb221 hg w5 hbox hb; have BK221 := Aside0.mk hbox; have GW221 := zs HB hg; have GE221 := zs HB hg; have NB220_221 := zn BK220 hg; have NB221_220 := zm BK220 hg; replace BK220 := zb BK220 hb; replace HB := zB HB hb; clear hb hbox hg; have hnb6 := NB220_221.1; have hnc6 := NB221_220.1; obtain ⟨hcz7_0, hcz7_1, hfz7_0, hfz7_1⟩ := zc2 BK220) | ((with_reducible refine gate_callee (f := 80) rfl ?_); refine gl (some 11) Try.func80 #[.int .i64 (wrap64 (a0_0 * a1)), .int .i64 a0_1] ?_; (with_reducible refine (impl_part.calls k (wrap64 (a0_0 * a1)) a0_1 t222 t223 _ A3.1).mono ?_); rintro e w8 ⟨rfl, hb⟩; refine ⟨_, rfl, ?_⟩; replace BK220 := zb BK220 hb; replace BK221 := zb BK221 hb; replace HB := zB HB hb; clear hb; obtain ⟨hcz9_0, hcz9_1, hfz9_0, hfz9_1⟩ := zc2 BK221))
  refine bodyPost_ret (results_cell_row rfl _ _ gb221 25 #[.int .i64 t222, .int .i64 t223] (0, 0) _ rfl (bk BK221) Try.underlying25 rfl (by kernel_rfl)) rfl ?_
  exact ⟨er, bq HB⟩

/-! ### impl_Turn_mirror: function 75 -/
def impl_Turn_mirror.f (k : Nat) (a0_0 : Int) (a0_1 : Int) : Option (Int × Int) := (impl_Turn_times.f k a0_0 a0_1 (-1)).bind fun bt226 => (some (bt226.1, bt226.2))
theorem impl_Turn_mirror.mono : ∀ a0 a1 k, LeO (impl_Turn_mirror.f k a0 a1) (impl_Turn_mirror.f (k + 1) a0 a1) := by
  intro a0 a1 k
  unfold impl_Turn_mirror.f
  repeat' first
      | (with_reducible exact impl_Turn_times.mono _ _ _ _)
      | (with_reducible exact LeO.refl _)
      | (with_reducible exact LeO.none _)
      | (with_reducible refine LeO.ite ?_ ?_)
      | (with_reducible refine LeO.bind ?_ (fun _ => ?_))
      | exact impl_Turn_times.mono _ _ _ _
      | exact LeO.none _
      | refine LeO.ite ?_ ?_
      | refine LeO.bind ?_ (fun _ => ?_)
set_option maxHeartbeats 8000000 in
set_option maxRecDepth 100000 in
theorem impl_Turn_mirror.calls (k : Nat) (a0_0 : Int) (a0_1 : Int) (r1 : Int) (r2 : Int) (w : World) (h : impl_Turn_mirror.f k a0_0 a0_1 = some (r1, r2)) :
    Calls Try.prog 75 #[.agg #[.int .i64 a0_0, .int .i64 a0_1]] w fun e w' => e = .returned (.agg #[.int .i64 r1, .int .i64 r2]) ∧ Below w.heap.size w w' := by
  have hu25 := Try.underlying25
  have HB := Aside0.mk (Below.refl w.heap.size w)
  have H : ((impl_Turn_times.f k a0_0 a0_1 (-1)).bind fun bt226 => (some (bt226.1, bt226.2))) = some (r1, r2) := h
  clear h
  replace H := Option.bind_eq_some_iff.mp H
  obtain ⟨⟨t226, t227⟩, A20, H⟩ := H
  (try dsimp only at H)
  have A2 := Aside0.mk A20
  clear A20
  simp only [Option.some.injEq, Prod.mk.injEq] at H
  obtain ⟨rfl, rfl⟩ := H
  go_enter Try.func75, Try.ntmps75
  go_wp2_with (first | ((with_reducible refine gate_dst (N := 1) rfl ?_); refine be #[.int .i64 a0_0, .int .i64 a0_1] 25 ?_; intro gb224 hg w3 hbox hb; have BK224 := Aside0.mk hbox; have GW224 := zs HB hg; have GE224 := zs HB hg; replace HB := zB HB hb; clear hb hbox hg) | ((with_reducible refine gate_dst (N := 2) rfl ?_); refine be #[.int .i64 0, .int .i64 0] 25 ?_; intro gb225 hg w4 hbox hb; have BK225 := Aside0.mk hbox; have GW225 := zs HB hg; have GE225 := zs HB hg; have NB224_225 := zn BK224 hg; have NB225_224 := zm BK224 hg; replace BK224 := zb BK224 hb; replace HB := zB HB hb; clear hb hbox hg; have hnb5 := NB224_225.1; have hnc5 := NB225_224.1; obtain ⟨hcz6_0, hcz6_1, hfz6_0, hfz6_1⟩ := zc2 BK224) | ((with_reducible refine gate_callee (f := 60) rfl ?_); refine gl (some 4) Try.func60 #[.agg #[.int .i64 a0_0, .int .i64 a0_1], .int .i64 (-1)] ?_; (with_reducible refine (impl_Turn_times.calls k a0_0 a0_1 (-1) t226 t227 _ A2.1).mono ?_); rintro e w7 ⟨rfl, hb⟩; refine ⟨_, rfl, ?_⟩; replace BK224 := zb BK224 hb; replace BK225 := zb BK225 hb; replace HB := zB HB hb; clear hb; obtain ⟨hcz8_0, hcz8_1, hfz8_0, hfz8_1⟩ := zc2 BK225))
  refine bodyPost_ret (results_cell_row rfl _ _ gb225 25 #[.int .i64 t226, .int .i64 t227] (0, 0) _ rfl (bk BK225) Try.underlying25 rfl (by kernel_rfl)) rfl ?_
  exact ⟨er, bq HB⟩

/-! ### impl_areTurns_1: function 62 -/
def impl_areTurns_1.f (k : Nat) (a0_0 : Int) (a0_1 : Int) : Option (Bool) := (impl_IsTurn.f k a0_0 a0_1).bind fun t229 => (some (!t229))
theorem impl_areTurns_1.mono : ∀ a0 a1 k, LeO (impl_areTurns_1.f k a0 a1) (impl_areTurns_1.f (k + 1) a0 a1) := by
  intro a0 a1 k
  unfold impl_areTurns_1.f
  repeat' first
      | (with_reducible exact impl_IsTurn.mono _ _ _)
      | (with_reducible exact LeO.refl _)
      | (with_reducible exact LeO.none _)
      | (with_reducible refine LeO.ite ?_ ?_)
      | (with_reducible refine LeO.bind ?_ (fun _ => ?_))
      | exact impl_IsTurn.mono _ _ _
      | exact LeO.none _
      | refine LeO.ite ?_ ?_
      | refine LeO.bind ?_ (fun _ => ?_)
set_option maxHeartbeats 8000000 in
set_option maxRecDepth 100000 in
theorem impl_areTurns_1.calls (k : Nat) (a0_0 : Int) (a0_1 : Int) (r : Bool) (w : World) (h : impl_areTurns_1.f k a0_0 a0_1 = some r) :
    Calls Try.prog 62 #[.agg #[.int .i64 a0_0, .int .i64 a0_1]] w fun e w' => e = .returned (.bool r) ∧ Below w.heap.size w w' := by
  have hu25 := Try.underlying25
  have HB := Aside0.mk (Below.refl w.heap.size w)
  have H : ((impl_IsTurn.f k a0_0 a0_1).bind fun t229 => (some (!t229))) = some r := h
  clear h
  replace H := Option.bind_eq_some_iff.mp H
  obtain ⟨t229, A20, H⟩ := H
  (try dsimp only at H)
  have A2 := Aside0.mk A20
  clear A20
  obtain rfl := Option.some.inj H
  go_enter Try.func62, Try.ntmps62
  go_wp2_with (first | ((with_reducible refine gate_dst (N := 1) rfl ?_); refine be #[.int .i64 a0_0, .int .i64 a0_1] 25 ?_; intro gb228 hg w3 hbox hb; have BK228 := Aside0.mk hbox; have GW228 := zs HB hg; have GE228 := zs HB hg; replace HB := zB HB hb; clear hb hbox hg; obtain ⟨hcz4_0, hcz4_1, hfz4_0, hfz4_1⟩ := zc2 BK228) | ((with_reducible refine gate_callee (f := 39) rfl ?_); refine gl (some 4) Try.func39 #[.agg #[.int .i64 a0_0, .int .i64 a0_1]] ?_; (with_reducible refine (impl_IsTurn.calls k a0_0 a0_1 t229 _ A2.1).mono ?_); rintro e w5 ⟨rfl, hb⟩; refine ⟨_, rfl, ?_⟩; replace BK228 := zb BK228 hb; replace HB := zB HB hb; clear hb))
  go_ret
  exact ⟨er, bq HB⟩

end Go.Proofs.Ytoneipoioiokcaa.PFnHandsMeet
