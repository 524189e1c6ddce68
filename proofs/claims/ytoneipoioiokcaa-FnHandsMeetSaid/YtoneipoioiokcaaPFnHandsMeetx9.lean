/- A part of the walk of FnHandsMeet: which Lean function each Go function comes to, and that the machine's call does so. Written by a program of this repo (wip/gen/xprint.py). -/
import Derived.Test.YtoneipoioiokcaaPFnHandsMeetx0
import Derived.Test.YtoneipoioiokcaaPFnHandsMeetx7
import Derived.Test.YtoneipoioiokcaaPFnHandsMeetx8
namespace Go.Proofs.Ytoneipoioiokcaa.PFnHandsMeet
open Go.RowKit Go.Proofs.YtoneipoioiokcaaW.PrintWords Go.Proofs.YtoneipoioiokcaaW.PrintLast Go.Proofs.YtoneipoioiokcaaW.PrintMore
attribute [local go_sem] max2_int min2_int max_two min_two max_three min_three max_four min_four   -- for this text's walks alone
set_option linter.unusedVariables false
set_option linter.unusedSimpArgs false

/-! ### impl_Hand_timesAt: function 51 -/
def impl_Hand_timesAt.f (k : Nat) (a0_0 : Int) (a0_1 : Int) (a0_2 : Int) (a1_0 : Int) (a1_1 : Int) : Option ((List (S25)) × Bool) := (impl_Turn_minus.f k a1_0 a1_1 a0_0 a0_1).bind fun bt243 => (if a0_2 < 0 then ((impl_Turn_mirror.f k bt243.1 bt243.2).bind fun bt246 => ((impl_roots.f k bt246.1 bt246.2 (wrap64 (-a0_2))).bind fun bt248 => ((impl_ifTurns.f bt248.1 bt248.2).bind fun bt252 => (some (bt252.1, bt252.2))))) else ((impl_roots.f k bt243.1 bt243.2 a0_2).bind fun bt256 => ((impl_ifTurns.f bt256.1 bt256.2).bind fun bt260 => (some (bt260.1, bt260.2)))))
theorem impl_Hand_timesAt.mono : ∀ a0 a1 a2 a3 a4 k, LeO (impl_Hand_timesAt.f k a0 a1 a2 a3 a4) (impl_Hand_timesAt.f (k + 1) a0 a1 a2 a3 a4) := by
  intro a0 a1 a2 a3 a4 k
  unfold impl_Hand_timesAt.f
  repeat' first
      | (with_reducible exact impl_Turn_minus.mono _ _ _ _ _)
      | (with_reducible exact impl_Turn_mirror.mono _ _ _)
      | (with_reducible exact impl_roots.mono _ _ _ _)
      | (with_reducible exact LeO.refl _)
      | (with_reducible exact LeO.none _)
      | (with_reducible refine LeO.ite ?_ ?_)
      | (with_reducible refine LeO.bind ?_ (fun _ => ?_))
      | exact impl_Turn_minus.mono _ _ _ _ _
      | exact impl_Turn_mirror.mono _ _ _
      | exact impl_roots.mono _ _ _ _
      | exact LeO.none _
      | refine LeO.ite ?_ ?_
      | refine LeO.bind ?_ (fun _ => ?_)
def impl_Hand_timesAt.T1 : Bool × List (List Nat × List Nat) := (true, [([], []), ([], []), ([1], [1]), ([0, 2], [0, 2]), ([], []), ([4], [4]), ([], []), ([6, 3, 3, 0, 1, 2, 3, 6], [3, 6]), ([5, 7, 0, 1, 2, 3, 4, 5, 6, 7], [5])])
def impl_Hand_timesAt.B1 : List Nat := [0, 0, 2, 7, 0, 16, 0, 79, 255]
theorem impl_Hand_timesAt.tab1 : rtab .any (opsOf Try.f51 1) = impl_Hand_timesAt.T1 := by kernel_rfl
theorem impl_Hand_timesAt.bits1 : waitsOk impl_Hand_timesAt.T1.2 impl_Hand_timesAt.B1 = true := by kernel_rfl
set_option maxHeartbeats 8000000 in
set_option maxRecDepth 100000 in
theorem impl_Hand_timesAt.calls (k : Nat) (a0_0 : Int) (a0_1 : Int) (a0_2 : Int) (a1_0 : Int) (a1_1 : Int) (r1 : List (S25)) (r2 : Bool) (w : World) (h : impl_Hand_timesAt.f k a0_0 a0_1 a0_2 a1_0 a1_1 = some (r1, r2)) :
    Calls Try.prog 51 #[.agg #[.int .i64 a0_0, .int .i64 a0_1, .int .i64 a0_2], .agg #[.int .i64 a1_0, .int .i64 a1_1]] w fun e w' => ∃ v0_ : Value, e = .returned (.tuple #[v0_, .bool r2]) ∧ Kd.R k25 25 w' w.heap.size (fun _ => True) v0_ r1 ∧ Below w.heap.size w w' := by
  have hu27 := Try.underlying27
  have hu25 := Try.underlying25
  have HB := Aside0.mk (Below.refl w.heap.size w)
  have H : ((impl_Turn_minus.f k a1_0 a1_1 a0_0 a0_1).bind fun bt243 => (if a0_2 < 0 then ((impl_Turn_mirror.f k bt243.1 bt243.2).bind fun bt246 => ((impl_roots.f k bt246.1 bt246.2 (wrap64 (-a0_2))).bind fun bt248 => ((impl_ifTurns.f bt248.1 bt248.2).bind fun bt252 => (some (bt252.1, bt252.2))))) else ((impl_roots.f k bt243.1 bt243.2 a0_2).bind fun bt256 => ((impl_ifTurns.f bt256.1 bt256.2).bind fun bt260 => (some (bt260.1, bt260.2)))))) = some (r1, r2) := h
  clear h
  replace H := Option.bind_eq_some_iff.mp H
  obtain ⟨⟨t243, t244⟩, A30, H⟩ := H
  (try dsimp only at H)
  have A3 := Aside0.mk A30
  clear A30
  by_cases c4 : a0_2 < 0
  · rw [if_pos c4] at H
    have c4b0 : decide (a0_2 < 0) = true := decide_eq_true c4
    clear c4
    replace H := Option.bind_eq_some_iff.mp H
    obtain ⟨⟨t246, t247⟩, A50, H⟩ := H
    (try dsimp only at H)
    have A5 := Aside0.mk A50
    clear A50
    replace H := Option.bind_eq_some_iff.mp H
    obtain ⟨⟨t248, t251⟩, A60, H⟩ := H
    (try dsimp only at H)
    have A6 := Aside0.mk A60
    clear A60
    replace H := Option.bind_eq_some_iff.mp H
    obtain ⟨⟨t252, t255⟩, A70, H⟩ := H
    (try dsimp only at H)
    have A7 := Aside0.mk A70
    clear A70
    simp only [Option.some.injEq, Prod.mk.injEq] at H
    obtain ⟨rfl, rfl⟩ := H
    go_enter Try.func51, Try.ntmps51
    try go_wp2_with (first | ((with_reducible refine gate_dst (N := 2) rfl ?_); refine be #[.int .i64 a0_0, .int .i64 a0_1, .int .i64 a0_2] 27 ?_; intro gb241 hg w8 hbox hb; have BK241 := Aside0.mk hbox; have GW241 := zs HB hg; have GE241 := zs HB hg; replace HB := zB HB hb; clear hb hbox hg) | ((with_reducible refine gate_dst (N := 3) rfl ?_); refine be #[.int .i64 a1_0, .int .i64 a1_1] 25 ?_; intro gb242 hg w9 hbox hb; have BK242 := Aside0.mk hbox; have GW242 := zs HB hg; have GE242 := zs HB hg; have NB241_242 := zn BK241 hg; have NB242_241 := zm BK241 hg; replace BK241 := zb BK241 hb; replace HB := zB HB hb; clear hb hbox hg))
    replace BK241 := Aside0.mk (blk_drew BK241.1)
    replace BK242 := Aside0.mk (blk_drew BK242.1)
    replace HB := Aside0.mk (below_drew1 HB.1)
    refine start_ (n := 9) (S := fun w' => w'.cell? ⟨gb242, 0, none⟩ = some (.int .i64 a1_0) ∧ w'.cell? ⟨gb242, 1, none⟩ = some (.int .i64 a1_1) ∧ w'.cell? ⟨gb241, 0, none⟩ = some (.int .i64 a0_0) ∧ w'.cell? ⟨gb241, 1, none⟩ = some (.int .i64 a0_1) ∧ w'.cell? ⟨gb241, 2, none⟩ = some (.int .i64 a0_2)) (ds := []) (bs 9 0) (by kernel_rfl) rfl rfl ⟨(blk_cell BK242.1 0).trans rfl, (blk_cell BK242.1 1).trans rfl, (blk_cell BK241.1 0).trans rfl, (blk_cell BK241.1 1).trans rfl, (blk_cell BK241.1 2).trans rfl⟩ (fun hHeld => ?_); refine with_tabW impl_Hand_timesAt.tab1 impl_Hand_timesAt.bits1 (fun HT_ HW_ => ?_)
    generalize w9.drew = w10 at BK241 BK242 HB hHeld ⊢
    refine pu 1 9 HT_ rfl rfl (bs 9 2) ?_
    refine pu 4 12 HT_ rfl rfl (bs 9 18) ?_
    refine tk 0 8 HT_ HW_ hHeld rfl rfl (bs 9 19) ?_
    refine tk 2 10 HT_ HW_ hHeld rfl rfl (bs 9 23) ?_
    refine tk 5 13 HT_ HW_ hHeld rfl rfl (bs 9 55) ?_
    refine join_ (σ := Nat) 2 (bs 9 127) (fun s_ => [(11, .agg #[.int .i64 t243, .int .i64 t244]), (6, .pointer (some ⟨s_, 0, none⟩))]) (fun s_ w' => (w'.cell? ⟨gb242, 0, none⟩ = some (.int .i64 a1_0) ∧ w'.cell? ⟨gb242, 1, none⟩ = some (.int .i64 a1_1) ∧ w'.cell? ⟨gb241, 0, none⟩ = some (.int .i64 a0_0) ∧ w'.cell? ⟨gb241, 1, none⟩ = some (.int .i64 a0_1) ∧ w'.cell? ⟨gb241, 2, none⟩ = some (.int .i64 a0_2)) ∧ (w'.heap[gb241]? = some (.cells #[.int .i64 a0_0, .int .i64 a0_1, .int .i64 a0_2] 27 (0, 0))) ∧ (w'.heap[gb242]? = some (.cells #[.int .i64 a1_0, .int .i64 a1_1] 25 (0, 0))) ∧ (w'.heap[s_]? = some (.cells #[.int .i64 0, .int .i64 0] 25 (0, 0))) ∧ (w.heap.size ≤ s_) ∧ (w.heap.size ≤ s_) ∧ (gb241 ≠ s_) ∧ (s_ ≠ gb241) ∧ (gb242 ≠ s_) ∧ (s_ ≠ gb242) ∧ (Below w.heap.size w w')) ?_ ?_
    rotate_left
    · intro hCont
      refine two_ (i := 3) (j := 6) (Ni := some 11) (Nj := some 6) (bs 9 63) (bs 9 119) rfl rfl rfl rfl (two_of HT_.1 (by kernel_rfl)) (by decide) (by decide) (fun K hK => ?_) (fun K hK => ?_)
      · skip
        refine gs Try.func74 #[.agg #[.int .i64 a1_0, .int .i64 a1_1], .agg #[.int .i64 a0_0, .int .i64 a0_1]] ?_
        with_reducible refine (impl_Turn_minus.calls k a1_0 a1_1 a0_0 a0_1 t243 t244 _ A3.1).mono ?_
        rintro e w11 ⟨rfl, hb⟩
        refine ⟨_, rfl, ?_⟩
        replace BK241 := zb BK241 hb
        replace BK242 := zb BK242 hb
        replace HB := zB HB hb
        (try clear hb)
        (try clear hb2)
        (try clear hk)
        (try clear hi)
        refine hK.out _ _ ⟨(blk_cell BK242.1 0).trans rfl, (blk_cell BK242.1 1).trans rfl, (blk_cell BK241.1 0).trans rfl, (blk_cell BK241.1 1).trans rfl, (blk_cell BK241.1 2).trans rfl⟩ (fun hHeld => ?_)
        clear hK K
        refine norm_ (aq 11) ?_
        refine one_ (i := 6) (N := some 6) (bs 9 127) rfl rfl (one_of HT_.1 (by kernel_rfl)) (by decide) (fun K hK => ?_)
        refine bp #[.int .i64 0, .int .i64 0] 25 ?_
        intro gb245 hg w12 hbox hb
        have BK245 := Aside0.mk hbox
        have GW245 := zs HB hg
        have GE245 := zs HB hg
        have NB241_245 := zn BK241 hg
        have NB245_241 := zm BK241 hg
        have NB242_245 := zn BK242 hg
        have NB245_242 := zm BK242 hg
        replace BK241 := zb BK241 hb
        replace BK242 := zb BK242 hb
        replace HB := zB HB hb
        clear hb hbox hg
        refine hK.out _ _ ⟨(blk_cell BK242.1 0).trans rfl, (blk_cell BK242.1 1).trans rfl, (blk_cell BK241.1 0).trans rfl, (blk_cell BK241.1 1).trans rfl, (blk_cell BK241.1 2).trans rfl⟩ (fun hHeld => ?_)
        clear hK K
        refine norm_ (aq 6) ?_
        exact norm_ (by simp only [putAll, Act.put, List.setIfInBounds_toArray, List.set_cons_zero, List.set_cons_succ]) (hCont (gb245) _ ⟨hHeld, (bk BK241), (bk BK242), (bk BK245), GW245.1, GE245.1, NB241_245.1, NB245_241.1, NB242_245.1, NB245_242.1, (bq HB)⟩)
      skip
      refine bp #[.int .i64 0, .int .i64 0] 25 ?_
      intro gb245 hg w11 hbox hb
      have BK245 := Aside0.mk hbox
      have GW245 := zs HB hg
      have GE245 := zs HB hg
      have NB241_245 := zn BK241 hg
      have NB245_241 := zm BK241 hg
      have NB242_245 := zn BK242 hg
      have NB245_242 := zm BK242 hg
      replace BK241 := zb BK241 hb
      replace BK242 := zb BK242 hb
      replace HB := zB HB hb
      clear hb hbox hg
      refine hK.out _ _ ⟨(blk_cell BK242.1 0).trans rfl, (blk_cell BK242.1 1).trans rfl, (blk_cell BK241.1 0).trans rfl, (blk_cell BK241.1 1).trans rfl, (blk_cell BK241.1 2).trans rfl⟩ (fun hHeld => ?_)
      clear hK K
      refine norm_ (aq 6) ?_
      refine one_ (i := 3) (N := some 11) (bs 9 127) rfl rfl (one_of HT_.1 (by kernel_rfl)) (by decide) (fun K hK => ?_)
      refine gs Try.func74 #[.agg #[.int .i64 a1_0, .int .i64 a1_1], .agg #[.int .i64 a0_0, .int .i64 a0_1]] ?_
      with_reducible refine (impl_Turn_minus.calls k a1_0 a1_1 a0_0 a0_1 t243 t244 _ A3.1).mono ?_
      rintro e w12 ⟨rfl, hb⟩
      refine ⟨_, rfl, ?_⟩
      replace BK241 := zb BK241 hb
      replace BK242 := zb BK242 hb
      replace BK245 := zb BK245 hb
      replace HB := zB HB hb
      (try clear hb)
      (try clear hb2)
      (try clear hk)
      (try clear hi)
      refine hK.out _ _ ⟨(blk_cell BK242.1 0).trans rfl, (blk_cell BK242.1 1).trans rfl, (blk_cell BK241.1 0).trans rfl, (blk_cell BK241.1 1).trans rfl, (blk_cell BK241.1 2).trans rfl⟩ (fun hHeld => ?_)
      clear hK K
      refine norm_ (aq 11) ?_
      exact norm_ (by simp only [putAll, Act.put, List.setIfInBounds_toArray, List.set_cons_zero, List.set_cons_succ]) (hCont (gb245) _ ⟨hHeld, (bk BK241), (bk BK242), (bk BK245), GW245.1, GE245.1, NB241_245.1, NB245_241.1, NB242_245.1, NB245_242.1, (bq HB)⟩)
    rintro gb245 w13 ⟨hS_, h0_, h1_, h2_, h3_, h4_, h5_, h6_, h7_, h8_, h9_⟩
    have n0_ : Aside0 (w13.heap[gb241]? = some (.cells #[.int .i64 a0_0, .int .i64 a0_1, .int .i64 a0_2] 27 (0, 0))) := ⟨h0_⟩
    have n1_ : Aside0 (w13.heap[gb242]? = some (.cells #[.int .i64 a1_0, .int .i64 a1_1] 25 (0, 0))) := ⟨h1_⟩
    have n2_ : Aside0 (w13.heap[gb245]? = some (.cells #[.int .i64 0, .int .i64 0] 25 (0, 0))) := ⟨h2_⟩
    have n3_ : Aside0 (w.heap.size ≤ gb245) := ⟨h3_⟩
    have n4_ : Aside0 (w.heap.size ≤ gb245) := ⟨h4_⟩
    have n5_ : Aside0 (gb241 ≠ gb245) := ⟨h5_⟩
    have n6_ : Aside0 (gb245 ≠ gb241) := ⟨h6_⟩
    have n7_ : Aside0 (gb242 ≠ gb245) := ⟨h7_⟩
    have n8_ : Aside0 (gb245 ≠ gb242) := ⟨h8_⟩
    have n9_ : Aside0 (Below w.heap.size w w13) := ⟨h9_⟩
    clear BK241
    clear BK242
    clear HB
    clear h0_ h1_ h2_ h3_ h4_ h5_ h6_ h7_ h8_ h9_
    have BK241 := n0_
    have BK242 := n1_
    have BK245 := n2_
    have GW245 := n3_
    have GE245 := n4_
    have NB241_245 := n5_
    have NB245_241 := n6_
    have NB242_245 := n7_
    have NB245_242 := n8_
    have HB := n9_
    clear n0_ n1_ n2_ n3_ n4_ n5_ n6_ n7_ n8_ n9_
    have hHeld : w13.cell? ⟨gb242, 0, none⟩ = some (.int .i64 a1_0) ∧ w13.cell? ⟨gb242, 1, none⟩ = some (.int .i64 a1_1) ∧ w13.cell? ⟨gb241, 0, none⟩ = some (.int .i64 a0_0) ∧ w13.cell? ⟨gb241, 1, none⟩ = some (.int .i64 a0_1) ∧ w13.cell? ⟨gb241, 2, none⟩ = some (.int .i64 a0_2) := hS_
    refine norm_ (a' := ?_) ?_ ?_
    rotate_left
    · simp only [putAll, Act.put, List.setIfInBounds_toArray, List.set_cons_zero, List.set_cons_succ]
      rfl
    refine one_ (i := 7) (N := none) (bs 9 255) rfl rfl (one_of HT_.1 (by kernel_rfl)) (by decide) (fun K hK => ?_)
    have hs14 : w13.cell? ⟨gb245, 0, none⟩ = some (.int .i64 0) := (blk_cell BK245.1 0).trans rfl
    have hfs14 := blk_frozen BK245.1 0
    have hns14_0 := NB241_245.1
    have hns14_1 := NB242_245.1
    have hms14_0 := NB245_241.1
    have hms14_1 := NB245_242.1
    have hs15 : w13.cell? ⟨gb245, 1, none⟩ = some (.int .i64 0) := (blk_cell BK245.1 1).trans rfl
    have hfs15 := blk_frozen BK245.1 1
    have hns15_0 := NB241_245.1
    have hns15_1 := NB242_245.1
    have hms15_0 := NB245_241.1
    have hms15_1 := NB245_242.1
    refine skip_ (w1 := ?_) (by rfl) rfl ?_ ?_
    rotate_left
    · go_simp
      rfl
    refine hK.out _ _ ⟨((cell_far (p := ⟨gb245, _, none⟩) NB242_245.1 _).trans (((cell_far (p := ⟨gb245, _, none⟩) NB242_245.1 _).trans (hHeld.1)))), ((cell_far (p := ⟨gb245, _, none⟩) NB242_245.1 _).trans (((cell_far (p := ⟨gb245, _, none⟩) NB242_245.1 _).trans (hHeld.2.1)))), ((cell_far (p := ⟨gb245, _, none⟩) NB241_245.1 _).trans (((cell_far (p := ⟨gb245, _, none⟩) NB241_245.1 _).trans (hHeld.2.2.1)))), ((cell_far (p := ⟨gb245, _, none⟩) NB241_245.1 _).trans (((cell_far (p := ⟨gb245, _, none⟩) NB241_245.1 _).trans (hHeld.2.2.2.1)))), ((cell_far (p := ⟨gb245, _, none⟩) NB241_245.1 _).trans (((cell_far (p := ⟨gb245, _, none⟩) NB241_245.1 _).trans (hHeld.2.2.2.2))))⟩ (fun hHeld => ?_)
    clear hK K
    refine pu 8 7 HT_ rfl rfl (bs 9 511) ?_
    refine done_ (done_of HT_.1 (by kernel_rfl)) ?_
    have hnb16 := NB245_241.1
    have hnc16 := NB241_245.1
    have hnb17 := NB245_242.1
    have hnc17 := NB242_245.1
    obtain ⟨hcz18_0, hcz18_1, hfz18_0, hfz18_1⟩ := zc2 BK245
    try go_wp2_with (first | ((with_reducible refine gate_callee (f := 75) rfl ?_); refine gl (some 17) Try.func75 #[.agg #[.int .i64 t243, .int .i64 t244]] ?_; (with_reducible refine (impl_Turn_mirror.calls k t243 t244 t246 t247 _ A5.1).mono ?_); rintro e w19 ⟨rfl, hb⟩; refine ⟨_, rfl, ?_⟩; replace BK241 := zy (o' := .cells #[.int .i64 a0_0, .int .i64 a0_1, .int .i64 a0_2] 27 (0, 0)) BK241 hb; replace BK242 := zy (o' := .cells #[.int .i64 a1_0, .int .i64 a1_1] 25 (0, 0)) BK242 hb; replace BK245 := zy (o' := .cells #[.int .i64 t243, .int .i64 t244] 25 (0, 0)) BK245 hb; replace HB := zB HB hb; clear hb; obtain ⟨hcz20_0, hcz20_1, hfz20_0, hfz20_1⟩ := zc2 BK245) | ((with_reducible refine gate_callee (f := 77) rfl ?_); refine gl (some 22) Try.func77 #[.agg #[.int .i64 t246, .int .i64 t247], .int .i64 (wrap64 (-a0_2))] ?_; (with_reducible refine (impl_roots.calls k t246 t247 (wrap64 (-a0_2)) t248 t251 _ A6.1).mono ?_); rintro e w21 ⟨v249, rfl, ho0, hb⟩; refine ⟨_, rfl, ?_⟩; have HO250 := Aside0.mk (Kd.R_lower (Kd.R_newB (Kd.R_newB ho0 (g := gb242) (o := .cells #[.int .i64 a1_0, .int .i64 a1_1] 25 (0, 0)) (bk BK242)) (g := gb245) (o := .cells #[.int .i64 t246, .int .i64 t247] 25 (0, 0)) (bk BK245)) (below_size (bq HB))); replace BK241 := zy (o' := .cells #[.int .i64 a0_0, .int .i64 a0_1, .int .i64 a0_2] 27 (0, 0)) BK241 hb; replace BK242 := zy (o' := .cells #[.int .i64 a1_0, .int .i64 a1_1] 25 (0, 0)) BK242 hb; replace BK245 := zy (o' := .cells #[.int .i64 t246, .int .i64 t247] 25 (0, 0)) BK245 hb; replace HB := zB HB hb; (try clear hb); (try clear hb2); (try clear hk); (try clear hi); (try clear ho0); obtain ⟨Ao22, co22, eo22⟩ := Kd.R_slice HO250.1; subst eo22) | ((with_reducible refine gate_callee (f := 76) rfl ?_); refine gl (some 25) Try.func76 #[.slice Ao22 t248.length co22, .bool t251] ?_; (with_reducible refine (impl_ifTurns.calls (fun k_ => some k_ = (.slice Ao22 t248.length co22 : Value).ownBlock) (.slice Ao22 t248.length co22) t248 t251 t252 t255 w _ ?side1 ?side2 A7.1).mono ?_); (case side1 => exact bq HB); (case side2 => exact Kd.R_tight rfl HO250.1); rintro e w23 ⟨v253, rfl, ho0, hb, hkp⟩; refine ⟨_, rfl, ?_⟩; have HO254 := Aside0.mk (Kd.R_mono (ok' := fun k_ => k_ ≠ gb242 ∧ k_ ≠ gb245) ho0 (fun k_ hk_ => ⟨Or.elim hk_ (fun hs_ => fun e_ => (Kd.R_away HO250.1 (fun _ hk => hk.1.2)) (by rw [← e_]; exact hs_)) (fun hn_ => (Kd.freshB (g := gb242) (o := .cells #[.int .i64 a1_0, .int .i64 a1_1] 25 (0, 0)) (bk BK242) k_ hn_)), Or.elim hk_ (fun hs_ => fun e_ => (Kd.R_away HO250.1 (fun _ hk => hk.2)) (by rw [← e_]; exact hs_)) (fun hn_ => (Kd.freshB (g := gb245) (o := .cells #[.int .i64 t246, .int .i64 t247] 25 (0, 0)) (bk BK245) k_ hn_))⟩)); replace BK241 := Aside0.mk (blk_kept (bk BK241) hkp (fun hs_ => (fun e_ => (Kd.R_ne HO250.1 BK241.1 (by decide)) e_) hs_)); replace BK242 := Aside0.mk (blk_kept (bk BK242) hkp (fun hs_ => (fun e_ => (Kd.R_away HO250.1 (fun _ hk => hk.1.2)) e_) hs_)); replace BK245 := Aside0.mk (blk_kept (bk BK245) hkp (fun hs_ => (fun e_ => (Kd.R_away HO250.1 (fun _ hk => hk.2)) e_) hs_)); replace HB := Aside0.mk hb; clear HO250; (try clear hb); (try clear hkp); (try clear ho0)))
    go_ret2
    exact ⟨_, er, by (with_reducible repeat (first | apply Kd.R_alloc | apply Kd.R_drewN | apply Kd.R_drew)); exact Kd.R_mono HO254.1 (fun _ hk => trivial), bq HB⟩
  rw [if_neg c4] at H
  have c4b0 : decide (a0_2 < 0) = false := decide_eq_false c4
  clear c4
  replace H := Option.bind_eq_some_iff.mp H
  obtain ⟨⟨t256, t259⟩, A240, H⟩ := H
  (try dsimp only at H)
  have A24 := Aside0.mk A240
  clear A240
  replace H := Option.bind_eq_some_iff.mp H
  obtain ⟨⟨t260, t263⟩, A250, H⟩ := H
  (try dsimp only at H)
  have A25 := Aside0.mk A250
  clear A250
  simp only [Option.some.injEq, Prod.mk.injEq] at H
  obtain ⟨rfl, rfl⟩ := H
  go_enter Try.func51, Try.ntmps51
  try go_wp2_with (first | ((with_reducible refine gate_dst (N := 2) rfl ?_); refine be #[.int .i64 a0_0, .int .i64 a0_1, .int .i64 a0_2] 27 ?_; intro gb241 hg w26 hbox hb; have BK241 := Aside0.mk hbox; have GW241 := zs HB hg; have GE241 := zs HB hg; replace HB := zB HB hb; clear hb hbox hg) | ((with_reducible refine gate_dst (N := 3) rfl ?_); refine be #[.int .i64 a1_0, .int .i64 a1_1] 25 ?_; intro gb242 hg w27 hbox hb; have BK242 := Aside0.mk hbox; have GW242 := zs HB hg; have GE242 := zs HB hg; have NB241_242 := zn BK241 hg; have NB242_241 := zm BK241 hg; replace BK241 := zb BK241 hb; replace HB := zB HB hb; clear hb hbox hg))
  replace BK241 := Aside0.mk (blk_drew BK241.1)
  replace BK242 := Aside0.mk (blk_drew BK242.1)
  replace HB := Aside0.mk (below_drew1 HB.1)
  refine start_ (n := 9) (S := fun w' => w'.cell? ⟨gb242, 0, none⟩ = some (.int .i64 a1_0) ∧ w'.cell? ⟨gb242, 1, none⟩ = some (.int .i64 a1_1) ∧ w'.cell? ⟨gb241, 0, none⟩ = some (.int .i64 a0_0) ∧ w'.cell? ⟨gb241, 1, none⟩ = some (.int .i64 a0_1) ∧ w'.cell? ⟨gb241, 2, none⟩ = some (.int .i64 a0_2)) (ds := []) (bs 9 0) (by kernel_rfl) rfl rfl ⟨(blk_cell BK242.1 0).trans rfl, (blk_cell BK242.1 1).trans rfl, (blk_cell BK241.1 0).trans rfl, (blk_cell BK241.1 1).trans rfl, (blk_cell BK241.1 2).trans rfl⟩ (fun hHeld => ?_); refine with_tabW impl_Hand_timesAt.tab1 impl_Hand_timesAt.bits1 (fun HT_ HW_ => ?_)
  generalize w27.drew = w28 at BK241 BK242 HB hHeld ⊢
  refine pu 1 9 HT_ rfl rfl (bs 9 2) ?_
  refine pu 4 12 HT_ rfl rfl (bs 9 18) ?_
  refine tk 0 8 HT_ HW_ hHeld rfl rfl (bs 9 19) ?_
  refine tk 2 10 HT_ HW_ hHeld rfl rfl (bs 9 23) ?_
  refine tk 5 13 HT_ HW_ hHeld rfl rfl (bs 9 55) ?_
  refine join_ (σ := Nat) 2 (bs 9 127) (fun s_ => [(11, .agg #[.int .i64 t243, .int .i64 t244]), (6, .pointer (some ⟨s_, 0, none⟩))]) (fun s_ w' => (w'.cell? ⟨gb242, 0, none⟩ = some (.int .i64 a1_0) ∧ w'.cell? ⟨gb242, 1, none⟩ = some (.int .i64 a1_1) ∧ w'.cell? ⟨gb241, 0, none⟩ = some (.int .i64 a0_0) ∧ w'.cell? ⟨gb241, 1, none⟩ = some (.int .i64 a0_1) ∧ w'.cell? ⟨gb241, 2, none⟩ = some (.int .i64 a0_2)) ∧ (w'.heap[gb241]? = some (.cells #[.int .i64 a0_0, .int .i64 a0_1, .int .i64 a0_2] 27 (0, 0))) ∧ (w'.heap[gb242]? = some (.cells #[.int .i64 a1_0, .int .i64 a1_1] 25 (0, 0))) ∧ (w'.heap[s_]? = some (.cells #[.int .i64 0, .int .i64 0] 25 (0, 0))) ∧ (w.heap.size ≤ s_) ∧ (w.heap.size ≤ s_) ∧ (gb241 ≠ s_) ∧ (s_ ≠ gb241) ∧ (gb242 ≠ s_) ∧ (s_ ≠ gb242) ∧ (Below w.heap.size w w')) ?_ ?_
  rotate_left
  · intro hCont
    refine two_ (i := 3) (j := 6) (Ni := some 11) (Nj := some 6) (bs 9 63) (bs 9 119) rfl rfl rfl rfl (two_of HT_.1 (by kernel_rfl)) (by decide) (by decide) (fun K hK => ?_) (fun K hK => ?_)
    · skip
      refine gs Try.func74 #[.agg #[.int .i64 a1_0, .int .i64 a1_1], .agg #[.int .i64 a0_0, .int .i64 a0_1]] ?_
      with_reducible refine (impl_Turn_minus.calls k a1_0 a1_1 a0_0 a0_1 t243 t244 _ A3.1).mono ?_
      rintro e w29 ⟨rfl, hb⟩
      refine ⟨_, rfl, ?_⟩
      replace BK241 := zb BK241 hb
      replace BK242 := zb BK242 hb
      replace HB := zB HB hb
      (try clear hb)
      (try clear hb2)
      (try clear hk)
      (try clear hi)
      refine hK.out _ _ ⟨(blk_cell BK242.1 0).trans rfl, (blk_cell BK242.1 1).trans rfl, (blk_cell BK241.1 0).trans rfl, (blk_cell BK241.1 1).trans rfl, (blk_cell BK241.1 2).trans rfl⟩ (fun hHeld => ?_)
      clear hK K
      refine norm_ (aq 11) ?_
      refine one_ (i := 6) (N := some 6) (bs 9 127) rfl rfl (one_of HT_.1 (by kernel_rfl)) (by decide) (fun K hK => ?_)
      refine bp #[.int .i64 0, .int .i64 0] 25 ?_
      intro gb245 hg w30 hbox hb
      have BK245 := Aside0.mk hbox
      have GW245 := zs HB hg
      have GE245 := zs HB hg
      have NB241_245 := zn BK241 hg
      have NB245_241 := zm BK241 hg
      have NB242_245 := zn BK242 hg
      have NB245_242 := zm BK242 hg
      replace BK241 := zb BK241 hb
      replace BK242 := zb BK242 hb
      replace HB := zB HB hb
      clear hb hbox hg
      refine hK.out _ _ ⟨(blk_cell BK242.1 0).trans rfl, (blk_cell BK242.1 1).trans rfl, (blk_cell BK241.1 0).trans rfl, (blk_cell BK241.1 1).trans rfl, (blk_cell BK241.1 2).trans rfl⟩ (fun hHeld => ?_)
      clear hK K
      refine norm_ (aq 6) ?_
      exact norm_ (by simp only [putAll, Act.put, List.setIfInBounds_toArray, List.set_cons_zero, List.set_cons_succ]) (hCont (gb245) _ ⟨hHeld, (bk BK241), (bk BK242), (bk BK245), GW245.1, GE245.1, NB241_245.1, NB245_241.1, NB242_245.1, NB245_242.1, (bq HB)⟩)
    skip
    refine bp #[.int .i64 0, .int .i64 0] 25 ?_
    intro gb245 hg w29 hbox hb
    have BK245 := Aside0.mk hbox
    have GW245 := zs HB hg
    have GE245 := zs HB hg
    have NB241_245 := zn BK241 hg
    have NB245_241 := zm BK241 hg
    have NB242_245 := zn BK242 hg
    have NB245_242 := zm BK242 hg
    replace BK241 := zb BK241 hb
    replace BK242 := zb BK242 hb
    replace HB := zB HB hb
    clear hb hbox hg
    refine hK.out _ _ ⟨(blk_cell BK242.1 0).trans rfl, (blk_cell BK242.1 1).trans rfl, (blk_cell BK241.1 0).trans rfl, (blk_cell BK241.1 1).trans rfl, (blk_cell BK241.1 2).trans rfl⟩ (fun hHeld => ?_)
    clear hK K
    refine norm_ (aq 6) ?_
    refine one_ (i := 3) (N := some 11) (bs 9 127) rfl rfl (one_of HT_.1 (by kernel_rfl)) (by decide) (fun K hK => ?_)
    refine gs Try.func74 #[.agg #[.int .i64 a1_0, .int .i64 a1_1], .agg #[.int .i64 a0_0, .int .i64 a0_1]] ?_
    with_reducible refine (impl_Turn_minus.calls k a1_0 a1_1 a0_0 a0_1 t243 t244 _ A3.1).mono ?_
    rintro e w30 ⟨rfl, hb⟩
    refine ⟨_, rfl, ?_⟩
    replace BK241 := zb BK241 hb
    replace BK242 := zb BK242 hb
    replace BK245 := zb BK245 hb
    replace HB := zB HB hb
    (try clear hb)
    (try clear hb2)
    (try clear hk)
    (try clear hi)
    refine hK.out _ _ ⟨(blk_cell BK242.1 0).trans rfl, (blk_cell BK242.1 1).trans rfl, (blk_cell BK241.1 0).trans rfl, (blk_cell BK241.1 1).trans rfl, (blk_cell BK241.1 2).trans rfl⟩ (fun hHeld => ?_)
    clear hK K
    refine norm_ (aq 11) ?_
    exact norm_ (by simp only [putAll, Act.put, List.setIfInBounds_toArray, List.set_cons_zero, List.set_cons_succ]) (hCont (gb245) _ ⟨hHeld, (bk BK241), (bk BK242), (bk BK245), GW245.1, GE245.1, NB241_245.1, NB245_241.1, NB242_245.1, NB245_242.1, (bq HB)⟩)
  rintro gb245 w31 ⟨hS_, h0_, h1_, h2_, h3_, h4_, h5_, h6_, h7_, h8_, h9_⟩
  have n0_ : Aside0 (w31.heap[gb241]? = some (.cells #[.int .i64 a0_0, .int .i64 a0_1, .int .i64 a0_2] 27 (0, 0))) := ⟨h0_⟩
  have n1_ : Aside0 (w31.heap[gb242]? = some (.cells #[.int .i64 a1_0, .int .i64 a1_1] 25 (0, 0))) := ⟨h1_⟩
  have n2_ : Aside0 (w31.heap[gb245]? = some (.cells #[.int .i64 0, .int .i64 0] 25 (0, 0))) := ⟨h2_⟩
  have n3_ : Aside0 (w.heap.size ≤ gb245) := ⟨h3_⟩
  have n4_ : Aside0 (w.heap.size ≤ gb245) := ⟨h4_⟩
  have n5_ : Aside0 (gb241 ≠ gb245) := ⟨h5_⟩
  have n6_ : Aside0 (gb245 ≠ gb241) := ⟨h6_⟩
  have n7_ : Aside0 (gb242 ≠ gb245) := ⟨h7_⟩
  have n8_ : Aside0 (gb245 ≠ gb242) := ⟨h8_⟩
  have n9_ : Aside0 (Below w.heap.size w w31) := ⟨h9_⟩
  clear BK241
  clear BK242
  clear HB
  clear h0_ h1_ h2_ h3_ h4_ h5_ h6_ h7_ h8_ h9_
  have BK241 := n0_
  have BK242 := n1_
  have BK245 := n2_
  have GW245 := n3_
  have GE245 := n4_
  have NB241_245 := n5_
  have NB245_241 := n6_
  have NB242_245 := n7_
  have NB245_242 := n8_
  have HB := n9_
  clear n0_ n1_ n2_ n3_ n4_ n5_ n6_ n7_ n8_ n9_
  have hHeld : w31.cell? ⟨gb242, 0, none⟩ = some (.int .i64 a1_0) ∧ w31.cell? ⟨gb242, 1, none⟩ = some (.int .i64 a1_1) ∧ w31.cell? ⟨gb241, 0, none⟩ = some (.int .i64 a0_0) ∧ w31.cell? ⟨gb241, 1, none⟩ = some (.int .i64 a0_1) ∧ w31.cell? ⟨gb241, 2, none⟩ = some (.int .i64 a0_2) := hS_
  refine norm_ (a' := ?_) ?_ ?_
  rotate_left
  · simp only [putAll, Act.put, List.setIfInBounds_toArray, List.set_cons_zero, List.set_cons_succ]
    rfl
  refine one_ (i := 7) (N := none) (bs 9 255) rfl rfl (one_of HT_.1 (by kernel_rfl)) (by decide) (fun K hK => ?_)
  have hs32 : w31.cell? ⟨gb245, 0, none⟩ = some (.int .i64 0) := (blk_cell BK245.1 0).trans rfl
  have hfs32 := blk_frozen BK245.1 0
  have hns32_0 := NB241_245.1
  have hns32_1 := NB242_245.1
  have hms32_0 := NB245_241.1
  have hms32_1 := NB245_242.1
  have hs33 : w31.cell? ⟨gb245, 1, none⟩ = some (.int .i64 0) := (blk_cell BK245.1 1).trans rfl
  have hfs33 := blk_frozen BK245.1 1
  have hns33_0 := NB241_245.1
  have hns33_1 := NB242_245.1
  have hms33_0 := NB245_241.1
  have hms33_1 := NB245_242.1
  refine skip_ (w1 := ?_) (by rfl) rfl ?_ ?_
  rotate_left
  · go_simp
    rfl
  refine hK.out _ _ ⟨((cell_far (p := ⟨gb245, _, none⟩) NB242_245.1 _).trans (((cell_far (p := ⟨gb245, _, none⟩) NB242_245.1 _).trans (hHeld.1)))), ((cell_far (p := ⟨gb245, _, none⟩) NB242_245.1 _).trans (((cell_far (p := ⟨gb245, _, none⟩) NB242_245.1 _).trans (hHeld.2.1)))), ((cell_far (p := ⟨gb245, _, none⟩) NB241_245.1 _).trans (((cell_far (p := ⟨gb245, _, none⟩) NB241_245.1 _).trans (hHeld.2.2.1)))), ((cell_far (p := ⟨gb245, _, none⟩) NB241_245.1 _).trans (((cell_far (p := ⟨gb245, _, none⟩) NB241_245.1 _).trans (hHeld.2.2.2.1)))), ((cell_far (p := ⟨gb245, _, none⟩) NB241_245.1 _).trans (((cell_far (p := ⟨gb245, _, none⟩) NB241_245.1 _).trans (hHeld.2.2.2.2))))⟩ (fun hHeld => ?_)
  clear hK K
  refine pu 8 7 HT_ rfl rfl (bs 9 511) ?_
  refine done_ (done_of HT_.1 (by kernel_rfl)) ?_
  have hnb34 := NB245_241.1
  have hnc34 := NB241_245.1
  have hnb35 := NB245_242.1
  have hnc35 := NB242_245.1
  obtain ⟨hcz36_0, hcz36_1, hfz36_0, hfz36_1⟩ := zc2 BK245
  try go_wp2_with (first | ((with_reducible refine gate_callee (f := 77) rfl ?_); refine gl (some 22) Try.func77 #[.agg #[.int .i64 t243, .int .i64 t244], .int .i64 a0_2] ?_; (with_reducible refine (impl_roots.calls k t243 t244 a0_2 t256 t259 _ A24.1).mono ?_); rintro e w37 ⟨v257, rfl, ho0, hb⟩; refine ⟨_, rfl, ?_⟩; have HO258 := Aside0.mk (Kd.R_lower (Kd.R_newB (Kd.R_newB ho0 (g := gb242) (o := .cells #[.int .i64 a1_0, .int .i64 a1_1] 25 (0, 0)) (bk BK242)) (g := gb245) (o := .cells #[.int .i64 t243, .int .i64 t244] 25 (0, 0)) (bk BK245)) (below_size (bq HB))); replace BK241 := zy (o' := .cells #[.int .i64 a0_0, .int .i64 a0_1, .int .i64 a0_2] 27 (0, 0)) BK241 hb; replace BK242 := zy (o' := .cells #[.int .i64 a1_0, .int .i64 a1_1] 25 (0, 0)) BK242 hb; replace BK245 := zy (o' := .cells #[.int .i64 t243, .int .i64 t244] 25 (0, 0)) BK245 hb; replace HB := zB HB hb; (try clear hb); (try clear hb2); (try clear hk); (try clear hi); (try clear ho0); obtain ⟨Ao38, co38, eo38⟩ := Kd.R_slice HO258.1; subst eo38) | ((with_reducible refine gate_callee (f := 76) rfl ?_); refine gl (some 25) Try.func76 #[.slice Ao38 t256.length co38, .bool t259] ?_; (with_reducible refine (impl_ifTurns.calls (fun k_ => some k_ = (.slice Ao38 t256.length co38 : Value).ownBlock) (.slice Ao38 t256.length co38) t256 t259 t260 t263 w _ ?side1 ?side2 A25.1).mono ?_); (case side1 => exact bq HB); (case side2 => exact Kd.R_tight rfl HO258.1); rintro e w39 ⟨v261, rfl, ho0, hb, hkp⟩; refine ⟨_, rfl, ?_⟩; have HO262 := Aside0.mk (Kd.R_mono (ok' := fun k_ => k_ ≠ gb242 ∧ k_ ≠ gb245) ho0 (fun k_ hk_ => ⟨Or.elim hk_ (fun hs_ => fun e_ => (Kd.R_away HO258.1 (fun _ hk => hk.1.2)) (by rw [← e_]; exact hs_)) (fun hn_ => (Kd.freshB (g := gb242) (o := .cells #[.int .i64 a1_0, .int .i64 a1_1] 25 (0, 0)) (bk BK242) k_ hn_)), Or.elim hk_ (fun hs_ => fun e_ => (Kd.R_away HO258.1 (fun _ hk => hk.2)) (by rw [← e_]; exact hs_)) (fun hn_ => (Kd.freshB (g := gb245) (o := .cells #[.int .i64 t243, .int .i64 t244] 25 (0, 0)) (bk BK245) k_ hn_))⟩)); replace BK241 := Aside0.mk (blk_kept (bk BK241) hkp (fun hs_ => (fun e_ => (Kd.R_ne HO258.1 BK241.1 (by decide)) e_) hs_)); replace BK242 := Aside0.mk (blk_kept (bk BK242) hkp (fun hs_ => (fun e_ => (Kd.R_away HO258.1 (fun _ hk => hk.1.2)) e_) hs_)); replace BK245 := Aside0.mk (blk_kept (bk BK245) hkp (fun hs_ => (fun e_ => (Kd.R_away HO258.1 (fun _ hk => hk.2)) e_) hs_)); replace HB := Aside0.mk hb; clear HO258; (try clear hb); (try clear hkp); (try clear ho0)))
  go_ret2
  exact ⟨_, er, by (with_reducible repeat (first | apply Kd.R_alloc | apply Kd.R_drewN | apply Kd.R_drew)); exact Kd.R_mono HO262.1 (fun _ hk => trivial), bq HB⟩

end Go.Proofs.Ytoneipoioiokcaa.PFnHandsMeet
