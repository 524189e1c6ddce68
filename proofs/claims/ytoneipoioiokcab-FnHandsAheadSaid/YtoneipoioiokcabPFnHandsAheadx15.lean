/- A part of the walk of FnHandsAhead: which Lean function each Go function comes to, and that the machine's call does so. Written by a program of this repo (wip/gen/xprint.py). -/
import Derived.Test.YtoneipoioiokcabPFnHandsAheadx0
import Derived.Test.YtoneipoioiokcabPFnHandsAheadx8
import Derived.Test.YtoneipoioiokcabPFnHandsAheadx14
namespace Go.Proofs.Ytoneipoioiokcab.PFnHandsAhead
open Go.RowKit Go.Proofs.YtoneipoioiokcabW.PrintWords Go.Proofs.YtoneipoioiokcabW.PrintLast Go.Proofs.YtoneipoioiokcabW.PrintMore
attribute [local go_sem] max2_int min2_int max_two min_two max_three min_three max_four min_four   -- for this text's walks alone
set_option linter.unusedVariables false
set_option linter.unusedSimpArgs false

/-! ### impl_Hand_at: function 38 -/
def impl_Hand_at.f (k : Nat) (a0_0 : Int) (a0_1 : Int) (a0_2 : Int) (a1_0 : Int) (a1_1 : Int) : Option (Int × Int) := (impl_Turn_times.f k a1_0 a1_1 a0_2).bind fun bt366 => ((impl_Turn_plus.f k a0_0 a0_1 bt366.1 bt366.2).bind fun bt368 => (some (bt368.1, bt368.2)))
theorem impl_Hand_at.mono : ∀ a0 a1 a2 a3 a4 k, LeO (impl_Hand_at.f k a0 a1 a2 a3 a4) (impl_Hand_at.f (k + 1) a0 a1 a2 a3 a4) := by
  intro a0 a1 a2 a3 a4 k
  unfold impl_Hand_at.f
  repeat' first
      | (with_reducible exact impl_Turn_plus.mono _ _ _ _ _)
      | (with_reducible exact impl_Turn_times.mono _ _ _ _)
      | (with_reducible exact LeO.refl _)
      | (with_reducible exact LeO.none _)
      | (with_reducible refine LeO.ite ?_ ?_)
      | (with_reducible refine LeO.bind ?_ (fun _ => ?_))
      | exact impl_Turn_plus.mono _ _ _ _ _
      | exact impl_Turn_times.mono _ _ _ _
      | exact LeO.none _
      | refine LeO.ite ?_ ?_
      | refine LeO.bind ?_ (fun _ => ?_)
def impl_Hand_at.T1 : Bool × List (List Nat × List Nat) := (true, [([], []), ([0], [0]), ([], []), ([], []), ([3], [3]), ([2, 4], [2, 4]), ([1, 5, 5], [1, 5]), ([6, 6, 0, 1, 2, 3, 4, 5, 6], [6])])
def impl_Hand_at.B1 : List Nat := [0, 1, 0, 0, 8, 28, 63, 127]
theorem impl_Hand_at.tab1 : rtab .any (opsOf Try.f38 1) = impl_Hand_at.T1 := by kernel_rfl
theorem impl_Hand_at.bits1 : waitsOk impl_Hand_at.T1.2 impl_Hand_at.B1 = true := by kernel_rfl
set_option maxHeartbeats 8000000 in
set_option maxRecDepth 100000 in
theorem impl_Hand_at.calls (k : Nat) (a0_0 : Int) (a0_1 : Int) (a0_2 : Int) (a1_0 : Int) (a1_1 : Int) (r1 : Int) (r2 : Int) (w : World) (h : impl_Hand_at.f k a0_0 a0_1 a0_2 a1_0 a1_1 = some (r1, r2)) :
    Calls Try.prog 38 #[.agg #[.int .i64 a0_0, .int .i64 a0_1, .int .i64 a0_2], .agg #[.int .i64 a1_0, .int .i64 a1_1]] w fun e w' => e = .returned (.agg #[.int .i64 r1, .int .i64 r2]) ∧ Below w.heap.size w w' := by
  have hu27 := Try.underlying27
  have hu25 := Try.underlying25
  have HB := Aside0.mk (Below.refl w.heap.size w)
  have H : ((impl_Turn_times.f k a1_0 a1_1 a0_2).bind fun bt366 => ((impl_Turn_plus.f k a0_0 a0_1 bt366.1 bt366.2).bind fun bt368 => (some (bt368.1, bt368.2)))) = some (r1, r2) := h
  clear h
  replace H := Option.bind_eq_some_iff.mp H
  obtain ⟨⟨t366, t367⟩, A30, H⟩ := H
  (try dsimp only at H)
  have A3 := Aside0.mk A30
  clear A30
  replace H := Option.bind_eq_some_iff.mp H
  obtain ⟨⟨t368, t369⟩, A40, H⟩ := H
  (try dsimp only at H)
  have A4 := Aside0.mk A40
  clear A40
  simp only [Option.some.injEq, Prod.mk.injEq] at H
  obtain ⟨rfl, rfl⟩ := H
  go_enter Try.func38, Try.ntmps38
  try go_wp2_with (first | ((with_reducible refine gate_dst (N := 2) rfl ?_); refine be #[.int .i64 a0_0, .int .i64 a0_1, .int .i64 a0_2] 27 ?_; intro gb363 hg w5 hbox hb; have BK363 := Aside0.mk hbox; have GW363 := zs HB hg; have GE363 := zs HB hg; replace HB := zB HB hb; clear hb hbox hg) | ((with_reducible refine gate_dst (N := 3) rfl ?_); refine be #[.int .i64 a1_0, .int .i64 a1_1] 25 ?_; intro gb364 hg w6 hbox hb; have BK364 := Aside0.mk hbox; have GW364 := zs HB hg; have GE364 := zs HB hg; have NB363_364 := zn BK363 hg; have NB364_363 := zm BK363 hg; replace BK363 := zb BK363 hb; replace HB := zB HB hb; clear hb hbox hg) | ((with_reducible refine gate_dst (N := 4) rfl ?_); refine be #[.int .i64 0, .int .i64 0] 25 ?_; intro gb365 hg w7 hbox hb; have BK365 := Aside0.mk hbox; have GW365 := zs HB hg; have GE365 := zs HB hg; have NB363_365 := zn BK363 hg; have NB365_363 := zm BK363 hg; have NB364_365 := zn BK364 hg; have NB365_364 := zm BK364 hg; replace BK363 := zb BK363 hb; replace BK364 := zb BK364 hb; replace HB := zB HB hb; clear hb hbox hg))
  replace BK363 := Aside0.mk (blk_drew BK363.1)
  replace BK364 := Aside0.mk (blk_drew BK364.1)
  replace BK365 := Aside0.mk (blk_drew BK365.1)
  replace HB := Aside0.mk (below_drew1 HB.1)
  refine start_ (n := 8) (S := fun w' => w'.cell? ⟨gb363, 0, none⟩ = some (.int .i64 a0_0) ∧ w'.cell? ⟨gb363, 1, none⟩ = some (.int .i64 a0_1) ∧ w'.cell? ⟨gb363, 2, none⟩ = some (.int .i64 a0_2) ∧ w'.cell? ⟨gb364, 0, none⟩ = some (.int .i64 a1_0) ∧ w'.cell? ⟨gb364, 1, none⟩ = some (.int .i64 a1_1)) (ds := []) (bs 8 0) (by kernel_rfl) rfl rfl ⟨(blk_cell BK363.1 0).trans rfl, (blk_cell BK363.1 1).trans rfl, (blk_cell BK363.1 2).trans rfl, (blk_cell BK364.1 0).trans rfl, (blk_cell BK364.1 1).trans rfl⟩ (fun hHeld => ?_); refine with_tabW impl_Hand_at.tab1 impl_Hand_at.bits1 (fun HT_ HW_ => ?_)
  generalize w7.drew = w8 at BK363 BK364 BK365 HB hHeld ⊢
  refine pu 0 5 HT_ rfl rfl (bs 8 1) ?_
  refine pu 3 8 HT_ rfl rfl (bs 8 9) ?_
  refine tk 1 6 HT_ HW_ hHeld rfl rfl (bs 8 11) ?_
  refine tk 2 7 HT_ HW_ hHeld rfl rfl (bs 8 15) ?_
  refine tk 4 9 HT_ HW_ hHeld rfl rfl (bs 8 31) ?_
  refine one_ (i := 5) (N := some 10) (bs 8 63) rfl rfl (one_of HT_.1 (by kernel_rfl)) (by decide) (fun K hK => ?_)
  refine gs Try.func60 #[.agg #[.int .i64 a1_0, .int .i64 a1_1], .int .i64 a0_2] ?_
  with_reducible refine (impl_Turn_times.calls k a1_0 a1_1 a0_2 t366 t367 _ A3.1).mono ?_
  rintro e w9 ⟨rfl, hb⟩
  refine ⟨_, rfl, ?_⟩
  replace BK363 := zb BK363 hb
  replace BK364 := zb BK364 hb
  replace BK365 := zb BK365 hb
  replace HB := zB HB hb
  (try clear hb)
  (try clear hb2)
  (try clear hk)
  (try clear hi)
  refine hK.out _ _ ⟨(blk_cell BK363.1 0).trans rfl, (blk_cell BK363.1 1).trans rfl, (blk_cell BK363.1 2).trans rfl, (blk_cell BK364.1 0).trans rfl, (blk_cell BK364.1 1).trans rfl⟩ (fun hHeld => ?_)
  clear hK K
  refine norm_ (aq 10) ?_
  refine one_ (i := 6) (N := some 11) (bs 8 127) rfl rfl (one_of HT_.1 (by kernel_rfl)) (by decide) (fun K hK => ?_)
  refine gs Try.func59 #[.agg #[.int .i64 a0_0, .int .i64 a0_1], .agg #[.int .i64 t366, .int .i64 t367]] ?_
  with_reducible refine (impl_Turn_plus.calls k a0_0 a0_1 t366 t367 t368 t369 _ A4.1).mono ?_
  rintro e w10 ⟨rfl, hb⟩
  refine ⟨_, rfl, ?_⟩
  replace BK363 := zb BK363 hb
  replace BK364 := zb BK364 hb
  replace BK365 := zb BK365 hb
  replace HB := zB HB hb
  (try clear hb)
  (try clear hb2)
  (try clear hk)
  (try clear hi)
  refine hK.out _ _ ⟨(blk_cell BK363.1 0).trans rfl, (blk_cell BK363.1 1).trans rfl, (blk_cell BK363.1 2).trans rfl, (blk_cell BK364.1 0).trans rfl, (blk_cell BK364.1 1).trans rfl⟩ (fun hHeld => ?_)
  clear hK K
  refine norm_ (aq 11) ?_
  refine one_ (i := 7) (N := none) (bs 8 255) rfl rfl (one_of HT_.1 (by kernel_rfl)) (by decide) (fun K hK => ?_)
  have hs11 : w10.cell? ⟨gb365, 0, none⟩ = some (.int .i64 0) := (blk_cell BK365.1 0).trans rfl
  have hfs11 := blk_frozen BK365.1 0
  have hns11_0 := NB363_365.1
  have hns11_1 := NB364_365.1
  have hms11_0 := NB365_363.1
  have hms11_1 := NB365_364.1
  have hs12 : w10.cell? ⟨gb365, 1, none⟩ = some (.int .i64 0) := (blk_cell BK365.1 1).trans rfl
  have hfs12 := blk_frozen BK365.1 1
  have hns12_0 := NB363_365.1
  have hns12_1 := NB364_365.1
  have hms12_0 := NB365_363.1
  have hms12_1 := NB365_364.1
  refine skip_ (w1 := ?_) (by rfl) rfl ?_ ?_
  rotate_left
  · go_simp
    rfl
  refine hK.out _ _ ⟨((cell_far (p := ⟨gb365, _, none⟩) NB363_365.1 _).trans (((cell_far (p := ⟨gb365, _, none⟩) NB363_365.1 _).trans (hHeld.1)))), ((cell_far (p := ⟨gb365, _, none⟩) NB363_365.1 _).trans (((cell_far (p := ⟨gb365, _, none⟩) NB363_365.1 _).trans (hHeld.2.1)))), ((cell_far (p := ⟨gb365, _, none⟩) NB363_365.1 _).trans (((cell_far (p := ⟨gb365, _, none⟩) NB363_365.1 _).trans (hHeld.2.2.1)))), ((cell_far (p := ⟨gb365, _, none⟩) NB364_365.1 _).trans (((cell_far (p := ⟨gb365, _, none⟩) NB364_365.1 _).trans (hHeld.2.2.2.1)))), ((cell_far (p := ⟨gb365, _, none⟩) NB364_365.1 _).trans (((cell_far (p := ⟨gb365, _, none⟩) NB364_365.1 _).trans (hHeld.2.2.2.2))))⟩ (fun hHeld => ?_)
  clear hK K
  refine done_ (done_of HT_.1 (by kernel_rfl)) ?_
  try go_wp2
  refine bodyPost_ret (results_cell_row rfl _ _ gb365 25 #[.int .i64 t368, .int .i64 t369] (0, 0) _ rfl (bk BK365) Try.underlying25 rfl (by kernel_rfl)) rfl ?_
  exact ⟨er, bq HB⟩

end Go.Proofs.Ytoneipoioiokcab.PFnHandsAhead
