/- A part of the walk of FnHandsMeet: which Lean function each Go function comes to, and that the machine's call does so. Written by a program of this repo (wip/gen/xprint.py). -/
import Derived.Test.YtoneipoioiokcaaPFnHandsMeetx0
import Derived.Test.YtoneipoioiokcaaPFnHandsMeetx2
import Derived.Test.YtoneipoioiokcaaPFnHandsMeetx3
namespace Go.Proofs.Ytoneipoioiokcaa.PFnHandsMeet
open Go.RowKit Go.Proofs.YtoneipoioiokcaaW.PrintWords Go.Proofs.YtoneipoioiokcaaW.PrintLast Go.Proofs.YtoneipoioiokcaaW.PrintMore
attribute [local go_sem] max2_int min2_int max_two min_two max_three min_three max_four min_four   -- for this text's walks alone
set_option linter.unusedVariables false
set_option linter.unusedSimpArgs false

/-! ### spec_l1Cur_turn: function 47 -/
def spec_l1Cur_turn.f (k : Nat) (s0_0 : List Int) (s0_1 : Int) (s0_2 : Int) : Option (Int × Int × Int × Int) := (spec_l1Cur_pick.f s0_0 s0_1 s0_2 16).bind fun bt134 => (if bt134.1 = 0 then ((spec_l1Cur_among.f s0_0 bt134.2.1 bt134.2.2 (([(-1), 0, 2, 5, 4611686018427387904] : List Int))).bind fun bt140 => ((spec_l1Cur_among.f s0_0 bt140.2.1 bt140.2.2 (([0, 1, 2, 4, 1000000, 1000001, (-3)] : List Int))).bind fun bt146 => (some (bt140.1, bt146.1, bt146.2.1, bt146.2.2)))) else (if bt134.1 = 1 then ((spec_l1Cur_among.f s0_0 bt134.2.1 bt134.2.2 (([1, 999999, 7] : List Int))).bind fun bt152 => (some (bt152.1, 1000000, bt152.2.1, bt152.2.2))) else (if bt134.1 = 2 then ((spec_l1Cur_pick.f s0_0 bt134.2.1 bt134.2.2 900000).bind fun bt155 => (some (wrap64 (1 + bt155.1), 999983, bt155.2.1, bt155.2.2))) else ((spec_l1Cur_sureTurn.f k s0_0 bt134.2.1 bt134.2.2).bind fun bt158 => (some (bt158.1, bt158.2.1, bt158.2.2.1, bt158.2.2.2))))))
theorem spec_l1Cur_turn.mono : ∀ a0 a1 a2 k, LeO (spec_l1Cur_turn.f k a0 a1 a2) (spec_l1Cur_turn.f (k + 1) a0 a1 a2) := by
  intro a0 a1 a2 k
  unfold spec_l1Cur_turn.f
  repeat' first
      | (with_reducible exact spec_l1Cur_sureTurn.mono _ _ _ _)
      | (with_reducible exact LeO.refl _)
      | (with_reducible exact LeO.none _)
      | (with_reducible refine LeO.ite ?_ ?_)
      | (with_reducible refine LeO.bind ?_ (fun _ => ?_))
      | exact spec_l1Cur_sureTurn.mono _ _ _ _
      | exact LeO.none _
      | refine LeO.ite ?_ ?_
      | refine LeO.bind ?_ (fun _ => ?_)
set_option maxHeartbeats 8000000 in
set_option maxRecDepth 100000 in
theorem spec_l1Cur_turn.calls (k : Nat) (g : Nat) (s0_0 : List Int) (s0_1 : Int) (s0_2 : Int) (r1 : Int) (r2 : Int) (r3 : Int) (r4 : Int) (w0 w : World) (hI : IsS63 w0 w g s0_0 s0_1 s0_2) (hB : Below w0.heap.size w0 w) (h : spec_l1Cur_turn.f k s0_0 s0_1 s0_2 = some (r1, r2, r3, r4)) :
    Calls Try.prog 47 #[.pointer (some ⟨g, 0, none⟩)] w fun e w' => e = .returned (.agg #[.int .i64 r1, .int .i64 r2]) ∧ IsS63 w0 w' g s0_0 r3 r4 ∧ Below w0.heap.size w0 w' ∧ KeepBut w w' g none := by
  have hu25 := Try.underlying25
  have HI0 := Aside0.mk hI
  have HK := Aside0.mk (KeepBut.refl w g none)
  have HL := Aside0.mk hB.size
  clear hI
  have HW0 := Aside0.mk hB.size
  have HB := Aside0.mk hB
  clear hB
  have H : ((spec_l1Cur_pick.f s0_0 s0_1 s0_2 16).bind fun bt134 => (if bt134.1 = 0 then ((spec_l1Cur_among.f s0_0 bt134.2.1 bt134.2.2 (([(-1), 0, 2, 5, 4611686018427387904] : List Int))).bind fun bt140 => ((spec_l1Cur_among.f s0_0 bt140.2.1 bt140.2.2 (([0, 1, 2, 4, 1000000, 1000001, (-3)] : List Int))).bind fun bt146 => (some (bt140.1, bt146.1, bt146.2.1, bt146.2.2)))) else (if bt134.1 = 1 then ((spec_l1Cur_among.f s0_0 bt134.2.1 bt134.2.2 (([1, 999999, 7] : List Int))).bind fun bt152 => (some (bt152.1, 1000000, bt152.2.1, bt152.2.2))) else (if bt134.1 = 2 then ((spec_l1Cur_pick.f s0_0 bt134.2.1 bt134.2.2 900000).bind fun bt155 => (some (wrap64 (1 + bt155.1), 999983, bt155.2.1, bt155.2.2))) else ((spec_l1Cur_sureTurn.f k s0_0 bt134.2.1 bt134.2.2).bind fun bt158 => (some (bt158.1, bt158.2.1, bt158.2.2.1, bt158.2.2.2))))))) = some (r1, r2, r3, r4) := h
  clear h
  replace H := Option.bind_eq_some_iff.mp H
  obtain ⟨⟨t134, t135, t136⟩, A20, H⟩ := H
  (try dsimp only at H)
  have A2 := Aside0.mk A20
  clear A20
  by_cases c3 : t134 = 0
  · rw [if_pos c3] at H
    have c3b0 : (t134 == 0) = true := beq_iff_eq.mpr c3
    have c3b1 : (t134 != 0) = false := bne_eq_false_iff_eq.mpr c3
    clear c3
    obtain ⟨y137, hy137⟩ : ∃ y_ : List Int, y_ = (([(-1), 0, 2, 5, 4611686018427387904] : List Int)) := ⟨_, rfl⟩
    replace H : ((spec_l1Cur_among.f s0_0 t135 t136 y137).bind fun bt140 => ((spec_l1Cur_among.f s0_0 bt140.2.1 bt140.2.2 (([0, 1, 2, 4, 1000000, 1000001, (-3)] : List Int))).bind fun bt146 => (some (bt140.1, bt146.1, bt146.2.1, bt146.2.2)))) = some (r1, r2, r3, r4) := by first | (rw [hy137]; with_reducible exact H) | (have H2_ := (Option.bind_some _ _).symm.trans H; rw [hy137]; with_reducible exact H2_) | (have H2_ := (Option.bind_some _ _).symm.trans H; with_reducible exact H2_) | with_reducible exact H | (rw [hy137]; exact H) | exact H
    have Ny137 := Aside0.mk hy137
    clear hy137
    replace H := Option.bind_eq_some_iff.mp H
    obtain ⟨⟨t140, t141, t142⟩, A40, H⟩ := H
    (try dsimp only at H)
    have A4 := Aside0.mk A40
    clear A40
    obtain ⟨y143, hy143⟩ : ∃ y_ : List Int, y_ = (([0, 1, 2, 4, 1000000, 1000001, (-3)] : List Int)) := ⟨_, rfl⟩
    replace H : ((spec_l1Cur_among.f s0_0 t141 t142 y143).bind fun bt146 => (some (t140, bt146.1, bt146.2.1, bt146.2.2))) = some (r1, r2, r3, r4) := by first | (rw [hy143]; with_reducible exact H) | (have H2_ := (Option.bind_some _ _).symm.trans H; rw [hy143]; with_reducible exact H2_) | (have H2_ := (Option.bind_some _ _).symm.trans H; with_reducible exact H2_) | with_reducible exact H | (rw [hy143]; exact H) | exact H
    have Ny143 := Aside0.mk hy143
    clear hy143
    replace H := Option.bind_eq_some_iff.mp H
    obtain ⟨⟨t146, t147, t148⟩, A50, H⟩ := H
    (try dsimp only at H)
    have A5 := Aside0.mk A50
    clear A50
    simp only [Option.some.injEq, Prod.mk.injEq] at H
    obtain ⟨rfl, rfl, rfl, rfl⟩ := H
    go_enter Try.func47, Try.ntmps47
    go_wp2_with (first | ((with_reducible refine gate_dst (N := 2) rfl ?_); refine be #[.int .i64 0, .int .i64 0] 25 ?_; intro gb133 hg w6 hbox hb; have GW133 := kz HK hg; have GE133 := kv HW0 (kz HK hg); have NB0_133 := Aside0.mk ((by rw [hg]; exact Nat.ne_of_lt (IsS63.lt (show IsS63 w0 _ g s0_0 s0_1 s0_2 from iq63 HI0)) : g ≠ gb133)); have NB133_0 := Aside0.mk NB0_133.1.symm; replace HI0 := iB63 HI0 hb; replace HK := kB HK hb; replace HB := zB63 HB hb; have BK133 := Aside0.mk hbox; clear hb hbox hg) | ((with_reducible refine gate_callee (f := 46) rfl ?_); refine gl (some 4) Try.func46 #[.pointer (some ⟨g, 0, none⟩), .int .i64 16] ?_; (with_reducible refine (spec_l1Cur_pick.calls g s0_0 s0_1 s0_2 16 t134 t135 t136 w0 _ ?side1 ?side2 A2.1).mono ?_); (case side1 => exact iq63 HI0); (case side2 => exact bq63 HB); rintro e w7 ⟨rfl, hi, hb, hk⟩; refine ⟨_, rfl, ?_⟩; replace BK133 := kb (o' := .cells #[.int .i64 0, .int .i64 0] 25 (0, 0)) BK133 hk NB133_0; replace HK := kT HK hk; replace HB := Aside0.mk hb; replace HI0 := Aside0.mk hi; clear hi hb hk) | ((with_reducible refine gate_dst (N := 8) rfl ?_); refine Kd.R_lit (Kd.int .i64) _ 3 ?hg (N := 8) ?hd (xs := ([(-1), 0, 2, 5, 4611686018427387904] : List Int)) (inner := [.int .i64 (-1), .int .i64 0, .int .i64 2, .int .i64 5, .int .i64 4611686018427387904]) (ok := fun _ => True) (okp := fun _ => True) ?hr ?hp (fun _ hk => hk) trivial (Below.refl _ _) (Nat.le_refl _) (by simp) ?_; (case hd => rfl); (case hg => rfl); (case hr => first | (go_simp; done) | (go_simp; rfl)); (case hp => exact (Reps.one (show Kd.M (Kd.int .i64) _ _ _ (-1) [.int .i64 (-1)] from rfl) (Reps.one (show Kd.M (Kd.int .i64) _ _ _ 0 [.int .i64 0] from rfl) (Reps.one (show Kd.M (Kd.int .i64) _ _ _ 2 [.int .i64 2] from rfl) (Reps.one (show Kd.M (Kd.int .i64) _ _ _ 5 [.int .i64 5] from rfl) (Reps.one (show Kd.M (Kd.int .i64) _ _ _ 4611686018427387904 [.int .i64 4611686018427387904] from rfl) (Reps.none _ _))))))); intro v138 w8 ho9 hb hg_ hnew_; clear hg_ hnew_; (first | rw [← Ny137.1] at ho9 | (simp only [Int.reduceToNat] at ho9; rw [← Ny137.1] at ho9)); have HO139 := Aside0.mk (Kd.R_lower ho9 (keep_size (w := w) (g := g) (row := none) (kq HK))); replace HI0 := iB63 HI0 hb; replace HK := kB HK hb; replace HB := zB63 HB hb; replace BK133 := zb BK133 hb; clear hb ho9; obtain ⟨Ao10, co10, eo10⟩ := Kd.R_slice HO139.1; subst eo10) | ((with_reducible refine gate_callee (f := 70) rfl ?_); refine gl (some 9) Try.func70 #[.pointer (some ⟨g, 0, none⟩), .slice Ao10 y137.length co10] ?_; (with_reducible refine (spec_l1Cur_among.calls g s0_0 t135 t136 _ _ y137 t140 t141 t142 w0 _ ?side1 ?side2 ?side3 ?side4 ?side5 A4.1).mono ?_); (case side1 => exact iq63 HI0); (case side2 => exact bq63 HB); (case side3 => repeat (first | exact (Kd.R_reads' HO139.1).2.2 | (with_reducible refine Kd.C_alloc ?_ _) | (with_reducible refine Kd.C_drewN ?_ _) | (with_reducible refine Kd.C_drew ?_))); (case side4 => exact (Kd.R_reads' HO139.1).2.1); (case side5 => exact far_slice (IsS63.own_ne HI0.1 HO139.1 (by decide))); rintro e w11 ⟨rfl, hi, hb, hk⟩; refine ⟨_, rfl, ?_⟩; replace BK133 := kb (o' := .cells #[.int .i64 0, .int .i64 0] 25 (0, 0)) BK133 hk NB133_0; replace HO139 := Aside0.mk (Kd.R_mono (Kd.R_keep (IsS63.apart (show IsS63 w0 _ g s0_0 t135 t136 from iq63 HI0) (rq HO139) (by decide)) hk (fun _ h => h.2)) (fun _ h => h.1)); replace HK := kT HK hk; replace HB := Aside0.mk hb; replace HI0 := Aside0.mk hi; clear hi hb hk) | ((with_reducible refine gate_dst (N := 11) rfl ?_); refine Kd.R_lit (Kd.int .i64) _ 3 ?hg (N := 11) ?hd (xs := ([0, 1, 2, 4, 1000000, 1000001, (-3)] : List Int)) (inner := [.int .i64 0, .int .i64 1, .int .i64 2, .int .i64 4, .int .i64 1000000, .int .i64 1000001, .int .i64 (-3)]) (ok := fun _ => True) (okp := fun _ => True) ?hr ?hp (fun _ hk => hk) trivial (Below.refl _ _) (Nat.le_refl _) (by simp) ?_; (case hd => rfl); (case hg => rfl); (case hr => first | (go_simp; done) | (go_simp; rfl)); (case hp => exact (Reps.one (show Kd.M (Kd.int .i64) _ _ _ 0 [.int .i64 0] from rfl) (Reps.one (show Kd.M (Kd.int .i64) _ _ _ 1 [.int .i64 1] from rfl) (Reps.one (show Kd.M (Kd.int .i64) _ _ _ 2 [.int .i64 2] from rfl) (Reps.one (show Kd.M (Kd.int .i64) _ _ _ 4 [.int .i64 4] from rfl) (Reps.one (show Kd.M (Kd.int .i64) _ _ _ 1000000 [.int .i64 1000000] from rfl) (Reps.one (show Kd.M (Kd.int .i64) _ _ _ 1000001 [.int .i64 1000001] from rfl) (Reps.one (show Kd.M (Kd.int .i64) _ _ _ (-3) [.int .i64 (-3)] from rfl) (Reps.none _ _))))))))); intro v144 w12 ho13 hb hg_ hnew_; clear hg_ hnew_; (first | rw [← Ny143.1] at ho13 | (simp only [Int.reduceToNat] at ho13; rw [← Ny143.1] at ho13)); have HO145 := Aside0.mk (Kd.R_lower (Kd.R_new' ho13 (Kd.R_lt (rq HO139))) (keep_size (w := w) (g := g) (row := none) (kq HK))); replace HO139 := Aside0.mk (Kd.R_elder' (rq HO139) (Kd.R_base ho13) hb); replace HI0 := iB63 HI0 hb; replace HK := kB HK hb; replace HB := zB63 HB hb; replace BK133 := zb BK133 hb; clear hb ho13; obtain ⟨Ao14, co14, eo14⟩ := Kd.R_slice HO145.1; subst eo14) | ((with_reducible refine gate_callee (f := 70) rfl ?_); refine gl (some 12) Try.func70 #[.pointer (some ⟨g, 0, none⟩), .slice Ao14 y143.length co14] ?_; (with_reducible refine (spec_l1Cur_among.calls g s0_0 t141 t142 _ _ y143 t146 t147 t148 w0 _ ?side1 ?side2 ?side3 ?side4 ?side5 A5.1).mono ?_); (case side1 => exact iq63 HI0); (case side2 => exact bq63 HB); (case side3 => repeat (first | exact (Kd.R_reads' HO145.1).2.2 | (with_reducible refine Kd.C_alloc ?_ _) | (with_reducible refine Kd.C_drewN ?_ _) | (with_reducible refine Kd.C_drew ?_))); (case side4 => exact (Kd.R_reads' HO145.1).2.1); (case side5 => exact far_slice (IsS63.own_ne HI0.1 HO145.1 (by decide))); rintro e w15 ⟨rfl, hi, hb, hk⟩; refine ⟨_, rfl, ?_⟩; replace BK133 := kb (o' := .cells #[.int .i64 0, .int .i64 0] 25 (0, 0)) BK133 hk NB133_0; replace HO139 := Aside0.mk (Kd.R_mono (Kd.R_keep (IsS63.apart (show IsS63 w0 _ g s0_0 t141 t142 from iq63 HI0) (rq HO139) (by decide)) hk (fun _ h => h.2)) (fun _ h => h.1)); replace HO145 := Aside0.mk (Kd.R_mono (Kd.R_keep (IsS63.apart (show IsS63 w0 _ g s0_0 t141 t142 from iq63 HI0) (rq HO145) (by decide)) hk (fun _ h => h.2)) (fun _ h => h.1)); replace HK := kT HK hk; replace HB := Aside0.mk hb; replace HI0 := Aside0.mk hi; clear hi hb hk; have hnb16 := NB133_0.1; have hnc16 := NB0_133.1; obtain ⟨hcz17_0, hcz17_1, hfz17_0, hfz17_1⟩ := zc2 BK133))
    refine bodyPost_ret (results_cell_row rfl _ _ gb133 25 #[.int .i64 t140, .int .i64 t146] (0, 0) _ rfl (bk BK133) Try.underlying25 rfl (by kernel_rfl)) rfl ?_
    exact ⟨er, iq63 HI0, bq63 HB, kq HK⟩
  rw [if_neg c3] at H
  have c3b0 : (t134 == 0) = false := beq_eq_false_iff_ne.mpr c3
  have c3b1 : (t134 != 0) = true := bne_iff_ne.mpr c3
  by_cases c18 : t134 = 1
  · rw [if_pos c18] at H
    have c18b0 : (t134 == 1) = true := beq_iff_eq.mpr c18
    have c18b1 : (t134 != 1) = false := bne_eq_false_iff_eq.mpr c18
    clear c18
    obtain ⟨y149, hy149⟩ : ∃ y_ : List Int, y_ = (([1, 999999, 7] : List Int)) := ⟨_, rfl⟩
    replace H : ((spec_l1Cur_among.f s0_0 t135 t136 y149).bind fun bt152 => (some (bt152.1, 1000000, bt152.2.1, bt152.2.2))) = some (r1, r2, r3, r4) := by first | (rw [hy149]; with_reducible exact H) | (have H2_ := (Option.bind_some _ _).symm.trans H; rw [hy149]; with_reducible exact H2_) | (have H2_ := (Option.bind_some _ _).symm.trans H; with_reducible exact H2_) | with_reducible exact H | (rw [hy149]; exact H) | exact H
    have Ny149 := Aside0.mk hy149
    clear hy149
    replace H := Option.bind_eq_some_iff.mp H
    obtain ⟨⟨t152, t153, t154⟩, A190, H⟩ := H
    (try dsimp only at H)
    have A19 := Aside0.mk A190
    clear A190
    simp only [Option.some.injEq, Prod.mk.injEq] at H
    obtain ⟨rfl, rfl, rfl, rfl⟩ := H
    go_enter Try.func47, Try.ntmps47
    go_wp2_with (first | ((with_reducible refine gate_dst (N := 2) rfl ?_); refine be #[.int .i64 0, .int .i64 0] 25 ?_; intro gb133 hg w20 hbox hb; have GW133 := kz HK hg; have GE133 := kv HW0 (kz HK hg); have NB0_133 := Aside0.mk ((by rw [hg]; exact Nat.ne_of_lt (IsS63.lt (show IsS63 w0 _ g s0_0 s0_1 s0_2 from iq63 HI0)) : g ≠ gb133)); have NB133_0 := Aside0.mk NB0_133.1.symm; replace HI0 := iB63 HI0 hb; replace HK := kB HK hb; replace HB := zB63 HB hb; have BK133 := Aside0.mk hbox; clear hb hbox hg) | ((with_reducible refine gate_callee (f := 46) rfl ?_); refine gl (some 4) Try.func46 #[.pointer (some ⟨g, 0, none⟩), .int .i64 16] ?_; (with_reducible refine (spec_l1Cur_pick.calls g s0_0 s0_1 s0_2 16 t134 t135 t136 w0 _ ?side1 ?side2 A2.1).mono ?_); (case side1 => exact iq63 HI0); (case side2 => exact bq63 HB); rintro e w21 ⟨rfl, hi, hb, hk⟩; refine ⟨_, rfl, ?_⟩; replace BK133 := kb (o' := .cells #[.int .i64 0, .int .i64 0] 25 (0, 0)) BK133 hk NB133_0; replace HK := kT HK hk; replace HB := Aside0.mk hb; replace HI0 := Aside0.mk hi; clear hi hb hk) | ((with_reducible refine gate_dst (N := 17) rfl ?_); refine Kd.R_lit (Kd.int .i64) _ 3 ?hg (N := 17) ?hd (xs := ([1, 999999, 7] : List Int)) (inner := [.int .i64 1, .int .i64 999999, .int .i64 7]) (ok := fun _ => True) (okp := fun _ => True) ?hr ?hp (fun _ hk => hk) trivial (Below.refl _ _) (Nat.le_refl _) (by simp) ?_; (case hd => rfl); (case hg => rfl); (case hr => first | (go_simp; done) | (go_simp; rfl)); (case hp => exact (Reps.one (show Kd.M (Kd.int .i64) _ _ _ 1 [.int .i64 1] from rfl) (Reps.one (show Kd.M (Kd.int .i64) _ _ _ 999999 [.int .i64 999999] from rfl) (Reps.one (show Kd.M (Kd.int .i64) _ _ _ 7 [.int .i64 7] from rfl) (Reps.none _ _))))); intro v150 w22 ho23 hb hg_ hnew_; clear hg_ hnew_; (first | rw [← Ny149.1] at ho23 | (simp only [Int.reduceToNat] at ho23; rw [← Ny149.1] at ho23)); have HO151 := Aside0.mk (Kd.R_lower ho23 (keep_size (w := w) (g := g) (row := none) (kq HK))); replace HI0 := iB63 HI0 hb; replace HK := kB HK hb; replace HB := zB63 HB hb; replace BK133 := zb BK133 hb; clear hb ho23; obtain ⟨Ao24, co24, eo24⟩ := Kd.R_slice HO151.1; subst eo24) | ((with_reducible refine gate_callee (f := 70) rfl ?_); refine gl (some 18) Try.func70 #[.pointer (some ⟨g, 0, none⟩), .slice Ao24 y149.length co24] ?_; (with_reducible refine (spec_l1Cur_among.calls g s0_0 t135 t136 _ _ y149 t152 t153 t154 w0 _ ?side1 ?side2 ?side3 ?side4 ?side5 A19.1).mono ?_); (case side1 => exact iq63 HI0); (case side2 => exact bq63 HB); (case side3 => repeat (first | exact (Kd.R_reads' HO151.1).2.2 | (with_reducible refine Kd.C_alloc ?_ _) | (with_reducible refine Kd.C_drewN ?_ _) | (with_reducible refine Kd.C_drew ?_))); (case side4 => exact (Kd.R_reads' HO151.1).2.1); (case side5 => exact far_slice (IsS63.own_ne HI0.1 HO151.1 (by decide))); rintro e w25 ⟨rfl, hi, hb, hk⟩; refine ⟨_, rfl, ?_⟩; replace BK133 := kb (o' := .cells #[.int .i64 0, .int .i64 0] 25 (0, 0)) BK133 hk NB133_0; replace HO151 := Aside0.mk (Kd.R_mono (Kd.R_keep (IsS63.apart (show IsS63 w0 _ g s0_0 t135 t136 from iq63 HI0) (rq HO151) (by decide)) hk (fun _ h => h.2)) (fun _ h => h.1)); replace HK := kT HK hk; replace HB := Aside0.mk hb; replace HI0 := Aside0.mk hi; clear hi hb hk; have hnb26 := NB133_0.1; have hnc26 := NB0_133.1; obtain ⟨hcz27_0, hcz27_1, hfz27_0, hfz27_1⟩ := zc2 BK133))
    refine bodyPost_ret (results_cell_row rfl _ _ gb133 25 #[.int .i64 t152, .int .i64 1000000] (0, 0) _ rfl (bk BK133) Try.underlying25 rfl (by kernel_rfl)) rfl ?_
    exact ⟨er, iq63 HI0, bq63 HB, kq HK⟩
  rw [if_neg c18] at H
  have c18b0 : (t134 == 1) = false := beq_eq_false_iff_ne.mpr c18
  have c18b1 : (t134 != 1) = true := bne_iff_ne.mpr c18
  by_cases c28 : t134 = 2
  · rw [if_pos c28] at H
    have c28b0 : (t134 == 2) = true := beq_iff_eq.mpr c28
    have c28b1 : (t134 != 2) = false := bne_eq_false_iff_eq.mpr c28
    clear c28
    replace H := Option.bind_eq_some_iff.mp H
    obtain ⟨⟨t155, t156, t157⟩, A290, H⟩ := H
    (try dsimp only at H)
    have A29 := Aside0.mk A290
    clear A290
    simp only [Option.some.injEq, Prod.mk.injEq] at H
    obtain ⟨rfl, rfl, rfl, rfl⟩ := H
    go_enter Try.func47, Try.ntmps47
    go_wp2_with (first | ((with_reducible refine gate_dst (N := 2) rfl ?_); refine be #[.int .i64 0, .int .i64 0] 25 ?_; intro gb133 hg w30 hbox hb; have GW133 := kz HK hg; have GE133 := kv HW0 (kz HK hg); have NB0_133 := Aside0.mk ((by rw [hg]; exact Nat.ne_of_lt (IsS63.lt (show IsS63 w0 _ g s0_0 s0_1 s0_2 from iq63 HI0)) : g ≠ gb133)); have NB133_0 := Aside0.mk NB0_133.1.symm; replace HI0 := iB63 HI0 hb; replace HK := kB HK hb; replace HB := zB63 HB hb; have BK133 := Aside0.mk hbox; clear hb hbox hg) | ((with_reducible refine gate_callee (f := 46) rfl ?_); refine gl (some 4) Try.func46 #[.pointer (some ⟨g, 0, none⟩), .int .i64 16] ?_; (with_reducible refine (spec_l1Cur_pick.calls g s0_0 s0_1 s0_2 16 t134 t135 t136 w0 _ ?side1 ?side2 A2.1).mono ?_); (case side1 => exact iq63 HI0); (case side2 => exact bq63 HB); rintro e w31 ⟨rfl, hi, hb, hk⟩; refine ⟨_, rfl, ?_⟩; replace BK133 := kb (o' := .cells #[.int .i64 0, .int .i64 0] 25 (0, 0)) BK133 hk NB133_0; replace HK := kT HK hk; replace HB := Aside0.mk hb; replace HI0 := Aside0.mk hi; clear hi hb hk) | ((with_reducible refine gate_callee (f := 46) rfl ?_); refine gl (some 23) Try.func46 #[.pointer (some ⟨g, 0, none⟩), .int .i64 900000] ?_; (with_reducible refine (spec_l1Cur_pick.calls g s0_0 t135 t136 900000 t155 t156 t157 w0 _ ?side1 ?side2 A29.1).mono ?_); (case side1 => exact iq63 HI0); (case side2 => exact bq63 HB); rintro e w32 ⟨rfl, hi, hb, hk⟩; refine ⟨_, rfl, ?_⟩; replace BK133 := kb (o' := .cells #[.int .i64 0, .int .i64 0] 25 (0, 0)) BK133 hk NB133_0; replace HK := kT HK hk; replace HB := Aside0.mk hb; replace HI0 := Aside0.mk hi; clear hi hb hk; have hnb33 := NB133_0.1; have hnc33 := NB0_133.1; obtain ⟨hcz34_0, hcz34_1, hfz34_0, hfz34_1⟩ := zc2 BK133))
    refine bodyPost_ret (results_cell_row rfl _ _ gb133 25 #[.int .i64 (wrap64 (1 + t155)), .int .i64 999983] (0, 0) _ rfl (bk BK133) Try.underlying25 rfl (by kernel_rfl)) rfl ?_
    exact ⟨er, iq63 HI0, bq63 HB, kq HK⟩
  rw [if_neg c28] at H
  have c28b0 : (t134 == 2) = false := beq_eq_false_iff_ne.mpr c28
  have c28b1 : (t134 != 2) = true := bne_iff_ne.mpr c28
  replace H := Option.bind_eq_some_iff.mp H
  obtain ⟨⟨t158, t159, t160, t161⟩, A350, H⟩ := H
  (try dsimp only at H)
  have A35 := Aside0.mk A350
  clear A350
  simp only [Option.some.injEq, Prod.mk.injEq] at H
  obtain ⟨rfl, rfl, rfl, rfl⟩ := H
  go_enter Try.func47, Try.ntmps47
  go_wp2_with (first | ((with_reducible refine gate_dst (N := 2) rfl ?_); refine be #[.int .i64 0, .int .i64 0] 25 ?_; intro gb133 hg w36 hbox hb; have GW133 := kz HK hg; have GE133 := kv HW0 (kz HK hg); have NB0_133 := Aside0.mk ((by rw [hg]; exact Nat.ne_of_lt (IsS63.lt (show IsS63 w0 _ g s0_0 s0_1 s0_2 from iq63 HI0)) : g ≠ gb133)); have NB133_0 := Aside0.mk NB0_133.1.symm; replace HI0 := iB63 HI0 hb; replace HK := kB HK hb; replace HB := zB63 HB hb; have BK133 := Aside0.mk hbox; clear hb hbox hg) | ((with_reducible refine gate_callee (f := 46) rfl ?_); refine gl (some 4) Try.func46 #[.pointer (some ⟨g, 0, none⟩), .int .i64 16] ?_; (with_reducible refine (spec_l1Cur_pick.calls g s0_0 s0_1 s0_2 16 t134 t135 t136 w0 _ ?side1 ?side2 A2.1).mono ?_); (case side1 => exact iq63 HI0); (case side2 => exact bq63 HB); rintro e w37 ⟨rfl, hi, hb, hk⟩; refine ⟨_, rfl, ?_⟩; replace BK133 := kb (o' := .cells #[.int .i64 0, .int .i64 0] 25 (0, 0)) BK133 hk NB133_0; replace HK := kT HK hk; replace HB := Aside0.mk hb; replace HI0 := Aside0.mk hi; clear hi hb hk) | ((with_reducible refine gate_callee (f := 69) rfl ?_); refine gl (some 27) Try.func69 #[.pointer (some ⟨g, 0, none⟩)] ?_; (with_reducible refine (spec_l1Cur_sureTurn.calls k g s0_0 t135 t136 t158 t159 t160 t161 w0 _ ?side1 ?side2 A35.1).mono ?_); (case side1 => exact iq63 HI0); (case side2 => exact bq63 HB); rintro e w38 ⟨rfl, hi, hb, hk⟩; refine ⟨_, rfl, ?_⟩; replace BK133 := kb (o' := .cells #[.int .i64 0, .int .i64 0] 25 (0, 0)) BK133 hk NB133_0; replace HK := kT HK hk; replace HB := Aside0.mk hb; replace HI0 := Aside0.mk hi; clear hi hb hk; have hnb39 := NB133_0.1; have hnc39 := NB0_133.1; obtain ⟨hcz40_0, hcz40_1, hfz40_0, hfz40_1⟩ := zc2 BK133))
  refine bodyPost_ret (results_cell_row rfl _ _ gb133 25 #[.int .i64 t158, .int .i64 t159] (0, 0) _ rfl (bk BK133) Try.underlying25 rfl (by kernel_rfl)) rfl ?_
  exact ⟨er, iq63 HI0, bq63 HB, kq HK⟩

/-! ### spec_l1Cur_hand: function 44 -/
def spec_l1Cur_hand.j0 : Nat → List Int → Int → Int → Int → Int → Int → Option (Int × Int × Int × Int × Int)
  | 0, _, _, _, _, _, _ => none
  | k + 1, x1000, x1001, x1002, x167000, x167001, x167002 => (spec_l1Cur_pick.f x1000 x1001 x1002 16).bind fun bt174 => (if bt174.1 = 0 then ((spec_l1Cur_turn.f k x1000 bt174.2.1 bt174.2.2).bind fun bt177 => (some (bt177.1, bt177.2.1, x167002, bt177.2.2.1, bt177.2.2.2))) else (if bt174.1 = 1 then ((spec_l1Cur_among.f x1000 bt174.2.1 bt174.2.2 (([(-401), (-400), 400, 401, 4611686018427387904] : List Int))).bind fun bt184 => (some (x167000, x167001, bt184.1, bt184.2.1, bt184.2.2))) else (some (x167000, x167001, x167002, bt174.2.1, bt174.2.2))))
def spec_l1Cur_hand.f (k : Nat) (s0_0 : List Int) (s0_1 : Int) (s0_2 : Int) : Option (Int × Int × Int × Int × Int) := (spec_l1Cur_pick.f s0_0 s0_1 s0_2 15).bind fun bt163 => ((spec_l1Cur_one.f s0_0 bt163.2.1 bt163.2.2 2).bind fun bt167 => (if bt167.1 = true then ((spec_l1Cur_sureTurn.f k s0_0 bt167.2.1 bt167.2.2).bind fun bt170 => (spec_l1Cur_hand.j0 k s0_0 bt170.2.2.1 bt170.2.2.2 bt170.1 bt170.2.1 (wrap64 (bt163.1 - 5)))) else (spec_l1Cur_hand.j0 k s0_0 bt167.2.1 bt167.2.2 0 1 (wrap64 (bt163.1 - 5)))))
theorem spec_l1Cur_hand.mono_l : ∀ k, (∀ y0 y1 y2 y3 y4 y5, LeO (spec_l1Cur_hand.j0 k y0 y1 y2 y3 y4 y5) (spec_l1Cur_hand.j0 (k + 1) y0 y1 y2 y3 y4 y5))
  | 0 => fun _ _ _ _ _ _ r h => by simp [spec_l1Cur_hand.j0] at h
  | k + 1 => by
    have ih0 := spec_l1Cur_hand.mono_l k
    intro y0 y1 y2 y3 y4 y5
    unfold spec_l1Cur_hand.j0
    repeat' first
    | (with_reducible exact ih0 _ _ _ _ _ _)
    | (with_reducible exact spec_l1Cur_sureTurn.mono _ _ _ _)
    | (with_reducible exact spec_l1Cur_turn.mono _ _ _ _)
    | (with_reducible exact LeO.refl _)
    | (with_reducible exact LeO.none _)
    | (with_reducible refine LeO.ite ?_ ?_)
    | (with_reducible refine LeO.bind ?_ (fun _ => ?_))
    | exact ih0 _ _ _ _ _ _
    | exact spec_l1Cur_sureTurn.mono _ _ _ _
    | exact spec_l1Cur_turn.mono _ _ _ _
    | exact LeO.none _
    | refine LeO.ite ?_ ?_
    | refine LeO.bind ?_ (fun _ => ?_)
theorem spec_l1Cur_hand.mono : ∀ a0 a1 a2 k, LeO (spec_l1Cur_hand.f k a0 a1 a2) (spec_l1Cur_hand.f (k + 1) a0 a1 a2) := by
  intro a0 a1 a2 k
  have ih0 := spec_l1Cur_hand.mono_l k
  unfold spec_l1Cur_hand.f
  repeat' first
      | (with_reducible exact ih0 _ _ _ _ _ _)
      | (with_reducible exact spec_l1Cur_sureTurn.mono _ _ _ _)
      | (with_reducible exact spec_l1Cur_turn.mono _ _ _ _)
      | (with_reducible exact LeO.refl _)
      | (with_reducible exact LeO.none _)
      | (with_reducible refine LeO.ite ?_ ?_)
      | (with_reducible refine LeO.bind ?_ (fun _ => ?_))
      | exact ih0 _ _ _ _ _ _
      | exact spec_l1Cur_sureTurn.mono _ _ _ _
      | exact spec_l1Cur_turn.mono _ _ _ _
      | exact LeO.none _
      | refine LeO.ite ?_ ?_
      | refine LeO.bind ?_ (fun _ => ?_)
set_option maxHeartbeats 8000000 in
set_option maxRecDepth 100000 in
theorem spec_l1Cur_hand.calls (k : Nat) (g : Nat) (s0_0 : List Int) (s0_1 : Int) (s0_2 : Int) (r1 : Int) (r2 : Int) (r3 : Int) (r4 : Int) (r5 : Int) (w0 w : World) (hI : IsS63 w0 w g s0_0 s0_1 s0_2) (hB : Below w0.heap.size w0 w) (h : spec_l1Cur_hand.f k s0_0 s0_1 s0_2 = some (r1, r2, r3, r4, r5)) :
    Calls Try.prog 44 #[.pointer (some ⟨g, 0, none⟩)] w fun e w' => e = .returned (.agg #[.int .i64 r1, .int .i64 r2, .int .i64 r3]) ∧ IsS63 w0 w' g s0_0 r4 r5 ∧ Below w0.heap.size w0 w' ∧ KeepBut w w' g none := by
  have hu27 := Try.underlying27
  have hu25 := Try.underlying25
  have HI0 := Aside0.mk hI
  have HK := Aside0.mk (KeepBut.refl w g none)
  have HL := Aside0.mk hB.size
  clear hI
  have HW0 := Aside0.mk hB.size
  have HB := Aside0.mk hB
  clear hB
  have H : ((spec_l1Cur_pick.f s0_0 s0_1 s0_2 15).bind fun bt163 => ((spec_l1Cur_one.f s0_0 bt163.2.1 bt163.2.2 2).bind fun bt167 => (if bt167.1 = true then ((spec_l1Cur_sureTurn.f k s0_0 bt167.2.1 bt167.2.2).bind fun bt170 => (spec_l1Cur_hand.j0 k s0_0 bt170.2.2.1 bt170.2.2.2 bt170.1 bt170.2.1 (wrap64 (bt163.1 - 5)))) else (spec_l1Cur_hand.j0 k s0_0 bt167.2.1 bt167.2.2 0 1 (wrap64 (bt163.1 - 5)))))) = some (r1, r2, r3, r4, r5) := h
  clear h
  replace H := Option.bind_eq_some_iff.mp H
  obtain ⟨⟨t163, t164, t165⟩, A20, H⟩ := H
  (try dsimp only at H)
  have A2 := Aside0.mk A20
  clear A20
  replace H := Option.bind_eq_some_iff.mp H
  obtain ⟨⟨t167, t168, t169⟩, A30, H⟩ := H
  (try dsimp only at H)
  have A3 := Aside0.mk A30
  clear A30
  have HC4 := Aside0.mk H
  clear H
  go_enter Try.func44, Try.ntmps44
  go_upto_if 10 with (first | ((with_reducible refine gate_dst (N := 2) rfl ?_); refine be #[.int .i64 0, .int .i64 0, .int .i64 0] 27 ?_; intro gb162 hg w5 hbox hb; have GW162 := kz HK hg; have GE162 := kv HW0 (kz HK hg); have NB0_162 := Aside0.mk ((by rw [hg]; exact Nat.ne_of_lt (IsS63.lt (show IsS63 w0 _ g s0_0 s0_1 s0_2 from iq63 HI0)) : g ≠ gb162)); have NB162_0 := Aside0.mk NB0_162.1.symm; replace HI0 := iB63 HI0 hb; replace HK := kB HK hb; replace HB := zB63 HB hb; have BK162 := Aside0.mk hbox; clear hb hbox hg) | ((with_reducible refine gate_callee (f := 46) rfl ?_); refine gl (some 6) Try.func46 #[.pointer (some ⟨g, 0, none⟩), .int .i64 15] ?_; (with_reducible refine (spec_l1Cur_pick.calls g s0_0 s0_1 s0_2 15 t163 t164 t165 w0 _ ?side1 ?side2 A2.1).mono ?_); (case side1 => exact iq63 HI0); (case side2 => exact bq63 HB); rintro e w6 ⟨rfl, hi, hb, hk⟩; refine ⟨_, rfl, ?_⟩; replace BK162 := kb (o' := .cells #[.int .i64 0, .int .i64 0, .int .i64 0] 27 (0, 0)) BK162 hk NB162_0; replace HK := kT HK hk; replace HB := Aside0.mk hb; replace HI0 := Aside0.mk hi; clear hi hb hk) | ((with_reducible refine gate_dst (N := 3) rfl ?_); refine be #[.int .i64 0, .int .i64 0, .int .i64 0] 27 ?_; intro gb166 hg w7 hbox hb; have GW166 := kz HK hg; have GE166 := kv HW0 (kz HK hg); have NB0_166 := Aside0.mk ((by rw [hg]; exact Nat.ne_of_lt (IsS63.lt (show IsS63 w0 _ g s0_0 t164 t165 from iq63 HI0)) : g ≠ gb166)); have NB166_0 := Aside0.mk NB0_166.1.symm; replace HI0 := iB63 HI0 hb; replace HK := kB HK hb; replace HB := zB63 HB hb; have BK166 := Aside0.mk hbox; have NB162_166 := zn BK162 hg; have NB166_162 := zm BK162 hg; replace BK162 := zb BK162 hb; clear hb hbox hg; have hnb8 := NB166_162.1; have hnc8 := NB162_166.1; have hnb9 := NB166_0.1; have hnc9 := NB0_166.1; obtain ⟨hcz10_0, hcz10_1, hcz10_2, hfz10_0, hfz10_1, hfz10_2⟩ := zc3 BK166) | ((with_reducible refine gate_callee (f := 45) rfl ?_); refine gl (some 10) Try.func45 #[.pointer (some ⟨g, 0, none⟩), .int .i64 2] ?_; (with_reducible refine (spec_l1Cur_one.calls g s0_0 t164 t165 2 t167 t168 t169 w0 _ ?side1 ?side2 A3.1).mono ?_); (case side1 => exact iq63 HI0); (case side2 => exact bq63 HB); rintro e w11 ⟨rfl, hi, hb, hk⟩; refine ⟨_, rfl, ?_⟩; replace BK162 := kb (o' := .cells #[.int .i64 0, .int .i64 0, .int .i64 0] 27 (0, 0)) BK162 hk NB162_0; replace BK166 := kb (o' := .cells #[.int .i64 0, .int .i64 1, .int .i64 (wrap64 (t163 - 5))] 27 (0, 0)) BK166 hk NB166_0; replace HK := kT HK hk; replace HB := Aside0.mk hb; replace HI0 := Aside0.mk hi; clear hi hb hk))
  (try simp only [Act.put, List.setIfInBounds_toArray, List.set_cons_zero, List.set_cons_succ])
  go_cut [] (fun wc => ∃ (kq : Nat) (x1001_3 : Int) (x1002_3 : Int) (x167000_3 : Int) (x167001_3 : Int), Aside0 (spec_l1Cur_hand.j0 kq s0_0 x1001_3 x1002_3 x167000_3 x167001_3 (wrap64 (t163 - 5)) = some (r1, r2, r3, r4, r5)) ∧ Aside0 (kq ≤ k) ∧ Aside0 (wc.heap[gb162]? = some (.cells #[.int .i64 0, .int .i64 0, .int .i64 0] 27 (0, 0))) ∧ Aside0 (wc.heap[gb166]? = some (.cells #[.int .i64 x167000_3, .int .i64 x167001_3, .int .i64 (wrap64 (t163 - 5))] 27 (0, 0))) ∧ Aside0 (IsS63 w0 wc g s0_0 x1001_3 x1002_3) ∧ Aside0 (KeepBut w wc g none) ∧ Aside0 (Below w0.heap.size w0 wc))
  case first =>
    have H := HC4.1
    clear HC4
    by_cases c12 : t167 = true
    · subst c12
      rw [if_pos rfl] at H
      replace H := Option.bind_eq_some_iff.mp H
      obtain ⟨⟨t170, t171, t172, t173⟩, A130, H⟩ := H
      (try dsimp only at H)
      have A13 := Aside0.mk A130
      clear A130
      have H' := Aside0.mk H
      clear H
      go_wp2_with (first | ((with_reducible refine gate_callee (f := 69) rfl ?_); refine gl (some 12) Try.func69 #[.pointer (some ⟨g, 0, none⟩)] ?_; (with_reducible refine (spec_l1Cur_sureTurn.calls k g s0_0 t168 t169 t170 t171 t172 t173 w0 _ ?side1 ?side2 A13.1).mono ?_); (case side1 => exact iq63 HI0); (case side2 => exact bq63 HB); rintro e w14 ⟨rfl, hi, hb, hk⟩; refine ⟨_, rfl, ?_⟩; replace BK162 := kb (o' := .cells #[.int .i64 0, .int .i64 0, .int .i64 0] 27 (0, 0)) BK162 hk NB162_0; replace BK166 := kb (o' := .cells #[.int .i64 0, .int .i64 1, .int .i64 (wrap64 (t163 - 5))] 27 (0, 0)) BK166 hk NB166_0; replace HK := kT HK hk; replace HB := Aside0.mk hb; replace HI0 := Aside0.mk hi; clear hi hb hk; have hnb15 := NB166_162.1; have hnc15 := NB162_166.1; have hnb16 := NB166_0.1; have hnc16 := NB0_166.1; obtain ⟨hcz17_0, hcz17_1, hcz17_2, hfz17_0, hfz17_1, hfz17_2⟩ := zc3 BK166))
      go_meet
      case rel => exact ⟨_, (t172), (t173), (t170), (t171), H', le_, ⟨bk BK162⟩, ⟨bk BK166⟩, ⟨iq63 HI0⟩, ⟨kq HK⟩, ⟨bq63 HB⟩⟩
    replace c12 := Bool.eq_false_iff.mpr c12
    subst c12
    rw [if_neg (show ¬ (false = true) by decide)] at H
    have H' := Aside0.mk H
    clear H
    go_wp2
    go_meet
    case rel => exact ⟨_, (t168), (t169), (0), (1), H', le_, ⟨bk BK162⟩, ⟨bk BK166⟩, ⟨iq63 HI0⟩, ⟨kq HK⟩, ⟨bq63 HB⟩⟩
  clear HC4
  try clear hcz10_0
  try clear hcz10_1
  try clear hcz10_2
  try clear hfz10_0
  try clear hfz10_1
  try clear hfz10_2
  obtain ⟨kq, x1001_3, x1002_3, x167000_3, x167001_3, HA, HJ3, BK162, BK166, HI0, HK, HB⟩ := hcut
  cases kq with
  | zero => exact absurd HA.1 (by simp [spec_l1Cur_hand.j0])
  | succ kj3 =>
    have H := HA.1
    clear HA
    simp only [spec_l1Cur_hand.j0] at H
    replace H := Option.bind_eq_some_iff.mp H
    obtain ⟨⟨t174, t175, t176⟩, A180, H⟩ := H
    (try dsimp only at H)
    have A18 := Aside0.mk A180
    clear A180
    by_cases c19 : t174 = 0
    · rw [if_pos c19] at H
      have c19b0 : (t174 == 0) = true := beq_iff_eq.mpr c19
      have c19b1 : (t174 != 0) = false := bne_eq_false_iff_eq.mpr c19
      clear c19
      replace H := Option.bind_eq_some_iff.mp H
      obtain ⟨⟨t177, t178, t179, t180⟩, A200, H⟩ := H
      (try dsimp only at H)
      have A20 := Aside0.mk A200
      clear A200
      simp only [Option.some.injEq, Prod.mk.injEq] at H
      obtain ⟨rfl, rfl, rfl, rfl, rfl⟩ := H
      go_wp2_with (first | ((with_reducible refine gate_callee (f := 46) rfl ?_); refine gl (some 15) Try.func46 #[.pointer (some ⟨g, 0, none⟩), .int .i64 16] ?_; (with_reducible refine (spec_l1Cur_pick.calls g s0_0 x1001_3 x1002_3 16 t174 t175 t176 w0 _ ?side1 ?side2 A18.1).mono ?_); (case side1 => exact iq63 HI0); (case side2 => exact bq63 HB); rintro e w21 ⟨rfl, hi, hb, hk⟩; refine ⟨_, rfl, ?_⟩; replace BK162 := kb (o' := .cells #[.int .i64 0, .int .i64 0, .int .i64 0] 27 (0, 0)) BK162 hk NB162_0; replace BK166 := kb (o' := .cells #[.int .i64 x167000_3, .int .i64 x167001_3, .int .i64 (wrap64 (t163 - 5))] 27 (0, 0)) BK166 hk NB166_0; replace HK := kT HK hk; replace HB := Aside0.mk hb; replace HI0 := Aside0.mk hi; clear hi hb hk) | ((with_reducible refine gate_callee (f := 47) rfl ?_); refine gl (some 19) Try.func47 #[.pointer (some ⟨g, 0, none⟩)] ?_; (with_reducible refine (spec_l1Cur_turn.calls kj3 g s0_0 t175 t176 t177 t178 t179 t180 w0 _ ?side1 ?side2 A20.1).mono ?_); (case side1 => exact iq63 HI0); (case side2 => exact bq63 HB); rintro e w22 ⟨rfl, hi, hb, hk⟩; refine ⟨_, rfl, ?_⟩; replace BK162 := kb (o' := .cells #[.int .i64 0, .int .i64 0, .int .i64 0] 27 (0, 0)) BK162 hk NB162_0; replace BK166 := kb (o' := .cells #[.int .i64 x167000_3, .int .i64 x167001_3, .int .i64 (wrap64 (t163 - 5))] 27 (0, 0)) BK166 hk NB166_0; replace HK := kT HK hk; replace HB := Aside0.mk hb; replace HI0 := Aside0.mk hi; clear hi hb hk; have hnb23 := NB166_162.1; have hnc23 := NB162_166.1; have hnb24 := NB166_0.1; have hnc24 := NB0_166.1; obtain ⟨hcz25_0, hcz25_1, hcz25_2, hfz25_0, hfz25_1, hfz25_2⟩ := zc3 BK166; have hnb26 := NB162_0.1; have hnc26 := NB0_162.1; obtain ⟨hcz27_0, hcz27_1, hcz27_2, hfz27_0, hfz27_1, hfz27_2⟩ := zc3 BK162))
      refine bodyPost_ret (results_cell_row rfl _ _ gb162 27 #[.int .i64 t177, .int .i64 t178, .int .i64 (wrap64 (t163 - 5))] (0, 0) _ rfl (bk BK162) Try.underlying27 rfl (by kernel_rfl)) rfl ?_
      exact ⟨er, iq63 HI0, bq63 HB, kq HK⟩
    rw [if_neg c19] at H
    have c19b0 : (t174 == 0) = false := beq_eq_false_iff_ne.mpr c19
    have c19b1 : (t174 != 0) = true := bne_iff_ne.mpr c19
    by_cases c28 : t174 = 1
    · rw [if_pos c28] at H
      have c28b0 : (t174 == 1) = true := beq_iff_eq.mpr c28
      have c28b1 : (t174 != 1) = false := bne_eq_false_iff_eq.mpr c28
      clear c28
      obtain ⟨y181, hy181⟩ : ∃ y_ : List Int, y_ = (([(-401), (-400), 400, 401, 4611686018427387904] : List Int)) := ⟨_, rfl⟩
      replace H : ((spec_l1Cur_among.f s0_0 t175 t176 y181).bind fun bt184 => (some (x167000_3, x167001_3, bt184.1, bt184.2.1, bt184.2.2))) = some (r1, r2, r3, r4, r5) := by first | (rw [hy181]; with_reducible exact H) | (have H2_ := (Option.bind_some _ _).symm.trans H; rw [hy181]; with_reducible exact H2_) | (have H2_ := (Option.bind_some _ _).symm.trans H; with_reducible exact H2_) | with_reducible exact H | (rw [hy181]; exact H) | exact H
      have Ny181 := Aside0.mk hy181
      clear hy181
      replace H := Option.bind_eq_some_iff.mp H
      obtain ⟨⟨t184, t185, t186⟩, A290, H⟩ := H
      (try dsimp only at H)
      have A29 := Aside0.mk A290
      clear A290
      simp only [Option.some.injEq, Prod.mk.injEq] at H
      obtain ⟨rfl, rfl, rfl, rfl, rfl⟩ := H
      go_wp2_with (first | ((with_reducible refine gate_callee (f := 46) rfl ?_); refine gl (some 15) Try.func46 #[.pointer (some ⟨g, 0, none⟩), .int .i64 16] ?_; (with_reducible refine (spec_l1Cur_pick.calls g s0_0 x1001_3 x1002_3 16 t174 t175 t176 w0 _ ?side1 ?side2 A18.1).mono ?_); (case side1 => exact iq63 HI0); (case side2 => exact bq63 HB); rintro e w30 ⟨rfl, hi, hb, hk⟩; refine ⟨_, rfl, ?_⟩; replace BK162 := kb (o' := .cells #[.int .i64 0, .int .i64 0, .int .i64 0] 27 (0, 0)) BK162 hk NB162_0; replace BK166 := kb (o' := .cells #[.int .i64 x167000_3, .int .i64 x167001_3, .int .i64 (wrap64 (t163 - 5))] 27 (0, 0)) BK166 hk NB166_0; replace HK := kT HK hk; replace HB := Aside0.mk hb; replace HI0 := Aside0.mk hi; clear hi hb hk) | ((with_reducible refine gate_dst (N := 24) rfl ?_); refine Kd.R_lit (Kd.int .i64) _ 3 ?hg (N := 24) ?hd (xs := ([(-401), (-400), 400, 401, 4611686018427387904] : List Int)) (inner := [.int .i64 (-401), .int .i64 (-400), .int .i64 400, .int .i64 401, .int .i64 4611686018427387904]) (ok := fun _ => True) (okp := fun _ => True) ?hr ?hp (fun _ hk => hk) trivial (Below.refl _ _) (Nat.le_refl _) (by simp) ?_; (case hd => rfl); (case hg => rfl); (case hr => first | (go_simp; done) | (go_simp; rfl)); (case hp => exact (Reps.one (show Kd.M (Kd.int .i64) _ _ _ (-401) [.int .i64 (-401)] from rfl) (Reps.one (show Kd.M (Kd.int .i64) _ _ _ (-400) [.int .i64 (-400)] from rfl) (Reps.one (show Kd.M (Kd.int .i64) _ _ _ 400 [.int .i64 400] from rfl) (Reps.one (show Kd.M (Kd.int .i64) _ _ _ 401 [.int .i64 401] from rfl) (Reps.one (show Kd.M (Kd.int .i64) _ _ _ 4611686018427387904 [.int .i64 4611686018427387904] from rfl) (Reps.none _ _))))))); intro v182 w31 ho32 hb hg_ hnew_; clear hg_ hnew_; (first | rw [← Ny181.1] at ho32 | (simp only [Int.reduceToNat] at ho32; rw [← Ny181.1] at ho32)); have HO183 := Aside0.mk (Kd.R_lower ho32 (keep_size (w := w) (g := g) (row := none) (kq HK))); replace HI0 := iB63 HI0 hb; replace HK := kB HK hb; replace HB := zB63 HB hb; replace BK162 := zb BK162 hb; replace BK166 := zb BK166 hb; clear hb ho32; obtain ⟨Ao33, co33, eo33⟩ := Kd.R_slice HO183.1; subst eo33) | ((with_reducible refine gate_callee (f := 70) rfl ?_); refine gl (some 25) Try.func70 #[.pointer (some ⟨g, 0, none⟩), .slice Ao33 y181.length co33] ?_; (with_reducible refine (spec_l1Cur_among.calls g s0_0 t175 t176 _ _ y181 t184 t185 t186 w0 _ ?side1 ?side2 ?side3 ?side4 ?side5 A29.1).mono ?_); (case side1 => exact iq63 HI0); (case side2 => exact bq63 HB); (case side3 => repeat (first | exact (Kd.R_reads' HO183.1).2.2 | (with_reducible refine Kd.C_alloc ?_ _) | (with_reducible refine Kd.C_drewN ?_ _) | (with_reducible refine Kd.C_drew ?_))); (case side4 => exact (Kd.R_reads' HO183.1).2.1); (case side5 => exact far_slice (IsS63.own_ne HI0.1 HO183.1 (by decide))); rintro e w34 ⟨rfl, hi, hb, hk⟩; refine ⟨_, rfl, ?_⟩; replace BK162 := kb (o' := .cells #[.int .i64 0, .int .i64 0, .int .i64 0] 27 (0, 0)) BK162 hk NB162_0; replace BK166 := kb (o' := .cells #[.int .i64 x167000_3, .int .i64 x167001_3, .int .i64 (wrap64 (t163 - 5))] 27 (0, 0)) BK166 hk NB166_0; replace HO183 := Aside0.mk (Kd.R_mono (Kd.R_keep (IsS63.apart (show IsS63 w0 _ g s0_0 t175 t176 from iq63 HI0) (rq HO183) (by decide)) hk (fun _ h => h.2)) (fun _ h => h.1)); replace HK := kT HK hk; replace HB := Aside0.mk hb; replace HI0 := Aside0.mk hi; clear hi hb hk; have hnb35 := NB166_162.1; have hnc35 := NB162_166.1; have hnb36 := NB166_0.1; have hnc36 := NB0_166.1; obtain ⟨hcz37_0, hcz37_1, hcz37_2, hfz37_0, hfz37_1, hfz37_2⟩ := zc3 BK166; have hnb38 := NB162_0.1; have hnc38 := NB0_162.1; obtain ⟨hcz39_0, hcz39_1, hcz39_2, hfz39_0, hfz39_1, hfz39_2⟩ := zc3 BK162))
      refine bodyPost_ret (results_cell_row rfl _ _ gb162 27 #[.int .i64 x167000_3, .int .i64 x167001_3, .int .i64 t184] (0, 0) _ rfl (bk BK162) Try.underlying27 rfl (by kernel_rfl)) rfl ?_
      exact ⟨er, iq63 HI0, bq63 HB, kq HK⟩
    rw [if_neg c28] at H
    have c28b0 : (t174 == 1) = false := beq_eq_false_iff_ne.mpr c28
    have c28b1 : (t174 != 1) = true := bne_iff_ne.mpr c28
    simp only [Option.some.injEq, Prod.mk.injEq] at H
    obtain ⟨rfl, rfl, rfl, rfl, rfl⟩ := H
    go_wp2_with (first | ((with_reducible refine gate_callee (f := 46) rfl ?_); refine gl (some 15) Try.func46 #[.pointer (some ⟨g, 0, none⟩), .int .i64 16] ?_; (with_reducible refine (spec_l1Cur_pick.calls g s0_0 x1001_3 x1002_3 16 t174 t175 t176 w0 _ ?side1 ?side2 A18.1).mono ?_); (case side1 => exact iq63 HI0); (case side2 => exact bq63 HB); rintro e w40 ⟨rfl, hi, hb, hk⟩; refine ⟨_, rfl, ?_⟩; replace BK162 := kb (o' := .cells #[.int .i64 0, .int .i64 0, .int .i64 0] 27 (0, 0)) BK162 hk NB162_0; replace BK166 := kb (o' := .cells #[.int .i64 x167000_3, .int .i64 x167001_3, .int .i64 (wrap64 (t163 - 5))] 27 (0, 0)) BK166 hk NB166_0; replace HK := kT HK hk; replace HB := Aside0.mk hb; replace HI0 := Aside0.mk hi; clear hi hb hk; have hnb41 := NB166_162.1; have hnc41 := NB162_166.1; have hnb42 := NB166_0.1; have hnc42 := NB0_166.1; obtain ⟨hcz43_0, hcz43_1, hcz43_2, hfz43_0, hfz43_1, hfz43_2⟩ := zc3 BK166; have hnb44 := NB162_0.1; have hnc44 := NB0_162.1; obtain ⟨hcz45_0, hcz45_1, hcz45_2, hfz45_0, hfz45_1, hfz45_2⟩ := zc3 BK162))
    refine bodyPost_ret (results_cell_row rfl _ _ gb162 27 #[.int .i64 x167000_3, .int .i64 x167001_3, .int .i64 (wrap64 (t163 - 5))] (0, 0) _ rfl (bk BK162) Try.underlying27 rfl (by kernel_rfl)) rfl ?_
    exact ⟨er, iq63 HI0, bq63 HB, kq HK⟩

end Go.Proofs.Ytoneipoioiokcaa.PFnHandsMeet
