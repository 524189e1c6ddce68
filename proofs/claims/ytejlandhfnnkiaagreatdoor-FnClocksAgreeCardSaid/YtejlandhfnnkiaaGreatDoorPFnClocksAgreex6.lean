/- A part of the walk of FnClocksAgree: which Lean function each Go function comes to, and that the machine's call does so. Written by a program of this repo (wip/gen/xprint.py). -/
import Derived.Test.YtejlandhfnnkiaaGreatDoorPFnClocksAgreex0
import Derived.Test.YtejlandhfnnkiaaGreatDoorPFnClocksAgreex4
import Derived.Test.YtejlandhfnnkiaaGreatDoorPFnClocksAgreex5
namespace Go.Proofs.YtejlandhfnnkiaaGreatDoor.PFnClocksAgree
open Go.RowKit Go.Proofs.YtejlandhfnnkiaaGreatDoorW.PrintWords Go.Proofs.YtejlandhfnnkiaaGreatDoorW.PrintLast Go.Proofs.YtejlandhfnnkiaaGreatDoorW.PrintMore
attribute [local go_sem] max2_int min2_int max_two min_two max_three min_three max_four min_four   -- for this text's walks alone
set_option linter.unusedVariables false
set_option linter.unusedSimpArgs false

/-! ### spec_l1Cur_clock: function 74 -/
def spec_l1Cur_clock.f (k : Nat) (s0_0 : List Int) (s0_1 : Int) (s0_2 : Int) : Option (Int × Int × Int × Int × Int × Int) := (spec_l1Cur_sureTurn.f k s0_0 s0_1 s0_2).bind fun bt160 => ((spec_l1Cur_pick.f s0_0 bt160.2.2.1 bt160.2.2.2 50).bind fun bt165 => ((spec_l1Cur_among.f s0_0 bt165.2.1 bt165.2.2 (([73, 71, 72, 1, 2, 3, 100, 999, 1000, wrap64 (1 + bt165.1)] : List Int))).bind fun bt171 => ((spec_l1Cur_pick.f s0_0 bt171.2.1 bt171.2.2 50).bind fun bt174 => ((spec_l1Cur_among.f s0_0 bt174.2.1 bt174.2.2 (([72, 72, 72, 1, 3, 99, 1000, wrap64 (1 + bt174.1)] : List Int))).bind fun bt180 => ((spec_diCommon.f k bt171.1 bt180.1).bind fun t183 => (if t183 = 0 then (none) else ((spec_l1Cur_pick.f s0_0 bt180.2.1 bt180.2.2 16).bind fun bt184 => (if bt184.1 = 0 then ((spec_l1Cur_among.f s0_0 bt184.2.1 bt184.2.2 (([0, (-1), 1000, 1001, 4611686018427387904] : List Int))).bind fun bt190 => (some (bt160.1, bt160.2.1, bt190.1, wrap64 (Int.tdiv bt180.1 t183), bt190.2.1, bt190.2.2))) else (if bt184.1 = 1 then ((spec_l1Cur_turn.f k s0_0 bt184.2.1 bt184.2.2).bind fun bt193 => (some (bt193.1, bt193.2.1, wrap64 (Int.tdiv bt171.1 t183), wrap64 (Int.tdiv bt180.1 t183), bt193.2.2.1, bt193.2.2.2))) else (some (bt160.1, bt160.2.1, wrap64 (Int.tdiv bt171.1 t183), wrap64 (Int.tdiv bt180.1 t183), bt184.2.1, bt184.2.2)))))))))))
theorem spec_l1Cur_clock.mono : ∀ a0 a1 a2 k, LeO (spec_l1Cur_clock.f k a0 a1 a2) (spec_l1Cur_clock.f (k + 1) a0 a1 a2) := by
  intro a0 a1 a2 k
  unfold spec_l1Cur_clock.f
  repeat' first
      | (with_reducible exact spec_diCommon.mono _ _ _)
      | (with_reducible exact spec_l1Cur_sureTurn.mono _ _ _ _)
      | (with_reducible exact spec_l1Cur_turn.mono _ _ _ _)
      | (with_reducible exact LeO.refl _)
      | (with_reducible exact LeO.none _)
      | (with_reducible refine LeO.ite ?_ ?_)
      | (with_reducible refine LeO.bind ?_ (fun _ => ?_))
      | exact spec_diCommon.mono _ _ _
      | exact spec_l1Cur_sureTurn.mono _ _ _ _
      | exact spec_l1Cur_turn.mono _ _ _ _
      | exact LeO.none _
      | refine LeO.ite ?_ ?_
      | refine LeO.bind ?_ (fun _ => ?_)
set_option maxHeartbeats 8000000 in
set_option maxRecDepth 100000 in
theorem spec_l1Cur_clock.calls (k : Nat) (g : Nat) (s0_0 : List Int) (s0_1 : Int) (s0_2 : Int) (r1 : Int) (r2 : Int) (r3 : Int) (r4 : Int) (r5 : Int) (r6 : Int) (w0 w : World) (hI : IsS66 w0 w g s0_0 s0_1 s0_2) (hB : Below w0.heap.size w0 w) (h : spec_l1Cur_clock.f k s0_0 s0_1 s0_2 = some (r1, r2, r3, r4, r5, r6)) :
    Calls Tryz.prog 74 #[.pointer (some ⟨g, 0, none⟩)] w fun e w' => e = .returned (.agg #[.int .i64 r1, .int .i64 r2, .int .i64 r3, .int .i64 r4]) ∧ IsS66 w0 w' g s0_0 r5 r6 ∧ Below w0.heap.size w0 w' ∧ KeepBut w w' g none := by
  have hu27 := Tryz.underlying27
  have hu25 := Tryz.underlying25
  have HI0 := Aside0.mk hI
  have HK := Aside0.mk (KeepBut.refl w g none)
  have HL := Aside0.mk hB.size
  clear hI
  have HW0 := Aside0.mk hB.size
  have HB := Aside0.mk hB
  clear hB
  have H : ((spec_l1Cur_sureTurn.f k s0_0 s0_1 s0_2).bind fun bt160 => ((spec_l1Cur_pick.f s0_0 bt160.2.2.1 bt160.2.2.2 50).bind fun bt165 => ((spec_l1Cur_among.f s0_0 bt165.2.1 bt165.2.2 (([73, 71, 72, 1, 2, 3, 100, 999, 1000, wrap64 (1 + bt165.1)] : List Int))).bind fun bt171 => ((spec_l1Cur_pick.f s0_0 bt171.2.1 bt171.2.2 50).bind fun bt174 => ((spec_l1Cur_among.f s0_0 bt174.2.1 bt174.2.2 (([72, 72, 72, 1, 3, 99, 1000, wrap64 (1 + bt174.1)] : List Int))).bind fun bt180 => ((spec_diCommon.f k bt171.1 bt180.1).bind fun t183 => (if t183 = 0 then (none) else ((spec_l1Cur_pick.f s0_0 bt180.2.1 bt180.2.2 16).bind fun bt184 => (if bt184.1 = 0 then ((spec_l1Cur_among.f s0_0 bt184.2.1 bt184.2.2 (([0, (-1), 1000, 1001, 4611686018427387904] : List Int))).bind fun bt190 => (some (bt160.1, bt160.2.1, bt190.1, wrap64 (Int.tdiv bt180.1 t183), bt190.2.1, bt190.2.2))) else (if bt184.1 = 1 then ((spec_l1Cur_turn.f k s0_0 bt184.2.1 bt184.2.2).bind fun bt193 => (some (bt193.1, bt193.2.1, wrap64 (Int.tdiv bt171.1 t183), wrap64 (Int.tdiv bt180.1 t183), bt193.2.2.1, bt193.2.2.2))) else (some (bt160.1, bt160.2.1, wrap64 (Int.tdiv bt171.1 t183), wrap64 (Int.tdiv bt180.1 t183), bt184.2.1, bt184.2.2)))))))))))) = some (r1, r2, r3, r4, r5, r6) := h
  clear h
  replace H := Option.bind_eq_some_iff.mp H
  obtain ⟨⟨t160, t161, t162, t163⟩, A20, H⟩ := H
  (try dsimp only at H)
  have A2 := Aside0.mk A20
  clear A20
  replace H := Option.bind_eq_some_iff.mp H
  obtain ⟨⟨t165, t166, t167⟩, A30, H⟩ := H
  (try dsimp only at H)
  have A3 := Aside0.mk A30
  clear A30
  obtain ⟨y168, hy168⟩ : ∃ y_ : List Int, y_ = (([73, 71, 72, 1, 2, 3, 100, 999, 1000, wrap64 (1 + t165)] : List Int)) := ⟨_, rfl⟩
  replace H : ((spec_l1Cur_among.f s0_0 t166 t167 y168).bind fun bt171 => ((spec_l1Cur_pick.f s0_0 bt171.2.1 bt171.2.2 50).bind fun bt174 => ((spec_l1Cur_among.f s0_0 bt174.2.1 bt174.2.2 (([72, 72, 72, 1, 3, 99, 1000, wrap64 (1 + bt174.1)] : List Int))).bind fun bt180 => ((spec_diCommon.f k bt171.1 bt180.1).bind fun t183 => (if t183 = 0 then (none) else ((spec_l1Cur_pick.f s0_0 bt180.2.1 bt180.2.2 16).bind fun bt184 => (if bt184.1 = 0 then ((spec_l1Cur_among.f s0_0 bt184.2.1 bt184.2.2 (([0, (-1), 1000, 1001, 4611686018427387904] : List Int))).bind fun bt190 => (some (t160, t161, bt190.1, wrap64 (Int.tdiv bt180.1 t183), bt190.2.1, bt190.2.2))) else (if bt184.1 = 1 then ((spec_l1Cur_turn.f k s0_0 bt184.2.1 bt184.2.2).bind fun bt193 => (some (bt193.1, bt193.2.1, wrap64 (Int.tdiv bt171.1 t183), wrap64 (Int.tdiv bt180.1 t183), bt193.2.2.1, bt193.2.2.2))) else (some (t160, t161, wrap64 (Int.tdiv bt171.1 t183), wrap64 (Int.tdiv bt180.1 t183), bt184.2.1, bt184.2.2)))))))))) = some (r1, r2, r3, r4, r5, r6) := by first | (rw [hy168]; with_reducible exact H) | (have H2_ := (Option.bind_some _ _).symm.trans H; rw [hy168]; with_reducible exact H2_) | (have H2_ := (Option.bind_some _ _).symm.trans H; with_reducible exact H2_) | with_reducible exact H | (rw [hy168]; exact H) | exact H
  have Ny168 := Aside0.mk hy168
  clear hy168
  replace H := Option.bind_eq_some_iff.mp H
  obtain ⟨⟨t171, t172, t173⟩, A40, H⟩ := H
  (try dsimp only at H)
  have A4 := Aside0.mk A40
  clear A40
  replace H := Option.bind_eq_some_iff.mp H
  obtain ⟨⟨t174, t175, t176⟩, A50, H⟩ := H
  (try dsimp only at H)
  have A5 := Aside0.mk A50
  clear A50
  obtain ⟨y177, hy177⟩ : ∃ y_ : List Int, y_ = (([72, 72, 72, 1, 3, 99, 1000, wrap64 (1 + t174)] : List Int)) := ⟨_, rfl⟩
  replace H : ((spec_l1Cur_among.f s0_0 t175 t176 y177).bind fun bt180 => ((spec_diCommon.f k t171 bt180.1).bind fun t183 => (if t183 = 0 then (none) else ((spec_l1Cur_pick.f s0_0 bt180.2.1 bt180.2.2 16).bind fun bt184 => (if bt184.1 = 0 then ((spec_l1Cur_among.f s0_0 bt184.2.1 bt184.2.2 (([0, (-1), 1000, 1001, 4611686018427387904] : List Int))).bind fun bt190 => (some (t160, t161, bt190.1, wrap64 (Int.tdiv bt180.1 t183), bt190.2.1, bt190.2.2))) else (if bt184.1 = 1 then ((spec_l1Cur_turn.f k s0_0 bt184.2.1 bt184.2.2).bind fun bt193 => (some (bt193.1, bt193.2.1, wrap64 (Int.tdiv t171 t183), wrap64 (Int.tdiv bt180.1 t183), bt193.2.2.1, bt193.2.2.2))) else (some (t160, t161, wrap64 (Int.tdiv t171 t183), wrap64 (Int.tdiv bt180.1 t183), bt184.2.1, bt184.2.2)))))))) = some (r1, r2, r3, r4, r5, r6) := by first | (rw [hy177]; with_reducible exact H) | (have H2_ := (Option.bind_some _ _).symm.trans H; rw [hy177]; with_reducible exact H2_) | (have H2_ := (Option.bind_some _ _).symm.trans H; with_reducible exact H2_) | with_reducible exact H | (rw [hy177]; exact H) | exact H
  have Ny177 := Aside0.mk hy177
  clear hy177
  replace H := Option.bind_eq_some_iff.mp H
  obtain ⟨⟨t180, t181, t182⟩, A60, H⟩ := H
  (try dsimp only at H)
  have A6 := Aside0.mk A60
  clear A60
  replace H := Option.bind_eq_some_iff.mp H
  obtain ⟨t183, A70, H⟩ := H
  (try dsimp only at H)
  have A7 := Aside0.mk A70
  clear A70
  by_cases c8 : t183 = 0
  · rw [if_pos c8] at H
    exact absurd H (by simp)
  rw [if_neg c8] at H
  have c8b0 : (t183 == 0) = false := beq_eq_false_iff_ne.mpr c8
  have c8b1 : (t183 != 0) = true := bne_iff_ne.mpr c8
  replace H := Option.bind_eq_some_iff.mp H
  obtain ⟨⟨t184, t185, t186⟩, A90, H⟩ := H
  (try dsimp only at H)
  have A9 := Aside0.mk A90
  clear A90
  by_cases c10 : t184 = 0
  · rw [if_pos c10] at H
    have c10b0 : (t184 == 0) = true := beq_iff_eq.mpr c10
    have c10b1 : (t184 != 0) = false := bne_eq_false_iff_eq.mpr c10
    clear c10
    obtain ⟨y187, hy187⟩ : ∃ y_ : List Int, y_ = (([0, (-1), 1000, 1001, 4611686018427387904] : List Int)) := ⟨_, rfl⟩
    replace H : ((spec_l1Cur_among.f s0_0 t185 t186 y187).bind fun bt190 => (some (t160, t161, bt190.1, wrap64 (Int.tdiv t180 t183), bt190.2.1, bt190.2.2))) = some (r1, r2, r3, r4, r5, r6) := by first | (rw [hy187]; with_reducible exact H) | (have H2_ := (Option.bind_some _ _).symm.trans H; rw [hy187]; with_reducible exact H2_) | (have H2_ := (Option.bind_some _ _).symm.trans H; with_reducible exact H2_) | with_reducible exact H | (rw [hy187]; exact H) | exact H
    have Ny187 := Aside0.mk hy187
    clear hy187
    replace H := Option.bind_eq_some_iff.mp H
    obtain ⟨⟨t190, t191, t192⟩, A110, H⟩ := H
    (try dsimp only at H)
    have A11 := Aside0.mk A110
    clear A110
    simp only [Option.some.injEq, Prod.mk.injEq] at H
    obtain ⟨rfl, rfl, rfl, rfl, rfl, rfl⟩ := H
    go_enter Tryz.func74, Tryz.ntmps74
    go_wp2_with (first | ((with_reducible refine gate_dst (N := 2) rfl ?_); refine be #[.int .i64 0, .int .i64 0, .int .i64 0, .int .i64 0] 27 ?_; intro gb159 hg w12 hbox hb; have GW159 := kz HK hg; have GE159 := kv HW0 (kz HK hg); have NB0_159 := Aside0.mk ((by rw [hg]; exact Nat.ne_of_lt (IsS66.lt (show IsS66 w0 _ g s0_0 s0_1 s0_2 from iq66 HI0)) : g ≠ gb159)); have NB159_0 := Aside0.mk NB0_159.1.symm; replace HI0 := iB66 HI0 hb; replace HK := kB HK hb; replace HB := zB66 HB hb; have BK159 := Aside0.mk hbox; clear hb hbox hg) | ((with_reducible refine gate_callee (f := 80) rfl ?_); refine gl (some 8) Tryz.func80 #[.pointer (some ⟨g, 0, none⟩)] ?_; (with_reducible refine (spec_l1Cur_sureTurn.calls k g s0_0 s0_1 s0_2 t160 t161 t162 t163 w0 _ ?side1 ?side2 A2.1).mono ?_); (case side1 => exact iq66 HI0); (case side2 => exact bq66 HB); rintro e w13 ⟨rfl, hi, hb, hk⟩; refine ⟨_, rfl, ?_⟩; replace BK159 := kb (o' := .cells #[.int .i64 0, .int .i64 0, .int .i64 0, .int .i64 0] 27 (0, 0)) BK159 hk NB159_0; replace HK := kT HK hk; replace HB := Aside0.mk hb; replace HI0 := Aside0.mk hi; clear hi hb hk) | ((with_reducible refine gate_dst (N := 3) rfl ?_); refine be #[.int .i64 0, .int .i64 0, .int .i64 0, .int .i64 0] 27 ?_; intro gb164 hg w14 hbox hb; have GW164 := kz HK hg; have GE164 := kv HW0 (kz HK hg); have NB0_164 := Aside0.mk ((by rw [hg]; exact Nat.ne_of_lt (IsS66.lt (show IsS66 w0 _ g s0_0 t162 t163 from iq66 HI0)) : g ≠ gb164)); have NB164_0 := Aside0.mk NB0_164.1.symm; replace HI0 := iB66 HI0 hb; replace HK := kB HK hb; replace HB := zB66 HB hb; have BK164 := Aside0.mk hbox; have NB159_164 := zn BK159 hg; have NB164_159 := zm BK159 hg; replace BK159 := zb BK159 hb; clear hb hbox hg; have hnb15 := NB164_159.1; have hnc15 := NB159_164.1; have hnb16 := NB164_0.1; have hnc16 := NB0_164.1; obtain ⟨hcz17_0, hcz17_1, hcz17_2, hcz17_3, hfz17_0, hfz17_1, hfz17_2, hfz17_3⟩ := zc4 BK164) | ((with_reducible refine gate_callee (f := 62) rfl ?_); refine gl (some 12) Tryz.func62 #[.pointer (some ⟨g, 0, none⟩), .int .i64 50] ?_; (with_reducible refine (spec_l1Cur_pick.calls g s0_0 t162 t163 50 t165 t166 t167 w0 _ ?side1 ?side2 A3.1).mono ?_); (case side1 => exact iq66 HI0); (case side2 => exact bq66 HB); rintro e w18 ⟨rfl, hi, hb, hk⟩; refine ⟨_, rfl, ?_⟩; replace BK159 := kb (o' := .cells #[.int .i64 0, .int .i64 0, .int .i64 0, .int .i64 0] 27 (0, 0)) BK159 hk NB159_0; replace BK164 := kb (o' := .cells #[.int .i64 t160, .int .i64 t161, .int .i64 72, .int .i64 72] 27 (0, 0)) BK164 hk NB164_0; replace HK := kT HK hk; replace HB := Aside0.mk hb; replace HI0 := Aside0.mk hi; clear hi hb hk) | ((with_reducible refine gate_dst (N := 14) rfl ?_); refine Kd.R_lit (Kd.int .i64) _ 3 ?hg (N := 14) ?hd (xs := ([73, 71, 72, 1, 2, 3, 100, 999, 1000, wrap64 (1 + t165)] : List Int)) (inner := [.int .i64 73, .int .i64 71, .int .i64 72, .int .i64 1, .int .i64 2, .int .i64 3, .int .i64 100, .int .i64 999, .int .i64 1000, .int .i64 (wrap64 (1 + t165))]) (ok := fun _ => True) (okp := fun _ => True) ?hr ?hp (fun _ hk => hk) trivial (Below.refl _ _) (Nat.le_refl _) (by simp) ?_; (case hd => rfl); (case hg => rfl); (case hr => first | (go_simp; done) | (go_simp; rfl)); (case hp => exact (Reps.one (show Kd.M (Kd.int .i64) _ _ _ 73 [.int .i64 73] from rfl) (Reps.one (show Kd.M (Kd.int .i64) _ _ _ 71 [.int .i64 71] from rfl) (Reps.one (show Kd.M (Kd.int .i64) _ _ _ 72 [.int .i64 72] from rfl) (Reps.one (show Kd.M (Kd.int .i64) _ _ _ 1 [.int .i64 1] from rfl) (Reps.one (show Kd.M (Kd.int .i64) _ _ _ 2 [.int .i64 2] from rfl) (Reps.one (show Kd.M (Kd.int .i64) _ _ _ 3 [.int .i64 3] from rfl) (Reps.one (show Kd.M (Kd.int .i64) _ _ _ 100 [.int .i64 100] from rfl) (Reps.one (show Kd.M (Kd.int .i64) _ _ _ 999 [.int .i64 999] from rfl) (Reps.one (show Kd.M (Kd.int .i64) _ _ _ 1000 [.int .i64 1000] from rfl) (Reps.one (show Kd.M (Kd.int .i64) _ _ _ (wrap64 (1 + t165)) [.int .i64 (wrap64 (1 + t165))] from rfl) (Reps.none _ _)))))))))))); intro v169 w19 ho20 hb hg_ hnew_; clear hg_ hnew_; (first | rw [← Ny168.1] at ho20 | (simp only [Int.reduceToNat] at ho20; rw [← Ny168.1] at ho20)); have HO170 := Aside0.mk (Kd.R_lower ho20 (keep_size (w := w) (g := g) (row := none) (kq HK))); replace HI0 := iB66 HI0 hb; replace HK := kB HK hb; replace HB := zB66 HB hb; replace BK159 := zb BK159 hb; replace BK164 := zb BK164 hb; clear hb ho20; obtain ⟨Ao21, co21, eo21⟩ := Kd.R_slice HO170.1; subst eo21) | ((with_reducible refine gate_callee (f := 61) rfl ?_); refine gl (some 15) Tryz.func61 #[.pointer (some ⟨g, 0, none⟩), .slice Ao21 y168.length co21] ?_; (with_reducible refine (spec_l1Cur_among.calls g s0_0 t166 t167 _ _ y168 t171 t172 t173 w0 _ ?side1 ?side2 ?side3 ?side4 ?side5 A4.1).mono ?_); (case side1 => exact iq66 HI0); (case side2 => exact bq66 HB); (case side3 => repeat (first | exact (Kd.R_reads' HO170.1).2.2 | (with_reducible refine Kd.C_alloc ?_ _) | (with_reducible refine Kd.C_drewN ?_ _) | (with_reducible refine Kd.C_drew ?_))); (case side4 => exact (Kd.R_reads' HO170.1).2.1); (case side5 => exact far_slice (IsS66.own_ne HI0.1 HO170.1 (by decide))); rintro e w22 ⟨rfl, hi, hb, hk⟩; refine ⟨_, rfl, ?_⟩; replace BK159 := kb (o' := .cells #[.int .i64 0, .int .i64 0, .int .i64 0, .int .i64 0] 27 (0, 0)) BK159 hk NB159_0; replace BK164 := kb (o' := .cells #[.int .i64 t160, .int .i64 t161, .int .i64 72, .int .i64 72] 27 (0, 0)) BK164 hk NB164_0; replace HO170 := Aside0.mk (Kd.R_mono (Kd.R_keep (IsS66.apart (show IsS66 w0 _ g s0_0 t166 t167 from iq66 HI0) (rq HO170) (by decide)) hk (fun _ h => h.2)) (fun _ h => h.1)); replace HK := kT HK hk; replace HB := Aside0.mk hb; replace HI0 := Aside0.mk hi; clear hi hb hk) | ((with_reducible refine gate_callee (f := 62) rfl ?_); refine gl (some 18) Tryz.func62 #[.pointer (some ⟨g, 0, none⟩), .int .i64 50] ?_; (with_reducible refine (spec_l1Cur_pick.calls g s0_0 t172 t173 50 t174 t175 t176 w0 _ ?side1 ?side2 A5.1).mono ?_); (case side1 => exact iq66 HI0); (case side2 => exact bq66 HB); rintro e w23 ⟨rfl, hi, hb, hk⟩; refine ⟨_, rfl, ?_⟩; replace BK159 := kb (o' := .cells #[.int .i64 0, .int .i64 0, .int .i64 0, .int .i64 0] 27 (0, 0)) BK159 hk NB159_0; replace BK164 := kb (o' := .cells #[.int .i64 t160, .int .i64 t161, .int .i64 72, .int .i64 72] 27 (0, 0)) BK164 hk NB164_0; replace HO170 := Aside0.mk (Kd.R_mono (Kd.R_keep (IsS66.apart (show IsS66 w0 _ g s0_0 t172 t173 from iq66 HI0) (rq HO170) (by decide)) hk (fun _ h => h.2)) (fun _ h => h.1)); replace HK := kT HK hk; replace HB := Aside0.mk hb; replace HI0 := Aside0.mk hi; clear hi hb hk) | ((with_reducible refine gate_dst (N := 20) rfl ?_); refine Kd.R_lit (Kd.int .i64) _ 3 ?hg (N := 20) ?hd (xs := ([72, 72, 72, 1, 3, 99, 1000, wrap64 (1 + t174)] : List Int)) (inner := [.int .i64 72, .int .i64 72, .int .i64 72, .int .i64 1, .int .i64 3, .int .i64 99, .int .i64 1000, .int .i64 (wrap64 (1 + t174))]) (ok := fun _ => True) (okp := fun _ => True) ?hr ?hp (fun _ hk => hk) trivial (Below.refl _ _) (Nat.le_refl _) (by simp) ?_; (case hd => rfl); (case hg => rfl); (case hr => first | (go_simp; done) | (go_simp; rfl)); (case hp => exact (Reps.one (show Kd.M (Kd.int .i64) _ _ _ 72 [.int .i64 72] from rfl) (Reps.one (show Kd.M (Kd.int .i64) _ _ _ 72 [.int .i64 72] from rfl) (Reps.one (show Kd.M (Kd.int .i64) _ _ _ 72 [.int .i64 72] from rfl) (Reps.one (show Kd.M (Kd.int .i64) _ _ _ 1 [.int .i64 1] from rfl) (Reps.one (show Kd.M (Kd.int .i64) _ _ _ 3 [.int .i64 3] from rfl) (Reps.one (show Kd.M (Kd.int .i64) _ _ _ 99 [.int .i64 99] from rfl) (Reps.one (show Kd.M (Kd.int .i64) _ _ _ 1000 [.int .i64 1000] from rfl) (Reps.one (show Kd.M (Kd.int .i64) _ _ _ (wrap64 (1 + t174)) [.int .i64 (wrap64 (1 + t174))] from rfl) (Reps.none _ _)))))))))); intro v178 w24 ho25 hb hg_ hnew_; clear hg_ hnew_; (first | rw [← Ny177.1] at ho25 | (simp only [Int.reduceToNat] at ho25; rw [← Ny177.1] at ho25)); have HO179 := Aside0.mk (Kd.R_lower (Kd.R_new' ho25 (Kd.R_lt (rq HO170))) (keep_size (w := w) (g := g) (row := none) (kq HK))); replace HO170 := Aside0.mk (Kd.R_elder' (rq HO170) (Kd.R_base ho25) hb); replace HI0 := iB66 HI0 hb; replace HK := kB HK hb; replace HB := zB66 HB hb; replace BK159 := zb BK159 hb; replace BK164 := zb BK164 hb; clear hb ho25; obtain ⟨Ao26, co26, eo26⟩ := Kd.R_slice HO179.1; subst eo26) | ((with_reducible refine gate_callee (f := 61) rfl ?_); refine gl (some 21) Tryz.func61 #[.pointer (some ⟨g, 0, none⟩), .slice Ao26 y177.length co26] ?_; (with_reducible refine (spec_l1Cur_among.calls g s0_0 t175 t176 _ _ y177 t180 t181 t182 w0 _ ?side1 ?side2 ?side3 ?side4 ?side5 A6.1).mono ?_); (case side1 => exact iq66 HI0); (case side2 => exact bq66 HB); (case side3 => repeat (first | exact (Kd.R_reads' HO179.1).2.2 | (with_reducible refine Kd.C_alloc ?_ _) | (with_reducible refine Kd.C_drewN ?_ _) | (with_reducible refine Kd.C_drew ?_))); (case side4 => exact (Kd.R_reads' HO179.1).2.1); (case side5 => exact far_slice (IsS66.own_ne HI0.1 HO179.1 (by decide))); rintro e w27 ⟨rfl, hi, hb, hk⟩; refine ⟨_, rfl, ?_⟩; replace BK159 := kb (o' := .cells #[.int .i64 0, .int .i64 0, .int .i64 0, .int .i64 0] 27 (0, 0)) BK159 hk NB159_0; replace BK164 := kb (o' := .cells #[.int .i64 t160, .int .i64 t161, .int .i64 72, .int .i64 72] 27 (0, 0)) BK164 hk NB164_0; replace HO170 := Aside0.mk (Kd.R_mono (Kd.R_keep (IsS66.apart (show IsS66 w0 _ g s0_0 t175 t176 from iq66 HI0) (rq HO170) (by decide)) hk (fun _ h => h.2)) (fun _ h => h.1)); replace HO179 := Aside0.mk (Kd.R_mono (Kd.R_keep (IsS66.apart (show IsS66 w0 _ g s0_0 t175 t176 from iq66 HI0) (rq HO179) (by decide)) hk (fun _ h => h.2)) (fun _ h => h.1)); replace HK := kT HK hk; replace HB := Aside0.mk hb; replace HI0 := Aside0.mk hi; clear hi hb hk) | ((with_reducible refine gate_callee (f := 54) rfl ?_); refine gl (some 24) Tryz.func54 #[.int .i64 t171, .int .i64 t180] ?_; (with_reducible refine (spec_diCommon.calls k t171 t180 t183 _ A7.1).mono ?_); rintro e w' ⟨rfl, ⟨nd, rfl⟩⟩; refine ⟨_, rfl, ?_⟩; (try (rw [drewN_self w27]; generalize hq_ : World.drewN w27 _ = w27; have n0_ : Aside0 (Kd.R (Kd.int .i64) 3 w27 w.heap.size (fun k_ => some k_ ≠ (.slice Ao26 y177.length co26 : Value).ownBlock) (.slice Ao21 y168.length co21) y168) := ⟨by rw [← hq_]; exact (by (with_reducible repeat (first | apply Kd.R_alloc | apply Kd.R_drewN | apply Kd.R_drew)); exact Kd.R_mono HO170.1 (fun _ hk => hk.2))⟩; have n1_ : Aside0 (Kd.R (Kd.int .i64) 3 w27 w.heap.size (fun k_ => some k_ ≠ (.slice Ao21 y168.length co21 : Value).ownBlock) (.slice Ao26 y177.length co26) y177) := ⟨by rw [← hq_]; exact (by (with_reducible repeat (first | apply Kd.R_alloc | apply Kd.R_drewN | apply Kd.R_drew)); exact Kd.R_mono HO179.1 (fun _ hk => hk.2))⟩; have n2_ : Aside0 (w27.heap[gb159]? = some (.cells #[.int .i64 0, .int .i64 0, .int .i64 0, .int .i64 0] 27 (0, 0))) := ⟨by rw [← hq_]; exact (bk BK159)⟩; have n3_ : Aside0 (w27.heap[gb164]? = some (.cells #[.int .i64 t160, .int .i64 t161, .int .i64 72, .int .i64 72] 27 (0, 0))) := ⟨by rw [← hq_]; exact (bk BK164)⟩; have n4_ : Aside0 (IsS66 w0 w27 g s0_0 t181 t182) := ⟨by rw [← hq_]; exact (iq66 HI0)⟩; have n5_ : Aside0 (KeepBut w w27 g none) := ⟨by rw [← hq_]; exact (kq HK)⟩; have n6_ : Aside0 (Below w0.heap.size w0 w27) := ⟨by rw [← hq_]; exact (bq66 HB)⟩; clear HO170 HO179 BK159 BK164 HI0 HK HB hq_; have HO170 := n0_; have HO179 := n1_; have BK159 := n2_; have BK164 := n3_; have HI0 := n4_; have HK := n5_; have HB := n6_; clear n0_ n1_ n2_ n3_ n4_ n5_ n6_)); obtain ⟨hcz28_0, hcz28_1, hcz28_2, hcz28_3, hfz28_0, hfz28_1, hfz28_2, hfz28_3⟩ := zc4 BK164) | ((with_reducible refine gate_callee (f := 62) rfl ?_); refine gl (some 34) Tryz.func62 #[.pointer (some ⟨g, 0, none⟩), .int .i64 16] ?_; (with_reducible refine (spec_l1Cur_pick.calls g s0_0 t181 t182 16 t184 t185 t186 w0 _ ?side1 ?side2 A9.1).mono ?_); (case side1 => exact iq66 HI0); (case side2 => exact bq66 HB); rintro e w29 ⟨rfl, hi, hb, hk⟩; refine ⟨_, rfl, ?_⟩; replace BK159 := kb (o' := .cells #[.int .i64 0, .int .i64 0, .int .i64 0, .int .i64 0] 27 (0, 0)) BK159 hk NB159_0; replace HO170 := Aside0.mk (Kd.R_mono (Kd.R_keep (IsS66.apart (show IsS66 w0 _ g s0_0 t181 t182 from iq66 HI0) (by (with_reducible repeat (first | apply Kd.R_alloc | apply Kd.R_drewN | apply Kd.R_drew)); exact (Kd.R_mono (Kd.R_far (p := ⟨gb164, 3, none⟩) (Kd.R_far (p := ⟨gb164, 2, none⟩) (Kd.R_types HO170.1 BK164.1 (by decide)) (fun _ hk => hk.2) (.int .i64 (wrap64 (Int.tdiv t171 t183)))) (fun _ hk => hk.2) (.int .i64 (wrap64 (Int.tdiv t180 t183)))) (fun _ h_ => h_.1))) (by decide)) hk (fun _ h => h.2)) (fun _ h => h.1)); replace HO179 := Aside0.mk (Kd.R_mono (Kd.R_keep (IsS66.apart (show IsS66 w0 _ g s0_0 t181 t182 from iq66 HI0) (by (with_reducible repeat (first | apply Kd.R_alloc | apply Kd.R_drewN | apply Kd.R_drew)); exact (Kd.R_mono (Kd.R_far (p := ⟨gb164, 3, none⟩) (Kd.R_far (p := ⟨gb164, 2, none⟩) (Kd.R_types HO179.1 BK164.1 (by decide)) (fun _ hk => hk.2) (.int .i64 (wrap64 (Int.tdiv t171 t183)))) (fun _ hk => hk.2) (.int .i64 (wrap64 (Int.tdiv t180 t183)))) (fun _ h_ => h_.1))) (by decide)) hk (fun _ h => h.2)) (fun _ h => h.1)); replace BK164 := kb (o' := .cells #[.int .i64 t160, .int .i64 t161, .int .i64 (wrap64 (Int.tdiv t171 t183)), .int .i64 (wrap64 (Int.tdiv t180 t183))] 27 (0, 0)) BK164 hk NB164_0; replace HK := kT HK hk; replace HB := Aside0.mk hb; replace HI0 := Aside0.mk hi; clear hi hb hk) | ((with_reducible refine gate_dst (N := 38) rfl ?_); refine Kd.R_lit (Kd.int .i64) _ 3 ?hg (N := 38) ?hd (xs := ([0, (-1), 1000, 1001, 4611686018427387904] : List Int)) (inner := [.int .i64 0, .int .i64 (-1), .int .i64 1000, .int .i64 1001, .int .i64 4611686018427387904]) (ok := fun _ => True) (okp := fun _ => True) ?hr ?hp (fun _ hk => hk) trivial (Below.refl _ _) (Nat.le_refl _) (by simp) ?_; (case hd => rfl); (case hg => rfl); (case hr => first | (go_simp; done) | (go_simp; rfl)); (case hp => exact (Reps.one (show Kd.M (Kd.int .i64) _ _ _ 0 [.int .i64 0] from rfl) (Reps.one (show Kd.M (Kd.int .i64) _ _ _ (-1) [.int .i64 (-1)] from rfl) (Reps.one (show Kd.M (Kd.int .i64) _ _ _ 1000 [.int .i64 1000] from rfl) (Reps.one (show Kd.M (Kd.int .i64) _ _ _ 1001 [.int .i64 1001] from rfl) (Reps.one (show Kd.M (Kd.int .i64) _ _ _ 4611686018427387904 [.int .i64 4611686018427387904] from rfl) (Reps.none _ _))))))); intro v188 w30 ho31 hb hg_ hnew_; clear hg_ hnew_; (first | rw [← Ny187.1] at ho31 | (simp only [Int.reduceToNat] at ho31; rw [← Ny187.1] at ho31)); have HO189 := Aside0.mk (Kd.R_lower (Kd.R_new' (Kd.R_new' ho31 (Kd.R_lt (rq HO170))) (Kd.R_lt (rq HO179))) (keep_size (w := w) (g := g) (row := none) (kq HK))); replace HO170 := Aside0.mk (Kd.R_elder' (rq HO170) (Kd.R_base ho31) hb); replace HO179 := Aside0.mk (Kd.R_elder' (rq HO179) (Kd.R_base ho31) hb); replace HI0 := iB66 HI0 hb; replace HK := kB HK hb; replace HB := zB66 HB hb; replace BK159 := zb BK159 hb; replace BK164 := zb BK164 hb; clear hb ho31; obtain ⟨Ao32, co32, eo32⟩ := Kd.R_slice HO189.1; subst eo32) | ((with_reducible refine gate_callee (f := 61) rfl ?_); refine gl (some 39) Tryz.func61 #[.pointer (some ⟨g, 0, none⟩), .slice Ao32 y187.length co32] ?_; (with_reducible refine (spec_l1Cur_among.calls g s0_0 t185 t186 _ _ y187 t190 t191 t192 w0 _ ?side1 ?side2 ?side3 ?side4 ?side5 A11.1).mono ?_); (case side1 => exact iq66 HI0); (case side2 => exact bq66 HB); (case side3 => repeat (first | exact (Kd.R_reads' HO189.1).2.2 | (with_reducible refine Kd.C_alloc ?_ _) | (with_reducible refine Kd.C_drewN ?_ _) | (with_reducible refine Kd.C_drew ?_))); (case side4 => exact (Kd.R_reads' HO189.1).2.1); (case side5 => exact far_slice (IsS66.own_ne HI0.1 HO189.1 (by decide))); rintro e w33 ⟨rfl, hi, hb, hk⟩; refine ⟨_, rfl, ?_⟩; replace BK159 := kb (o' := .cells #[.int .i64 0, .int .i64 0, .int .i64 0, .int .i64 0] 27 (0, 0)) BK159 hk NB159_0; replace BK164 := kb (o' := .cells #[.int .i64 t160, .int .i64 t161, .int .i64 (wrap64 (Int.tdiv t171 t183)), .int .i64 (wrap64 (Int.tdiv t180 t183))] 27 (0, 0)) BK164 hk NB164_0; replace HO170 := Aside0.mk (Kd.R_mono (Kd.R_keep (IsS66.apart (show IsS66 w0 _ g s0_0 t185 t186 from iq66 HI0) (rq HO170) (by decide)) hk (fun _ h => h.2)) (fun _ h => h.1)); replace HO179 := Aside0.mk (Kd.R_mono (Kd.R_keep (IsS66.apart (show IsS66 w0 _ g s0_0 t185 t186 from iq66 HI0) (rq HO179) (by decide)) hk (fun _ h => h.2)) (fun _ h => h.1)); replace HO189 := Aside0.mk (Kd.R_mono (Kd.R_keep (IsS66.apart (show IsS66 w0 _ g s0_0 t185 t186 from iq66 HI0) (rq HO189) (by decide)) hk (fun _ h => h.2)) (fun _ h => h.1)); replace HK := kT HK hk; replace HB := Aside0.mk hb; replace HI0 := Aside0.mk hi; clear hi hb hk; obtain ⟨hcz34_0, hcz34_1, hcz34_2, hcz34_3, hfz34_0, hfz34_1, hfz34_2, hfz34_3⟩ := zc4 BK164; have hnb35 := NB159_0.1; have hnc35 := NB0_159.1; obtain ⟨hcz36_0, hcz36_1, hcz36_2, hcz36_3, hfz36_0, hfz36_1, hfz36_2, hfz36_3⟩ := zc4 BK159))
    refine bodyPost_ret (results_cell_row rfl _ _ gb159 27 #[.int .i64 t160, .int .i64 t161, .int .i64 t190, .int .i64 (wrap64 (Int.tdiv t180 t183))] (0, 0) _ rfl (bk BK159) Tryz.underlying27 rfl (by kernel_rfl)) rfl ?_
    exact ⟨er, iq66 HI0, bq66 HB, kq HK⟩
  rw [if_neg c10] at H
  have c10b0 : (t184 == 0) = false := beq_eq_false_iff_ne.mpr c10
  have c10b1 : (t184 != 0) = true := bne_iff_ne.mpr c10
  by_cases c37 : t184 = 1
  · rw [if_pos c37] at H
    have c37b0 : (t184 == 1) = true := beq_iff_eq.mpr c37
    have c37b1 : (t184 != 1) = false := bne_eq_false_iff_eq.mpr c37
    clear c37
    replace H := Option.bind_eq_some_iff.mp H
    obtain ⟨⟨t193, t194, t195, t196⟩, A380, H⟩ := H
    (try dsimp only at H)
    have A38 := Aside0.mk A380
    clear A380
    simp only [Option.some.injEq, Prod.mk.injEq] at H
    obtain ⟨rfl, rfl, rfl, rfl, rfl, rfl⟩ := H
    go_enter Tryz.func74, Tryz.ntmps74
    go_wp2_with (first | ((with_reducible refine gate_dst (N := 2) rfl ?_); refine be #[.int .i64 0, .int .i64 0, .int .i64 0, .int .i64 0] 27 ?_; intro gb159 hg w39 hbox hb; have GW159 := kz HK hg; have GE159 := kv HW0 (kz HK hg); have NB0_159 := Aside0.mk ((by rw [hg]; exact Nat.ne_of_lt (IsS66.lt (show IsS66 w0 _ g s0_0 s0_1 s0_2 from iq66 HI0)) : g ≠ gb159)); have NB159_0 := Aside0.mk NB0_159.1.symm; replace HI0 := iB66 HI0 hb; replace HK := kB HK hb; replace HB := zB66 HB hb; have BK159 := Aside0.mk hbox; clear hb hbox hg) | ((with_reducible refine gate_callee (f := 80) rfl ?_); refine gl (some 8) Tryz.func80 #[.pointer (some ⟨g, 0, none⟩)] ?_; (with_reducible refine (spec_l1Cur_sureTurn.calls k g s0_0 s0_1 s0_2 t160 t161 t162 t163 w0 _ ?side1 ?side2 A2.1).mono ?_); (case side1 => exact iq66 HI0); (case side2 => exact bq66 HB); rintro e w40 ⟨rfl, hi, hb, hk⟩; refine ⟨_, rfl, ?_⟩; replace BK159 := kb (o' := .cells #[.int .i64 0, .int .i64 0, .int .i64 0, .int .i64 0] 27 (0, 0)) BK159 hk NB159_0; replace HK := kT HK hk; replace HB := Aside0.mk hb; replace HI0 := Aside0.mk hi; clear hi hb hk) | ((with_reducible refine gate_dst (N := 3) rfl ?_); refine be #[.int .i64 0, .int .i64 0, .int .i64 0, .int .i64 0] 27 ?_; intro gb164 hg w41 hbox hb; have GW164 := kz HK hg; have GE164 := kv HW0 (kz HK hg); have NB0_164 := Aside0.mk ((by rw [hg]; exact Nat.ne_of_lt (IsS66.lt (show IsS66 w0 _ g s0_0 t162 t163 from iq66 HI0)) : g ≠ gb164)); have NB164_0 := Aside0.mk NB0_164.1.symm; replace HI0 := iB66 HI0 hb; replace HK := kB HK hb; replace HB := zB66 HB hb; have BK164 := Aside0.mk hbox; have NB159_164 := zn BK159 hg; have NB164_159 := zm BK159 hg; replace BK159 := zb BK159 hb; clear hb hbox hg; have hnb42 := NB164_159.1; have hnc42 := NB159_164.1; have hnb43 := NB164_0.1; have hnc43 := NB0_164.1; obtain ⟨hcz44_0, hcz44_1, hcz44_2, hcz44_3, hfz44_0, hfz44_1, hfz44_2, hfz44_3⟩ := zc4 BK164) | ((with_reducible refine gate_callee (f := 62) rfl ?_); refine gl (some 12) Tryz.func62 #[.pointer (some ⟨g, 0, none⟩), .int .i64 50] ?_; (with_reducible refine (spec_l1Cur_pick.calls g s0_0 t162 t163 50 t165 t166 t167 w0 _ ?side1 ?side2 A3.1).mono ?_); (case side1 => exact iq66 HI0); (case side2 => exact bq66 HB); rintro e w45 ⟨rfl, hi, hb, hk⟩; refine ⟨_, rfl, ?_⟩; replace BK159 := kb (o' := .cells #[.int .i64 0, .int .i64 0, .int .i64 0, .int .i64 0] 27 (0, 0)) BK159 hk NB159_0; replace BK164 := kb (o' := .cells #[.int .i64 t160, .int .i64 t161, .int .i64 72, .int .i64 72] 27 (0, 0)) BK164 hk NB164_0; replace HK := kT HK hk; replace HB := Aside0.mk hb; replace HI0 := Aside0.mk hi; clear hi hb hk) | ((with_reducible refine gate_dst (N := 14) rfl ?_); refine Kd.R_lit (Kd.int .i64) _ 3 ?hg (N := 14) ?hd (xs := ([73, 71, 72, 1, 2, 3, 100, 999, 1000, wrap64 (1 + t165)] : List Int)) (inner := [.int .i64 73, .int .i64 71, .int .i64 72, .int .i64 1, .int .i64 2, .int .i64 3, .int .i64 100, .int .i64 999, .int .i64 1000, .int .i64 (wrap64 (1 + t165))]) (ok := fun _ => True) (okp := fun _ => True) ?hr ?hp (fun _ hk => hk) trivial (Below.refl _ _) (Nat.le_refl _) (by simp) ?_; (case hd => rfl); (case hg => rfl); (case hr => first | (go_simp; done) | (go_simp; rfl)); (case hp => exact (Reps.one (show Kd.M (Kd.int .i64) _ _ _ 73 [.int .i64 73] from rfl) (Reps.one (show Kd.M (Kd.int .i64) _ _ _ 71 [.int .i64 71] from rfl) (Reps.one (show Kd.M (Kd.int .i64) _ _ _ 72 [.int .i64 72] from rfl) (Reps.one (show Kd.M (Kd.int .i64) _ _ _ 1 [.int .i64 1] from rfl) (Reps.one (show Kd.M (Kd.int .i64) _ _ _ 2 [.int .i64 2] from rfl) (Reps.one (show Kd.M (Kd.int .i64) _ _ _ 3 [.int .i64 3] from rfl) (Reps.one (show Kd.M (Kd.int .i64) _ _ _ 100 [.int .i64 100] from rfl) (Reps.one (show Kd.M (Kd.int .i64) _ _ _ 999 [.int .i64 999] from rfl) (Reps.one (show Kd.M (Kd.int .i64) _ _ _ 1000 [.int .i64 1000] from rfl) (Reps.one (show Kd.M (Kd.int .i64) _ _ _ (wrap64 (1 + t165)) [.int .i64 (wrap64 (1 + t165))] from rfl) (Reps.none _ _)))))))))))); intro v169 w46 ho47 hb hg_ hnew_; clear hg_ hnew_; (first | rw [← Ny168.1] at ho47 | (simp only [Int.reduceToNat] at ho47; rw [← Ny168.1] at ho47)); have HO170 := Aside0.mk (Kd.R_lower ho47 (keep_size (w := w) (g := g) (row := none) (kq HK))); replace HI0 := iB66 HI0 hb; replace HK := kB HK hb; replace HB := zB66 HB hb; replace BK159 := zb BK159 hb; replace BK164 := zb BK164 hb; clear hb ho47; obtain ⟨Ao48, co48, eo48⟩ := Kd.R_slice HO170.1; subst eo48) | ((with_reducible refine gate_callee (f := 61) rfl ?_); refine gl (some 15) Tryz.func61 #[.pointer (some ⟨g, 0, none⟩), .slice Ao48 y168.length co48] ?_; (with_reducible refine (spec_l1Cur_among.calls g s0_0 t166 t167 _ _ y168 t171 t172 t173 w0 _ ?side1 ?side2 ?side3 ?side4 ?side5 A4.1).mono ?_); (case side1 => exact iq66 HI0); (case side2 => exact bq66 HB); (case side3 => repeat (first | exact (Kd.R_reads' HO170.1).2.2 | (with_reducible refine Kd.C_alloc ?_ _) | (with_reducible refine Kd.C_drewN ?_ _) | (with_reducible refine Kd.C_drew ?_))); (case side4 => exact (Kd.R_reads' HO170.1).2.1); (case side5 => exact far_slice (IsS66.own_ne HI0.1 HO170.1 (by decide))); rintro e w49 ⟨rfl, hi, hb, hk⟩; refine ⟨_, rfl, ?_⟩; replace BK159 := kb (o' := .cells #[.int .i64 0, .int .i64 0, .int .i64 0, .int .i64 0] 27 (0, 0)) BK159 hk NB159_0; replace BK164 := kb (o' := .cells #[.int .i64 t160, .int .i64 t161, .int .i64 72, .int .i64 72] 27 (0, 0)) BK164 hk NB164_0; replace HO170 := Aside0.mk (Kd.R_mono (Kd.R_keep (IsS66.apart (show IsS66 w0 _ g s0_0 t166 t167 from iq66 HI0) (rq HO170) (by decide)) hk (fun _ h => h.2)) (fun _ h => h.1)); replace HK := kT HK hk; replace HB := Aside0.mk hb; replace HI0 := Aside0.mk hi; clear hi hb hk) | ((with_reducible refine gate_callee (f := 62) rfl ?_); refine gl (some 18) Tryz.func62 #[.pointer (some ⟨g, 0, none⟩), .int .i64 50] ?_; (with_reducible refine (spec_l1Cur_pick.calls g s0_0 t172 t173 50 t174 t175 t176 w0 _ ?side1 ?side2 A5.1).mono ?_); (case side1 => exact iq66 HI0); (case side2 => exact bq66 HB); rintro e w50 ⟨rfl, hi, hb, hk⟩; refine ⟨_, rfl, ?_⟩; replace BK159 := kb (o' := .cells #[.int .i64 0, .int .i64 0, .int .i64 0, .int .i64 0] 27 (0, 0)) BK159 hk NB159_0; replace BK164 := kb (o' := .cells #[.int .i64 t160, .int .i64 t161, .int .i64 72, .int .i64 72] 27 (0, 0)) BK164 hk NB164_0; replace HO170 := Aside0.mk (Kd.R_mono (Kd.R_keep (IsS66.apart (show IsS66 w0 _ g s0_0 t172 t173 from iq66 HI0) (rq HO170) (by decide)) hk (fun _ h => h.2)) (fun _ h => h.1)); replace HK := kT HK hk; replace HB := Aside0.mk hb; replace HI0 := Aside0.mk hi; clear hi hb hk) | ((with_reducible refine gate_dst (N := 20) rfl ?_); refine Kd.R_lit (Kd.int .i64) _ 3 ?hg (N := 20) ?hd (xs := ([72, 72, 72, 1, 3, 99, 1000, wrap64 (1 + t174)] : List Int)) (inner := [.int .i64 72, .int .i64 72, .int .i64 72, .int .i64 1, .int .i64 3, .int .i64 99, .int .i64 1000, .int .i64 (wrap64 (1 + t174))]) (ok := fun _ => True) (okp := fun _ => True) ?hr ?hp (fun _ hk => hk) trivial (Below.refl _ _) (Nat.le_refl _) (by simp) ?_; (case hd => rfl); (case hg => rfl); (case hr => first | (go_simp; done) | (go_simp; rfl)); (case hp => exact (Reps.one (show Kd.M (Kd.int .i64) _ _ _ 72 [.int .i64 72] from rfl) (Reps.one (show Kd.M (Kd.int .i64) _ _ _ 72 [.int .i64 72] from rfl) (Reps.one (show Kd.M (Kd.int .i64) _ _ _ 72 [.int .i64 72] from rfl) (Reps.one (show Kd.M (Kd.int .i64) _ _ _ 1 [.int .i64 1] from rfl) (Reps.one (show Kd.M (Kd.int .i64) _ _ _ 3 [.int .i64 3] from rfl) (Reps.one (show Kd.M (Kd.int .i64) _ _ _ 99 [.int .i64 99] from rfl) (Reps.one (show Kd.M (Kd.int .i64) _ _ _ 1000 [.int .i64 1000] from rfl) (Reps.one (show Kd.M (Kd.int .i64) _ _ _ (wrap64 (1 + t174)) [.int .i64 (wrap64 (1 + t174))] from rfl) (Reps.none _ _)))))))))); intro v178 w51 ho52 hb hg_ hnew_; clear hg_ hnew_; (first | rw [← Ny177.1] at ho52 | (simp only [Int.reduceToNat] at ho52; rw [← Ny177.1] at ho52)); have HO179 := Aside0.mk (Kd.R_lower (Kd.R_new' ho52 (Kd.R_lt (rq HO170))) (keep_size (w := w) (g := g) (row := none) (kq HK))); replace HO170 := Aside0.mk (Kd.R_elder' (rq HO170) (Kd.R_base ho52) hb); replace HI0 := iB66 HI0 hb; replace HK := kB HK hb; replace HB := zB66 HB hb; replace BK159 := zb BK159 hb; replace BK164 := zb BK164 hb; clear hb ho52; obtain ⟨Ao53, co53, eo53⟩ := Kd.R_slice HO179.1; subst eo53) | ((with_reducible refine gate_callee (f := 61) rfl ?_); refine gl (some 21) Tryz.func61 #[.pointer (some ⟨g, 0, none⟩), .slice Ao53 y177.length co53] ?_; (with_reducible refine (spec_l1Cur_among.calls g s0_0 t175 t176 _ _ y177 t180 t181 t182 w0 _ ?side1 ?side2 ?side3 ?side4 ?side5 A6.1).mono ?_); (case side1 => exact iq66 HI0); (case side2 => exact bq66 HB); (case side3 => repeat (first | exact (Kd.R_reads' HO179.1).2.2 | (with_reducible refine Kd.C_alloc ?_ _) | (with_reducible refine Kd.C_drewN ?_ _) | (with_reducible refine Kd.C_drew ?_))); (case side4 => exact (Kd.R_reads' HO179.1).2.1); (case side5 => exact far_slice (IsS66.own_ne HI0.1 HO179.1 (by decide))); rintro e w54 ⟨rfl, hi, hb, hk⟩; refine ⟨_, rfl, ?_⟩; replace BK159 := kb (o' := .cells #[.int .i64 0, .int .i64 0, .int .i64 0, .int .i64 0] 27 (0, 0)) BK159 hk NB159_0; replace BK164 := kb (o' := .cells #[.int .i64 t160, .int .i64 t161, .int .i64 72, .int .i64 72] 27 (0, 0)) BK164 hk NB164_0; replace HO170 := Aside0.mk (Kd.R_mono (Kd.R_keep (IsS66.apart (show IsS66 w0 _ g s0_0 t175 t176 from iq66 HI0) (rq HO170) (by decide)) hk (fun _ h => h.2)) (fun _ h => h.1)); replace HO179 := Aside0.mk (Kd.R_mono (Kd.R_keep (IsS66.apart (show IsS66 w0 _ g s0_0 t175 t176 from iq66 HI0) (rq HO179) (by decide)) hk (fun _ h => h.2)) (fun _ h => h.1)); replace HK := kT HK hk; replace HB := Aside0.mk hb; replace HI0 := Aside0.mk hi; clear hi hb hk) | ((with_reducible refine gate_callee (f := 54) rfl ?_); refine gl (some 24) Tryz.func54 #[.int .i64 t171, .int .i64 t180] ?_; (with_reducible refine (spec_diCommon.calls k t171 t180 t183 _ A7.1).mono ?_); rintro e w' ⟨rfl, ⟨nd, rfl⟩⟩; refine ⟨_, rfl, ?_⟩; (try (rw [drewN_self w54]; generalize hq_ : World.drewN w54 _ = w54; have n0_ : Aside0 (Kd.R (Kd.int .i64) 3 w54 w.heap.size (fun k_ => some k_ ≠ (.slice Ao53 y177.length co53 : Value).ownBlock) (.slice Ao48 y168.length co48) y168) := ⟨by rw [← hq_]; exact (by (with_reducible repeat (first | apply Kd.R_alloc | apply Kd.R_drewN | apply Kd.R_drew)); exact Kd.R_mono HO170.1 (fun _ hk => hk.2))⟩; have n1_ : Aside0 (Kd.R (Kd.int .i64) 3 w54 w.heap.size (fun k_ => some k_ ≠ (.slice Ao48 y168.length co48 : Value).ownBlock) (.slice Ao53 y177.length co53) y177) := ⟨by rw [← hq_]; exact (by (with_reducible repeat (first | apply Kd.R_alloc | apply Kd.R_drewN | apply Kd.R_drew)); exact Kd.R_mono HO179.1 (fun _ hk => hk.2))⟩; have n2_ : Aside0 (w54.heap[gb159]? = some (.cells #[.int .i64 0, .int .i64 0, .int .i64 0, .int .i64 0] 27 (0, 0))) := ⟨by rw [← hq_]; exact (bk BK159)⟩; have n3_ : Aside0 (w54.heap[gb164]? = some (.cells #[.int .i64 t160, .int .i64 t161, .int .i64 72, .int .i64 72] 27 (0, 0))) := ⟨by rw [← hq_]; exact (bk BK164)⟩; have n4_ : Aside0 (IsS66 w0 w54 g s0_0 t181 t182) := ⟨by rw [← hq_]; exact (iq66 HI0)⟩; have n5_ : Aside0 (KeepBut w w54 g none) := ⟨by rw [← hq_]; exact (kq HK)⟩; have n6_ : Aside0 (Below w0.heap.size w0 w54) := ⟨by rw [← hq_]; exact (bq66 HB)⟩; clear HO170 HO179 BK159 BK164 HI0 HK HB hq_; have HO170 := n0_; have HO179 := n1_; have BK159 := n2_; have BK164 := n3_; have HI0 := n4_; have HK := n5_; have HB := n6_; clear n0_ n1_ n2_ n3_ n4_ n5_ n6_)); obtain ⟨hcz55_0, hcz55_1, hcz55_2, hcz55_3, hfz55_0, hfz55_1, hfz55_2, hfz55_3⟩ := zc4 BK164) | ((with_reducible refine gate_callee (f := 62) rfl ?_); refine gl (some 34) Tryz.func62 #[.pointer (some ⟨g, 0, none⟩), .int .i64 16] ?_; (with_reducible refine (spec_l1Cur_pick.calls g s0_0 t181 t182 16 t184 t185 t186 w0 _ ?side1 ?side2 A9.1).mono ?_); (case side1 => exact iq66 HI0); (case side2 => exact bq66 HB); rintro e w56 ⟨rfl, hi, hb, hk⟩; refine ⟨_, rfl, ?_⟩; replace BK159 := kb (o' := .cells #[.int .i64 0, .int .i64 0, .int .i64 0, .int .i64 0] 27 (0, 0)) BK159 hk NB159_0; replace HO170 := Aside0.mk (Kd.R_mono (Kd.R_keep (IsS66.apart (show IsS66 w0 _ g s0_0 t181 t182 from iq66 HI0) (by (with_reducible repeat (first | apply Kd.R_alloc | apply Kd.R_drewN | apply Kd.R_drew)); exact (Kd.R_mono (Kd.R_far (p := ⟨gb164, 3, none⟩) (Kd.R_far (p := ⟨gb164, 2, none⟩) (Kd.R_types HO170.1 BK164.1 (by decide)) (fun _ hk => hk.2) (.int .i64 (wrap64 (Int.tdiv t171 t183)))) (fun _ hk => hk.2) (.int .i64 (wrap64 (Int.tdiv t180 t183)))) (fun _ h_ => h_.1))) (by decide)) hk (fun _ h => h.2)) (fun _ h => h.1)); replace HO179 := Aside0.mk (Kd.R_mono (Kd.R_keep (IsS66.apart (show IsS66 w0 _ g s0_0 t181 t182 from iq66 HI0) (by (with_reducible repeat (first | apply Kd.R_alloc | apply Kd.R_drewN | apply Kd.R_drew)); exact (Kd.R_mono (Kd.R_far (p := ⟨gb164, 3, none⟩) (Kd.R_far (p := ⟨gb164, 2, none⟩) (Kd.R_types HO179.1 BK164.1 (by decide)) (fun _ hk => hk.2) (.int .i64 (wrap64 (Int.tdiv t171 t183)))) (fun _ hk => hk.2) (.int .i64 (wrap64 (Int.tdiv t180 t183)))) (fun _ h_ => h_.1))) (by decide)) hk (fun _ h => h.2)) (fun _ h => h.1)); replace BK164 := kb (o' := .cells #[.int .i64 t160, .int .i64 t161, .int .i64 (wrap64 (Int.tdiv t171 t183)), .int .i64 (wrap64 (Int.tdiv t180 t183))] 27 (0, 0)) BK164 hk NB164_0; replace HK := kT HK hk; replace HB := Aside0.mk hb; replace HI0 := Aside0.mk hi; clear hi hb hk) | ((with_reducible refine gate_callee (f := 46) rfl ?_); refine gl (some 44) Tryz.func46 #[.pointer (some ⟨g, 0, none⟩)] ?_; (with_reducible refine (spec_l1Cur_turn.calls k g s0_0 t185 t186 t193 t194 t195 t196 w0 _ ?side1 ?side2 A38.1).mono ?_); (case side1 => exact iq66 HI0); (case side2 => exact bq66 HB); rintro e w57 ⟨rfl, hi, hb, hk⟩; refine ⟨_, rfl, ?_⟩; replace BK159 := kb (o' := .cells #[.int .i64 0, .int .i64 0, .int .i64 0, .int .i64 0] 27 (0, 0)) BK159 hk NB159_0; replace BK164 := kb (o' := .cells #[.int .i64 t160, .int .i64 t161, .int .i64 (wrap64 (Int.tdiv t171 t183)), .int .i64 (wrap64 (Int.tdiv t180 t183))] 27 (0, 0)) BK164 hk NB164_0; replace HO170 := Aside0.mk (Kd.R_mono (Kd.R_keep (IsS66.apart (show IsS66 w0 _ g s0_0 t185 t186 from iq66 HI0) (rq HO170) (by decide)) hk (fun _ h => h.2)) (fun _ h => h.1)); replace HO179 := Aside0.mk (Kd.R_mono (Kd.R_keep (IsS66.apart (show IsS66 w0 _ g s0_0 t185 t186 from iq66 HI0) (rq HO179) (by decide)) hk (fun _ h => h.2)) (fun _ h => h.1)); replace HK := kT HK hk; replace HB := Aside0.mk hb; replace HI0 := Aside0.mk hi; clear hi hb hk; obtain ⟨hcz58_0, hcz58_1, hcz58_2, hcz58_3, hfz58_0, hfz58_1, hfz58_2, hfz58_3⟩ := zc4 BK164; have hnb59 := NB159_0.1; have hnc59 := NB0_159.1; obtain ⟨hcz60_0, hcz60_1, hcz60_2, hcz60_3, hfz60_0, hfz60_1, hfz60_2, hfz60_3⟩ := zc4 BK159))
    refine bodyPost_ret (results_cell_row rfl _ _ gb159 27 #[.int .i64 t193, .int .i64 t194, .int .i64 (wrap64 (Int.tdiv t171 t183)), .int .i64 (wrap64 (Int.tdiv t180 t183))] (0, 0) _ rfl (bk BK159) Tryz.underlying27 rfl (by kernel_rfl)) rfl ?_
    exact ⟨er, iq66 HI0, bq66 HB, kq HK⟩
  rw [if_neg c37] at H
  have c37b0 : (t184 == 1) = false := beq_eq_false_iff_ne.mpr c37
  have c37b1 : (t184 != 1) = true := bne_iff_ne.mpr c37
  simp only [Option.some.injEq, Prod.mk.injEq] at H
  obtain ⟨rfl, rfl, rfl, rfl, rfl, rfl⟩ := H
  go_enter Tryz.func74, Tryz.ntmps74
  go_wp2_with (first | ((with_reducible refine gate_dst (N := 2) rfl ?_); refine be #[.int .i64 0, .int .i64 0, .int .i64 0, .int .i64 0] 27 ?_; intro gb159 hg w61 hbox hb; have GW159 := kz HK hg; have GE159 := kv HW0 (kz HK hg); have NB0_159 := Aside0.mk ((by rw [hg]; exact Nat.ne_of_lt (IsS66.lt (show IsS66 w0 _ g s0_0 s0_1 s0_2 from iq66 HI0)) : g ≠ gb159)); have NB159_0 := Aside0.mk NB0_159.1.symm; replace HI0 := iB66 HI0 hb; replace HK := kB HK hb; replace HB := zB66 HB hb; have BK159 := Aside0.mk hbox; clear hb hbox hg) | ((with_reducible refine gate_callee (f := 80) rfl ?_); refine gl (some 8) Tryz.func80 #[.pointer (some ⟨g, 0, none⟩)] ?_; (with_reducible refine (spec_l1Cur_sureTurn.calls k g s0_0 s0_1 s0_2 t160 t161 t162 t163 w0 _ ?side1 ?side2 A2.1).mono ?_); (case side1 => exact iq66 HI0); (case side2 => exact bq66 HB); rintro e w62 ⟨rfl, hi, hb, hk⟩; refine ⟨_, rfl, ?_⟩; replace BK159 := kb (o' := .cells #[.int .i64 0, .int .i64 0, .int .i64 0, .int .i64 0] 27 (0, 0)) BK159 hk NB159_0; replace HK := kT HK hk; replace HB := Aside0.mk hb; replace HI0 := Aside0.mk hi; clear hi hb hk) | ((with_reducible refine gate_dst (N := 3) rfl ?_); refine be #[.int .i64 0, .int .i64 0, .int .i64 0, .int .i64 0] 27 ?_; intro gb164 hg w63 hbox hb; have GW164 := kz HK hg; have GE164 := kv HW0 (kz HK hg); have NB0_164 := Aside0.mk ((by rw [hg]; exact Nat.ne_of_lt (IsS66.lt (show IsS66 w0 _ g s0_0 t162 t163 from iq66 HI0)) : g ≠ gb164)); have NB164_0 := Aside0.mk NB0_164.1.symm; replace HI0 := iB66 HI0 hb; replace HK := kB HK hb; replace HB := zB66 HB hb; have BK164 := Aside0.mk hbox; have NB159_164 := zn BK159 hg; have NB164_159 := zm BK159 hg; replace BK159 := zb BK159 hb; clear hb hbox hg; have hnb64 := NB164_159.1; have hnc64 := NB159_164.1; have hnb65 := NB164_0.1; have hnc65 := NB0_164.1; obtain ⟨hcz66_0, hcz66_1, hcz66_2, hcz66_3, hfz66_0, hfz66_1, hfz66_2, hfz66_3⟩ := zc4 BK164) | ((with_reducible refine gate_callee (f := 62) rfl ?_); refine gl (some 12) Tryz.func62 #[.pointer (some ⟨g, 0, none⟩), .int .i64 50] ?_; (with_reducible refine (spec_l1Cur_pick.calls g s0_0 t162 t163 50 t165 t166 t167 w0 _ ?side1 ?side2 A3.1).mono ?_); (case side1 => exact iq66 HI0); (case side2 => exact bq66 HB); rintro e w67 ⟨rfl, hi, hb, hk⟩; refine ⟨_, rfl, ?_⟩; replace BK159 := kb (o' := .cells #[.int .i64 0, .int .i64 0, .int .i64 0, .int .i64 0] 27 (0, 0)) BK159 hk NB159_0; replace BK164 := kb (o' := .cells #[.int .i64 t160, .int .i64 t161, .int .i64 72, .int .i64 72] 27 (0, 0)) BK164 hk NB164_0; replace HK := kT HK hk; replace HB := Aside0.mk hb; replace HI0 := Aside0.mk hi; clear hi hb hk) | ((with_reducible refine gate_dst (N := 14) rfl ?_); refine Kd.R_lit (Kd.int .i64) _ 3 ?hg (N := 14) ?hd (xs := ([73, 71, 72, 1, 2, 3, 100, 999, 1000, wrap64 (1 + t165)] : List Int)) (inner := [.int .i64 73, .int .i64 71, .int .i64 72, .int .i64 1, .int .i64 2, .int .i64 3, .int .i64 100, .int .i64 999, .int .i64 1000, .int .i64 (wrap64 (1 + t165))]) (ok := fun _ => True) (okp := fun _ => True) ?hr ?hp (fun _ hk => hk) trivial (Below.refl _ _) (Nat.le_refl _) (by simp) ?_; (case hd => rfl); (case hg => rfl); (case hr => first | (go_simp; done) | (go_simp; rfl)); (case hp => exact (Reps.one (show Kd.M (Kd.int .i64) _ _ _ 73 [.int .i64 73] from rfl) (Reps.one (show Kd.M (Kd.int .i64) _ _ _ 71 [.int .i64 71] from rfl) (Reps.one (show Kd.M (Kd.int .i64) _ _ _ 72 [.int .i64 72] from rfl) (Reps.one (show Kd.M (Kd.int .i64) _ _ _ 1 [.int .i64 1] from rfl) (Reps.one (show Kd.M (Kd.int .i64) _ _ _ 2 [.int .i64 2] from rfl) (Reps.one (show Kd.M (Kd.int .i64) _ _ _ 3 [.int .i64 3] from rfl) (Reps.one (show Kd.M (Kd.int .i64) _ _ _ 100 [.int .i64 100] from rfl) (Reps.one (show Kd.M (Kd.int .i64) _ _ _ 999 [.int .i64 999] from rfl) (Reps.one (show Kd.M (Kd.int .i64) _ _ _ 1000 [.int .i64 1000] from rfl) (Reps.one (show Kd.M (Kd.int .i64) _ _ _ (wrap64 (1 + t165)) [.int .i64 (wrap64 (1 + t165))] from rfl) (Reps.none _ _)))))))))))); intro v169 w68 ho69 hb hg_ hnew_; clear hg_ hnew_; (first | rw [← Ny168.1] at ho69 | (simp only [Int.reduceToNat] at ho69; rw [← Ny168.1] at ho69)); have HO170 := Aside0.mk (Kd.R_lower ho69 (keep_size (w := w) (g := g) (row := none) (kq HK))); replace HI0 := iB66 HI0 hb; replace HK := kB HK hb; replace HB := zB66 HB hb; replace BK159 := zb BK159 hb; replace BK164 := zb BK164 hb; clear hb ho69; obtain ⟨Ao70, co70, eo70⟩ := Kd.R_slice HO170.1; subst eo70) | ((with_reducible refine gate_callee (f := 61) rfl ?_); refine gl (some 15) Tryz.func61 #[.pointer (some ⟨g, 0, none⟩), .slice Ao70 y168.length co70] ?_; (with_reducible refine (spec_l1Cur_among.calls g s0_0 t166 t167 _ _ y168 t171 t172 t173 w0 _ ?side1 ?side2 ?side3 ?side4 ?side5 A4.1).mono ?_); (case side1 => exact iq66 HI0); (case side2 => exact bq66 HB); (case side3 => repeat (first | exact (Kd.R_reads' HO170.1).2.2 | (with_reducible refine Kd.C_alloc ?_ _) | (with_reducible refine Kd.C_drewN ?_ _) | (with_reducible refine Kd.C_drew ?_))); (case side4 => exact (Kd.R_reads' HO170.1).2.1); (case side5 => exact far_slice (IsS66.own_ne HI0.1 HO170.1 (by decide))); rintro e w71 ⟨rfl, hi, hb, hk⟩; refine ⟨_, rfl, ?_⟩; replace BK159 := kb (o' := .cells #[.int .i64 0, .int .i64 0, .int .i64 0, .int .i64 0] 27 (0, 0)) BK159 hk NB159_0; replace BK164 := kb (o' := .cells #[.int .i64 t160, .int .i64 t161, .int .i64 72, .int .i64 72] 27 (0, 0)) BK164 hk NB164_0; replace HO170 := Aside0.mk (Kd.R_mono (Kd.R_keep (IsS66.apart (show IsS66 w0 _ g s0_0 t166 t167 from iq66 HI0) (rq HO170) (by decide)) hk (fun _ h => h.2)) (fun _ h => h.1)); replace HK := kT HK hk; replace HB := Aside0.mk hb; replace HI0 := Aside0.mk hi; clear hi hb hk) | ((with_reducible refine gate_callee (f := 62) rfl ?_); refine gl (some 18) Tryz.func62 #[.pointer (some ⟨g, 0, none⟩), .int .i64 50] ?_; (with_reducible refine (spec_l1Cur_pick.calls g s0_0 t172 t173 50 t174 t175 t176 w0 _ ?side1 ?side2 A5.1).mono ?_); (case side1 => exact iq66 HI0); (case side2 => exact bq66 HB); rintro e w72 ⟨rfl, hi, hb, hk⟩; refine ⟨_, rfl, ?_⟩; replace BK159 := kb (o' := .cells #[.int .i64 0, .int .i64 0, .int .i64 0, .int .i64 0] 27 (0, 0)) BK159 hk NB159_0; replace BK164 := kb (o' := .cells #[.int .i64 t160, .int .i64 t161, .int .i64 72, .int .i64 72] 27 (0, 0)) BK164 hk NB164_0; replace HO170 := Aside0.mk (Kd.R_mono (Kd.R_keep (IsS66.apart (show IsS66 w0 _ g s0_0 t172 t173 from iq66 HI0) (rq HO170) (by decide)) hk (fun _ h => h.2)) (fun _ h => h.1)); replace HK := kT HK hk; replace HB := Aside0.mk hb; replace HI0 := Aside0.mk hi; clear hi hb hk) | ((with_reducible refine gate_dst (N := 20) rfl ?_); refine Kd.R_lit (Kd.int .i64) _ 3 ?hg (N := 20) ?hd (xs := ([72, 72, 72, 1, 3, 99, 1000, wrap64 (1 + t174)] : List Int)) (inner := [.int .i64 72, .int .i64 72, .int .i64 72, .int .i64 1, .int .i64 3, .int .i64 99, .int .i64 1000, .int .i64 (wrap64 (1 + t174))]) (ok := fun _ => True) (okp := fun _ => True) ?hr ?hp (fun _ hk => hk) trivial (Below.refl _ _) (Nat.le_refl _) (by simp) ?_; (case hd => rfl); (case hg => rfl); (case hr => first | (go_simp; done) | (go_simp; rfl)); (case hp => exact (Reps.one (show Kd.M (Kd.int .i64) _ _ _ 72 [.int .i64 72] from rfl) (Reps.one (show Kd.M (Kd.int .i64) _ _ _ 72 [.int .i64 72] from rfl) (Reps.one (show Kd.M (Kd.int .i64) _ _ _ 72 [.int .i64 72] from rfl) (Reps.one (show Kd.M (Kd.int .i64) _ _ _ 1 [.int .i64 1] from rfl) (Reps.one (show Kd.M (Kd.int .i64) _ _ _ 3 [.int .i64 3] from rfl) (Reps.one (show Kd.M (Kd.int .i64) _ _ _ 99 [.int .i64 99] from rfl) (Reps.one (show Kd.M (Kd.int .i64) _ _ _ 1000 [.int .i64 1000] from rfl) (Reps.one (show Kd.M (Kd.int .i64) _ _ _ (wrap64 (1 + t174)) [.int .i64 (wrap64 (1 + t174))] from rfl) (Reps.none _ _)))))))))); intro v178 w73 ho74 hb hg_ hnew_; clear hg_ hnew_; (first | rw [← Ny177.1] at ho74 | (simp only [Int.reduceToNat] at ho74; rw [← Ny177.1] at ho74)); have HO179 := Aside0.mk (Kd.R_lower (Kd.R_new' ho74 (Kd.R_lt (rq HO170))) (keep_size (w := w) (g := g) (row := none) (kq HK))); replace HO170 := Aside0.mk (Kd.R_elder' (rq HO170) (Kd.R_base ho74) hb); replace HI0 := iB66 HI0 hb; replace HK := kB HK hb; replace HB := zB66 HB hb; replace BK159 := zb BK159 hb; replace BK164 := zb BK164 hb; clear hb ho74; obtain ⟨Ao75, co75, eo75⟩ := Kd.R_slice HO179.1; subst eo75) | ((with_reducible refine gate_callee (f := 61) rfl ?_); refine gl (some 21) Tryz.func61 #[.pointer (some ⟨g, 0, none⟩), .slice Ao75 y177.length co75] ?_; (with_reducible refine (spec_l1Cur_among.calls g s0_0 t175 t176 _ _ y177 t180 t181 t182 w0 _ ?side1 ?side2 ?side3 ?side4 ?side5 A6.1).mono ?_); (case side1 => exact iq66 HI0); (case side2 => exact bq66 HB); (case side3 => repeat (first | exact (Kd.R_reads' HO179.1).2.2 | (with_reducible refine Kd.C_alloc ?_ _) | (with_reducible refine Kd.C_drewN ?_ _) | (with_reducible refine Kd.C_drew ?_))); (case side4 => exact (Kd.R_reads' HO179.1).2.1); (case side5 => exact far_slice (IsS66.own_ne HI0.1 HO179.1 (by decide))); rintro e w76 ⟨rfl, hi, hb, hk⟩; refine ⟨_, rfl, ?_⟩; replace BK159 := kb (o' := .cells #[.int .i64 0, .int .i64 0, .int .i64 0, .int .i64 0] 27 (0, 0)) BK159 hk NB159_0; replace BK164 := kb (o' := .cells #[.int .i64 t160, .int .i64 t161, .int .i64 72, .int .i64 72] 27 (0, 0)) BK164 hk NB164_0; replace HO170 := Aside0.mk (Kd.R_mono (Kd.R_keep (IsS66.apart (show IsS66 w0 _ g s0_0 t175 t176 from iq66 HI0) (rq HO170) (by decide)) hk (fun _ h => h.2)) (fun _ h => h.1)); replace HO179 := Aside0.mk (Kd.R_mono (Kd.R_keep (IsS66.apart (show IsS66 w0 _ g s0_0 t175 t176 from iq66 HI0) (rq HO179) (by decide)) hk (fun _ h => h.2)) (fun _ h => h.1)); replace HK := kT HK hk; replace HB := Aside0.mk hb; replace HI0 := Aside0.mk hi; clear hi hb hk) | ((with_reducible refine gate_callee (f := 54) rfl ?_); refine gl (some 24) Tryz.func54 #[.int .i64 t171, .int .i64 t180] ?_; (with_reducible refine (spec_diCommon.calls k t171 t180 t183 _ A7.1).mono ?_); rintro e w' ⟨rfl, ⟨nd, rfl⟩⟩; refine ⟨_, rfl, ?_⟩; (try (rw [drewN_self w76]; generalize hq_ : World.drewN w76 _ = w76; have n0_ : Aside0 (Kd.R (Kd.int .i64) 3 w76 w.heap.size (fun k_ => some k_ ≠ (.slice Ao75 y177.length co75 : Value).ownBlock) (.slice Ao70 y168.length co70) y168) := ⟨by rw [← hq_]; exact (by (with_reducible repeat (first | apply Kd.R_alloc | apply Kd.R_drewN | apply Kd.R_drew)); exact Kd.R_mono HO170.1 (fun _ hk => hk.2))⟩; have n1_ : Aside0 (Kd.R (Kd.int .i64) 3 w76 w.heap.size (fun k_ => some k_ ≠ (.slice Ao70 y168.length co70 : Value).ownBlock) (.slice Ao75 y177.length co75) y177) := ⟨by rw [← hq_]; exact (by (with_reducible repeat (first | apply Kd.R_alloc | apply Kd.R_drewN | apply Kd.R_drew)); exact Kd.R_mono HO179.1 (fun _ hk => hk.2))⟩; have n2_ : Aside0 (w76.heap[gb159]? = some (.cells #[.int .i64 0, .int .i64 0, .int .i64 0, .int .i64 0] 27 (0, 0))) := ⟨by rw [← hq_]; exact (bk BK159)⟩; have n3_ : Aside0 (w76.heap[gb164]? = some (.cells #[.int .i64 t160, .int .i64 t161, .int .i64 72, .int .i64 72] 27 (0, 0))) := ⟨by rw [← hq_]; exact (bk BK164)⟩; have n4_ : Aside0 (IsS66 w0 w76 g s0_0 t181 t182) := ⟨by rw [← hq_]; exact (iq66 HI0)⟩; have n5_ : Aside0 (KeepBut w w76 g none) := ⟨by rw [← hq_]; exact (kq HK)⟩; have n6_ : Aside0 (Below w0.heap.size w0 w76) := ⟨by rw [← hq_]; exact (bq66 HB)⟩; clear HO170 HO179 BK159 BK164 HI0 HK HB hq_; have HO170 := n0_; have HO179 := n1_; have BK159 := n2_; have BK164 := n3_; have HI0 := n4_; have HK := n5_; have HB := n6_; clear n0_ n1_ n2_ n3_ n4_ n5_ n6_)); obtain ⟨hcz77_0, hcz77_1, hcz77_2, hcz77_3, hfz77_0, hfz77_1, hfz77_2, hfz77_3⟩ := zc4 BK164) | ((with_reducible refine gate_callee (f := 62) rfl ?_); refine gl (some 34) Tryz.func62 #[.pointer (some ⟨g, 0, none⟩), .int .i64 16] ?_; (with_reducible refine (spec_l1Cur_pick.calls g s0_0 t181 t182 16 t184 t185 t186 w0 _ ?side1 ?side2 A9.1).mono ?_); (case side1 => exact iq66 HI0); (case side2 => exact bq66 HB); rintro e w78 ⟨rfl, hi, hb, hk⟩; refine ⟨_, rfl, ?_⟩; replace BK159 := kb (o' := .cells #[.int .i64 0, .int .i64 0, .int .i64 0, .int .i64 0] 27 (0, 0)) BK159 hk NB159_0; replace HO170 := Aside0.mk (Kd.R_mono (Kd.R_keep (IsS66.apart (show IsS66 w0 _ g s0_0 t181 t182 from iq66 HI0) (by (with_reducible repeat (first | apply Kd.R_alloc | apply Kd.R_drewN | apply Kd.R_drew)); exact (Kd.R_mono (Kd.R_far (p := ⟨gb164, 3, none⟩) (Kd.R_far (p := ⟨gb164, 2, none⟩) (Kd.R_types HO170.1 BK164.1 (by decide)) (fun _ hk => hk.2) (.int .i64 (wrap64 (Int.tdiv t171 t183)))) (fun _ hk => hk.2) (.int .i64 (wrap64 (Int.tdiv t180 t183)))) (fun _ h_ => h_.1))) (by decide)) hk (fun _ h => h.2)) (fun _ h => h.1)); replace HO179 := Aside0.mk (Kd.R_mono (Kd.R_keep (IsS66.apart (show IsS66 w0 _ g s0_0 t181 t182 from iq66 HI0) (by (with_reducible repeat (first | apply Kd.R_alloc | apply Kd.R_drewN | apply Kd.R_drew)); exact (Kd.R_mono (Kd.R_far (p := ⟨gb164, 3, none⟩) (Kd.R_far (p := ⟨gb164, 2, none⟩) (Kd.R_types HO179.1 BK164.1 (by decide)) (fun _ hk => hk.2) (.int .i64 (wrap64 (Int.tdiv t171 t183)))) (fun _ hk => hk.2) (.int .i64 (wrap64 (Int.tdiv t180 t183)))) (fun _ h_ => h_.1))) (by decide)) hk (fun _ h => h.2)) (fun _ h => h.1)); replace BK164 := kb (o' := .cells #[.int .i64 t160, .int .i64 t161, .int .i64 (wrap64 (Int.tdiv t171 t183)), .int .i64 (wrap64 (Int.tdiv t180 t183))] 27 (0, 0)) BK164 hk NB164_0; replace HK := kT HK hk; replace HB := Aside0.mk hb; replace HI0 := Aside0.mk hi; clear hi hb hk; obtain ⟨hcz79_0, hcz79_1, hcz79_2, hcz79_3, hfz79_0, hfz79_1, hfz79_2, hfz79_3⟩ := zc4 BK164; have hnb80 := NB159_0.1; have hnc80 := NB0_159.1; obtain ⟨hcz81_0, hcz81_1, hcz81_2, hcz81_3, hfz81_0, hfz81_1, hfz81_2, hfz81_3⟩ := zc4 BK159))
  refine bodyPost_ret (results_cell_row rfl _ _ gb159 27 #[.int .i64 t160, .int .i64 t161, .int .i64 (wrap64 (Int.tdiv t171 t183)), .int .i64 (wrap64 (Int.tdiv t180 t183))] (0, 0) _ rfl (bk BK159) Tryz.underlying27 rfl (by kernel_rfl)) rfl ?_
  exact ⟨er, iq66 HI0, bq66 HB, kq HK⟩

/-! ### spec_DrawAgreeEvery: function 35 -/
/-! own: the blocks that the call has laid, under one name -/
structure Own (w0 : World) (bs : List (Nat × Obj)) (w : World) : Prop where
  below : Below w0.heap.size w0 w
  at_ : ∀ (i g : Nat) (o : Obj), bs[i]? = some (g, o) → w0.heap.size ≤ g ∧ w.heap[g]? = some o
  apart : (bs.map (·.1)).Pairwise (· < ·)
theorem Own.start (w : World) : Own w [] w := ⟨Below.refl _ _, fun i g o h => by simp at h, List.Pairwise.nil⟩
section
variable {w0 w w' : World} {bs : List (Nat × Obj)}
theorem Own.call (h : Own w0 bs w) (hb : Below w.heap.size w w') : Own w0 bs w' :=
  ⟨below_step h.below hb, fun i g o e => ⟨(h.at_ i g o e).1, blk_below (h.at_ i g o e).2 hb⟩, h.apart⟩
theorem Own.drew (h : Own w0 bs w) : Own w0 bs w.drew := ⟨below_drew1 h.below, fun i g o e => h.at_ i g o e, h.apart⟩
theorem Own.drewN (h : Own w0 bs w) (n : Nat) : Own w0 bs (w.drewN n) := ⟨pw_below_drewN h.below n, fun i g o e => h.at_ i g o e, h.apart⟩
theorem Own.alloc (h : Own w0 bs w) (o : Obj) : Own w0 (bs ++ [(w.heap.size, o)]) (w.alloc o) := by
  refine ⟨below_alloc h.below o, fun i g o' e => ?_, ?_⟩
  · by_cases hi : i < bs.length
    · rw [List.getElem?_append_left hi] at e
      exact ⟨(h.at_ i g o' e).1, blk_alloc (h.at_ i g o' e).2 o⟩
    rw [List.getElem?_append_right (by omega)] at e
    have h0 : i - bs.length = 0 := by
      have := (List.getElem?_eq_some_iff.1 e).1
      simp at this
      omega
    rw [h0] at e
    simp only [List.getElem?_cons_zero, Option.some.injEq, Prod.mk.injEq] at e
    obtain ⟨rfl, rfl⟩ := e
    exact ⟨h.below.size, blk_new w _⟩
  rw [List.map_append, List.pairwise_append]
  refine ⟨h.apart, by simp, fun a ha b hb => ?_⟩
  simp only [List.map_cons, List.map_nil, List.mem_singleton] at hb
  subst hb
  obtain ⟨⟨g, o'⟩, hm, rfl⟩ := List.mem_map.1 ha
  obtain ⟨i, hi⟩ := List.mem_iff_getElem?.1 hm
  exact blk_lt (h.at_ i g o' hi).2
theorem Own.ne (h : Own w0 bs w) {i j g g' : Nat} {o o' : Obj} (hi : bs[i]? = some (g, o)) (hj : bs[j]? = some (g', o')) (hij : i ≠ j) : g ≠ g' := by
  have hp := List.pairwise_iff_getElem.1 h.apart
  have li := (List.getElem?_eq_some_iff.1 hi).1
  have lj := (List.getElem?_eq_some_iff.1 hj).1
  have ei : (bs.map (·.1))[i]'(by simpa using li) = g := by simp [(List.getElem?_eq_some_iff.1 hi).2]
  have ej : (bs.map (·.1))[j]'(by simpa using lj) = g' := by simp [(List.getElem?_eq_some_iff.1 hj).2]
  rcases Nat.lt_or_gt_of_ne hij with k | k
  · have := hp i j (by simpa using li) (by simpa using lj) k
    rw [ei, ej] at this
    omega
  have := hp j i (by simpa using lj) (by simpa using li) k
  rw [ei, ej] at this
  omega
theorem Own.set (h : Own w0 bs w) (i : Nat) {g : Nat} {cs : Array Value} {t : TypeId} (e : bs[i]? = some (g, .cells cs t (0, 0))) (j : Nat) (v : Value) : Own w0 (bs.set i (g, .cells (cs.setIfInBounds j v) t (0, 0))) (w.setCell ⟨g, j, none⟩ v) := by
  refine ⟨below_set h.below (h.at_ i g _ e).1, fun k g' o' ek => ?_, ?_⟩
  · rw [List.getElem?_set] at ek
    by_cases hk : i = k
    · subst hk
      have hl := (List.getElem?_eq_some_iff.1 e).1
      rw [if_pos rfl, if_pos hl] at ek
      simp only [Option.some.injEq, Prod.mk.injEq] at ek
      obtain ⟨rfl, rfl⟩ := ek
      exact ⟨(h.at_ i g _ e).1, blk_put (h.at_ i g _ e).2 j v rfl⟩
    rw [if_neg hk] at ek
    refine ⟨(h.at_ k g' o' ek).1, ?_⟩
    have hne := h.ne e ek hk
    exact (Below.heap_setCell w ⟨g, j, none⟩ v g' (Ne.symm hne)).trans (h.at_ k g' o' ek).2
  have : (bs.set i (g, Obj.cells (cs.setIfInBounds j v) t (0, 0))).map (·.1) = bs.map (·.1) := by
    rw [List.map_set]
    refine List.ext_getElem? fun k => ?_
    rw [List.getElem?_set]
    by_cases hk : i = k
    · subst hk
      have hl := (List.getElem?_eq_some_iff.1 e).1
      rw [if_pos rfl, if_pos (by simpa using hl), List.getElem?_map, e]
      rfl
    rw [if_neg hk]
  rw [this]; exact h.apart
end
section
variable {w0 w : World} {bs : List (Nat × Obj)} {P : Program} {Q : Exit → Act → World → Prop} {c : Code} {a : Act}
theorem Own.gen (h : Own w0 bs w) (k : ∀ w2, Own w0 bs w2 → c.wp P Q a w2) : c.wp P Q a w := k w h
end
theorem Own.c1 {w0 w : World} {bs : List (Nat × Obj)} (h : Own w0 bs w) (i : Nat) {g : Nat} {x0 : Value} {t : TypeId} (e : bs[i]? = some (g, .cells #[x0] t (0, 0))) : w.cell? ⟨g, 0, none⟩ = some x0 ∧ w.frozen? ⟨g, 0, none⟩ = false := by
  have z := (h.at_ i g _ e).2
  exact ⟨(blk_cell z 0).trans rfl, blk_frozen z 0⟩
theorem Own.c2 {w0 w : World} {bs : List (Nat × Obj)} (h : Own w0 bs w) (i : Nat) {g : Nat} {x0 x1 : Value} {t : TypeId} (e : bs[i]? = some (g, .cells #[x0, x1] t (0, 0))) : w.cell? ⟨g, 0, none⟩ = some x0 ∧ w.cell? ⟨g, 1, none⟩ = some x1 ∧ w.frozen? ⟨g, 0, none⟩ = false ∧ w.frozen? ⟨g, 1, none⟩ = false := by
  have z := (h.at_ i g _ e).2
  exact ⟨(blk_cell z 0).trans rfl, (blk_cell z 1).trans rfl, blk_frozen z 0, blk_frozen z 1⟩
theorem Own.c3 {w0 w : World} {bs : List (Nat × Obj)} (h : Own w0 bs w) (i : Nat) {g : Nat} {x0 x1 x2 : Value} {t : TypeId} (e : bs[i]? = some (g, .cells #[x0, x1, x2] t (0, 0))) : w.cell? ⟨g, 0, none⟩ = some x0 ∧ w.cell? ⟨g, 1, none⟩ = some x1 ∧ w.cell? ⟨g, 2, none⟩ = some x2 ∧ w.frozen? ⟨g, 0, none⟩ = false ∧ w.frozen? ⟨g, 1, none⟩ = false ∧ w.frozen? ⟨g, 2, none⟩ = false := by
  have z := (h.at_ i g _ e).2
  exact ⟨(blk_cell z 0).trans rfl, (blk_cell z 1).trans rfl, (blk_cell z 2).trans rfl, blk_frozen z 0, blk_frozen z 1, blk_frozen z 2⟩
theorem Own.c4 {w0 w : World} {bs : List (Nat × Obj)} (h : Own w0 bs w) (i : Nat) {g : Nat} {x0 x1 x2 x3 : Value} {t : TypeId} (e : bs[i]? = some (g, .cells #[x0, x1, x2, x3] t (0, 0))) : w.cell? ⟨g, 0, none⟩ = some x0 ∧ w.cell? ⟨g, 1, none⟩ = some x1 ∧ w.cell? ⟨g, 2, none⟩ = some x2 ∧ w.cell? ⟨g, 3, none⟩ = some x3 ∧ w.frozen? ⟨g, 0, none⟩ = false ∧ w.frozen? ⟨g, 1, none⟩ = false ∧ w.frozen? ⟨g, 2, none⟩ = false ∧ w.frozen? ⟨g, 3, none⟩ = false := by
  have z := (h.at_ i g _ e).2
  exact ⟨(blk_cell z 0).trans rfl, (blk_cell z 1).trans rfl, (blk_cell z 2).trans rfl, (blk_cell z 3).trans rfl, blk_frozen z 0, blk_frozen z 1, blk_frozen z 2, blk_frozen z 3⟩
theorem Own.c5 {w0 w : World} {bs : List (Nat × Obj)} (h : Own w0 bs w) (i : Nat) {g : Nat} {x0 x1 x2 x3 x4 : Value} {t : TypeId} (e : bs[i]? = some (g, .cells #[x0, x1, x2, x3, x4] t (0, 0))) : w.cell? ⟨g, 0, none⟩ = some x0 ∧ w.cell? ⟨g, 1, none⟩ = some x1 ∧ w.cell? ⟨g, 2, none⟩ = some x2 ∧ w.cell? ⟨g, 3, none⟩ = some x3 ∧ w.cell? ⟨g, 4, none⟩ = some x4 ∧ w.frozen? ⟨g, 0, none⟩ = false ∧ w.frozen? ⟨g, 1, none⟩ = false ∧ w.frozen? ⟨g, 2, none⟩ = false ∧ w.frozen? ⟨g, 3, none⟩ = false ∧ w.frozen? ⟨g, 4, none⟩ = false := by
  have z := (h.at_ i g _ e).2
  exact ⟨(blk_cell z 0).trans rfl, (blk_cell z 1).trans rfl, (blk_cell z 2).trans rfl, (blk_cell z 3).trans rfl, (blk_cell z 4).trans rfl, blk_frozen z 0, blk_frozen z 1, blk_frozen z 2, blk_frozen z 3, blk_frozen z 4⟩
/-- A new block, and what is laid into it at once. -/
theorem Own.new1 {w0 w : World} {bs : List (Nat × Obj)} (h : Own w0 bs w) {z0 v0 : Value} {t : TypeId} : Own w0 (bs ++ [(w.heap.size, .cells #[v0] t (0, 0))]) ((w.alloc (.cells #[z0] t (0, 0))).setCell ⟨w.heap.size, 0, none⟩ v0) := by
  have h0 := h.alloc (.cells #[z0] t (0, 0))
  have h1 : Own w0 (bs ++ [(w.heap.size, .cells #[v0] t (0, 0))]) ((w.alloc (.cells #[z0] t (0, 0))).setCell ⟨w.heap.size, 0, none⟩ v0) := by simpa [List.set_append_right] using h0.set bs.length (g := w.heap.size) (cs := #[z0]) (t := t) (by simp) 0 v0
  exact h1
/-- A new block, and what is laid into it at once. -/
theorem Own.new2 {w0 w : World} {bs : List (Nat × Obj)} (h : Own w0 bs w) {z0 z1 v0 v1 : Value} {t : TypeId} : Own w0 (bs ++ [(w.heap.size, .cells #[v0, v1] t (0, 0))]) (((w.alloc (.cells #[z0, z1] t (0, 0))).setCell ⟨w.heap.size, 0, none⟩ v0).setCell ⟨w.heap.size, 1, none⟩ v1) := by
  have h0 := h.alloc (.cells #[z0, z1] t (0, 0))
  have h1 : Own w0 (bs ++ [(w.heap.size, .cells #[v0, z1] t (0, 0))]) ((w.alloc (.cells #[z0, z1] t (0, 0))).setCell ⟨w.heap.size, 0, none⟩ v0) := by simpa [List.set_append_right] using h0.set bs.length (g := w.heap.size) (cs := #[z0, z1]) (t := t) (by simp) 0 v0
  have h2 : Own w0 (bs ++ [(w.heap.size, .cells #[v0, v1] t (0, 0))]) (((w.alloc (.cells #[z0, z1] t (0, 0))).setCell ⟨w.heap.size, 0, none⟩ v0).setCell ⟨w.heap.size, 1, none⟩ v1) := by simpa [List.set_append_right] using h1.set bs.length (g := w.heap.size) (cs := #[v0, z1]) (t := t) (by simp) 1 v1
  exact h2
/-- A new block, and what is laid into it at once. -/
theorem Own.new3 {w0 w : World} {bs : List (Nat × Obj)} (h : Own w0 bs w) {z0 z1 z2 v0 v1 v2 : Value} {t : TypeId} : Own w0 (bs ++ [(w.heap.size, .cells #[v0, v1, v2] t (0, 0))]) ((((w.alloc (.cells #[z0, z1, z2] t (0, 0))).setCell ⟨w.heap.size, 0, none⟩ v0).setCell ⟨w.heap.size, 1, none⟩ v1).setCell ⟨w.heap.size, 2, none⟩ v2) := by
  have h0 := h.alloc (.cells #[z0, z1, z2] t (0, 0))
  have h1 : Own w0 (bs ++ [(w.heap.size, .cells #[v0, z1, z2] t (0, 0))]) ((w.alloc (.cells #[z0, z1, z2] t (0, 0))).setCell ⟨w.heap.size, 0, none⟩ v0) := by simpa [List.set_append_right] using h0.set bs.length (g := w.heap.size) (cs := #[z0, z1, z2]) (t := t) (by simp) 0 v0
  have h2 : Own w0 (bs ++ [(w.heap.size, .cells #[v0, v1, z2] t (0, 0))]) (((w.alloc (.cells #[z0, z1, z2] t (0, 0))).setCell ⟨w.heap.size, 0, none⟩ v0).setCell ⟨w.heap.size, 1, none⟩ v1) := by simpa [List.set_append_right] using h1.set bs.length (g := w.heap.size) (cs := #[v0, z1, z2]) (t := t) (by simp) 1 v1
  have h3 : Own w0 (bs ++ [(w.heap.size, .cells #[v0, v1, v2] t (0, 0))]) ((((w.alloc (.cells #[z0, z1, z2] t (0, 0))).setCell ⟨w.heap.size, 0, none⟩ v0).setCell ⟨w.heap.size, 1, none⟩ v1).setCell ⟨w.heap.size, 2, none⟩ v2) := by simpa [List.set_append_right] using h2.set bs.length (g := w.heap.size) (cs := #[v0, v1, z2]) (t := t) (by simp) 2 v2
  exact h3
/-- A new block, and what is laid into it at once. -/
theorem Own.new4 {w0 w : World} {bs : List (Nat × Obj)} (h : Own w0 bs w) {z0 z1 z2 z3 v0 v1 v2 v3 : Value} {t : TypeId} : Own w0 (bs ++ [(w.heap.size, .cells #[v0, v1, v2, v3] t (0, 0))]) (((((w.alloc (.cells #[z0, z1, z2, z3] t (0, 0))).setCell ⟨w.heap.size, 0, none⟩ v0).setCell ⟨w.heap.size, 1, none⟩ v1).setCell ⟨w.heap.size, 2, none⟩ v2).setCell ⟨w.heap.size, 3, none⟩ v3) := by
  have h0 := h.alloc (.cells #[z0, z1, z2, z3] t (0, 0))
  have h1 : Own w0 (bs ++ [(w.heap.size, .cells #[v0, z1, z2, z3] t (0, 0))]) ((w.alloc (.cells #[z0, z1, z2, z3] t (0, 0))).setCell ⟨w.heap.size, 0, none⟩ v0) := by simpa [List.set_append_right] using h0.set bs.length (g := w.heap.size) (cs := #[z0, z1, z2, z3]) (t := t) (by simp) 0 v0
  have h2 : Own w0 (bs ++ [(w.heap.size, .cells #[v0, v1, z2, z3] t (0, 0))]) (((w.alloc (.cells #[z0, z1, z2, z3] t (0, 0))).setCell ⟨w.heap.size, 0, none⟩ v0).setCell ⟨w.heap.size, 1, none⟩ v1) := by simpa [List.set_append_right] using h1.set bs.length (g := w.heap.size) (cs := #[v0, z1, z2, z3]) (t := t) (by simp) 1 v1
  have h3 : Own w0 (bs ++ [(w.heap.size, .cells #[v0, v1, v2, z3] t (0, 0))]) ((((w.alloc (.cells #[z0, z1, z2, z3] t (0, 0))).setCell ⟨w.heap.size, 0, none⟩ v0).setCell ⟨w.heap.size, 1, none⟩ v1).setCell ⟨w.heap.size, 2, none⟩ v2) := by simpa [List.set_append_right] using h2.set bs.length (g := w.heap.size) (cs := #[v0, v1, z2, z3]) (t := t) (by simp) 2 v2
  have h4 : Own w0 (bs ++ [(w.heap.size, .cells #[v0, v1, v2, v3] t (0, 0))]) (((((w.alloc (.cells #[z0, z1, z2, z3] t (0, 0))).setCell ⟨w.heap.size, 0, none⟩ v0).setCell ⟨w.heap.size, 1, none⟩ v1).setCell ⟨w.heap.size, 2, none⟩ v2).setCell ⟨w.heap.size, 3, none⟩ v3) := by simpa [List.set_append_right] using h3.set bs.length (g := w.heap.size) (cs := #[v0, v1, v2, z3]) (t := t) (by simp) 3 v3
  exact h4
/-- A new block, and what is laid into it at once. -/
theorem Own.new5 {w0 w : World} {bs : List (Nat × Obj)} (h : Own w0 bs w) {z0 z1 z2 z3 z4 v0 v1 v2 v3 v4 : Value} {t : TypeId} : Own w0 (bs ++ [(w.heap.size, .cells #[v0, v1, v2, v3, v4] t (0, 0))]) ((((((w.alloc (.cells #[z0, z1, z2, z3, z4] t (0, 0))).setCell ⟨w.heap.size, 0, none⟩ v0).setCell ⟨w.heap.size, 1, none⟩ v1).setCell ⟨w.heap.size, 2, none⟩ v2).setCell ⟨w.heap.size, 3, none⟩ v3).setCell ⟨w.heap.size, 4, none⟩ v4) := by
  have h0 := h.alloc (.cells #[z0, z1, z2, z3, z4] t (0, 0))
  have h1 : Own w0 (bs ++ [(w.heap.size, .cells #[v0, z1, z2, z3, z4] t (0, 0))]) ((w.alloc (.cells #[z0, z1, z2, z3, z4] t (0, 0))).setCell ⟨w.heap.size, 0, none⟩ v0) := by simpa [List.set_append_right] using h0.set bs.length (g := w.heap.size) (cs := #[z0, z1, z2, z3, z4]) (t := t) (by simp) 0 v0
  have h2 : Own w0 (bs ++ [(w.heap.size, .cells #[v0, v1, z2, z3, z4] t (0, 0))]) (((w.alloc (.cells #[z0, z1, z2, z3, z4] t (0, 0))).setCell ⟨w.heap.size, 0, none⟩ v0).setCell ⟨w.heap.size, 1, none⟩ v1) := by simpa [List.set_append_right] using h1.set bs.length (g := w.heap.size) (cs := #[v0, z1, z2, z3, z4]) (t := t) (by simp) 1 v1
  have h3 : Own w0 (bs ++ [(w.heap.size, .cells #[v0, v1, v2, z3, z4] t (0, 0))]) ((((w.alloc (.cells #[z0, z1, z2, z3, z4] t (0, 0))).setCell ⟨w.heap.size, 0, none⟩ v0).setCell ⟨w.heap.size, 1, none⟩ v1).setCell ⟨w.heap.size, 2, none⟩ v2) := by simpa [List.set_append_right] using h2.set bs.length (g := w.heap.size) (cs := #[v0, v1, z2, z3, z4]) (t := t) (by simp) 2 v2
  have h4 : Own w0 (bs ++ [(w.heap.size, .cells #[v0, v1, v2, v3, z4] t (0, 0))]) (((((w.alloc (.cells #[z0, z1, z2, z3, z4] t (0, 0))).setCell ⟨w.heap.size, 0, none⟩ v0).setCell ⟨w.heap.size, 1, none⟩ v1).setCell ⟨w.heap.size, 2, none⟩ v2).setCell ⟨w.heap.size, 3, none⟩ v3) := by simpa [List.set_append_right] using h3.set bs.length (g := w.heap.size) (cs := #[v0, v1, v2, z3, z4]) (t := t) (by simp) 3 v3
  have h5 : Own w0 (bs ++ [(w.heap.size, .cells #[v0, v1, v2, v3, v4] t (0, 0))]) ((((((w.alloc (.cells #[z0, z1, z2, z3, z4] t (0, 0))).setCell ⟨w.heap.size, 0, none⟩ v0).setCell ⟨w.heap.size, 1, none⟩ v1).setCell ⟨w.heap.size, 2, none⟩ v2).setCell ⟨w.heap.size, 3, none⟩ v3).setCell ⟨w.heap.size, 4, none⟩ v4) := by simpa [List.set_append_right] using h4.set bs.length (g := w.heap.size) (cs := #[v0, v1, v2, v3, z4]) (t := t) (by simp) 4 v4
  exact h5
theorem size_alloc_ (w : World) (o : Obj) : (w.alloc o).heap.size = w.heap.size + 1 := by unfold World.alloc; simp
theorem Own.alloc_at {w0 w : World} {bs : List (Nat × Obj)} (h : Own w0 bs w) {n : Nat} (e : w.heap.size = n) (o : Obj) : Own w0 (bs ++ [(n, o)]) (w.alloc o) ∧ (w.alloc o).heap.size = n + 1 := ⟨e ▸ h.alloc o, by rw [size_alloc_, e]⟩
theorem Own.boxes1 (w : World) {o0 : Obj} : Own w [(w.heap.size, o0)] (w.alloc o0) := by
  have h0 := (Own.start w).alloc_at rfl o0
  exact h0.1
theorem Own.boxes2 (w : World) {o0 o1 : Obj} : Own w [(w.heap.size, o0), (w.heap.size + 1, o1)] ((w.alloc o0).alloc o1) := by
  have h0 := (Own.start w).alloc_at rfl o0
  have h1 := h0.1.alloc_at h0.2 o1
  exact h1.1
theorem Own.boxes3 (w : World) {o0 o1 o2 : Obj} : Own w [(w.heap.size, o0), (w.heap.size + 1, o1), (w.heap.size + 1 + 1, o2)] (((w.alloc o0).alloc o1).alloc o2) := by
  have h0 := (Own.start w).alloc_at rfl o0
  have h1 := h0.1.alloc_at h0.2 o1
  have h2 := h1.1.alloc_at h1.2 o2
  exact h2.1
theorem Own.boxes4 (w : World) {o0 o1 o2 o3 : Obj} : Own w [(w.heap.size, o0), (w.heap.size + 1, o1), (w.heap.size + 1 + 1, o2), (w.heap.size + 1 + 1 + 1, o3)] ((((w.alloc o0).alloc o1).alloc o2).alloc o3) := by
  have h0 := (Own.start w).alloc_at rfl o0
  have h1 := h0.1.alloc_at h0.2 o1
  have h2 := h1.1.alloc_at h1.2 o2
  have h3 := h2.1.alloc_at h2.2 o3
  exact h3.1
theorem Own.boxes5 (w : World) {o0 o1 o2 o3 o4 : Obj} : Own w [(w.heap.size, o0), (w.heap.size + 1, o1), (w.heap.size + 1 + 1, o2), (w.heap.size + 1 + 1 + 1, o3), (w.heap.size + 1 + 1 + 1 + 1, o4)] (((((w.alloc o0).alloc o1).alloc o2).alloc o3).alloc o4) := by
  have h0 := (Own.start w).alloc_at rfl o0
  have h1 := h0.1.alloc_at h0.2 o1
  have h2 := h1.1.alloc_at h1.2 o2
  have h3 := h2.1.alloc_at h2.2 o3
  have h4 := h3.1.alloc_at h3.2 o4
  exact h4.1
theorem Own.boxes6 (w : World) {o0 o1 o2 o3 o4 o5 : Obj} : Own w [(w.heap.size, o0), (w.heap.size + 1, o1), (w.heap.size + 1 + 1, o2), (w.heap.size + 1 + 1 + 1, o3), (w.heap.size + 1 + 1 + 1 + 1, o4), (w.heap.size + 1 + 1 + 1 + 1 + 1, o5)] ((((((w.alloc o0).alloc o1).alloc o2).alloc o3).alloc o4).alloc o5) := by
  have h0 := (Own.start w).alloc_at rfl o0
  have h1 := h0.1.alloc_at h0.2 o1
  have h2 := h1.1.alloc_at h1.2 o2
  have h3 := h2.1.alloc_at h2.2 o3
  have h4 := h3.1.alloc_at h3.2 o4
  have h5 := h4.1.alloc_at h4.2 o5
  exact h5.1
theorem Own.boxes7 (w : World) {o0 o1 o2 o3 o4 o5 o6 : Obj} : Own w [(w.heap.size, o0), (w.heap.size + 1, o1), (w.heap.size + 1 + 1, o2), (w.heap.size + 1 + 1 + 1, o3), (w.heap.size + 1 + 1 + 1 + 1, o4), (w.heap.size + 1 + 1 + 1 + 1 + 1, o5), (w.heap.size + 1 + 1 + 1 + 1 + 1 + 1, o6)] (((((((w.alloc o0).alloc o1).alloc o2).alloc o3).alloc o4).alloc o5).alloc o6) := by
  have h0 := (Own.start w).alloc_at rfl o0
  have h1 := h0.1.alloc_at h0.2 o1
  have h2 := h1.1.alloc_at h1.2 o2
  have h3 := h2.1.alloc_at h2.2 o3
  have h4 := h3.1.alloc_at h3.2 o4
  have h5 := h4.1.alloc_at h4.2 o5
  have h6 := h5.1.alloc_at h5.2 o6
  exact h6.1
theorem Own.boxes8 (w : World) {o0 o1 o2 o3 o4 o5 o6 o7 : Obj} : Own w [(w.heap.size, o0), (w.heap.size + 1, o1), (w.heap.size + 1 + 1, o2), (w.heap.size + 1 + 1 + 1, o3), (w.heap.size + 1 + 1 + 1 + 1, o4), (w.heap.size + 1 + 1 + 1 + 1 + 1, o5), (w.heap.size + 1 + 1 + 1 + 1 + 1 + 1, o6), (w.heap.size + 1 + 1 + 1 + 1 + 1 + 1 + 1, o7)] ((((((((w.alloc o0).alloc o1).alloc o2).alloc o3).alloc o4).alloc o5).alloc o6).alloc o7) := by
  have h0 := (Own.start w).alloc_at rfl o0
  have h1 := h0.1.alloc_at h0.2 o1
  have h2 := h1.1.alloc_at h1.2 o2
  have h3 := h2.1.alloc_at h2.2 o3
  have h4 := h3.1.alloc_at h3.2 o4
  have h5 := h4.1.alloc_at h4.2 o5
  have h6 := h5.1.alloc_at h5.2 o6
  have h7 := h6.1.alloc_at h6.2 o7
  exact h7.1
theorem Own.less {w0 w : World} {bs : List (Nat × Obj)} {x : Nat × Obj} (h : Own w0 (bs ++ [x]) w) : Own w0 bs w := by
  refine ⟨h.below, fun i g o e => h.at_ i g o ?_, ?_⟩
  · rw [List.getElem?_append_left (List.getElem?_eq_some_iff.1 e).1]; exact e
  have := h.apart
  rw [List.map_append, List.pairwise_append] at this
  exact this.1
/-! litc: a row laid at once; what a state's block leaves alone -/
theorem lit_C (w : World) (xs : List Int) (t : TypeId) (h : xs.length ≤ 9223372036854775807) : Kd.C (Kd.int .i64) (w.alloc (.cells (xs.map (Value.int .i64)).toArray t (0, 0))) (some ⟨w.heap.size, 0, none⟩) xs.length xs := by
  refine Kd.C_of_reads (d := 0) ⟨rfl, h, fun _ => ⟨_, rfl, fun j hj => ?_⟩⟩
  have z := blk_cell (blk_new w (.cells (xs.map (Value.int .i64)).toArray t (0, 0))) j
  have e : (⟨w.heap.size, 0, none⟩ : Addr).add j = ⟨w.heap.size, j, none⟩ := by simp [Addr.add] <;> omega
  rw [e, z]
  simp [hj]
theorem kept_blk {w w' : World} {g g' : Nat} {o : Obj} (z : Aside0 (w.heap[g']? = some o)) (hk : KeepBut w w' g none) (n : g' ≠ g) : Aside0 (w'.heap[g']? = some o) := ⟨(hk.2 g' (blk_lt z.out) n (by simp)).trans z.out⟩
theorem alloc_blk {w : World} {g' : Nat} {o o' : Obj} (z : Aside0 (w.heap[g']? = some o)) : Aside0 ((w.alloc o').heap[g']? = some o) := ⟨blk_alloc z.out o'⟩
def spec_DrawAgreeEvery.f (k : Nat) (l0 : List Int) : Option (Int × Int × Int × Int × Int × Int × Int × Int) := (spec_l1Cur_clock.f k l0 0 0).bind fun b => (spec_l1Cur_clock.f k l0 b.2.2.2.2.1 b.2.2.2.2.2).bind fun c => some (b.1, b.2.1, b.2.2.1, b.2.2.2.1, c.1, c.2.1, c.2.2.1, c.2.2.2.1)
theorem spec_DrawAgreeEvery.mono : ∀ a0 k, LeO (spec_DrawAgreeEvery.f k a0) (spec_DrawAgreeEvery.f (k + 1) a0) := by
  intro a0 k
  unfold spec_DrawAgreeEvery.f
  exact LeO.bind (spec_l1Cur_clock.mono _ _ _ _) (fun _ => LeO.bind (spec_l1Cur_clock.mono _ _ _ _) (fun _ => LeO.refl _))
set_option maxHeartbeats 8000000 in
set_option maxRecDepth 100000 in
theorem spec_DrawAgreeEvery.calls (k : Nat) (A0 : Option Addr) (c0 : Nat) (l0 : List Int) (r1 r2 r3 r4 r5 r6 r7 r8 : Int) (w : World) (hr0 : Kd.C (Kd.int .u8) w A0 l0.length l0) (hc0 : l0.length ≤ c0) (h : spec_DrawAgreeEvery.f k l0 = some (r1, r2, r3, r4, r5, r6, r7, r8)) :
    Calls Tryz.prog 35 #[.slice A0 l0.length c0] w fun e w' => e = .returned (.tuple #[.agg #[.int .i64 r1, .int .i64 r2, .int .i64 r3, .int .i64 r4], .agg #[.int .i64 r5, .int .i64 r6, .int .i64 r7, .int .i64 r8]]) ∧ Below w.heap.size w w' := by
  unfold spec_DrawAgreeEvery.f at h
  obtain ⟨⟨v0a, v0b, v0c, v0d, i0, s0⟩, e0, h⟩ := Option.bind_eq_some_iff.mp h
  dsimp only at h
  obtain ⟨⟨v1a, v1b, v1c, v1d, i1, s1⟩, e1, h⟩ := Option.bind_eq_some_iff.mp h
  dsimp only at h
  simp only [Option.some.injEq, Prod.mk.injEq] at h
  obtain ⟨rfl, rfl, rfl, rfl, rfl, rfl, rfl, rfl⟩ := h
  have hu0 := Tryz.underlying27
  have huT := Tryz.underlying25
  go_enter Tryz.func35, Tryz.ntmps35
  go_upto_region 2 with (fail)
  refine Own.gen (Own.boxes3 w) ?_
  intro w1 HO
  generalize w.heap.size + 1 + 1 = gs at HO ⊢
  generalize w.heap.size + 1 = g3 at HO ⊢
  generalize w.heap.size = g2 at HO ⊢
  have z := HO.at_ 2 gs _ rfl
  have Z0 := Aside0.mk (HO.at_ 0 g2 _ rfl).2
  have lb0 := Aside0.mk (HO.at_ 0 g2 _ rfl).1
  have n0 : g2 ≠ gs := HO.ne (i := 0) (j := 2) rfl rfl (by decide)
  have Z1 := Aside0.mk (HO.at_ 1 g3 _ rfl).2
  have lb1 := Aside0.mk (HO.at_ 1 g3 _ rfl).1
  have n1 : g3 ≠ gs := HO.ne (i := 1) (j := 2) rfl rfl (by decide)
  have n0_1 : g2 ≠ g3 := HO.ne (i := 0) (j := 1) rfl rfl (by decide)
  have n1_0 : g3 ≠ g2 := HO.ne (i := 1) (j := 0) rfl rfl (by decide)
  have hI : IsS66 w w1 gs l0 0 0 := ⟨A0, c0, z.2, z.1, hr0⟩
  have C0 := Aside0.mk (spec_l1Cur_clock.calls k gs l0 0 0 v0a v0b v0c v0d i0 s0 w w1 hI HO.below e0)
  have C1 := fun w2 (h2 : IsS66 w w2 gs l0 i0 s0) (hb2 : Below w.heap.size w w2) => spec_l1Cur_clock.calls k gs l0 i0 s0 v1a v1b v1c v1d i1 s1 w w2 h2 hb2 e1
  clear hI z HO hr0 hc0 e0 e1
  go_wp2_with (first
    | (go_at_call 74; refine C0.1.mono ?_; rintro e w2 ⟨rfl, hI0, hb0, hk0⟩; have D1 := Aside0.mk (C1 w2 hI0 hb0); replace Z0 := Aside0.mk ((hk0.2 g2 (blk_lt Z0.1) n0 (by simp)).trans Z0.1); replace Z1 := Aside0.mk ((hk0.2 g3 (blk_lt Z1.1) n1 (by simp)).trans Z1.1); clear C0 hI0 hb0 hk0 C1)
    | (go_at_call 74; refine D1.1.mono ?_; rintro e w3 ⟨rfl, hI1, hb1, hk1⟩; replace Z0 := Aside0.mk ((hk1.2 g2 (blk_lt Z0.1) n0 (by simp)).trans Z0.1); replace Z1 := Aside0.mk ((hk1.2 g3 (blk_lt Z1.1) n1 (by simp)).trans Z1.1); have HB := Aside0.mk hb1; obtain ⟨p0_0, p0_1, p0_2, p0_3, f0_0, f0_1, f0_2, f0_3⟩ := zc4 Z0; obtain ⟨p1_0, p1_1, p1_2, p1_3, f1_0, f1_1, f1_2, f1_3⟩ := zc4 Z1; clear D1 hI1 hb1 hk1))
  have G0 := (blk_far (blk_far (blk_far (blk_far (blk_put (cs' := #[.int .i64 v0a, .int .i64 v0b, .int .i64 v0c, .int .i64 v0d]) (blk_put (cs' := #[.int .i64 v0a, .int .i64 v0b, .int .i64 v0c, .int .i64 0]) (blk_put (cs' := #[.int .i64 v0a, .int .i64 v0b, .int .i64 0, .int .i64 0]) (blk_put (cs' := #[.int .i64 v0a, .int .i64 0, .int .i64 0, .int .i64 0]) Z0.1 0 (.int .i64 v0a) rfl) 1 (.int .i64 v0b) rfl) 2 (.int .i64 v0c) rfl) 3 (.int .i64 v0d) rfl) (p := ⟨g3, 0, none⟩) n0_1 (.int .i64 v1a)) (p := ⟨g3, 1, none⟩) n0_1 (.int .i64 v1b)) (p := ⟨g3, 2, none⟩) n0_1 (.int .i64 v1c)) (p := ⟨g3, 3, none⟩) n0_1 (.int .i64 v1d))
  have G1 := (blk_put (cs' := #[.int .i64 v1a, .int .i64 v1b, .int .i64 v1c, .int .i64 v1d]) (blk_put (cs' := #[.int .i64 v1a, .int .i64 v1b, .int .i64 v1c, .int .i64 0]) (blk_put (cs' := #[.int .i64 v1a, .int .i64 v1b, .int .i64 0, .int .i64 0]) (blk_put (cs' := #[.int .i64 v1a, .int .i64 0, .int .i64 0, .int .i64 0]) (blk_far (blk_far (blk_far (blk_far Z1.1 (p := ⟨g2, 0, none⟩) n1_0 (.int .i64 v0a)) (p := ⟨g2, 1, none⟩) n1_0 (.int .i64 v0b)) (p := ⟨g2, 2, none⟩) n1_0 (.int .i64 v0c)) (p := ⟨g2, 3, none⟩) n1_0 (.int .i64 v0d)) 0 (.int .i64 v1a) rfl) 1 (.int .i64 v1b) rfl) 2 (.int .i64 v1c) rfl) 3 (.int .i64 v1d) rfl)
  refine bodyPost_ret (results_list (rs := [.cell 2 27, .cell 3 27]) rfl (by simp) (.cell g2 27 #[.int .i64 v0a, .int .i64 v0b, .int .i64 v0c, .int .i64 v0d] (0, 0) _ rfl G0 Tryz.underlying27 rfl (by kernel_rfl) (.cell g3 27 #[.int .i64 v1a, .int .i64 v1b, .int .i64 v1c, .int .i64 v1d] (0, 0) _ rfl G1 Tryz.underlying27 rfl (by kernel_rfl) .nil))) rfl ?_
  exact ⟨rfl, (below_set (below_set (below_set (below_set (below_set (below_set (below_set (below_set HB.1 lb0.out) lb0.out) lb0.out) lb0.out) lb1.out) lb1.out) lb1.out) lb1.out)⟩

/-! ### spec_DrawFirstAgree: function 5 -/
def spec_DrawFirstAgree.f (k : Nat) (l0 : List Int) : Option (Int × Int × Int × Int × Int × Int × Int × Int) := (spec_DrawAgreeEvery.f k l0).bind fun bt199 => (some (bt199.1, bt199.2.1, bt199.2.2.1, bt199.2.2.2.1, bt199.2.2.2.2.1, bt199.2.2.2.2.2.1, bt199.2.2.2.2.2.2.1, bt199.2.2.2.2.2.2.2))
theorem spec_DrawFirstAgree.mono : ∀ a0 k, LeO (spec_DrawFirstAgree.f k a0) (spec_DrawFirstAgree.f (k + 1) a0) := by
  intro a0 k
  unfold spec_DrawFirstAgree.f
  repeat' first
      | (with_reducible exact spec_DrawAgreeEvery.mono _ _)
      | (with_reducible exact LeO.refl _)
      | (with_reducible exact LeO.none _)
      | (with_reducible refine LeO.ite ?_ ?_)
      | (with_reducible refine LeO.bind ?_ (fun _ => ?_))
      | exact spec_DrawAgreeEvery.mono _ _
      | exact LeO.none _
      | refine LeO.ite ?_ ?_
      | refine LeO.bind ?_ (fun _ => ?_)
set_option maxHeartbeats 8000000 in
set_option maxRecDepth 100000 in
theorem spec_DrawFirstAgree.calls (k : Nat) (A0 : Option Addr) (c0 : Nat) (l0 : List Int) (r1 : Int) (r2 : Int) (r3 : Int) (r4 : Int) (r5 : Int) (r6 : Int) (r7 : Int) (r8 : Int) (w : World) (hr0 : Kd.C (Kd.int .u8) w A0 l0.length l0) (hc0 : l0.length ≤ c0) (h : spec_DrawFirstAgree.f k l0 = some (r1, r2, r3, r4, r5, r6, r7, r8)) :
    Calls Tryz.prog 5 #[.slice A0 l0.length c0] w fun e w' => e = .returned (.tuple #[.agg #[.int .i64 r1, .int .i64 r2, .int .i64 r3, .int .i64 r4], .agg #[.int .i64 r5, .int .i64 r6, .int .i64 r7, .int .i64 r8]]) ∧ Below w.heap.size w w' := by
  have hu27 := Tryz.underlying27
  have HR0 := Aside0.mk hr0
  have HC0 := Aside0.mk hc0
  clear hr0 hc0
  have HB := Aside0.mk (Below.refl w.heap.size w)
  have H : ((spec_DrawAgreeEvery.f k l0).bind fun bt199 => (some (bt199.1, bt199.2.1, bt199.2.2.1, bt199.2.2.2.1, bt199.2.2.2.2.1, bt199.2.2.2.2.2.1, bt199.2.2.2.2.2.2.1, bt199.2.2.2.2.2.2.2))) = some (r1, r2, r3, r4, r5, r6, r7, r8) := h
  clear h
  replace H := Option.bind_eq_some_iff.mp H
  obtain ⟨⟨t199, t200, t201, t202, t203, t204, t205, t206⟩, A20, H⟩ := H
  (try dsimp only at H)
  have A2 := Aside0.mk A20
  clear A20
  simp only [Option.some.injEq, Prod.mk.injEq] at H
  obtain ⟨rfl, rfl, rfl, rfl, rfl, rfl, rfl, rfl⟩ := H
  go_enter Tryz.func5, Tryz.ntmps5
  go_wp2_with (first | ((with_reducible refine gate_dst (N := 2) rfl ?_); refine be #[.int .i64 0, .int .i64 0, .int .i64 0, .int .i64 0] 27 ?_; intro gb197 hg w3 hbox hb; have BK197 := Aside0.mk hbox; have GW197 := zs HB hg; have GE197 := zs HB hg; replace HB := zB HB hb; clear hb hbox hg) | ((with_reducible refine gate_dst (N := 3) rfl ?_); refine be #[.int .i64 0, .int .i64 0, .int .i64 0, .int .i64 0] 27 ?_; intro gb198 hg w4 hbox hb; have BK198 := Aside0.mk hbox; have GW198 := zs HB hg; have GE198 := zs HB hg; have NB197_198 := zn BK197 hg; have NB198_197 := zm BK197 hg; replace BK197 := zb BK197 hb; replace HB := zB HB hb; clear hb hbox hg) | ((with_reducible refine gate_callee (f := 35) rfl ?_); refine gl (some 5) Tryz.func35 #[.slice A0 l0.length c0] ?_; (with_reducible refine (spec_DrawAgreeEvery.calls k _ _ l0 t199 t200 t201 t202 t203 t204 t205 t206 _ ?side1 ?side2 A2.1).mono ?_); (case side1 => repeat (first | exact (Kd.C_below HR0.1 HB.1) | (with_reducible refine Kd.C_alloc ?_ _) | (with_reducible refine Kd.C_drewN ?_ _) | (with_reducible refine Kd.C_drew ?_))); (case side2 => exact HC0.1); rintro e w5 ⟨rfl, hb⟩; refine ⟨_, rfl, ?_⟩; replace BK197 := zb BK197 hb; replace BK198 := zb BK198 hb; replace HB := zB HB hb; clear hb; have hnb6 := NB197_198.1; have hnc6 := NB198_197.1; obtain ⟨hcz7_0, hcz7_1, hcz7_2, hcz7_3, hfz7_0, hfz7_1, hfz7_2, hfz7_3⟩ := zc4 BK197; obtain ⟨hcz8_0, hcz8_1, hcz8_2, hcz8_3, hfz8_0, hfz8_1, hfz8_2, hfz8_3⟩ := zc4 BK198))
  refine bodyPost_ret (results_cc rfl _ _ gb197 gb198 27 27 #[.int .i64 t199, .int .i64 t200, .int .i64 t201, .int .i64 t202] #[.int .i64 t203, .int .i64 t204, .int .i64 t205, .int .i64 t206] (0, 0) (0, 0) _ _ rfl (bk BK197) Tryz.underlying27 rfl (by kernel_rfl) rfl (bk BK198) Tryz.underlying27 rfl (by kernel_rfl)) rfl ?_
  exact ⟨er, bq HB⟩

/-! ### impl_gcd: function 50 -/
def impl_gcd.l0 : Nat → Int → Int → Option (Int)
  | 0, _, _ => none
  | k + 1, x0, x1 => if x1 = 0 then (some (mx x0 (wrap64 (-x0)))) else (impl_gcd.l0 k x1 (Int.tmod x0 x1))
def impl_gcd.f (k : Nat) (a0 : Int) (a1 : Int) : Option (Int) := impl_gcd.l0 k a0 a1
theorem impl_gcd.mono_l : ∀ k, (∀ y0 y1, LeO (impl_gcd.l0 k y0 y1) (impl_gcd.l0 (k + 1) y0 y1))
  | 0 => fun _ _ r h => by simp [impl_gcd.l0] at h
  | k + 1 => by
    have ih0 := impl_gcd.mono_l k
    intro y0 y1
    unfold impl_gcd.l0
    repeat' first
    | (with_reducible exact ih0 _ _)
    | (with_reducible exact LeO.refl _)
    | (with_reducible exact LeO.none _)
    | (with_reducible refine LeO.ite ?_ ?_)
    | (with_reducible refine LeO.bind ?_ (fun _ => ?_))
    | exact ih0 _ _
    | exact LeO.none _
    | refine LeO.ite ?_ ?_
    | refine LeO.bind ?_ (fun _ => ?_)
theorem impl_gcd.mono : ∀ a0 a1 k, LeO (impl_gcd.f k a0 a1) (impl_gcd.f (k + 1) a0 a1) := by
  intro a0 a1 k
  have ih0 := impl_gcd.mono_l k
  unfold impl_gcd.f
  repeat' first
      | (with_reducible exact ih0 _ _)
      | (with_reducible exact LeO.refl _)
      | (with_reducible exact LeO.none _)
      | (with_reducible refine LeO.ite ?_ ?_)
      | (with_reducible refine LeO.bind ?_ (fun _ => ?_))
      | exact ih0 _ _
      | exact LeO.none _
      | refine LeO.ite ?_ ?_
      | refine LeO.bind ?_ (fun _ => ?_)
set_option maxHeartbeats 8000000 in
set_option maxRecDepth 100000 in
theorem impl_gcd.calls (k : Nat) (a0 : Int) (a1 : Int) (r : Int) (w : World) (h : impl_gcd.f k a0 a1 = some r) :
    Calls Tryz.prog 50 #[.int .i64 a0, .int .i64 a1] w fun e w' => e = .returned (.int .i64 r) ∧ Below w.heap.size w w' := by
  have HB := Aside0.mk (Below.refl w.heap.size w)
  have H : (impl_gcd.l0 k a0 a1) = some r := h
  clear h
  have H' := Aside0.mk H
  clear H
  go_enter Tryz.func50, Tryz.ntmps50
  go_wp2
  repeat (go_quiet (fail); try go_wp2)
  go_loopg [0, 1] k (fun kq v0 v1 w' => ∃ (x0_1 : Int) (x1_1 : Int), v0 = .int .i64 x0_1 ∧ v1 = .int .i64 x1_1 ∧ Aside0 (impl_gcd.l0 kq x0_1 x1_1 = some r) ∧ Aside0 (kq ≤ k) ∧ Aside0 (Below w.heap.size w w'))
  case atStart => exact ⟨(a0), (a1), ew, ew, H', ⟨Nat.le_refl _⟩, ⟨bq HB⟩⟩
  case round =>
    clear H'
    try clear p2
    obtain ⟨x0_1, x1_1, rfl, rfl, HA, HK1, HB⟩ := hrel
    cases gk with
    | zero => exact absurd HA.1 (by simp [impl_gcd.l0])
    | succ k1 =>
      have H := HA.1
      clear HA
      simp only [impl_gcd.l0] at H
      by_cases c3 : x1_1 = 0
      · rw [if_pos c3] at H
        have c3b0 : (x1_1 == 0) = true := beq_iff_eq.mpr c3
        have c3b1 : (x1_1 != 0) = false := bne_eq_false_iff_eq.mpr c3
        clear c3
        obtain ⟨ji4, hji4⟩ : ∃ j_ : Int, (mx x0_1 (wrap64 (-x0_1))) = j_ := ⟨_, rfl⟩
        replace H : (some ji4) = some r := by first | (rw [hji4] at H; exact H) | (simp only [hji4] at H ⊢; exact H)
        have hji4_ : (if x0_1 < (wrap64 (-x0_1)) then (wrap64 (-x0_1)) else x0_1) = ji4 := hji4
        obtain rfl := Option.some.inj H
        go_wp2
        repeat (go_quiet (fail); try go_wp2)
        go_ret
        exact ⟨by first | rfl | (simp [errW_none, errW_some] <;> rfl) | (simp only [← hji4]; first | rfl | (simp [errW_none, errW_some] <;> rfl)) | (simp [*, errW_none, errW_some] <;> rfl), bq HB⟩
      rw [if_neg c3] at H
      have c3b0 : (x1_1 == 0) = false := beq_eq_false_iff_ne.mpr c3
      have c3b1 : (x1_1 != 0) = true := bne_iff_ne.mpr c3
      have H' := Aside0.mk H
      clear H
      go_wp2
      repeat (go_quiet (fail); try go_wp2)
      go_roundg k1
      case measure => have := HK1.1; omega
      case rel => exact ⟨(x1_1), (Int.tmod x0_1 x1_1), ew, ew, H', ⟨by have := HK1.1; omega⟩, ⟨bq HB⟩⟩

end Go.Proofs.YtejlandhfnnkiaaGreatDoor.PFnClocksAgree
