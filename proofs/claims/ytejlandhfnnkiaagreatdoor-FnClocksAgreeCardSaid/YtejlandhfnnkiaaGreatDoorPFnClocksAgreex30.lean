/- A part of the walk of FnClocksAgree: which Lean function each Go function comes to, and that the machine's call does so. Written by a program of this repo (wip/gen/xprint.py). -/
import Derived.Test.YtejlandhfnnkiaaGreatDoorPFnClocksAgreex0
import Derived.Test.YtejlandhfnnkiaaGreatDoorPFnClocksAgreex11
import Derived.Test.YtejlandhfnnkiaaGreatDoorPFnClocksAgreex29
namespace Go.Proofs.YtejlandhfnnkiaaGreatDoor.PFnClocksAgree
open Go.RowKit Go.Proofs.YtejlandhfnnkiaaGreatDoorW.PrintWords Go.Proofs.YtejlandhfnnkiaaGreatDoorW.PrintLast Go.Proofs.YtejlandhfnnkiaaGreatDoorW.PrintMore
attribute [local go_sem] max2_int min2_int max_two min_two max_three min_three max_four min_four   -- for this text's walks alone
set_option linter.unusedVariables false
set_option linter.unusedSimpArgs false

/-! ### spec_ParseSpan: function 30 -/
def spec_ParseSpan.j0 : Nat → List ByteArray → Bool → Option (Int × Int × Bool)
  | 0, _, _ => none
  | k + 1, x4, x15 => if x15 = true then (some (0, 0, false)) else (if 0 < (x4.length : Int) then ((spec_l1Read.f k (rdOf ByteArray.empty x4 0)).bind fun t552 => (if 1 < (x4.length : Int) then ((spec_l1Read.f k (rdOf ByteArray.empty x4 1)).bind fun t554 => (if (rdOf ByteArray.empty x4 0).toList = ([49, 48, 48, 48, 48, 48, 48] : List UInt8) then ((spec_drGood.f k 1000000 t554).bind fun t557 => (if t557 = true then (some (1000000, t554, true)) else (some (0, 0, false)))) else ((spec_drGood.f k t552 t554).bind fun t558 => (if t558 = true then (some (t552, t554, true)) else (some (0, 0, false)))))) else (none))) else (none))
def spec_ParseSpan.f (k : Nat) (a0 : ByteArray) : Option (Int × Int × Bool) := (spec_l1Split.f k a0 47).bind fun t548 => (if (a0.size : Int) > 20 then (spec_ParseSpan.j0 k t548 true) else (spec_ParseSpan.j0 k t548 ((t548.length : Int) != 2)))
theorem spec_ParseSpan.mono_l : ∀ k, (∀ y0 y1, LeO (spec_ParseSpan.j0 k y0 y1) (spec_ParseSpan.j0 (k + 1) y0 y1))
  | 0 => fun _ _ r h => by simp [spec_ParseSpan.j0] at h
  | k + 1 => by
    have ih0 := spec_ParseSpan.mono_l k
    intro y0 y1
    unfold spec_ParseSpan.j0
    repeat' first
    | (with_reducible exact ih0 _ _)
    | (with_reducible exact spec_drGood.mono _ _ _)
    | (with_reducible exact spec_l1Read.mono _ _)
    | (with_reducible exact spec_l1Split.mono _ _ _)
    | (with_reducible exact LeO.refl _)
    | (with_reducible exact LeO.none _)
    | (with_reducible refine LeO.ite ?_ ?_)
    | (with_reducible refine LeO.bind ?_ (fun _ => ?_))
    | exact ih0 _ _
    | exact spec_drGood.mono _ _ _
    | exact spec_l1Read.mono _ _
    | exact spec_l1Split.mono _ _ _
    | exact LeO.none _
    | refine LeO.ite ?_ ?_
    | refine LeO.bind ?_ (fun _ => ?_)
theorem spec_ParseSpan.mono : ∀ a0 k, LeO (spec_ParseSpan.f k a0) (spec_ParseSpan.f (k + 1) a0) := by
  intro a0 k
  have ih0 := spec_ParseSpan.mono_l k
  unfold spec_ParseSpan.f
  repeat' first
      | (with_reducible exact ih0 _ _)
      | (with_reducible exact spec_drGood.mono _ _ _)
      | (with_reducible exact spec_l1Read.mono _ _)
      | (with_reducible exact spec_l1Split.mono _ _ _)
      | (with_reducible exact LeO.refl _)
      | (with_reducible exact LeO.none _)
      | (with_reducible refine LeO.ite ?_ ?_)
      | (with_reducible refine LeO.bind ?_ (fun _ => ?_))
      | exact ih0 _ _
      | exact spec_drGood.mono _ _ _
      | exact spec_l1Read.mono _ _
      | exact spec_l1Split.mono _ _ _
      | exact LeO.none _
      | refine LeO.ite ?_ ?_
      | refine LeO.bind ?_ (fun _ => ?_)
def spec_ParseSpan.T4 : Bool × List (List Nat × List Nat) := (true, [([], []), ([0], [0]), ([1], [1]), ([2], [2]), ([], []), ([4], [4]), ([5], [5]), ([6, 3], [6]), ([3, 7], [3, 7]), ([], []), ([9, 8, 7, 0, 1, 2, 3, 4, 5, 6, 7, 8, 9], [8, 9])])
def spec_ParseSpan.B4 : List Nat := [0, 1, 3, 7, 0, 16, 48, 127, 255, 0, 1023]
theorem spec_ParseSpan.tab4 : rtab .any (opsOf Tryz.f30 4) = spec_ParseSpan.T4 := by kernel_rfl
theorem spec_ParseSpan.bits4 : waitsOk spec_ParseSpan.T4.2 spec_ParseSpan.B4 = true := by kernel_rfl
set_option maxHeartbeats 8000000 in
set_option maxRecDepth 100000 in
theorem spec_ParseSpan.calls (k : Nat) (a0 : ByteArray) (r1 : Int) (r2 : Int) (r3 : Bool) (w : World) (h : spec_ParseSpan.f k a0 = some (r1, r2, r3)) :
    Calls Tryz.prog 30 #[.string a0] w fun e w' => e = .returned (.tuple #[.agg #[.int .i64 r1, .int .i64 r2], .bool r3]) ∧ Below w.heap.size w w' := by
  have hu30 := Tryz.underlying30
  have HB := Aside0.mk (Below.refl w.heap.size w)
  have H : ((spec_l1Split.f k a0 47).bind fun t548 => (if (a0.size : Int) > 20 then (spec_ParseSpan.j0 k t548 true) else (spec_ParseSpan.j0 k t548 ((t548.length : Int) != 2)))) = some (r1, r2, r3) := h
  clear h
  replace H := Option.bind_eq_some_iff.mp H
  obtain ⟨t548, A20, H⟩ := H
  (try dsimp only at H)
  have A2 := Aside0.mk A20
  clear A20
  have HC3 := Aside0.mk H
  clear H
  go_enter Tryz.func30, Tryz.ntmps30
  go_upto_region 2 with (first | ((with_reducible refine gate_dst (N := 2) rfl ?_); (try (refine gate_guard (by rfl) ?_; dsimp only)); refine be #[.int .i64 0, .int .i64 0] 30 ?_; intro gb547 hg w4 hbox hb; have BK547 := Aside0.mk hbox; have GW547 := zs HB hg; have GE547 := zs HB hg; replace HB := zB HB hb; clear hb hbox hg) | ((with_reducible refine gate_callee (f := 72) rfl ?_); refine gl (some 7) Tryz.func72 #[.string a0, .int .u8 47] ?_; (with_reducible refine (spec_l1Split.calls k a0 47 t548 _ A2.1).mono ?_); rintro e w5 ⟨v549, rfl, ho0, hb⟩; refine ⟨_, rfl, ?_⟩; have HO550 := Aside0.mk (Kd.R_lower ho0 (below_size (bq HB))); replace BK547 := zb BK547 hb; replace HB := zB HB hb; (try clear hb); (try clear hb2); (try clear hk); (try clear hi); (try clear ho0)))
  (try simp only [Act.put, List.setIfInBounds_toArray, List.set_cons_zero, List.set_cons_succ])
  go_cut [15] (fun v15 wc => ∃ (kq : Nat) (x15_2 : Bool), v15 = .bool x15_2 ∧ Aside0 (spec_ParseSpan.j0 kq t548 x15_2 = some (r1, r2, r3)) ∧ Aside0 (kq ≤ k) ∧ Aside0 (Kd.R Kd.string 9 wc w.heap.size (fun _ => True) v549 t548) ∧ Aside0 (wc.heap[gb547]? = some (.cells #[.int .i64 0, .int .i64 0] 30 (0, 0))) ∧ Aside0 (Below w.heap.size w wc))
  case first =>
    have H := HC3.1
    clear HC3
    by_cases c6 : (a0.size : Int) > 20
    · rw [if_pos c6] at H
      have c6b0 : decide (20 < (a0.size : Int)) = true := decide_eq_true c6
      have c6b1 : decide (20 < a0.size) = true := decide_eq_true (by omega)
      clear c6
      (first | rw [c6b0] | (simp only [i64_w, i32_w]; rw [c6b0]) | skip)
      have H' := Aside0.mk H
      clear H
      go_wp2
      go_meet
      case rel => exact ⟨_, (true), ew, H', le_, ⟨rq HO550⟩, ⟨bk BK547⟩, ⟨bq HB⟩⟩
    rw [if_neg c6] at H
    have c6b0 : decide (20 < (a0.size : Int)) = false := decide_eq_false c6
    have c6b1 : decide (20 < a0.size) = false := decide_eq_false (by omega)
    clear c6
    (first | rw [c6b0] | (simp only [i64_w, i32_w]; rw [c6b0]) | skip)
    have H' := Aside0.mk H
    clear H
    obtain ⟨Ao7, co7, eo7⟩ := Kd.R_slice HO550.1
    subst eo7
    go_wp2
    go_meet
    case rel => exact ⟨_, (((t548.length : Int) != 2)), ew, H', le_, ⟨rq HO550⟩, ⟨bk BK547⟩, ⟨bq HB⟩⟩
  clear HC3
  try clear p2
  try clear c3
  try clear c6
  try clear c6b0
  try clear c6b1
  try clear c7
  obtain ⟨kq, x15_2, rfl, HA, HJ2, HO_4, BK547, HB⟩ := hcut
  cases kq with
  | zero => exact absurd HA.1 (by simp [spec_ParseSpan.j0])
  | succ kj2 =>
    have H := HA.1
    clear HA
    simp only [spec_ParseSpan.j0] at H
    by_cases c8 : x15_2 = true
    · subst c8
      rw [if_pos rfl] at H
      simp only [Option.some.injEq, Prod.mk.injEq] at H
      obtain ⟨rfl, rfl, rfl⟩ := H
      obtain ⟨hcz9_0, hcz9_1, hfz9_0, hfz9_1⟩ := zc2 BK547
      go_wp2
      refine bodyPost_ret (results_ct rfl _ _ gb547 30 #[.int .i64 0, .int .i64 0] (0, 0) _ rfl (bk BK547) Tryz.underlying30 rfl (by kernel_rfl)) rfl ?_
      exact ⟨er, bq HB⟩
    replace c8 := Bool.eq_false_iff.mpr c8
    subst c8
    rw [if_neg (show ¬ (false = true) by decide)] at H
    by_cases c10 : 0 < (t548.length : Int)
    · rw [if_pos c10] at H
      have c10b0 : decide (0 < (t548.length : Int)) = true := decide_eq_true c10
      have c10b1 : decide (0 < t548.length) = true := decide_eq_true (by omega)
      clear c10
      replace H := Option.bind_eq_some_iff.mp H
      obtain ⟨t552, A110, H⟩ := H
      (try dsimp only at H)
      have A11 := Aside0.mk A110
      clear A110
      by_cases c12 : 1 < (t548.length : Int)
      · rw [if_pos c12] at H
        have c12b0 : decide (1 < (t548.length : Int)) = true := decide_eq_true c12
        have c12b1 : decide (1 < t548.length) = true := decide_eq_true (by omega)
        clear c12
        replace H := Option.bind_eq_some_iff.mp H
        obtain ⟨t554, A130, H⟩ := H
        (try dsimp only at H)
        have A13 := Aside0.mk A130
        clear A130
        by_cases c14 : (rdOf ByteArray.empty t548 0).toList = ([49, 48, 48, 48, 48, 48, 48] : List UInt8)
        · rw [if_pos c14] at H
          have c14b0 : ((rdOf ByteArray.empty t548 0).toList == ([49, 48, 48, 48, 48, 48, 48] : List UInt8)) = true := beq_iff_eq.mpr c14
          have c14b1 : ((rdOf ByteArray.empty t548 0).toList != ([49, 48, 48, 48, 48, 48, 48] : List UInt8)) = false := bne_eq_false_iff_eq.mpr c14
          clear c14
          replace H := Option.bind_eq_some_iff.mp H
          obtain ⟨t557, A150, H⟩ := H
          (try dsimp only at H)
          have A15 := Aside0.mk A150
          clear A150
          by_cases c16 : t557 = true
          · subst c16
            rw [if_pos rfl] at H
            simp only [Option.some.injEq, Prod.mk.injEq] at H
            obtain ⟨rfl, rfl, rfl⟩ := H
            try go_wp2
            replace HO_4 := Aside0.mk (Kd.R_drew HO_4.1)
            replace BK547 := Aside0.mk (blk_drew BK547.1)
            replace HB := Aside0.mk (below_drew1 HB.1)
            obtain ⟨Ao18, co18, eo18⟩ := Kd.R_slice HO_4.1
            (first | subst eo18 | (injection eo18 with f1_ f2_ f3_; have f4_ := f1_.symm; have f5_ := f3_.symm; clear f1_ f2_ f3_; subst f4_; subst f5_))
            have p551 : 0 ≤ (0 : Int) := (by omega)
            have q551 : 0 < (t548.length : Int) := of_decide_eq_true (by first | (with_reducible assumption) | assumption)
            obtain ⟨ad551, e551, hx551_0⟩ := Kd.at_string (Kd.R_reads' HO_4.1).2.2 0 p551 q551
            cases e551
            have qi551 : (0 < t548.length) = True := eq_true (by omega)
            (try rw [show ((0 : Int)).toNat = 0 from rfl] at hx551_0)
            (try rw [Addr.add_zero'] at hx551_0)
            replace p551 := eq_true p551
            replace q551 := eq_true q551
            have p553 : 0 ≤ (1 : Int) := (by omega)
            have q553 : 1 < (t548.length : Int) := of_decide_eq_true (by first | (with_reducible assumption) | assumption)
            obtain ⟨ad553, e553, hx553_0⟩ := Kd.at_string (Kd.R_reads' HO_4.1).2.2 1 p553 q553
            obtain rfl : ad551 = ad553 := (by injection e553)
            (try simp only [show (1 : Int).toNat = 1 from rfl, Nat.reduceMul, Nat.reduceEqDiff, Go.Addr.add, ↓reduceIte] at hx553_0)
            have qi553 : (1 < t548.length) = True := eq_true (by omega)
            (try rw [show ((1 : Int)).toNat = 1 from rfl] at hx553_0)
            replace p553 := eq_true p553
            replace q553 := eq_true q553
            refine start_ (n := 11) (S := fun w' => w'.cell? ad551 = some (.string (rdOf ByteArray.empty t548 0)) ∧ w'.cell? ⟨ad551.block, ad551.off + 1, none⟩ = some (.string (rdOf ByteArray.empty t548 1))) (ds := []) (bs 11 0) (by kernel_rfl) rfl rfl ⟨hx551_0, hx553_0⟩ (fun hHeld => ?_); refine with_tabW spec_ParseSpan.tab4 spec_ParseSpan.bits4 (fun HT_ HW_ => ?_)
            generalize wc.drew = w17 at HO_4 BK547 HB hx551_0 hx553_0 hHeld ⊢
            refine pu 0 17 HT_ rfl rfl (bs 11 1) ?_
            refine pu 1 18 HT_ rfl rfl (bs 11 3) ?_
            refine pu 4 21 HT_ rfl rfl (bs 11 19) ?_
            refine pu 5 22 HT_ rfl rfl (bs 11 51) ?_
            refine tk 2 19 HT_ HW_ hHeld rfl rfl (bs 11 55) ?_
            refine tk 6 23 HT_ HW_ hHeld rfl rfl (bs 11 119) ?_
            refine join_ (σ := Nat) 1 (bs 11 1023) (fun s_ => [(20, .int .i64 t552), (24, .int .i64 t554), (5, .pointer (some ⟨s_, 0, none⟩)), (25, .agg #[.int .i64 t552, .int .i64 t554])]) (fun s_ w' => (w'.cell? ad551 = some (.string (rdOf ByteArray.empty t548 0)) ∧ w'.cell? ⟨ad551.block, ad551.off + 1, none⟩ = some (.string (rdOf ByteArray.empty t548 1))) ∧ (Kd.R Kd.string 9 w' w.heap.size (fun _ => True) (.slice (some ad551) t548.length co18) t548) ∧ (w'.heap[gb547]? = some (.cells #[.int .i64 0, .int .i64 0] 30 (0, 0))) ∧ (w'.heap[s_]? = some (.cells #[.int .i64 0, .int .i64 0] 30 (0, 0))) ∧ (w.heap.size ≤ s_) ∧ (w.heap.size ≤ s_) ∧ (gb547 ≠ s_) ∧ (s_ ≠ gb547) ∧ (Below w.heap.size w w')) ?_ ?_
            rotate_left
            · intro hCont
              refine two_ (i := 3) (j := 9) (Ni := some 20) (Nj := some 5) (bs 11 127) (bs 11 631) rfl rfl rfl rfl (two_of HT_.1 (by kernel_rfl)) (by decide) (by decide) (fun K hK => ?_) (fun K hK => ?_)
              · skip
                refine gs Tryz.func73 #[.string (rdOf ByteArray.empty t548 0)] ?_
                with_reducible refine (spec_l1Read.calls kj2 (rdOf ByteArray.empty t548 0) t552 _ A11.1).mono ?_
                rintro e w' ⟨rfl, ⟨nd, rfl⟩⟩
                refine ⟨_, rfl, ?_⟩
                refine hK.out _ _ ⟨hHeld.1, hHeld.2⟩ (fun hHeld => ?_)
                clear hK K
                refine norm_ (aq 20) ?_
                refine two_ (i := 7) (j := 9) (Ni := some 24) (Nj := some 5) (bs 11 255) (bs 11 639) rfl rfl rfl rfl (two_of HT_.1 (by kernel_rfl)) (by decide) (by decide) (fun K hK => ?_) (fun K hK => ?_)
                · skip
                  refine gs Tryz.func73 #[.string (rdOf ByteArray.empty t548 1)] ?_
                  with_reducible refine (spec_l1Read.calls kj2 (rdOf ByteArray.empty t548 1) t554 _ A13.1).mono ?_
                  rintro e w' ⟨rfl, ⟨nd, rfl⟩⟩
                  refine ⟨_, rfl, ?_⟩
                  refine hK.out _ _ ⟨hHeld.1, hHeld.2⟩ (fun hHeld => ?_)
                  clear hK K
                  refine norm_ (aq 24) ?_
                  refine pu 8 25 HT_ rfl rfl (bs 11 511) ?_
                  refine one_ (i := 9) (N := some 5) (bs 11 1023) rfl rfl (one_of HT_.1 (by kernel_rfl)) (by decide) (fun K hK => ?_)
                  refine bp #[.int .i64 0, .int .i64 0] 30 ?_
                  intro gb555 hg w19 hbox hb
                  have HS0_ := (hb.cell (World.block_lt_of_cell? _ _ (hHeld.1))).trans (hHeld.1)
                  have HS1_ := (hb.cell (World.block_lt_of_cell? _ _ (hHeld.2))).trans (hHeld.2)
                  replace HO_4 := rB HO_4 hb
                  have BK555 := Aside0.mk hbox
                  have GW555 := zs HB hg
                  have GE555 := zs HB hg
                  have NB547_555 := zn BK547 hg
                  have NB555_547 := zm BK547 hg
                  replace BK547 := zb BK547 hb
                  replace HB := zB HB hb
                  clear hb hbox hg
                  refine hK.out _ _ ⟨HS0_, HS1_⟩ (fun hHeld => ?_)
                  clear hK K
                  refine norm_ (aq 5) ?_
                  exact norm_ (by simp only [putAll, Act.put, List.setIfInBounds_toArray, List.set_cons_zero, List.set_cons_succ]) (hCont (gb555) _ ⟨hHeld, (rq HO_4), (bk BK547), (bk BK555), GW555.1, GE555.1, NB547_555.1, NB555_547.1, (bq HB)⟩)
                skip
                refine bp #[.int .i64 0, .int .i64 0] 30 ?_
                intro gb555 hg w19 hbox hb
                have HS0_ := (hb.cell (World.block_lt_of_cell? _ _ (hHeld.1))).trans (hHeld.1)
                have HS1_ := (hb.cell (World.block_lt_of_cell? _ _ (hHeld.2))).trans (hHeld.2)
                replace HO_4 := rB HO_4 hb
                have BK555 := Aside0.mk hbox
                have GW555 := zs HB hg
                have GE555 := zs HB hg
                have NB547_555 := zn BK547 hg
                have NB555_547 := zm BK547 hg
                replace BK547 := zb BK547 hb
                replace HB := zB HB hb
                clear hb hbox hg
                refine hK.out _ _ ⟨HS0_, HS1_⟩ (fun hHeld => ?_)
                clear hK K
                refine norm_ (aq 5) ?_
                refine one_ (i := 7) (N := some 24) (bs 11 767) rfl rfl (one_of HT_.1 (by kernel_rfl)) (by decide) (fun K hK => ?_)
                refine gs Tryz.func73 #[.string (rdOf ByteArray.empty t548 1)] ?_
                with_reducible refine (spec_l1Read.calls kj2 (rdOf ByteArray.empty t548 1) t554 _ A13.1).mono ?_
                rintro e w' ⟨rfl, ⟨nd, rfl⟩⟩
                refine ⟨_, rfl, ?_⟩
                refine hK.out _ _ ⟨hHeld.1, hHeld.2⟩ (fun hHeld => ?_)
                clear hK K
                refine norm_ (aq 24) ?_
                refine pu 8 25 HT_ rfl rfl (bs 11 1023) ?_
                exact norm_ (by simp only [putAll, Act.put, List.setIfInBounds_toArray, List.set_cons_zero, List.set_cons_succ]) (hCont (gb555) _ ⟨hHeld, (rq HO_4), (bk BK547), (bk BK555), GW555.1, GE555.1, NB547_555.1, NB555_547.1, (bq HB)⟩)
              skip
              refine bp #[.int .i64 0, .int .i64 0] 30 ?_
              intro gb555 hg w19 hbox hb
              have HS0_ := (hb.cell (World.block_lt_of_cell? _ _ (hHeld.1))).trans (hHeld.1)
              have HS1_ := (hb.cell (World.block_lt_of_cell? _ _ (hHeld.2))).trans (hHeld.2)
              replace HO_4 := rB HO_4 hb
              have BK555 := Aside0.mk hbox
              have GW555 := zs HB hg
              have GE555 := zs HB hg
              have NB547_555 := zn BK547 hg
              have NB555_547 := zm BK547 hg
              replace BK547 := zb BK547 hb
              replace HB := zB HB hb
              clear hb hbox hg
              refine hK.out _ _ ⟨HS0_, HS1_⟩ (fun hHeld => ?_)
              clear hK K
              refine norm_ (aq 5) ?_
              refine one_ (i := 3) (N := some 20) (bs 11 639) rfl rfl (one_of HT_.1 (by kernel_rfl)) (by decide) (fun K hK => ?_)
              refine gs Tryz.func73 #[.string (rdOf ByteArray.empty t548 0)] ?_
              with_reducible refine (spec_l1Read.calls kj2 (rdOf ByteArray.empty t548 0) t552 _ A11.1).mono ?_
              rintro e w' ⟨rfl, ⟨nd, rfl⟩⟩
              refine ⟨_, rfl, ?_⟩
              refine hK.out _ _ ⟨hHeld.1, hHeld.2⟩ (fun hHeld => ?_)
              clear hK K
              refine norm_ (aq 20) ?_
              refine one_ (i := 7) (N := some 24) (bs 11 767) rfl rfl (one_of HT_.1 (by kernel_rfl)) (by decide) (fun K hK => ?_)
              refine gs Tryz.func73 #[.string (rdOf ByteArray.empty t548 1)] ?_
              with_reducible refine (spec_l1Read.calls kj2 (rdOf ByteArray.empty t548 1) t554 _ A13.1).mono ?_
              rintro e w' ⟨rfl, ⟨nd, rfl⟩⟩
              refine ⟨_, rfl, ?_⟩
              refine hK.out _ _ ⟨hHeld.1, hHeld.2⟩ (fun hHeld => ?_)
              clear hK K
              refine norm_ (aq 24) ?_
              refine pu 8 25 HT_ rfl rfl (bs 11 1023) ?_
              exact norm_ (by simp only [putAll, Act.put, List.setIfInBounds_toArray, List.set_cons_zero, List.set_cons_succ]) (hCont (gb555) _ ⟨hHeld, (rq HO_4), (bk BK547), (bk BK555), GW555.1, GE555.1, NB547_555.1, NB555_547.1, (bq HB)⟩)
            rintro gb555 w20 ⟨hS_, h0_, h1_, h2_, h3_, h4_, h5_, h6_, h7_⟩
            have n0_ : Aside0 (Kd.R Kd.string 9 w20 w.heap.size (fun _ => True) (.slice (some ad551) t548.length co18) t548) := ⟨h0_⟩
            have n1_ : Aside0 (w20.heap[gb547]? = some (.cells #[.int .i64 0, .int .i64 0] 30 (0, 0))) := ⟨h1_⟩
            have n2_ : Aside0 (w20.heap[gb555]? = some (.cells #[.int .i64 0, .int .i64 0] 30 (0, 0))) := ⟨h2_⟩
            have n3_ : Aside0 (w.heap.size ≤ gb555) := ⟨h3_⟩
            have n4_ : Aside0 (w.heap.size ≤ gb555) := ⟨h4_⟩
            have n5_ : Aside0 (gb547 ≠ gb555) := ⟨h5_⟩
            have n6_ : Aside0 (gb555 ≠ gb547) := ⟨h6_⟩
            have n7_ : Aside0 (Below w.heap.size w w20) := ⟨h7_⟩
            clear HO_4
            clear BK547
            clear HB
            clear h0_ h1_ h2_ h3_ h4_ h5_ h6_ h7_
            have HO_4 := n0_
            have BK547 := n1_
            have BK555 := n2_
            have GW555 := n3_
            have GE555 := n4_
            have NB547_555 := n5_
            have NB555_547 := n6_
            have HB := n7_
            clear n0_ n1_ n2_ n3_ n4_ n5_ n6_ n7_
            have hHeld : w20.cell? ad551 = some (.string (rdOf ByteArray.empty t548 0)) ∧ w20.cell? ⟨ad551.block, ad551.off + 1, none⟩ = some (.string (rdOf ByteArray.empty t548 1)) := hS_
            refine norm_ (a' := ?_) ?_ ?_
            rotate_left
            · simp only [putAll, Act.put, List.setIfInBounds_toArray, List.set_cons_zero, List.set_cons_succ]
              rfl
            refine one_ (i := 10) (N := none) (bs 11 2047) rfl rfl (one_of HT_.1 (by kernel_rfl)) (by decide) (fun K hK => ?_)
            have hs21 : w20.cell? ⟨gb555, 0, none⟩ = some (.int .i64 0) := (blk_cell BK555.1 0).trans rfl
            have hfs21 := blk_frozen BK555.1 0
            have hns21_0 := NB547_555.1
            have hms21_0 := NB555_547.1
            have hs22 : w20.cell? ⟨gb555, 1, none⟩ = some (.int .i64 0) := (blk_cell BK555.1 1).trans rfl
            have hfs22 := blk_frozen BK555.1 1
            have hns22_0 := NB547_555.1
            have hms22_0 := NB555_547.1
            refine skip_ (w1 := ?_) (by rfl) rfl ?_ ?_
            rotate_left
            · go_simp
              rfl
            refine hK.out _ _ ⟨((cell_far (p := ⟨gb555, _, none⟩) (by first | exact Kd.own_blk (Kd.R_ne HO_4.1 BK555.1 (by decide)) | (rw [add_block]; exact Kd.own_blk (Kd.R_ne HO_4.1 BK555.1 (by decide))) | (show (Addr.add _ _).block ≠ _; rw [add_block]; exact Kd.own_blk (Kd.R_ne HO_4.1 BK555.1 (by decide))) | (dsimp only; exact Kd.own_blk (Kd.R_ne HO_4.1 BK555.1 (by decide)))) _).trans (((cell_far (p := ⟨gb555, _, none⟩) (by first | exact Kd.own_blk (Kd.R_ne HO_4.1 BK555.1 (by decide)) | (rw [add_block]; exact Kd.own_blk (Kd.R_ne HO_4.1 BK555.1 (by decide))) | (show (Addr.add _ _).block ≠ _; rw [add_block]; exact Kd.own_blk (Kd.R_ne HO_4.1 BK555.1 (by decide))) | (dsimp only; exact Kd.own_blk (Kd.R_ne HO_4.1 BK555.1 (by decide)))) _).trans (hHeld.1)))), ((cell_far (p := ⟨gb555, _, none⟩) (by first | exact Kd.own_blk (Kd.R_ne HO_4.1 BK555.1 (by decide)) | (rw [add_block]; exact Kd.own_blk (Kd.R_ne HO_4.1 BK555.1 (by decide))) | (show (Addr.add _ _).block ≠ _; rw [add_block]; exact Kd.own_blk (Kd.R_ne HO_4.1 BK555.1 (by decide))) | (dsimp only; exact Kd.own_blk (Kd.R_ne HO_4.1 BK555.1 (by decide)))) _).trans (((cell_far (p := ⟨gb555, _, none⟩) (by first | exact Kd.own_blk (Kd.R_ne HO_4.1 BK555.1 (by decide)) | (rw [add_block]; exact Kd.own_blk (Kd.R_ne HO_4.1 BK555.1 (by decide))) | (show (Addr.add _ _).block ≠ _; rw [add_block]; exact Kd.own_blk (Kd.R_ne HO_4.1 BK555.1 (by decide))) | (dsimp only; exact Kd.own_blk (Kd.R_ne HO_4.1 BK555.1 (by decide)))) _).trans (hHeld.2))))⟩ (fun hHeld => ?_)
            clear hK K
            refine done_ (done_of HT_.1 (by kernel_rfl)) ?_
            have p556 : 0 ≤ (0 : Int) := (by omega)
            have q556 : 0 < (t548.length : Int) := of_decide_eq_true (by first | (with_reducible assumption) | assumption)
            obtain ⟨ad556, e556, hx556_0⟩ := Kd.at_string (Kd.R_reads' HO_4.1).2.2 0 p556 q556
            obtain rfl : ad551 = ad556 := (by injection e556)
            have qi556 : (0 < t548.length) = True := eq_true (by omega)
            (try rw [show ((0 : Int)).toNat = 0 from rfl] at hx556_0)
            (try rw [Addr.add_zero'] at hx556_0)
            have hn556_0 : ad551.block ≠ gb555 := Kd.own_blk (Kd.R_ne HO_4.1 BK555.1 (by decide))
            have hn556_1 : ad551.block ≠ gb555 := Kd.own_blk (Kd.R_ne HO_4.1 BK555.1 (by decide))
            replace hx556_0 := (cell_far (p := ⟨gb555, 0, none⟩) (by first | (rw [add_block]; exact hn556_0) | (show (Addr.add _ _).block ≠ _; rw [add_block]; exact hn556_0) | exact hn556_0) (.int .i64 t552)).trans hx556_0
            replace hx556_0 := (cell_far (p := ⟨gb555, 1, none⟩) (by first | (rw [add_block]; exact hn556_1) | (show (Addr.add _ _).block ≠ _; rw [add_block]; exact hn556_1) | exact hn556_1) (.int .i64 t554)).trans hx556_0
            clear hn556_0
            clear hn556_1
            replace p556 := eq_true p556
            replace q556 := eq_true q556
            have hnb23 := NB555_547.1
            have hnc23 := NB547_555.1
            obtain ⟨hcz24_0, hcz24_1, hfz24_0, hfz24_1⟩ := zc2 BK555
            try go_wp2_with (first | ((with_reducible refine gate_callee (f := 53) rfl ?_); refine gl (some 32) Tryz.func53 #[.agg #[.int .i64 1000000, .int .i64 t554]] ?_; (with_reducible refine (spec_drGood.calls kj2 1000000 t554 true _ A15.1).mono ?_); rintro e w25 ⟨rfl, hb⟩; refine ⟨_, rfl, ?_⟩; replace HO_4 := Aside0.mk (Kd.R_below (by (with_reducible repeat (first | apply Kd.R_alloc | apply Kd.R_drewN | apply Kd.R_drew)); exact (Kd.R_mono (Kd.R_far (p := ⟨gb555, 0, none⟩) (Kd.R_far (p := ⟨gb555, 1, none⟩) (Kd.R_far (p := ⟨gb555, 0, none⟩) (Kd.R_types HO_4.1 BK555.1 (by decide)) (fun _ hk => hk.2) (.int .i64 t552)) (fun _ hk => hk.2) (.int .i64 t554)) (fun _ hk => hk.2) (.int .i64 1000000)) (fun _ h_ => h_.1))) hb); replace BK547 := zy (o' := .cells #[.int .i64 0, .int .i64 0] 30 (0, 0)) BK547 hb; replace BK555 := zy (o' := .cells #[.int .i64 1000000, .int .i64 t554] 30 (0, 0)) BK555 hb; replace HB := zB HB hb; clear hb; obtain ⟨hcz26_0, hcz26_1, hfz26_0, hfz26_1⟩ := zc2 BK555; obtain ⟨hcz27_0, hcz27_1, hfz27_0, hfz27_1⟩ := zc2 BK547))
            refine bodyPost_ret (results_ct rfl _ _ gb547 30 #[.int .i64 1000000, .int .i64 t554] (0, 0) _ rfl (bk BK547) Tryz.underlying30 rfl (by kernel_rfl)) rfl ?_
            exact ⟨er, bq HB⟩
          replace c16 := Bool.eq_false_iff.mpr c16
          subst c16
          rw [if_neg (show ¬ (false = true) by decide)] at H
          simp only [Option.some.injEq, Prod.mk.injEq] at H
          obtain ⟨rfl, rfl, rfl⟩ := H
          try go_wp2
          replace HO_4 := Aside0.mk (Kd.R_drew HO_4.1)
          replace BK547 := Aside0.mk (blk_drew BK547.1)
          replace HB := Aside0.mk (below_drew1 HB.1)
          obtain ⟨Ao29, co29, eo29⟩ := Kd.R_slice HO_4.1
          (first | subst eo29 | (injection eo29 with f1_ f2_ f3_; have f4_ := f1_.symm; have f5_ := f3_.symm; clear f1_ f2_ f3_; subst f4_; subst f5_))
          have p551 : 0 ≤ (0 : Int) := (by omega)
          have q551 : 0 < (t548.length : Int) := of_decide_eq_true (by first | (with_reducible assumption) | assumption)
          obtain ⟨ad551, e551, hx551_0⟩ := Kd.at_string (Kd.R_reads' HO_4.1).2.2 0 p551 q551
          cases e551
          have qi551 : (0 < t548.length) = True := eq_true (by omega)
          (try rw [show ((0 : Int)).toNat = 0 from rfl] at hx551_0)
          (try rw [Addr.add_zero'] at hx551_0)
          replace p551 := eq_true p551
          replace q551 := eq_true q551
          have p553 : 0 ≤ (1 : Int) := (by omega)
          have q553 : 1 < (t548.length : Int) := of_decide_eq_true (by first | (with_reducible assumption) | assumption)
          obtain ⟨ad553, e553, hx553_0⟩ := Kd.at_string (Kd.R_reads' HO_4.1).2.2 1 p553 q553
          obtain rfl : ad551 = ad553 := (by injection e553)
          (try simp only [show (1 : Int).toNat = 1 from rfl, Nat.reduceMul, Nat.reduceEqDiff, Go.Addr.add, ↓reduceIte] at hx553_0)
          have qi553 : (1 < t548.length) = True := eq_true (by omega)
          (try rw [show ((1 : Int)).toNat = 1 from rfl] at hx553_0)
          replace p553 := eq_true p553
          replace q553 := eq_true q553
          refine start_ (n := 11) (S := fun w' => w'.cell? ad551 = some (.string (rdOf ByteArray.empty t548 0)) ∧ w'.cell? ⟨ad551.block, ad551.off + 1, none⟩ = some (.string (rdOf ByteArray.empty t548 1))) (ds := []) (bs 11 0) (by kernel_rfl) rfl rfl ⟨hx551_0, hx553_0⟩ (fun hHeld => ?_); refine with_tabW spec_ParseSpan.tab4 spec_ParseSpan.bits4 (fun HT_ HW_ => ?_)
          generalize wc.drew = w28 at HO_4 BK547 HB hx551_0 hx553_0 hHeld ⊢
          refine pu 0 17 HT_ rfl rfl (bs 11 1) ?_
          refine pu 1 18 HT_ rfl rfl (bs 11 3) ?_
          refine pu 4 21 HT_ rfl rfl (bs 11 19) ?_
          refine pu 5 22 HT_ rfl rfl (bs 11 51) ?_
          refine tk 2 19 HT_ HW_ hHeld rfl rfl (bs 11 55) ?_
          refine tk 6 23 HT_ HW_ hHeld rfl rfl (bs 11 119) ?_
          refine join_ (σ := Nat) 1 (bs 11 1023) (fun s_ => [(20, .int .i64 t552), (24, .int .i64 t554), (5, .pointer (some ⟨s_, 0, none⟩)), (25, .agg #[.int .i64 t552, .int .i64 t554])]) (fun s_ w' => (w'.cell? ad551 = some (.string (rdOf ByteArray.empty t548 0)) ∧ w'.cell? ⟨ad551.block, ad551.off + 1, none⟩ = some (.string (rdOf ByteArray.empty t548 1))) ∧ (Kd.R Kd.string 9 w' w.heap.size (fun _ => True) (.slice (some ad551) t548.length co29) t548) ∧ (w'.heap[gb547]? = some (.cells #[.int .i64 0, .int .i64 0] 30 (0, 0))) ∧ (w'.heap[s_]? = some (.cells #[.int .i64 0, .int .i64 0] 30 (0, 0))) ∧ (w.heap.size ≤ s_) ∧ (w.heap.size ≤ s_) ∧ (gb547 ≠ s_) ∧ (s_ ≠ gb547) ∧ (Below w.heap.size w w')) ?_ ?_
          rotate_left
          · intro hCont
            refine two_ (i := 3) (j := 9) (Ni := some 20) (Nj := some 5) (bs 11 127) (bs 11 631) rfl rfl rfl rfl (two_of HT_.1 (by kernel_rfl)) (by decide) (by decide) (fun K hK => ?_) (fun K hK => ?_)
            · skip
              refine gs Tryz.func73 #[.string (rdOf ByteArray.empty t548 0)] ?_
              with_reducible refine (spec_l1Read.calls kj2 (rdOf ByteArray.empty t548 0) t552 _ A11.1).mono ?_
              rintro e w' ⟨rfl, ⟨nd, rfl⟩⟩
              refine ⟨_, rfl, ?_⟩
              refine hK.out _ _ ⟨hHeld.1, hHeld.2⟩ (fun hHeld => ?_)
              clear hK K
              refine norm_ (aq 20) ?_
              refine two_ (i := 7) (j := 9) (Ni := some 24) (Nj := some 5) (bs 11 255) (bs 11 639) rfl rfl rfl rfl (two_of HT_.1 (by kernel_rfl)) (by decide) (by decide) (fun K hK => ?_) (fun K hK => ?_)
              · skip
                refine gs Tryz.func73 #[.string (rdOf ByteArray.empty t548 1)] ?_
                with_reducible refine (spec_l1Read.calls kj2 (rdOf ByteArray.empty t548 1) t554 _ A13.1).mono ?_
                rintro e w' ⟨rfl, ⟨nd, rfl⟩⟩
                refine ⟨_, rfl, ?_⟩
                refine hK.out _ _ ⟨hHeld.1, hHeld.2⟩ (fun hHeld => ?_)
                clear hK K
                refine norm_ (aq 24) ?_
                refine pu 8 25 HT_ rfl rfl (bs 11 511) ?_
                refine one_ (i := 9) (N := some 5) (bs 11 1023) rfl rfl (one_of HT_.1 (by kernel_rfl)) (by decide) (fun K hK => ?_)
                refine bp #[.int .i64 0, .int .i64 0] 30 ?_
                intro gb555 hg w30 hbox hb
                have HS0_ := (hb.cell (World.block_lt_of_cell? _ _ (hHeld.1))).trans (hHeld.1)
                have HS1_ := (hb.cell (World.block_lt_of_cell? _ _ (hHeld.2))).trans (hHeld.2)
                replace HO_4 := rB HO_4 hb
                have BK555 := Aside0.mk hbox
                have GW555 := zs HB hg
                have GE555 := zs HB hg
                have NB547_555 := zn BK547 hg
                have NB555_547 := zm BK547 hg
                replace BK547 := zb BK547 hb
                replace HB := zB HB hb
                clear hb hbox hg
                refine hK.out _ _ ⟨HS0_, HS1_⟩ (fun hHeld => ?_)
                clear hK K
                refine norm_ (aq 5) ?_
                exact norm_ (by simp only [putAll, Act.put, List.setIfInBounds_toArray, List.set_cons_zero, List.set_cons_succ]) (hCont (gb555) _ ⟨hHeld, (rq HO_4), (bk BK547), (bk BK555), GW555.1, GE555.1, NB547_555.1, NB555_547.1, (bq HB)⟩)
              skip
              refine bp #[.int .i64 0, .int .i64 0] 30 ?_
              intro gb555 hg w30 hbox hb
              have HS0_ := (hb.cell (World.block_lt_of_cell? _ _ (hHeld.1))).trans (hHeld.1)
              have HS1_ := (hb.cell (World.block_lt_of_cell? _ _ (hHeld.2))).trans (hHeld.2)
              replace HO_4 := rB HO_4 hb
              have BK555 := Aside0.mk hbox
              have GW555 := zs HB hg
              have GE555 := zs HB hg
              have NB547_555 := zn BK547 hg
              have NB555_547 := zm BK547 hg
              replace BK547 := zb BK547 hb
              replace HB := zB HB hb
              clear hb hbox hg
              refine hK.out _ _ ⟨HS0_, HS1_⟩ (fun hHeld => ?_)
              clear hK K
              refine norm_ (aq 5) ?_
              refine one_ (i := 7) (N := some 24) (bs 11 767) rfl rfl (one_of HT_.1 (by kernel_rfl)) (by decide) (fun K hK => ?_)
              refine gs Tryz.func73 #[.string (rdOf ByteArray.empty t548 1)] ?_
              with_reducible refine (spec_l1Read.calls kj2 (rdOf ByteArray.empty t548 1) t554 _ A13.1).mono ?_
              rintro e w' ⟨rfl, ⟨nd, rfl⟩⟩
              refine ⟨_, rfl, ?_⟩
              refine hK.out _ _ ⟨hHeld.1, hHeld.2⟩ (fun hHeld => ?_)
              clear hK K
              refine norm_ (aq 24) ?_
              refine pu 8 25 HT_ rfl rfl (bs 11 1023) ?_
              exact norm_ (by simp only [putAll, Act.put, List.setIfInBounds_toArray, List.set_cons_zero, List.set_cons_succ]) (hCont (gb555) _ ⟨hHeld, (rq HO_4), (bk BK547), (bk BK555), GW555.1, GE555.1, NB547_555.1, NB555_547.1, (bq HB)⟩)
            skip
            refine bp #[.int .i64 0, .int .i64 0] 30 ?_
            intro gb555 hg w30 hbox hb
            have HS0_ := (hb.cell (World.block_lt_of_cell? _ _ (hHeld.1))).trans (hHeld.1)
            have HS1_ := (hb.cell (World.block_lt_of_cell? _ _ (hHeld.2))).trans (hHeld.2)
            replace HO_4 := rB HO_4 hb
            have BK555 := Aside0.mk hbox
            have GW555 := zs HB hg
            have GE555 := zs HB hg
            have NB547_555 := zn BK547 hg
            have NB555_547 := zm BK547 hg
            replace BK547 := zb BK547 hb
            replace HB := zB HB hb
            clear hb hbox hg
            refine hK.out _ _ ⟨HS0_, HS1_⟩ (fun hHeld => ?_)
            clear hK K
            refine norm_ (aq 5) ?_
            refine one_ (i := 3) (N := some 20) (bs 11 639) rfl rfl (one_of HT_.1 (by kernel_rfl)) (by decide) (fun K hK => ?_)
            refine gs Tryz.func73 #[.string (rdOf ByteArray.empty t548 0)] ?_
            with_reducible refine (spec_l1Read.calls kj2 (rdOf ByteArray.empty t548 0) t552 _ A11.1).mono ?_
            rintro e w' ⟨rfl, ⟨nd, rfl⟩⟩
            refine ⟨_, rfl, ?_⟩
            refine hK.out _ _ ⟨hHeld.1, hHeld.2⟩ (fun hHeld => ?_)
            clear hK K
            refine norm_ (aq 20) ?_
            refine one_ (i := 7) (N := some 24) (bs 11 767) rfl rfl (one_of HT_.1 (by kernel_rfl)) (by decide) (fun K hK => ?_)
            refine gs Tryz.func73 #[.string (rdOf ByteArray.empty t548 1)] ?_
            with_reducible refine (spec_l1Read.calls kj2 (rdOf ByteArray.empty t548 1) t554 _ A13.1).mono ?_
            rintro e w' ⟨rfl, ⟨nd, rfl⟩⟩
            refine ⟨_, rfl, ?_⟩
            refine hK.out _ _ ⟨hHeld.1, hHeld.2⟩ (fun hHeld => ?_)
            clear hK K
            refine norm_ (aq 24) ?_
            refine pu 8 25 HT_ rfl rfl (bs 11 1023) ?_
            exact norm_ (by simp only [putAll, Act.put, List.setIfInBounds_toArray, List.set_cons_zero, List.set_cons_succ]) (hCont (gb555) _ ⟨hHeld, (rq HO_4), (bk BK547), (bk BK555), GW555.1, GE555.1, NB547_555.1, NB555_547.1, (bq HB)⟩)
          rintro gb555 w31 ⟨hS_, h0_, h1_, h2_, h3_, h4_, h5_, h6_, h7_⟩
          have n0_ : Aside0 (Kd.R Kd.string 9 w31 w.heap.size (fun _ => True) (.slice (some ad551) t548.length co29) t548) := ⟨h0_⟩
          have n1_ : Aside0 (w31.heap[gb547]? = some (.cells #[.int .i64 0, .int .i64 0] 30 (0, 0))) := ⟨h1_⟩
          have n2_ : Aside0 (w31.heap[gb555]? = some (.cells #[.int .i64 0, .int .i64 0] 30 (0, 0))) := ⟨h2_⟩
          have n3_ : Aside0 (w.heap.size ≤ gb555) := ⟨h3_⟩
          have n4_ : Aside0 (w.heap.size ≤ gb555) := ⟨h4_⟩
          have n5_ : Aside0 (gb547 ≠ gb555) := ⟨h5_⟩
          have n6_ : Aside0 (gb555 ≠ gb547) := ⟨h6_⟩
          have n7_ : Aside0 (Below w.heap.size w w31) := ⟨h7_⟩
          clear HO_4
          clear BK547
          clear HB
          clear h0_ h1_ h2_ h3_ h4_ h5_ h6_ h7_
          have HO_4 := n0_
          have BK547 := n1_
          have BK555 := n2_
          have GW555 := n3_
          have GE555 := n4_
          have NB547_555 := n5_
          have NB555_547 := n6_
          have HB := n7_
          clear n0_ n1_ n2_ n3_ n4_ n5_ n6_ n7_
          have hHeld : w31.cell? ad551 = some (.string (rdOf ByteArray.empty t548 0)) ∧ w31.cell? ⟨ad551.block, ad551.off + 1, none⟩ = some (.string (rdOf ByteArray.empty t548 1)) := hS_
          refine norm_ (a' := ?_) ?_ ?_
          rotate_left
          · simp only [putAll, Act.put, List.setIfInBounds_toArray, List.set_cons_zero, List.set_cons_succ]
            rfl
          refine one_ (i := 10) (N := none) (bs 11 2047) rfl rfl (one_of HT_.1 (by kernel_rfl)) (by decide) (fun K hK => ?_)
          have hs32 : w31.cell? ⟨gb555, 0, none⟩ = some (.int .i64 0) := (blk_cell BK555.1 0).trans rfl
          have hfs32 := blk_frozen BK555.1 0
          have hns32_0 := NB547_555.1
          have hms32_0 := NB555_547.1
          have hs33 : w31.cell? ⟨gb555, 1, none⟩ = some (.int .i64 0) := (blk_cell BK555.1 1).trans rfl
          have hfs33 := blk_frozen BK555.1 1
          have hns33_0 := NB547_555.1
          have hms33_0 := NB555_547.1
          refine skip_ (w1 := ?_) (by rfl) rfl ?_ ?_
          rotate_left
          · go_simp
            rfl
          refine hK.out _ _ ⟨((cell_far (p := ⟨gb555, _, none⟩) (by first | exact Kd.own_blk (Kd.R_ne HO_4.1 BK555.1 (by decide)) | (rw [add_block]; exact Kd.own_blk (Kd.R_ne HO_4.1 BK555.1 (by decide))) | (show (Addr.add _ _).block ≠ _; rw [add_block]; exact Kd.own_blk (Kd.R_ne HO_4.1 BK555.1 (by decide))) | (dsimp only; exact Kd.own_blk (Kd.R_ne HO_4.1 BK555.1 (by decide)))) _).trans (((cell_far (p := ⟨gb555, _, none⟩) (by first | exact Kd.own_blk (Kd.R_ne HO_4.1 BK555.1 (by decide)) | (rw [add_block]; exact Kd.own_blk (Kd.R_ne HO_4.1 BK555.1 (by decide))) | (show (Addr.add _ _).block ≠ _; rw [add_block]; exact Kd.own_blk (Kd.R_ne HO_4.1 BK555.1 (by decide))) | (dsimp only; exact Kd.own_blk (Kd.R_ne HO_4.1 BK555.1 (by decide)))) _).trans (hHeld.1)))), ((cell_far (p := ⟨gb555, _, none⟩) (by first | exact Kd.own_blk (Kd.R_ne HO_4.1 BK555.1 (by decide)) | (rw [add_block]; exact Kd.own_blk (Kd.R_ne HO_4.1 BK555.1 (by decide))) | (show (Addr.add _ _).block ≠ _; rw [add_block]; exact Kd.own_blk (Kd.R_ne HO_4.1 BK555.1 (by decide))) | (dsimp only; exact Kd.own_blk (Kd.R_ne HO_4.1 BK555.1 (by decide)))) _).trans (((cell_far (p := ⟨gb555, _, none⟩) (by first | exact Kd.own_blk (Kd.R_ne HO_4.1 BK555.1 (by decide)) | (rw [add_block]; exact Kd.own_blk (Kd.R_ne HO_4.1 BK555.1 (by decide))) | (show (Addr.add _ _).block ≠ _; rw [add_block]; exact Kd.own_blk (Kd.R_ne HO_4.1 BK555.1 (by decide))) | (dsimp only; exact Kd.own_blk (Kd.R_ne HO_4.1 BK555.1 (by decide)))) _).trans (hHeld.2))))⟩ (fun hHeld => ?_)
          clear hK K
          refine done_ (done_of HT_.1 (by kernel_rfl)) ?_
          have p556 : 0 ≤ (0 : Int) := (by omega)
          have q556 : 0 < (t548.length : Int) := of_decide_eq_true (by first | (with_reducible assumption) | assumption)
          obtain ⟨ad556, e556, hx556_0⟩ := Kd.at_string (Kd.R_reads' HO_4.1).2.2 0 p556 q556
          obtain rfl : ad551 = ad556 := (by injection e556)
          have qi556 : (0 < t548.length) = True := eq_true (by omega)
          (try rw [show ((0 : Int)).toNat = 0 from rfl] at hx556_0)
          (try rw [Addr.add_zero'] at hx556_0)
          have hn556_0 : ad551.block ≠ gb555 := Kd.own_blk (Kd.R_ne HO_4.1 BK555.1 (by decide))
          have hn556_1 : ad551.block ≠ gb555 := Kd.own_blk (Kd.R_ne HO_4.1 BK555.1 (by decide))
          replace hx556_0 := (cell_far (p := ⟨gb555, 0, none⟩) (by first | (rw [add_block]; exact hn556_0) | (show (Addr.add _ _).block ≠ _; rw [add_block]; exact hn556_0) | exact hn556_0) (.int .i64 t552)).trans hx556_0
          replace hx556_0 := (cell_far (p := ⟨gb555, 1, none⟩) (by first | (rw [add_block]; exact hn556_1) | (show (Addr.add _ _).block ≠ _; rw [add_block]; exact hn556_1) | exact hn556_1) (.int .i64 t554)).trans hx556_0
          clear hn556_0
          clear hn556_1
          replace p556 := eq_true p556
          replace q556 := eq_true q556
          have hnb34 := NB555_547.1
          have hnc34 := NB547_555.1
          obtain ⟨hcz35_0, hcz35_1, hfz35_0, hfz35_1⟩ := zc2 BK555
          try go_wp2_with (first | ((with_reducible refine gate_callee (f := 53) rfl ?_); refine gl (some 32) Tryz.func53 #[.agg #[.int .i64 1000000, .int .i64 t554]] ?_; (with_reducible refine (spec_drGood.calls kj2 1000000 t554 false _ A15.1).mono ?_); rintro e w36 ⟨rfl, hb⟩; refine ⟨_, rfl, ?_⟩; replace HO_4 := Aside0.mk (Kd.R_below (by (with_reducible repeat (first | apply Kd.R_alloc | apply Kd.R_drewN | apply Kd.R_drew)); exact (Kd.R_mono (Kd.R_far (p := ⟨gb555, 0, none⟩) (Kd.R_far (p := ⟨gb555, 1, none⟩) (Kd.R_far (p := ⟨gb555, 0, none⟩) (Kd.R_types HO_4.1 BK555.1 (by decide)) (fun _ hk => hk.2) (.int .i64 t552)) (fun _ hk => hk.2) (.int .i64 t554)) (fun _ hk => hk.2) (.int .i64 1000000)) (fun _ h_ => h_.1))) hb); replace BK547 := zy (o' := .cells #[.int .i64 0, .int .i64 0] 30 (0, 0)) BK547 hb; replace BK555 := zy (o' := .cells #[.int .i64 1000000, .int .i64 t554] 30 (0, 0)) BK555 hb; replace HB := zB HB hb; clear hb; obtain ⟨hcz37_0, hcz37_1, hfz37_0, hfz37_1⟩ := zc2 BK547))
          refine bodyPost_ret (results_ct rfl _ _ gb547 30 #[.int .i64 0, .int .i64 0] (0, 0) _ rfl (bk BK547) Tryz.underlying30 rfl (by kernel_rfl)) rfl ?_
          exact ⟨er, bq HB⟩
        rw [if_neg c14] at H
        have c14b0 : ((rdOf ByteArray.empty t548 0).toList == ([49, 48, 48, 48, 48, 48, 48] : List UInt8)) = false := beq_eq_false_iff_ne.mpr c14
        have c14b1 : ((rdOf ByteArray.empty t548 0).toList != ([49, 48, 48, 48, 48, 48, 48] : List UInt8)) = true := bne_iff_ne.mpr c14
        replace H := Option.bind_eq_some_iff.mp H
        obtain ⟨t558, A380, H⟩ := H
        (try dsimp only at H)
        have A38 := Aside0.mk A380
        clear A380
        by_cases c39 : t558 = true
        · subst c39
          rw [if_pos rfl] at H
          simp only [Option.some.injEq, Prod.mk.injEq] at H
          obtain ⟨rfl, rfl, rfl⟩ := H
          try go_wp2
          replace HO_4 := Aside0.mk (Kd.R_drew HO_4.1)
          replace BK547 := Aside0.mk (blk_drew BK547.1)
          replace HB := Aside0.mk (below_drew1 HB.1)
          obtain ⟨Ao41, co41, eo41⟩ := Kd.R_slice HO_4.1
          (first | subst eo41 | (injection eo41 with f1_ f2_ f3_; have f4_ := f1_.symm; have f5_ := f3_.symm; clear f1_ f2_ f3_; subst f4_; subst f5_))
          have p551 : 0 ≤ (0 : Int) := (by omega)
          have q551 : 0 < (t548.length : Int) := of_decide_eq_true (by first | (with_reducible assumption) | assumption)
          obtain ⟨ad551, e551, hx551_0⟩ := Kd.at_string (Kd.R_reads' HO_4.1).2.2 0 p551 q551
          cases e551
          have qi551 : (0 < t548.length) = True := eq_true (by omega)
          (try rw [show ((0 : Int)).toNat = 0 from rfl] at hx551_0)
          (try rw [Addr.add_zero'] at hx551_0)
          replace p551 := eq_true p551
          replace q551 := eq_true q551
          have p553 : 0 ≤ (1 : Int) := (by omega)
          have q553 : 1 < (t548.length : Int) := of_decide_eq_true (by first | (with_reducible assumption) | assumption)
          obtain ⟨ad553, e553, hx553_0⟩ := Kd.at_string (Kd.R_reads' HO_4.1).2.2 1 p553 q553
          obtain rfl : ad551 = ad553 := (by injection e553)
          (try simp only [show (1 : Int).toNat = 1 from rfl, Nat.reduceMul, Nat.reduceEqDiff, Go.Addr.add, ↓reduceIte] at hx553_0)
          have qi553 : (1 < t548.length) = True := eq_true (by omega)
          (try rw [show ((1 : Int)).toNat = 1 from rfl] at hx553_0)
          replace p553 := eq_true p553
          replace q553 := eq_true q553
          refine start_ (n := 11) (S := fun w' => w'.cell? ad551 = some (.string (rdOf ByteArray.empty t548 0)) ∧ w'.cell? ⟨ad551.block, ad551.off + 1, none⟩ = some (.string (rdOf ByteArray.empty t548 1))) (ds := []) (bs 11 0) (by kernel_rfl) rfl rfl ⟨hx551_0, hx553_0⟩ (fun hHeld => ?_); refine with_tabW spec_ParseSpan.tab4 spec_ParseSpan.bits4 (fun HT_ HW_ => ?_)
          generalize wc.drew = w40 at HO_4 BK547 HB hx551_0 hx553_0 hHeld ⊢
          refine pu 0 17 HT_ rfl rfl (bs 11 1) ?_
          refine pu 1 18 HT_ rfl rfl (bs 11 3) ?_
          refine pu 4 21 HT_ rfl rfl (bs 11 19) ?_
          refine pu 5 22 HT_ rfl rfl (bs 11 51) ?_
          refine tk 2 19 HT_ HW_ hHeld rfl rfl (bs 11 55) ?_
          refine tk 6 23 HT_ HW_ hHeld rfl rfl (bs 11 119) ?_
          refine join_ (σ := Nat) 1 (bs 11 1023) (fun s_ => [(20, .int .i64 t552), (24, .int .i64 t554), (5, .pointer (some ⟨s_, 0, none⟩)), (25, .agg #[.int .i64 t552, .int .i64 t554])]) (fun s_ w' => (w'.cell? ad551 = some (.string (rdOf ByteArray.empty t548 0)) ∧ w'.cell? ⟨ad551.block, ad551.off + 1, none⟩ = some (.string (rdOf ByteArray.empty t548 1))) ∧ (Kd.R Kd.string 9 w' w.heap.size (fun _ => True) (.slice (some ad551) t548.length co41) t548) ∧ (w'.heap[gb547]? = some (.cells #[.int .i64 0, .int .i64 0] 30 (0, 0))) ∧ (w'.heap[s_]? = some (.cells #[.int .i64 0, .int .i64 0] 30 (0, 0))) ∧ (w.heap.size ≤ s_) ∧ (w.heap.size ≤ s_) ∧ (gb547 ≠ s_) ∧ (s_ ≠ gb547) ∧ (Below w.heap.size w w')) ?_ ?_
          rotate_left
          · intro hCont
            refine two_ (i := 3) (j := 9) (Ni := some 20) (Nj := some 5) (bs 11 127) (bs 11 631) rfl rfl rfl rfl (two_of HT_.1 (by kernel_rfl)) (by decide) (by decide) (fun K hK => ?_) (fun K hK => ?_)
            · skip
              refine gs Tryz.func73 #[.string (rdOf ByteArray.empty t548 0)] ?_
              with_reducible refine (spec_l1Read.calls kj2 (rdOf ByteArray.empty t548 0) t552 _ A11.1).mono ?_
              rintro e w' ⟨rfl, ⟨nd, rfl⟩⟩
              refine ⟨_, rfl, ?_⟩
              refine hK.out _ _ ⟨hHeld.1, hHeld.2⟩ (fun hHeld => ?_)
              clear hK K
              refine norm_ (aq 20) ?_
              refine two_ (i := 7) (j := 9) (Ni := some 24) (Nj := some 5) (bs 11 255) (bs 11 639) rfl rfl rfl rfl (two_of HT_.1 (by kernel_rfl)) (by decide) (by decide) (fun K hK => ?_) (fun K hK => ?_)
              · skip
                refine gs Tryz.func73 #[.string (rdOf ByteArray.empty t548 1)] ?_
                with_reducible refine (spec_l1Read.calls kj2 (rdOf ByteArray.empty t548 1) t554 _ A13.1).mono ?_
                rintro e w' ⟨rfl, ⟨nd, rfl⟩⟩
                refine ⟨_, rfl, ?_⟩
                refine hK.out _ _ ⟨hHeld.1, hHeld.2⟩ (fun hHeld => ?_)
                clear hK K
                refine norm_ (aq 24) ?_
                refine pu 8 25 HT_ rfl rfl (bs 11 511) ?_
                refine one_ (i := 9) (N := some 5) (bs 11 1023) rfl rfl (one_of HT_.1 (by kernel_rfl)) (by decide) (fun K hK => ?_)
                refine bp #[.int .i64 0, .int .i64 0] 30 ?_
                intro gb555 hg w42 hbox hb
                have HS0_ := (hb.cell (World.block_lt_of_cell? _ _ (hHeld.1))).trans (hHeld.1)
                have HS1_ := (hb.cell (World.block_lt_of_cell? _ _ (hHeld.2))).trans (hHeld.2)
                replace HO_4 := rB HO_4 hb
                have BK555 := Aside0.mk hbox
                have GW555 := zs HB hg
                have GE555 := zs HB hg
                have NB547_555 := zn BK547 hg
                have NB555_547 := zm BK547 hg
                replace BK547 := zb BK547 hb
                replace HB := zB HB hb
                clear hb hbox hg
                refine hK.out _ _ ⟨HS0_, HS1_⟩ (fun hHeld => ?_)
                clear hK K
                refine norm_ (aq 5) ?_
                exact norm_ (by simp only [putAll, Act.put, List.setIfInBounds_toArray, List.set_cons_zero, List.set_cons_succ]) (hCont (gb555) _ ⟨hHeld, (rq HO_4), (bk BK547), (bk BK555), GW555.1, GE555.1, NB547_555.1, NB555_547.1, (bq HB)⟩)
              skip
              refine bp #[.int .i64 0, .int .i64 0] 30 ?_
              intro gb555 hg w42 hbox hb
              have HS0_ := (hb.cell (World.block_lt_of_cell? _ _ (hHeld.1))).trans (hHeld.1)
              have HS1_ := (hb.cell (World.block_lt_of_cell? _ _ (hHeld.2))).trans (hHeld.2)
              replace HO_4 := rB HO_4 hb
              have BK555 := Aside0.mk hbox
              have GW555 := zs HB hg
              have GE555 := zs HB hg
              have NB547_555 := zn BK547 hg
              have NB555_547 := zm BK547 hg
              replace BK547 := zb BK547 hb
              replace HB := zB HB hb
              clear hb hbox hg
              refine hK.out _ _ ⟨HS0_, HS1_⟩ (fun hHeld => ?_)
              clear hK K
              refine norm_ (aq 5) ?_
              refine one_ (i := 7) (N := some 24) (bs 11 767) rfl rfl (one_of HT_.1 (by kernel_rfl)) (by decide) (fun K hK => ?_)
              refine gs Tryz.func73 #[.string (rdOf ByteArray.empty t548 1)] ?_
              with_reducible refine (spec_l1Read.calls kj2 (rdOf ByteArray.empty t548 1) t554 _ A13.1).mono ?_
              rintro e w' ⟨rfl, ⟨nd, rfl⟩⟩
              refine ⟨_, rfl, ?_⟩
              refine hK.out _ _ ⟨hHeld.1, hHeld.2⟩ (fun hHeld => ?_)
              clear hK K
              refine norm_ (aq 24) ?_
              refine pu 8 25 HT_ rfl rfl (bs 11 1023) ?_
              exact norm_ (by simp only [putAll, Act.put, List.setIfInBounds_toArray, List.set_cons_zero, List.set_cons_succ]) (hCont (gb555) _ ⟨hHeld, (rq HO_4), (bk BK547), (bk BK555), GW555.1, GE555.1, NB547_555.1, NB555_547.1, (bq HB)⟩)
            skip
            refine bp #[.int .i64 0, .int .i64 0] 30 ?_
            intro gb555 hg w42 hbox hb
            have HS0_ := (hb.cell (World.block_lt_of_cell? _ _ (hHeld.1))).trans (hHeld.1)
            have HS1_ := (hb.cell (World.block_lt_of_cell? _ _ (hHeld.2))).trans (hHeld.2)
            replace HO_4 := rB HO_4 hb
            have BK555 := Aside0.mk hbox
            have GW555 := zs HB hg
            have GE555 := zs HB hg
            have NB547_555 := zn BK547 hg
            have NB555_547 := zm BK547 hg
            replace BK547 := zb BK547 hb
            replace HB := zB HB hb
            clear hb hbox hg
            refine hK.out _ _ ⟨HS0_, HS1_⟩ (fun hHeld => ?_)
            clear hK K
            refine norm_ (aq 5) ?_
            refine one_ (i := 3) (N := some 20) (bs 11 639) rfl rfl (one_of HT_.1 (by kernel_rfl)) (by decide) (fun K hK => ?_)
            refine gs Tryz.func73 #[.string (rdOf ByteArray.empty t548 0)] ?_
            with_reducible refine (spec_l1Read.calls kj2 (rdOf ByteArray.empty t548 0) t552 _ A11.1).mono ?_
            rintro e w' ⟨rfl, ⟨nd, rfl⟩⟩
            refine ⟨_, rfl, ?_⟩
            refine hK.out _ _ ⟨hHeld.1, hHeld.2⟩ (fun hHeld => ?_)
            clear hK K
            refine norm_ (aq 20) ?_
            refine one_ (i := 7) (N := some 24) (bs 11 767) rfl rfl (one_of HT_.1 (by kernel_rfl)) (by decide) (fun K hK => ?_)
            refine gs Tryz.func73 #[.string (rdOf ByteArray.empty t548 1)] ?_
            with_reducible refine (spec_l1Read.calls kj2 (rdOf ByteArray.empty t548 1) t554 _ A13.1).mono ?_
            rintro e w' ⟨rfl, ⟨nd, rfl⟩⟩
            refine ⟨_, rfl, ?_⟩
            refine hK.out _ _ ⟨hHeld.1, hHeld.2⟩ (fun hHeld => ?_)
            clear hK K
            refine norm_ (aq 24) ?_
            refine pu 8 25 HT_ rfl rfl (bs 11 1023) ?_
            exact norm_ (by simp only [putAll, Act.put, List.setIfInBounds_toArray, List.set_cons_zero, List.set_cons_succ]) (hCont (gb555) _ ⟨hHeld, (rq HO_4), (bk BK547), (bk BK555), GW555.1, GE555.1, NB547_555.1, NB555_547.1, (bq HB)⟩)
          rintro gb555 w43 ⟨hS_, h0_, h1_, h2_, h3_, h4_, h5_, h6_, h7_⟩
          have n0_ : Aside0 (Kd.R Kd.string 9 w43 w.heap.size (fun _ => True) (.slice (some ad551) t548.length co41) t548) := ⟨h0_⟩
          have n1_ : Aside0 (w43.heap[gb547]? = some (.cells #[.int .i64 0, .int .i64 0] 30 (0, 0))) := ⟨h1_⟩
          have n2_ : Aside0 (w43.heap[gb555]? = some (.cells #[.int .i64 0, .int .i64 0] 30 (0, 0))) := ⟨h2_⟩
          have n3_ : Aside0 (w.heap.size ≤ gb555) := ⟨h3_⟩
          have n4_ : Aside0 (w.heap.size ≤ gb555) := ⟨h4_⟩
          have n5_ : Aside0 (gb547 ≠ gb555) := ⟨h5_⟩
          have n6_ : Aside0 (gb555 ≠ gb547) := ⟨h6_⟩
          have n7_ : Aside0 (Below w.heap.size w w43) := ⟨h7_⟩
          clear HO_4
          clear BK547
          clear HB
          clear h0_ h1_ h2_ h3_ h4_ h5_ h6_ h7_
          have HO_4 := n0_
          have BK547 := n1_
          have BK555 := n2_
          have GW555 := n3_
          have GE555 := n4_
          have NB547_555 := n5_
          have NB555_547 := n6_
          have HB := n7_
          clear n0_ n1_ n2_ n3_ n4_ n5_ n6_ n7_
          have hHeld : w43.cell? ad551 = some (.string (rdOf ByteArray.empty t548 0)) ∧ w43.cell? ⟨ad551.block, ad551.off + 1, none⟩ = some (.string (rdOf ByteArray.empty t548 1)) := hS_
          refine norm_ (a' := ?_) ?_ ?_
          rotate_left
          · simp only [putAll, Act.put, List.setIfInBounds_toArray, List.set_cons_zero, List.set_cons_succ]
            rfl
          refine one_ (i := 10) (N := none) (bs 11 2047) rfl rfl (one_of HT_.1 (by kernel_rfl)) (by decide) (fun K hK => ?_)
          have hs44 : w43.cell? ⟨gb555, 0, none⟩ = some (.int .i64 0) := (blk_cell BK555.1 0).trans rfl
          have hfs44 := blk_frozen BK555.1 0
          have hns44_0 := NB547_555.1
          have hms44_0 := NB555_547.1
          have hs45 : w43.cell? ⟨gb555, 1, none⟩ = some (.int .i64 0) := (blk_cell BK555.1 1).trans rfl
          have hfs45 := blk_frozen BK555.1 1
          have hns45_0 := NB547_555.1
          have hms45_0 := NB555_547.1
          refine skip_ (w1 := ?_) (by rfl) rfl ?_ ?_
          rotate_left
          · go_simp
            rfl
          refine hK.out _ _ ⟨((cell_far (p := ⟨gb555, _, none⟩) (by first | exact Kd.own_blk (Kd.R_ne HO_4.1 BK555.1 (by decide)) | (rw [add_block]; exact Kd.own_blk (Kd.R_ne HO_4.1 BK555.1 (by decide))) | (show (Addr.add _ _).block ≠ _; rw [add_block]; exact Kd.own_blk (Kd.R_ne HO_4.1 BK555.1 (by decide))) | (dsimp only; exact Kd.own_blk (Kd.R_ne HO_4.1 BK555.1 (by decide)))) _).trans (((cell_far (p := ⟨gb555, _, none⟩) (by first | exact Kd.own_blk (Kd.R_ne HO_4.1 BK555.1 (by decide)) | (rw [add_block]; exact Kd.own_blk (Kd.R_ne HO_4.1 BK555.1 (by decide))) | (show (Addr.add _ _).block ≠ _; rw [add_block]; exact Kd.own_blk (Kd.R_ne HO_4.1 BK555.1 (by decide))) | (dsimp only; exact Kd.own_blk (Kd.R_ne HO_4.1 BK555.1 (by decide)))) _).trans (hHeld.1)))), ((cell_far (p := ⟨gb555, _, none⟩) (by first | exact Kd.own_blk (Kd.R_ne HO_4.1 BK555.1 (by decide)) | (rw [add_block]; exact Kd.own_blk (Kd.R_ne HO_4.1 BK555.1 (by decide))) | (show (Addr.add _ _).block ≠ _; rw [add_block]; exact Kd.own_blk (Kd.R_ne HO_4.1 BK555.1 (by decide))) | (dsimp only; exact Kd.own_blk (Kd.R_ne HO_4.1 BK555.1 (by decide)))) _).trans (((cell_far (p := ⟨gb555, _, none⟩) (by first | exact Kd.own_blk (Kd.R_ne HO_4.1 BK555.1 (by decide)) | (rw [add_block]; exact Kd.own_blk (Kd.R_ne HO_4.1 BK555.1 (by decide))) | (show (Addr.add _ _).block ≠ _; rw [add_block]; exact Kd.own_blk (Kd.R_ne HO_4.1 BK555.1 (by decide))) | (dsimp only; exact Kd.own_blk (Kd.R_ne HO_4.1 BK555.1 (by decide)))) _).trans (hHeld.2))))⟩ (fun hHeld => ?_)
          clear hK K
          refine done_ (done_of HT_.1 (by kernel_rfl)) ?_
          have p556 : 0 ≤ (0 : Int) := (by omega)
          have q556 : 0 < (t548.length : Int) := of_decide_eq_true (by first | (with_reducible assumption) | assumption)
          obtain ⟨ad556, e556, hx556_0⟩ := Kd.at_string (Kd.R_reads' HO_4.1).2.2 0 p556 q556
          obtain rfl : ad551 = ad556 := (by injection e556)
          have qi556 : (0 < t548.length) = True := eq_true (by omega)
          (try rw [show ((0 : Int)).toNat = 0 from rfl] at hx556_0)
          (try rw [Addr.add_zero'] at hx556_0)
          have hn556_0 : ad551.block ≠ gb555 := Kd.own_blk (Kd.R_ne HO_4.1 BK555.1 (by decide))
          have hn556_1 : ad551.block ≠ gb555 := Kd.own_blk (Kd.R_ne HO_4.1 BK555.1 (by decide))
          replace hx556_0 := (cell_far (p := ⟨gb555, 0, none⟩) (by first | (rw [add_block]; exact hn556_0) | (show (Addr.add _ _).block ≠ _; rw [add_block]; exact hn556_0) | exact hn556_0) (.int .i64 t552)).trans hx556_0
          replace hx556_0 := (cell_far (p := ⟨gb555, 1, none⟩) (by first | (rw [add_block]; exact hn556_1) | (show (Addr.add _ _).block ≠ _; rw [add_block]; exact hn556_1) | exact hn556_1) (.int .i64 t554)).trans hx556_0
          clear hn556_0
          clear hn556_1
          replace p556 := eq_true p556
          replace q556 := eq_true q556
          have hnb46 := NB555_547.1
          have hnc46 := NB547_555.1
          obtain ⟨hcz47_0, hcz47_1, hfz47_0, hfz47_1⟩ := zc2 BK555
          try go_wp2_with (first | ((with_reducible refine gate_callee (f := 53) rfl ?_); refine gl (some 32) Tryz.func53 #[.agg #[.int .i64 t552, .int .i64 t554]] ?_; (with_reducible refine (spec_drGood.calls kj2 t552 t554 true _ A38.1).mono ?_); rintro e w48 ⟨rfl, hb⟩; refine ⟨_, rfl, ?_⟩; replace HO_4 := Aside0.mk (Kd.R_below (by (with_reducible repeat (first | apply Kd.R_alloc | apply Kd.R_drewN | apply Kd.R_drew)); exact (Kd.R_mono (Kd.R_far (p := ⟨gb555, 1, none⟩) (Kd.R_far (p := ⟨gb555, 0, none⟩) (Kd.R_types HO_4.1 BK555.1 (by decide)) (fun _ hk => hk.2) (.int .i64 t552)) (fun _ hk => hk.2) (.int .i64 t554)) (fun _ h_ => h_.1))) hb); replace BK547 := zy (o' := .cells #[.int .i64 0, .int .i64 0] 30 (0, 0)) BK547 hb; replace BK555 := zy (o' := .cells #[.int .i64 t552, .int .i64 t554] 30 (0, 0)) BK555 hb; replace HB := zB HB hb; clear hb; obtain ⟨hcz49_0, hcz49_1, hfz49_0, hfz49_1⟩ := zc2 BK555; obtain ⟨hcz50_0, hcz50_1, hfz50_0, hfz50_1⟩ := zc2 BK547))
          refine bodyPost_ret (results_ct rfl _ _ gb547 30 #[.int .i64 t552, .int .i64 t554] (0, 0) _ rfl (bk BK547) Tryz.underlying30 rfl (by kernel_rfl)) rfl ?_
          exact ⟨er, bq HB⟩
        replace c39 := Bool.eq_false_iff.mpr c39
        subst c39
        rw [if_neg (show ¬ (false = true) by decide)] at H
        simp only [Option.some.injEq, Prod.mk.injEq] at H
        obtain ⟨rfl, rfl, rfl⟩ := H
        try go_wp2
        replace HO_4 := Aside0.mk (Kd.R_drew HO_4.1)
        replace BK547 := Aside0.mk (blk_drew BK547.1)
        replace HB := Aside0.mk (below_drew1 HB.1)
        obtain ⟨Ao52, co52, eo52⟩ := Kd.R_slice HO_4.1
        (first | subst eo52 | (injection eo52 with f1_ f2_ f3_; have f4_ := f1_.symm; have f5_ := f3_.symm; clear f1_ f2_ f3_; subst f4_; subst f5_))
        have p551 : 0 ≤ (0 : Int) := (by omega)
        have q551 : 0 < (t548.length : Int) := of_decide_eq_true (by first | (with_reducible assumption) | assumption)
        obtain ⟨ad551, e551, hx551_0⟩ := Kd.at_string (Kd.R_reads' HO_4.1).2.2 0 p551 q551
        cases e551
        have qi551 : (0 < t548.length) = True := eq_true (by omega)
        (try rw [show ((0 : Int)).toNat = 0 from rfl] at hx551_0)
        (try rw [Addr.add_zero'] at hx551_0)
        replace p551 := eq_true p551
        replace q551 := eq_true q551
        have p553 : 0 ≤ (1 : Int) := (by omega)
        have q553 : 1 < (t548.length : Int) := of_decide_eq_true (by first | (with_reducible assumption) | assumption)
        obtain ⟨ad553, e553, hx553_0⟩ := Kd.at_string (Kd.R_reads' HO_4.1).2.2 1 p553 q553
        obtain rfl : ad551 = ad553 := (by injection e553)
        (try simp only [show (1 : Int).toNat = 1 from rfl, Nat.reduceMul, Nat.reduceEqDiff, Go.Addr.add, ↓reduceIte] at hx553_0)
        have qi553 : (1 < t548.length) = True := eq_true (by omega)
        (try rw [show ((1 : Int)).toNat = 1 from rfl] at hx553_0)
        replace p553 := eq_true p553
        replace q553 := eq_true q553
        refine start_ (n := 11) (S := fun w' => w'.cell? ad551 = some (.string (rdOf ByteArray.empty t548 0)) ∧ w'.cell? ⟨ad551.block, ad551.off + 1, none⟩ = some (.string (rdOf ByteArray.empty t548 1))) (ds := []) (bs 11 0) (by kernel_rfl) rfl rfl ⟨hx551_0, hx553_0⟩ (fun hHeld => ?_); refine with_tabW spec_ParseSpan.tab4 spec_ParseSpan.bits4 (fun HT_ HW_ => ?_)
        generalize wc.drew = w51 at HO_4 BK547 HB hx551_0 hx553_0 hHeld ⊢
        refine pu 0 17 HT_ rfl rfl (bs 11 1) ?_
        refine pu 1 18 HT_ rfl rfl (bs 11 3) ?_
        refine pu 4 21 HT_ rfl rfl (bs 11 19) ?_
        refine pu 5 22 HT_ rfl rfl (bs 11 51) ?_
        refine tk 2 19 HT_ HW_ hHeld rfl rfl (bs 11 55) ?_
        refine tk 6 23 HT_ HW_ hHeld rfl rfl (bs 11 119) ?_
        refine join_ (σ := Nat) 1 (bs 11 1023) (fun s_ => [(20, .int .i64 t552), (24, .int .i64 t554), (5, .pointer (some ⟨s_, 0, none⟩)), (25, .agg #[.int .i64 t552, .int .i64 t554])]) (fun s_ w' => (w'.cell? ad551 = some (.string (rdOf ByteArray.empty t548 0)) ∧ w'.cell? ⟨ad551.block, ad551.off + 1, none⟩ = some (.string (rdOf ByteArray.empty t548 1))) ∧ (Kd.R Kd.string 9 w' w.heap.size (fun _ => True) (.slice (some ad551) t548.length co52) t548) ∧ (w'.heap[gb547]? = some (.cells #[.int .i64 0, .int .i64 0] 30 (0, 0))) ∧ (w'.heap[s_]? = some (.cells #[.int .i64 0, .int .i64 0] 30 (0, 0))) ∧ (w.heap.size ≤ s_) ∧ (w.heap.size ≤ s_) ∧ (gb547 ≠ s_) ∧ (s_ ≠ gb547) ∧ (Below w.heap.size w w')) ?_ ?_
        rotate_left
        · intro hCont
          refine two_ (i := 3) (j := 9) (Ni := some 20) (Nj := some 5) (bs 11 127) (bs 11 631) rfl rfl rfl rfl (two_of HT_.1 (by kernel_rfl)) (by decide) (by decide) (fun K hK => ?_) (fun K hK => ?_)
          · skip
            refine gs Tryz.func73 #[.string (rdOf ByteArray.empty t548 0)] ?_
            with_reducible refine (spec_l1Read.calls kj2 (rdOf ByteArray.empty t548 0) t552 _ A11.1).mono ?_
            rintro e w' ⟨rfl, ⟨nd, rfl⟩⟩
            refine ⟨_, rfl, ?_⟩
            refine hK.out _ _ ⟨hHeld.1, hHeld.2⟩ (fun hHeld => ?_)
            clear hK K
            refine norm_ (aq 20) ?_
            refine two_ (i := 7) (j := 9) (Ni := some 24) (Nj := some 5) (bs 11 255) (bs 11 639) rfl rfl rfl rfl (two_of HT_.1 (by kernel_rfl)) (by decide) (by decide) (fun K hK => ?_) (fun K hK => ?_)
            · skip
              refine gs Tryz.func73 #[.string (rdOf ByteArray.empty t548 1)] ?_
              with_reducible refine (spec_l1Read.calls kj2 (rdOf ByteArray.empty t548 1) t554 _ A13.1).mono ?_
              rintro e w' ⟨rfl, ⟨nd, rfl⟩⟩
              refine ⟨_, rfl, ?_⟩
              refine hK.out _ _ ⟨hHeld.1, hHeld.2⟩ (fun hHeld => ?_)
              clear hK K
              refine norm_ (aq 24) ?_
              refine pu 8 25 HT_ rfl rfl (bs 11 511) ?_
              refine one_ (i := 9) (N := some 5) (bs 11 1023) rfl rfl (one_of HT_.1 (by kernel_rfl)) (by decide) (fun K hK => ?_)
              refine bp #[.int .i64 0, .int .i64 0] 30 ?_
              intro gb555 hg w53 hbox hb
              have HS0_ := (hb.cell (World.block_lt_of_cell? _ _ (hHeld.1))).trans (hHeld.1)
              have HS1_ := (hb.cell (World.block_lt_of_cell? _ _ (hHeld.2))).trans (hHeld.2)
              replace HO_4 := rB HO_4 hb
              have BK555 := Aside0.mk hbox
              have GW555 := zs HB hg
              have GE555 := zs HB hg
              have NB547_555 := zn BK547 hg
              have NB555_547 := zm BK547 hg
              replace BK547 := zb BK547 hb
              replace HB := zB HB hb
              clear hb hbox hg
              refine hK.out _ _ ⟨HS0_, HS1_⟩ (fun hHeld => ?_)
              clear hK K
              refine norm_ (aq 5) ?_
              exact norm_ (by simp only [putAll, Act.put, List.setIfInBounds_toArray, List.set_cons_zero, List.set_cons_succ]) (hCont (gb555) _ ⟨hHeld, (rq HO_4), (bk BK547), (bk BK555), GW555.1, GE555.1, NB547_555.1, NB555_547.1, (bq HB)⟩)
            skip
            refine bp #[.int .i64 0, .int .i64 0] 30 ?_
            intro gb555 hg w53 hbox hb
            have HS0_ := (hb.cell (World.block_lt_of_cell? _ _ (hHeld.1))).trans (hHeld.1)
            have HS1_ := (hb.cell (World.block_lt_of_cell? _ _ (hHeld.2))).trans (hHeld.2)
            replace HO_4 := rB HO_4 hb
            have BK555 := Aside0.mk hbox
            have GW555 := zs HB hg
            have GE555 := zs HB hg
            have NB547_555 := zn BK547 hg
            have NB555_547 := zm BK547 hg
            replace BK547 := zb BK547 hb
            replace HB := zB HB hb
            clear hb hbox hg
            refine hK.out _ _ ⟨HS0_, HS1_⟩ (fun hHeld => ?_)
            clear hK K
            refine norm_ (aq 5) ?_
            refine one_ (i := 7) (N := some 24) (bs 11 767) rfl rfl (one_of HT_.1 (by kernel_rfl)) (by decide) (fun K hK => ?_)
            refine gs Tryz.func73 #[.string (rdOf ByteArray.empty t548 1)] ?_
            with_reducible refine (spec_l1Read.calls kj2 (rdOf ByteArray.empty t548 1) t554 _ A13.1).mono ?_
            rintro e w' ⟨rfl, ⟨nd, rfl⟩⟩
            refine ⟨_, rfl, ?_⟩
            refine hK.out _ _ ⟨hHeld.1, hHeld.2⟩ (fun hHeld => ?_)
            clear hK K
            refine norm_ (aq 24) ?_
            refine pu 8 25 HT_ rfl rfl (bs 11 1023) ?_
            exact norm_ (by simp only [putAll, Act.put, List.setIfInBounds_toArray, List.set_cons_zero, List.set_cons_succ]) (hCont (gb555) _ ⟨hHeld, (rq HO_4), (bk BK547), (bk BK555), GW555.1, GE555.1, NB547_555.1, NB555_547.1, (bq HB)⟩)
          skip
          refine bp #[.int .i64 0, .int .i64 0] 30 ?_
          intro gb555 hg w53 hbox hb
          have HS0_ := (hb.cell (World.block_lt_of_cell? _ _ (hHeld.1))).trans (hHeld.1)
          have HS1_ := (hb.cell (World.block_lt_of_cell? _ _ (hHeld.2))).trans (hHeld.2)
          replace HO_4 := rB HO_4 hb
          have BK555 := Aside0.mk hbox
          have GW555 := zs HB hg
          have GE555 := zs HB hg
          have NB547_555 := zn BK547 hg
          have NB555_547 := zm BK547 hg
          replace BK547 := zb BK547 hb
          replace HB := zB HB hb
          clear hb hbox hg
          refine hK.out _ _ ⟨HS0_, HS1_⟩ (fun hHeld => ?_)
          clear hK K
          refine norm_ (aq 5) ?_
          refine one_ (i := 3) (N := some 20) (bs 11 639) rfl rfl (one_of HT_.1 (by kernel_rfl)) (by decide) (fun K hK => ?_)
          refine gs Tryz.func73 #[.string (rdOf ByteArray.empty t548 0)] ?_
          with_reducible refine (spec_l1Read.calls kj2 (rdOf ByteArray.empty t548 0) t552 _ A11.1).mono ?_
          rintro e w' ⟨rfl, ⟨nd, rfl⟩⟩
          refine ⟨_, rfl, ?_⟩
          refine hK.out _ _ ⟨hHeld.1, hHeld.2⟩ (fun hHeld => ?_)
          clear hK K
          refine norm_ (aq 20) ?_
          refine one_ (i := 7) (N := some 24) (bs 11 767) rfl rfl (one_of HT_.1 (by kernel_rfl)) (by decide) (fun K hK => ?_)
          refine gs Tryz.func73 #[.string (rdOf ByteArray.empty t548 1)] ?_
          with_reducible refine (spec_l1Read.calls kj2 (rdOf ByteArray.empty t548 1) t554 _ A13.1).mono ?_
          rintro e w' ⟨rfl, ⟨nd, rfl⟩⟩
          refine ⟨_, rfl, ?_⟩
          refine hK.out _ _ ⟨hHeld.1, hHeld.2⟩ (fun hHeld => ?_)
          clear hK K
          refine norm_ (aq 24) ?_
          refine pu 8 25 HT_ rfl rfl (bs 11 1023) ?_
          exact norm_ (by simp only [putAll, Act.put, List.setIfInBounds_toArray, List.set_cons_zero, List.set_cons_succ]) (hCont (gb555) _ ⟨hHeld, (rq HO_4), (bk BK547), (bk BK555), GW555.1, GE555.1, NB547_555.1, NB555_547.1, (bq HB)⟩)
        rintro gb555 w54 ⟨hS_, h0_, h1_, h2_, h3_, h4_, h5_, h6_, h7_⟩
        have n0_ : Aside0 (Kd.R Kd.string 9 w54 w.heap.size (fun _ => True) (.slice (some ad551) t548.length co52) t548) := ⟨h0_⟩
        have n1_ : Aside0 (w54.heap[gb547]? = some (.cells #[.int .i64 0, .int .i64 0] 30 (0, 0))) := ⟨h1_⟩
        have n2_ : Aside0 (w54.heap[gb555]? = some (.cells #[.int .i64 0, .int .i64 0] 30 (0, 0))) := ⟨h2_⟩
        have n3_ : Aside0 (w.heap.size ≤ gb555) := ⟨h3_⟩
        have n4_ : Aside0 (w.heap.size ≤ gb555) := ⟨h4_⟩
        have n5_ : Aside0 (gb547 ≠ gb555) := ⟨h5_⟩
        have n6_ : Aside0 (gb555 ≠ gb547) := ⟨h6_⟩
        have n7_ : Aside0 (Below w.heap.size w w54) := ⟨h7_⟩
        clear HO_4
        clear BK547
        clear HB
        clear h0_ h1_ h2_ h3_ h4_ h5_ h6_ h7_
        have HO_4 := n0_
        have BK547 := n1_
        have BK555 := n2_
        have GW555 := n3_
        have GE555 := n4_
        have NB547_555 := n5_
        have NB555_547 := n6_
        have HB := n7_
        clear n0_ n1_ n2_ n3_ n4_ n5_ n6_ n7_
        have hHeld : w54.cell? ad551 = some (.string (rdOf ByteArray.empty t548 0)) ∧ w54.cell? ⟨ad551.block, ad551.off + 1, none⟩ = some (.string (rdOf ByteArray.empty t548 1)) := hS_
        refine norm_ (a' := ?_) ?_ ?_
        rotate_left
        · simp only [putAll, Act.put, List.setIfInBounds_toArray, List.set_cons_zero, List.set_cons_succ]
          rfl
        refine one_ (i := 10) (N := none) (bs 11 2047) rfl rfl (one_of HT_.1 (by kernel_rfl)) (by decide) (fun K hK => ?_)
        have hs55 : w54.cell? ⟨gb555, 0, none⟩ = some (.int .i64 0) := (blk_cell BK555.1 0).trans rfl
        have hfs55 := blk_frozen BK555.1 0
        have hns55_0 := NB547_555.1
        have hms55_0 := NB555_547.1
        have hs56 : w54.cell? ⟨gb555, 1, none⟩ = some (.int .i64 0) := (blk_cell BK555.1 1).trans rfl
        have hfs56 := blk_frozen BK555.1 1
        have hns56_0 := NB547_555.1
        have hms56_0 := NB555_547.1
        refine skip_ (w1 := ?_) (by rfl) rfl ?_ ?_
        rotate_left
        · go_simp
          rfl
        refine hK.out _ _ ⟨((cell_far (p := ⟨gb555, _, none⟩) (by first | exact Kd.own_blk (Kd.R_ne HO_4.1 BK555.1 (by decide)) | (rw [add_block]; exact Kd.own_blk (Kd.R_ne HO_4.1 BK555.1 (by decide))) | (show (Addr.add _ _).block ≠ _; rw [add_block]; exact Kd.own_blk (Kd.R_ne HO_4.1 BK555.1 (by decide))) | (dsimp only; exact Kd.own_blk (Kd.R_ne HO_4.1 BK555.1 (by decide)))) _).trans (((cell_far (p := ⟨gb555, _, none⟩) (by first | exact Kd.own_blk (Kd.R_ne HO_4.1 BK555.1 (by decide)) | (rw [add_block]; exact Kd.own_blk (Kd.R_ne HO_4.1 BK555.1 (by decide))) | (show (Addr.add _ _).block ≠ _; rw [add_block]; exact Kd.own_blk (Kd.R_ne HO_4.1 BK555.1 (by decide))) | (dsimp only; exact Kd.own_blk (Kd.R_ne HO_4.1 BK555.1 (by decide)))) _).trans (hHeld.1)))), ((cell_far (p := ⟨gb555, _, none⟩) (by first | exact Kd.own_blk (Kd.R_ne HO_4.1 BK555.1 (by decide)) | (rw [add_block]; exact Kd.own_blk (Kd.R_ne HO_4.1 BK555.1 (by decide))) | (show (Addr.add _ _).block ≠ _; rw [add_block]; exact Kd.own_blk (Kd.R_ne HO_4.1 BK555.1 (by decide))) | (dsimp only; exact Kd.own_blk (Kd.R_ne HO_4.1 BK555.1 (by decide)))) _).trans (((cell_far (p := ⟨gb555, _, none⟩) (by first | exact Kd.own_blk (Kd.R_ne HO_4.1 BK555.1 (by decide)) | (rw [add_block]; exact Kd.own_blk (Kd.R_ne HO_4.1 BK555.1 (by decide))) | (show (Addr.add _ _).block ≠ _; rw [add_block]; exact Kd.own_blk (Kd.R_ne HO_4.1 BK555.1 (by decide))) | (dsimp only; exact Kd.own_blk (Kd.R_ne HO_4.1 BK555.1 (by decide)))) _).trans (hHeld.2))))⟩ (fun hHeld => ?_)
        clear hK K
        refine done_ (done_of HT_.1 (by kernel_rfl)) ?_
        have p556 : 0 ≤ (0 : Int) := (by omega)
        have q556 : 0 < (t548.length : Int) := of_decide_eq_true (by first | (with_reducible assumption) | assumption)
        obtain ⟨ad556, e556, hx556_0⟩ := Kd.at_string (Kd.R_reads' HO_4.1).2.2 0 p556 q556
        obtain rfl : ad551 = ad556 := (by injection e556)
        have qi556 : (0 < t548.length) = True := eq_true (by omega)
        (try rw [show ((0 : Int)).toNat = 0 from rfl] at hx556_0)
        (try rw [Addr.add_zero'] at hx556_0)
        have hn556_0 : ad551.block ≠ gb555 := Kd.own_blk (Kd.R_ne HO_4.1 BK555.1 (by decide))
        have hn556_1 : ad551.block ≠ gb555 := Kd.own_blk (Kd.R_ne HO_4.1 BK555.1 (by decide))
        replace hx556_0 := (cell_far (p := ⟨gb555, 0, none⟩) (by first | (rw [add_block]; exact hn556_0) | (show (Addr.add _ _).block ≠ _; rw [add_block]; exact hn556_0) | exact hn556_0) (.int .i64 t552)).trans hx556_0
        replace hx556_0 := (cell_far (p := ⟨gb555, 1, none⟩) (by first | (rw [add_block]; exact hn556_1) | (show (Addr.add _ _).block ≠ _; rw [add_block]; exact hn556_1) | exact hn556_1) (.int .i64 t554)).trans hx556_0
        clear hn556_0
        clear hn556_1
        replace p556 := eq_true p556
        replace q556 := eq_true q556
        have hnb57 := NB555_547.1
        have hnc57 := NB547_555.1
        obtain ⟨hcz58_0, hcz58_1, hfz58_0, hfz58_1⟩ := zc2 BK555
        try go_wp2_with (first | ((with_reducible refine gate_callee (f := 53) rfl ?_); refine gl (some 32) Tryz.func53 #[.agg #[.int .i64 t552, .int .i64 t554]] ?_; (with_reducible refine (spec_drGood.calls kj2 t552 t554 false _ A38.1).mono ?_); rintro e w59 ⟨rfl, hb⟩; refine ⟨_, rfl, ?_⟩; replace HO_4 := Aside0.mk (Kd.R_below (by (with_reducible repeat (first | apply Kd.R_alloc | apply Kd.R_drewN | apply Kd.R_drew)); exact (Kd.R_mono (Kd.R_far (p := ⟨gb555, 1, none⟩) (Kd.R_far (p := ⟨gb555, 0, none⟩) (Kd.R_types HO_4.1 BK555.1 (by decide)) (fun _ hk => hk.2) (.int .i64 t552)) (fun _ hk => hk.2) (.int .i64 t554)) (fun _ h_ => h_.1))) hb); replace BK547 := zy (o' := .cells #[.int .i64 0, .int .i64 0] 30 (0, 0)) BK547 hb; replace BK555 := zy (o' := .cells #[.int .i64 t552, .int .i64 t554] 30 (0, 0)) BK555 hb; replace HB := zB HB hb; clear hb; obtain ⟨hcz60_0, hcz60_1, hfz60_0, hfz60_1⟩ := zc2 BK547))
        refine bodyPost_ret (results_ct rfl _ _ gb547 30 #[.int .i64 0, .int .i64 0] (0, 0) _ rfl (bk BK547) Tryz.underlying30 rfl (by kernel_rfl)) rfl ?_
        exact ⟨er, bq HB⟩
      rw [if_neg c12] at H
      exact absurd H (by simp)
    rw [if_neg c10] at H
    exact absurd H (by simp)

end Go.Proofs.YtejlandhfnnkiaaGreatDoor.PFnClocksAgree
