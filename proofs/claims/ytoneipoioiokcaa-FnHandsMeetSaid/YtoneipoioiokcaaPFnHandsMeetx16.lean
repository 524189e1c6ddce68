/- A part of the walk of FnHandsMeet: which Lean function each Go function comes to, and that the machine's call does so. Written by a program of this repo (wip/gen/xprint.py). -/
import Derived.Test.YtoneipoioiokcaaPFnHandsMeetx0
import Derived.Test.YtoneipoioiokcaaPFnHandsMeetx1
import Derived.Test.YtoneipoioiokcaaPFnHandsMeetx15
namespace Go.Proofs.Ytoneipoioiokcaa.PFnHandsMeet
open Go.RowKit Go.Proofs.YtoneipoioiokcaaW.PrintWords Go.Proofs.YtoneipoioiokcaaW.PrintLast Go.Proofs.YtoneipoioiokcaaW.PrintMore
attribute [local go_sem] max2_int min2_int max_two min_two max_three min_three max_four min_four   -- for this text's walks alone
set_option linter.unusedVariables false
set_option linter.unusedSimpArgs false

attribute [local go_sem high] eqA25
/-! ### spec_meSorted: function 35 -/
def spec_meSorted.l0 : Nat → List (S25) → Int → Int → Int → Option ((List (S25)))
  | 0, _, _, _, _ => none
  | k + 1, x0, x5, x415000, x415001 => if x5 < (x0.length : Int) then (if 0 ≤ x5 then ((spec_diCompare.f ((rd_T25 x0 x5).f0) ((rd_T25 x0 x5).f1) x415000 x415001).bind fun t416 => (if t416 < 0 then (spec_meSorted.l0 k x0 (wrap64 (x5 + 1)) x415000 x415001) else (if (((rd_T25 x0 x5).f0) == x415000 && (((rd_T25 x0 x5).f1) == x415001)) = true then (some x0) else ((some (([] : List (S25)) : List (S25))).bind fun y418 => (if x5 ≤ (x0.length : Int) then ((some (x0.take (x5 : Int).toNat : List (S25))).bind fun y421 => (if y418.length + y421.length < 8796093022208 then ((some (y418 ++ y421 : List (S25))).bind fun y425 => ((some (([(⟨x415000, x415001⟩ : S25)] : List (S25)) : List (S25))).bind fun y428 => (if y425.length + y428.length < 8796093022208 then ((some (y425 ++ y428 : List (S25))).bind fun y431 => ((some (x0.drop (x5 : Int).toNat : List (S25))).bind fun y434 => (if y431.length + y434.length < 8796093022208 then (some (y431 ++ y434)) else (none)))) else (none)))) else (none))) else (none)))))) else (none)) else ((some (([] : List (S25)) : List (S25))).bind fun y441 => (if 0 ≤ x5 then (if x5 ≤ (x0.length : Int) then ((some (x0.take (x5 : Int).toNat : List (S25))).bind fun y444 => (if y441.length + y444.length < 8796093022208 then ((some (y441 ++ y444 : List (S25))).bind fun y448 => ((some (([(⟨x415000, x415001⟩ : S25)] : List (S25)) : List (S25))).bind fun y451 => (if y448.length + y451.length < 8796093022208 then ((some (y448 ++ y451 : List (S25))).bind fun y454 => ((some (x0.drop (x5 : Int).toNat : List (S25))).bind fun y457 => (if y454.length + y457.length < 8796093022208 then (some (y454 ++ y457)) else (none)))) else (none)))) else (none))) else (none)) else (none)))
def spec_meSorted.f (k : Nat) (l0 : List (S25)) (a1_0 : Int) (a1_1 : Int) : Option ((List (S25))) := spec_meSorted.l0 k l0 0 a1_0 a1_1
theorem spec_meSorted.mono_l : ∀ k, (∀ y0 y1 y2 y3, LeO (spec_meSorted.l0 k y0 y1 y2 y3) (spec_meSorted.l0 (k + 1) y0 y1 y2 y3))
  | 0 => fun _ _ _ _ r h => by simp [spec_meSorted.l0] at h
  | k + 1 => by
    have ih0 := spec_meSorted.mono_l k
    intro y0 y1 y2 y3
    unfold spec_meSorted.l0
    repeat' first
    | (with_reducible exact ih0 _ _ _ _)
    | (with_reducible exact LeO.refl _)
    | (with_reducible exact LeO.none _)
    | (with_reducible refine LeO.ite ?_ ?_)
    | (with_reducible refine LeO.bind ?_ (fun _ => ?_))
    | exact ih0 _ _ _ _
    | exact LeO.none _
    | refine LeO.ite ?_ ?_
    | refine LeO.bind ?_ (fun _ => ?_)
theorem spec_meSorted.mono : ∀ a0 a1 a2 k, LeO (spec_meSorted.f k a0 a1 a2) (spec_meSorted.f (k + 1) a0 a1 a2) := by
  intro a0 a1 a2 k
  have ih0 := spec_meSorted.mono_l k
  unfold spec_meSorted.f
  repeat' first
      | (with_reducible exact ih0 _ _ _ _)
      | (with_reducible exact LeO.refl _)
      | (with_reducible exact LeO.none _)
      | (with_reducible refine LeO.ite ?_ ?_)
      | (with_reducible refine LeO.bind ?_ (fun _ => ?_))
      | exact ih0 _ _ _ _
      | exact LeO.none _
      | refine LeO.ite ?_ ?_
      | refine LeO.bind ?_ (fun _ => ?_)
def spec_meSorted.T2 : Bool × List (List Nat × List Nat) := (true, [([], []), ([], []), ([1], [1]), ([0, 2], [0, 2]), ([3], [3]), ([4], [4]), ([4], [4]), ([5, 6, 4], [4, 5, 6]), ([7, 4], [4, 7]), ([4], [4]), ([8, 9, 4, 4], [4, 8, 9]), ([10, 4], [4, 10]), ([4, 11], [4, 11])])
def spec_meSorted.B2 : List Nat := [0, 0, 2, 7, 15, 31, 31, 127, 255, 31, 1023, 2047, 4095]
theorem spec_meSorted.tab2 : rtab .any (opsOf Try.f35 2) = spec_meSorted.T2 := by kernel_rfl
theorem spec_meSorted.bits2 : waitsOk spec_meSorted.T2.2 spec_meSorted.B2 = true := by kernel_rfl
def spec_meSorted.T4 : Bool × List (List Nat × List Nat) := (true, [([], []), ([], []), ([1], [1]), ([0, 2], [0, 2]), ([3], [3]), ([4], [4]), ([4], [4]), ([5, 6, 4], [4, 5, 6]), ([7, 4], [4, 7]), ([4], [4]), ([8, 9, 4], [4, 8, 9]), ([4, 10], [4, 10])])
def spec_meSorted.B4 : List Nat := [0, 0, 2, 7, 15, 31, 31, 127, 255, 31, 1023, 2047]
theorem spec_meSorted.tab4 : rtab .any (opsOf Try.f35 4) = spec_meSorted.T4 := by kernel_rfl
theorem spec_meSorted.bits4 : waitsOk spec_meSorted.T4.2 spec_meSorted.B4 = true := by kernel_rfl
def spec_meSorted.T6 : Bool × List (List Nat × List Nat) := (true, [([], []), ([], []), ([], []), ([1, 2], [1, 2]), ([0, 3], [0, 3]), ([], []), ([5], [5]), ([4, 6, 4], [4, 6]), ([7, 7, 0, 1, 2, 3, 4, 5, 6, 7], [7])])
def spec_meSorted.B6 : List Nat := [0, 0, 0, 6, 15, 0, 32, 127, 255]
theorem spec_meSorted.tab6 : rtab .any (opsOf Try.f35 6) = spec_meSorted.T6 := by kernel_rfl
theorem spec_meSorted.bits6 : waitsOk spec_meSorted.T6.2 spec_meSorted.B6 = true := by kernel_rfl
set_option maxHeartbeats 8000000 in
set_option maxRecDepth 100000 in
theorem spec_meSorted.calls (k : Nat) (P0_ : Nat → Prop) (u9000_ : Value) (l0 : List (S25)) (a1_0 : Int) (a1_1 : Int) (r : List (S25)) (w0 w : World) (hB : Below w0.heap.size w0 w) (ho0 : Kd.R k25 25 w w0.heap.size P0_ u9000_ l0) (h : spec_meSorted.f k l0 a1_0 a1_1 = some r) :
    Calls Try.prog 35 #[u9000_, .agg #[.int .i64 a1_0, .int .i64 a1_1]] w fun e w' => ∃ v0_ : Value, e = .returned (v0_) ∧ Kd.R k25 25 w' w0.heap.size (fun k_ => (P0_ k_ ∨ w.heap.size ≤ k_)) v0_ r ∧ Below w0.heap.size w0 w' ∧ Kept w w' (fun k_ => P0_ k_) := by
  have hu25 := Try.underlying25
  have HO0 := Aside0.mk (show Kd.R k25 25 w w0.heap.size (fun k_ => (P0_ k_ ∨ w.heap.size ≤ k_)) u9000_ l0 from Kd.R_mono ho0 (fun k_ hk => (.inl hk)))
  have HK := Aside0.mk (Kept.refl w (fun k_ => P0_ k_))
  have HW0 := Aside0.mk hB.size
  have HB := Aside0.mk hB
  clear hB
  have H : (spec_meSorted.l0 k l0 0 a1_0 a1_1) = some r := h
  clear h
  have H' := Aside0.mk H
  clear H
  go_enter Try.func35, Try.ntmps35
  go_wp2_with (first | ((with_reducible refine gate_dst (N := 3) rfl ?_); refine be #[.int .i64 a1_0, .int .i64 a1_1] 25 ?_; intro gb414 hg w3 hbox hb; have GW414 := Aside0.mk ((by rw [hg]; exact (by first | exact HK.1.1 | exact (show Kept w _ (fun k_ => P0_ k_) from by repeat (first | (with_reducible first | exact HK.1 | apply Kept.alloc | apply Kept.drewN | apply Kept.drew) | exact HK.1)).1) : w.heap.size ≤ gb414)); replace HO0 := Aside0.mk (Kd.R_below (Kd.R_elderB (rq HO0) gb414 (Nat.le_of_eq hg.symm)) hb); replace HK := Aside0.mk (Kept.below (S := (fun k_ => P0_ k_)) (by repeat (first | (with_reducible first | exact HK.1 | apply Kept.alloc | apply Kept.drewN | apply Kept.drew) | exact HK.1)) hb); have BK414 := Aside0.mk hbox; have GE414 := zs HB hg; replace HB := zB HB hb; clear hb hbox hg))
  go_loopg [5] k (fun kq v5 w' => ∃ (x5_1 : Int), v5 = .int .i64 x5_1 ∧ Aside0 (spec_meSorted.l0 kq l0 x5_1 a1_0 a1_1 = some r) ∧ Aside0 (kq ≤ k) ∧ Aside0 (Kd.R k25 25 w' w0.heap.size (fun k_ => (P0_ k_ ∨ w.heap.size ≤ k_) ∧ k_ ≠ gb414) u9000_ l0) ∧ Aside0 (w'.heap[gb414]? = some (.cells #[.int .i64 a1_0, .int .i64 a1_1] 25 (0, 0))) ∧ Aside0 (Kept w w' (fun k_ => P0_ k_)) ∧ Aside0 (Below w0.heap.size w0 w'))
  case atStart => exact ⟨(0), ew, H', ⟨Nat.le_refl _⟩, ⟨rq HO0⟩, ⟨bk BK414⟩, ⟨by repeat (first | (with_reducible first | exact HK.1 | apply Kept.alloc | apply Kept.drewN | apply Kept.drew | refine Kept.setCell ?_ (.inr GW414.1) _) | exact HK.1)⟩, ⟨bq HB⟩⟩
  case round =>
    clear H'
    obtain ⟨x5_1, rfl, HA, HK1, HO_0, BK414, HK, HB⟩ := hrel
    cases gk with
    | zero => exact absurd HA.1 (by simp [spec_meSorted.l0])
    | succ k1 =>
      have H := HA.1
      clear HA
      simp only [spec_meSorted.l0] at H
      by_cases c4 : x5_1 < (l0.length : Int)
      · rw [if_pos c4] at H
        have c4b0 : decide (x5_1 < (l0.length : Int)) = true := decide_eq_true c4
        clear c4
        by_cases c5 : 0 ≤ x5_1
        · rw [if_pos c5] at H
          have c5b0 : decide (0 ≤ x5_1) = true := decide_eq_true c5
          clear c5
          replace H := Option.bind_eq_some_iff.mp H
          obtain ⟨t416, A60, H⟩ := H
          (try dsimp only at H)
          have A6 := Aside0.mk A60
          clear A60
          by_cases c7 : t416 < 0
          · rw [if_pos c7] at H
            have c7b0 : decide (t416 < 0) = true := decide_eq_true c7
            clear c7
            have H' := Aside0.mk H
            clear H
            try go_wp2
            replace HO_0 := Aside0.mk (Kd.R_drew HO_0.1)
            replace BK414 := Aside0.mk (blk_drew BK414.1)
            replace HK := Aside0.mk (Kept.drew HK.1)
            replace HB := Aside0.mk (below_drew1 HB.1)
            obtain ⟨Ao9, co9, eo9⟩ := Kd.R_slice HO_0.1
            (first | subst eo9 | (injection eo9 with f1_ f2_ f3_; have f4_ := f1_.symm; have f5_ := f3_.symm; clear f1_ f2_ f3_; subst f4_; subst f5_))
            have p415 : 0 ≤ (x5_1 : Int) := of_decide_eq_true (by first | (with_reducible assumption) | assumption)
            have q415 : x5_1 < (l0.length : Int) := of_decide_eq_true (by first | (with_reducible assumption) | assumption)
            obtain ⟨ad415, e415, hx415_0, hx415_1⟩ := at_T25 (Kd.R_reads' HO_0.1).2.2 x5_1 p415 q415
            cases e415
            replace p415 := eq_true p415
            replace q415 := eq_true q415
            refine start_ (n := 13) (S := fun w' => w'.cell? ⟨gb414, 0, none⟩ = some (.int .i64 a1_0) ∧ w'.cell? ⟨gb414, 1, none⟩ = some (.int .i64 a1_1) ∧ w'.cell? (ad415.add ((x5_1).toNat * 2)) = some (.int .i64 ((rd_T25 l0 x5_1).f0)) ∧ w'.cell? ⟨(ad415.add ((x5_1).toNat * 2)).block, (ad415.add ((x5_1).toNat * 2)).off + 1, none⟩ = some (.int .i64 ((rd_T25 l0 x5_1).f1))) (ds := []) (bs 13 0) (by kernel_rfl) rfl rfl ⟨(blk_cell BK414.1 0).trans rfl, (blk_cell BK414.1 1).trans rfl, hx415_0, hx415_1⟩ (fun hHeld => ?_); refine with_tabW spec_meSorted.tab2 spec_meSorted.bits2 (fun HT_ HW_ => ?_)
            generalize wr.drew = w8 at HO_0 BK414 HK HB hx415_0 hx415_1 hHeld ⊢
            refine pu 0 7 HT_ rfl rfl (bs 13 1) ?_
            refine pu 1 8 HT_ rfl rfl (bs 13 3) ?_
            refine pu 2 9 HT_ rfl rfl (bs 13 7) ?_
            refine pu 3 10 HT_ rfl rfl (bs 13 15) ?_
            refine pu 4 11 HT_ rfl rfl (bs 13 31) ?_
            refine pu 5 12 HT_ rfl rfl (bs 13 63) ?_
            refine pu 6 13 HT_ rfl rfl (bs 13 127) ?_
            refine pu 7 14 HT_ rfl rfl (bs 13 255) ?_
            refine tk 8 15 HT_ HW_ hHeld rfl rfl (bs 13 511) ?_
            refine tk 9 16 HT_ HW_ hHeld rfl rfl (bs 13 1023) ?_
            refine one_ (i := 10) (N := some 17) (bs 13 2047) rfl rfl (one_of HT_.1 (by kernel_rfl)) (by decide) (fun K hK => ?_)
            refine gs Try.func49 #[.agg #[.int .i64 ((rd_T25 l0 x5_1).f0), .int .i64 ((rd_T25 l0 x5_1).f1)], .agg #[.int .i64 a1_0, .int .i64 a1_1]] ?_
            with_reducible refine (spec_diCompare.calls ((rd_T25 l0 x5_1).f0) ((rd_T25 l0 x5_1).f1) a1_0 a1_1 t416 _ A6.1).mono ?_
            rintro e w10 ⟨rfl, hb⟩
            have HS2_ := (hb.cell (World.block_lt_of_cell? _ _ (hHeld.2.2.1))).trans (hHeld.2.2.1)
            have HS3_ := (hb.cell (World.block_lt_of_cell? _ _ (hHeld.2.2.2))).trans (hHeld.2.2.2)
            refine ⟨_, rfl, ?_⟩
            replace HO_0 := rB HO_0 hb
            replace HK := Aside0.mk (Kept.below (S := (fun k_ => P0_ k_)) (by repeat (first | (with_reducible first | exact HK.1 | apply Kept.alloc | apply Kept.drewN | apply Kept.drew | refine Kept.setCell ?_ (.inr GW414.1) _) | exact HK.1)) hb)
            replace BK414 := zb BK414 hb
            replace HB := zB HB hb
            (try clear hb)
            (try clear hb2)
            (try clear hk)
            (try clear hi)
            refine hK.out _ _ ⟨(blk_cell BK414.1 0).trans rfl, (blk_cell BK414.1 1).trans rfl, HS2_, HS3_⟩ (fun hHeld => ?_)
            clear hK K
            refine norm_ (aq 17) ?_
            refine pu 11 18 HT_ rfl rfl (bs 13 4095) ?_
            refine pu 12 19 HT_ rfl rfl (bs 13 8191) ?_
            refine done_ (done_of HT_.1 (by kernel_rfl)) ?_
            try go_wp2
            go_roundg k1
            case measure => have := HK1.1; omega
            case rel => exact ⟨(wrap64 (x5_1 + 1)), ew, H', ⟨by have := HK1.1; omega⟩, ⟨rq HO_0⟩, ⟨bk BK414⟩, ⟨by repeat (first | (with_reducible first | exact HK.1 | apply Kept.alloc | apply Kept.drewN | apply Kept.drew | refine Kept.setCell ?_ (.inr GW414.1) _) | exact HK.1)⟩, ⟨bq HB⟩⟩
          rw [if_neg c7] at H
          have c7b0 : decide (t416 < 0) = false := decide_eq_false c7
          clear c7
          by_cases c11 : (((rd_T25 l0 x5_1).f0) == a1_0 && (((rd_T25 l0 x5_1).f1) == a1_1)) = true
          · rw [if_pos c11] at H
            have c11b0 : (((rd_T25 l0 x5_1).f0) == a1_0 && (((rd_T25 l0 x5_1).f1) == a1_1)) = true := c11
            (try (have c11b1 : decide (((rd_T25 l0 x5_1).f0) = a1_0 && (((rd_T25 l0 x5_1).f1) == a1_1)) = true := by simpa using c11))
            (try (have c11b2 : (((rd_T25 l0 x5_1).f0) == a1_0 && (((rd_T25 l0 x5_1).f1) == a1_1)) = true := by simpa using c11))
            clear c11
            obtain rfl := Option.some.inj H
            try go_wp2
            replace HO_0 := Aside0.mk (Kd.R_drew HO_0.1)
            replace BK414 := Aside0.mk (blk_drew BK414.1)
            replace HK := Aside0.mk (Kept.drew HK.1)
            replace HB := Aside0.mk (below_drew1 HB.1)
            obtain ⟨Ao13, co13, eo13⟩ := Kd.R_slice HO_0.1
            (first | subst eo13 | (injection eo13 with f1_ f2_ f3_; have f4_ := f1_.symm; have f5_ := f3_.symm; clear f1_ f2_ f3_; subst f4_; subst f5_))
            have p415 : 0 ≤ (x5_1 : Int) := of_decide_eq_true (by first | (with_reducible assumption) | assumption)
            have q415 : x5_1 < (l0.length : Int) := of_decide_eq_true (by first | (with_reducible assumption) | assumption)
            obtain ⟨ad415, e415, hx415_0, hx415_1⟩ := at_T25 (Kd.R_reads' HO_0.1).2.2 x5_1 p415 q415
            cases e415
            replace p415 := eq_true p415
            replace q415 := eq_true q415
            refine start_ (n := 13) (S := fun w' => w'.cell? ⟨gb414, 0, none⟩ = some (.int .i64 a1_0) ∧ w'.cell? ⟨gb414, 1, none⟩ = some (.int .i64 a1_1) ∧ w'.cell? (ad415.add ((x5_1).toNat * 2)) = some (.int .i64 ((rd_T25 l0 x5_1).f0)) ∧ w'.cell? ⟨(ad415.add ((x5_1).toNat * 2)).block, (ad415.add ((x5_1).toNat * 2)).off + 1, none⟩ = some (.int .i64 ((rd_T25 l0 x5_1).f1))) (ds := []) (bs 13 0) (by kernel_rfl) rfl rfl ⟨(blk_cell BK414.1 0).trans rfl, (blk_cell BK414.1 1).trans rfl, hx415_0, hx415_1⟩ (fun hHeld => ?_); refine with_tabW spec_meSorted.tab2 spec_meSorted.bits2 (fun HT_ HW_ => ?_)
            generalize wr.drew = w12 at HO_0 BK414 HK HB hx415_0 hx415_1 hHeld ⊢
            refine pu 0 7 HT_ rfl rfl (bs 13 1) ?_
            refine pu 1 8 HT_ rfl rfl (bs 13 3) ?_
            refine pu 2 9 HT_ rfl rfl (bs 13 7) ?_
            refine pu 3 10 HT_ rfl rfl (bs 13 15) ?_
            refine pu 4 11 HT_ rfl rfl (bs 13 31) ?_
            refine pu 5 12 HT_ rfl rfl (bs 13 63) ?_
            refine pu 6 13 HT_ rfl rfl (bs 13 127) ?_
            refine pu 7 14 HT_ rfl rfl (bs 13 255) ?_
            refine tk 8 15 HT_ HW_ hHeld rfl rfl (bs 13 511) ?_
            refine tk 9 16 HT_ HW_ hHeld rfl rfl (bs 13 1023) ?_
            refine one_ (i := 10) (N := some 17) (bs 13 2047) rfl rfl (one_of HT_.1 (by kernel_rfl)) (by decide) (fun K hK => ?_)
            refine gs Try.func49 #[.agg #[.int .i64 ((rd_T25 l0 x5_1).f0), .int .i64 ((rd_T25 l0 x5_1).f1)], .agg #[.int .i64 a1_0, .int .i64 a1_1]] ?_
            with_reducible refine (spec_diCompare.calls ((rd_T25 l0 x5_1).f0) ((rd_T25 l0 x5_1).f1) a1_0 a1_1 t416 _ A6.1).mono ?_
            rintro e w14 ⟨rfl, hb⟩
            have HS2_ := (hb.cell (World.block_lt_of_cell? _ _ (hHeld.2.2.1))).trans (hHeld.2.2.1)
            have HS3_ := (hb.cell (World.block_lt_of_cell? _ _ (hHeld.2.2.2))).trans (hHeld.2.2.2)
            refine ⟨_, rfl, ?_⟩
            replace HO_0 := rB HO_0 hb
            replace HK := Aside0.mk (Kept.below (S := (fun k_ => P0_ k_)) (by repeat (first | (with_reducible first | exact HK.1 | apply Kept.alloc | apply Kept.drewN | apply Kept.drew | refine Kept.setCell ?_ (.inr GW414.1) _) | exact HK.1)) hb)
            replace BK414 := zb BK414 hb
            replace HB := zB HB hb
            (try clear hb)
            (try clear hb2)
            (try clear hk)
            (try clear hi)
            refine hK.out _ _ ⟨(blk_cell BK414.1 0).trans rfl, (blk_cell BK414.1 1).trans rfl, HS2_, HS3_⟩ (fun hHeld => ?_)
            clear hK K
            refine norm_ (aq 17) ?_
            refine pu 11 18 HT_ rfl rfl (bs 13 4095) ?_
            refine pu 12 19 HT_ rfl rfl (bs 13 8191) ?_
            refine done_ (done_of HT_.1 (by kernel_rfl)) ?_
            try go_wp2
            replace HO_0 := Aside0.mk (Kd.R_drew HO_0.1)
            replace BK414 := Aside0.mk (blk_drew BK414.1)
            replace HK := Aside0.mk (Kept.drew HK.1)
            replace HB := Aside0.mk (below_drew1 HB.1)
            have p417 : 0 ≤ (x5_1 : Int) := of_decide_eq_true (by first | (with_reducible assumption) | assumption)
            have q417 : x5_1 < (l0.length : Int) := of_decide_eq_true (by first | (with_reducible assumption) | assumption)
            obtain ⟨ad417, e417, hx417_0, hx417_1⟩ := at_T25 (Kd.R_reads' HO_0.1).2.2 x5_1 p417 q417
            obtain rfl : ad415 = ad417 := (by injection e417)
            replace p417 := eq_true p417
            replace q417 := eq_true q417
            refine start_ (n := 12) (S := fun w' => w'.cell? ⟨gb414, 0, none⟩ = some (.int .i64 a1_0) ∧ w'.cell? ⟨gb414, 1, none⟩ = some (.int .i64 a1_1) ∧ w'.cell? (ad415.add ((x5_1).toNat * 2)) = some (.int .i64 ((rd_T25 l0 x5_1).f0)) ∧ w'.cell? ⟨(ad415.add ((x5_1).toNat * 2)).block, (ad415.add ((x5_1).toNat * 2)).off + 1, none⟩ = some (.int .i64 ((rd_T25 l0 x5_1).f1))) (ds := []) (bs 12 0) (by kernel_rfl) rfl rfl ⟨(blk_cell BK414.1 0).trans rfl, (blk_cell BK414.1 1).trans rfl, hx417_0, hx417_1⟩ (fun hHeld => ?_); refine with_tabW spec_meSorted.tab4 spec_meSorted.bits4 (fun HT_ HW_ => ?_)
            generalize w14.drew = w15 at HO_0 BK414 HK HB hx417_0 hx417_1 hHeld ⊢
            refine pu 0 22 HT_ rfl rfl (bs 12 1) ?_
            refine pu 1 23 HT_ rfl rfl (bs 12 3) ?_
            refine pu 2 24 HT_ rfl rfl (bs 12 7) ?_
            refine pu 3 25 HT_ rfl rfl (bs 12 15) ?_
            refine pu 4 26 HT_ rfl rfl (bs 12 31) ?_
            refine pu 5 27 HT_ rfl rfl (bs 12 63) ?_
            refine pu 6 28 HT_ rfl rfl (bs 12 127) ?_
            refine pu 7 29 HT_ rfl rfl (bs 12 255) ?_
            refine tk 8 30 HT_ HW_ hHeld rfl rfl (bs 12 511) ?_
            refine tk 9 31 HT_ HW_ hHeld rfl rfl (bs 12 1023) ?_
            refine pu 10 32 HT_ rfl rfl (bs 12 2047) ?_
            refine pu 11 33 HT_ rfl rfl (bs 12 4095) ?_
            refine done_ (done_of HT_.1 (by kernel_rfl)) ?_
            try go_wp2
            go_ret
            exact ⟨_, er, by (with_reducible repeat (first | apply Kd.R_alloc | apply Kd.R_drewN | apply Kd.R_drew)); exact Kd.R_mono HO_0.1 (fun _ hk => hk.1), bq HB, by repeat (first | (with_reducible first | exact HK.1 | apply Kept.alloc | apply Kept.drewN | apply Kept.drew | refine Kept.setCell ?_ (.inr GW414.1) _) | exact HK.1)⟩
          rw [if_neg c11] at H
          have c11b0 : (((rd_T25 l0 x5_1).f0) == a1_0 && (((rd_T25 l0 x5_1).f1) == a1_1)) = false := by simpa using c11
          (try (have c11b1 : decide (((rd_T25 l0 x5_1).f0) = a1_0 && (((rd_T25 l0 x5_1).f1) == a1_1)) = false := by simpa using c11))
          (try (have c11b2 : (((rd_T25 l0 x5_1).f0) == a1_0 && (((rd_T25 l0 x5_1).f1) == a1_1)) = false := by simpa using c11))
          (try (have c11b3 : ¬ (((rd_T25 l0 x5_1).f0) = a1_0 && (((rd_T25 l0 x5_1).f1) == a1_1)) := by simpa using c11))
          clear c11
          obtain ⟨y418, hy418⟩ : ∃ y_ : List (S25), y_ = (([] : List (S25))) := ⟨_, rfl⟩
          replace H : (if x5_1 ≤ (l0.length : Int) then ((some (l0.take (x5_1 : Int).toNat : List (S25))).bind fun y421 => (if y418.length + y421.length < 8796093022208 then ((some (y418 ++ y421 : List (S25))).bind fun y425 => ((some (([(⟨a1_0, a1_1⟩ : S25)] : List (S25)) : List (S25))).bind fun y428 => (if y425.length + y428.length < 8796093022208 then ((some (y425 ++ y428 : List (S25))).bind fun y431 => ((some (l0.drop (x5_1 : Int).toNat : List (S25))).bind fun y434 => (if y431.length + y434.length < 8796093022208 then (some (y431 ++ y434)) else (none)))) else (none)))) else (none))) else (none)) = some r := by first | (rw [hy418]; with_reducible exact H) | (have H2_ := (Option.bind_some _ _).symm.trans H; rw [hy418]; with_reducible exact H2_) | (have H2_ := (Option.bind_some _ _).symm.trans H; with_reducible exact H2_) | with_reducible exact H | (rw [hy418]; exact H) | exact H
          have Ny418 := Aside0.mk hy418
          clear hy418
          have c16b0 := eq_true (of_decide_eq_true (by first | (with_reducible assumption) | assumption) : 0 ≤ x5_1)
          by_cases c17 : x5_1 ≤ (l0.length : Int)
          · rw [if_pos c17] at H
            have c17b0 := eq_true c17
            have c17b1 : decide (x5_1 ≤ (l0.length : Int)) = true := decide_eq_true c17
            clear c17
            obtain ⟨y421, hy421⟩ : ∃ y_ : List (S25), y_ = (l0.take (x5_1 : Int).toNat) := ⟨_, rfl⟩
            replace H : (if y418.length + y421.length < 8796093022208 then ((some (y418 ++ y421 : List (S25))).bind fun y425 => ((some (([(⟨a1_0, a1_1⟩ : S25)] : List (S25)) : List (S25))).bind fun y428 => (if y425.length + y428.length < 8796093022208 then ((some (y425 ++ y428 : List (S25))).bind fun y431 => ((some (l0.drop (x5_1 : Int).toNat : List (S25))).bind fun y434 => (if y431.length + y434.length < 8796093022208 then (some (y431 ++ y434)) else (none)))) else (none)))) else (none)) = some r := by first | (rw [hy421]; with_reducible exact H) | (have H2_ := (Option.bind_some _ _).symm.trans H; rw [hy421]; with_reducible exact H2_) | (have H2_ := (Option.bind_some _ _).symm.trans H; with_reducible exact H2_) | with_reducible exact H | (rw [hy421]; exact H) | exact H
            have Ny421 := Aside0.mk hy421
            clear hy421
            by_cases c18 : y418.length + y421.length < 8796093022208
            · rw [if_pos c18] at H
              have LMc18 := Aside0.mk c18
              clear c18
              obtain ⟨y425, hy425⟩ : ∃ y_ : List (S25), y_ = (y418 ++ y421) := ⟨_, rfl⟩
              replace H : ((some (([(⟨a1_0, a1_1⟩ : S25)] : List (S25)) : List (S25))).bind fun y428 => (if y425.length + y428.length < 8796093022208 then ((some (y425 ++ y428 : List (S25))).bind fun y431 => ((some (l0.drop (x5_1 : Int).toNat : List (S25))).bind fun y434 => (if y431.length + y434.length < 8796093022208 then (some (y431 ++ y434)) else (none)))) else (none))) = some r := by first | (rw [hy425]; with_reducible exact H) | (have H2_ := (Option.bind_some _ _).symm.trans H; rw [hy425]; with_reducible exact H2_) | (have H2_ := (Option.bind_some _ _).symm.trans H; with_reducible exact H2_) | with_reducible exact H | (rw [hy425]; exact H) | exact H
              have Ny425 := Aside0.mk hy425
              clear hy425
              obtain ⟨y428, hy428⟩ : ∃ y_ : List (S25), y_ = (([(⟨a1_0, a1_1⟩ : S25)] : List (S25))) := ⟨_, rfl⟩
              replace H : (if y425.length + y428.length < 8796093022208 then ((some (y425 ++ y428 : List (S25))).bind fun y431 => ((some (l0.drop (x5_1 : Int).toNat : List (S25))).bind fun y434 => (if y431.length + y434.length < 8796093022208 then (some (y431 ++ y434)) else (none)))) else (none)) = some r := by first | (rw [hy428]; with_reducible exact H) | (have H2_ := (Option.bind_some _ _).symm.trans H; rw [hy428]; with_reducible exact H2_) | (have H2_ := (Option.bind_some _ _).symm.trans H; with_reducible exact H2_) | with_reducible exact H | (rw [hy428]; exact H) | exact H
              have Ny428 := Aside0.mk hy428
              clear hy428
              by_cases c19 : y425.length + y428.length < 8796093022208
              · rw [if_pos c19] at H
                have LMc19 := Aside0.mk c19
                clear c19
                obtain ⟨y431, hy431⟩ : ∃ y_ : List (S25), y_ = (y425 ++ y428) := ⟨_, rfl⟩
                replace H : ((some (l0.drop (x5_1 : Int).toNat : List (S25))).bind fun y434 => (if y431.length + y434.length < 8796093022208 then (some (y431 ++ y434)) else (none))) = some r := by first | (rw [hy431]; with_reducible exact H) | (have H2_ := (Option.bind_some _ _).symm.trans H; rw [hy431]; with_reducible exact H2_) | (have H2_ := (Option.bind_some _ _).symm.trans H; with_reducible exact H2_) | with_reducible exact H | (rw [hy431]; exact H) | exact H
                have Ny431 := Aside0.mk hy431
                clear hy431
                have c20b0 := eq_true (of_decide_eq_true (by first | (with_reducible assumption) | assumption) : 0 ≤ x5_1)
                have c21b0 := eq_true (of_decide_eq_true (by first | (with_reducible assumption) | assumption) : x5_1 ≤ (l0.length : Int))
                obtain ⟨y434, hy434⟩ : ∃ y_ : List (S25), y_ = (l0.drop (x5_1 : Int).toNat) := ⟨_, rfl⟩
                replace H : (if y431.length + y434.length < 8796093022208 then (some (y431 ++ y434)) else (none)) = some r := by first | (rw [hy434]; with_reducible exact H) | (have H2_ := (Option.bind_some _ _).symm.trans H; rw [hy434]; with_reducible exact H2_) | (have H2_ := (Option.bind_some _ _).symm.trans H; with_reducible exact H2_) | with_reducible exact H | (rw [hy434]; exact H) | exact H
                have Ny434 := Aside0.mk hy434
                clear hy434
                by_cases c22 : y431.length + y434.length < 8796093022208
                · rw [if_pos c22] at H
                  have LMc22 := Aside0.mk c22
                  clear c22
                  obtain ⟨y438, hy438⟩ : ∃ y_ : List (S25), y_ = (y431 ++ y434) := ⟨_, rfl⟩
                  replace H : (some y438) = some r := by first | (rw [hy438]; with_reducible exact H) | (have H2_ := (Option.bind_some _ _).symm.trans H; rw [hy438]; with_reducible exact H2_) | (have H2_ := (Option.bind_some _ _).symm.trans H; with_reducible exact H2_) | with_reducible exact H | (rw [hy438]; exact H) | exact H
                  have Ny438 := Aside0.mk hy438
                  clear hy438
                  obtain rfl := Option.some.inj H
                  try go_wp2
                  replace HO_0 := Aside0.mk (Kd.R_drew HO_0.1)
                  replace BK414 := Aside0.mk (blk_drew BK414.1)
                  replace HK := Aside0.mk (Kept.drew HK.1)
                  replace HB := Aside0.mk (below_drew1 HB.1)
                  obtain ⟨Ao24, co24, eo24⟩ := Kd.R_slice HO_0.1
                  (first | subst eo24 | (injection eo24 with f1_ f2_ f3_; have f4_ := f1_.symm; have f5_ := f3_.symm; clear f1_ f2_ f3_; subst f4_; subst f5_))
                  have p415 : 0 ≤ (x5_1 : Int) := of_decide_eq_true (by first | (with_reducible assumption) | assumption)
                  have q415 : x5_1 < (l0.length : Int) := of_decide_eq_true (by first | (with_reducible assumption) | assumption)
                  obtain ⟨ad415, e415, hx415_0, hx415_1⟩ := at_T25 (Kd.R_reads' HO_0.1).2.2 x5_1 p415 q415
                  cases e415
                  replace p415 := eq_true p415
                  replace q415 := eq_true q415
                  refine start_ (n := 13) (S := fun w' => w'.cell? ⟨gb414, 0, none⟩ = some (.int .i64 a1_0) ∧ w'.cell? ⟨gb414, 1, none⟩ = some (.int .i64 a1_1) ∧ w'.cell? (ad415.add ((x5_1).toNat * 2)) = some (.int .i64 ((rd_T25 l0 x5_1).f0)) ∧ w'.cell? ⟨(ad415.add ((x5_1).toNat * 2)).block, (ad415.add ((x5_1).toNat * 2)).off + 1, none⟩ = some (.int .i64 ((rd_T25 l0 x5_1).f1))) (ds := []) (bs 13 0) (by kernel_rfl) rfl rfl ⟨(blk_cell BK414.1 0).trans rfl, (blk_cell BK414.1 1).trans rfl, hx415_0, hx415_1⟩ (fun hHeld => ?_); refine with_tabW spec_meSorted.tab2 spec_meSorted.bits2 (fun HT_ HW_ => ?_)
                  generalize wr.drew = w23 at HO_0 BK414 HK HB hx415_0 hx415_1 hHeld ⊢
                  refine pu 0 7 HT_ rfl rfl (bs 13 1) ?_
                  refine pu 1 8 HT_ rfl rfl (bs 13 3) ?_
                  refine pu 2 9 HT_ rfl rfl (bs 13 7) ?_
                  refine pu 3 10 HT_ rfl rfl (bs 13 15) ?_
                  refine pu 4 11 HT_ rfl rfl (bs 13 31) ?_
                  refine pu 5 12 HT_ rfl rfl (bs 13 63) ?_
                  refine pu 6 13 HT_ rfl rfl (bs 13 127) ?_
                  refine pu 7 14 HT_ rfl rfl (bs 13 255) ?_
                  refine tk 8 15 HT_ HW_ hHeld rfl rfl (bs 13 511) ?_
                  refine tk 9 16 HT_ HW_ hHeld rfl rfl (bs 13 1023) ?_
                  refine one_ (i := 10) (N := some 17) (bs 13 2047) rfl rfl (one_of HT_.1 (by kernel_rfl)) (by decide) (fun K hK => ?_)
                  refine gs Try.func49 #[.agg #[.int .i64 ((rd_T25 l0 x5_1).f0), .int .i64 ((rd_T25 l0 x5_1).f1)], .agg #[.int .i64 a1_0, .int .i64 a1_1]] ?_
                  with_reducible refine (spec_diCompare.calls ((rd_T25 l0 x5_1).f0) ((rd_T25 l0 x5_1).f1) a1_0 a1_1 t416 _ A6.1).mono ?_
                  rintro e w25 ⟨rfl, hb⟩
                  have HS2_ := (hb.cell (World.block_lt_of_cell? _ _ (hHeld.2.2.1))).trans (hHeld.2.2.1)
                  have HS3_ := (hb.cell (World.block_lt_of_cell? _ _ (hHeld.2.2.2))).trans (hHeld.2.2.2)
                  refine ⟨_, rfl, ?_⟩
                  replace HO_0 := rB HO_0 hb
                  replace HK := Aside0.mk (Kept.below (S := (fun k_ => P0_ k_)) (by repeat (first | (with_reducible first | exact HK.1 | apply Kept.alloc | apply Kept.drewN | apply Kept.drew | refine Kept.setCell ?_ (.inr GW414.1) _) | exact HK.1)) hb)
                  replace BK414 := zb BK414 hb
                  replace HB := zB HB hb
                  (try clear hb)
                  (try clear hb2)
                  (try clear hk)
                  (try clear hi)
                  refine hK.out _ _ ⟨(blk_cell BK414.1 0).trans rfl, (blk_cell BK414.1 1).trans rfl, HS2_, HS3_⟩ (fun hHeld => ?_)
                  clear hK K
                  refine norm_ (aq 17) ?_
                  refine pu 11 18 HT_ rfl rfl (bs 13 4095) ?_
                  refine pu 12 19 HT_ rfl rfl (bs 13 8191) ?_
                  refine done_ (done_of HT_.1 (by kernel_rfl)) ?_
                  try go_wp2
                  replace HO_0 := Aside0.mk (Kd.R_drew HO_0.1)
                  replace BK414 := Aside0.mk (blk_drew BK414.1)
                  replace HK := Aside0.mk (Kept.drew HK.1)
                  replace HB := Aside0.mk (below_drew1 HB.1)
                  have p417 : 0 ≤ (x5_1 : Int) := of_decide_eq_true (by first | (with_reducible assumption) | assumption)
                  have q417 : x5_1 < (l0.length : Int) := of_decide_eq_true (by first | (with_reducible assumption) | assumption)
                  obtain ⟨ad417, e417, hx417_0, hx417_1⟩ := at_T25 (Kd.R_reads' HO_0.1).2.2 x5_1 p417 q417
                  obtain rfl : ad415 = ad417 := (by injection e417)
                  replace p417 := eq_true p417
                  replace q417 := eq_true q417
                  refine start_ (n := 12) (S := fun w' => w'.cell? ⟨gb414, 0, none⟩ = some (.int .i64 a1_0) ∧ w'.cell? ⟨gb414, 1, none⟩ = some (.int .i64 a1_1) ∧ w'.cell? (ad415.add ((x5_1).toNat * 2)) = some (.int .i64 ((rd_T25 l0 x5_1).f0)) ∧ w'.cell? ⟨(ad415.add ((x5_1).toNat * 2)).block, (ad415.add ((x5_1).toNat * 2)).off + 1, none⟩ = some (.int .i64 ((rd_T25 l0 x5_1).f1))) (ds := []) (bs 12 0) (by kernel_rfl) rfl rfl ⟨(blk_cell BK414.1 0).trans rfl, (blk_cell BK414.1 1).trans rfl, hx417_0, hx417_1⟩ (fun hHeld => ?_); refine with_tabW spec_meSorted.tab4 spec_meSorted.bits4 (fun HT_ HW_ => ?_)
                  generalize w25.drew = w26 at HO_0 BK414 HK HB hx417_0 hx417_1 hHeld ⊢
                  refine pu 0 22 HT_ rfl rfl (bs 12 1) ?_
                  refine pu 1 23 HT_ rfl rfl (bs 12 3) ?_
                  refine pu 2 24 HT_ rfl rfl (bs 12 7) ?_
                  refine pu 3 25 HT_ rfl rfl (bs 12 15) ?_
                  refine pu 4 26 HT_ rfl rfl (bs 12 31) ?_
                  refine pu 5 27 HT_ rfl rfl (bs 12 63) ?_
                  refine pu 6 28 HT_ rfl rfl (bs 12 127) ?_
                  refine pu 7 29 HT_ rfl rfl (bs 12 255) ?_
                  refine tk 8 30 HT_ HW_ hHeld rfl rfl (bs 12 511) ?_
                  refine tk 9 31 HT_ HW_ hHeld rfl rfl (bs 12 1023) ?_
                  refine pu 10 32 HT_ rfl rfl (bs 12 2047) ?_
                  refine pu 11 33 HT_ rfl rfl (bs 12 4095) ?_
                  refine done_ (done_of HT_.1 (by kernel_rfl)) ?_
                  try go_wp2
                  replace HO_0 := Aside0.mk (Kd.R_drew HO_0.1)
                  replace BK414 := Aside0.mk (blk_drew BK414.1)
                  replace HK := Aside0.mk (Kept.drew HK.1)
                  replace HB := Aside0.mk (below_drew1 HB.1)
                  have q28 : (x5_1 : Int) ≤ ((l0.length : Int) : Int) := of_decide_eq_true (by first | (with_reducible assumption) | assumption)
                  obtain ⟨i028, hi028, _, hsz28, _⟩ := info_parts info25
                  have hroom28 : l0.length ≤ co24 := (Kd.R_reads' HO_0.1).2.1
                  have hC28 : Kd.C k25 _ (some ad415) l0.length l0 := (Kd.R_reads' HO_0.1).2.2
                  have hcut28 := cut_to (P := Try.prog) 30 25 .i64 Try.underlying30 hi028 (some ad415) l0.length co24 x5_1 (of_decide_eq_true (by first | (with_reducible assumption) | assumption)) q28 hroom28
                  have hr28 := Kd.C_take (m := (x5_1 : Int).toNat) hC28 (by omega)
                  have hy28 : y421.length = (x5_1 : Int).toNat := (by rw [Ny421.1, List.length_take]; omega)
                  rw [← Ny421.1] at hr28
                  rw [← hy28] at hcut28
                  have HR424 := Aside0.mk hr28
                  have HC424 := Aside0.mk (show y421.length ≤ co24 from by omega)
                  clear hr28 hC28 hroom28 hi028 hsz28
                  have KY28 := Aside0.mk hy28
                  clear hy28
                  have KL28 := Aside0.mk (show (x5_1 : Int).toNat ≤ l0.length from by omega)
                  replace q28 := eq_true q28
                  refine start_ (n := 9) (S := fun w' => w'.cell? ⟨gb414, 0, none⟩ = some (.int .i64 a1_0) ∧ w'.cell? ⟨gb414, 1, none⟩ = some (.int .i64 a1_1)) (ds := []) (bs 9 0) (by kernel_rfl) rfl rfl ⟨(blk_cell BK414.1 0).trans rfl, (blk_cell BK414.1 1).trans rfl⟩ (fun hHeld => ?_); refine with_tabW spec_meSorted.tab6 spec_meSorted.bits6 (fun HT_ HW_ => ?_)
                  generalize w26.drew = w27 at HO_0 BK414 HK HB HR424 hHeld ⊢
                  refine pu 1 36 HT_ rfl rfl (bs 9 2) ?_
                  refine pu 2 37 HT_ rfl rfl (bs 9 6) ?_
                  refine pu 3 38 HT_ rfl rfl (bs 9 14) ?_
                  refine tk 5 40 HT_ HW_ hHeld rfl rfl (bs 9 46) ?_
                  refine join_ (σ := Value × Value × Value) 2 (bs 9 127) (fun s_ => [(35, s_.1), (39, s_.2.1), (41, s_.2.2)]) (fun s_ w' => (w'.cell? ⟨gb414, 0, none⟩ = some (.int .i64 a1_0) ∧ w'.cell? ⟨gb414, 1, none⟩ = some (.int .i64 a1_1)) ∧ (Kd.R k25 25 w' w0.heap.size (fun k_ => (P0_ k_ ∨ w.heap.size ≤ k_) ∧ some k_ ≠ (s_.2.2 : Value).ownBlock ∧ some k_ ≠ (.slice (some ad415) l0.length co24 : Value).ownBlock ∧ k_ ≠ gb414) s_.2.1 y425) ∧ (Kd.R k25 25 w' w0.heap.size (fun k_ => (P0_ k_ ∨ w.heap.size ≤ k_) ∧ some k_ ≠ (s_.2.1 : Value).ownBlock ∧ some k_ ≠ (.slice (some ad415) l0.length co24 : Value).ownBlock ∧ k_ ≠ gb414) s_.2.2 y428) ∧ (Kd.R k25 25 w' w0.heap.size (fun k_ => (P0_ k_ ∨ w.heap.size ≤ k_) ∧ some k_ ≠ (s_.2.1 : Value).ownBlock ∧ some k_ ≠ (s_.2.2 : Value).ownBlock ∧ k_ ≠ gb414) (.slice (some ad415) l0.length co24) l0) ∧ (w'.heap[gb414]? = some (.cells #[.int .i64 a1_0, .int .i64 a1_1] 25 (0, 0))) ∧ (Kept w w' (fun k_ => P0_ k_)) ∧ (Below w0.heap.size w0 w')) ?_ ?_
                  rotate_left
                  · intro hCont
                    refine two_ (i := 0) (j := 6) (Ni := some 35) (Nj := some 41) (bs 9 47) (bs 9 110) rfl rfl rfl rfl (two_of HT_.1 (by kernel_rfl)) (by decide) (by decide) (fun K hK => ?_) (fun K hK => ?_)
                    · skip
                      refine Kd.R_lit_step k25 _ 25 ?hg (N := 35) ?hd (xs := ([] : List (S25))) (inner := []) (ok := fun _ => True) (okp := fun _ => True) ?hr ?hp (fun _ hk => hk) trivial (Below.refl _ _) (Nat.le_refl _) (by simp) ?_; (case hd => rfl); (case hg => rfl); (case hr => first | (go_simp; done) | (go_simp; rfl)); (case hp => exact (Reps.none _ _))
                      intro v419 w29 ho30 hb hg_ hnew_
                      clear hg_ hnew_
                      (first | rw [← Ny418.1] at ho30 | (simp only [Int.reduceToNat] at ho30; rw [← Ny418.1] at ho30))
                      have HO420 := Aside0.mk (Kd.R_lower (Kd.R_newB (Kd.R_new' (Kd.R_newM (M := fun k_ => (P0_ k_ ∨ w.heap.size ≤ k_)) ho30 (by first | exact HK.1.1 | exact (show Kept w _ (fun k_ => P0_ k_) from by repeat (first | (with_reducible first | exact HK.1 | apply Kept.alloc | apply Kept.drewN | apply Kept.drew | refine Kept.setCell ?_ (.inr GW414.1) _) | exact HK.1)).1) (fun k_ h_ => .inr h_)) (Kd.R_lt (rq HO_0))) (g := gb414) (o := .cells #[.int .i64 a1_0, .int .i64 a1_1] 25 (0, 0)) (bk BK414)) (below_size (bq HB)))
                      replace HO_0 := Aside0.mk (Kd.R_elder' (rq HO_0) (Kd.R_base ho30) hb)
                      replace HR424 := Aside0.mk (Kd.C_below (by repeat (first | (with_reducible exact HR424.1) | (with_reducible refine Kd.C_alloc ?_ _) | (with_reducible refine Kd.C_drewN ?_ _) | (with_reducible refine Kd.C_drew ?_) | exact HR424.1)) hb)
                      replace HK := Aside0.mk (Kept.below (S := (fun k_ => P0_ k_)) (by repeat (first | (with_reducible first | exact HK.1 | apply Kept.alloc | apply Kept.drewN | apply Kept.drew | refine Kept.setCell ?_ (.inr GW414.1) _) | exact HK.1)) hb)
                      replace BK414 := zb BK414 hb
                      replace HB := zB HB hb
                      clear hb ho30
                      refine hK.out _ _ ⟨(blk_cell BK414.1 0).trans rfl, (blk_cell BK414.1 1).trans rfl⟩ (fun hHeld => ?_)
                      clear hK K
                      refine norm_ (aq 35) ?_
                      refine two_ (i := 4) (j := 6) (Ni := some 39) (Nj := some 41) (bs 9 63) (bs 9 111) rfl rfl rfl rfl (two_of HT_.1 (by kernel_rfl)) (by decide) (by decide) (fun K hK => ?_) (fun K hK => ?_)
                      · skip
                        refine Kd.R_append_rows_step k25 (w0 := w0) w0.heap.size (by rfl) (.tmp 35) (.tmp 38) 30 25 (.agg #[(.int .i64 0), (.int .i64 0)]) 16 rfl Try.underlying30 info25 rfl (by decide) (by omega) v419 y418 y421 _ _ _ (fun k_ => (P0_ k_ ∨ w.heap.size ≤ k_) ∧ some k_ ≠ (.slice (some ad415) l0.length co24 : Value).ownBlock ∧ k_ ≠ gb414) (fun _ => False) rfl rfl ?aO ?aR (fun _ _ h => h) (fun _ h => h.elim) ?aF ?aB ?aS ?aL ?_
                        (case aR => repeat (first | exact (by repeat (first | (with_reducible exact HR424.1) | (with_reducible refine Kd.C_alloc ?_ _) | (with_reducible refine Kd.C_drewN ?_ _) | (with_reducible refine Kd.C_drew ?_) | exact HR424.1)) | (with_reducible refine Kd.C_alloc ?_ _) | (with_reducible refine Kd.C_drewN ?_ _) | (with_reducible refine Kd.C_drew ?_)))
                        (case aB => exact (bq HB))
                        (case aF => exact (fun k_ hk => ⟨(.inr (Nat.le_trans (by first | exact HK.1.1 | exact (show Kept w _ (fun k_ => P0_ k_) from by repeat (first | (with_reducible first | exact HK.1 | apply Kept.alloc | apply Kept.drewN | apply Kept.drew | refine Kept.setCell ?_ (.inr GW414.1) _) | exact HK.1)).1) hk)), Kd.fresh' (Kd.R_lt (rq HO_0)) k_ hk, Kd.freshB (g := gb414) (o := .cells #[.int .i64 a1_0, .int .i64 a1_1] 25 (0, 0)) (bk BK414) k_ hk⟩))
                        (case aO => exact (by (with_reducible repeat (first | apply Kd.R_alloc | apply Kd.R_drewN | apply Kd.R_drew)); exact Kd.R_mono HO420.1 (fun _ hk => ⟨hk.1.1.1, ⟨hk.1.2, hk.2⟩⟩)))
                        (case aS => exact (below_size (bq HB)))
                        (case aL => have := LMc18.1; omega)
                        intro v426 w31 ho hb hg hat
                        rw [← Ny425.1] at ho
                        have HO427 := Aside0.mk ho
                        replace BK414 := Aside0.mk (blk_grown (g := gb414) (o := .cells #[.int .i64 a1_0, .int .i64 a1_1] 25 (0, 0)) (bk BK414) hg (Kd.R_away HO420.1 (fun _ hk => hk.2)))
                        replace HB := Aside0.mk hb
                        replace HK := Aside0.mk (Kept.of_grown (S := (fun k_ => P0_ k_)) hg (by repeat (first | (with_reducible first | exact HK.1 | apply Kept.alloc | apply Kept.drewN | apply Kept.drew | refine Kept.setCell ?_ (.inr GW414.1) _) | exact HK.1)) (fun k_ e_ => (HO420.1.1 k_ e_).1.1.1))
                        replace HR424 := Aside0.mk ((show Kd.C k25 w31 (some ad415) y421.length y421 from by rw [Ny421.1]; exact Kd.C_take (m := (x5_1 : Int).toNat) ((Kd.R_reads' (Kd.R_after (ok := (fun k_ => (P0_ k_ ∨ w.heap.size ≤ k_) ∧ k_ ≠ gb414)) (rq HO_0) hg hat)).2.2) KL28.1))
                        replace HO_0 := Aside0.mk (Kd.R_after (ok := (fun k_ => (P0_ k_ ∨ w.heap.size ≤ k_) ∧ k_ ≠ gb414)) (rq HO_0) hg hat)
                        clear HO420
                        clear ho hb hg hat
                        refine hK.out _ _ ⟨(blk_cell BK414.1 0).trans rfl, (blk_cell BK414.1 1).trans rfl⟩ (fun hHeld => ?_)
                        clear hK K
                        refine norm_ (aq 39) ?_
                        refine one_ (i := 6) (N := some 41) (bs 9 127) rfl rfl (one_of HT_.1 (by kernel_rfl)) (by decide) (fun K hK => ?_)
                        refine Kd.R_lit_step k25 _ 25 ?hg (N := 41) ?hd (xs := ([(⟨a1_0, a1_1⟩ : S25)] : List (S25))) (inner := [.int .i64 a1_0, .int .i64 a1_1]) (ok := fun _ => True) (okp := fun _ => True) ?hr ?hp (fun _ hk => hk) trivial (Below.refl _ _) (Nat.le_refl _) (by simp) ?_; (case hd => rfl); (case hg => rfl); (case hr => first | (go_simp; done) | (go_simp; rfl)); (case hp => exact (Reps.c2 (show Kd.M k25 _ _ _ (⟨a1_0, a1_1⟩ : S25) [.int .i64 a1_0, .int .i64 a1_1] from (k25_mkM _ _ _ (⟨a1_0, a1_1⟩ : S25) )) (Reps.none _ _)))
                        intro v429 w32 ho33 hb hg_ hnew_
                        clear hg_ hnew_
                        (first | rw [← Ny428.1] at ho33 | (simp only [Int.reduceToNat] at ho33; rw [← Ny428.1] at ho33))
                        have HO430 := Aside0.mk (Kd.R_lower (Kd.R_newB (Kd.R_new' (Kd.R_new' (Kd.R_newM (M := fun k_ => (P0_ k_ ∨ w.heap.size ≤ k_)) ho33 (by first | exact HK.1.1 | exact (show Kept w _ (fun k_ => P0_ k_) from by repeat (first | (with_reducible first | exact HK.1 | apply Kept.alloc | apply Kept.drewN | apply Kept.drew | refine Kept.setCell ?_ (.inr GW414.1) _) | exact HK.1)).1) (fun k_ h_ => .inr h_)) (Kd.R_lt (rq HO_0))) (Kd.R_lt (rq HO427))) (g := gb414) (o := .cells #[.int .i64 a1_0, .int .i64 a1_1] 25 (0, 0)) (bk BK414)) (below_size (bq HB)))
                        replace HO_0 := Aside0.mk (Kd.R_elder' (rq HO_0) (Kd.R_base ho33) hb)
                        replace HO427 := Aside0.mk (Kd.R_elder' (rq HO427) (Kd.R_base ho33) hb)
                        replace HR424 := Aside0.mk (Kd.C_below (by repeat (first | (with_reducible exact HR424.1) | (with_reducible refine Kd.C_alloc ?_ _) | (with_reducible refine Kd.C_drewN ?_ _) | (with_reducible refine Kd.C_drew ?_) | exact HR424.1)) hb)
                        replace HK := Aside0.mk (Kept.below (S := (fun k_ => P0_ k_)) (by repeat (first | (with_reducible first | exact HK.1 | apply Kept.alloc | apply Kept.drewN | apply Kept.drew | refine Kept.setCell ?_ (.inr GW414.1) _) | exact HK.1)) hb)
                        replace BK414 := zb BK414 hb
                        replace HB := zB HB hb
                        clear hb ho33
                        refine hK.out _ _ ⟨(blk_cell BK414.1 0).trans rfl, (blk_cell BK414.1 1).trans rfl⟩ (fun hHeld => ?_)
                        clear hK K
                        refine norm_ (aq 41) ?_
                        exact norm_ (by simp only [putAll, Act.put, List.setIfInBounds_toArray, List.set_cons_zero, List.set_cons_succ]) (hCont (v419, v426, v429) _ ⟨hHeld, (by (with_reducible repeat (first | apply Kd.R_alloc | apply Kd.R_drewN | apply Kd.R_drew)); exact Kd.R_mono HO427.1 (fun _ hk => ⟨hk.1.1, ⟨hk.2, ⟨hk.1.2.1, hk.1.2.2⟩⟩⟩)), (by (with_reducible repeat (first | apply Kd.R_alloc | apply Kd.R_drewN | apply Kd.R_drew)); exact Kd.R_mono HO430.1 (fun _ hk => ⟨hk.1.1.1.1, ⟨hk.1.2, ⟨hk.1.1.2, hk.2⟩⟩⟩)), (by (with_reducible repeat (first | apply Kd.R_alloc | apply Kd.R_drewN | apply Kd.R_drew)); exact Kd.R_mono HO_0.1 (fun _ hk => ⟨hk.1.1.1, ⟨hk.1.2, ⟨hk.2, hk.1.1.2⟩⟩⟩)), (bk BK414), (by repeat (first | (with_reducible first | exact HK.1 | apply Kept.alloc | apply Kept.drewN | apply Kept.drew | refine Kept.setCell ?_ (.inr GW414.1) _) | exact HK.1)), (bq HB)⟩)
                      skip
                      refine Kd.R_lit_step k25 _ 25 ?hg (N := 41) ?hd (xs := ([(⟨a1_0, a1_1⟩ : S25)] : List (S25))) (inner := [.int .i64 a1_0, .int .i64 a1_1]) (ok := fun _ => True) (okp := fun _ => True) ?hr ?hp (fun _ hk => hk) trivial (Below.refl _ _) (Nat.le_refl _) (by simp) ?_; (case hd => rfl); (case hg => rfl); (case hr => first | (go_simp; done) | (go_simp; rfl)); (case hp => exact (Reps.c2 (show Kd.M k25 _ _ _ (⟨a1_0, a1_1⟩ : S25) [.int .i64 a1_0, .int .i64 a1_1] from (k25_mkM _ _ _ (⟨a1_0, a1_1⟩ : S25) )) (Reps.none _ _)))
                      intro v429 w31 ho32 hb hg_ hnew_
                      clear hg_ hnew_
                      (first | rw [← Ny428.1] at ho32 | (simp only [Int.reduceToNat] at ho32; rw [← Ny428.1] at ho32))
                      have HO430 := Aside0.mk (Kd.R_lower (Kd.R_newB (Kd.R_new' (Kd.R_new' (Kd.R_newM (M := fun k_ => (P0_ k_ ∨ w.heap.size ≤ k_)) ho32 (by first | exact HK.1.1 | exact (show Kept w _ (fun k_ => P0_ k_) from by repeat (first | (with_reducible first | exact HK.1 | apply Kept.alloc | apply Kept.drewN | apply Kept.drew | refine Kept.setCell ?_ (.inr GW414.1) _) | exact HK.1)).1) (fun k_ h_ => .inr h_)) (Kd.R_lt (rq HO_0))) (Kd.R_lt (rq HO420))) (g := gb414) (o := .cells #[.int .i64 a1_0, .int .i64 a1_1] 25 (0, 0)) (bk BK414)) (below_size (bq HB)))
                      replace HO_0 := Aside0.mk (Kd.R_elder' (rq HO_0) (Kd.R_base ho32) hb)
                      replace HO420 := Aside0.mk (Kd.R_elder' (rq HO420) (Kd.R_base ho32) hb)
                      replace HR424 := Aside0.mk (Kd.C_below (by repeat (first | (with_reducible exact HR424.1) | (with_reducible refine Kd.C_alloc ?_ _) | (with_reducible refine Kd.C_drewN ?_ _) | (with_reducible refine Kd.C_drew ?_) | exact HR424.1)) hb)
                      replace HK := Aside0.mk (Kept.below (S := (fun k_ => P0_ k_)) (by repeat (first | (with_reducible first | exact HK.1 | apply Kept.alloc | apply Kept.drewN | apply Kept.drew | refine Kept.setCell ?_ (.inr GW414.1) _) | exact HK.1)) hb)
                      replace BK414 := zb BK414 hb
                      replace HB := zB HB hb
                      clear hb ho32
                      refine hK.out _ _ ⟨(blk_cell BK414.1 0).trans rfl, (blk_cell BK414.1 1).trans rfl⟩ (fun hHeld => ?_)
                      clear hK K
                      refine norm_ (aq 41) ?_
                      refine one_ (i := 4) (N := some 39) (bs 9 127) rfl rfl (one_of HT_.1 (by kernel_rfl)) (by decide) (fun K hK => ?_)
                      refine Kd.R_append_rows_step k25 (w0 := w0) w0.heap.size (by rfl) (.tmp 35) (.tmp 38) 30 25 (.agg #[(.int .i64 0), (.int .i64 0)]) 16 rfl Try.underlying30 info25 rfl (by decide) (by omega) v419 y418 y421 _ _ _ (fun k_ => (P0_ k_ ∨ w.heap.size ≤ k_) ∧ some k_ ≠ (.slice (some ad415) l0.length co24 : Value).ownBlock ∧ some k_ ≠ (v429 : Value).ownBlock ∧ k_ ≠ gb414) (fun _ => False) rfl rfl ?aO ?aR (fun _ _ h => h) (fun _ h => h.elim) ?aF ?aB ?aS ?aL ?_
                      (case aR => repeat (first | exact (by repeat (first | (with_reducible exact HR424.1) | (with_reducible refine Kd.C_alloc ?_ _) | (with_reducible refine Kd.C_drewN ?_ _) | (with_reducible refine Kd.C_drew ?_) | exact HR424.1)) | (with_reducible refine Kd.C_alloc ?_ _) | (with_reducible refine Kd.C_drewN ?_ _) | (with_reducible refine Kd.C_drew ?_)))
                      (case aB => exact (bq HB))
                      (case aF => exact (fun k_ hk => ⟨(.inr (Nat.le_trans (by first | exact HK.1.1 | exact (show Kept w _ (fun k_ => P0_ k_) from by repeat (first | (with_reducible first | exact HK.1 | apply Kept.alloc | apply Kept.drewN | apply Kept.drew | refine Kept.setCell ?_ (.inr GW414.1) _) | exact HK.1)).1) hk)), Kd.fresh' (Kd.R_lt (rq HO_0)) k_ hk, Kd.fresh' (Kd.R_lt (rq HO430)) k_ hk, Kd.freshB (g := gb414) (o := .cells #[.int .i64 a1_0, .int .i64 a1_1] 25 (0, 0)) (bk BK414) k_ hk⟩))
                      (case aO => exact (by (with_reducible repeat (first | apply Kd.R_alloc | apply Kd.R_drewN | apply Kd.R_drew)); exact Kd.R_mono HO420.1 (fun _ hk => ⟨hk.1.1.1.1, ⟨hk.1.1.2, ⟨hk.2, hk.1.2⟩⟩⟩)))
                      (case aS => exact (below_size (bq HB)))
                      (case aL => have := LMc18.1; omega)
                      intro v426 w33 ho hb hg hat
                      rw [← Ny425.1] at ho
                      have HO427 := Aside0.mk ho
                      replace BK414 := Aside0.mk (blk_grown (g := gb414) (o := .cells #[.int .i64 a1_0, .int .i64 a1_1] 25 (0, 0)) (bk BK414) hg (Kd.R_away HO420.1 (fun _ hk => hk.1.2)))
                      replace HO430 := Aside0.mk (Kd.R_after (ok := (fun k_ => (P0_ k_ ∨ w.heap.size ≤ k_) ∧ some k_ ≠ (.slice (some ad415) l0.length co24 : Value).ownBlock ∧ k_ ≠ gb414)) (by (with_reducible repeat (first | apply Kd.R_alloc | apply Kd.R_drewN | apply Kd.R_drew)); exact Kd.R_mono HO430.1 (fun _ hk => ⟨⟨hk.1.1.1.1, ⟨hk.1.1.2, hk.2⟩⟩, hk.1.2⟩)) hg hat)
                      replace HB := Aside0.mk hb
                      replace HK := Aside0.mk (Kept.of_grown (S := (fun k_ => P0_ k_)) hg (by repeat (first | (with_reducible first | exact HK.1 | apply Kept.alloc | apply Kept.drewN | apply Kept.drew | refine Kept.setCell ?_ (.inr GW414.1) _) | exact HK.1)) (fun k_ e_ => (HO420.1.1 k_ e_).1.1.1.1))
                      replace HR424 := Aside0.mk ((show Kd.C k25 w33 (some ad415) y421.length y421 from by rw [Ny421.1]; exact Kd.C_take (m := (x5_1 : Int).toNat) ((Kd.R_reads' (Kd.R_after (ok := (fun k_ => (P0_ k_ ∨ w.heap.size ≤ k_) ∧ some k_ ≠ (v429 : Value).ownBlock ∧ k_ ≠ gb414)) (by (with_reducible repeat (first | apply Kd.R_alloc | apply Kd.R_drewN | apply Kd.R_drew)); exact Kd.R_mono HO_0.1 (fun _ hk => ⟨⟨hk.1.1.1, ⟨hk.2, hk.1.1.2⟩⟩, hk.1.2⟩)) hg hat)).2.2) KL28.1))
                      replace HO_0 := Aside0.mk (Kd.R_after (ok := (fun k_ => (P0_ k_ ∨ w.heap.size ≤ k_) ∧ some k_ ≠ (v429 : Value).ownBlock ∧ k_ ≠ gb414)) (by (with_reducible repeat (first | apply Kd.R_alloc | apply Kd.R_drewN | apply Kd.R_drew)); exact Kd.R_mono HO_0.1 (fun _ hk => ⟨⟨hk.1.1.1, ⟨hk.2, hk.1.1.2⟩⟩, hk.1.2⟩)) hg hat)
                      clear HO420
                      clear ho hb hg hat
                      refine hK.out _ _ ⟨(blk_cell BK414.1 0).trans rfl, (blk_cell BK414.1 1).trans rfl⟩ (fun hHeld => ?_)
                      clear hK K
                      refine norm_ (aq 39) ?_
                      exact norm_ (by simp only [putAll, Act.put, List.setIfInBounds_toArray, List.set_cons_zero, List.set_cons_succ]) (hCont (v419, v426, v429) _ ⟨hHeld, (by (with_reducible repeat (first | apply Kd.R_alloc | apply Kd.R_drewN | apply Kd.R_drew)); exact Kd.R_mono HO427.1 (fun _ hk => ⟨hk.1, ⟨hk.2.2.1, ⟨hk.2.1, hk.2.2.2⟩⟩⟩)), (by (with_reducible repeat (first | apply Kd.R_alloc | apply Kd.R_drewN | apply Kd.R_drew)); exact Kd.R_mono HO430.1 (fun _ hk => ⟨hk.1.1, ⟨hk.2, ⟨hk.1.2.1, hk.1.2.2⟩⟩⟩)), (by (with_reducible repeat (first | apply Kd.R_alloc | apply Kd.R_drewN | apply Kd.R_drew)); exact Kd.R_mono HO_0.1 (fun _ hk => ⟨hk.1.1, ⟨hk.2, ⟨hk.1.2.1, hk.1.2.2⟩⟩⟩)), (bk BK414), (by repeat (first | (with_reducible first | exact HK.1 | apply Kept.alloc | apply Kept.drewN | apply Kept.drew | refine Kept.setCell ?_ (.inr GW414.1) _) | exact HK.1)), (bq HB)⟩)
                    skip
                    refine Kd.R_lit_step k25 _ 25 ?hg (N := 41) ?hd (xs := ([(⟨a1_0, a1_1⟩ : S25)] : List (S25))) (inner := [.int .i64 a1_0, .int .i64 a1_1]) (ok := fun _ => True) (okp := fun _ => True) ?hr ?hp (fun _ hk => hk) trivial (Below.refl _ _) (Nat.le_refl _) (by simp) ?_; (case hd => rfl); (case hg => rfl); (case hr => first | (go_simp; done) | (go_simp; rfl)); (case hp => exact (Reps.c2 (show Kd.M k25 _ _ _ (⟨a1_0, a1_1⟩ : S25) [.int .i64 a1_0, .int .i64 a1_1] from (k25_mkM _ _ _ (⟨a1_0, a1_1⟩ : S25) )) (Reps.none _ _)))
                    intro v429 w29 ho30 hb hg_ hnew_
                    clear hg_ hnew_
                    (first | rw [← Ny428.1] at ho30 | (simp only [Int.reduceToNat] at ho30; rw [← Ny428.1] at ho30))
                    have HO430 := Aside0.mk (Kd.R_lower (Kd.R_newB (Kd.R_new' (Kd.R_newM (M := fun k_ => (P0_ k_ ∨ w.heap.size ≤ k_)) ho30 (by first | exact HK.1.1 | exact (show Kept w _ (fun k_ => P0_ k_) from by repeat (first | (with_reducible first | exact HK.1 | apply Kept.alloc | apply Kept.drewN | apply Kept.drew | refine Kept.setCell ?_ (.inr GW414.1) _) | exact HK.1)).1) (fun k_ h_ => .inr h_)) (Kd.R_lt (rq HO_0))) (g := gb414) (o := .cells #[.int .i64 a1_0, .int .i64 a1_1] 25 (0, 0)) (bk BK414)) (below_size (bq HB)))
                    replace HO_0 := Aside0.mk (Kd.R_elder' (rq HO_0) (Kd.R_base ho30) hb)
                    replace HR424 := Aside0.mk (Kd.C_below (by repeat (first | (with_reducible exact HR424.1) | (with_reducible refine Kd.C_alloc ?_ _) | (with_reducible refine Kd.C_drewN ?_ _) | (with_reducible refine Kd.C_drew ?_) | exact HR424.1)) hb)
                    replace HK := Aside0.mk (Kept.below (S := (fun k_ => P0_ k_)) (by repeat (first | (with_reducible first | exact HK.1 | apply Kept.alloc | apply Kept.drewN | apply Kept.drew | refine Kept.setCell ?_ (.inr GW414.1) _) | exact HK.1)) hb)
                    replace BK414 := zb BK414 hb
                    replace HB := zB HB hb
                    clear hb ho30
                    refine hK.out _ _ ⟨(blk_cell BK414.1 0).trans rfl, (blk_cell BK414.1 1).trans rfl⟩ (fun hHeld => ?_)
                    clear hK K
                    refine norm_ (aq 41) ?_
                    refine one_ (i := 0) (N := some 35) (bs 9 111) rfl rfl (one_of HT_.1 (by kernel_rfl)) (by decide) (fun K hK => ?_)
                    refine Kd.R_lit_step k25 _ 25 ?hg (N := 35) ?hd (xs := ([] : List (S25))) (inner := []) (ok := fun _ => True) (okp := fun _ => True) ?hr ?hp (fun _ hk => hk) trivial (Below.refl _ _) (Nat.le_refl _) (by simp) ?_; (case hd => rfl); (case hg => rfl); (case hr => first | (go_simp; done) | (go_simp; rfl)); (case hp => exact (Reps.none _ _))
                    intro v419 w31 ho32 hb hg_ hnew_
                    clear hg_ hnew_
                    (first | rw [← Ny418.1] at ho32 | (simp only [Int.reduceToNat] at ho32; rw [← Ny418.1] at ho32))
                    have HO420 := Aside0.mk (Kd.R_lower (Kd.R_newB (Kd.R_new' (Kd.R_new' (Kd.R_newM (M := fun k_ => (P0_ k_ ∨ w.heap.size ≤ k_)) ho32 (by first | exact HK.1.1 | exact (show Kept w _ (fun k_ => P0_ k_) from by repeat (first | (with_reducible first | exact HK.1 | apply Kept.alloc | apply Kept.drewN | apply Kept.drew | refine Kept.setCell ?_ (.inr GW414.1) _) | exact HK.1)).1) (fun k_ h_ => .inr h_)) (Kd.R_lt (rq HO_0))) (Kd.R_lt (rq HO430))) (g := gb414) (o := .cells #[.int .i64 a1_0, .int .i64 a1_1] 25 (0, 0)) (bk BK414)) (below_size (bq HB)))
                    replace HO_0 := Aside0.mk (Kd.R_elder' (rq HO_0) (Kd.R_base ho32) hb)
                    replace HO430 := Aside0.mk (Kd.R_elder' (rq HO430) (Kd.R_base ho32) hb)
                    replace HR424 := Aside0.mk (Kd.C_below (by repeat (first | (with_reducible exact HR424.1) | (with_reducible refine Kd.C_alloc ?_ _) | (with_reducible refine Kd.C_drewN ?_ _) | (with_reducible refine Kd.C_drew ?_) | exact HR424.1)) hb)
                    replace HK := Aside0.mk (Kept.below (S := (fun k_ => P0_ k_)) (by repeat (first | (with_reducible first | exact HK.1 | apply Kept.alloc | apply Kept.drewN | apply Kept.drew | refine Kept.setCell ?_ (.inr GW414.1) _) | exact HK.1)) hb)
                    replace BK414 := zb BK414 hb
                    replace HB := zB HB hb
                    clear hb ho32
                    refine hK.out _ _ ⟨(blk_cell BK414.1 0).trans rfl, (blk_cell BK414.1 1).trans rfl⟩ (fun hHeld => ?_)
                    clear hK K
                    refine norm_ (aq 35) ?_
                    refine one_ (i := 4) (N := some 39) (bs 9 127) rfl rfl (one_of HT_.1 (by kernel_rfl)) (by decide) (fun K hK => ?_)
                    refine Kd.R_append_rows_step k25 (w0 := w0) w0.heap.size (by rfl) (.tmp 35) (.tmp 38) 30 25 (.agg #[(.int .i64 0), (.int .i64 0)]) 16 rfl Try.underlying30 info25 rfl (by decide) (by omega) v419 y418 y421 _ _ _ (fun k_ => (P0_ k_ ∨ w.heap.size ≤ k_) ∧ some k_ ≠ (.slice (some ad415) l0.length co24 : Value).ownBlock ∧ some k_ ≠ (v429 : Value).ownBlock ∧ k_ ≠ gb414) (fun _ => False) rfl rfl ?aO ?aR (fun _ _ h => h) (fun _ h => h.elim) ?aF ?aB ?aS ?aL ?_
                    (case aR => repeat (first | exact (by repeat (first | (with_reducible exact HR424.1) | (with_reducible refine Kd.C_alloc ?_ _) | (with_reducible refine Kd.C_drewN ?_ _) | (with_reducible refine Kd.C_drew ?_) | exact HR424.1)) | (with_reducible refine Kd.C_alloc ?_ _) | (with_reducible refine Kd.C_drewN ?_ _) | (with_reducible refine Kd.C_drew ?_)))
                    (case aB => exact (bq HB))
                    (case aF => exact (fun k_ hk => ⟨(.inr (Nat.le_trans (by first | exact HK.1.1 | exact (show Kept w _ (fun k_ => P0_ k_) from by repeat (first | (with_reducible first | exact HK.1 | apply Kept.alloc | apply Kept.drewN | apply Kept.drew | refine Kept.setCell ?_ (.inr GW414.1) _) | exact HK.1)).1) hk)), Kd.fresh' (Kd.R_lt (rq HO_0)) k_ hk, Kd.fresh' (Kd.R_lt (rq HO430)) k_ hk, Kd.freshB (g := gb414) (o := .cells #[.int .i64 a1_0, .int .i64 a1_1] 25 (0, 0)) (bk BK414) k_ hk⟩))
                    (case aO => exact (by (with_reducible repeat (first | apply Kd.R_alloc | apply Kd.R_drewN | apply Kd.R_drew)); exact Kd.R_mono HO420.1 (fun _ hk => ⟨hk.1.1.1.1, ⟨hk.1.1.2, ⟨hk.1.2, hk.2⟩⟩⟩)))
                    (case aS => exact (below_size (bq HB)))
                    (case aL => have := LMc18.1; omega)
                    intro v426 w33 ho hb hg hat
                    rw [← Ny425.1] at ho
                    have HO427 := Aside0.mk ho
                    replace BK414 := Aside0.mk (blk_grown (g := gb414) (o := .cells #[.int .i64 a1_0, .int .i64 a1_1] 25 (0, 0)) (bk BK414) hg (Kd.R_away HO420.1 (fun _ hk => hk.2)))
                    replace HO430 := Aside0.mk (Kd.R_after (ok := (fun k_ => (P0_ k_ ∨ w.heap.size ≤ k_) ∧ some k_ ≠ (.slice (some ad415) l0.length co24 : Value).ownBlock ∧ k_ ≠ gb414)) (by (with_reducible repeat (first | apply Kd.R_alloc | apply Kd.R_drewN | apply Kd.R_drew)); exact Kd.R_mono HO430.1 (fun _ hk => ⟨⟨hk.1.1.1.1, ⟨hk.1.1.2, hk.1.2⟩⟩, hk.2⟩)) hg hat)
                    replace HB := Aside0.mk hb
                    replace HK := Aside0.mk (Kept.of_grown (S := (fun k_ => P0_ k_)) hg (by repeat (first | (with_reducible first | exact HK.1 | apply Kept.alloc | apply Kept.drewN | apply Kept.drew | refine Kept.setCell ?_ (.inr GW414.1) _) | exact HK.1)) (fun k_ e_ => (HO420.1.1 k_ e_).1.1.1.1))
                    replace HR424 := Aside0.mk ((show Kd.C k25 w33 (some ad415) y421.length y421 from by rw [Ny421.1]; exact Kd.C_take (m := (x5_1 : Int).toNat) ((Kd.R_reads' (Kd.R_after (ok := (fun k_ => (P0_ k_ ∨ w.heap.size ≤ k_) ∧ some k_ ≠ (v429 : Value).ownBlock ∧ k_ ≠ gb414)) (by (with_reducible repeat (first | apply Kd.R_alloc | apply Kd.R_drewN | apply Kd.R_drew)); exact Kd.R_mono HO_0.1 (fun _ hk => ⟨⟨hk.1.1.1, ⟨hk.1.2, hk.1.1.2⟩⟩, hk.2⟩)) hg hat)).2.2) KL28.1))
                    replace HO_0 := Aside0.mk (Kd.R_after (ok := (fun k_ => (P0_ k_ ∨ w.heap.size ≤ k_) ∧ some k_ ≠ (v429 : Value).ownBlock ∧ k_ ≠ gb414)) (by (with_reducible repeat (first | apply Kd.R_alloc | apply Kd.R_drewN | apply Kd.R_drew)); exact Kd.R_mono HO_0.1 (fun _ hk => ⟨⟨hk.1.1.1, ⟨hk.1.2, hk.1.1.2⟩⟩, hk.2⟩)) hg hat)
                    clear HO420
                    clear ho hb hg hat
                    refine hK.out _ _ ⟨(blk_cell BK414.1 0).trans rfl, (blk_cell BK414.1 1).trans rfl⟩ (fun hHeld => ?_)
                    clear hK K
                    refine norm_ (aq 39) ?_
                    exact norm_ (by simp only [putAll, Act.put, List.setIfInBounds_toArray, List.set_cons_zero, List.set_cons_succ]) (hCont (v419, v426, v429) _ ⟨hHeld, (by (with_reducible repeat (first | apply Kd.R_alloc | apply Kd.R_drewN | apply Kd.R_drew)); exact Kd.R_mono HO427.1 (fun _ hk => ⟨hk.1, ⟨hk.2.2.1, ⟨hk.2.1, hk.2.2.2⟩⟩⟩)), (by (with_reducible repeat (first | apply Kd.R_alloc | apply Kd.R_drewN | apply Kd.R_drew)); exact Kd.R_mono HO430.1 (fun _ hk => ⟨hk.1.1, ⟨hk.2, ⟨hk.1.2.1, hk.1.2.2⟩⟩⟩)), (by (with_reducible repeat (first | apply Kd.R_alloc | apply Kd.R_drewN | apply Kd.R_drew)); exact Kd.R_mono HO_0.1 (fun _ hk => ⟨hk.1.1, ⟨hk.2, ⟨hk.1.2.1, hk.1.2.2⟩⟩⟩)), (bk BK414), (by repeat (first | (with_reducible first | exact HK.1 | apply Kept.alloc | apply Kept.drewN | apply Kept.drew | refine Kept.setCell ?_ (.inr GW414.1) _) | exact HK.1)), (bq HB)⟩)
                  rintro ⟨v419, v426, v429⟩ w34 ⟨hS_, h0_, h1_, h2_, h3_, h4_, h5_⟩
                  have n0_ : Aside0 (Kd.R k25 25 w34 w0.heap.size (fun k_ => (P0_ k_ ∨ w.heap.size ≤ k_) ∧ some k_ ≠ (v429 : Value).ownBlock ∧ some k_ ≠ (.slice (some ad415) l0.length co24 : Value).ownBlock ∧ k_ ≠ gb414) v426 y425) := ⟨h0_⟩
                  have n1_ : Aside0 (Kd.R k25 25 w34 w0.heap.size (fun k_ => (P0_ k_ ∨ w.heap.size ≤ k_) ∧ some k_ ≠ (v426 : Value).ownBlock ∧ some k_ ≠ (.slice (some ad415) l0.length co24 : Value).ownBlock ∧ k_ ≠ gb414) v429 y428) := ⟨h1_⟩
                  have n2_ : Aside0 (Kd.R k25 25 w34 w0.heap.size (fun k_ => (P0_ k_ ∨ w.heap.size ≤ k_) ∧ some k_ ≠ (v426 : Value).ownBlock ∧ some k_ ≠ (v429 : Value).ownBlock ∧ k_ ≠ gb414) (.slice (some ad415) l0.length co24) l0) := ⟨h2_⟩
                  have n3_ : Aside0 (w34.heap[gb414]? = some (.cells #[.int .i64 a1_0, .int .i64 a1_1] 25 (0, 0))) := ⟨h3_⟩
                  have n4_ : Aside0 (Kept w w34 (fun k_ => P0_ k_)) := ⟨h4_⟩
                  have n5_ : Aside0 (Below w0.heap.size w0 w34) := ⟨h5_⟩
                  clear HO_0
                  clear BK414
                  clear HK
                  clear HB
                  clear h0_ h1_ h2_ h3_ h4_ h5_
                  have HO427 := n0_
                  have HO430 := n1_
                  have HO_0 := n2_
                  have BK414 := n3_
                  have HK := n4_
                  have HB := n5_
                  clear n0_ n1_ n2_ n3_ n4_ n5_
                  have hHeld : w34.cell? ⟨gb414, 0, none⟩ = some (.int .i64 a1_0) ∧ w34.cell? ⟨gb414, 1, none⟩ = some (.int .i64 a1_1) := hS_
                  obtain ⟨Ao36, co36, eo36⟩ := Kd.R_slice HO430.1
                  (first | subst eo36 | (injection eo36 with f1_ f2_ f3_; have f4_ := f1_.symm; have f5_ := f3_.symm; clear f1_ f2_ f3_; subst f4_; subst f5_))
                  refine norm_ (a' := ?_) ?_ ?_
                  rotate_left
                  · simp only [putAll, Act.put, List.setIfInBounds_toArray, List.set_cons_zero, List.set_cons_succ]
                    rfl
                  refine one_ (i := 7) (N := some 42) (bs 9 255) rfl rfl (one_of HT_.1 (by kernel_rfl)) (by decide) (fun K hK => ?_)
                  refine Kd.R_append_rows_step k25 (w0 := w0) w0.heap.size (by rfl) (.tmp 39) (.tmp 41) 30 25 (.agg #[(.int .i64 0), (.int .i64 0)]) 16 rfl Try.underlying30 info25 rfl (by decide) (by omega) v426 y425 y428 _ _ _ (fun k_ => (P0_ k_ ∨ w.heap.size ≤ k_) ∧ some k_ ≠ (.slice (some ad415) l0.length co24 : Value).ownBlock ∧ some k_ ≠ (.slice Ao36 y428.length co36 : Value).ownBlock ∧ k_ ≠ gb414) (fun _ => False) rfl rfl ?aO ?aR (fun _ _ h => h) (fun _ h => h.elim) ?aF ?aB ?aS ?aL ?_
                  (case aR => repeat (first | exact (Kd.R_reads' HO430.1).2.2 | (with_reducible refine Kd.C_alloc ?_ _) | (with_reducible refine Kd.C_drewN ?_ _) | (with_reducible refine Kd.C_drew ?_)))
                  (case aB => exact (bq HB))
                  (case aF => exact (fun k_ hk => ⟨(.inr (Nat.le_trans (by first | exact HK.1.1 | exact (show Kept w _ (fun k_ => P0_ k_) from by repeat (first | (with_reducible first | exact HK.1 | apply Kept.alloc | apply Kept.drewN | apply Kept.drew | refine Kept.setCell ?_ (.inr GW414.1) _) | exact HK.1)).1) hk)), Kd.fresh' (Kd.R_lt (rq HO_0)) k_ hk, Kd.fresh' (Kd.R_lt (rq HO430)) k_ hk, Kd.freshB (g := gb414) (o := .cells #[.int .i64 a1_0, .int .i64 a1_1] 25 (0, 0)) (bk BK414) k_ hk⟩))
                  (case aO => exact (by (with_reducible repeat (first | apply Kd.R_alloc | apply Kd.R_drewN | apply Kd.R_drew)); exact Kd.R_mono HO427.1 (fun _ hk => ⟨hk.1, ⟨hk.2.2.1, ⟨hk.2.1, hk.2.2.2⟩⟩⟩)))
                  (case aS => exact (below_size (bq HB)))
                  (case aL => have := LMc19.1; omega)
                  intro v432 w35 ho hb hg hat
                  rw [← Ny431.1] at ho
                  have HO433 := Aside0.mk ho
                  replace HO_0 := Aside0.mk (Kd.R_after (ok := (fun k_ => (P0_ k_ ∨ w.heap.size ≤ k_) ∧ some k_ ≠ (.slice Ao36 y428.length co36 : Value).ownBlock ∧ k_ ≠ gb414)) (by (with_reducible repeat (first | apply Kd.R_alloc | apply Kd.R_drewN | apply Kd.R_drew)); exact Kd.R_mono HO_0.1 (fun _ hk => ⟨⟨hk.1, ⟨hk.2.2.1, hk.2.2.2⟩⟩, hk.2.1⟩)) hg hat)
                  replace BK414 := Aside0.mk (blk_grown (g := gb414) (o := .cells #[.int .i64 a1_0, .int .i64 a1_1] 25 (0, 0)) (bk BK414) hg (Kd.R_away HO427.1 (fun _ hk => hk.2.2.2)))
                  replace HO430 := Aside0.mk (Kd.R_after (ok := (fun k_ => (P0_ k_ ∨ w.heap.size ≤ k_) ∧ some k_ ≠ (.slice (some ad415) l0.length co24 : Value).ownBlock ∧ k_ ≠ gb414)) (by (with_reducible repeat (first | apply Kd.R_alloc | apply Kd.R_drewN | apply Kd.R_drew)); exact Kd.R_mono HO430.1 (fun _ hk => ⟨⟨hk.1, ⟨hk.2.2.1, hk.2.2.2⟩⟩, hk.2.1⟩)) hg hat)
                  replace HB := Aside0.mk hb
                  replace HK := Aside0.mk (Kept.of_grown (S := (fun k_ => P0_ k_)) hg (by repeat (first | (with_reducible first | exact HK.1 | apply Kept.alloc | apply Kept.drewN | apply Kept.drew | refine Kept.setCell ?_ (.inr GW414.1) _) | exact HK.1)) (fun k_ e_ => (HO427.1.1 k_ e_).1))
                  clear HO427
                  clear ho hb hg hat
                  refine hK.out _ _ ⟨(blk_cell BK414.1 0).trans rfl, (blk_cell BK414.1 1).trans rfl⟩ (fun hHeld => ?_)
                  clear hK K
                  refine norm_ (aq 42) ?_
                  refine pu 8 6 HT_ rfl rfl (bs 9 511) ?_
                  refine done_ (done_of HT_.1 (by kernel_rfl)) ?_
                  have q37 : (x5_1 : Int) ≤ ((l0.length : Int) : Int) := of_decide_eq_true (by first | (with_reducible assumption) | assumption)
                  obtain ⟨i037, hi037, _, hsz37, _⟩ := info_parts info25
                  have hroom37 : l0.length ≤ co24 := (Kd.R_reads' HO_0.1).2.1
                  have hC37 : Kd.C k25 _ (some ad415) l0.length l0 := (Kd.R_reads' HO_0.1).2.2
                  have q037 : (0 : Int) ≤ (x5_1 : Int) := of_decide_eq_true (by first | (with_reducible assumption) | assumption)
                  have hcut37 := cut_from (P := Try.prog) 30 25 .i64 Try.underlying30 hi037 2 hsz37 (some ad415) l0.length co24 x5_1 q037 q37
                  have hr37 := Kd.C_drop (m := (x5_1 : Int).toNat) (c := co24) hC37 (by omega) hroom37
                  obtain ⟨A37, hA37⟩ : ∃ A1, A1 = (if co24 = (x5_1 : Int).toNat then (some ad415) else ((some ad415) : Option Addr).map (·.add ((x5_1 : Int).toNat * 2))) := ⟨_, rfl⟩
                  obtain ⟨c37, hc37⟩ : ∃ c1, c1 = co24 - (x5_1 : Int).toNat := ⟨_, rfl⟩
                  have hy37 : y434.length = l0.length - (x5_1 : Int).toNat := (by rw [Ny434.1, List.length_drop] <;> omega)
                  rw [show (l0).drop (x5_1 : Int).toNat = y434 from Ny434.1.symm] at hr37
                  replace hr37 : Kd.C k25 _ A37 y434.length y434 := (by rw [hA37]; exact hr37)
                  rw [← hy37, ← hA37, ← hc37] at hcut37
                  have HR437 := Aside0.mk hr37
                  have HC437 := Aside0.mk (show y434.length ≤ c37 from by rw [hy37, hc37]; exact Nat.sub_le_sub_right hroom37 _)
                  clear hr37 hC37 hroom37 hi037 hsz37 hc37
                  have KY37 := Aside0.mk hy37
                  have KA37 := Aside0.mk hA37
                  clear hy37 hA37
                  have KL37 := Aside0.mk (show (x5_1 : Int).toNat ≤ l0.length from by omega)
                  replace q37 := eq_true q37
                  try go_wp2_with (first | ((with_reducible refine gate_builtin (b := .append) (xs := #[.tmp 43, .tmp 46]) rfl ?_); at_builtin; refine Kd.R_append_rows k25 (w0 := w0) w0.heap.size rfl (.tmp 43) (.tmp 46) 30 25 (.agg #[(.int .i64 0), (.int .i64 0)]) 16 rfl Try.underlying30 info25 rfl (by decide) (by omega) v432 y431 y434 _ _ _ (fun k_ => (P0_ k_ ∨ w.heap.size ≤ k_) ∧ some k_ ≠ (.slice (some ad415) l0.length co24 : Value).ownBlock ∧ some k_ ≠ (.slice Ao36 y428.length co36 : Value).ownBlock ∧ k_ ≠ gb414) (fun _ => False) rfl rfl ?aO ?aR (fun _ _ h => h) (fun _ h => h.elim) ?aF ?aB ?aS ?aL ?_; (case aR => repeat (first | exact (by repeat (first | (with_reducible exact HR437.1) | (with_reducible refine Kd.C_alloc ?_ _) | (with_reducible refine Kd.C_drewN ?_ _) | (with_reducible refine Kd.C_drew ?_) | exact HR437.1)) | (with_reducible refine Kd.C_alloc ?_ _) | (with_reducible refine Kd.C_drewN ?_ _) | (with_reducible refine Kd.C_drew ?_))); (case aB => exact (bq HB)); (case aF => exact (fun k_ hk => ⟨(.inr (Nat.le_trans (by first | exact HK.1.1 | exact (show Kept w _ (fun k_ => P0_ k_) from by repeat (first | (with_reducible first | exact HK.1 | apply Kept.alloc | apply Kept.drewN | apply Kept.drew | refine Kept.setCell ?_ (.inr GW414.1) _) | exact HK.1)).1) hk)), Kd.fresh' (Kd.R_lt (rq HO_0)) k_ hk, Kd.fresh' (Kd.R_lt (rq HO430)) k_ hk, Kd.freshB (g := gb414) (o := .cells #[.int .i64 a1_0, .int .i64 a1_1] 25 (0, 0)) (bk BK414) k_ hk⟩)); (case aO => exact (rq HO433)); (case aS => exact (below_size (bq HB))); (case aL => have := LMc22.1; omega); intro v439 w38 ho hb hg hat; rw [← Ny438.1] at ho; have HO440 := Aside0.mk ho; replace BK414 := Aside0.mk (blk_grown (g := gb414) (o := .cells #[.int .i64 a1_0, .int .i64 a1_1] 25 (0, 0)) (bk BK414) hg (Kd.R_away HO433.1 (fun _ hk => hk.2.2.2))); replace HO430 := Aside0.mk (Kd.R_after (ok := (fun k_ => (P0_ k_ ∨ w.heap.size ≤ k_) ∧ some k_ ≠ (.slice (some ad415) l0.length co24 : Value).ownBlock ∧ k_ ≠ gb414)) (rq HO430) hg hat); replace HB := Aside0.mk hb; replace HK := Aside0.mk (Kept.of_grown (S := (fun k_ => P0_ k_)) hg (by repeat (first | (with_reducible first | exact HK.1 | apply Kept.alloc | apply Kept.drewN | apply Kept.drew | refine Kept.setCell ?_ (.inr GW414.1) _) | exact HK.1)) (fun k_ e_ => (HO433.1.1 k_ e_).1)); replace HR437 := Aside0.mk ((show Kd.C k25 w38 A37 y434.length y434 from by rw [Ny434.1, KA37.1]; exact Kd.C_drop (m := (x5_1 : Int).toNat) (c := co24) ((Kd.R_reads' (Kd.R_after (ok := (fun k_ => (P0_ k_ ∨ w.heap.size ≤ k_) ∧ some k_ ≠ (.slice Ao36 y428.length co36 : Value).ownBlock ∧ k_ ≠ gb414)) (rq HO_0) hg hat)).2.2) KL37.1 ((Kd.R_reads' (Kd.R_after (ok := (fun k_ => (P0_ k_ ∨ w.heap.size ≤ k_) ∧ some k_ ≠ (.slice Ao36 y428.length co36 : Value).ownBlock ∧ k_ ≠ gb414)) (rq HO_0) hg hat)).2.1))); replace HO_0 := Aside0.mk (Kd.R_after (ok := (fun k_ => (P0_ k_ ∨ w.heap.size ≤ k_) ∧ some k_ ≠ (.slice Ao36 y428.length co36 : Value).ownBlock ∧ k_ ≠ gb414)) (rq HO_0) hg hat); clear HO433; clear ho hb hg hat))
                  go_ret
                  exact ⟨_, er, by (with_reducible repeat (first | apply Kd.R_alloc | apply Kd.R_drewN | apply Kd.R_drew)); exact Kd.R_mono HO440.1 (fun _ hk => hk.1), bq HB, by repeat (first | (with_reducible first | exact HK.1 | apply Kept.alloc | apply Kept.drewN | apply Kept.drew | refine Kept.setCell ?_ (.inr GW414.1) _) | exact HK.1)⟩
                rw [if_neg c22] at H
                exact absurd H (by simp)
              rw [if_neg c19] at H
              exact absurd H (by simp)
            rw [if_neg c18] at H
            exact absurd H (by simp)
          rw [if_neg c17] at H
          exact absurd H (by simp)
        rw [if_neg c5] at H
        exact absurd H (by simp)
      rw [if_neg c4] at H
      have c4b0 : decide (x5_1 < (l0.length : Int)) = false := decide_eq_false c4
      clear c4
      obtain ⟨y441, hy441⟩ : ∃ y_ : List (S25), y_ = (([] : List (S25))) := ⟨_, rfl⟩
      replace H : (if 0 ≤ x5_1 then (if x5_1 ≤ (l0.length : Int) then ((some (l0.take (x5_1 : Int).toNat : List (S25))).bind fun y444 => (if y441.length + y444.length < 8796093022208 then ((some (y441 ++ y444 : List (S25))).bind fun y448 => ((some (([(⟨a1_0, a1_1⟩ : S25)] : List (S25)) : List (S25))).bind fun y451 => (if y448.length + y451.length < 8796093022208 then ((some (y448 ++ y451 : List (S25))).bind fun y454 => ((some (l0.drop (x5_1 : Int).toNat : List (S25))).bind fun y457 => (if y454.length + y457.length < 8796093022208 then (some (y454 ++ y457)) else (none)))) else (none)))) else (none))) else (none)) else (none)) = some r := by first | (rw [hy441]; with_reducible exact H) | (have H2_ := (Option.bind_some _ _).symm.trans H; rw [hy441]; with_reducible exact H2_) | (have H2_ := (Option.bind_some _ _).symm.trans H; with_reducible exact H2_) | with_reducible exact H | (rw [hy441]; exact H) | exact H
      have Ny441 := Aside0.mk hy441
      clear hy441
      by_cases c39 : 0 ≤ x5_1
      · rw [if_pos c39] at H
        have c39b0 := eq_true c39
        have c39b1 : decide (0 ≤ x5_1) = true := decide_eq_true c39
        clear c39
        by_cases c40 : x5_1 ≤ (l0.length : Int)
        · rw [if_pos c40] at H
          have c40b0 := eq_true c40
          have c40b1 : decide (x5_1 ≤ (l0.length : Int)) = true := decide_eq_true c40
          clear c40
          obtain ⟨y444, hy444⟩ : ∃ y_ : List (S25), y_ = (l0.take (x5_1 : Int).toNat) := ⟨_, rfl⟩
          replace H : (if y441.length + y444.length < 8796093022208 then ((some (y441 ++ y444 : List (S25))).bind fun y448 => ((some (([(⟨a1_0, a1_1⟩ : S25)] : List (S25)) : List (S25))).bind fun y451 => (if y448.length + y451.length < 8796093022208 then ((some (y448 ++ y451 : List (S25))).bind fun y454 => ((some (l0.drop (x5_1 : Int).toNat : List (S25))).bind fun y457 => (if y454.length + y457.length < 8796093022208 then (some (y454 ++ y457)) else (none)))) else (none)))) else (none)) = some r := by first | (rw [hy444]; with_reducible exact H) | (have H2_ := (Option.bind_some _ _).symm.trans H; rw [hy444]; with_reducible exact H2_) | (have H2_ := (Option.bind_some _ _).symm.trans H; with_reducible exact H2_) | with_reducible exact H | (rw [hy444]; exact H) | exact H
          have Ny444 := Aside0.mk hy444
          clear hy444
          by_cases c41 : y441.length + y444.length < 8796093022208
          · rw [if_pos c41] at H
            have LMc41 := Aside0.mk c41
            clear c41
            obtain ⟨y448, hy448⟩ : ∃ y_ : List (S25), y_ = (y441 ++ y444) := ⟨_, rfl⟩
            replace H : ((some (([(⟨a1_0, a1_1⟩ : S25)] : List (S25)) : List (S25))).bind fun y451 => (if y448.length + y451.length < 8796093022208 then ((some (y448 ++ y451 : List (S25))).bind fun y454 => ((some (l0.drop (x5_1 : Int).toNat : List (S25))).bind fun y457 => (if y454.length + y457.length < 8796093022208 then (some (y454 ++ y457)) else (none)))) else (none))) = some r := by first | (rw [hy448]; with_reducible exact H) | (have H2_ := (Option.bind_some _ _).symm.trans H; rw [hy448]; with_reducible exact H2_) | (have H2_ := (Option.bind_some _ _).symm.trans H; with_reducible exact H2_) | with_reducible exact H | (rw [hy448]; exact H) | exact H
            have Ny448 := Aside0.mk hy448
            clear hy448
            obtain ⟨y451, hy451⟩ : ∃ y_ : List (S25), y_ = (([(⟨a1_0, a1_1⟩ : S25)] : List (S25))) := ⟨_, rfl⟩
            replace H : (if y448.length + y451.length < 8796093022208 then ((some (y448 ++ y451 : List (S25))).bind fun y454 => ((some (l0.drop (x5_1 : Int).toNat : List (S25))).bind fun y457 => (if y454.length + y457.length < 8796093022208 then (some (y454 ++ y457)) else (none)))) else (none)) = some r := by first | (rw [hy451]; with_reducible exact H) | (have H2_ := (Option.bind_some _ _).symm.trans H; rw [hy451]; with_reducible exact H2_) | (have H2_ := (Option.bind_some _ _).symm.trans H; with_reducible exact H2_) | with_reducible exact H | (rw [hy451]; exact H) | exact H
            have Ny451 := Aside0.mk hy451
            clear hy451
            by_cases c42 : y448.length + y451.length < 8796093022208
            · rw [if_pos c42] at H
              have LMc42 := Aside0.mk c42
              clear c42
              obtain ⟨y454, hy454⟩ : ∃ y_ : List (S25), y_ = (y448 ++ y451) := ⟨_, rfl⟩
              replace H : ((some (l0.drop (x5_1 : Int).toNat : List (S25))).bind fun y457 => (if y454.length + y457.length < 8796093022208 then (some (y454 ++ y457)) else (none))) = some r := by first | (rw [hy454]; with_reducible exact H) | (have H2_ := (Option.bind_some _ _).symm.trans H; rw [hy454]; with_reducible exact H2_) | (have H2_ := (Option.bind_some _ _).symm.trans H; with_reducible exact H2_) | with_reducible exact H | (rw [hy454]; exact H) | exact H
              have Ny454 := Aside0.mk hy454
              clear hy454
              have c43b0 := eq_true (of_decide_eq_true (by first | (with_reducible assumption) | assumption) : 0 ≤ x5_1)
              have c44b0 := eq_true (of_decide_eq_true (by first | (with_reducible assumption) | assumption) : x5_1 ≤ (l0.length : Int))
              obtain ⟨y457, hy457⟩ : ∃ y_ : List (S25), y_ = (l0.drop (x5_1 : Int).toNat) := ⟨_, rfl⟩
              replace H : (if y454.length + y457.length < 8796093022208 then (some (y454 ++ y457)) else (none)) = some r := by first | (rw [hy457]; with_reducible exact H) | (have H2_ := (Option.bind_some _ _).symm.trans H; rw [hy457]; with_reducible exact H2_) | (have H2_ := (Option.bind_some _ _).symm.trans H; with_reducible exact H2_) | with_reducible exact H | (rw [hy457]; exact H) | exact H
              have Ny457 := Aside0.mk hy457
              clear hy457
              by_cases c45 : y454.length + y457.length < 8796093022208
              · rw [if_pos c45] at H
                have LMc45 := Aside0.mk c45
                clear c45
                obtain ⟨y461, hy461⟩ : ∃ y_ : List (S25), y_ = (y454 ++ y457) := ⟨_, rfl⟩
                replace H : (some y461) = some r := by first | (rw [hy461]; with_reducible exact H) | (have H2_ := (Option.bind_some _ _).symm.trans H; rw [hy461]; with_reducible exact H2_) | (have H2_ := (Option.bind_some _ _).symm.trans H; with_reducible exact H2_) | with_reducible exact H | (rw [hy461]; exact H) | exact H
                have Ny461 := Aside0.mk hy461
                clear hy461
                obtain rfl := Option.some.inj H
                try go_wp2
                replace HO_0 := Aside0.mk (Kd.R_drew HO_0.1)
                replace BK414 := Aside0.mk (blk_drew BK414.1)
                replace HK := Aside0.mk (Kept.drew HK.1)
                replace HB := Aside0.mk (below_drew1 HB.1)
                obtain ⟨Ao47, co47, eo47⟩ := Kd.R_slice HO_0.1
                (first | subst eo47 | (injection eo47 with f1_ f2_ f3_; have f4_ := f1_.symm; have f5_ := f3_.symm; clear f1_ f2_ f3_; subst f4_; subst f5_))
                refine start_ (n := 13) (S := fun w' => True) (ds := []) (bs 13 0) (by kernel_rfl) rfl rfl trivial (fun hHeld => ?_); refine with_tabW spec_meSorted.tab2 spec_meSorted.bits2 (fun HT_ HW_ => ?_)
                generalize wr.drew = w46 at HO_0 BK414 HK HB hHeld ⊢
                refine pu 0 7 HT_ rfl rfl (bs 13 1) ?_
                refine pu 1 8 HT_ rfl rfl (bs 13 3) ?_
                refine pu 2 9 HT_ rfl rfl (bs 13 7) ?_
                refine pu 3 10 HT_ rfl rfl (bs 13 15) ?_
                refine pu 4 11 HT_ rfl rfl (bs 13 31) ?_
                refine pure_ (i := 5) (N := some 12) (v := undef) (a' := ?_) (bs 13 63) rfl rfl (any_of HT_.1 (by kernel_rfl)) (fun _ _ _ h => h) (Or.inr ⟨by rfl, rfl⟩) ?_ ?_
                rotate_left
                · simp only [Act.put, List.setIfInBounds_toArray, List.set_cons_zero, List.set_cons_succ, i64_w, i32_w]
                  rfl
                refine pure_ (i := 6) (N := some 13) (v := undef) (a' := ?_) (bs 13 127) rfl rfl (any_of HT_.1 (by kernel_rfl)) (fun _ _ _ h => h) (Or.inr ⟨by rfl, rfl⟩) ?_ ?_
                rotate_left
                · simp only [Act.put, List.setIfInBounds_toArray, List.set_cons_zero, List.set_cons_succ, i64_w, i32_w]
                  rfl
                refine pure_ (i := 7) (N := some 14) (v := undef) (a' := ?_) (bs 13 255) rfl rfl (any_of HT_.1 (by kernel_rfl)) (fun _ _ _ h => h) (Or.inr ⟨by rfl, rfl⟩) ?_ ?_
                rotate_left
                · simp only [Act.put, List.setIfInBounds_toArray, List.set_cons_zero, List.set_cons_succ, i64_w, i32_w]
                  rfl
                refine pure_ (i := 8) (N := some 15) (v := undef) (a' := ?_) (bs 13 511) rfl rfl (any_of HT_.1 (by kernel_rfl)) (fun _ _ _ h => h) (Or.inr ⟨by rfl, rfl⟩) ?_ ?_
                rotate_left
                · simp only [Act.put, List.setIfInBounds_toArray, List.set_cons_zero, List.set_cons_succ, i64_w, i32_w]
                  rfl
                refine pure_ (i := 9) (N := some 16) (v := undef) (a' := ?_) (bs 13 1023) rfl rfl (any_of HT_.1 (by kernel_rfl)) (fun _ _ _ h => h) (Or.inr ⟨by rfl, rfl⟩) ?_ ?_
                rotate_left
                · simp only [Act.put, List.setIfInBounds_toArray, List.set_cons_zero, List.set_cons_succ, i64_w, i32_w]
                  rfl
                refine pure_ (i := 10) (N := some 17) (v := undef) (a' := ?_) (bs 13 2047) rfl rfl (any_of HT_.1 (by kernel_rfl)) (fun _ _ _ h => h) (Or.inr ⟨by rfl, rfl⟩) ?_ ?_
                rotate_left
                · simp only [Act.put, List.setIfInBounds_toArray, List.set_cons_zero, List.set_cons_succ, i64_w, i32_w]
                  rfl
                refine pure_ (i := 11) (N := some 18) (v := undef) (a' := ?_) (bs 13 4095) rfl rfl (any_of HT_.1 (by kernel_rfl)) (fun _ _ _ h => h) (Or.inr ⟨by rfl, rfl⟩) ?_ ?_
                rotate_left
                · simp only [Act.put, List.setIfInBounds_toArray, List.set_cons_zero, List.set_cons_succ, i64_w, i32_w]
                  rfl
                refine pu 12 19 HT_ rfl rfl (bs 13 8191) ?_
                refine done_ (done_of HT_.1 (by kernel_rfl)) ?_
                try go_wp2
                replace HO_0 := Aside0.mk (Kd.R_drew HO_0.1)
                replace BK414 := Aside0.mk (blk_drew BK414.1)
                replace HK := Aside0.mk (Kept.drew HK.1)
                replace HB := Aside0.mk (below_drew1 HB.1)
                refine start_ (n := 12) (S := fun w' => True) (ds := []) (bs 12 0) (by kernel_rfl) rfl rfl trivial (fun hHeld => ?_); refine with_tabW spec_meSorted.tab4 spec_meSorted.bits4 (fun HT_ HW_ => ?_)
                generalize w46.drew = w48 at HO_0 BK414 HK HB hHeld ⊢
                refine pu 0 22 HT_ rfl rfl (bs 12 1) ?_
                refine pu 1 23 HT_ rfl rfl (bs 12 3) ?_
                refine pu 2 24 HT_ rfl rfl (bs 12 7) ?_
                refine pu 3 25 HT_ rfl rfl (bs 12 15) ?_
                refine pu 4 26 HT_ rfl rfl (bs 12 31) ?_
                refine pure_ (i := 5) (N := some 27) (v := undef) (a' := ?_) (bs 12 63) rfl rfl (any_of HT_.1 (by kernel_rfl)) (fun _ _ _ h => h) (Or.inr ⟨by rfl, rfl⟩) ?_ ?_
                rotate_left
                · simp only [Act.put, List.setIfInBounds_toArray, List.set_cons_zero, List.set_cons_succ, i64_w, i32_w]
                  rfl
                refine pure_ (i := 6) (N := some 28) (v := undef) (a' := ?_) (bs 12 127) rfl rfl (any_of HT_.1 (by kernel_rfl)) (fun _ _ _ h => h) (Or.inr ⟨by rfl, rfl⟩) ?_ ?_
                rotate_left
                · simp only [Act.put, List.setIfInBounds_toArray, List.set_cons_zero, List.set_cons_succ, i64_w, i32_w]
                  rfl
                refine pure_ (i := 7) (N := some 29) (v := undef) (a' := ?_) (bs 12 255) rfl rfl (any_of HT_.1 (by kernel_rfl)) (fun _ _ _ h => h) (Or.inr ⟨by rfl, rfl⟩) ?_ ?_
                rotate_left
                · simp only [Act.put, List.setIfInBounds_toArray, List.set_cons_zero, List.set_cons_succ, i64_w, i32_w]
                  rfl
                refine pure_ (i := 8) (N := some 30) (v := undef) (a' := ?_) (bs 12 511) rfl rfl (any_of HT_.1 (by kernel_rfl)) (fun _ _ _ h => h) (Or.inr ⟨by rfl, rfl⟩) ?_ ?_
                rotate_left
                · simp only [Act.put, List.setIfInBounds_toArray, List.set_cons_zero, List.set_cons_succ, i64_w, i32_w]
                  rfl
                refine pure_ (i := 9) (N := some 31) (v := undef) (a' := ?_) (bs 12 1023) rfl rfl (any_of HT_.1 (by kernel_rfl)) (fun _ _ _ h => h) (Or.inr ⟨by rfl, rfl⟩) ?_ ?_
                rotate_left
                · simp only [Act.put, List.setIfInBounds_toArray, List.set_cons_zero, List.set_cons_succ, i64_w, i32_w]
                  rfl
                refine pure_ (i := 10) (N := some 32) (v := undef) (a' := ?_) (bs 12 2047) rfl rfl (any_of HT_.1 (by kernel_rfl)) (fun _ _ _ h => h) (Or.inr ⟨by rfl, rfl⟩) ?_ ?_
                rotate_left
                · simp only [Act.put, List.setIfInBounds_toArray, List.set_cons_zero, List.set_cons_succ, i64_w, i32_w]
                  rfl
                refine pu 11 33 HT_ rfl rfl (bs 12 4095) ?_
                refine done_ (done_of HT_.1 (by kernel_rfl)) ?_
                try go_wp2
                replace HO_0 := Aside0.mk (Kd.R_drew HO_0.1)
                replace BK414 := Aside0.mk (blk_drew BK414.1)
                replace HK := Aside0.mk (Kept.drew HK.1)
                replace HB := Aside0.mk (below_drew1 HB.1)
                have q50 : (x5_1 : Int) ≤ ((l0.length : Int) : Int) := of_decide_eq_true (by first | (with_reducible assumption) | assumption)
                obtain ⟨i050, hi050, _, hsz50, _⟩ := info_parts info25
                have hroom50 : l0.length ≤ co47 := (Kd.R_reads' HO_0.1).2.1
                have hC50 : Kd.C k25 _ Ao47 l0.length l0 := (Kd.R_reads' HO_0.1).2.2
                have hcut50 := cut_to (P := Try.prog) 30 25 .i64 Try.underlying30 hi050 Ao47 l0.length co47 x5_1 (of_decide_eq_true (by first | (with_reducible assumption) | assumption)) q50 hroom50
                have hr50 := Kd.C_take (m := (x5_1 : Int).toNat) hC50 (by omega)
                have hy50 : y444.length = (x5_1 : Int).toNat := (by rw [Ny444.1, List.length_take]; omega)
                rw [← Ny444.1] at hr50
                rw [← hy50] at hcut50
                have HR447 := Aside0.mk hr50
                have HC447 := Aside0.mk (show y444.length ≤ co47 from by omega)
                clear hr50 hC50 hroom50 hi050 hsz50
                have KY50 := Aside0.mk hy50
                clear hy50
                have KL50 := Aside0.mk (show (x5_1 : Int).toNat ≤ l0.length from by omega)
                replace q50 := eq_true q50
                refine start_ (n := 9) (S := fun w' => w'.cell? ⟨gb414, 0, none⟩ = some (.int .i64 a1_0) ∧ w'.cell? ⟨gb414, 1, none⟩ = some (.int .i64 a1_1)) (ds := []) (bs 9 0) (by kernel_rfl) rfl rfl ⟨(blk_cell BK414.1 0).trans rfl, (blk_cell BK414.1 1).trans rfl⟩ (fun hHeld => ?_); refine with_tabW spec_meSorted.tab6 spec_meSorted.bits6 (fun HT_ HW_ => ?_)
                generalize w48.drew = w49 at HO_0 BK414 HK HB HR447 hHeld ⊢
                refine pu 1 36 HT_ rfl rfl (bs 9 2) ?_
                refine pu 2 37 HT_ rfl rfl (bs 9 6) ?_
                refine pu 3 38 HT_ rfl rfl (bs 9 14) ?_
                refine tk 5 40 HT_ HW_ hHeld rfl rfl (bs 9 46) ?_
                refine join_ (σ := Value × Value × Value) 2 (bs 9 127) (fun s_ => [(35, s_.1), (39, s_.2.1), (41, s_.2.2)]) (fun s_ w' => (w'.cell? ⟨gb414, 0, none⟩ = some (.int .i64 a1_0) ∧ w'.cell? ⟨gb414, 1, none⟩ = some (.int .i64 a1_1)) ∧ (Kd.R k25 25 w' w0.heap.size (fun k_ => (P0_ k_ ∨ w.heap.size ≤ k_) ∧ some k_ ≠ (s_.2.2 : Value).ownBlock ∧ some k_ ≠ (.slice Ao47 l0.length co47 : Value).ownBlock ∧ k_ ≠ gb414) s_.2.1 y448) ∧ (Kd.R k25 25 w' w0.heap.size (fun k_ => (P0_ k_ ∨ w.heap.size ≤ k_) ∧ some k_ ≠ (s_.2.1 : Value).ownBlock ∧ some k_ ≠ (.slice Ao47 l0.length co47 : Value).ownBlock ∧ k_ ≠ gb414) s_.2.2 y451) ∧ (Kd.R k25 25 w' w0.heap.size (fun k_ => (P0_ k_ ∨ w.heap.size ≤ k_) ∧ some k_ ≠ (s_.2.1 : Value).ownBlock ∧ some k_ ≠ (s_.2.2 : Value).ownBlock ∧ k_ ≠ gb414) (.slice Ao47 l0.length co47) l0) ∧ (w'.heap[gb414]? = some (.cells #[.int .i64 a1_0, .int .i64 a1_1] 25 (0, 0))) ∧ (Kept w w' (fun k_ => P0_ k_)) ∧ (Below w0.heap.size w0 w')) ?_ ?_
                rotate_left
                · intro hCont
                  refine two_ (i := 0) (j := 6) (Ni := some 35) (Nj := some 41) (bs 9 47) (bs 9 110) rfl rfl rfl rfl (two_of HT_.1 (by kernel_rfl)) (by decide) (by decide) (fun K hK => ?_) (fun K hK => ?_)
                  · skip
                    refine Kd.R_lit_step k25 _ 25 ?hg (N := 35) ?hd (xs := ([] : List (S25))) (inner := []) (ok := fun _ => True) (okp := fun _ => True) ?hr ?hp (fun _ hk => hk) trivial (Below.refl _ _) (Nat.le_refl _) (by simp) ?_; (case hd => rfl); (case hg => rfl); (case hr => first | (go_simp; done) | (go_simp; rfl)); (case hp => exact (Reps.none _ _))
                    intro v442 w51 ho52 hb hg_ hnew_
                    clear hg_ hnew_
                    (first | rw [← Ny441.1] at ho52 | (simp only [Int.reduceToNat] at ho52; rw [← Ny441.1] at ho52))
                    have HO443 := Aside0.mk (Kd.R_lower (Kd.R_newB (Kd.R_new' (Kd.R_newM (M := fun k_ => (P0_ k_ ∨ w.heap.size ≤ k_)) ho52 (by first | exact HK.1.1 | exact (show Kept w _ (fun k_ => P0_ k_) from by repeat (first | (with_reducible first | exact HK.1 | apply Kept.alloc | apply Kept.drewN | apply Kept.drew | refine Kept.setCell ?_ (.inr GW414.1) _) | exact HK.1)).1) (fun k_ h_ => .inr h_)) (Kd.R_lt (rq HO_0))) (g := gb414) (o := .cells #[.int .i64 a1_0, .int .i64 a1_1] 25 (0, 0)) (bk BK414)) (below_size (bq HB)))
                    replace HO_0 := Aside0.mk (Kd.R_elder' (rq HO_0) (Kd.R_base ho52) hb)
                    replace HR447 := Aside0.mk (Kd.C_below (by repeat (first | (with_reducible exact HR447.1) | (with_reducible refine Kd.C_alloc ?_ _) | (with_reducible refine Kd.C_drewN ?_ _) | (with_reducible refine Kd.C_drew ?_) | exact HR447.1)) hb)
                    replace HK := Aside0.mk (Kept.below (S := (fun k_ => P0_ k_)) (by repeat (first | (with_reducible first | exact HK.1 | apply Kept.alloc | apply Kept.drewN | apply Kept.drew | refine Kept.setCell ?_ (.inr GW414.1) _) | exact HK.1)) hb)
                    replace BK414 := zb BK414 hb
                    replace HB := zB HB hb
                    clear hb ho52
                    refine hK.out _ _ ⟨(blk_cell BK414.1 0).trans rfl, (blk_cell BK414.1 1).trans rfl⟩ (fun hHeld => ?_)
                    clear hK K
                    refine norm_ (aq 35) ?_
                    refine two_ (i := 4) (j := 6) (Ni := some 39) (Nj := some 41) (bs 9 63) (bs 9 111) rfl rfl rfl rfl (two_of HT_.1 (by kernel_rfl)) (by decide) (by decide) (fun K hK => ?_) (fun K hK => ?_)
                    · skip
                      refine Kd.R_append_rows_step k25 (w0 := w0) w0.heap.size (by rfl) (.tmp 35) (.tmp 38) 30 25 (.agg #[(.int .i64 0), (.int .i64 0)]) 16 rfl Try.underlying30 info25 rfl (by decide) (by omega) v442 y441 y444 _ _ _ (fun k_ => (P0_ k_ ∨ w.heap.size ≤ k_) ∧ some k_ ≠ (.slice Ao47 l0.length co47 : Value).ownBlock ∧ k_ ≠ gb414) (fun _ => False) rfl rfl ?aO ?aR (fun _ _ h => h) (fun _ h => h.elim) ?aF ?aB ?aS ?aL ?_
                      (case aR => repeat (first | exact (by repeat (first | (with_reducible exact HR447.1) | (with_reducible refine Kd.C_alloc ?_ _) | (with_reducible refine Kd.C_drewN ?_ _) | (with_reducible refine Kd.C_drew ?_) | exact HR447.1)) | (with_reducible refine Kd.C_alloc ?_ _) | (with_reducible refine Kd.C_drewN ?_ _) | (with_reducible refine Kd.C_drew ?_)))
                      (case aB => exact (bq HB))
                      (case aF => exact (fun k_ hk => ⟨(.inr (Nat.le_trans (by first | exact HK.1.1 | exact (show Kept w _ (fun k_ => P0_ k_) from by repeat (first | (with_reducible first | exact HK.1 | apply Kept.alloc | apply Kept.drewN | apply Kept.drew | refine Kept.setCell ?_ (.inr GW414.1) _) | exact HK.1)).1) hk)), Kd.fresh' (Kd.R_lt (rq HO_0)) k_ hk, Kd.freshB (g := gb414) (o := .cells #[.int .i64 a1_0, .int .i64 a1_1] 25 (0, 0)) (bk BK414) k_ hk⟩))
                      (case aO => exact (by (with_reducible repeat (first | apply Kd.R_alloc | apply Kd.R_drewN | apply Kd.R_drew)); exact Kd.R_mono HO443.1 (fun _ hk => ⟨hk.1.1.1, ⟨hk.1.2, hk.2⟩⟩)))
                      (case aS => exact (below_size (bq HB)))
                      (case aL => have := LMc41.1; omega)
                      intro v449 w53 ho hb hg hat
                      rw [← Ny448.1] at ho
                      have HO450 := Aside0.mk ho
                      replace BK414 := Aside0.mk (blk_grown (g := gb414) (o := .cells #[.int .i64 a1_0, .int .i64 a1_1] 25 (0, 0)) (bk BK414) hg (Kd.R_away HO443.1 (fun _ hk => hk.2)))
                      replace HB := Aside0.mk hb
                      replace HK := Aside0.mk (Kept.of_grown (S := (fun k_ => P0_ k_)) hg (by repeat (first | (with_reducible first | exact HK.1 | apply Kept.alloc | apply Kept.drewN | apply Kept.drew | refine Kept.setCell ?_ (.inr GW414.1) _) | exact HK.1)) (fun k_ e_ => (HO443.1.1 k_ e_).1.1.1))
                      replace HR447 := Aside0.mk ((show Kd.C k25 w53 Ao47 y444.length y444 from by rw [Ny444.1]; exact Kd.C_take (m := (x5_1 : Int).toNat) ((Kd.R_reads' (Kd.R_after (ok := (fun k_ => (P0_ k_ ∨ w.heap.size ≤ k_) ∧ k_ ≠ gb414)) (rq HO_0) hg hat)).2.2) KL50.1))
                      replace HO_0 := Aside0.mk (Kd.R_after (ok := (fun k_ => (P0_ k_ ∨ w.heap.size ≤ k_) ∧ k_ ≠ gb414)) (rq HO_0) hg hat)
                      clear HO443
                      clear ho hb hg hat
                      refine hK.out _ _ ⟨(blk_cell BK414.1 0).trans rfl, (blk_cell BK414.1 1).trans rfl⟩ (fun hHeld => ?_)
                      clear hK K
                      refine norm_ (aq 39) ?_
                      refine one_ (i := 6) (N := some 41) (bs 9 127) rfl rfl (one_of HT_.1 (by kernel_rfl)) (by decide) (fun K hK => ?_)
                      refine Kd.R_lit_step k25 _ 25 ?hg (N := 41) ?hd (xs := ([(⟨a1_0, a1_1⟩ : S25)] : List (S25))) (inner := [.int .i64 a1_0, .int .i64 a1_1]) (ok := fun _ => True) (okp := fun _ => True) ?hr ?hp (fun _ hk => hk) trivial (Below.refl _ _) (Nat.le_refl _) (by simp) ?_; (case hd => rfl); (case hg => rfl); (case hr => first | (go_simp; done) | (go_simp; rfl)); (case hp => exact (Reps.c2 (show Kd.M k25 _ _ _ (⟨a1_0, a1_1⟩ : S25) [.int .i64 a1_0, .int .i64 a1_1] from (k25_mkM _ _ _ (⟨a1_0, a1_1⟩ : S25) )) (Reps.none _ _)))
                      intro v452 w54 ho55 hb hg_ hnew_
                      clear hg_ hnew_
                      (first | rw [← Ny451.1] at ho55 | (simp only [Int.reduceToNat] at ho55; rw [← Ny451.1] at ho55))
                      have HO453 := Aside0.mk (Kd.R_lower (Kd.R_newB (Kd.R_new' (Kd.R_new' (Kd.R_newM (M := fun k_ => (P0_ k_ ∨ w.heap.size ≤ k_)) ho55 (by first | exact HK.1.1 | exact (show Kept w _ (fun k_ => P0_ k_) from by repeat (first | (with_reducible first | exact HK.1 | apply Kept.alloc | apply Kept.drewN | apply Kept.drew | refine Kept.setCell ?_ (.inr GW414.1) _) | exact HK.1)).1) (fun k_ h_ => .inr h_)) (Kd.R_lt (rq HO_0))) (Kd.R_lt (rq HO450))) (g := gb414) (o := .cells #[.int .i64 a1_0, .int .i64 a1_1] 25 (0, 0)) (bk BK414)) (below_size (bq HB)))
                      replace HO_0 := Aside0.mk (Kd.R_elder' (rq HO_0) (Kd.R_base ho55) hb)
                      replace HO450 := Aside0.mk (Kd.R_elder' (rq HO450) (Kd.R_base ho55) hb)
                      replace HR447 := Aside0.mk (Kd.C_below (by repeat (first | (with_reducible exact HR447.1) | (with_reducible refine Kd.C_alloc ?_ _) | (with_reducible refine Kd.C_drewN ?_ _) | (with_reducible refine Kd.C_drew ?_) | exact HR447.1)) hb)
                      replace HK := Aside0.mk (Kept.below (S := (fun k_ => P0_ k_)) (by repeat (first | (with_reducible first | exact HK.1 | apply Kept.alloc | apply Kept.drewN | apply Kept.drew | refine Kept.setCell ?_ (.inr GW414.1) _) | exact HK.1)) hb)
                      replace BK414 := zb BK414 hb
                      replace HB := zB HB hb
                      clear hb ho55
                      refine hK.out _ _ ⟨(blk_cell BK414.1 0).trans rfl, (blk_cell BK414.1 1).trans rfl⟩ (fun hHeld => ?_)
                      clear hK K
                      refine norm_ (aq 41) ?_
                      exact norm_ (by simp only [putAll, Act.put, List.setIfInBounds_toArray, List.set_cons_zero, List.set_cons_succ]) (hCont (v442, v449, v452) _ ⟨hHeld, (by (with_reducible repeat (first | apply Kd.R_alloc | apply Kd.R_drewN | apply Kd.R_drew)); exact Kd.R_mono HO450.1 (fun _ hk => ⟨hk.1.1, ⟨hk.2, ⟨hk.1.2.1, hk.1.2.2⟩⟩⟩)), (by (with_reducible repeat (first | apply Kd.R_alloc | apply Kd.R_drewN | apply Kd.R_drew)); exact Kd.R_mono HO453.1 (fun _ hk => ⟨hk.1.1.1.1, ⟨hk.1.2, ⟨hk.1.1.2, hk.2⟩⟩⟩)), (by (with_reducible repeat (first | apply Kd.R_alloc | apply Kd.R_drewN | apply Kd.R_drew)); exact Kd.R_mono HO_0.1 (fun _ hk => ⟨hk.1.1.1, ⟨hk.1.2, ⟨hk.2, hk.1.1.2⟩⟩⟩)), (bk BK414), (by repeat (first | (with_reducible first | exact HK.1 | apply Kept.alloc | apply Kept.drewN | apply Kept.drew | refine Kept.setCell ?_ (.inr GW414.1) _) | exact HK.1)), (bq HB)⟩)
                    skip
                    refine Kd.R_lit_step k25 _ 25 ?hg (N := 41) ?hd (xs := ([(⟨a1_0, a1_1⟩ : S25)] : List (S25))) (inner := [.int .i64 a1_0, .int .i64 a1_1]) (ok := fun _ => True) (okp := fun _ => True) ?hr ?hp (fun _ hk => hk) trivial (Below.refl _ _) (Nat.le_refl _) (by simp) ?_; (case hd => rfl); (case hg => rfl); (case hr => first | (go_simp; done) | (go_simp; rfl)); (case hp => exact (Reps.c2 (show Kd.M k25 _ _ _ (⟨a1_0, a1_1⟩ : S25) [.int .i64 a1_0, .int .i64 a1_1] from (k25_mkM _ _ _ (⟨a1_0, a1_1⟩ : S25) )) (Reps.none _ _)))
                    intro v452 w53 ho54 hb hg_ hnew_
                    clear hg_ hnew_
                    (first | rw [← Ny451.1] at ho54 | (simp only [Int.reduceToNat] at ho54; rw [← Ny451.1] at ho54))
                    have HO453 := Aside0.mk (Kd.R_lower (Kd.R_newB (Kd.R_new' (Kd.R_new' (Kd.R_newM (M := fun k_ => (P0_ k_ ∨ w.heap.size ≤ k_)) ho54 (by first | exact HK.1.1 | exact (show Kept w _ (fun k_ => P0_ k_) from by repeat (first | (with_reducible first | exact HK.1 | apply Kept.alloc | apply Kept.drewN | apply Kept.drew | refine Kept.setCell ?_ (.inr GW414.1) _) | exact HK.1)).1) (fun k_ h_ => .inr h_)) (Kd.R_lt (rq HO_0))) (Kd.R_lt (rq HO443))) (g := gb414) (o := .cells #[.int .i64 a1_0, .int .i64 a1_1] 25 (0, 0)) (bk BK414)) (below_size (bq HB)))
                    replace HO_0 := Aside0.mk (Kd.R_elder' (rq HO_0) (Kd.R_base ho54) hb)
                    replace HO443 := Aside0.mk (Kd.R_elder' (rq HO443) (Kd.R_base ho54) hb)
                    replace HR447 := Aside0.mk (Kd.C_below (by repeat (first | (with_reducible exact HR447.1) | (with_reducible refine Kd.C_alloc ?_ _) | (with_reducible refine Kd.C_drewN ?_ _) | (with_reducible refine Kd.C_drew ?_) | exact HR447.1)) hb)
                    replace HK := Aside0.mk (Kept.below (S := (fun k_ => P0_ k_)) (by repeat (first | (with_reducible first | exact HK.1 | apply Kept.alloc | apply Kept.drewN | apply Kept.drew | refine Kept.setCell ?_ (.inr GW414.1) _) | exact HK.1)) hb)
                    replace BK414 := zb BK414 hb
                    replace HB := zB HB hb
                    clear hb ho54
                    refine hK.out _ _ ⟨(blk_cell BK414.1 0).trans rfl, (blk_cell BK414.1 1).trans rfl⟩ (fun hHeld => ?_)
                    clear hK K
                    refine norm_ (aq 41) ?_
                    refine one_ (i := 4) (N := some 39) (bs 9 127) rfl rfl (one_of HT_.1 (by kernel_rfl)) (by decide) (fun K hK => ?_)
                    refine Kd.R_append_rows_step k25 (w0 := w0) w0.heap.size (by rfl) (.tmp 35) (.tmp 38) 30 25 (.agg #[(.int .i64 0), (.int .i64 0)]) 16 rfl Try.underlying30 info25 rfl (by decide) (by omega) v442 y441 y444 _ _ _ (fun k_ => (P0_ k_ ∨ w.heap.size ≤ k_) ∧ some k_ ≠ (.slice Ao47 l0.length co47 : Value).ownBlock ∧ some k_ ≠ (v452 : Value).ownBlock ∧ k_ ≠ gb414) (fun _ => False) rfl rfl ?aO ?aR (fun _ _ h => h) (fun _ h => h.elim) ?aF ?aB ?aS ?aL ?_
                    (case aR => repeat (first | exact (by repeat (first | (with_reducible exact HR447.1) | (with_reducible refine Kd.C_alloc ?_ _) | (with_reducible refine Kd.C_drewN ?_ _) | (with_reducible refine Kd.C_drew ?_) | exact HR447.1)) | (with_reducible refine Kd.C_alloc ?_ _) | (with_reducible refine Kd.C_drewN ?_ _) | (with_reducible refine Kd.C_drew ?_)))
                    (case aB => exact (bq HB))
                    (case aF => exact (fun k_ hk => ⟨(.inr (Nat.le_trans (by first | exact HK.1.1 | exact (show Kept w _ (fun k_ => P0_ k_) from by repeat (first | (with_reducible first | exact HK.1 | apply Kept.alloc | apply Kept.drewN | apply Kept.drew | refine Kept.setCell ?_ (.inr GW414.1) _) | exact HK.1)).1) hk)), Kd.fresh' (Kd.R_lt (rq HO_0)) k_ hk, Kd.fresh' (Kd.R_lt (rq HO453)) k_ hk, Kd.freshB (g := gb414) (o := .cells #[.int .i64 a1_0, .int .i64 a1_1] 25 (0, 0)) (bk BK414) k_ hk⟩))
                    (case aO => exact (by (with_reducible repeat (first | apply Kd.R_alloc | apply Kd.R_drewN | apply Kd.R_drew)); exact Kd.R_mono HO443.1 (fun _ hk => ⟨hk.1.1.1.1, ⟨hk.1.1.2, ⟨hk.2, hk.1.2⟩⟩⟩)))
                    (case aS => exact (below_size (bq HB)))
                    (case aL => have := LMc41.1; omega)
                    intro v449 w55 ho hb hg hat
                    rw [← Ny448.1] at ho
                    have HO450 := Aside0.mk ho
                    replace BK414 := Aside0.mk (blk_grown (g := gb414) (o := .cells #[.int .i64 a1_0, .int .i64 a1_1] 25 (0, 0)) (bk BK414) hg (Kd.R_away HO443.1 (fun _ hk => hk.1.2)))
                    replace HO453 := Aside0.mk (Kd.R_after (ok := (fun k_ => (P0_ k_ ∨ w.heap.size ≤ k_) ∧ some k_ ≠ (.slice Ao47 l0.length co47 : Value).ownBlock ∧ k_ ≠ gb414)) (by (with_reducible repeat (first | apply Kd.R_alloc | apply Kd.R_drewN | apply Kd.R_drew)); exact Kd.R_mono HO453.1 (fun _ hk => ⟨⟨hk.1.1.1.1, ⟨hk.1.1.2, hk.2⟩⟩, hk.1.2⟩)) hg hat)
                    replace HB := Aside0.mk hb
                    replace HK := Aside0.mk (Kept.of_grown (S := (fun k_ => P0_ k_)) hg (by repeat (first | (with_reducible first | exact HK.1 | apply Kept.alloc | apply Kept.drewN | apply Kept.drew | refine Kept.setCell ?_ (.inr GW414.1) _) | exact HK.1)) (fun k_ e_ => (HO443.1.1 k_ e_).1.1.1.1))
                    replace HR447 := Aside0.mk ((show Kd.C k25 w55 Ao47 y444.length y444 from by rw [Ny444.1]; exact Kd.C_take (m := (x5_1 : Int).toNat) ((Kd.R_reads' (Kd.R_after (ok := (fun k_ => (P0_ k_ ∨ w.heap.size ≤ k_) ∧ some k_ ≠ (v452 : Value).ownBlock ∧ k_ ≠ gb414)) (by (with_reducible repeat (first | apply Kd.R_alloc | apply Kd.R_drewN | apply Kd.R_drew)); exact Kd.R_mono HO_0.1 (fun _ hk => ⟨⟨hk.1.1.1, ⟨hk.2, hk.1.1.2⟩⟩, hk.1.2⟩)) hg hat)).2.2) KL50.1))
                    replace HO_0 := Aside0.mk (Kd.R_after (ok := (fun k_ => (P0_ k_ ∨ w.heap.size ≤ k_) ∧ some k_ ≠ (v452 : Value).ownBlock ∧ k_ ≠ gb414)) (by (with_reducible repeat (first | apply Kd.R_alloc | apply Kd.R_drewN | apply Kd.R_drew)); exact Kd.R_mono HO_0.1 (fun _ hk => ⟨⟨hk.1.1.1, ⟨hk.2, hk.1.1.2⟩⟩, hk.1.2⟩)) hg hat)
                    clear HO443
                    clear ho hb hg hat
                    refine hK.out _ _ ⟨(blk_cell BK414.1 0).trans rfl, (blk_cell BK414.1 1).trans rfl⟩ (fun hHeld => ?_)
                    clear hK K
                    refine norm_ (aq 39) ?_
                    exact norm_ (by simp only [putAll, Act.put, List.setIfInBounds_toArray, List.set_cons_zero, List.set_cons_succ]) (hCont (v442, v449, v452) _ ⟨hHeld, (by (with_reducible repeat (first | apply Kd.R_alloc | apply Kd.R_drewN | apply Kd.R_drew)); exact Kd.R_mono HO450.1 (fun _ hk => ⟨hk.1, ⟨hk.2.2.1, ⟨hk.2.1, hk.2.2.2⟩⟩⟩)), (by (with_reducible repeat (first | apply Kd.R_alloc | apply Kd.R_drewN | apply Kd.R_drew)); exact Kd.R_mono HO453.1 (fun _ hk => ⟨hk.1.1, ⟨hk.2, ⟨hk.1.2.1, hk.1.2.2⟩⟩⟩)), (by (with_reducible repeat (first | apply Kd.R_alloc | apply Kd.R_drewN | apply Kd.R_drew)); exact Kd.R_mono HO_0.1 (fun _ hk => ⟨hk.1.1, ⟨hk.2, ⟨hk.1.2.1, hk.1.2.2⟩⟩⟩)), (bk BK414), (by repeat (first | (with_reducible first | exact HK.1 | apply Kept.alloc | apply Kept.drewN | apply Kept.drew | refine Kept.setCell ?_ (.inr GW414.1) _) | exact HK.1)), (bq HB)⟩)
                  skip
                  refine Kd.R_lit_step k25 _ 25 ?hg (N := 41) ?hd (xs := ([(⟨a1_0, a1_1⟩ : S25)] : List (S25))) (inner := [.int .i64 a1_0, .int .i64 a1_1]) (ok := fun _ => True) (okp := fun _ => True) ?hr ?hp (fun _ hk => hk) trivial (Below.refl _ _) (Nat.le_refl _) (by simp) ?_; (case hd => rfl); (case hg => rfl); (case hr => first | (go_simp; done) | (go_simp; rfl)); (case hp => exact (Reps.c2 (show Kd.M k25 _ _ _ (⟨a1_0, a1_1⟩ : S25) [.int .i64 a1_0, .int .i64 a1_1] from (k25_mkM _ _ _ (⟨a1_0, a1_1⟩ : S25) )) (Reps.none _ _)))
                  intro v452 w51 ho52 hb hg_ hnew_
                  clear hg_ hnew_
                  (first | rw [← Ny451.1] at ho52 | (simp only [Int.reduceToNat] at ho52; rw [← Ny451.1] at ho52))
                  have HO453 := Aside0.mk (Kd.R_lower (Kd.R_newB (Kd.R_new' (Kd.R_newM (M := fun k_ => (P0_ k_ ∨ w.heap.size ≤ k_)) ho52 (by first | exact HK.1.1 | exact (show Kept w _ (fun k_ => P0_ k_) from by repeat (first | (with_reducible first | exact HK.1 | apply Kept.alloc | apply Kept.drewN | apply Kept.drew | refine Kept.setCell ?_ (.inr GW414.1) _) | exact HK.1)).1) (fun k_ h_ => .inr h_)) (Kd.R_lt (rq HO_0))) (g := gb414) (o := .cells #[.int .i64 a1_0, .int .i64 a1_1] 25 (0, 0)) (bk BK414)) (below_size (bq HB)))
                  replace HO_0 := Aside0.mk (Kd.R_elder' (rq HO_0) (Kd.R_base ho52) hb)
                  replace HR447 := Aside0.mk (Kd.C_below (by repeat (first | (with_reducible exact HR447.1) | (with_reducible refine Kd.C_alloc ?_ _) | (with_reducible refine Kd.C_drewN ?_ _) | (with_reducible refine Kd.C_drew ?_) | exact HR447.1)) hb)
                  replace HK := Aside0.mk (Kept.below (S := (fun k_ => P0_ k_)) (by repeat (first | (with_reducible first | exact HK.1 | apply Kept.alloc | apply Kept.drewN | apply Kept.drew | refine Kept.setCell ?_ (.inr GW414.1) _) | exact HK.1)) hb)
                  replace BK414 := zb BK414 hb
                  replace HB := zB HB hb
                  clear hb ho52
                  refine hK.out _ _ ⟨(blk_cell BK414.1 0).trans rfl, (blk_cell BK414.1 1).trans rfl⟩ (fun hHeld => ?_)
                  clear hK K
                  refine norm_ (aq 41) ?_
                  refine one_ (i := 0) (N := some 35) (bs 9 111) rfl rfl (one_of HT_.1 (by kernel_rfl)) (by decide) (fun K hK => ?_)
                  refine Kd.R_lit_step k25 _ 25 ?hg (N := 35) ?hd (xs := ([] : List (S25))) (inner := []) (ok := fun _ => True) (okp := fun _ => True) ?hr ?hp (fun _ hk => hk) trivial (Below.refl _ _) (Nat.le_refl _) (by simp) ?_; (case hd => rfl); (case hg => rfl); (case hr => first | (go_simp; done) | (go_simp; rfl)); (case hp => exact (Reps.none _ _))
                  intro v442 w53 ho54 hb hg_ hnew_
                  clear hg_ hnew_
                  (first | rw [← Ny441.1] at ho54 | (simp only [Int.reduceToNat] at ho54; rw [← Ny441.1] at ho54))
                  have HO443 := Aside0.mk (Kd.R_lower (Kd.R_newB (Kd.R_new' (Kd.R_new' (Kd.R_newM (M := fun k_ => (P0_ k_ ∨ w.heap.size ≤ k_)) ho54 (by first | exact HK.1.1 | exact (show Kept w _ (fun k_ => P0_ k_) from by repeat (first | (with_reducible first | exact HK.1 | apply Kept.alloc | apply Kept.drewN | apply Kept.drew | refine Kept.setCell ?_ (.inr GW414.1) _) | exact HK.1)).1) (fun k_ h_ => .inr h_)) (Kd.R_lt (rq HO_0))) (Kd.R_lt (rq HO453))) (g := gb414) (o := .cells #[.int .i64 a1_0, .int .i64 a1_1] 25 (0, 0)) (bk BK414)) (below_size (bq HB)))
                  replace HO_0 := Aside0.mk (Kd.R_elder' (rq HO_0) (Kd.R_base ho54) hb)
                  replace HO453 := Aside0.mk (Kd.R_elder' (rq HO453) (Kd.R_base ho54) hb)
                  replace HR447 := Aside0.mk (Kd.C_below (by repeat (first | (with_reducible exact HR447.1) | (with_reducible refine Kd.C_alloc ?_ _) | (with_reducible refine Kd.C_drewN ?_ _) | (with_reducible refine Kd.C_drew ?_) | exact HR447.1)) hb)
                  replace HK := Aside0.mk (Kept.below (S := (fun k_ => P0_ k_)) (by repeat (first | (with_reducible first | exact HK.1 | apply Kept.alloc | apply Kept.drewN | apply Kept.drew | refine Kept.setCell ?_ (.inr GW414.1) _) | exact HK.1)) hb)
                  replace BK414 := zb BK414 hb
                  replace HB := zB HB hb
                  clear hb ho54
                  refine hK.out _ _ ⟨(blk_cell BK414.1 0).trans rfl, (blk_cell BK414.1 1).trans rfl⟩ (fun hHeld => ?_)
                  clear hK K
                  refine norm_ (aq 35) ?_
                  refine one_ (i := 4) (N := some 39) (bs 9 127) rfl rfl (one_of HT_.1 (by kernel_rfl)) (by decide) (fun K hK => ?_)
                  refine Kd.R_append_rows_step k25 (w0 := w0) w0.heap.size (by rfl) (.tmp 35) (.tmp 38) 30 25 (.agg #[(.int .i64 0), (.int .i64 0)]) 16 rfl Try.underlying30 info25 rfl (by decide) (by omega) v442 y441 y444 _ _ _ (fun k_ => (P0_ k_ ∨ w.heap.size ≤ k_) ∧ some k_ ≠ (.slice Ao47 l0.length co47 : Value).ownBlock ∧ some k_ ≠ (v452 : Value).ownBlock ∧ k_ ≠ gb414) (fun _ => False) rfl rfl ?aO ?aR (fun _ _ h => h) (fun _ h => h.elim) ?aF ?aB ?aS ?aL ?_
                  (case aR => repeat (first | exact (by repeat (first | (with_reducible exact HR447.1) | (with_reducible refine Kd.C_alloc ?_ _) | (with_reducible refine Kd.C_drewN ?_ _) | (with_reducible refine Kd.C_drew ?_) | exact HR447.1)) | (with_reducible refine Kd.C_alloc ?_ _) | (with_reducible refine Kd.C_drewN ?_ _) | (with_reducible refine Kd.C_drew ?_)))
                  (case aB => exact (bq HB))
                  (case aF => exact (fun k_ hk => ⟨(.inr (Nat.le_trans (by first | exact HK.1.1 | exact (show Kept w _ (fun k_ => P0_ k_) from by repeat (first | (with_reducible first | exact HK.1 | apply Kept.alloc | apply Kept.drewN | apply Kept.drew | refine Kept.setCell ?_ (.inr GW414.1) _) | exact HK.1)).1) hk)), Kd.fresh' (Kd.R_lt (rq HO_0)) k_ hk, Kd.fresh' (Kd.R_lt (rq HO453)) k_ hk, Kd.freshB (g := gb414) (o := .cells #[.int .i64 a1_0, .int .i64 a1_1] 25 (0, 0)) (bk BK414) k_ hk⟩))
                  (case aO => exact (by (with_reducible repeat (first | apply Kd.R_alloc | apply Kd.R_drewN | apply Kd.R_drew)); exact Kd.R_mono HO443.1 (fun _ hk => ⟨hk.1.1.1.1, ⟨hk.1.1.2, ⟨hk.1.2, hk.2⟩⟩⟩)))
                  (case aS => exact (below_size (bq HB)))
                  (case aL => have := LMc41.1; omega)
                  intro v449 w55 ho hb hg hat
                  rw [← Ny448.1] at ho
                  have HO450 := Aside0.mk ho
                  replace BK414 := Aside0.mk (blk_grown (g := gb414) (o := .cells #[.int .i64 a1_0, .int .i64 a1_1] 25 (0, 0)) (bk BK414) hg (Kd.R_away HO443.1 (fun _ hk => hk.2)))
                  replace HO453 := Aside0.mk (Kd.R_after (ok := (fun k_ => (P0_ k_ ∨ w.heap.size ≤ k_) ∧ some k_ ≠ (.slice Ao47 l0.length co47 : Value).ownBlock ∧ k_ ≠ gb414)) (by (with_reducible repeat (first | apply Kd.R_alloc | apply Kd.R_drewN | apply Kd.R_drew)); exact Kd.R_mono HO453.1 (fun _ hk => ⟨⟨hk.1.1.1.1, ⟨hk.1.1.2, hk.1.2⟩⟩, hk.2⟩)) hg hat)
                  replace HB := Aside0.mk hb
                  replace HK := Aside0.mk (Kept.of_grown (S := (fun k_ => P0_ k_)) hg (by repeat (first | (with_reducible first | exact HK.1 | apply Kept.alloc | apply Kept.drewN | apply Kept.drew | refine Kept.setCell ?_ (.inr GW414.1) _) | exact HK.1)) (fun k_ e_ => (HO443.1.1 k_ e_).1.1.1.1))
                  replace HR447 := Aside0.mk ((show Kd.C k25 w55 Ao47 y444.length y444 from by rw [Ny444.1]; exact Kd.C_take (m := (x5_1 : Int).toNat) ((Kd.R_reads' (Kd.R_after (ok := (fun k_ => (P0_ k_ ∨ w.heap.size ≤ k_) ∧ some k_ ≠ (v452 : Value).ownBlock ∧ k_ ≠ gb414)) (by (with_reducible repeat (first | apply Kd.R_alloc | apply Kd.R_drewN | apply Kd.R_drew)); exact Kd.R_mono HO_0.1 (fun _ hk => ⟨⟨hk.1.1.1, ⟨hk.1.2, hk.1.1.2⟩⟩, hk.2⟩)) hg hat)).2.2) KL50.1))
                  replace HO_0 := Aside0.mk (Kd.R_after (ok := (fun k_ => (P0_ k_ ∨ w.heap.size ≤ k_) ∧ some k_ ≠ (v452 : Value).ownBlock ∧ k_ ≠ gb414)) (by (with_reducible repeat (first | apply Kd.R_alloc | apply Kd.R_drewN | apply Kd.R_drew)); exact Kd.R_mono HO_0.1 (fun _ hk => ⟨⟨hk.1.1.1, ⟨hk.1.2, hk.1.1.2⟩⟩, hk.2⟩)) hg hat)
                  clear HO443
                  clear ho hb hg hat
                  refine hK.out _ _ ⟨(blk_cell BK414.1 0).trans rfl, (blk_cell BK414.1 1).trans rfl⟩ (fun hHeld => ?_)
                  clear hK K
                  refine norm_ (aq 39) ?_
                  exact norm_ (by simp only [putAll, Act.put, List.setIfInBounds_toArray, List.set_cons_zero, List.set_cons_succ]) (hCont (v442, v449, v452) _ ⟨hHeld, (by (with_reducible repeat (first | apply Kd.R_alloc | apply Kd.R_drewN | apply Kd.R_drew)); exact Kd.R_mono HO450.1 (fun _ hk => ⟨hk.1, ⟨hk.2.2.1, ⟨hk.2.1, hk.2.2.2⟩⟩⟩)), (by (with_reducible repeat (first | apply Kd.R_alloc | apply Kd.R_drewN | apply Kd.R_drew)); exact Kd.R_mono HO453.1 (fun _ hk => ⟨hk.1.1, ⟨hk.2, ⟨hk.1.2.1, hk.1.2.2⟩⟩⟩)), (by (with_reducible repeat (first | apply Kd.R_alloc | apply Kd.R_drewN | apply Kd.R_drew)); exact Kd.R_mono HO_0.1 (fun _ hk => ⟨hk.1.1, ⟨hk.2, ⟨hk.1.2.1, hk.1.2.2⟩⟩⟩)), (bk BK414), (by repeat (first | (with_reducible first | exact HK.1 | apply Kept.alloc | apply Kept.drewN | apply Kept.drew | refine Kept.setCell ?_ (.inr GW414.1) _) | exact HK.1)), (bq HB)⟩)
                rintro ⟨v442, v449, v452⟩ w56 ⟨hS_, h0_, h1_, h2_, h3_, h4_, h5_⟩
                have n0_ : Aside0 (Kd.R k25 25 w56 w0.heap.size (fun k_ => (P0_ k_ ∨ w.heap.size ≤ k_) ∧ some k_ ≠ (v452 : Value).ownBlock ∧ some k_ ≠ (.slice Ao47 l0.length co47 : Value).ownBlock ∧ k_ ≠ gb414) v449 y448) := ⟨h0_⟩
                have n1_ : Aside0 (Kd.R k25 25 w56 w0.heap.size (fun k_ => (P0_ k_ ∨ w.heap.size ≤ k_) ∧ some k_ ≠ (v449 : Value).ownBlock ∧ some k_ ≠ (.slice Ao47 l0.length co47 : Value).ownBlock ∧ k_ ≠ gb414) v452 y451) := ⟨h1_⟩
                have n2_ : Aside0 (Kd.R k25 25 w56 w0.heap.size (fun k_ => (P0_ k_ ∨ w.heap.size ≤ k_) ∧ some k_ ≠ (v449 : Value).ownBlock ∧ some k_ ≠ (v452 : Value).ownBlock ∧ k_ ≠ gb414) (.slice Ao47 l0.length co47) l0) := ⟨h2_⟩
                have n3_ : Aside0 (w56.heap[gb414]? = some (.cells #[.int .i64 a1_0, .int .i64 a1_1] 25 (0, 0))) := ⟨h3_⟩
                have n4_ : Aside0 (Kept w w56 (fun k_ => P0_ k_)) := ⟨h4_⟩
                have n5_ : Aside0 (Below w0.heap.size w0 w56) := ⟨h5_⟩
                clear HO_0
                clear BK414
                clear HK
                clear HB
                clear h0_ h1_ h2_ h3_ h4_ h5_
                have HO450 := n0_
                have HO453 := n1_
                have HO_0 := n2_
                have BK414 := n3_
                have HK := n4_
                have HB := n5_
                clear n0_ n1_ n2_ n3_ n4_ n5_
                have hHeld : w56.cell? ⟨gb414, 0, none⟩ = some (.int .i64 a1_0) ∧ w56.cell? ⟨gb414, 1, none⟩ = some (.int .i64 a1_1) := hS_
                obtain ⟨Ao58, co58, eo58⟩ := Kd.R_slice HO453.1
                (first | subst eo58 | (injection eo58 with f1_ f2_ f3_; have f4_ := f1_.symm; have f5_ := f3_.symm; clear f1_ f2_ f3_; subst f4_; subst f5_))
                refine norm_ (a' := ?_) ?_ ?_
                rotate_left
                · simp only [putAll, Act.put, List.setIfInBounds_toArray, List.set_cons_zero, List.set_cons_succ]
                  rfl
                refine one_ (i := 7) (N := some 42) (bs 9 255) rfl rfl (one_of HT_.1 (by kernel_rfl)) (by decide) (fun K hK => ?_)
                refine Kd.R_append_rows_step k25 (w0 := w0) w0.heap.size (by rfl) (.tmp 39) (.tmp 41) 30 25 (.agg #[(.int .i64 0), (.int .i64 0)]) 16 rfl Try.underlying30 info25 rfl (by decide) (by omega) v449 y448 y451 _ _ _ (fun k_ => (P0_ k_ ∨ w.heap.size ≤ k_) ∧ some k_ ≠ (.slice Ao47 l0.length co47 : Value).ownBlock ∧ some k_ ≠ (.slice Ao58 y451.length co58 : Value).ownBlock ∧ k_ ≠ gb414) (fun _ => False) rfl rfl ?aO ?aR (fun _ _ h => h) (fun _ h => h.elim) ?aF ?aB ?aS ?aL ?_
                (case aR => repeat (first | exact (Kd.R_reads' HO453.1).2.2 | (with_reducible refine Kd.C_alloc ?_ _) | (with_reducible refine Kd.C_drewN ?_ _) | (with_reducible refine Kd.C_drew ?_)))
                (case aB => exact (bq HB))
                (case aF => exact (fun k_ hk => ⟨(.inr (Nat.le_trans (by first | exact HK.1.1 | exact (show Kept w _ (fun k_ => P0_ k_) from by repeat (first | (with_reducible first | exact HK.1 | apply Kept.alloc | apply Kept.drewN | apply Kept.drew | refine Kept.setCell ?_ (.inr GW414.1) _) | exact HK.1)).1) hk)), Kd.fresh' (Kd.R_lt (rq HO_0)) k_ hk, Kd.fresh' (Kd.R_lt (rq HO453)) k_ hk, Kd.freshB (g := gb414) (o := .cells #[.int .i64 a1_0, .int .i64 a1_1] 25 (0, 0)) (bk BK414) k_ hk⟩))
                (case aO => exact (by (with_reducible repeat (first | apply Kd.R_alloc | apply Kd.R_drewN | apply Kd.R_drew)); exact Kd.R_mono HO450.1 (fun _ hk => ⟨hk.1, ⟨hk.2.2.1, ⟨hk.2.1, hk.2.2.2⟩⟩⟩)))
                (case aS => exact (below_size (bq HB)))
                (case aL => have := LMc42.1; omega)
                intro v455 w57 ho hb hg hat
                rw [← Ny454.1] at ho
                have HO456 := Aside0.mk ho
                replace HO_0 := Aside0.mk (Kd.R_after (ok := (fun k_ => (P0_ k_ ∨ w.heap.size ≤ k_) ∧ some k_ ≠ (.slice Ao58 y451.length co58 : Value).ownBlock ∧ k_ ≠ gb414)) (by (with_reducible repeat (first | apply Kd.R_alloc | apply Kd.R_drewN | apply Kd.R_drew)); exact Kd.R_mono HO_0.1 (fun _ hk => ⟨⟨hk.1, ⟨hk.2.2.1, hk.2.2.2⟩⟩, hk.2.1⟩)) hg hat)
                replace BK414 := Aside0.mk (blk_grown (g := gb414) (o := .cells #[.int .i64 a1_0, .int .i64 a1_1] 25 (0, 0)) (bk BK414) hg (Kd.R_away HO450.1 (fun _ hk => hk.2.2.2)))
                replace HO453 := Aside0.mk (Kd.R_after (ok := (fun k_ => (P0_ k_ ∨ w.heap.size ≤ k_) ∧ some k_ ≠ (.slice Ao47 l0.length co47 : Value).ownBlock ∧ k_ ≠ gb414)) (by (with_reducible repeat (first | apply Kd.R_alloc | apply Kd.R_drewN | apply Kd.R_drew)); exact Kd.R_mono HO453.1 (fun _ hk => ⟨⟨hk.1, ⟨hk.2.2.1, hk.2.2.2⟩⟩, hk.2.1⟩)) hg hat)
                replace HB := Aside0.mk hb
                replace HK := Aside0.mk (Kept.of_grown (S := (fun k_ => P0_ k_)) hg (by repeat (first | (with_reducible first | exact HK.1 | apply Kept.alloc | apply Kept.drewN | apply Kept.drew | refine Kept.setCell ?_ (.inr GW414.1) _) | exact HK.1)) (fun k_ e_ => (HO450.1.1 k_ e_).1))
                clear HO450
                clear ho hb hg hat
                refine hK.out _ _ ⟨(blk_cell BK414.1 0).trans rfl, (blk_cell BK414.1 1).trans rfl⟩ (fun hHeld => ?_)
                clear hK K
                refine norm_ (aq 42) ?_
                refine pu 8 6 HT_ rfl rfl (bs 9 511) ?_
                refine done_ (done_of HT_.1 (by kernel_rfl)) ?_
                have q59 : (x5_1 : Int) ≤ ((l0.length : Int) : Int) := of_decide_eq_true (by first | (with_reducible assumption) | assumption)
                obtain ⟨i059, hi059, _, hsz59, _⟩ := info_parts info25
                have hroom59 : l0.length ≤ co47 := (Kd.R_reads' HO_0.1).2.1
                have hC59 : Kd.C k25 _ Ao47 l0.length l0 := (Kd.R_reads' HO_0.1).2.2
                have q059 : (0 : Int) ≤ (x5_1 : Int) := of_decide_eq_true (by first | (with_reducible assumption) | assumption)
                have hcut59 := cut_from (P := Try.prog) 30 25 .i64 Try.underlying30 hi059 2 hsz59 Ao47 l0.length co47 x5_1 q059 q59
                have hr59 := Kd.C_drop (m := (x5_1 : Int).toNat) (c := co47) hC59 (by omega) hroom59
                obtain ⟨A59, hA59⟩ : ∃ A1, A1 = (if co47 = (x5_1 : Int).toNat then Ao47 else (Ao47 : Option Addr).map (·.add ((x5_1 : Int).toNat * 2))) := ⟨_, rfl⟩
                obtain ⟨c59, hc59⟩ : ∃ c1, c1 = co47 - (x5_1 : Int).toNat := ⟨_, rfl⟩
                have hy59 : y457.length = l0.length - (x5_1 : Int).toNat := (by rw [Ny457.1, List.length_drop] <;> omega)
                rw [show (l0).drop (x5_1 : Int).toNat = y457 from Ny457.1.symm] at hr59
                replace hr59 : Kd.C k25 _ A59 y457.length y457 := (by rw [hA59]; exact hr59)
                rw [← hy59, ← hA59, ← hc59] at hcut59
                have HR460 := Aside0.mk hr59
                have HC460 := Aside0.mk (show y457.length ≤ c59 from by rw [hy59, hc59]; exact Nat.sub_le_sub_right hroom59 _)
                clear hr59 hC59 hroom59 hi059 hsz59 hc59
                have KY59 := Aside0.mk hy59
                have KA59 := Aside0.mk hA59
                clear hy59 hA59
                have KL59 := Aside0.mk (show (x5_1 : Int).toNat ≤ l0.length from by omega)
                replace q59 := eq_true q59
                try go_wp2_with (first | ((with_reducible refine gate_builtin (b := .append) (xs := #[.tmp 43, .tmp 46]) rfl ?_); at_builtin; refine Kd.R_append_rows k25 (w0 := w0) w0.heap.size rfl (.tmp 43) (.tmp 46) 30 25 (.agg #[(.int .i64 0), (.int .i64 0)]) 16 rfl Try.underlying30 info25 rfl (by decide) (by omega) v455 y454 y457 _ _ _ (fun k_ => (P0_ k_ ∨ w.heap.size ≤ k_) ∧ some k_ ≠ (.slice Ao47 l0.length co47 : Value).ownBlock ∧ some k_ ≠ (.slice Ao58 y451.length co58 : Value).ownBlock ∧ k_ ≠ gb414) (fun _ => False) rfl rfl ?aO ?aR (fun _ _ h => h) (fun _ h => h.elim) ?aF ?aB ?aS ?aL ?_; (case aR => repeat (first | exact (by repeat (first | (with_reducible exact HR460.1) | (with_reducible refine Kd.C_alloc ?_ _) | (with_reducible refine Kd.C_drewN ?_ _) | (with_reducible refine Kd.C_drew ?_) | exact HR460.1)) | (with_reducible refine Kd.C_alloc ?_ _) | (with_reducible refine Kd.C_drewN ?_ _) | (with_reducible refine Kd.C_drew ?_))); (case aB => exact (bq HB)); (case aF => exact (fun k_ hk => ⟨(.inr (Nat.le_trans (by first | exact HK.1.1 | exact (show Kept w _ (fun k_ => P0_ k_) from by repeat (first | (with_reducible first | exact HK.1 | apply Kept.alloc | apply Kept.drewN | apply Kept.drew | refine Kept.setCell ?_ (.inr GW414.1) _) | exact HK.1)).1) hk)), Kd.fresh' (Kd.R_lt (rq HO_0)) k_ hk, Kd.fresh' (Kd.R_lt (rq HO453)) k_ hk, Kd.freshB (g := gb414) (o := .cells #[.int .i64 a1_0, .int .i64 a1_1] 25 (0, 0)) (bk BK414) k_ hk⟩)); (case aO => exact (rq HO456)); (case aS => exact (below_size (bq HB))); (case aL => have := LMc45.1; omega); intro v462 w60 ho hb hg hat; rw [← Ny461.1] at ho; have HO463 := Aside0.mk ho; replace BK414 := Aside0.mk (blk_grown (g := gb414) (o := .cells #[.int .i64 a1_0, .int .i64 a1_1] 25 (0, 0)) (bk BK414) hg (Kd.R_away HO456.1 (fun _ hk => hk.2.2.2))); replace HO453 := Aside0.mk (Kd.R_after (ok := (fun k_ => (P0_ k_ ∨ w.heap.size ≤ k_) ∧ some k_ ≠ (.slice Ao47 l0.length co47 : Value).ownBlock ∧ k_ ≠ gb414)) (rq HO453) hg hat); replace HB := Aside0.mk hb; replace HK := Aside0.mk (Kept.of_grown (S := (fun k_ => P0_ k_)) hg (by repeat (first | (with_reducible first | exact HK.1 | apply Kept.alloc | apply Kept.drewN | apply Kept.drew | refine Kept.setCell ?_ (.inr GW414.1) _) | exact HK.1)) (fun k_ e_ => (HO456.1.1 k_ e_).1)); replace HR460 := Aside0.mk ((show Kd.C k25 w60 A59 y457.length y457 from by rw [Ny457.1, KA59.1]; exact Kd.C_drop (m := (x5_1 : Int).toNat) (c := co47) ((Kd.R_reads' (Kd.R_after (ok := (fun k_ => (P0_ k_ ∨ w.heap.size ≤ k_) ∧ some k_ ≠ (.slice Ao58 y451.length co58 : Value).ownBlock ∧ k_ ≠ gb414)) (rq HO_0) hg hat)).2.2) KL59.1 ((Kd.R_reads' (Kd.R_after (ok := (fun k_ => (P0_ k_ ∨ w.heap.size ≤ k_) ∧ some k_ ≠ (.slice Ao58 y451.length co58 : Value).ownBlock ∧ k_ ≠ gb414)) (rq HO_0) hg hat)).2.1))); replace HO_0 := Aside0.mk (Kd.R_after (ok := (fun k_ => (P0_ k_ ∨ w.heap.size ≤ k_) ∧ some k_ ≠ (.slice Ao58 y451.length co58 : Value).ownBlock ∧ k_ ≠ gb414)) (rq HO_0) hg hat); clear HO456; clear ho hb hg hat))
                go_ret
                exact ⟨_, er, by (with_reducible repeat (first | apply Kd.R_alloc | apply Kd.R_drewN | apply Kd.R_drew)); exact Kd.R_mono HO463.1 (fun _ hk => hk.1), bq HB, by repeat (first | (with_reducible first | exact HK.1 | apply Kept.alloc | apply Kept.drewN | apply Kept.drew | refine Kept.setCell ?_ (.inr GW414.1) _) | exact HK.1)⟩
              rw [if_neg c45] at H
              exact absurd H (by simp)
            rw [if_neg c42] at H
            exact absurd H (by simp)
          rw [if_neg c41] at H
          exact absurd H (by simp)
        rw [if_neg c40] at H
        exact absurd H (by simp)
      rw [if_neg c39] at H
      exact absurd H (by simp)

end Go.Proofs.Ytoneipoioiokcaa.PFnHandsMeet
