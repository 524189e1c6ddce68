/- A part of the walk of FnClocksAgree: which Lean function each Go function comes to, and that the machine's call does so. Written by a program of this repo (wip/gen/xprint.py). -/
import Derived.Test.YtejlandhfnnkiaaGreatDoorPFnClocksAgreex0
import Derived.Test.YtejlandhfnnkiaaGreatDoorPFnClocksAgreex4
import Derived.Test.YtejlandhfnnkiaaGreatDoorPFnClocksAgreex11
import Derived.Test.YtejlandhfnnkiaaGreatDoorPFnClocksAgreex25
namespace Go.Proofs.YtejlandhfnnkiaaGreatDoor.PFnClocksAgree
open Go.RowKit Go.Proofs.YtejlandhfnnkiaaGreatDoorW.PrintWords Go.Proofs.YtejlandhfnnkiaaGreatDoorW.PrintLast Go.Proofs.YtejlandhfnnkiaaGreatDoorW.PrintMore
attribute [local go_sem] max2_int min2_int max_two min_two max_three min_three max_four min_four   -- for this text's walks alone
set_option linter.unusedVariables false
set_option linter.unusedSimpArgs false

/-! ### spec_SpanText: function 27 -/
def spec_SpanText.f (k : Nat) (a0_0 : Int) (a0_1 : Int) : Option (ByteArray × Bool) := (spec_drGood.f k a0_0 a0_1).bind fun t515 => (if t515 = true then ((spec_l1Num.f k a0_0).bind fun t516 => (if t516.size + 1 ≤ 9223372036854775807 then ((spec_l1Num.f k a0_1).bind fun t517 => (if (t516 ++ (⟨#[47]⟩ : ByteArray)).size + t517.size ≤ 9223372036854775807 then (some ((t516 ++ (⟨#[47]⟩ : ByteArray)) ++ t517, true)) else (none))) else (none))) else (some ((⟨#[]⟩ : ByteArray), false)))
theorem spec_SpanText.mono : ∀ a0 a1 k, LeO (spec_SpanText.f k a0 a1) (spec_SpanText.f (k + 1) a0 a1) := by
  intro a0 a1 k
  unfold spec_SpanText.f
  repeat' first
      | (with_reducible exact spec_drGood.mono _ _ _)
      | (with_reducible exact spec_l1Num.mono _ _)
      | (with_reducible exact LeO.refl _)
      | (with_reducible exact LeO.none _)
      | (with_reducible refine LeO.ite ?_ ?_)
      | (with_reducible refine LeO.bind ?_ (fun _ => ?_))
      | exact spec_drGood.mono _ _ _
      | exact spec_l1Num.mono _ _
      | exact LeO.none _
      | refine LeO.ite ?_ ?_
      | refine LeO.bind ?_ (fun _ => ?_)
def spec_SpanText.T3 : Bool × List (List Nat × List Nat) := (true, [([], []), ([0], [0]), ([1], [1]), ([2], [2]), ([], []), ([4], [4]), ([5, 2], [5]), ([3, 6], [3, 6]), ([7, 6, 0, 1, 2, 3, 4, 5, 6, 7], [7]), ([8, 0, 1, 2, 3, 4, 5, 6, 7, 8], [])])
def spec_SpanText.B3 : List Nat := [0, 1, 3, 7, 0, 16, 55, 127, 255, 511]
theorem spec_SpanText.tab3 : rtab .any (opsOf Tryz.f27 3) = spec_SpanText.T3 := by kernel_rfl
theorem spec_SpanText.bits3 : waitsOk spec_SpanText.T3.2 spec_SpanText.B3 = true := by kernel_rfl
set_option maxHeartbeats 8000000 in
set_option maxRecDepth 100000 in
theorem spec_SpanText.calls (k : Nat) (a0_0 : Int) (a0_1 : Int) (r1 : ByteArray) (r2 : Bool) (w : World) (h : spec_SpanText.f k a0_0 a0_1 = some (r1, r2)) :
    Calls Tryz.prog 27 #[.agg #[.int .i64 a0_0, .int .i64 a0_1]] w fun e w' => e = .returned (.tuple #[.string r1, .bool r2]) ∧ Below w.heap.size w w' := by
  have hu30 := Tryz.underlying30
  have HB := Aside0.mk (Below.refl w.heap.size w)
  have H : ((spec_drGood.f k a0_0 a0_1).bind fun t515 => (if t515 = true then ((spec_l1Num.f k a0_0).bind fun t516 => (if t516.size + 1 ≤ 9223372036854775807 then ((spec_l1Num.f k a0_1).bind fun t517 => (if (t516 ++ (⟨#[47]⟩ : ByteArray)).size + t517.size ≤ 9223372036854775807 then (some ((t516 ++ (⟨#[47]⟩ : ByteArray)) ++ t517, true)) else (none))) else (none))) else (some ((⟨#[]⟩ : ByteArray), false)))) = some (r1, r2) := h
  clear h
  replace H := Option.bind_eq_some_iff.mp H
  obtain ⟨t515, A20, H⟩ := H
  (try dsimp only at H)
  have A2 := Aside0.mk A20
  clear A20
  by_cases c3 : t515 = true
  · subst c3
    rw [if_pos rfl] at H
    replace H := Option.bind_eq_some_iff.mp H
    obtain ⟨t516, A40, H⟩ := H
    (try dsimp only at H)
    have A4 := Aside0.mk A40
    clear A40
    by_cases c5 : t516.size + 1 ≤ 9223372036854775807
    · rw [if_pos c5] at H
      have c5b0 := eq_true c5
      have c5b1 : decide (t516.size + 1 ≤ 9223372036854775807) = true := decide_eq_true c5
      try have c5b2 : (9223372036854775807 < t516.size + 1) = False := eq_false (Nat.not_lt.2 c5)
      replace H := Option.bind_eq_some_iff.mp H
      obtain ⟨t517, A60, H⟩ := H
      (try dsimp only at H)
      have A6 := Aside0.mk A60
      clear A60
      by_cases c7 : (t516 ++ (⟨#[47]⟩ : ByteArray)).size + t517.size ≤ 9223372036854775807
      · rw [if_pos c7] at H
        have c7b0 := eq_true c7
        have c7b1 : decide ((t516 ++ (⟨#[47]⟩ : ByteArray)).size + t517.size ≤ 9223372036854775807) = true := decide_eq_true c7
        try have c7b2 : (9223372036854775807 < (t516 ++ (⟨#[47]⟩ : ByteArray)).size + t517.size) = False := eq_false (Nat.not_lt.2 c7)
        try have c7b3 : (9223372036854775807 < t516.size + 1 + t517.size) = False := eq_false (Nat.not_lt.2 (by have z := c7; rw [ByteArray.size_append] at z; exact z))
        simp only [Option.some.injEq, Prod.mk.injEq] at H
        obtain ⟨rfl, rfl⟩ := H
        go_enter Tryz.func27, Tryz.ntmps27
        try go_wp2_with (first | ((with_reducible refine gate_dst (N := 1) rfl ?_); refine be #[.int .i64 a0_0, .int .i64 a0_1] 30 ?_; intro gb514 hg w8 hbox hb; have BK514 := Aside0.mk hbox; have GW514 := zs HB hg; have GE514 := zs HB hg; replace HB := zB HB hb; clear hb hbox hg; obtain ⟨hcz9_0, hcz9_1, hfz9_0, hfz9_1⟩ := zc2 BK514) | ((with_reducible refine gate_callee (f := 53) rfl ?_); refine gl (some 5) Tryz.func53 #[.agg #[.int .i64 a0_0, .int .i64 a0_1]] ?_; (with_reducible refine (spec_drGood.calls k a0_0 a0_1 true _ A2.1).mono ?_); rintro e w10 ⟨rfl, hb⟩; refine ⟨_, rfl, ?_⟩; replace BK514 := zb BK514 hb; replace HB := zB HB hb; clear hb))
        replace BK514 := Aside0.mk (blk_drew BK514.1)
        replace HB := Aside0.mk (below_drew1 HB.1)
        refine start_ (n := 10) (S := fun w' => w'.cell? ⟨gb514, 0, none⟩ = some (.int .i64 a0_0) ∧ w'.cell? ⟨gb514, 1, none⟩ = some (.int .i64 a0_1)) (ds := []) (bs 10 0) (by kernel_rfl) rfl rfl ⟨(blk_cell BK514.1 0).trans rfl, (blk_cell BK514.1 1).trans rfl⟩ (fun hHeld => ?_); refine with_tabW spec_SpanText.tab3 spec_SpanText.bits3 (fun HT_ HW_ => ?_)
        generalize w10.drew = w11 at BK514 HB hHeld ⊢
        refine pu 0 7 HT_ rfl rfl (bs 10 1) ?_
        refine pu 4 11 HT_ rfl rfl (bs 10 17) ?_
        refine tk 1 8 HT_ HW_ hHeld rfl rfl (bs 10 19) ?_
        refine tk 5 12 HT_ HW_ hHeld rfl rfl (bs 10 51) ?_
        refine one_ (i := 2) (N := some 9) (bs 10 55) rfl rfl (one_of HT_.1 (by kernel_rfl)) (by decide) (fun K hK => ?_)
        refine gs Tryz.func66 #[.int .i64 a0_0] ?_
        with_reducible refine (spec_l1Num.calls k a0_0 t516 _ A4.1).mono ?_
        rintro e w12 ⟨rfl, hb⟩
        refine ⟨_, rfl, ?_⟩
        replace BK514 := zb BK514 hb
        replace HB := zB HB hb
        (try clear hb)
        (try clear hb2)
        (try clear hk)
        (try clear hi)
        refine hK.out _ _ ⟨(blk_cell BK514.1 0).trans rfl, (blk_cell BK514.1 1).trans rfl⟩ (fun hHeld => ?_)
        clear hK K
        refine norm_ (aq 9) ?_
        refine pu 3 10 HT_ rfl rfl (bs 10 63) ?_
        refine one_ (i := 6) (N := some 13) (bs 10 127) rfl rfl (one_of HT_.1 (by kernel_rfl)) (by decide) (fun K hK => ?_)
        refine gs Tryz.func66 #[.int .i64 a0_1] ?_
        with_reducible refine (spec_l1Num.calls k a0_1 t517 _ A6.1).mono ?_
        rintro e w13 ⟨rfl, hb⟩
        refine ⟨_, rfl, ?_⟩
        replace BK514 := zb BK514 hb
        replace HB := zB HB hb
        (try clear hb)
        (try clear hb2)
        (try clear hk)
        (try clear hi)
        refine hK.out _ _ ⟨(blk_cell BK514.1 0).trans rfl, (blk_cell BK514.1 1).trans rfl⟩ (fun hHeld => ?_)
        clear hK K
        refine norm_ (aq 13) ?_
        refine pu 7 14 HT_ rfl rfl (bs 10 255) ?_
        refine pu 8 2 HT_ rfl rfl (bs 10 511) ?_
        refine pu 9 3 HT_ rfl rfl (bs 10 1023) ?_
        refine done_ (done_of HT_.1 (by kernel_rfl)) ?_
        try go_wp2
        go_ret2
        exact ⟨er, bq HB⟩
      rw [if_neg c7] at H
      exact absurd H (by simp)
    rw [if_neg c5] at H
    exact absurd H (by simp)
  replace c3 := Bool.eq_false_iff.mpr c3
  subst c3
  rw [if_neg (show ¬ (false = true) by decide)] at H
  simp only [Option.some.injEq, Prod.mk.injEq] at H
  obtain ⟨rfl, rfl⟩ := H
  go_enter Tryz.func27, Tryz.ntmps27
  go_wp2_with (first | ((with_reducible refine gate_dst (N := 1) rfl ?_); refine be #[.int .i64 a0_0, .int .i64 a0_1] 30 ?_; intro gb514 hg w14 hbox hb; have BK514 := Aside0.mk hbox; have GW514 := zs HB hg; have GE514 := zs HB hg; replace HB := zB HB hb; clear hb hbox hg; obtain ⟨hcz15_0, hcz15_1, hfz15_0, hfz15_1⟩ := zc2 BK514) | ((with_reducible refine gate_callee (f := 53) rfl ?_); refine gl (some 5) Tryz.func53 #[.agg #[.int .i64 a0_0, .int .i64 a0_1]] ?_; (with_reducible refine (spec_drGood.calls k a0_0 a0_1 false _ A2.1).mono ?_); rintro e w16 ⟨rfl, hb⟩; refine ⟨_, rfl, ?_⟩; replace BK514 := zb BK514 hb; replace HB := zB HB hb; clear hb))
  go_ret2
  exact ⟨er, bq HB⟩

/-! ### spec_l1Cur_of: function 67 -/
def spec_l1Cur_of.f (s0_0 : List Int) (s0_1 : Int) (s0_2 : Int) (l1 : List ByteArray) : Option (ByteArray × Int × Int) := (spec_l1Cur_pick.f s0_0 s0_1 s0_2 (l1.length : Int)).bind fun bt518 => (if 0 ≤ bt518.1 then (if bt518.1 < (l1.length : Int) then (some (rdOf ByteArray.empty l1 bt518.1, bt518.2.1, bt518.2.2)) else (none)) else (none))
set_option maxHeartbeats 8000000 in
set_option maxRecDepth 100000 in
theorem spec_l1Cur_of.calls (g : Nat) (s0_0 : List Int) (s0_1 : Int) (s0_2 : Int) (A1 : Option Addr) (c1 : Nat) (l1 : List ByteArray) (r1 : ByteArray) (r2 : Int) (r3 : Int) (w0 w : World) (hI : IsS66 w0 w g s0_0 s0_1 s0_2) (hB : Below w0.heap.size w0 w) (hr1 : Kd.C Kd.string w A1 l1.length l1) (hc1 : l1.length ≤ c1) (hf1 : ∀ ad, A1 = some ad → 0 < l1.length → ad.block ≠ g) (h : spec_l1Cur_of.f s0_0 s0_1 s0_2 l1 = some (r1, r2, r3)) :
    Calls Tryz.prog 67 #[.pointer (some ⟨g, 0, none⟩), .slice A1 l1.length c1] w fun e w' => e = .returned (.string r1) ∧ IsS66 w0 w' g s0_0 r2 r3 ∧ Below w0.heap.size w0 w' ∧ KeepBut w w' g none := by
  have HR1 := Aside0.mk hr1
  have HC1 := Aside0.mk hc1
  clear hr1 hc1
  have HI0 := Aside0.mk hI
  have HK := Aside0.mk (KeepBut.refl w g none)
  have HL := Aside0.mk hB.size
  clear hI
  have HW0 := Aside0.mk hB.size
  have HB := Aside0.mk hB
  clear hB
  have H : ((spec_l1Cur_pick.f s0_0 s0_1 s0_2 (l1.length : Int)).bind fun bt518 => (if 0 ≤ bt518.1 then (if bt518.1 < (l1.length : Int) then (some (rdOf ByteArray.empty l1 bt518.1, bt518.2.1, bt518.2.2)) else (none)) else (none))) = some (r1, r2, r3) := h
  clear h
  replace H := Option.bind_eq_some_iff.mp H
  obtain ⟨⟨t518, t519, t520⟩, A30, H⟩ := H
  (try dsimp only at H)
  have A3 := Aside0.mk A30
  clear A30
  by_cases c4 : 0 ≤ t518
  · rw [if_pos c4] at H
    have c4b0 : decide (0 ≤ t518) = true := decide_eq_true c4
    clear c4
    by_cases c5 : t518 < (l1.length : Int)
    · rw [if_pos c5] at H
      have c5b0 : decide (t518 < (l1.length : Int)) = true := decide_eq_true c5
      clear c5
      simp only [Option.some.injEq, Prod.mk.injEq] at H
      obtain ⟨rfl, rfl, rfl⟩ := H
      go_enter Tryz.func67, Tryz.ntmps67
      go_wp2_with (first | ((with_reducible refine gate_callee (f := 62) rfl ?_); refine gl (some 9) Tryz.func62 #[.pointer (some ⟨g, 0, none⟩), .int .i64 (l1.length : Int)] ?_; (with_reducible refine (spec_l1Cur_pick.calls g s0_0 s0_1 s0_2 (l1.length : Int) t518 t519 t520 w0 _ ?side1 ?side2 A3.1).mono ?_); (case side1 => exact iq66 HI0); (case side2 => exact bq66 HB); rintro e w6 ⟨rfl, hi, hb, hk⟩; refine ⟨_, rfl, ?_⟩; replace HK := kT HK hk; replace HB := Aside0.mk hb; replace HI0 := Aside0.mk hi; clear hi hb hk; have p521 : 0 ≤ (t518 : Int) := of_decide_eq_true (by first | (with_reducible assumption) | assumption); have q521 : t518 < (l1.length : Int) := of_decide_eq_true (by first | (with_reducible assumption) | assumption); obtain ⟨ad521, e521, hx521_0⟩ := Kd.at_string HR1.1 t518 p521 q521; cases e521; replace hx521_0 := keep_cell HK.1 hx521_0 (by first | (rw [add_block]; exact hf1 _ rfl (by omega)) | exact hf1 _ rfl (by omega) | exact hf1 ad521 rfl (by omega)); replace p521 := eq_true p521; replace q521 := eq_true q521))
      go_ret
      exact ⟨er, iq66 HI0, bq66 HB, kq HK⟩
    rw [if_neg c5] at H
    exact absurd H (by simp)
  rw [if_neg c4] at H
  exact absurd H (by simp)

/-! ### spec_l1Cur_one: function 68 -/
def spec_l1Cur_one.f (s0_0 : List Int) (s0_1 : Int) (s0_2 : Int) (a1 : Int) : Option (Bool × Int × Int) := (spec_l1Cur_pick.f s0_0 s0_1 s0_2 a1).bind fun bt522 => (some ((bt522.1 == 0), bt522.2.1, bt522.2.2))
set_option maxHeartbeats 8000000 in
set_option maxRecDepth 100000 in
theorem spec_l1Cur_one.calls (g : Nat) (s0_0 : List Int) (s0_1 : Int) (s0_2 : Int) (a1 : Int) (r1 : Bool) (r2 : Int) (r3 : Int) (w0 w : World) (hI : IsS66 w0 w g s0_0 s0_1 s0_2) (hB : Below w0.heap.size w0 w) (h : spec_l1Cur_one.f s0_0 s0_1 s0_2 a1 = some (r1, r2, r3)) :
    Calls Tryz.prog 68 #[.pointer (some ⟨g, 0, none⟩), .int .i64 a1] w fun e w' => e = .returned (.bool r1) ∧ IsS66 w0 w' g s0_0 r2 r3 ∧ Below w0.heap.size w0 w' ∧ KeepBut w w' g none := by
  have HI0 := Aside0.mk hI
  have HK := Aside0.mk (KeepBut.refl w g none)
  have HL := Aside0.mk hB.size
  clear hI
  have HW0 := Aside0.mk hB.size
  have HB := Aside0.mk hB
  clear hB
  have H : ((spec_l1Cur_pick.f s0_0 s0_1 s0_2 a1).bind fun bt522 => (some ((bt522.1 == 0), bt522.2.1, bt522.2.2))) = some (r1, r2, r3) := h
  clear h
  replace H := Option.bind_eq_some_iff.mp H
  obtain ⟨⟨t522, t523, t524⟩, A30, H⟩ := H
  (try dsimp only at H)
  have A3 := Aside0.mk A30
  clear A30
  simp only [Option.some.injEq, Prod.mk.injEq] at H
  obtain ⟨rfl, rfl, rfl⟩ := H
  go_enter Tryz.func68, Tryz.ntmps68
  go_wp2_with (first | ((with_reducible refine gate_callee (f := 62) rfl ?_); refine gl (some 7) Tryz.func62 #[.pointer (some ⟨g, 0, none⟩), .int .i64 a1] ?_; (with_reducible refine (spec_l1Cur_pick.calls g s0_0 s0_1 s0_2 a1 t522 t523 t524 w0 _ ?side1 ?side2 A3.1).mono ?_); (case side1 => exact iq66 HI0); (case side2 => exact bq66 HB); rintro e w4 ⟨rfl, hi, hb, hk⟩; refine ⟨_, rfl, ?_⟩; replace HK := kT HK hk; replace HB := Aside0.mk hb; replace HI0 := Aside0.mk hi; clear hi hb hk))
  go_ret
  exact ⟨er, iq66 HI0, bq66 HB, kq HK⟩

end Go.Proofs.YtejlandhfnnkiaaGreatDoor.PFnClocksAgree
