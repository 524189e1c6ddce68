/- A part of the walk of FnHandsMeet: which Lean function each Go function comes to, and that the machine's call does so. Written by a program of this repo (wip/gen/xprint.py). -/
import Derived.Test.YtoneipoioiokcaaPFnHandsMeetx22
import Derived.Test.YtoneipoioiokcaaPFnHandsMeetx23
namespace Go.Proofs.Ytoneipoioiokcaa.PFnHandsMeet
open Go.RowKit Go.Proofs.YtoneipoioiokcaaW.PrintWords Go.Proofs.YtoneipoioiokcaaW.PrintLast Go.Proofs.YtoneipoioiokcaaW.PrintMore
attribute [local go_sem] max2_int min2_int max_two min_two max_three min_three max_four min_four   -- for this text's walks alone
set_option linter.unusedVariables false
set_option linter.unusedSimpArgs false
attribute [local go_sem high] eqA25
set_option maxHeartbeats 8000000 in
set_option maxRecDepth 100000 in
theorem laws_FnHandsMeet.rest1 {s45 s46 s47 s48 s49 s50 s51 s52 s53 s54 s55 s56 s57 s58 s59 s60 s61 s62 s63 s64 s65 s66 s67 s68 s69 s70 s71 s72 s73 s74 s75 s76 s77 s78 s79 s80 s81 s82 s83 s84 s85 s86 s87 s88 s89 s90 s91 s92 s93 s94 s95 s96 s97 s98 s99 s100 s101 s102 s103 s104 s105 s106 s107 s108 s109 s110 s111 s112 s113 s114 s115 s116 s117 s118 s119 s120 s121 s122 s123 s124 s125 s126 s127 s128 s129 s130 s131 s132 s133 s134 s135 s136 s137 s138 s139 s140 s141 s142 s143 s144 s145 s146 s147 s148 s149 s150 s151 s152 s153 s154 s155 s156 s157 s158 s159 s160 s161 s162 s163 s164 s165 s167 s168 s169 s170 s171 s172 s173 s174 s175 s176 s177 s178 s179 s180 s181 s182 s183 s184 s185 s186 s187 s188 s189 s190 s191 s192 s193 s194 s195 s196 s197 s198 s199 s200 s201 s202 s203 s204 s205 s206 s207 s208 s209 s210 s211 s212 s213 s214 s215 s216 s217 s218 s219 s220 s221 s222 s223 s224 s225 s226 s227 s228 s229 s230 s231 s232 s233 s234 s235 s236 s237 s238 s239 s240 s241 s242 s243 s244 s245 s246 s247 s248 s249 s250 s251 s252 s253 s254 s255 s256 s257 s258 s259 s260 s261 s262 s263 s264 s265 s266 s267 s268 s269 s270 s271 s272 s273 s274 s275 s276 s277 s278 s279 s280 s281 s282 s283 s284 s285 s286 s287 s288 s289 s290 s291 s292 s293 s294 s295 s296 s297 s298 s299 s300 s301 s302 s303 s304 s305 s306 s307 s308 s309 s310 s311 s312 s313 s314 s315 s316 s317 s318 s319 s320 s321 s322 s323 s324 s325 s326 s327 s328 s329 s330 s331 s332 s333 s334 s335 s336 s337 s338 s339 s340 s341 s342 s343 s344 s345 s346 s347 s348 s349 s350 s351 s352 s353 s354 s355 s356 s357 s358 s359 s360 s361 s362 s363 s364 s365 s366 s367 s368 s369 s370 s371 s372 s373 : Value} {k : Nat} {A0 : Option Addr} {c0 : Nat} {l0 : List Int} {A1 : Option Addr} {c1 : Nat} {l1 : List Int} {w : World} {t517 t518 t519 t520 t521 t522 : Int} {t525 : List S25} {t528 : Bool} {t529 : List S25} {t532 : Bool} {t533 : Int} {t534 : Bool} {t535 : Int} {t536 : Bool} {t537 t538 : Int} {t539 : Bool} {t541 t542 : Int} {t543 : Bool} {t545 : List S25} {t548 : Bool} {t549 : List S25} {t552 : Bool} {gb523 gb524 : Nat} {v526 v530 : Value} {gb540 gb544 : Nat} {v546 v550 : Value} {wc : World} {kq : Nat} {x166_13 : Bool} (HR0 : Aside0 ((Kd.int IntKind.u8).C w A0 l0.length l0)) (HC0 : Aside0 (l0.length ≤ c0)) (HR1 : Aside0 ((Kd.int IntKind.u8).C w A1 l1.length l1)) (HC1 : Aside0 (l1.length ≤ c1)) (A3 : Aside0 (laws_big.f l0 l1 = some false)) (A5 : Aside0 (spec_DrawMeetTimes.f k l0 = some (t517, t518, t519, t520, t521, t522))) (A6 : Aside0 (impl_MeetTimes.f k t517 t518 t519 t520 t521 t522 = some (t525, t528))) (A7 : Aside0 (spec_MeetTimes.f k t517 t518 t519 t520 t521 t522 = some (t529, t532))) (A8 : Aside0 (impl_CountMeets.f t517 t518 t519 t520 t521 t522 = some (t533, t534))) (A9 : Aside0 (spec_CountMeets.f k t517 t518 t519 t520 t521 t522 = some (t535, t536))) (A10 : Aside0 (impl_FirstMeet.f k t517 t518 t519 t520 t521 t522 = some (t537, t538, t539))) (A11 : Aside0 (spec_FirstMeet.f k t517 t518 t519 t520 t521 t522 = some (t541, t542, t543))) (A12 : Aside0 (impl_MeetPlaces.f k t517 t518 t519 t520 t521 t522 = some (t545, t548))) (A13 : Aside0 (spec_MeetPlaces.f k t517 t518 t519 t520 t521 t522 = some (t549, t552))) (GW523 : Aside0 (w.heap.size ≤ gb523)) (GE523 : Aside0 (w.heap.size ≤ gb523)) (GW524 : Aside0 (w.heap.size ≤ gb524)) (GE524 : Aside0 (w.heap.size ≤ gb524)) (NB523_524 : Aside0 (gb523 ≠ gb524)) (LT523_524 : Aside0 (gb523 < gb524)) (NB524_523 : Aside0 (gb524 ≠ gb523)) (GW540 : Aside0 (w.heap.size ≤ gb540)) (GE540 : Aside0 (w.heap.size ≤ gb540)) (NB523_540 : Aside0 (gb523 ≠ gb540)) (LT523_540 : Aside0 (gb523 < gb540)) (NB540_523 : Aside0 (gb540 ≠ gb523)) (NB524_540 : Aside0 (gb524 ≠ gb540)) (LT524_540 : Aside0 (gb524 < gb540)) (NB540_524 : Aside0 (gb540 ≠ gb524)) (GW544 : Aside0 (w.heap.size ≤ gb544)) (GE544 : Aside0 (w.heap.size ≤ gb544)) (NB523_544 : Aside0 (gb523 ≠ gb544)) (LT523_544 : Aside0 (gb523 < gb544)) (NB544_523 : Aside0 (gb544 ≠ gb523)) (NB524_544 : Aside0 (gb524 ≠ gb544)) (LT524_544 : Aside0 (gb524 < gb544)) (NB544_524 : Aside0 (gb544 ≠ gb524)) (NB540_544 : Aside0 (gb540 ≠ gb544)) (LT540_544 : Aside0 (gb540 < gb544)) (NB544_540 : Aside0 (gb544 ≠ gb540)) (HA : Aside0 (j0 kq l1 t525 t528 t533 t545 t548 x166_13 t517 t518 t519 t520 t521 t522 t537 t538 = some true)) (HJ13 : Aside0 (kq ≤ k)) (HO_7 : Aside0 (k25.R 25 wc w.heap.size (fun (k_ : Nat) => some k_ ≠ v546.ownBlock ∧ k_ ≠ gb540 ∧ k_ ≠ gb544) v526 t525)) (HO_19 : Aside0 (k25.R 25 wc w.heap.size (fun (k_ : Nat) => some k_ ≠ v526.ownBlock ∧ k_ ≠ gb540 ∧ k_ ≠ gb544) v546 t545)) (BK523 : Aside0 (wc.heap[gb523]? = some (Obj.cells #[Value.int IntKind.i64 t517, Value.int IntKind.i64 t518, Value.int IntKind.i64 t519] 27))) (BK524 : Aside0 (wc.heap[gb524]? = some (Obj.cells #[Value.int IntKind.i64 t520, Value.int IntKind.i64 t521, Value.int IntKind.i64 t522] 27))) (BK540 : Aside0 (wc.heap[gb540]? = some (Obj.cells #[Value.int IntKind.i64 t537, Value.int IntKind.i64 t538] 25))) (BK544 : Aside0 (wc.heap[gb544]? = some (Obj.cells #[Value.int IntKind.i64 t541, Value.int IntKind.i64 t542] 25))) (HB : Aside0 (Below w.heap.size w wc)) : let K1_ : Exit → Act → World → Prop := bodyPost Try.prog Try.f3 fun (e : Ending) (w' : World) => e = Ending.returned (Value.bool true) ∧ Below w.heap.size w w'; ∀ (K3_ : Act → World → Prop), ∀ (K4_ : Act → World → Prop), (∀ (a : Go.Act) (w : Go.World), Go.Code.wp Try.prog ((cutAt Try.f3 [2, 2, 2, 2, 2, 2, 2, 2, 2, 2, 2, 1, 2]).getD .skip) (Exit.then K3_ K1_) a w → K4_ a w) → (∀ (a : Go.Act) (w : Go.World), Go.Code.wp Try.prog ((cutAt Try.f3 [2, 2, 2, 2, 2, 2, 2, 2, 2, 2, 2, 2]).getD .skip) (K1_) a w → K3_ a w) → K4_ { tmps := #[Value.slice A0 l0.length c0, Value.slice A1 l1.length c1, undef, undef, Value.bool false, Value.pointer (some { block := gb523, off := 0 }), Value.pointer (some { block := gb524, off := 0 }), v526, Value.bool t528, v530, Value.bool t532, Value.int IntKind.i64 t533, Value.bool t534, Value.int IntKind.i64 t535, Value.bool t536, Value.pointer (some { block := gb540, off := 0 }), Value.bool t539, Value.pointer (some { block := gb544, off := 0 }), Value.bool t543, v546, Value.bool t548, v550, Value.bool t552, undef, undef, undef, undef, undef, undef, undef, undef, undef, undef, undef, undef, undef, undef, undef, undef, undef, undef, undef, undef, undef, undef, s45, s46, s47, s48, s49, s50, s51, s52, s53, s54, s55, s56, s57, s58, s59, s60, s61, s62, s63, s64, s65, s66, s67, s68, s69, s70, s71, s72, s73, s74, s75, s76, s77, s78, s79, s80, s81, s82, s83, s84, s85, s86, s87, s88, s89, s90, s91, s92, s93, s94, s95, s96, s97, s98, s99, s100, s101, s102, s103, s104, s105, s106, s107, s108, s109, s110, s111, s112, s113, s114, s115, s116, s117, s118, s119, s120, s121, s122, s123, s124, s125, s126, s127, s128, s129, s130, s131, s132, s133, s134, s135, s136, s137, s138, s139, s140, s141, s142, s143, s144, s145, s146, s147, s148, s149, s150, s151, s152, s153, s154, s155, s156, s157, s158, s159, s160, s161, s162, s163, s164, s165, Value.bool x166_13, s167, s168, s169, s170, s171, s172, s173, s174, s175, s176, s177, s178, s179, s180, s181, s182, s183, s184, s185, s186, s187, s188, s189, s190, s191, s192, s193, s194, s195, s196, s197, s198, s199, s200, s201, s202, s203, s204, s205, s206, s207, s208, s209, s210, s211, s212, s213, s214, s215, s216, s217, s218, s219, s220, s221, s222, s223, s224, s225, s226, s227, s228, s229, s230, s231, s232, s233, s234, s235, s236, s237, s238, s239, s240, s241, s242, s243, s244, s245, s246, s247, s248, s249, s250, s251, s252, s253, s254, s255, s256, s257, s258, s259, s260, s261, s262, s263, s264, s265, s266, s267, s268, s269, s270, s271, s272, s273, s274, s275, s276, s277, s278, s279, s280, s281, s282, s283, s284, s285, s286, s287, s288, s289, s290, s291, s292, s293, s294, s295, s296, s297, s298, s299, s300, s301, s302, s303, s304, s305, s306, s307, s308, s309, s310, s311, s312, s313, s314, s315, s316, s317, s318, s319, s320, s321, s322, s323, s324, s325, s326, s327, s328, s329, s330, s331, s332, s333, s334, s335, s336, s337, s338, s339, s340, s341, s342, s343, s344, s345, s346, s347, s348, s349, s350, s351, s352, s353, s354, s355, s356, s357, s358, s359, s360, s361, s362, s363, s364, s365, s366, s367, s368, s369, s370, s371, s372, s373], defers := [] } wc := by
  intro K1_ K3_ K4_ hK2_ hK1_
  replace hK1_ := cut_open hK1_ rfl
  replace hK2_ := cut_open hK2_ rfl
  (try dsimp only)
  cases kq with
  | zero => exact absurd HA.1 (by simp [laws_FnHandsMeet.j0])
  | succ kj13 =>
    have H := HA.1
    clear HA
    simp only [laws_FnHandsMeet.j0] at H
    by_cases c139 : x166_13 = true
    · subst c139
      rw [if_pos rfl] at H
      exact absurd H (by simp)
    replace c139 := Bool.eq_false_iff.mpr c139
    subst c139
    rw [if_neg (show ¬ (false = true) by decide)] at H
    have HC140 := Aside0.mk H
    clear H
    go_upto_if 167 with (fail)
    go_cut [4, 23, 24, 25, 26, 27, 28, 29, 30, 31, 32] from 167 to 267 (fun v4 v23 v24 v25 v26 v27 v28 v29 v30 v31 v32 wc => ∃ (kq : Nat), Aside0 (laws_FnHandsMeet.j4 kq l1 t533 t545 t548 = some true) ∧ Aside0 (kq ≤ kj13) ∧ Aside0 (Kd.R k25 25 wc w.heap.size (fun k_ => k_ ≠ gb540 ∧ k_ ≠ gb544) v546 t545) ∧ Aside0 (wc.heap[gb540]? = some (.cells #[.int .i64 t537, .int .i64 t538] 25 (0, 0))) ∧ Aside0 (wc.heap[gb544]? = some (.cells #[.int .i64 t541, .int .i64 t542] 25 (0, 0))) ∧ Aside0 (Below w.heap.size w wc))
    case first =>
      have H := HC140.1
      clear HC140
      by_cases c141 : t528 = true
      · skip
        subst c141
        rw [if_pos rfl] at H
        have HC142 := Aside0.mk H
        clear H
        go_upto_region 15 with (fail)
        go_cut [193] from 168 to 193 (fun v193 wc => ∃ (kq : Nat) (x193_141 : Bool), v193 = .bool x193_141 ∧ Aside0 (laws_FnHandsMeet.j1 kq l1 t525 t533 t545 t548 x193_141 t517 t518 t519 t520 t521 t522 = some true) ∧ Aside0 (kq ≤ kj13) ∧ Aside0 (Kd.R k25 25 wc w.heap.size (fun k_ => some k_ ≠ (v546 : Value).ownBlock ∧ k_ ≠ gb540 ∧ k_ ≠ gb544) v526 t525) ∧ Aside0 (Kd.R k25 25 wc w.heap.size (fun k_ => some k_ ≠ (v526 : Value).ownBlock ∧ k_ ≠ gb540 ∧ k_ ≠ gb544) v546 t545) ∧ Aside0 (wc.heap[gb523]? = some (.cells #[.int .i64 t517, .int .i64 t518, .int .i64 t519] 27 (0, 0))) ∧ Aside0 (wc.heap[gb524]? = some (.cells #[.int .i64 t520, .int .i64 t521, .int .i64 t522] 27 (0, 0))) ∧ Aside0 (wc.heap[gb540]? = some (.cells #[.int .i64 t537, .int .i64 t538] 25 (0, 0))) ∧ Aside0 (wc.heap[gb544]? = some (.cells #[.int .i64 t541, .int .i64 t542] 25 (0, 0))) ∧ Aside0 (Below w.heap.size w wc))
        case first =>
          have H := HC142.1
          clear HC142
          by_cases c143 : (t525.length : Int) = t533
          · rw [if_pos c143] at H
            have c143b0 : ((t525.length : Int) == t533) = true := beq_iff_eq.mpr c143
            have c143b1 : ((t525.length : Int) != t533) = false := bne_eq_false_iff_eq.mpr c143
            clear c143
            (first | rw [c143b0] | (simp only [i64_w, i32_w]; rw [c143b0]) | skip)
            replace H := Option.bind_eq_some_iff.mp H
            obtain ⟨t561, A1440, H⟩ := H
            (try dsimp only at H)
            have A144 := Aside0.mk A1440
            clear A1440
            by_cases c145 : t533 = t561
            · rw [if_pos c145] at H
              have c145b0 : (t533 == t561) = true := beq_iff_eq.mpr c145
              have c145b1 : (t533 != t561) = false := bne_eq_false_iff_eq.mpr c145
              clear c145
              by_cases c146 : 0 < (t525.length : Int)
              · rw [if_pos c146] at H
                have c146b0 : decide (0 < (t525.length : Int)) = true := decide_eq_true c146
                have c146b1 : decide (0 < t525.length) = true := decide_eq_true (by omega)
                clear c146
                by_cases c147 : (!(((rd_T25 t525 0).f0) == t537) || (!(((rd_T25 t525 0).f1) == t538))) = true
                · rw [if_pos c147] at H
                  exact (laws_FnHandsMeet.j1_no H).elim
                skip
                rw [if_neg c147] at H
                have c147b0 : (!(((rd_T25 t525 0).f0) == t537) || (!(((rd_T25 t525 0).f1) == t538))) = false := by simpa using c147
                clear c147
                replace H := Option.bind_eq_some_iff.mp H
                obtain ⟨t563, A1500, H⟩ := H
                (try dsimp only at H)
                have A150 := Aside0.mk A1500
                clear A1500
                have H' := Aside0.mk H
                clear H
                try go_wp2
                replace HO_7 := Aside0.mk (Kd.R_drew HO_7.1)
                replace HO_19 := Aside0.mk (Kd.R_drew HO_19.1)
                replace BK523 := Aside0.mk (blk_drew BK523.1)
                replace BK524 := Aside0.mk (blk_drew BK524.1)
                replace BK540 := Aside0.mk (blk_drew BK540.1)
                replace BK544 := Aside0.mk (blk_drew BK544.1)
                replace HB := Aside0.mk (below_drew1 HB.1)
                obtain ⟨Ao152, co152, eo152⟩ := Kd.R_slice HO_7.1
                (first | subst eo152 | (injection eo152 with f1_ f2_ f3_; have f4_ := f1_.symm; have f5_ := f3_.symm; clear f1_ f2_ f3_; subst f4_; subst f5_))
                have p562 : 0 ≤ (0 : Int) := (by omega)
                have q562 : 0 < (t525.length : Int) := of_decide_eq_true (by first | (with_reducible assumption) | assumption)
                obtain ⟨ad562, e562, hx562_0, hx562_1⟩ := at_T25 (Kd.R_reads' HO_7.1).2.2 0 p562 q562
                cases e562
                have qi562 : (0 < t525.length) = True := eq_true (by omega)
                (try rw [show ((0 : Int)).toNat = 0 from rfl] at hx562_0)
                (try rw [show 0 * 2 = 0 from rfl] at hx562_0)
                (try rw [Addr.add_zero'] at hx562_0)
                (try rw [show ((0 : Int)).toNat = 0 from rfl] at hx562_1)
                (try rw [show 0 * 2 = 0 from rfl] at hx562_1)
                (try rw [Addr.add_zero'] at hx562_1)
                replace p562 := eq_true p562
                replace q562 := eq_true q562
                refine start_ (n := 26) (S := fun w' => w'.cell? ⟨gb523, 0, none⟩ = some (.int .i64 t517) ∧ w'.cell? ⟨gb523, 1, none⟩ = some (.int .i64 t518) ∧ w'.cell? ⟨gb523, 2, none⟩ = some (.int .i64 t519) ∧ w'.cell? ⟨gb524, 0, none⟩ = some (.int .i64 t520) ∧ w'.cell? ⟨gb524, 1, none⟩ = some (.int .i64 t521) ∧ w'.cell? ⟨gb524, 2, none⟩ = some (.int .i64 t522) ∧ w'.cell? ⟨gb540, 0, none⟩ = some (.int .i64 t537) ∧ w'.cell? ⟨gb540, 1, none⟩ = some (.int .i64 t538) ∧ w'.cell? ad562 = some (.int .i64 ((rd_T25 t525 0).f0)) ∧ w'.cell? ⟨ad562.block, ad562.off + 1, none⟩ = some (.int .i64 ((rd_T25 t525 0).f1))) (ds := []) (bs 26 0) (by kernel_rfl) rfl rfl ⟨(blk_cell BK523.1 0).trans rfl, (blk_cell BK523.1 1).trans rfl, (blk_cell BK523.1 2).trans rfl, (blk_cell BK524.1 0).trans rfl, (blk_cell BK524.1 1).trans rfl, (blk_cell BK524.1 2).trans rfl, (blk_cell BK540.1 0).trans rfl, (blk_cell BK540.1 1).trans rfl, hx562_0, hx562_1⟩ (fun hHeld => ?_); refine with_tabW laws_FnHandsMeet.tab15 laws_FnHandsMeet.bits15 (fun HT_ HW_ => ?_)
                generalize wc.drew = w151 at HO_7 HO_19 BK523 BK524 BK540 BK544 HB hx562_0 hx562_1 hHeld ⊢
                refine pu 0 168 HT_ rfl rfl (bs 26 1) ?_
                refine pu 1 169 HT_ rfl rfl (bs 26 3) ?_
                refine pu 2 170 HT_ rfl rfl (bs 26 7) ?_
                refine pu 3 171 HT_ rfl rfl (bs 26 15) ?_
                refine pu 4 172 HT_ rfl rfl (bs 26 31) ?_
                refine pu 5 173 HT_ rfl rfl (bs 26 63) ?_
                refine pu 6 174 HT_ rfl rfl (bs 26 127) ?_
                refine pu 8 176 HT_ rfl rfl (bs 26 383) ?_
                refine tk 7 175 HT_ HW_ hHeld rfl rfl (bs 26 511) ?_
                refine tk 9 177 HT_ HW_ hHeld rfl rfl (bs 26 1023) ?_
                refine pu 10 178 HT_ rfl rfl (bs 26 2047) ?_
                refine one_ (i := 11) (N := some 179) (bs 26 4095) rfl rfl (one_of HT_.1 (by kernel_rfl)) (by decide) (fun K hK => ?_)
                refine gs Try.func17 #[.int .i64 (wrap64 (t519 - t522))] ?_
                with_reducible refine (laws_kAbs.calls (wrap64 (t519 - t522)) t561 _ A144.1).mono ?_
                rintro e w' ⟨rfl, ⟨nd, rfl⟩⟩
                refine ⟨_, rfl, ?_⟩
                refine hK.out _ _ ⟨(blk_cell BK523.1 0).trans rfl, (blk_cell BK523.1 1).trans rfl, (blk_cell BK523.1 2).trans rfl, (blk_cell BK524.1 0).trans rfl, (blk_cell BK524.1 1).trans rfl, (blk_cell BK524.1 2).trans rfl, (blk_cell BK540.1 0).trans rfl, (blk_cell BK540.1 1).trans rfl, hHeld.2.2.2.2.2.2.2.2.1, hHeld.2.2.2.2.2.2.2.2.2⟩ (fun hHeld => ?_)
                clear hK K
                refine norm_ (aq 179) ?_
                refine pu 12 180 HT_ rfl rfl (bs 26 8191) ?_
                refine pu 13 181 HT_ rfl rfl (bs 26 16383) ?_
                refine pu 14 182 HT_ rfl rfl (bs 26 32767) ?_
                refine pu 15 183 HT_ rfl rfl (bs 26 65535) ?_
                refine pu 16 184 HT_ rfl rfl (bs 26 131071) ?_
                refine tk 17 185 HT_ HW_ hHeld rfl rfl (bs 26 262143) ?_
                refine tk 18 186 HT_ HW_ hHeld rfl rfl (bs 26 524287) ?_
                refine pu 19 187 HT_ rfl rfl (bs 26 1048575) ?_
                refine pu 20 188 HT_ rfl rfl (bs 26 2097151) ?_
                refine pu 21 189 HT_ rfl rfl (bs 26 4194303) ?_
                refine pu 22 190 HT_ rfl rfl (bs 26 8388607) ?_
                refine one_ (i := 23) (N := some 191) (bs 26 16777215) rfl rfl (one_of HT_.1 (by kernel_rfl)) (by decide) (fun K hK => ?_)
                refine gs Try.func18 #[.slice (some ad562) t525.length co152] ?_
                with_reducible refine (laws_kRises.calls kj13 _ _ t525 t563 _ ?side1 ?side2 A150.1).mono ?_
                (case side1 => repeat (first | exact (Kd.R_reads' HO_7.1).2.2 | (with_reducible refine Kd.C_alloc ?_ _) | (with_reducible refine Kd.C_drewN ?_ _) | (with_reducible refine Kd.C_drew ?_)))
                (case side2 => exact (Kd.R_reads' HO_7.1).2.1)
                rintro e w' ⟨rfl, ⟨nd, rfl⟩⟩
                refine ⟨_, rfl, ?_⟩
                refine hK.out _ _ ⟨(blk_cell BK523.1 0).trans rfl, (blk_cell BK523.1 1).trans rfl, (blk_cell BK523.1 2).trans rfl, (blk_cell BK524.1 0).trans rfl, (blk_cell BK524.1 1).trans rfl, (blk_cell BK524.1 2).trans rfl, (blk_cell BK540.1 0).trans rfl, (blk_cell BK540.1 1).trans rfl, hHeld.2.2.2.2.2.2.2.2.1, hHeld.2.2.2.2.2.2.2.2.2⟩ (fun hHeld => ?_)
                clear hK K
                refine norm_ (aq 191) ?_
                refine pu 24 192 HT_ rfl rfl (bs 26 33554431) ?_
                refine pu 25 193 HT_ rfl rfl (bs 26 67108863) ?_
                refine done_ (done_of HT_.1 (by kernel_rfl)) ?_
                try go_wp2
                go_meet
                case rel => exact ⟨_, (!t563), ew, H', ⟨by have := HJ13.1; first | omega | exact Nat.le_refl _⟩, ⟨rq HO_7⟩, ⟨rq HO_19⟩, ⟨bk BK523⟩, ⟨bk BK524⟩, ⟨bk BK540⟩, ⟨bk BK544⟩, ⟨bq HB⟩⟩
              rw [if_neg c146] at H
              exact absurd H (by simp)
            rw [if_neg c145] at H
            exact (laws_FnHandsMeet.j1_no H).elim
          rw [if_neg c143] at H
          exact (laws_FnHandsMeet.j1_no H).elim
        clear HC142
        try clear c1
        obtain ⟨kq, x193_141, rfl, HA, HJ141, HO_7, HO_19, BK523, BK524, BK540, BK544, HB⟩ := hcut
        cases kq with
        | zero => exact absurd HA.1 (by simp [laws_FnHandsMeet.j1])
        | succ kj141 =>
          have H := HA.1
          clear HA
          simp only [laws_FnHandsMeet.j1] at H
          by_cases c157 : x193_141 = true
          · subst c157
            rw [if_pos rfl] at H
            exact absurd H (by simp)
          replace c157 := Bool.eq_false_iff.mpr c157
          subst c157
          rw [if_neg (show ¬ (false = true) by decide)] at H
          have H' := Aside0.mk H
          clear H
          obtain ⟨Ao158, co158, eo158⟩ := Kd.R_slice HO_7.1
          subst eo158
          go_wp2
          go_loopg [196] kj141 (fun kq v196 w' => ∃ (x196_3 : Int), v196 = .int .i64 x196_3 ∧ Aside0 (laws_FnHandsMeet.l0 kq l1 t525 t533 t545 t548 t525 (t525.length : Int) x196_3 t517 t518 t519 t520 t521 t522 = some true) ∧ Aside0 (kq ≤ kj141) ∧ Aside0 (Kd.R k25 25 w' w.heap.size (fun k_ => some k_ ≠ (v546 : Value).ownBlock ∧ k_ ≠ gb540 ∧ k_ ≠ gb544) (.slice Ao158 t525.length co158) t525) ∧ Aside0 (Kd.R k25 25 w' w.heap.size (fun k_ => some k_ ≠ ((.slice Ao158 t525.length co158) : Value).ownBlock ∧ some k_ ≠ ((.slice Ao158 t525.length co158) : Value).ownBlock ∧ k_ ≠ gb540 ∧ k_ ≠ gb544) v546 t545) ∧ Aside0 (Kd.R k25 25 w' w.heap.size (fun k_ => some k_ ≠ (v546 : Value).ownBlock ∧ k_ ≠ gb540 ∧ k_ ≠ gb544) (.slice Ao158 t525.length co158) t525) ∧ Aside0 (w'.heap[gb523]? = some (.cells #[.int .i64 t517, .int .i64 t518, .int .i64 t519] 27 (0, 0))) ∧ Aside0 (w'.heap[gb524]? = some (.cells #[.int .i64 t520, .int .i64 t521, .int .i64 t522] 27 (0, 0))) ∧ Aside0 (w'.heap[gb540]? = some (.cells #[.int .i64 t537, .int .i64 t538] 25 (0, 0))) ∧ Aside0 (w'.heap[gb544]? = some (.cells #[.int .i64 t541, .int .i64 t542] 25 (0, 0))) ∧ Aside0 (Below w.heap.size w w'))
          case atStart => exact ⟨(0), ew, H', ⟨Nat.le_refl _⟩, ⟨rq HO_7⟩, ⟨by (with_reducible repeat (first | apply Kd.R_alloc | apply Kd.R_drewN | apply Kd.R_drew)); exact Kd.R_mono HO_19.1 (fun _ hk => ⟨hk.1, ⟨hk.1, ⟨hk.2.1, hk.2.2⟩⟩⟩)⟩, ⟨rq HO_7⟩, ⟨bk BK523⟩, ⟨bk BK524⟩, ⟨bk BK540⟩, ⟨bk BK544⟩, ⟨bq HB⟩⟩
          case round =>
            clear H'
            try clear c1
            try clear c157
            obtain ⟨x196_3, rfl, HA, HK3, HO_7, HO_19, HO_194, BK523, BK524, BK540, BK544, HB⟩ := hrel
            cases gk with
            | zero => exact absurd HA.1 (by simp [laws_FnHandsMeet.l0])
            | succ k3 =>
              have H := HA.1
              clear HA
              simp only [laws_FnHandsMeet.l0] at H
              by_cases c159 : x196_3 < (t525.length : Int)
              · skip
                rw [if_pos c159] at H
                have c159b0 : decide (x196_3 < (t525.length : Int)) = true := decide_eq_true c159
                clear c159
                by_cases c160 : 0 ≤ x196_3
                · rw [if_pos c160] at H
                  have c160b0 : decide (0 ≤ x196_3) = true := decide_eq_true c160
                  clear c160
                  by_cases c161 : x196_3 < (t525.length : Int)
                  · rw [if_pos c161] at H
                    have c161b0 : decide (x196_3 < (t525.length : Int)) = true := decide_eq_true c161
                    clear c161
                    replace H := Option.bind_eq_some_iff.mp H
                    obtain ⟨⟨t566, t567, t568⟩, A1620, H⟩ := H
                    (try dsimp only at H)
                    have A162 := Aside0.mk A1620
                    clear A1620
                    replace H := Option.bind_eq_some_iff.mp H
                    obtain ⟨⟨t570, t571, t572⟩, A1630, H⟩ := H
                    (try dsimp only at H)
                    have A163 := Aside0.mk A1630
                    clear A1630
                    have HC164 := Aside0.mk H
                    clear H
                    have p564 : 0 ≤ (x196_3 : Int) := of_decide_eq_true (by first | (with_reducible assumption) | assumption)
                    have q564 : x196_3 < (t525.length : Int) := of_decide_eq_true (by first | (with_reducible assumption) | assumption)
                    obtain ⟨ad564, e564, hx564_0, hx564_1⟩ := at_T25 (Kd.R_reads' HO_194.1).2.2 x196_3 p564 q564
                    cases e564
                    replace p564 := eq_true p564
                    replace q564 := eq_true q564
                    go_upto_region 22 with (first | ((with_reducible refine gate_dst (N := 24) rfl ?_); (try (refine gate_guard (by rfl) ?_; dsimp only)); refine be #[.int .i64 0, .int .i64 0] 25 ?_; intro gb565 hg w165 hbox hb; replace HO_7 := Aside0.mk (Kd.R_below (Kd.R_elderB (rq HO_7) gb565 (Nat.le_of_eq hg.symm)) hb); replace HO_19 := Aside0.mk (Kd.R_below (Kd.R_elderB (rq HO_19) gb565 (Nat.le_of_eq hg.symm)) hb); replace HO_194 := Aside0.mk (Kd.R_below (Kd.R_elderB (rq HO_194) gb565 (Nat.le_of_eq hg.symm)) hb); have BK565 := Aside0.mk hbox; have GW565 := zs HB hg; have GE565 := zs HB hg; have NB523_565 := zn BK523 hg; have LT523_565 := zo BK523 hg; have NB565_523 := zm BK523 hg; have NB524_565 := zn BK524 hg; have LT524_565 := zo BK524 hg; have NB565_524 := zm BK524 hg; have NB540_565 := zn BK540 hg; have LT540_565 := zo BK540 hg; have NB565_540 := zm BK540 hg; have NB544_565 := zn BK544 hg; have LT544_565 := zo BK544 hg; have NB565_544 := zm BK544 hg; replace BK523 := zb BK523 hb; replace BK524 := zb BK524 hb; replace BK540 := zb BK540 hb; replace BK544 := zb BK544 hb; replace HB := zB HB hb; clear hb hbox hg; have hnc166 := LT523_565.1; have hnc167 := LT524_565.1; have hnc168 := LT540_565.1; have hnc169 := LT544_565.1; obtain ⟨hcz170_0, hcz170_1, hfz170_0, hfz170_1⟩ := zc2 BK565; have hnb171 := LT523_524.1; have hnb172 := LT523_540.1; have hnb173 := LT523_544.1; obtain ⟨hcz174_0, hcz174_1, hcz174_2, hfz174_0, hfz174_1, hfz174_2⟩ := zc3 BK523) | ((with_reducible refine gate_callee (f := 19) rfl ?_); refine gl (some 204) Try.func19 #[.agg #[.int .i64 t517, .int .i64 t518, .int .i64 t519], .agg #[.int .i64 ((rd_T25 t525 x196_3).f0), .int .i64 ((rd_T25 t525 x196_3).f1)]] ?_; (with_reducible refine (impl_HandAt.calls k3 t517 t518 t519 ((rd_T25 t525 x196_3).f0) ((rd_T25 t525 x196_3).f1) t566 t567 t568 _ A162.1).mono ?_); rintro e w175 ⟨rfl, hb⟩; refine ⟨_, rfl, ?_⟩; replace HO_7 := Aside0.mk (Kd.R_below (by (with_reducible repeat (first | apply Kd.R_alloc | apply Kd.R_drewN | apply Kd.R_drew)); exact (Kd.R_mono (Kd.R_far (p := ⟨gb565, 1, none⟩) (Kd.R_far (p := ⟨gb565, 0, none⟩) (Kd.R_mono HO_7.1 (fun k_ hk => (⟨hk, hk.2⟩ : _ ∧ k_ ≠ gb565))) (fun _ hk => hk.2) (.int .i64 ((rd_T25 t525 x196_3).f0))) (fun _ hk => hk.2) (.int .i64 ((rd_T25 t525 x196_3).f1))) (fun _ h_ => h_.1))) hb); replace HO_19 := Aside0.mk (Kd.R_below (by (with_reducible repeat (first | apply Kd.R_alloc | apply Kd.R_drewN | apply Kd.R_drew)); exact (Kd.R_mono (Kd.R_far (p := ⟨gb565, 1, none⟩) (Kd.R_far (p := ⟨gb565, 0, none⟩) (Kd.R_mono HO_19.1 (fun k_ hk => (⟨hk, hk.2⟩ : _ ∧ k_ ≠ gb565))) (fun _ hk => hk.2) (.int .i64 ((rd_T25 t525 x196_3).f0))) (fun _ hk => hk.2) (.int .i64 ((rd_T25 t525 x196_3).f1))) (fun _ h_ => h_.1))) hb); replace HO_194 := Aside0.mk (Kd.R_below (by (with_reducible repeat (first | apply Kd.R_alloc | apply Kd.R_drewN | apply Kd.R_drew)); exact (Kd.R_mono (Kd.R_far (p := ⟨gb565, 1, none⟩) (Kd.R_far (p := ⟨gb565, 0, none⟩) (Kd.R_mono HO_194.1 (fun k_ hk => (⟨hk, hk.2⟩ : _ ∧ k_ ≠ gb565))) (fun _ hk => hk.2) (.int .i64 ((rd_T25 t525 x196_3).f0))) (fun _ hk => hk.2) (.int .i64 ((rd_T25 t525 x196_3).f1))) (fun _ h_ => h_.1))) hb); replace BK523 := zy (o' := .cells #[.int .i64 t517, .int .i64 t518, .int .i64 t519] 27 (0, 0)) BK523 hb; replace BK524 := zy (o' := .cells #[.int .i64 t520, .int .i64 t521, .int .i64 t522] 27 (0, 0)) BK524 hb; replace BK540 := zy (o' := .cells #[.int .i64 t537, .int .i64 t538] 25 (0, 0)) BK540 hb; replace BK544 := zy (o' := .cells #[.int .i64 t541, .int .i64 t542] 25 (0, 0)) BK544 hb; replace BK565 := zy (o' := .cells #[.int .i64 ((rd_T25 t525 x196_3).f0), .int .i64 ((rd_T25 t525 x196_3).f1)] 25 (0, 0)) BK565 hb; replace HB := zB HB hb; clear hb) | ((with_reducible refine gate_dst (N := 25) rfl ?_); (try (refine gate_guard (by rfl) ?_; dsimp only)); refine be #[.int .i64 0, .int .i64 0] 25 ?_; intro gb569 hg w176 hbox hb; replace HO_7 := Aside0.mk (Kd.R_below (Kd.R_elderB (rq HO_7) gb569 (Nat.le_of_eq hg.symm)) hb); replace HO_19 := Aside0.mk (Kd.R_below (Kd.R_elderB (rq HO_19) gb569 (Nat.le_of_eq hg.symm)) hb); replace HO_194 := Aside0.mk (Kd.R_below (Kd.R_elderB (rq HO_194) gb569 (Nat.le_of_eq hg.symm)) hb); have BK569 := Aside0.mk hbox; have GW569 := zs HB hg; have GE569 := zs HB hg; have NB523_569 := zn BK523 hg; have LT523_569 := zo BK523 hg; have NB569_523 := zm BK523 hg; have NB524_569 := zn BK524 hg; have LT524_569 := zo BK524 hg; have NB569_524 := zm BK524 hg; have NB540_569 := zn BK540 hg; have LT540_569 := zo BK540 hg; have NB569_540 := zm BK540 hg; have NB544_569 := zn BK544 hg; have LT544_569 := zo BK544 hg; have NB569_544 := zm BK544 hg; have NB565_569 := zn BK565 hg; have LT565_569 := zo BK565 hg; have NB569_565 := zm BK565 hg; replace BK523 := zb BK523 hb; replace BK524 := zb BK524 hb; replace BK540 := zb BK540 hb; replace BK544 := zb BK544 hb; replace BK565 := zb BK565 hb; replace HB := zB HB hb; clear hb hbox hg; have hnc177 := LT523_569.1; have hnc178 := LT524_569.1; have hnc179 := LT540_569.1; have hnc180 := LT544_569.1; have hnc181 := LT565_569.1; obtain ⟨hcz182_0, hcz182_1, hfz182_0, hfz182_1⟩ := zc2 BK569; have hnb183 := LT524_540.1; have hnb184 := LT524_544.1; obtain ⟨hcz185_0, hcz185_1, hcz185_2, hfz185_0, hfz185_1, hfz185_2⟩ := zc3 BK524; obtain ⟨hcz186_0, hcz186_1, hfz186_0, hfz186_1⟩ := zc2 BK565) | ((with_reducible refine gate_callee (f := 19) rfl ?_); refine gl (some 210) Try.func19 #[.agg #[.int .i64 t520, .int .i64 t521, .int .i64 t522], .agg #[.int .i64 ((rd_T25 t525 x196_3).f0), .int .i64 ((rd_T25 t525 x196_3).f1)]] ?_; (with_reducible refine (impl_HandAt.calls k3 t520 t521 t522 ((rd_T25 t525 x196_3).f0) ((rd_T25 t525 x196_3).f1) t570 t571 t572 _ A163.1).mono ?_); rintro e w187 ⟨rfl, hb⟩; refine ⟨_, rfl, ?_⟩; replace HO_7 := Aside0.mk (Kd.R_below (by (with_reducible repeat (first | apply Kd.R_alloc | apply Kd.R_drewN | apply Kd.R_drew)); exact (Kd.R_mono (Kd.R_far (p := ⟨gb569, 1, none⟩) (Kd.R_far (p := ⟨gb569, 0, none⟩) (Kd.R_mono HO_7.1 (fun k_ hk => (⟨hk, hk.2⟩ : _ ∧ k_ ≠ gb569))) (fun _ hk => hk.2) (.int .i64 t566)) (fun _ hk => hk.2) (.int .i64 t567)) (fun _ h_ => h_.1))) hb); replace HO_19 := Aside0.mk (Kd.R_below (by (with_reducible repeat (first | apply Kd.R_alloc | apply Kd.R_drewN | apply Kd.R_drew)); exact (Kd.R_mono (Kd.R_far (p := ⟨gb569, 1, none⟩) (Kd.R_far (p := ⟨gb569, 0, none⟩) (Kd.R_mono HO_19.1 (fun k_ hk => (⟨hk, hk.2⟩ : _ ∧ k_ ≠ gb569))) (fun _ hk => hk.2) (.int .i64 t566)) (fun _ hk => hk.2) (.int .i64 t567)) (fun _ h_ => h_.1))) hb); replace HO_194 := Aside0.mk (Kd.R_below (by (with_reducible repeat (first | apply Kd.R_alloc | apply Kd.R_drewN | apply Kd.R_drew)); exact (Kd.R_mono (Kd.R_far (p := ⟨gb569, 1, none⟩) (Kd.R_far (p := ⟨gb569, 0, none⟩) (Kd.R_mono HO_194.1 (fun k_ hk => (⟨hk, hk.2⟩ : _ ∧ k_ ≠ gb569))) (fun _ hk => hk.2) (.int .i64 t566)) (fun _ hk => hk.2) (.int .i64 t567)) (fun _ h_ => h_.1))) hb); replace BK523 := zy (o' := .cells #[.int .i64 t517, .int .i64 t518, .int .i64 t519] 27 (0, 0)) BK523 hb; replace BK524 := zy (o' := .cells #[.int .i64 t520, .int .i64 t521, .int .i64 t522] 27 (0, 0)) BK524 hb; replace BK540 := zy (o' := .cells #[.int .i64 t537, .int .i64 t538] 25 (0, 0)) BK540 hb; replace BK544 := zy (o' := .cells #[.int .i64 t541, .int .i64 t542] 25 (0, 0)) BK544 hb; replace BK565 := zy (o' := .cells #[.int .i64 ((rd_T25 t525 x196_3).f0), .int .i64 ((rd_T25 t525 x196_3).f1)] 25 (0, 0)) BK565 hb; replace BK569 := zy (o' := .cells #[.int .i64 t566, .int .i64 t567] 25 (0, 0)) BK569 hb; replace HB := zB HB hb; clear hb) | ((with_reducible refine gate_dst (N := 27) rfl ?_); (try (refine gate_guard (by rfl) ?_; dsimp only)); refine be #[.int .i64 0, .int .i64 0] 25 ?_; intro gb573 hg w188 hbox hb; replace HO_7 := Aside0.mk (Kd.R_below (Kd.R_elderB (rq HO_7) gb573 (Nat.le_of_eq hg.symm)) hb); replace HO_19 := Aside0.mk (Kd.R_below (Kd.R_elderB (rq HO_19) gb573 (Nat.le_of_eq hg.symm)) hb); replace HO_194 := Aside0.mk (Kd.R_below (Kd.R_elderB (rq HO_194) gb573 (Nat.le_of_eq hg.symm)) hb); have BK573 := Aside0.mk hbox; have GW573 := zs HB hg; have GE573 := zs HB hg; have NB523_573 := zn BK523 hg; have LT523_573 := zo BK523 hg; have NB573_523 := zm BK523 hg; have NB524_573 := zn BK524 hg; have LT524_573 := zo BK524 hg; have NB573_524 := zm BK524 hg; have NB540_573 := zn BK540 hg; have LT540_573 := zo BK540 hg; have NB573_540 := zm BK540 hg; have NB544_573 := zn BK544 hg; have LT544_573 := zo BK544 hg; have NB573_544 := zm BK544 hg; have NB565_573 := zn BK565 hg; have LT565_573 := zo BK565 hg; have NB573_565 := zm BK565 hg; have NB569_573 := zn BK569 hg; have LT569_573 := zo BK569 hg; have NB573_569 := zm BK569 hg; replace BK523 := zb BK523 hb; replace BK524 := zb BK524 hb; replace BK540 := zb BK540 hb; replace BK544 := zb BK544 hb; replace BK565 := zb BK565 hb; replace BK569 := zb BK569 hb; replace HB := zB HB hb; clear hb hbox hg; have hnc189 := LT523_573.1; have hnc190 := LT524_573.1; have hnc191 := LT540_573.1; have hnc192 := LT544_573.1; have hnc193 := LT565_573.1; have hnc194 := LT569_573.1; obtain ⟨hcz195_0, hcz195_1, hfz195_0, hfz195_1⟩ := zc2 BK573))
                    (try simp only [Act.put, List.setIfInBounds_toArray, List.set_cons_zero, List.set_cons_succ])
                    go_cut [232] from 213 to 232 (fun v232 wc => ∃ (kq : Nat) (x232_163 : Bool), v232 = .bool x232_163 ∧ Aside0 (laws_FnHandsMeet.j3 kq l1 t525 t533 t545 t548 x196_3 t525 (t525.length : Int) x196_3 x232_163 t517 t518 t519 t520 t521 t522 ((rd_T25 t525 x196_3).f0) ((rd_T25 t525 x196_3).f1) = some true) ∧ Aside0 (kq ≤ k3) ∧ Aside0 (Kd.R k25 25 wc w.heap.size (fun k_ => some k_ ≠ (v546 : Value).ownBlock ∧ k_ ≠ gb540 ∧ k_ ≠ gb544 ∧ k_ ≠ gb565 ∧ k_ ≠ gb569 ∧ k_ ≠ gb573) (.slice (some ad564) t525.length co158) t525) ∧ Aside0 (Kd.R k25 25 wc w.heap.size (fun k_ => some k_ ≠ ((.slice (some ad564) t525.length co158) : Value).ownBlock ∧ some k_ ≠ ((.slice (some ad564) t525.length co158) : Value).ownBlock ∧ k_ ≠ gb540 ∧ k_ ≠ gb544 ∧ k_ ≠ gb565 ∧ k_ ≠ gb569 ∧ k_ ≠ gb573) v546 t545) ∧ Aside0 (Kd.R k25 25 wc w.heap.size (fun k_ => some k_ ≠ (v546 : Value).ownBlock ∧ k_ ≠ gb540 ∧ k_ ≠ gb544 ∧ k_ ≠ gb565 ∧ k_ ≠ gb569 ∧ k_ ≠ gb573) (.slice (some ad564) t525.length co158) t525) ∧ Aside0 (wc.heap[gb523]? = some (.cells #[.int .i64 t517, .int .i64 t518, .int .i64 t519] 27 (0, 0))) ∧ Aside0 (wc.heap[gb524]? = some (.cells #[.int .i64 t520, .int .i64 t521, .int .i64 t522] 27 (0, 0))) ∧ Aside0 (wc.heap[gb540]? = some (.cells #[.int .i64 t537, .int .i64 t538] 25 (0, 0))) ∧ Aside0 (wc.heap[gb544]? = some (.cells #[.int .i64 t541, .int .i64 t542] 25 (0, 0))) ∧ Aside0 (wc.heap[gb565]? = some (.cells #[.int .i64 ((rd_T25 t525 x196_3).f0), .int .i64 ((rd_T25 t525 x196_3).f1)] 25 (0, 0))) ∧ Aside0 (wc.heap[gb569]? = some (.cells #[.int .i64 t566, .int .i64 t567] 25 (0, 0))) ∧ Aside0 (wc.heap[gb573]? = some (.cells #[.int .i64 t570, .int .i64 t571] 25 (0, 0))) ∧ Aside0 (Below w.heap.size w wc))
                    case first =>
                      have H := HC164.1
                      clear HC164
                      by_cases c196 : (t568 != t572) = true
                      · rw [if_pos c196] at H
                        exact (laws_FnHandsMeet.j3_no H).elim
                      rw [if_neg c196] at H
                      have c196b0 : (t568 != t572) = false := by simpa using c196
                      (try (have c196b1 : decide (t568 = t572) = true := by simpa using c196))
                      (try (have c196b2 : (t568 == t572) = true := by simpa using c196))
                      clear c196
                      (first | rw [c196b0] | (simp only [i64_w, i32_w]; rw [c196b0]) | skip)
                      by_cases c197 : t568 = true
                      · subst c197
                        rw [if_pos rfl] at H
                        by_cases c198 : (!(t566 == t570) || (!(t567 == t571))) = true
                        · rw [if_pos c198] at H
                          exact (laws_FnHandsMeet.j3_no H).elim
                        rw [if_neg c198] at H
                        have c198b0 : (!(t566 == t570) || (!(t567 == t571))) = false := by simpa using c198
                        clear c198
                        by_cases c212 : t548 = true
                        · subst c212
                          rw [if_pos rfl] at H
                          replace H := Option.bind_eq_some_iff.mp H
                          obtain ⟨t574, A2130, H⟩ := H
                          (try dsimp only at H)
                          have A213 := Aside0.mk A2130
                          clear A2130
                          have H' := Aside0.mk H
                          clear H
                          have hnc214 := LT523_569.1
                          have hnc215 := LT524_569.1
                          have hnc216 := LT540_569.1
                          have hnc217 := LT544_569.1
                          have hnc218 := LT565_569.1
                          have hnb219 := LT569_573.1
                          obtain ⟨hcz220_0, hcz220_1, hfz220_0, hfz220_1⟩ := zc2 BK569
                          have hnc221 := LT523_573.1
                          have hnc222 := LT524_573.1
                          have hnc223 := LT540_573.1
                          have hnc224 := LT544_573.1
                          have hnc225 := LT565_573.1
                          obtain ⟨hcz226_0, hcz226_1, hfz226_0, hfz226_1⟩ := zc2 BK573
                          obtain ⟨Ao227, co227, eo227⟩ := Kd.R_slice HO_19.1
                          subst eo227
                          go_wp2_with (first | (go_at_call 20; (with_reducible refine (laws_kIn.calls k3 _ _ t545 t566 t567 t574 _ ?side1 ?side2 A213.1).mono ?_); (case side1 => refine (Kd.R_reads' (e := 25) (base := w.heap.size) (ok := fun k_ => ((((some k_ ≠ (.slice (some ad564) t525.length co158 : Value).ownBlock ∧ (some k_ ≠ (.slice (some ad564) t525.length co158 : Value).ownBlock ∧ (k_ ≠ gb540 ∧ k_ ≠ gb544))) ∧ k_ ≠ gb565) ∧ k_ ≠ gb569) ∧ k_ ≠ gb573)) (n := t545.length) (c := co227) ?_).2.2; exact (by (with_reducible repeat (first | apply Kd.R_alloc | apply Kd.R_drewN | apply Kd.R_drew)); exact (Kd.R_mono (Kd.R_far (p := ⟨gb573, 1, none⟩) (Kd.R_far (p := ⟨gb573, 0, none⟩) (Kd.R_mono HO_19.1 (fun k_ hk => (⟨hk, hk.2⟩ : _ ∧ k_ ≠ gb573))) (fun _ hk => hk.2) (.int .i64 t570)) (fun _ hk => hk.2) (.int .i64 t571)) (fun _ h_ => h_.1)))); (case side2 => exact (Kd.R_reads' HO_19.1).2.1); rintro e w228 ⟨rfl, hb⟩; replace HO_7 := Aside0.mk (Kd.R_below (by (with_reducible repeat (first | apply Kd.R_alloc | apply Kd.R_drewN | apply Kd.R_drew)); exact (Kd.R_mono (Kd.R_far (p := ⟨gb573, 1, none⟩) (Kd.R_far (p := ⟨gb573, 0, none⟩) (Kd.R_mono HO_7.1 (fun k_ hk => (⟨hk, hk.2⟩ : _ ∧ k_ ≠ gb573))) (fun _ hk => hk.2) (.int .i64 t570)) (fun _ hk => hk.2) (.int .i64 t571)) (fun _ h_ => h_.1))) hb); replace HO_19 := Aside0.mk (Kd.R_below (by (with_reducible repeat (first | apply Kd.R_alloc | apply Kd.R_drewN | apply Kd.R_drew)); exact (Kd.R_mono (Kd.R_far (p := ⟨gb573, 1, none⟩) (Kd.R_far (p := ⟨gb573, 0, none⟩) (Kd.R_mono HO_19.1 (fun k_ hk => (⟨hk, hk.2⟩ : _ ∧ k_ ≠ gb573))) (fun _ hk => hk.2) (.int .i64 t570)) (fun _ hk => hk.2) (.int .i64 t571)) (fun _ h_ => h_.1))) hb); replace HO_194 := Aside0.mk (Kd.R_below (by (with_reducible repeat (first | apply Kd.R_alloc | apply Kd.R_drewN | apply Kd.R_drew)); exact (Kd.R_mono (Kd.R_far (p := ⟨gb573, 1, none⟩) (Kd.R_far (p := ⟨gb573, 0, none⟩) (Kd.R_mono HO_194.1 (fun k_ hk => (⟨hk, hk.2⟩ : _ ∧ k_ ≠ gb573))) (fun _ hk => hk.2) (.int .i64 t570)) (fun _ hk => hk.2) (.int .i64 t571)) (fun _ h_ => h_.1))) hb); replace BK523 := zy (o' := .cells #[.int .i64 t517, .int .i64 t518, .int .i64 t519] 27 (0, 0)) BK523 hb; replace BK524 := zy (o' := .cells #[.int .i64 t520, .int .i64 t521, .int .i64 t522] 27 (0, 0)) BK524 hb; replace BK540 := zy (o' := .cells #[.int .i64 t537, .int .i64 t538] 25 (0, 0)) BK540 hb; replace BK544 := zy (o' := .cells #[.int .i64 t541, .int .i64 t542] 25 (0, 0)) BK544 hb; replace BK565 := zy (o' := .cells #[.int .i64 ((rd_T25 t525 x196_3).f0), .int .i64 ((rd_T25 t525 x196_3).f1)] 25 (0, 0)) BK565 hb; replace BK569 := zy (o' := .cells #[.int .i64 t566, .int .i64 t567] 25 (0, 0)) BK569 hb; replace BK573 := zy (o' := .cells #[.int .i64 t570, .int .i64 t571] 25 (0, 0)) BK573 hb; replace HB := zB HB hb; clear hb))
                          go_meet
                          case rel => exact ⟨_, (!t574), ew, H', ⟨by have := HJ13.1; have := HJ141.1; have := HK3.1; first | omega | exact Nat.le_refl _⟩, ⟨by (with_reducible repeat (first | apply Kd.R_alloc | apply Kd.R_drewN | apply Kd.R_drew)); exact Kd.R_mono HO_7.1 (fun _ hk => ⟨hk.1.1.1.1, ⟨hk.1.1.1.2.1, ⟨hk.1.1.1.2.2, ⟨hk.1.1.2, ⟨hk.1.2, hk.2⟩⟩⟩⟩⟩)⟩, ⟨by (with_reducible repeat (first | apply Kd.R_alloc | apply Kd.R_drewN | apply Kd.R_drew)); exact Kd.R_mono HO_19.1 (fun _ hk => ⟨hk.1.1.1.1, ⟨hk.1.1.1.2.1, ⟨hk.1.1.1.2.2.1, ⟨hk.1.1.1.2.2.2, ⟨hk.1.1.2, ⟨hk.1.2, hk.2⟩⟩⟩⟩⟩⟩)⟩, ⟨by (with_reducible repeat (first | apply Kd.R_alloc | apply Kd.R_drewN | apply Kd.R_drew)); exact Kd.R_mono HO_194.1 (fun _ hk => ⟨hk.1.1.1.1, ⟨hk.1.1.1.2.1, ⟨hk.1.1.1.2.2, ⟨hk.1.1.2, ⟨hk.1.2, hk.2⟩⟩⟩⟩⟩)⟩, ⟨bk BK523⟩, ⟨bk BK524⟩, ⟨bk BK540⟩, ⟨bk BK544⟩, ⟨bk BK565⟩, ⟨bk BK569⟩, ⟨bk BK573⟩, ⟨bq HB⟩⟩
                        replace c212 := Bool.eq_false_iff.mpr c212
                        subst c212
                        rw [if_neg (show ¬ (false = true) by decide)] at H
                        have H' := Aside0.mk H
                        clear H
                        have hnc229 := LT523_569.1
                        have hnc230 := LT524_569.1
                        have hnc231 := LT540_569.1
                        have hnc232 := LT544_569.1
                        have hnc233 := LT565_569.1
                        have hnb234 := LT569_573.1
                        obtain ⟨hcz235_0, hcz235_1, hfz235_0, hfz235_1⟩ := zc2 BK569
                        have hnc236 := LT523_573.1
                        have hnc237 := LT524_573.1
                        have hnc238 := LT540_573.1
                        have hnc239 := LT544_573.1
                        have hnc240 := LT565_573.1
                        obtain ⟨hcz241_0, hcz241_1, hfz241_0, hfz241_1⟩ := zc2 BK573
                        go_wp2
                        go_meet
                        case rel => exact ⟨_, (false), ew, H', ⟨by have := HJ13.1; have := HJ141.1; have := HK3.1; first | omega | exact Nat.le_refl _⟩, ⟨by (with_reducible repeat (first | apply Kd.R_alloc | apply Kd.R_drewN | apply Kd.R_drew)); exact Kd.R_mono (Kd.R_far (p := ⟨gb573, 1, none⟩) (Kd.R_far (p := ⟨gb573, 0, none⟩) (Kd.R_mono HO_7.1 (fun k_ hk => (⟨hk, hk.2⟩ : _ ∧ k_ ≠ gb573))) (fun _ hk => hk.2) (.int .i64 t570)) (fun _ hk => hk.2) (.int .i64 t571)) (fun _ hk => ⟨hk.1.1.1.1.1, ⟨hk.1.1.1.1.2.1, ⟨hk.1.1.1.1.2.2, ⟨hk.1.1.1.2, ⟨hk.1.1.2, hk.1.2⟩⟩⟩⟩⟩)⟩, ⟨by (with_reducible repeat (first | apply Kd.R_alloc | apply Kd.R_drewN | apply Kd.R_drew)); exact Kd.R_mono (Kd.R_far (p := ⟨gb573, 1, none⟩) (Kd.R_far (p := ⟨gb573, 0, none⟩) (Kd.R_mono HO_19.1 (fun k_ hk => (⟨hk, hk.2⟩ : _ ∧ k_ ≠ gb573))) (fun _ hk => hk.2) (.int .i64 t570)) (fun _ hk => hk.2) (.int .i64 t571)) (fun _ hk => ⟨hk.1.1.1.1.1, ⟨hk.1.1.1.1.2.1, ⟨hk.1.1.1.1.2.2.1, ⟨hk.1.1.1.1.2.2.2, ⟨hk.1.1.1.2, ⟨hk.1.1.2, hk.1.2⟩⟩⟩⟩⟩⟩)⟩, ⟨by (with_reducible repeat (first | apply Kd.R_alloc | apply Kd.R_drewN | apply Kd.R_drew)); exact Kd.R_mono (Kd.R_far (p := ⟨gb573, 1, none⟩) (Kd.R_far (p := ⟨gb573, 0, none⟩) (Kd.R_mono HO_194.1 (fun k_ hk => (⟨hk, hk.2⟩ : _ ∧ k_ ≠ gb573))) (fun _ hk => hk.2) (.int .i64 t570)) (fun _ hk => hk.2) (.int .i64 t571)) (fun _ hk => ⟨hk.1.1.1.1.1, ⟨hk.1.1.1.1.2.1, ⟨hk.1.1.1.1.2.2, ⟨hk.1.1.1.2, ⟨hk.1.1.2, hk.1.2⟩⟩⟩⟩⟩)⟩, ⟨bk BK523⟩, ⟨bk BK524⟩, ⟨bk BK540⟩, ⟨bk BK544⟩, ⟨bk BK565⟩, ⟨bk BK569⟩, ⟨bk BK573⟩, ⟨bq HB⟩⟩
                      replace c197 := Bool.eq_false_iff.mpr c197
                      subst c197
                      rw [if_neg (show ¬ (false = true) by decide)] at H
                      have H' := Aside0.mk H
                      clear H
                      go_wp2
                      go_meet
                      case rel => exact ⟨_, (false), ew, H', ⟨by have := HJ13.1; have := HJ141.1; have := HK3.1; first | omega | exact Nat.le_refl _⟩, ⟨by (with_reducible repeat (first | apply Kd.R_alloc | apply Kd.R_drewN | apply Kd.R_drew)); exact Kd.R_mono (Kd.R_far (p := ⟨gb573, 1, none⟩) (Kd.R_far (p := ⟨gb573, 0, none⟩) (Kd.R_mono HO_7.1 (fun k_ hk => (⟨hk, hk.2⟩ : _ ∧ k_ ≠ gb573))) (fun _ hk => hk.2) (.int .i64 t570)) (fun _ hk => hk.2) (.int .i64 t571)) (fun _ hk => ⟨hk.1.1.1.1.1, ⟨hk.1.1.1.1.2.1, ⟨hk.1.1.1.1.2.2, ⟨hk.1.1.1.2, ⟨hk.1.1.2, hk.1.2⟩⟩⟩⟩⟩)⟩, ⟨by (with_reducible repeat (first | apply Kd.R_alloc | apply Kd.R_drewN | apply Kd.R_drew)); exact Kd.R_mono (Kd.R_far (p := ⟨gb573, 1, none⟩) (Kd.R_far (p := ⟨gb573, 0, none⟩) (Kd.R_mono HO_19.1 (fun k_ hk => (⟨hk, hk.2⟩ : _ ∧ k_ ≠ gb573))) (fun _ hk => hk.2) (.int .i64 t570)) (fun _ hk => hk.2) (.int .i64 t571)) (fun _ hk => ⟨hk.1.1.1.1.1, ⟨hk.1.1.1.1.2.1, ⟨hk.1.1.1.1.2.2.1, ⟨hk.1.1.1.1.2.2.2, ⟨hk.1.1.1.2, ⟨hk.1.1.2, hk.1.2⟩⟩⟩⟩⟩⟩)⟩, ⟨by (with_reducible repeat (first | apply Kd.R_alloc | apply Kd.R_drewN | apply Kd.R_drew)); exact Kd.R_mono (Kd.R_far (p := ⟨gb573, 1, none⟩) (Kd.R_far (p := ⟨gb573, 0, none⟩) (Kd.R_mono HO_194.1 (fun k_ hk => (⟨hk, hk.2⟩ : _ ∧ k_ ≠ gb573))) (fun _ hk => hk.2) (.int .i64 t570)) (fun _ hk => hk.2) (.int .i64 t571)) (fun _ hk => ⟨hk.1.1.1.1.1, ⟨hk.1.1.1.1.2.1, ⟨hk.1.1.1.1.2.2, ⟨hk.1.1.1.2, ⟨hk.1.1.2, hk.1.2⟩⟩⟩⟩⟩)⟩, ⟨bk BK523⟩, ⟨bk BK524⟩, ⟨bk BK540⟩, ⟨bk BK544⟩, ⟨bk BK565⟩, ⟨bk BK569⟩, ⟨bk BK573⟩, ⟨bq HB⟩⟩
                    clear HC164
                    try clear c1
                    try clear c157
                    try clear c159
                    try clear c159b0
                    try clear c160
                    try clear c160b0
                    try clear c161
                    try clear c161b0
                    try clear hcz170_0
                    try clear hcz170_1
                    try clear hcz174_0
                    try clear hcz174_1
                    try clear hcz174_2
                    try clear hcz182_0
                    try clear hcz182_1
                    try clear hcz185_0
                    try clear hcz185_1
                    try clear hcz185_2
                    try clear hcz186_0
                    try clear hcz186_1
                    try clear hcz195_0
                    try clear hcz195_1
                    try clear hfz170_0
                    try clear hfz170_1
                    try clear hfz174_0
                    try clear hfz174_1
                    try clear hfz174_2
                    try clear hfz182_0
                    try clear hfz182_1
                    try clear hfz185_0
                    try clear hfz185_1
                    try clear hfz185_2
                    try clear hfz186_0
                    try clear hfz186_1
                    try clear hfz195_0
                    try clear hfz195_1
                    try clear hx564_0
                    try clear hx564_1
                    try clear p564
                    try clear q564
                    obtain ⟨kq, x232_163, rfl, HA, HJ163, HO_7, HO_19, HO_194, BK523, BK524, BK540, BK544, BK565, BK569, BK573, HB⟩ := hcut
                    cases kq with
                    | zero => exact absurd HA.1 (by simp [laws_FnHandsMeet.j3])
                    | succ kj163 =>
                      have H := HA.1
                      clear HA
                      simp only [laws_FnHandsMeet.j3] at H
                      by_cases c242 : x232_163 = true
                      · subst c242
                        rw [if_pos rfl] at H
                        exact absurd H (by simp)
                      replace c242 := Bool.eq_false_iff.mpr c242
                      subst c242
                      rw [if_neg (show ¬ (false = true) by decide)] at H
                      replace H := Option.bind_eq_some_iff.mp H
                      obtain ⟨⟨t575, t576, t577⟩, A2430, H⟩ := H
                      (try dsimp only at H)
                      have A243 := Aside0.mk A2430
                      clear A2430
                      by_cases c244 : t577 = true
                      · subst c244
                        rw [if_pos rfl] at H
                        by_cases c245 : t533 = 0
                        · rw [if_pos c245] at H
                          exact absurd H (by simp)
                        rw [if_neg c245] at H
                        have c245b0 : (t533 == 0) = false := beq_eq_false_iff_ne.mpr c245
                        have c245b1 : (t533 != 0) = true := bne_iff_ne.mpr c245
                        obtain ⟨ji246, hji246⟩ : ∃ j_ : Int, (Int.tmod (wrap64 (x196_3 + 1)) t533) = j_ := ⟨_, rfl⟩
                        replace H : (if 0 ≤ (ji246) then (if (ji246) < (t525.length : Int) then (if (!(t575 == ((rd_T25 t525 (ji246)).f0)) || (!(t576 == ((rd_T25 t525 (ji246)).f1)))) = true then (some false) else (laws_FnHandsMeet.l0 kj163 l1 t525 t533 t545 t548 t525 (t525.length : Int) (wrap64 (x196_3 + 1)) t517 t518 t519 t520 t521 t522)) else (none)) else (none)) = some true := by first | (rw [hji246] at H; exact H) | (simp only [hji246] at H ⊢; exact H)
                        (try rw [hji246] at A243)
                        by_cases c247 : 0 ≤ (ji246)
                        · rw [if_pos c247] at H
                          have c247b0 : decide (0 ≤ (ji246)) = true := decide_eq_true c247
                          clear c247
                          by_cases c248 : (ji246) < (t525.length : Int)
                          · rw [if_pos c248] at H
                            have c248b0 : decide ((ji246) < (t525.length : Int)) = true := decide_eq_true c248
                            clear c248
                            by_cases c249 : (!(t575 == ((rd_T25 t525 (ji246)).f0)) || (!(t576 == ((rd_T25 t525 (ji246)).f1)))) = true
                            · rw [if_pos c249] at H
                              have c249b0 : (!(t575 == ((rd_T25 t525 (ji246)).f0)) || (!(t576 == ((rd_T25 t525 (ji246)).f1)))) = true := c249
                              clear c249
                              exact absurd H (by simp)
                            skip
                            rw [if_neg c249] at H
                            have c249b0 : (!(t575 == ((rd_T25 t525 (ji246)).f0)) || (!(t576 == ((rd_T25 t525 (ji246)).f1)))) = false := by simpa using c249
                            clear c249
                            have H' := Aside0.mk H
                            clear H
                            have hnb250 := LT523_524.1
                            have hnb251 := LT523_540.1
                            have hnb252 := LT523_544.1
                            have hnb253 := LT523_565.1
                            have hnb254 := LT523_569.1
                            have hnb255 := LT523_573.1
                            obtain ⟨hcz256_0, hcz256_1, hcz256_2, hfz256_0, hfz256_1, hfz256_2⟩ := zc3 BK523
                            have hnb257 := LT524_540.1
                            have hnb258 := LT524_544.1
                            have hnb259 := LT524_565.1
                            have hnb260 := LT524_569.1
                            have hnb261 := LT524_573.1
                            obtain ⟨hcz262_0, hcz262_1, hcz262_2, hfz262_0, hfz262_1, hfz262_2⟩ := zc3 BK524
                            have hnc263 := LT540_565.1
                            have hnc264 := LT544_565.1
                            have hnb265 := LT565_569.1
                            have hnb266 := LT565_573.1
                            obtain ⟨hcz267_0, hcz267_1, hfz267_0, hfz267_1⟩ := zc2 BK565
                            try go_wp2_with (first | ((with_reducible refine gate_callee (f := 21) rfl ?_); refine gl (some 237) Try.func21 #[.agg #[.int .i64 t517, .int .i64 t518, .int .i64 t519], .agg #[.int .i64 t520, .int .i64 t521, .int .i64 t522], .agg #[.int .i64 ((rd_T25 t525 x196_3).f0), .int .i64 ((rd_T25 t525 x196_3).f1)]] ?_; (with_reducible refine (impl_NextMeet.calls kj163 t517 t518 t519 t520 t521 t522 ((rd_T25 t525 x196_3).f0) ((rd_T25 t525 x196_3).f1) t575 t576 true _ A243.1).mono ?_); rintro e w268 ⟨rfl, hb⟩; refine ⟨_, rfl, ?_⟩; replace HO_7 := rB HO_7 hb; replace HO_19 := rB HO_19 hb; replace HO_194 := rB HO_194 hb; replace BK523 := zb BK523 hb; replace BK524 := zb BK524 hb; replace BK540 := zb BK540 hb; replace BK544 := zb BK544 hb; replace BK565 := zb BK565 hb; replace BK569 := zb BK569 hb; replace BK573 := zb BK573 hb; replace HB := zB HB hb; clear hb) | ((with_reducible refine gate_dst (N := 29) rfl ?_); (try (refine gate_guard (by rfl) ?_; dsimp only)); refine be #[.int .i64 0, .int .i64 0] 25 ?_; intro gb578 hg w269 hbox hb; replace HO_7 := Aside0.mk (Kd.R_below (Kd.R_elderB (rq HO_7) gb578 (Nat.le_of_eq hg.symm)) hb); replace HO_19 := Aside0.mk (Kd.R_below (Kd.R_elderB (rq HO_19) gb578 (Nat.le_of_eq hg.symm)) hb); replace HO_194 := Aside0.mk (Kd.R_below (Kd.R_elderB (rq HO_194) gb578 (Nat.le_of_eq hg.symm)) hb); have BK578 := Aside0.mk hbox; have GW578 := zs HB hg; have GE578 := zs HB hg; have NB523_578 := zn BK523 hg; have LT523_578 := zo BK523 hg; have NB578_523 := zm BK523 hg; have NB524_578 := zn BK524 hg; have LT524_578 := zo BK524 hg; have NB578_524 := zm BK524 hg; have NB540_578 := zn BK540 hg; have LT540_578 := zo BK540 hg; have NB578_540 := zm BK540 hg; have NB544_578 := zn BK544 hg; have LT544_578 := zo BK544 hg; have NB578_544 := zm BK544 hg; have NB565_578 := zn BK565 hg; have LT565_578 := zo BK565 hg; have NB578_565 := zm BK565 hg; have NB569_578 := zn BK569 hg; have LT569_578 := zo BK569 hg; have NB578_569 := zm BK569 hg; have NB573_578 := zn BK573 hg; have LT573_578 := zo BK573 hg; have NB578_573 := zm BK573 hg; replace BK523 := zb BK523 hb; replace BK524 := zb BK524 hb; replace BK540 := zb BK540 hb; replace BK544 := zb BK544 hb; replace BK565 := zb BK565 hb; replace BK569 := zb BK569 hb; replace BK573 := zb BK573 hb; replace HB := zB HB hb; clear hb hbox hg; have hnc270 := LT523_578.1; have hnc271 := LT524_578.1; have hnc272 := LT540_578.1; have hnc273 := LT544_578.1; have hnc274 := LT565_578.1; have hnc275 := LT569_578.1; have hnc276 := LT573_578.1; obtain ⟨hcz277_0, hcz277_1, hfz277_0, hfz277_1⟩ := zc2 BK578))
                            have n0_ : Aside0 (Kd.R k25 25 ((w269.setCell ⟨gb578, 0, none⟩ (.int .i64 t575)).setCell ⟨gb578, 1, none⟩ (.int .i64 t576)) w.heap.size (fun k_ => some k_ ≠ (v546 : Value).ownBlock ∧ k_ ≠ gb540 ∧ k_ ≠ gb544 ∧ k_ ≠ gb565 ∧ k_ ≠ gb569 ∧ k_ ≠ gb573 ∧ k_ ≠ gb578) (.slice (some ad564) t525.length co158) t525) := ⟨by (with_reducible repeat (first | apply Kd.R_alloc | apply Kd.R_drewN | apply Kd.R_drew)); exact Kd.R_mono (Kd.R_far (p := ⟨gb578, 1, none⟩) (Kd.R_far (p := ⟨gb578, 0, none⟩) (Kd.R_mono HO_7.1 (fun k_ hk => (⟨hk, hk.2⟩ : _ ∧ k_ ≠ gb578))) (fun _ hk => hk.2) (.int .i64 t575)) (fun _ hk => hk.2) (.int .i64 t576)) (fun _ hk => ⟨hk.1.1.1, ⟨hk.1.1.2.1, ⟨hk.1.1.2.2.1, ⟨hk.1.1.2.2.2.1, ⟨hk.1.1.2.2.2.2.1, ⟨hk.1.1.2.2.2.2.2, hk.1.2⟩⟩⟩⟩⟩⟩)⟩
                            have n1_ : Aside0 (Kd.R k25 25 ((w269.setCell ⟨gb578, 0, none⟩ (.int .i64 t575)).setCell ⟨gb578, 1, none⟩ (.int .i64 t576)) w.heap.size (fun k_ => some k_ ≠ (.slice (some ad564) t525.length co158 : Value).ownBlock ∧ some k_ ≠ (.slice (some ad564) t525.length co158 : Value).ownBlock ∧ k_ ≠ gb540 ∧ k_ ≠ gb544 ∧ k_ ≠ gb565 ∧ k_ ≠ gb569 ∧ k_ ≠ gb573 ∧ k_ ≠ gb578) v546 t545) := ⟨by (with_reducible repeat (first | apply Kd.R_alloc | apply Kd.R_drewN | apply Kd.R_drew)); exact Kd.R_mono (Kd.R_far (p := ⟨gb578, 1, none⟩) (Kd.R_far (p := ⟨gb578, 0, none⟩) (Kd.R_mono HO_19.1 (fun k_ hk => (⟨hk, hk.2⟩ : _ ∧ k_ ≠ gb578))) (fun _ hk => hk.2) (.int .i64 t575)) (fun _ hk => hk.2) (.int .i64 t576)) (fun _ hk => ⟨hk.1.1.1, ⟨hk.1.1.2.1, ⟨hk.1.1.2.2.1, ⟨hk.1.1.2.2.2.1, ⟨hk.1.1.2.2.2.2.1, ⟨hk.1.1.2.2.2.2.2.1, ⟨hk.1.1.2.2.2.2.2.2, hk.1.2⟩⟩⟩⟩⟩⟩⟩)⟩
                            have n2_ : Aside0 (Kd.R k25 25 ((w269.setCell ⟨gb578, 0, none⟩ (.int .i64 t575)).setCell ⟨gb578, 1, none⟩ (.int .i64 t576)) w.heap.size (fun k_ => some k_ ≠ (v546 : Value).ownBlock ∧ k_ ≠ gb540 ∧ k_ ≠ gb544 ∧ k_ ≠ gb565 ∧ k_ ≠ gb569 ∧ k_ ≠ gb573 ∧ k_ ≠ gb578) (.slice (some ad564) t525.length co158) t525) := ⟨by (with_reducible repeat (first | apply Kd.R_alloc | apply Kd.R_drewN | apply Kd.R_drew)); exact Kd.R_mono (Kd.R_far (p := ⟨gb578, 1, none⟩) (Kd.R_far (p := ⟨gb578, 0, none⟩) (Kd.R_mono HO_194.1 (fun k_ hk => (⟨hk, hk.2⟩ : _ ∧ k_ ≠ gb578))) (fun _ hk => hk.2) (.int .i64 t575)) (fun _ hk => hk.2) (.int .i64 t576)) (fun _ hk => ⟨hk.1.1.1, ⟨hk.1.1.2.1, ⟨hk.1.1.2.2.1, ⟨hk.1.1.2.2.2.1, ⟨hk.1.1.2.2.2.2.1, ⟨hk.1.1.2.2.2.2.2, hk.1.2⟩⟩⟩⟩⟩⟩)⟩
                            have n3_ : Aside0 (((w269.setCell ⟨gb578, 0, none⟩ (.int .i64 t575)).setCell ⟨gb578, 1, none⟩ (.int .i64 t576)).heap[gb523]? = some (.cells #[.int .i64 t517, .int .i64 t518, .int .i64 t519] 27 (0, 0))) := ⟨bk BK523⟩
                            have n4_ : Aside0 (((w269.setCell ⟨gb578, 0, none⟩ (.int .i64 t575)).setCell ⟨gb578, 1, none⟩ (.int .i64 t576)).heap[gb524]? = some (.cells #[.int .i64 t520, .int .i64 t521, .int .i64 t522] 27 (0, 0))) := ⟨bk BK524⟩
                            have n5_ : Aside0 (((w269.setCell ⟨gb578, 0, none⟩ (.int .i64 t575)).setCell ⟨gb578, 1, none⟩ (.int .i64 t576)).heap[gb540]? = some (.cells #[.int .i64 t537, .int .i64 t538] 25 (0, 0))) := ⟨bk BK540⟩
                            have n6_ : Aside0 (((w269.setCell ⟨gb578, 0, none⟩ (.int .i64 t575)).setCell ⟨gb578, 1, none⟩ (.int .i64 t576)).heap[gb544]? = some (.cells #[.int .i64 t541, .int .i64 t542] 25 (0, 0))) := ⟨bk BK544⟩
                            have n7_ : Aside0 (((w269.setCell ⟨gb578, 0, none⟩ (.int .i64 t575)).setCell ⟨gb578, 1, none⟩ (.int .i64 t576)).heap[gb565]? = some (.cells #[.int .i64 ((rd_T25 t525 x196_3).f0), .int .i64 ((rd_T25 t525 x196_3).f1)] 25 (0, 0))) := ⟨bk BK565⟩
                            have n8_ : Aside0 (((w269.setCell ⟨gb578, 0, none⟩ (.int .i64 t575)).setCell ⟨gb578, 1, none⟩ (.int .i64 t576)).heap[gb569]? = some (.cells #[.int .i64 t566, .int .i64 t567] 25 (0, 0))) := ⟨bk BK569⟩
                            have n9_ : Aside0 (((w269.setCell ⟨gb578, 0, none⟩ (.int .i64 t575)).setCell ⟨gb578, 1, none⟩ (.int .i64 t576)).heap[gb573]? = some (.cells #[.int .i64 t570, .int .i64 t571] 25 (0, 0))) := ⟨bk BK573⟩
                            have n10_ : Aside0 (((w269.setCell ⟨gb578, 0, none⟩ (.int .i64 t575)).setCell ⟨gb578, 1, none⟩ (.int .i64 t576)).heap[gb578]? = some (.cells #[.int .i64 t575, .int .i64 t576] 25 (0, 0))) := ⟨bk BK578⟩
                            have n11_ : Aside0 (Below w.heap.size w ((w269.setCell ⟨gb578, 0, none⟩ (.int .i64 t575)).setCell ⟨gb578, 1, none⟩ (.int .i64 t576))) := ⟨bq HB⟩
                            (try clear HO_7)
                            (try clear HO_19)
                            (try clear HO_194)
                            (try clear BK523)
                            (try clear BK524)
                            (try clear BK540)
                            (try clear BK544)
                            (try clear BK565)
                            (try clear BK569)
                            (try clear BK573)
                            (try clear BK578)
                            (try clear HB)
                            generalize ((w269.setCell ⟨gb578, 0, none⟩ (.int .i64 t575)).setCell ⟨gb578, 1, none⟩ (.int .i64 t576)) = w278 at n0_ n1_ n2_ n3_ n4_ n5_ n6_ n7_ n8_ n9_ n10_ n11_ ⊢
                            have HO_7 := n0_
                            have HO_19 := n1_
                            have HO_194 := n2_
                            have BK523 := n3_
                            have BK524 := n4_
                            have BK540 := n5_
                            have BK544 := n6_
                            have BK565 := n7_
                            have BK569 := n8_
                            have BK573 := n9_
                            have BK578 := n10_
                            have HB := n11_
                            clear n0_ n1_ n2_ n3_ n4_ n5_ n6_ n7_ n8_ n9_ n10_ n11_
                            replace HO_7 := Aside0.mk (Kd.R_drew HO_7.1)
                            replace HO_19 := Aside0.mk (Kd.R_drew HO_19.1)
                            replace HO_194 := Aside0.mk (Kd.R_drew HO_194.1)
                            replace BK523 := Aside0.mk (blk_drew BK523.1)
                            replace BK524 := Aside0.mk (blk_drew BK524.1)
                            replace BK540 := Aside0.mk (blk_drew BK540.1)
                            replace BK544 := Aside0.mk (blk_drew BK544.1)
                            replace BK565 := Aside0.mk (blk_drew BK565.1)
                            replace BK569 := Aside0.mk (blk_drew BK569.1)
                            replace BK573 := Aside0.mk (blk_drew BK573.1)
                            replace BK578 := Aside0.mk (blk_drew BK578.1)
                            replace HB := Aside0.mk (below_drew1 HB.1)
                            have p579 : 0 ≤ ((ji246) : Int) := of_decide_eq_true (by first | (with_reducible assumption) | assumption)
                            have q579 : (ji246) < (t525.length : Int) := of_decide_eq_true (by first | (with_reducible assumption) | assumption)
                            obtain ⟨ad579, e579, hx579_0, hx579_1⟩ := at_T25 (Kd.R_reads' HO_7.1).2.2 (ji246) p579 q579
                            obtain rfl : ad564 = ad579 := (by injection e579)
                            replace p579 := eq_true p579
                            replace q579 := eq_true q579
                            refine start_ (n := 13) (S := fun w' => w'.cell? ⟨gb578, 0, none⟩ = some (.int .i64 t575) ∧ w'.cell? ⟨gb578, 1, none⟩ = some (.int .i64 t576) ∧ w'.cell? (ad564.add (((ji246)).toNat * 2)) = some (.int .i64 ((rd_T25 t525 (ji246)).f0)) ∧ w'.cell? ⟨(ad564.add (((ji246)).toNat * 2)).block, (ad564.add (((ji246)).toNat * 2)).off + 1, none⟩ = some (.int .i64 ((rd_T25 t525 (ji246)).f1))) (ds := []) (bs 13 0) (by kernel_rfl) rfl rfl ⟨(blk_cell BK578.1 0).trans rfl, (blk_cell BK578.1 1).trans rfl, hx579_0, hx579_1⟩ (fun hHeld => ?_); refine with_tabW laws_FnHandsMeet.tab25 laws_FnHandsMeet.bits25 (fun HT_ HW_ => ?_)
                            generalize w278.drew = w279 at HO_7 HO_19 HO_194 BK523 BK524 BK540 BK544 BK565 BK569 BK573 BK578 HB hx579_0 hx579_1 hHeld ⊢
                            refine pu 0 240 HT_ rfl rfl (bs 13 1) ?_
                            refine pu 1 241 HT_ rfl rfl (bs 13 3) ?_
                            refine pu 2 242 HT_ rfl rfl (bs 13 7) ?_
                            refine pu 4 244 HT_ rfl rfl (bs 13 23) ?_
                            refine pu 5 245 HT_ rfl rfl (bs 13 55) ?_
                            refine pu 6 246 HT_ rfl rfl (bs 13 119) ?_
                            refine pu 7 247 HT_ rfl rfl (bs 13 247) ?_
                            refine pu 8 248 HT_ rfl rfl (bs 13 503) ?_
                            refine pu 9 249 HT_ rfl rfl (bs 13 1015) ?_
                            refine tk 3 243 HT_ HW_ hHeld rfl rfl (bs 13 1023) ?_
                            refine tk 10 250 HT_ HW_ hHeld rfl rfl (bs 13 2047) ?_
                            refine pu 11 251 HT_ rfl rfl (bs 13 4095) ?_
                            refine pu 12 252 HT_ rfl rfl (bs 13 8191) ?_
                            refine done_ (done_of HT_.1 (by kernel_rfl)) ?_
                            try go_wp2
                            go_roundg kj163
                            case measure => have := HJ13.1; have := HJ141.1; have := HK3.1; have := HJ163.1; omega
                            case rel => exact ⟨(wrap64 (x196_3 + 1)), ew, H', ⟨by have := HJ13.1; have := HJ141.1; have := HK3.1; have := HJ163.1; omega⟩, ⟨by (with_reducible repeat (first | apply Kd.R_alloc | apply Kd.R_drewN | apply Kd.R_drew)); exact Kd.R_mono HO_7.1 (fun _ hk => ⟨hk.1, ⟨hk.2.1, hk.2.2.1⟩⟩)⟩, ⟨by (with_reducible repeat (first | apply Kd.R_alloc | apply Kd.R_drewN | apply Kd.R_drew)); exact Kd.R_mono HO_19.1 (fun _ hk => ⟨hk.1, ⟨hk.2.1, ⟨hk.2.2.1, hk.2.2.2.1⟩⟩⟩)⟩, ⟨by (with_reducible repeat (first | apply Kd.R_alloc | apply Kd.R_drewN | apply Kd.R_drew)); exact Kd.R_mono HO_194.1 (fun _ hk => ⟨hk.1, ⟨hk.2.1, hk.2.2.1⟩⟩)⟩, ⟨bk BK523⟩, ⟨bk BK524⟩, ⟨bk BK540⟩, ⟨bk BK544⟩, ⟨bq HB⟩⟩
                          rw [if_neg c248] at H
                          exact absurd H (by simp)
                        rw [if_neg c247] at H
                        exact absurd H (by simp)
                      replace c244 := Bool.eq_false_iff.mpr c244
                      subst c244
                      rw [if_neg (show ¬ (false = true) by decide)] at H
                      exact absurd H (by simp)
                  rw [if_neg c161] at H
                  exact absurd H (by simp)
                rw [if_neg c160] at H
                exact absurd H (by simp)
              rw [if_neg c159] at H
              have c159b0 : decide (x196_3 < (t525.length : Int)) = false := decide_eq_false c159
              clear c159
              replace H := Option.bind_eq_some_iff.mp H
              obtain ⟨⟨t580, t583⟩, A2800, H⟩ := H
              (try dsimp only at H)
              have A280 := Aside0.mk A2800
              clear A2800
              by_cases c281 : t583 = true
              · subst c281
                rw [if_pos rfl] at H
                replace H := Option.bind_eq_some_iff.mp H
                obtain ⟨t584, A2820, H⟩ := H
                (try dsimp only at H)
                have A282 := Aside0.mk A2820
                clear A2820
                by_cases c283 : t584 = true
                · subst c283
                  rw [if_pos rfl] at H
                  have H' := Aside0.mk H
                  clear H
                  have hnc284 := LT523_524.1
                  have hnb285 := LT524_540.1
                  have hnb286 := LT524_544.1
                  obtain ⟨hcz287_0, hcz287_1, hcz287_2, hfz287_0, hfz287_1, hfz287_2⟩ := zc3 BK524
                  have hnb288 := LT523_540.1
                  have hnb289 := LT523_544.1
                  obtain ⟨hcz290_0, hcz290_1, hcz290_2, hfz290_0, hfz290_1, hfz290_2⟩ := zc3 BK523
                  go_wp2_with (first | ((with_reducible refine gate_callee (f := 6) rfl ?_); refine gl (some 257) Try.func6 #[.agg #[.int .i64 t520, .int .i64 t521, .int .i64 t522], .agg #[.int .i64 t517, .int .i64 t518, .int .i64 t519]] ?_; (with_reducible refine (impl_MeetTimes.calls k3 t520 t521 t522 t517 t518 t519 t580 true _ A280.1).mono ?_); rintro e w291 ⟨v581, rfl, ho0, hb⟩; refine ⟨_, rfl, ?_⟩; have HO582 := Aside0.mk (Kd.R_lower (Kd.R_newB (Kd.R_newB (Kd.R_new' (Kd.R_new' (Kd.R_new' ho0 (Kd.R_lt (rq HO_7))) (Kd.R_lt (rq HO_19))) (Kd.R_lt (rq HO_194))) (g := gb540) (o := .cells #[.int .i64 t537, .int .i64 t538] 25 (0, 0)) (bk BK540)) (g := gb544) (o := .cells #[.int .i64 t541, .int .i64 t542] 25 (0, 0)) (bk BK544)) (below_size (bq HB))); replace HO_7 := Aside0.mk (Kd.R_elder' (rq HO_7) (Kd.R_base ho0) hb); replace HO_19 := Aside0.mk (Kd.R_elder' (rq HO_19) (Kd.R_base ho0) hb); replace HO_194 := Aside0.mk (Kd.R_elder' (rq HO_194) (Kd.R_base ho0) hb); replace BK523 := zb BK523 hb; replace BK524 := zb BK524 hb; replace BK540 := zb BK540 hb; replace BK544 := zb BK544 hb; replace HB := zB HB hb; (try clear hb); (try clear hb2); (try clear hk); (try clear hi); (try clear ho0); obtain ⟨Ao292, co292, eo292⟩ := Kd.R_slice HO582.1; subst eo292) | (go_at_call 14; (with_reducible refine (laws_kTurns.calls k3 _ _ t580 _ _ t525 true _ ?side1 ?side2 ?side3 ?side4 A282.1).mono ?_); (case side1 => repeat (first | exact (Kd.R_reads' HO582.1).2.2 | (with_reducible refine Kd.C_alloc ?_ _) | (with_reducible refine Kd.C_drewN ?_ _) | (with_reducible refine Kd.C_drew ?_))); (case side2 => exact (Kd.R_reads' HO582.1).2.1); (case side3 => repeat (first | exact (Kd.R_reads' HO_7.1).2.2 | (with_reducible refine Kd.C_alloc ?_ _) | (with_reducible refine Kd.C_drewN ?_ _) | (with_reducible refine Kd.C_drew ?_))); (case side4 => exact (Kd.R_reads' HO_7.1).2.1); rintro e w' ⟨rfl, ⟨nd, rfl⟩⟩))
                  go_meet
                  case rel => exact ⟨_, H', ⟨by have := HJ13.1; have := HJ141.1; have := HK3.1; first | omega | exact Nat.le_refl _⟩, ⟨by (with_reducible repeat (first | apply Kd.R_alloc | apply Kd.R_drewN | apply Kd.R_drew)); exact Kd.R_mono HO_19.1 (fun _ hk => ⟨hk.1.2.2.1, hk.1.2.2.2⟩)⟩, ⟨bk BK540⟩, ⟨bk BK544⟩, ⟨bq HB⟩⟩
                replace c283 := Bool.eq_false_iff.mpr c283
                subst c283
                rw [if_neg (show ¬ (false = true) by decide)] at H
                exact absurd H (by simp)
              replace c281 := Bool.eq_false_iff.mpr c281
              subst c281
              rw [if_neg (show ¬ (false = true) by decide)] at H
              exact absurd H (by simp)
      replace c141 := Bool.eq_false_iff.mpr c141
      subst c141
      rw [if_neg (show ¬ (false = true) by decide)] at H
      have H' := Aside0.mk H
      clear H
      go_wp2
      go_meet
      case rel => exact ⟨_, H', ⟨by have := HJ13.1; first | omega | exact Nat.le_refl _⟩, ⟨by (with_reducible repeat (first | apply Kd.R_alloc | apply Kd.R_drewN | apply Kd.R_drew)); exact Kd.R_mono HO_19.1 (fun _ hk => ⟨hk.2.1, hk.2.2⟩)⟩, ⟨bk BK540⟩, ⟨bk BK544⟩, ⟨bq HB⟩⟩
    clear HC140
    try clear c1
    obtain ⟨kq, HA, HJ139, HO_19, BK540, BK544, HB⟩ := hcut
    exact laws_FnHandsMeet.rest2 HR0 HC0 HR1 HC1 A3 A5 A6 A7 A8 A9 A10 A11 A12 A13 GW523 GE523 GW524 GE524 NB523_524 LT523_524 NB524_523 GW540 GE540 NB523_540 LT523_540 NB540_523 NB524_540 LT524_540 NB540_524 GW544 GE544 NB523_544 LT523_544 NB544_523 NB524_544 LT524_544 NB544_524 NB540_544 LT540_544 NB544_540 HJ13 HA HJ139 HO_19 BK540 BK544 HB _ (fun a w h_ => by go_step; exact cut_lit h_ rfl)

end Go.Proofs.Ytoneipoioiokcaa.PFnHandsMeet
