/- The statement FnExactTimesAlike: for whatever arguments the law returns true, and each argument reads behind the call as it read before; no condition. -/
import Derived.Test.YtbcpdgiinebnaaaRows
import Derived.Test.YtbcpdgiinebnaaaPFnExactTimesAlikex12
import Derived.Test.YtbcpdgiinebnaaaPureFnExactTimesAlike
import Derived.WalkKit
import Derived.ProofKit
import Derived.OpenShut
import Derived.ShutString
import Derived.ChangeOld
import Derived.Below
import Derived.SizedLaws
import Derived.ChangeArms
import Derived.WideShapes
import Derived.Test.YtbcpdgiinebnaaaWSized
namespace Go.Proofs.Ytbcpdgiinebnaaa.fnExactTimesAlike
open Go.ChangeShapes Go.WideShapes Go.ChangeAt Go.RowKit
open Go.ChangeMaps (open_string shut_string)
set_option linter.unusedVariables false
set_option linter.unusedSimpArgs false
theorem own : ownKnob Try.prog.godebug = none := by kernel_rfl
theorem laidOut : laidOutB Try.prog = true := by kernel_rfl
theorem gen29 {H : Type} {P : Program} {enc : TypeId × Value → H} {w : World} {base : Nat} {spare : Nat → Bool} {held : Bool} {fs : Array Field} (hs : P.underlying 29 = some (.struct fs)) (hn : fs.size = 2) (hc : P.cellsOf 29 = 2) (f0 : Field) (e0 : fs[0]? = some f0) (t0 : f0.type = 3) (o0 : f0.offset = 0) (c0 : P.cellsOf 3 = 1) (u0 : ∀ {fuel : Nat} {cs : List Value} {x : DataW H × List MemPlace}, DataW.trod enc P w base spare held fuel 3 cs = some x → ∃ b0 : Int, cs = [.int .i64 b0] ∧ (Lit.int .i64 b0).wf = true) (f1 : Field) (e1 : fs[1]? = some f1) (t1 : f1.type = 3) (o1 : f1.offset = 1) (c1 : P.cellsOf 3 = 1) (u1 : ∀ {fuel : Nat} {cs : List Value} {x : DataW H × List MemPlace}, DataW.trod enc P w base spare held fuel 3 cs = some x → ∃ b0 : Int, cs = [.int .i64 b0] ∧ (Lit.int .i64 b0).wf = true) {fuel : Nat} {cs : List Value} {x : DataW H × List MemPlace} (h : DataW.trod enc P w base spare held fuel 29 cs = some x) :
    ∃ b0 b1 : Int, cs = [.int .i64 b0, .int .i64 b1] ∧ (Lit.int .i64 b0).wf = true ∧ (Lit.int .i64 b1).wf = true := by
  obtain ⟨xs, n, _, _, hl, hlen, hg⟩ := DataW.trod_struct hs h
  rw [hc] at hl
  rw [hn] at hlen
  have g0 := hg 0 f0 e0
  rw [t0, o0, c0] at g0
  have g1 := hg 1 f1 e1
  rw [t1, o1, c1] at g1
  match cs, hl, xs, hlen with
  | [q0, q1], _, [y0, y1], _ =>
    obtain ⟨b0, r0, w0⟩ := u0 g0
    simp at r0
    obtain ⟨b1, r1, w1⟩ := u1 g1
    simp at r1
    refine ⟨b0, b1, ?_, w0, w1⟩
    simp [r0, r1]
set_option maxRecDepth 100000 in
theorem flat29 {H : Type} {enc : TypeId × Value → H} {w : World} {base : Nat} {spare : Nat → Bool} {held : Bool} {fuel : Nat} {cs : List Value} {x : DataW H × List MemPlace} (h : DataW.trod enc Try.prog w base spare held fuel 29 cs = some x) :
    ∃ b0 b1 : Int, cs = [.int .i64 b0, .int .i64 b1] ∧ (Lit.int .i64 b0).wf = true ∧ (Lit.int .i64 b1).wf = true :=
  gen29 Try.underlying29 rfl (by kernel_rfl) _ rfl rfl rfl (by kernel_rfl) (fun h => by obtain ⟨a, e, _, w⟩ := DataW.trod_int Try.underlying3 h; exact ⟨a, e, w⟩) _ rfl rfl rfl (by kernel_rfl) (fun h => by obtain ⟨a, e, _, w⟩ := DataW.trod_int Try.underlying3 h; exact ⟨a, e, w⟩) h
theorem gopen29 {H : Type} {P : Program} {enc : TypeId × Value → H} {w : World} {base b0 : Nat} {spare : Nat → Bool} {held : Bool} {r : Reach} {v : Value} {d : DataW H} {p : List MemPlace} {fs : Array Field} (hs : P.underlying 29 = some (.struct fs)) (fl : ∀ {fuel : Nat} {cs : List Value} {x : DataW H × List MemPlace}, DataW.trod enc P w base spare held fuel 29 cs = some x → ∃ b0 b1 : Int, cs = [.int .i64 b0, .int .i64 b1] ∧ (Lit.int .i64 b0).wf = true ∧ (Lit.int .i64 b1).wf = true) (hv : Value.okWide P w r b0 29 v) (h : DataW.Trod enc P w base spare held 29 v d p) :
    ∃ b0 b1 : Int, v = .agg #[.int .i64 b0, .int .i64 b1] ∧ (Lit.int .i64 b0).wf = true ∧ (Lit.int .i64 b1).wf = true := by
  obtain ⟨cs, rfl, _⟩ := okWide_struct hs hv
  obtain ⟨l⟩ := cs
  obtain ⟨fuel, hf⟩ := h
  obtain ⟨b0, b1, e, hw⟩ := fl hf
  have e2 : l = [.int .i64 b0, .int .i64 b1] := e
  subst e2
  exact ⟨b0, b1, rfl, hw⟩
set_option maxRecDepth 100000 in
theorem open29 {H : Type} {enc : TypeId × Value → H} {w : World} {base b0 : Nat} {spare : Nat → Bool} {held : Bool} {r : Reach} {v : Value} {d : DataW H} {p : List MemPlace} (hv : Value.okWide Try.prog w r b0 29 v) (h : DataW.Trod enc Try.prog w base spare held 29 v d p) :
    ∃ b0 b1 : Int, v = .agg #[.int .i64 b0, .int .i64 b1] ∧ (Lit.int .i64 b0).wf = true ∧ (Lit.int .i64 b1).wf = true := gopen29 Try.underlying29 (fun h => flat29 h) hv h
theorem gen31 {H : Type} {P : Program} {enc : TypeId × Value → H} {w : World} {base : Nat} {spare : Nat → Bool} {held : Bool} {fs : Array Field} (hs : P.underlying 31 = some (.struct fs)) (hn : fs.size = 2) (hc : P.cellsOf 31 = 4) (f0 : Field) (e0 : fs[0]? = some f0) (t0 : f0.type = 29) (o0 : f0.offset = 0) (c0 : P.cellsOf 29 = 2) (u0 : ∀ {fuel : Nat} {cs : List Value} {x : DataW H × List MemPlace}, DataW.trod enc P w base spare held fuel 29 cs = some x → ∃ b0 b1 : Int, cs = [.int .i64 b0, .int .i64 b1] ∧ (Lit.int .i64 b0).wf = true ∧ (Lit.int .i64 b1).wf = true) (f1 : Field) (e1 : fs[1]? = some f1) (t1 : f1.type = 29) (o1 : f1.offset = 2) (c1 : P.cellsOf 29 = 2) (u1 : ∀ {fuel : Nat} {cs : List Value} {x : DataW H × List MemPlace}, DataW.trod enc P w base spare held fuel 29 cs = some x → ∃ b0 b1 : Int, cs = [.int .i64 b0, .int .i64 b1] ∧ (Lit.int .i64 b0).wf = true ∧ (Lit.int .i64 b1).wf = true) {fuel : Nat} {cs : List Value} {x : DataW H × List MemPlace} (h : DataW.trod enc P w base spare held fuel 31 cs = some x) :
    ∃ b0 b1 b2 b3 : Int, cs = [.int .i64 b0, .int .i64 b1, .int .i64 b2, .int .i64 b3] ∧ (Lit.int .i64 b0).wf = true ∧ (Lit.int .i64 b1).wf = true ∧ (Lit.int .i64 b2).wf = true ∧ (Lit.int .i64 b3).wf = true := by
  obtain ⟨xs, n, _, _, hl, hlen, hg⟩ := DataW.trod_struct hs h
  rw [hc] at hl
  rw [hn] at hlen
  have g0 := hg 0 f0 e0
  rw [t0, o0, c0] at g0
  have g1 := hg 1 f1 e1
  rw [t1, o1, c1] at g1
  match cs, hl, xs, hlen with
  | [q0, q1, q2, q3], _, [y0, y1], _ =>
    obtain ⟨b0, b1, r0, w0, w1⟩ := u0 g0
    simp at r0
    obtain ⟨b2, b3, r1, w2, w3⟩ := u1 g1
    simp at r1
    refine ⟨b0, b1, b2, b3, ?_, w0, w1, w2, w3⟩
    simp [r0, r1]
set_option maxRecDepth 100000 in
theorem flat31 {H : Type} {enc : TypeId × Value → H} {w : World} {base : Nat} {spare : Nat → Bool} {held : Bool} {fuel : Nat} {cs : List Value} {x : DataW H × List MemPlace} (h : DataW.trod enc Try.prog w base spare held fuel 31 cs = some x) :
    ∃ b0 b1 b2 b3 : Int, cs = [.int .i64 b0, .int .i64 b1, .int .i64 b2, .int .i64 b3] ∧ (Lit.int .i64 b0).wf = true ∧ (Lit.int .i64 b1).wf = true ∧ (Lit.int .i64 b2).wf = true ∧ (Lit.int .i64 b3).wf = true :=
  gen31 Try.underlying31 rfl (by kernel_rfl) _ rfl rfl rfl (by kernel_rfl) (fun h => flat29 h) _ rfl rfl rfl (by kernel_rfl) (fun h => flat29 h) h
theorem gopen31 {H : Type} {P : Program} {enc : TypeId × Value → H} {w : World} {base b0 : Nat} {spare : Nat → Bool} {held : Bool} {r : Reach} {v : Value} {d : DataW H} {p : List MemPlace} {fs : Array Field} (hs : P.underlying 31 = some (.struct fs)) (fl : ∀ {fuel : Nat} {cs : List Value} {x : DataW H × List MemPlace}, DataW.trod enc P w base spare held fuel 31 cs = some x → ∃ b0 b1 b2 b3 : Int, cs = [.int .i64 b0, .int .i64 b1, .int .i64 b2, .int .i64 b3] ∧ (Lit.int .i64 b0).wf = true ∧ (Lit.int .i64 b1).wf = true ∧ (Lit.int .i64 b2).wf = true ∧ (Lit.int .i64 b3).wf = true) (hv : Value.okWide P w r b0 31 v) (h : DataW.Trod enc P w base spare held 31 v d p) :
    ∃ b0 b1 b2 b3 : Int, v = .agg #[.int .i64 b0, .int .i64 b1, .int .i64 b2, .int .i64 b3] ∧ (Lit.int .i64 b0).wf = true ∧ (Lit.int .i64 b1).wf = true ∧ (Lit.int .i64 b2).wf = true ∧ (Lit.int .i64 b3).wf = true := by
  obtain ⟨cs, rfl, _⟩ := okWide_struct hs hv
  obtain ⟨l⟩ := cs
  obtain ⟨fuel, hf⟩ := h
  obtain ⟨b0, b1, b2, b3, e, hw⟩ := fl hf
  have e2 : l = [.int .i64 b0, .int .i64 b1, .int .i64 b2, .int .i64 b3] := e
  subst e2
  exact ⟨b0, b1, b2, b3, rfl, hw⟩
set_option maxRecDepth 100000 in
theorem open31 {H : Type} {enc : TypeId × Value → H} {w : World} {base b0 : Nat} {spare : Nat → Bool} {held : Bool} {r : Reach} {v : Value} {d : DataW H} {p : List MemPlace} (hv : Value.okWide Try.prog w r b0 31 v) (h : DataW.Trod enc Try.prog w base spare held 31 v d p) :
    ∃ b0 b1 b2 b3 : Int, v = .agg #[.int .i64 b0, .int .i64 b1, .int .i64 b2, .int .i64 b3] ∧ (Lit.int .i64 b0).wf = true ∧ (Lit.int .i64 b1).wf = true ∧ (Lit.int .i64 b2).wf = true ∧ (Lit.int .i64 b3).wf = true := gopen31 Try.underlying31 (fun h => flat31 h) hv h
set_option maxRecDepth 100000 in
theorem lifted (os : Os) (started : os.Started) (H : Type) (enc : TypeId × Value → H) :
    ReturnsInHanded {} Try.checked os 13 .any (Rows.fnExactTimesAlikeSpec.pre6 enc Try.prog Try.f13 Rows.fnExactTimesAlikeRow.domain false) (Rows.fnExactTimesAlikeSpec.post enc Try.prog Try.f13 false true false false) := by
  refine returnsInHanded_of_change_sized (C := Try.checked) own started (by kernel_rfl) Try.func13
    (ChangeSpec.witness6 (enc := enc) (C := Try.checked) false ⟨#[], #[.int .i64 0, .agg #[.int .i64 0, .int .i64 0, .int .i64 0, .int .i64 0]], []⟩ 8 (by kernel_rfl) (by kernel_rfl) (by kernel_rfl) (by kernel_rfl)) ?_
  intro W base args ds gs before hval0 hW hcnd hsz0 _
  have hsz : (DataW.weightsEach Try.prog (Try.f13.params.toList ++ Rows.fnExactTimesAlikeSpec.plain.varTypes Try.prog) (ds ++ gs)).all (· ≤ reachBytes) = true := hsz0
  have hval : ∀ (j : Nat) t v, Try.f13.params[j]? = some t → args[j]? = some v → Value.okWide Try.prog W .any base t v := hval0
  have hW' := hW
  obtain ⟨p, q, hA0, hV, rfl, hfz, hnd⟩ := hW
  have hA : DataW.TrodAll enc Try.prog W 0 (fun _ => true) true Try.f13.params.toList args.toList ds p := hA0
  rw [Try.params13] at hA hval hsz
  obtain ⟨v0, vs0, d0, ds0, p0, q0, hargs, rfl, rfl, h0, r0⟩ := trodAll_cons hA
  obtain ⟨v1, vs1, d1, ds1, p1, q1, rfl, rfl, rfl, h1, r1⟩ := trodAll_cons r0
  obtain ⟨rfl, rfl, rfl⟩ := trodAll_nil r1
  obtain rfl : args = #[v0, v1] := by cases args; simp_all
  obtain ⟨rfl, rfl⟩ := trodVars_none hV
  obtain ⟨a0, rfl, rfl, rfl, wa0⟩ := open_int Try.underlying3 (hval 0 3 v0 rfl rfl) h0
  have lt1 : ∀ x ∈ p1, x.block < W.heap.size := by obtain ⟨m, hm⟩ := h1; exact DataW.trod_lt m _ _ _ hm
  obtain ⟨a1_0, a1_1, a1_2, a1_3, rfl, wa1_0, wa1_1, wa1_2, wa1_3⟩ := open31 (hval 1 31 v1 rfl rfl) h1
  clear hA0 hval0 hsz0 hsz
  refine (PFnExactTimesAlike.laws_FnExactTimesAlike.walk Pure.FnExactTimesAlike a0 a1_0 a1_1 a1_2 a1_3 W wa0 wa1_0 wa1_1 wa1_2 wa1_3).mono fun e W' ⟨he, bel⟩ => ?_
  subst he
  exact ⟨_, rfl, _, _, _, [], _, [], hW', trodAll_mk1 (shut_bool Try.underlying4 _), (trodAll_cons_mk (shut_int Try.underlying3 wa0) (trodAll_cons_mk (Below.trod laidOut (by kernel_rfl) (of_decide_eq_true (by kernel_rfl)) h1 bel lt1) trodAll_mk0)), rfl, bel.frame _, fun h => by cases h⟩
theorem over : Rows.fnExactTimesAlikeRow.holds Try.pinned (OpenSpec.ofChange Rows.fnExactTimesAlikeSpec) :=
  OpenClaim.holds_of_wide 13 Try.f13 rfl rfl rfl rfl rfl rfl rfl ⟨rfl, rfl, rfl, rfl, rfl⟩ rfl rfl rfl rfl rfl (by kernel_rfl) Try.func13 (by kernel_rfl)
    (of_decide_eq_true (by kernel_rfl)) (by unfold Func.isWrapper; first | (rw [if_pos (by decide +kernel)]; kernel_rfl) | (rw [if_neg (by decide +kernel)]; exact ⟨rfl, rfl⟩))
    (fun os started H enc _ => lifted os started H enc)
theorem proved : Rows.FnExactTimesAlikeSaid := over
#print axioms proved
end Go.Proofs.Ytbcpdgiinebnaaa.fnExactTimesAlike
namespace Go.Proofs.Ytbcpdgiinebnaaa
/-- The row, under a short name, for the claim. -/
theorem fnExactTimesAlike_holds : Rows.FnExactTimesAlikeSaid := fnExactTimesAlike.proved
end Go.Proofs.Ytbcpdgiinebnaaa
