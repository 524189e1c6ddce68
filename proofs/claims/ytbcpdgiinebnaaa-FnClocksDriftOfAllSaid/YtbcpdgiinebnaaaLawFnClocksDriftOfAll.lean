/- The statement FnClocksDriftOfAll: for whatever arguments the law returns true, and each argument reads behind the call as it read before; no condition. -/
import Derived.Test.YtbcpdgiinebnaaaRows
import Derived.Test.YtbcpdgiinebnaaaPFnClocksDriftOfAllx22
import Derived.Test.YtbcpdgiinebnaaaPureFnClocksDriftOfAll
import Derived.WalkKit
import Derived.ProofKit
import Derived.OpenShut
import Derived.ShutString
import Derived.ChangeOld
import Derived.Below
import Derived.SizedLaws
import Derived.ChangeArms
import Derived.WideShapes
import Derived.Test.YtbcpdgiinebnaaaWSized
namespace Go.Proofs.Ytbcpdgiinebnaaa.fnClocksDriftOfAll
open Go.ChangeShapes Go.WideShapes Go.ChangeAt Go.RowKit
open Go.ChangeMaps (open_string shut_string)
set_option linter.unusedVariables false
set_option linter.unusedSimpArgs false
theorem own : ownKnob Try.prog.godebug = none := by kernel_rfl
theorem laidOut : laidOutB Try.prog = true := by kernel_rfl
theorem gen35 {H : Type} {P : Program} {enc : TypeId × Value → H} {w : World} {base : Nat} {spare : Nat → Bool} {held : Bool} {fs : Array Field} (hs : P.underlying 35 = some (.struct fs)) (hn : fs.size = 2) (hc : P.cellsOf 35 = 2) (f0 : Field) (e0 : fs[0]? = some f0) (t0 : f0.type = 3) (o0 : f0.offset = 0) (c0 : P.cellsOf 3 = 1) (u0 : ∀ {fuel : Nat} {cs : List Value} {x : DataW H × List MemPlace}, DataW.trod enc P w base spare held fuel 3 cs = some x → ∃ b0 : Int, cs = [.int .i64 b0] ∧ (Lit.int .i64 b0).wf = true) (f1 : Field) (e1 : fs[1]? = some f1) (t1 : f1.type = 3) (o1 : f1.offset = 1) (c1 : P.cellsOf 3 = 1) (u1 : ∀ {fuel : Nat} {cs : List Value} {x : DataW H × List MemPlace}, DataW.trod enc P w base spare held fuel 3 cs = some x → ∃ b0 : Int, cs = [.int .i64 b0] ∧ (Lit.int .i64 b0).wf = true) {fuel : Nat} {cs : List Value} {x : DataW H × List MemPlace} (h : DataW.trod enc P w base spare held fuel 35 cs = some x) :
    ∃ b0 b1 : Int, cs = [.int .i64 b0, .int .i64 b1] ∧ (Lit.int .i64 b0).wf = true ∧ (Lit.int .i64 b1).wf = true := by
  obtain ⟨xs, n, _, _, hl, hlen, hg⟩ := DataW.trod_struct hs h
  rw [hc] at hl
  rw [hn] at hlen
  have g0 := hg 0 f0 e0
  rw [t0, o0, c0] at g0
  have g1 := hg 1 f1 e1
  rw [t1, o1, c1] at g1
  match cs, hl, xs, hlen with
  | [q0, q1], _, [y0, y1], _ =>
    obtain ⟨b0, r0, w0⟩ := u0 g0
    simp at r0
    obtain ⟨b1, r1, w1⟩ := u1 g1
    simp at r1
    refine ⟨b0, b1, ?_, w0, w1⟩
    simp [r0, r1]
set_option maxRecDepth 100000 in
theorem flat35 {H : Type} {enc : TypeId × Value → H} {w : World} {base : Nat} {spare : Nat → Bool} {held : Bool} {fuel : Nat} {cs : List Value} {x : DataW H × List MemPlace} (h : DataW.trod enc Try.prog w base spare held fuel 35 cs = some x) :
    ∃ b0 b1 : Int, cs = [.int .i64 b0, .int .i64 b1] ∧ (Lit.int .i64 b0).wf = true ∧ (Lit.int .i64 b1).wf = true :=
  gen35 Try.underlying35 rfl (by kernel_rfl) _ rfl rfl rfl (by kernel_rfl) (fun h => by obtain ⟨a, e, _, w⟩ := DataW.trod_int Try.underlying3 h; exact ⟨a, e, w⟩) _ rfl rfl rfl (by kernel_rfl) (fun h => by obtain ⟨a, e, _, w⟩ := DataW.trod_int Try.underlying3 h; exact ⟨a, e, w⟩) h
theorem gopen35 {H : Type} {P : Program} {enc : TypeId × Value → H} {w : World} {base b0 : Nat} {spare : Nat → Bool} {held : Bool} {r : Reach} {v : Value} {d : DataW H} {p : List MemPlace} {fs : Array Field} (hs : P.underlying 35 = some (.struct fs)) (fl : ∀ {fuel : Nat} {cs : List Value} {x : DataW H × List MemPlace}, DataW.trod enc P w base spare held fuel 35 cs = some x → ∃ b0 b1 : Int, cs = [.int .i64 b0, .int .i64 b1] ∧ (Lit.int .i64 b0).wf = true ∧ (Lit.int .i64 b1).wf = true) (hv : Value.okWide P w r b0 35 v) (h : DataW.Trod enc P w base spare held 35 v d p) :
    ∃ b0 b1 : Int, v = .agg #[.int .i64 b0, .int .i64 b1] ∧ (Lit.int .i64 b0).wf = true ∧ (Lit.int .i64 b1).wf = true := by
  obtain ⟨cs, rfl, _⟩ := okWide_struct hs hv
  obtain ⟨l⟩ := cs
  obtain ⟨fuel, hf⟩ := h
  obtain ⟨b0, b1, e, hw⟩ := fl hf
  have e2 : l = [.int .i64 b0, .int .i64 b1] := e
  subst e2
  exact ⟨b0, b1, rfl, hw⟩
set_option maxRecDepth 100000 in
theorem open35 {H : Type} {enc : TypeId × Value → H} {w : World} {base b0 : Nat} {spare : Nat → Bool} {held : Bool} {r : Reach} {v : Value} {d : DataW H} {p : List MemPlace} (hv : Value.okWide Try.prog w r b0 35 v) (h : DataW.Trod enc Try.prog w base spare held 35 v d p) :
    ∃ b0 b1 : Int, v = .agg #[.int .i64 b0, .int .i64 b1] ∧ (Lit.int .i64 b0).wf = true ∧ (Lit.int .i64 b1).wf = true := gopen35 Try.underlying35 (fun h => flat35 h) hv h
theorem gen43 {H : Type} {P : Program} {enc : TypeId × Value → H} {w : World} {base : Nat} {spare : Nat → Bool} {held : Bool} {fs : Array Field} (hs : P.underlying 43 = some (.struct fs)) (hn : fs.size = 3) (hc : P.cellsOf 43 = 4) (f0 : Field) (e0 : fs[0]? = some f0) (t0 : f0.type = 35) (o0 : f0.offset = 0) (c0 : P.cellsOf 35 = 2) (u0 : ∀ {fuel : Nat} {cs : List Value} {x : DataW H × List MemPlace}, DataW.trod enc P w base spare held fuel 35 cs = some x → ∃ b0 b1 : Int, cs = [.int .i64 b0, .int .i64 b1] ∧ (Lit.int .i64 b0).wf = true ∧ (Lit.int .i64 b1).wf = true) (f1 : Field) (e1 : fs[1]? = some f1) (t1 : f1.type = 3) (o1 : f1.offset = 2) (c1 : P.cellsOf 3 = 1) (u1 : ∀ {fuel : Nat} {cs : List Value} {x : DataW H × List MemPlace}, DataW.trod enc P w base spare held fuel 3 cs = some x → ∃ b0 : Int, cs = [.int .i64 b0] ∧ (Lit.int .i64 b0).wf = true) (f2 : Field) (e2 : fs[2]? = some f2) (t2 : f2.type = 3) (o2 : f2.offset = 3) (c2 : P.cellsOf 3 = 1) (u2 : ∀ {fuel : Nat} {cs : List Value} {x : DataW H × List MemPlace}, DataW.trod enc P w base spare held fuel 3 cs = some x → ∃ b0 : Int, cs = [.int .i64 b0] ∧ (Lit.int .i64 b0).wf = true) {fuel : Nat} {cs : List Value} {x : DataW H × List MemPlace} (h : DataW.trod enc P w base spare held fuel 43 cs = some x) :
    ∃ b0 b1 b2 b3 : Int, cs = [.int .i64 b0, .int .i64 b1, .int .i64 b2, .int .i64 b3] ∧ (Lit.int .i64 b0).wf = true ∧ (Lit.int .i64 b1).wf = true ∧ (Lit.int .i64 b2).wf = true ∧ (Lit.int .i64 b3).wf = true := by
  obtain ⟨xs, n, _, _, hl, hlen, hg⟩ := DataW.trod_struct hs h
  rw [hc] at hl
  rw [hn] at hlen
  have g0 := hg 0 f0 e0
  rw [t0, o0, c0] at g0
  have g1 := hg 1 f1 e1
  rw [t1, o1, c1] at g1
  have g2 := hg 2 f2 e2
  rw [t2, o2, c2] at g2
  match cs, hl, xs, hlen with
  | [q0, q1, q2, q3], _, [y0, y1, y2], _ =>
    obtain ⟨b0, b1, r0, w0, w1⟩ := u0 g0
    simp at r0
    obtain ⟨b2, r1, w2⟩ := u1 g1
    simp at r1
    obtain ⟨b3, r2, w3⟩ := u2 g2
    simp at r2
    refine ⟨b0, b1, b2, b3, ?_, w0, w1, w2, w3⟩
    simp [r0, r1, r2]
set_option maxRecDepth 100000 in
theorem flat43 {H : Type} {enc : TypeId × Value → H} {w : World} {base : Nat} {spare : Nat → Bool} {held : Bool} {fuel : Nat} {cs : List Value} {x : DataW H × List MemPlace} (h : DataW.trod enc Try.prog w base spare held fuel 43 cs = some x) :
    ∃ b0 b1 b2 b3 : Int, cs = [.int .i64 b0, .int .i64 b1, .int .i64 b2, .int .i64 b3] ∧ (Lit.int .i64 b0).wf = true ∧ (Lit.int .i64 b1).wf = true ∧ (Lit.int .i64 b2).wf = true ∧ (Lit.int .i64 b3).wf = true :=
  gen43 Try.underlying43 rfl (by kernel_rfl) _ rfl rfl rfl (by kernel_rfl) (fun h => flat35 h) _ rfl rfl rfl (by kernel_rfl) (fun h => by obtain ⟨a, e, _, w⟩ := DataW.trod_int Try.underlying3 h; exact ⟨a, e, w⟩) _ rfl rfl rfl (by kernel_rfl) (fun h => by obtain ⟨a, e, _, w⟩ := DataW.trod_int Try.underlying3 h; exact ⟨a, e, w⟩) h
theorem gopen43 {H : Type} {P : Program} {enc : TypeId × Value → H} {w : World} {base b0 : Nat} {spare : Nat → Bool} {held : Bool} {r : Reach} {v : Value} {d : DataW H} {p : List MemPlace} {fs : Array Field} (hs : P.underlying 43 = some (.struct fs)) (fl : ∀ {fuel : Nat} {cs : List Value} {x : DataW H × List MemPlace}, DataW.trod enc P w base spare held fuel 43 cs = some x → ∃ b0 b1 b2 b3 : Int, cs = [.int .i64 b0, .int .i64 b1, .int .i64 b2, .int .i64 b3] ∧ (Lit.int .i64 b0).wf = true ∧ (Lit.int .i64 b1).wf = true ∧ (Lit.int .i64 b2).wf = true ∧ (Lit.int .i64 b3).wf = true) (hv : Value.okWide P w r b0 43 v) (h : DataW.Trod enc P w base spare held 43 v d p) :
    ∃ b0 b1 b2 b3 : Int, v = .agg #[.int .i64 b0, .int .i64 b1, .int .i64 b2, .int .i64 b3] ∧ (Lit.int .i64 b0).wf = true ∧ (Lit.int .i64 b1).wf = true ∧ (Lit.int .i64 b2).wf = true ∧ (Lit.int .i64 b3).wf = true := by
  obtain ⟨cs, rfl, _⟩ := okWide_struct hs hv
  obtain ⟨l⟩ := cs
  obtain ⟨fuel, hf⟩ := h
  obtain ⟨b0, b1, b2, b3, e, hw⟩ := fl hf
  have e2 : l = [.int .i64 b0, .int .i64 b1, .int .i64 b2, .int .i64 b3] := e
  subst e2
  exact ⟨b0, b1, b2, b3, rfl, hw⟩
set_option maxRecDepth 100000 in
theorem open43 {H : Type} {enc : TypeId × Value → H} {w : World} {base b0 : Nat} {spare : Nat → Bool} {held : Bool} {r : Reach} {v : Value} {d : DataW H} {p : List MemPlace} (hv : Value.okWide Try.prog w r b0 43 v) (h : DataW.Trod enc Try.prog w base spare held 43 v d p) :
    ∃ b0 b1 b2 b3 : Int, v = .agg #[.int .i64 b0, .int .i64 b1, .int .i64 b2, .int .i64 b3] ∧ (Lit.int .i64 b0).wf = true ∧ (Lit.int .i64 b1).wf = true ∧ (Lit.int .i64 b2).wf = true ∧ (Lit.int .i64 b3).wf = true := gopen43 Try.underlying43 (fun h => flat43 h) hv h
theorem gen44 {H : Type} {P : Program} {enc : TypeId × Value → H} {w : World} {base : Nat} {spare : Nat → Bool} {held : Bool} {fs : Array Field} (hs : P.underlying 44 = some (.struct fs)) (hn : fs.size = 2) (hc : P.cellsOf 44 = 2) (f0 : Field) (e0 : fs[0]? = some f0) (t0 : f0.type = 3) (o0 : f0.offset = 0) (c0 : P.cellsOf 3 = 1) (u0 : ∀ {fuel : Nat} {cs : List Value} {x : DataW H × List MemPlace}, DataW.trod enc P w base spare held fuel 3 cs = some x → ∃ b0 : Int, cs = [.int .i64 b0] ∧ (Lit.int .i64 b0).wf = true) (f1 : Field) (e1 : fs[1]? = some f1) (t1 : f1.type = 3) (o1 : f1.offset = 1) (c1 : P.cellsOf 3 = 1) (u1 : ∀ {fuel : Nat} {cs : List Value} {x : DataW H × List MemPlace}, DataW.trod enc P w base spare held fuel 3 cs = some x → ∃ b0 : Int, cs = [.int .i64 b0] ∧ (Lit.int .i64 b0).wf = true) {fuel : Nat} {cs : List Value} {x : DataW H × List MemPlace} (h : DataW.trod enc P w base spare held fuel 44 cs = some x) :
    ∃ b0 b1 : Int, cs = [.int .i64 b0, .int .i64 b1] ∧ (Lit.int .i64 b0).wf = true ∧ (Lit.int .i64 b1).wf = true := by
  obtain ⟨xs, n, _, _, hl, hlen, hg⟩ := DataW.trod_struct hs h
  rw [hc] at hl
  rw [hn] at hlen
  have g0 := hg 0 f0 e0
  rw [t0, o0, c0] at g0
  have g1 := hg 1 f1 e1
  rw [t1, o1, c1] at g1
  match cs, hl, xs, hlen with
  | [q0, q1], _, [y0, y1], _ =>
    obtain ⟨b0, r0, w0⟩ := u0 g0
    simp at r0
    obtain ⟨b1, r1, w1⟩ := u1 g1
    simp at r1
    refine ⟨b0, b1, ?_, w0, w1⟩
    simp [r0, r1]
set_option maxRecDepth 100000 in
theorem flat44 {H : Type} {enc : TypeId × Value → H} {w : World} {base : Nat} {spare : Nat → Bool} {held : Bool} {fuel : Nat} {cs : List Value} {x : DataW H × List MemPlace} (h : DataW.trod enc Try.prog w base spare held fuel 44 cs = some x) :
    ∃ b0 b1 : Int, cs = [.int .i64 b0, .int .i64 b1] ∧ (Lit.int .i64 b0).wf = true ∧ (Lit.int .i64 b1).wf = true :=
  gen44 Try.underlying44 rfl (by kernel_rfl) _ rfl rfl rfl (by kernel_rfl) (fun h => by obtain ⟨a, e, _, w⟩ := DataW.trod_int Try.underlying3 h; exact ⟨a, e, w⟩) _ rfl rfl rfl (by kernel_rfl) (fun h => by obtain ⟨a, e, _, w⟩ := DataW.trod_int Try.underlying3 h; exact ⟨a, e, w⟩) h
theorem gopen44 {H : Type} {P : Program} {enc : TypeId × Value → H} {w : World} {base b0 : Nat} {spare : Nat → Bool} {held : Bool} {r : Reach} {v : Value} {d : DataW H} {p : List MemPlace} {fs : Array Field} (hs : P.underlying 44 = some (.struct fs)) (fl : ∀ {fuel : Nat} {cs : List Value} {x : DataW H × List MemPlace}, DataW.trod enc P w base spare held fuel 44 cs = some x → ∃ b0 b1 : Int, cs = [.int .i64 b0, .int .i64 b1] ∧ (Lit.int .i64 b0).wf = true ∧ (Lit.int .i64 b1).wf = true) (hv : Value.okWide P w r b0 44 v) (h : DataW.Trod enc P w base spare held 44 v d p) :
    ∃ b0 b1 : Int, v = .agg #[.int .i64 b0, .int .i64 b1] ∧ (Lit.int .i64 b0).wf = true ∧ (Lit.int .i64 b1).wf = true := by
  obtain ⟨cs, rfl, _⟩ := okWide_struct hs hv
  obtain ⟨l⟩ := cs
  obtain ⟨fuel, hf⟩ := h
  obtain ⟨b0, b1, e, hw⟩ := fl hf
  have e2 : l = [.int .i64 b0, .int .i64 b1] := e
  subst e2
  exact ⟨b0, b1, rfl, hw⟩
set_option maxRecDepth 100000 in
theorem open44 {H : Type} {enc : TypeId × Value → H} {w : World} {base b0 : Nat} {spare : Nat → Bool} {held : Bool} {r : Reach} {v : Value} {d : DataW H} {p : List MemPlace} (hv : Value.okWide Try.prog w r b0 44 v) (h : DataW.Trod enc Try.prog w base spare held 44 v d p) :
    ∃ b0 b1 : Int, v = .agg #[.int .i64 b0, .int .i64 b1] ∧ (Lit.int .i64 b0).wf = true ∧ (Lit.int .i64 b1).wf = true := gopen44 Try.underlying44 (fun h => flat44 h) hv h
set_option maxRecDepth 100000 in
theorem lifted (os : Os) (started : os.Started) (H : Type) (enc : TypeId × Value → H) :
    ReturnsInHanded {} Try.checked os 6 .any (Rows.fnClocksDriftOfAllSpec.pre6 enc Try.prog Try.f6 Rows.fnClocksDriftOfAllRow.domain false) (Rows.fnClocksDriftOfAllSpec.post enc Try.prog Try.f6 false true false false) := by
  refine returnsInHanded_of_change_sized (C := Try.checked) own started (by kernel_rfl) Try.func6
    (ChangeSpec.witness6 (enc := enc) (C := Try.checked) false ⟨#[], #[.agg #[.int .i64 0, .int .i64 0, .int .i64 0, .int .i64 0], .agg #[.int .i64 0, .int .i64 0], .agg #[.int .i64 0, .int .i64 0, .int .i64 0, .int .i64 0], .agg #[.int .i64 0, .int .i64 0, .int .i64 0, .int .i64 0], .agg #[.int .i64 0, .int .i64 0]], []⟩ 8 (by kernel_rfl) (by kernel_rfl) (by kernel_rfl) (by kernel_rfl)) ?_
  intro W base args ds gs before hval0 hW hcnd hsz0 _
  have hsz : (DataW.weightsEach Try.prog (Try.f6.params.toList ++ Rows.fnClocksDriftOfAllSpec.plain.varTypes Try.prog) (ds ++ gs)).all (· ≤ reachBytes) = true := hsz0
  have hval : ∀ (j : Nat) t v, Try.f6.params[j]? = some t → args[j]? = some v → Value.okWide Try.prog W .any base t v := hval0
  have hW' := hW
  obtain ⟨p, q, hA0, hV, rfl, hfz, hnd⟩ := hW
  have hA : DataW.TrodAll enc Try.prog W 0 (fun _ => true) true Try.f6.params.toList args.toList ds p := hA0
  rw [Try.params6] at hA hval hsz
  obtain ⟨v0, vs0, d0, ds0, p0, q0, hargs, rfl, rfl, h0, r0⟩ := trodAll_cons hA
  obtain ⟨v1, vs1, d1, ds1, p1, q1, rfl, rfl, rfl, h1, r1⟩ := trodAll_cons r0
  obtain ⟨v2, vs2, d2, ds2, p2, q2, rfl, rfl, rfl, h2, r2⟩ := trodAll_cons r1
  obtain ⟨v3, vs3, d3, ds3, p3, q3, rfl, rfl, rfl, h3, r3⟩ := trodAll_cons r2
  obtain ⟨v4, vs4, d4, ds4, p4, q4, rfl, rfl, rfl, h4, r4⟩ := trodAll_cons r3
  obtain ⟨rfl, rfl, rfl⟩ := trodAll_nil r4
  obtain rfl : args = #[v0, v1, v2, v3, v4] := by cases args; simp_all
  obtain ⟨rfl, rfl⟩ := trodVars_none hV
  have lt0 : ∀ x ∈ p0, x.block < W.heap.size := by obtain ⟨m, hm⟩ := h0; exact DataW.trod_lt m _ _ _ hm
  obtain ⟨a0_0, a0_1, a0_2, a0_3, rfl, wa0_0, wa0_1, wa0_2, wa0_3⟩ := open43 (hval 0 43 v0 rfl rfl) h0
  have lt1 : ∀ x ∈ p1, x.block < W.heap.size := by obtain ⟨m, hm⟩ := h1; exact DataW.trod_lt m _ _ _ hm
  obtain ⟨a1_0, a1_1, rfl, wa1_0, wa1_1⟩ := open44 (hval 1 44 v1 rfl rfl) h1
  have lt2 : ∀ x ∈ p2, x.block < W.heap.size := by obtain ⟨m, hm⟩ := h2; exact DataW.trod_lt m _ _ _ hm
  obtain ⟨a2_0, a2_1, a2_2, a2_3, rfl, wa2_0, wa2_1, wa2_2, wa2_3⟩ := open43 (hval 2 43 v2 rfl rfl) h2
  have lt3 : ∀ x ∈ p3, x.block < W.heap.size := by obtain ⟨m, hm⟩ := h3; exact DataW.trod_lt m _ _ _ hm
  obtain ⟨a3_0, a3_1, a3_2, a3_3, rfl, wa3_0, wa3_1, wa3_2, wa3_3⟩ := open43 (hval 3 43 v3 rfl rfl) h3
  have lt4 : ∀ x ∈ p4, x.block < W.heap.size := by obtain ⟨m, hm⟩ := h4; exact DataW.trod_lt m _ _ _ hm
  obtain ⟨a4_0, a4_1, rfl, wa4_0, wa4_1⟩ := open35 (hval 4 35 v4 rfl rfl) h4
  clear hA0 hval0 hsz0 hsz
  refine (PFnClocksDriftOfAll.laws_FnClocksDriftOfAll.walk Pure.FnClocksDriftOfAll a0_0 a0_1 a0_2 a0_3 a1_0 a1_1 a2_0 a2_1 a2_2 a2_3 a3_0 a3_1 a3_2 a3_3 a4_0 a4_1 W wa0_0 wa0_1 wa0_2 wa0_3 wa1_0 wa1_1 wa2_0 wa2_1 wa2_2 wa2_3 wa3_0 wa3_1 wa3_2 wa3_3 wa4_0 wa4_1).mono fun e W' ⟨he, bel⟩ => ?_
  subst he
  exact ⟨_, rfl, _, _, _, [], _, [], hW', trodAll_mk1 (shut_bool Try.underlying4 _), (trodAll_cons_mk (Below.trod laidOut (by kernel_rfl) (of_decide_eq_true (by kernel_rfl)) h0 bel lt0) (trodAll_cons_mk (Below.trod laidOut (by kernel_rfl) (of_decide_eq_true (by kernel_rfl)) h1 bel lt1) (trodAll_cons_mk (Below.trod laidOut (by kernel_rfl) (of_decide_eq_true (by kernel_rfl)) h2 bel lt2) (trodAll_cons_mk (Below.trod laidOut (by kernel_rfl) (of_decide_eq_true (by kernel_rfl)) h3 bel lt3) (trodAll_cons_mk (Below.trod laidOut (by kernel_rfl) (of_decide_eq_true (by kernel_rfl)) h4 bel lt4) trodAll_mk0))))), rfl, bel.frame _, fun h => by cases h⟩
theorem over : Rows.fnClocksDriftOfAllRow.holds Try.pinned (OpenSpec.ofChange Rows.fnClocksDriftOfAllSpec) :=
  OpenClaim.holds_of_wide 6 Try.f6 rfl rfl rfl rfl rfl rfl rfl ⟨rfl, rfl, rfl, rfl, rfl⟩ rfl rfl rfl rfl rfl (by kernel_rfl) Try.func6 (by kernel_rfl)
    (of_decide_eq_true (by kernel_rfl)) (by unfold Func.isWrapper; first | (rw [if_pos (by decide +kernel)]; kernel_rfl) | (rw [if_neg (by decide +kernel)]; exact ⟨rfl, rfl⟩))
    (fun os started H enc _ => lifted os started H enc)
theorem proved : Rows.FnClocksDriftOfAllSaid := over
#print axioms proved
end Go.Proofs.Ytbcpdgiinebnaaa.fnClocksDriftOfAll
namespace Go.Proofs.Ytbcpdgiinebnaaa
/-- The row, under a short name, for the claim. -/
theorem fnClocksDriftOfAll_holds : Rows.FnClocksDriftOfAllSaid := fnClocksDriftOfAll.proved
end Go.Proofs.Ytbcpdgiinebnaaa
