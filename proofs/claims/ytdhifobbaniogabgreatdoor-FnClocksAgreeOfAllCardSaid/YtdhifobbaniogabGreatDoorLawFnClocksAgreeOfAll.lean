/- The statement FnClocksAgreeOfAll: for whatever arguments the law returns true, and each argument reads behind the call as it read before; the variables that it lists hold what the program's text lays (the card ties them). -/
import Derived.Test.YtdhifobbaniogabGreatDoorRows
import Derived.Test.YtdhifobbaniogabGreatDoorCards
import Derived.Test.YtdhifobbaniogabGreatDoorTie
import Derived.LaidMore
import Derived.LaidSub
import Derived.SevenTiedAt
import Derived.Stop.Joined
import Derived.Stop.LaidErr
import Derived.Lib.LaidTab
import Derived.Test.YtdhifobbaniogabGreatDoorPFnClocksAgreeOfAllx30
import Derived.Test.YtdhifobbaniogabGreatDoorPureFnClocksAgreeOfAll
import Derived.WalkKit
import Derived.ProofKit
import Derived.OpenShut
import Derived.ShutString
import Derived.ChangeOld
import Derived.Below
import Derived.SizedLaws
import Derived.ChangeArms
import Derived.WideShapes
import Derived.Test.YtdhifobbaniogabGreatDoorWSized
namespace Go.Proofs.YtdhifobbaniogabGreatDoor.fnClocksAgreeOfAll
open Go.ChangeShapes Go.WideShapes Go.ChangeAt Go.RowKit
open Go.ChangeMaps (open_string shut_string)
set_option linter.unusedVariables false
set_option linter.unusedSimpArgs false
theorem own : ownKnob Tryz.prog.godebug = none := by kernel_rfl
theorem laidOut : laidOutB Tryz.prog = true := by kernel_rfl
theorem gen23 {H : Type} {P : Program} {enc : TypeId × Value → H} {w : World} {base : Nat} {spare : Nat → Bool} {held : Bool} {fs : Array Field} (hs : P.underlying 23 = some (.struct fs)) (hn : fs.size = 2) (hc : P.cellsOf 23 = 2) (f0 : Field) (e0 : fs[0]? = some f0) (t0 : f0.type = 3) (o0 : f0.offset = 0) (c0 : P.cellsOf 3 = 1) (u0 : ∀ {fuel : Nat} {cs : List Value} {x : DataW H × List MemPlace}, DataW.trod enc P w base spare held fuel 3 cs = some x → ∃ b0 : Int, cs = [.int .i64 b0] ∧ (Lit.int .i64 b0).wf = true) (f1 : Field) (e1 : fs[1]? = some f1) (t1 : f1.type = 3) (o1 : f1.offset = 1) (c1 : P.cellsOf 3 = 1) (u1 : ∀ {fuel : Nat} {cs : List Value} {x : DataW H × List MemPlace}, DataW.trod enc P w base spare held fuel 3 cs = some x → ∃ b0 : Int, cs = [.int .i64 b0] ∧ (Lit.int .i64 b0).wf = true) {fuel : Nat} {cs : List Value} {x : DataW H × List MemPlace} (h : DataW.trod enc P w base spare held fuel 23 cs = some x) :
    ∃ b0 b1 : Int, cs = [.int .i64 b0, .int .i64 b1] ∧ (Lit.int .i64 b0).wf = true ∧ (Lit.int .i64 b1).wf = true := by
  obtain ⟨xs, n, _, _, hl, hlen, hg⟩ := DataW.trod_struct hs h
  rw [hc] at hl
  rw [hn] at hlen
  have g0 := hg 0 f0 e0
  rw [t0, o0, c0] at g0
  have g1 := hg 1 f1 e1
  rw [t1, o1, c1] at g1
  match cs, hl, xs, hlen with
  | [q0, q1], _, [y0, y1], _ =>
    obtain ⟨b0, r0, w0⟩ := u0 g0
    simp at r0
    obtain ⟨b1, r1, w1⟩ := u1 g1
    simp at r1
    refine ⟨b0, b1, ?_, w0, w1⟩
    simp [r0, r1]
set_option maxRecDepth 100000 in
theorem flat23 {H : Type} {enc : TypeId × Value → H} {w : World} {base : Nat} {spare : Nat → Bool} {held : Bool} {fuel : Nat} {cs : List Value} {x : DataW H × List MemPlace} (h : DataW.trod enc Tryz.prog w base spare held fuel 23 cs = some x) :
    ∃ b0 b1 : Int, cs = [.int .i64 b0, .int .i64 b1] ∧ (Lit.int .i64 b0).wf = true ∧ (Lit.int .i64 b1).wf = true :=
  gen23 Tryz.underlying23 rfl (by kernel_rfl) _ rfl rfl rfl (by kernel_rfl) (fun h => by obtain ⟨a, e, _, w⟩ := DataW.trod_int Tryz.underlying3 h; exact ⟨a, e, w⟩) _ rfl rfl rfl (by kernel_rfl) (fun h => by obtain ⟨a, e, _, w⟩ := DataW.trod_int Tryz.underlying3 h; exact ⟨a, e, w⟩) h
theorem gopen23 {H : Type} {P : Program} {enc : TypeId × Value → H} {w : World} {base b0 : Nat} {spare : Nat → Bool} {held : Bool} {r : Reach} {v : Value} {d : DataW H} {p : List MemPlace} {fs : Array Field} (hs : P.underlying 23 = some (.struct fs)) (fl : ∀ {fuel : Nat} {cs : List Value} {x : DataW H × List MemPlace}, DataW.trod enc P w base spare held fuel 23 cs = some x → ∃ b0 b1 : Int, cs = [.int .i64 b0, .int .i64 b1] ∧ (Lit.int .i64 b0).wf = true ∧ (Lit.int .i64 b1).wf = true) (hv : Value.okWide P w r b0 23 v) (h : DataW.Trod enc P w base spare held 23 v d p) :
    ∃ b0 b1 : Int, v = .agg #[.int .i64 b0, .int .i64 b1] ∧ (Lit.int .i64 b0).wf = true ∧ (Lit.int .i64 b1).wf = true := by
  obtain ⟨cs, rfl, _⟩ := okWide_struct hs hv
  obtain ⟨l⟩ := cs
  obtain ⟨fuel, hf⟩ := h
  obtain ⟨b0, b1, e, hw⟩ := fl hf
  have e2 : l = [.int .i64 b0, .int .i64 b1] := e
  subst e2
  exact ⟨b0, b1, rfl, hw⟩
set_option maxRecDepth 100000 in
theorem open23 {H : Type} {enc : TypeId × Value → H} {w : World} {base b0 : Nat} {spare : Nat → Bool} {held : Bool} {r : Reach} {v : Value} {d : DataW H} {p : List MemPlace} (hv : Value.okWide Tryz.prog w r b0 23 v) (h : DataW.Trod enc Tryz.prog w base spare held 23 v d p) :
    ∃ b0 b1 : Int, v = .agg #[.int .i64 b0, .int .i64 b1] ∧ (Lit.int .i64 b0).wf = true ∧ (Lit.int .i64 b1).wf = true := gopen23 Tryz.underlying23 (fun h => flat23 h) hv h
theorem gen25 {H : Type} {P : Program} {enc : TypeId × Value → H} {w : World} {base : Nat} {spare : Nat → Bool} {held : Bool} {fs : Array Field} (hs : P.underlying 25 = some (.struct fs)) (hn : fs.size = 3) (hc : P.cellsOf 25 = 4) (f0 : Field) (e0 : fs[0]? = some f0) (t0 : f0.type = 23) (o0 : f0.offset = 0) (c0 : P.cellsOf 23 = 2) (u0 : ∀ {fuel : Nat} {cs : List Value} {x : DataW H × List MemPlace}, DataW.trod enc P w base spare held fuel 23 cs = some x → ∃ b0 b1 : Int, cs = [.int .i64 b0, .int .i64 b1] ∧ (Lit.int .i64 b0).wf = true ∧ (Lit.int .i64 b1).wf = true) (f1 : Field) (e1 : fs[1]? = some f1) (t1 : f1.type = 3) (o1 : f1.offset = 2) (c1 : P.cellsOf 3 = 1) (u1 : ∀ {fuel : Nat} {cs : List Value} {x : DataW H × List MemPlace}, DataW.trod enc P w base spare held fuel 3 cs = some x → ∃ b0 : Int, cs = [.int .i64 b0] ∧ (Lit.int .i64 b0).wf = true) (f2 : Field) (e2 : fs[2]? = some f2) (t2 : f2.type = 3) (o2 : f2.offset = 3) (c2 : P.cellsOf 3 = 1) (u2 : ∀ {fuel : Nat} {cs : List Value} {x : DataW H × List MemPlace}, DataW.trod enc P w base spare held fuel 3 cs = some x → ∃ b0 : Int, cs = [.int .i64 b0] ∧ (Lit.int .i64 b0).wf = true) {fuel : Nat} {cs : List Value} {x : DataW H × List MemPlace} (h : DataW.trod enc P w base spare held fuel 25 cs = some x) :
    ∃ b0 b1 b2 b3 : Int, cs = [.int .i64 b0, .int .i64 b1, .int .i64 b2, .int .i64 b3] ∧ (Lit.int .i64 b0).wf = true ∧ (Lit.int .i64 b1).wf = true ∧ (Lit.int .i64 b2).wf = true ∧ (Lit.int .i64 b3).wf = true := by
  obtain ⟨xs, n, _, _, hl, hlen, hg⟩ := DataW.trod_struct hs h
  rw [hc] at hl
  rw [hn] at hlen
  have g0 := hg 0 f0 e0
  rw [t0, o0, c0] at g0
  have g1 := hg 1 f1 e1
  rw [t1, o1, c1] at g1
  have g2 := hg 2 f2 e2
  rw [t2, o2, c2] at g2
  match cs, hl, xs, hlen with
  | [q0, q1, q2, q3], _, [y0, y1, y2], _ =>
    obtain ⟨b0, b1, r0, w0, w1⟩ := u0 g0
    simp at r0
    obtain ⟨b2, r1, w2⟩ := u1 g1
    simp at r1
    obtain ⟨b3, r2, w3⟩ := u2 g2
    simp at r2
    refine ⟨b0, b1, b2, b3, ?_, w0, w1, w2, w3⟩
    simp [r0, r1, r2]
set_option maxRecDepth 100000 in
theorem flat25 {H : Type} {enc : TypeId × Value → H} {w : World} {base : Nat} {spare : Nat → Bool} {held : Bool} {fuel : Nat} {cs : List Value} {x : DataW H × List MemPlace} (h : DataW.trod enc Tryz.prog w base spare held fuel 25 cs = some x) :
    ∃ b0 b1 b2 b3 : Int, cs = [.int .i64 b0, .int .i64 b1, .int .i64 b2, .int .i64 b3] ∧ (Lit.int .i64 b0).wf = true ∧ (Lit.int .i64 b1).wf = true ∧ (Lit.int .i64 b2).wf = true ∧ (Lit.int .i64 b3).wf = true :=
  gen25 Tryz.underlying25 rfl (by kernel_rfl) _ rfl rfl rfl (by kernel_rfl) (fun h => flat23 h) _ rfl rfl rfl (by kernel_rfl) (fun h => by obtain ⟨a, e, _, w⟩ := DataW.trod_int Tryz.underlying3 h; exact ⟨a, e, w⟩) _ rfl rfl rfl (by kernel_rfl) (fun h => by obtain ⟨a, e, _, w⟩ := DataW.trod_int Tryz.underlying3 h; exact ⟨a, e, w⟩) h
theorem gopen25 {H : Type} {P : Program} {enc : TypeId × Value → H} {w : World} {base b0 : Nat} {spare : Nat → Bool} {held : Bool} {r : Reach} {v : Value} {d : DataW H} {p : List MemPlace} {fs : Array Field} (hs : P.underlying 25 = some (.struct fs)) (fl : ∀ {fuel : Nat} {cs : List Value} {x : DataW H × List MemPlace}, DataW.trod enc P w base spare held fuel 25 cs = some x → ∃ b0 b1 b2 b3 : Int, cs = [.int .i64 b0, .int .i64 b1, .int .i64 b2, .int .i64 b3] ∧ (Lit.int .i64 b0).wf = true ∧ (Lit.int .i64 b1).wf = true ∧ (Lit.int .i64 b2).wf = true ∧ (Lit.int .i64 b3).wf = true) (hv : Value.okWide P w r b0 25 v) (h : DataW.Trod enc P w base spare held 25 v d p) :
    ∃ b0 b1 b2 b3 : Int, v = .agg #[.int .i64 b0, .int .i64 b1, .int .i64 b2, .int .i64 b3] ∧ (Lit.int .i64 b0).wf = true ∧ (Lit.int .i64 b1).wf = true ∧ (Lit.int .i64 b2).wf = true ∧ (Lit.int .i64 b3).wf = true := by
  obtain ⟨cs, rfl, _⟩ := okWide_struct hs hv
  obtain ⟨l⟩ := cs
  obtain ⟨fuel, hf⟩ := h
  obtain ⟨b0, b1, b2, b3, e, hw⟩ := fl hf
  have e2 : l = [.int .i64 b0, .int .i64 b1, .int .i64 b2, .int .i64 b3] := e
  subst e2
  exact ⟨b0, b1, b2, b3, rfl, hw⟩
set_option maxRecDepth 100000 in
theorem open25 {H : Type} {enc : TypeId × Value → H} {w : World} {base b0 : Nat} {spare : Nat → Bool} {held : Bool} {r : Reach} {v : Value} {d : DataW H} {p : List MemPlace} (hv : Value.okWide Tryz.prog w r b0 25 v) (h : DataW.Trod enc Tryz.prog w base spare held 25 v d p) :
    ∃ b0 b1 b2 b3 : Int, v = .agg #[.int .i64 b0, .int .i64 b1, .int .i64 b2, .int .i64 b3] ∧ (Lit.int .i64 b0).wf = true ∧ (Lit.int .i64 b1).wf = true ∧ (Lit.int .i64 b2).wf = true ∧ (Lit.int .i64 b3).wf = true := gopen25 Tryz.underlying25 (fun h => flat25 h) hv h
theorem gen26 {H : Type} {P : Program} {enc : TypeId × Value → H} {w : World} {base : Nat} {spare : Nat → Bool} {held : Bool} {fs : Array Field} (hs : P.underlying 26 = some (.struct fs)) (hn : fs.size = 2) (hc : P.cellsOf 26 = 2) (f0 : Field) (e0 : fs[0]? = some f0) (t0 : f0.type = 3) (o0 : f0.offset = 0) (c0 : P.cellsOf 3 = 1) (u0 : ∀ {fuel : Nat} {cs : List Value} {x : DataW H × List MemPlace}, DataW.trod enc P w base spare held fuel 3 cs = some x → ∃ b0 : Int, cs = [.int .i64 b0] ∧ (Lit.int .i64 b0).wf = true) (f1 : Field) (e1 : fs[1]? = some f1) (t1 : f1.type = 3) (o1 : f1.offset = 1) (c1 : P.cellsOf 3 = 1) (u1 : ∀ {fuel : Nat} {cs : List Value} {x : DataW H × List MemPlace}, DataW.trod enc P w base spare held fuel 3 cs = some x → ∃ b0 : Int, cs = [.int .i64 b0] ∧ (Lit.int .i64 b0).wf = true) {fuel : Nat} {cs : List Value} {x : DataW H × List MemPlace} (h : DataW.trod enc P w base spare held fuel 26 cs = some x) :
    ∃ b0 b1 : Int, cs = [.int .i64 b0, .int .i64 b1] ∧ (Lit.int .i64 b0).wf = true ∧ (Lit.int .i64 b1).wf = true := by
  obtain ⟨xs, n, _, _, hl, hlen, hg⟩ := DataW.trod_struct hs h
  rw [hc] at hl
  rw [hn] at hlen
  have g0 := hg 0 f0 e0
  rw [t0, o0, c0] at g0
  have g1 := hg 1 f1 e1
  rw [t1, o1, c1] at g1
  match cs, hl, xs, hlen with
  | [q0, q1], _, [y0, y1], _ =>
    obtain ⟨b0, r0, w0⟩ := u0 g0
    simp at r0
    obtain ⟨b1, r1, w1⟩ := u1 g1
    simp at r1
    refine ⟨b0, b1, ?_, w0, w1⟩
    simp [r0, r1]
set_option maxRecDepth 100000 in
theorem flat26 {H : Type} {enc : TypeId × Value → H} {w : World} {base : Nat} {spare : Nat → Bool} {held : Bool} {fuel : Nat} {cs : List Value} {x : DataW H × List MemPlace} (h : DataW.trod enc Tryz.prog w base spare held fuel 26 cs = some x) :
    ∃ b0 b1 : Int, cs = [.int .i64 b0, .int .i64 b1] ∧ (Lit.int .i64 b0).wf = true ∧ (Lit.int .i64 b1).wf = true :=
  gen26 Tryz.underlying26 rfl (by kernel_rfl) _ rfl rfl rfl (by kernel_rfl) (fun h => by obtain ⟨a, e, _, w⟩ := DataW.trod_int Tryz.underlying3 h; exact ⟨a, e, w⟩) _ rfl rfl rfl (by kernel_rfl) (fun h => by obtain ⟨a, e, _, w⟩ := DataW.trod_int Tryz.underlying3 h; exact ⟨a, e, w⟩) h
theorem gopen26 {H : Type} {P : Program} {enc : TypeId × Value → H} {w : World} {base b0 : Nat} {spare : Nat → Bool} {held : Bool} {r : Reach} {v : Value} {d : DataW H} {p : List MemPlace} {fs : Array Field} (hs : P.underlying 26 = some (.struct fs)) (fl : ∀ {fuel : Nat} {cs : List Value} {x : DataW H × List MemPlace}, DataW.trod enc P w base spare held fuel 26 cs = some x → ∃ b0 b1 : Int, cs = [.int .i64 b0, .int .i64 b1] ∧ (Lit.int .i64 b0).wf = true ∧ (Lit.int .i64 b1).wf = true) (hv : Value.okWide P w r b0 26 v) (h : DataW.Trod enc P w base spare held 26 v d p) :
    ∃ b0 b1 : Int, v = .agg #[.int .i64 b0, .int .i64 b1] ∧ (Lit.int .i64 b0).wf = true ∧ (Lit.int .i64 b1).wf = true := by
  obtain ⟨cs, rfl, _⟩ := okWide_struct hs hv
  obtain ⟨l⟩ := cs
  obtain ⟨fuel, hf⟩ := h
  obtain ⟨b0, b1, e, hw⟩ := fl hf
  have e2 : l = [.int .i64 b0, .int .i64 b1] := e
  subst e2
  exact ⟨b0, b1, rfl, hw⟩
set_option maxRecDepth 100000 in
theorem open26 {H : Type} {enc : TypeId × Value → H} {w : World} {base b0 : Nat} {spare : Nat → Bool} {held : Bool} {r : Reach} {v : Value} {d : DataW H} {p : List MemPlace} (hv : Value.okWide Tryz.prog w r b0 26 v) (h : DataW.Trod enc Tryz.prog w base spare held 26 v d p) :
    ∃ b0 b1 : Int, v = .agg #[.int .i64 b0, .int .i64 b1] ∧ (Lit.int .i64 b0).wf = true ∧ (Lit.int .i64 b1).wf = true := gopen26 Tryz.underlying26 (fun h => flat26 h) hv h
theorem star : "*" ++ "errors.errorString" = "*errors.errorString" := by decide
def laidL : List (String × DataW Unit) := [("math/bits.deBruijn32tab", Rows.laid_math_bits_deBruijn32tab), ("math/bits.deBruijn64tab", Rows.laid_math_bits_deBruijn64tab), ("internal/strconv.uint64pow10", Rows.laid_internal_strconv_uint64pow10), ("strconv.ErrRange", Rows.laid_strconv_ErrRange), ("strconv.ErrSyntax", Rows.laid_strconv_ErrSyntax)]
theorem door_met (os : Os) (args : Array Value) : laidMetH Tryz.prog laidL ((World.doorLaid Tryz.prog 400 os).forCall (fun _ _ => 0) ⟨#[], args, []⟩).memory :=
  laidMetH_of_parts3 (fuel := 8) (laidMet_of_run' 8 (by kernel_rfl) (by kernel_rfl)) (by kernel_rfl) (by kernel_rfl)
theorem laidPlain {W : World} (h : laidMetH Tryz.prog laidL W) : laidMet Tryz.prog laidL W := by
  rw [MakeChecks.laidMetH_plain _ _ _ (by kernel_rfl)] at h
  exact h
theorem tab_laid {W : World} (h : laidMetH Tryz.prog laidL W) : PFnClocksAgreeOfAll.HasTab W := by
  have h1 := (laidPlain h).filter (fun x => x.1 == "internal/strconv.uint64pow10")
  have e : laidL.filter (fun x => x.1 == "internal/strconv.uint64pow10") = [("internal/strconv.uint64pow10", Go.Lib.tabData .u64 Go.Lib.pow10Tab)] := by kernel_rfl
  rw [e] at h1
  exact Go.Lib.tabIs_of_head (g := 3) (t := 108) (e := 93) (by kernel_rfl) (by kernel_rfl) Tryz.underlying108 Tryz.underlying93 (by kernel_rfl) (by kernel_rfl) h1
theorem syn_laid {W : World} (h : laidMetH Tryz.prog laidL W) : ∃ tp p, W.var? Tryz.prog "strconv.ErrSyntax" = some #[.iface tp p] := by
  have h1 := (laidPlain h).filter (fun x => x.1 == "strconv.ErrSyntax")
  have e : laidL.filter (fun x => x.1 == "strconv.ErrSyntax") = [("strconv.ErrSyntax", Rows.laid_strconv_ErrSyntax)] := by kernel_rfl
  rw [e] at h1
  obtain ⟨a0, s0, hv0, -, -, -⟩ := laid_sentinel h1 (g := 1) (by kernel_rfl) (by kernel_rfl) Tryz.underlying74 (fun u h => typeName_ptr_named (nm := "errors.errorString") (by rw [star]; kernel_rfl) (by kernel_rfl) (by decide) u (by rw [star]; exact h)) Tryz.underlying114 Tryz.underlying116 rfl rfl Tryz.underlying9 (by kernel_rfl) (by kernel_rfl)
  exact ⟨_, _, hv0⟩
theorem ran_laid {W : World} (h : laidMetH Tryz.prog laidL W) : ∃ tp p, W.var? Tryz.prog "strconv.ErrRange" = some #[.iface tp p] := by
  have h1 := (laidPlain h).filter (fun x => x.1 == "strconv.ErrRange")
  have e : laidL.filter (fun x => x.1 == "strconv.ErrRange") = [("strconv.ErrRange", Rows.laid_strconv_ErrRange)] := by kernel_rfl
  rw [e] at h1
  obtain ⟨a0, s0, hv0, -, -, -⟩ := laid_sentinel h1 (g := 2) (by kernel_rfl) (by kernel_rfl) Tryz.underlying74 (fun u h => typeName_ptr_named (nm := "errors.errorString") (by rw [star]; kernel_rfl) (by kernel_rfl) (by decide) u (by rw [star]; exact h)) Tryz.underlying114 Tryz.underlying116 rfl rfl Tryz.underlying9 (by kernel_rfl) (by kernel_rfl)
  exact ⟨_, _, hv0⟩
theorem err_laid {W : World} (h : laidMetH Tryz.prog laidL W) : PFnClocksAgreeOfAll.HasErr W := ⟨syn_laid h, ran_laid h⟩
set_option maxRecDepth 100000 in
theorem lifted (os : Os) (started : os.Started) (H : Type) (enc : TypeId × Value → H) :
    ReturnsInHanded {} Tryz.checked os 3 .any (fun w args => (Rows.fnClocksAgreeOfAllSpec.pre enc Tryz.prog Tryz.f3 Rows.fnClocksAgreeOfAllRow.domain false w args ∧ laidMetH Tryz.prog laidL w) ∧ sizedMet enc Tryz.prog Tryz.f3 (OpenSpec.ofChange Rows.fnClocksAgreeOfAllSpec) false w args)
      (Rows.fnClocksAgreeOfAllSpec.post enc Tryz.prog Tryz.f3 false true false false) := by
  refine returnsInHanded_of_change_and (C := Tryz.checked) (X := fun w _ => laidMetH Tryz.prog laidL w) (fun _ _ _ hh h => h.of_heap hh) own started (by kernel_rfl) Tryz.func3
    (ChangeSpec.witness_shaped (enc := enc) (C := Tryz.checked) (os := os) (X := fun w _ => laidMetH Tryz.prog laidL w) false (World.doorLaid Tryz.prog 400 os) #[.agg #[.int .i64 0, .int .i64 0, .int .i64 0, .int .i64 0], .agg #[.int .i64 0, .int .i64 0, .int .i64 0, .int .i64 0], .agg #[.int .i64 0, .int .i64 0], .agg #[.int .i64 0, .int .i64 0], .agg #[.int .i64 0, .int .i64 0], .agg #[.int .i64 0, .int .i64 0], .agg #[.int .i64 0, .int .i64 0], .int .i64 0, .int .i64 0, .agg #[.int .i64 0, .int .i64 0], .string ByteArray.empty] 8 rfl (World.shaped_of_RefB (by kernel_rfl) (by kernel_rfl)) (by kernel_rfl) (by kernel_rfl) (by kernel_rfl) (door_met os _)) ?_
  intro W base args ds gs before hval0 hW hcnd hsz0 hL _
  have hsz : (DataW.weightsEach Tryz.prog (Tryz.f3.params.toList ++ Rows.fnClocksAgreeOfAllSpec.plain.varTypes Tryz.prog) (ds ++ gs)).all (· ≤ reachBytes) = true := hsz0
  have hval : ∀ (j : Nat) t v, Tryz.f3.params[j]? = some t → args[j]? = some v → Value.okWide Tryz.prog W .any base t v := hval0
  have hW' := hW
  obtain ⟨p, q, hA0, hV, rfl, hfz, hnd⟩ := hW
  have hA : DataW.TrodAll enc Tryz.prog W 0 (fun _ => true) true Tryz.f3.params.toList args.toList ds p := hA0
  rw [Tryz.params3] at hA hval hsz
  obtain ⟨v0, vs0, d0, ds0, p0, q0, hargs, rfl, rfl, h0, r0⟩ := trodAll_cons hA
  obtain ⟨v1, vs1, d1, ds1, p1, q1, rfl, rfl, rfl, h1, r1⟩ := trodAll_cons r0
  obtain ⟨v2, vs2, d2, ds2, p2, q2, rfl, rfl, rfl, h2, r2⟩ := trodAll_cons r1
  obtain ⟨v3, vs3, d3, ds3, p3, q3, rfl, rfl, rfl, h3, r3⟩ := trodAll_cons r2
  obtain ⟨v4, vs4, d4, ds4, p4, q4, rfl, rfl, rfl, h4, r4⟩ := trodAll_cons r3
  obtain ⟨v5, vs5, d5, ds5, p5, q5, rfl, rfl, rfl, h5, r5⟩ := trodAll_cons r4
  obtain ⟨v6, vs6, d6, ds6, p6, q6, rfl, rfl, rfl, h6, r6⟩ := trodAll_cons r5
  obtain ⟨v7, vs7, d7, ds7, p7, q7, rfl, rfl, rfl, h7, r7⟩ := trodAll_cons r6
  obtain ⟨v8, vs8, d8, ds8, p8, q8, rfl, rfl, rfl, h8, r8⟩ := trodAll_cons r7
  obtain ⟨v9, vs9, d9, ds9, p9, q9, rfl, rfl, rfl, h9, r9⟩ := trodAll_cons r8
  obtain ⟨v10, vs10, d10, ds10, p10, q10, rfl, rfl, rfl, h10, r10⟩ := trodAll_cons r9
  obtain ⟨rfl, rfl, rfl⟩ := trodAll_nil r10
  obtain rfl : args = #[v0, v1, v2, v3, v4, v5, v6, v7, v8, v9, v10] := by cases args; simp_all
  obtain ⟨rfl, rfl⟩ := trodVars_none hV
  have lt0 : ∀ x ∈ p0, x.block < W.heap.size := by obtain ⟨m, hm⟩ := h0; exact DataW.trod_lt m _ _ _ hm
  obtain ⟨a0_0, a0_1, a0_2, a0_3, rfl, wa0_0, wa0_1, wa0_2, wa0_3⟩ := open25 (hval 0 25 v0 rfl rfl) h0
  have lt1 : ∀ x ∈ p1, x.block < W.heap.size := by obtain ⟨m, hm⟩ := h1; exact DataW.trod_lt m _ _ _ hm
  obtain ⟨a1_0, a1_1, a1_2, a1_3, rfl, wa1_0, wa1_1, wa1_2, wa1_3⟩ := open25 (hval 1 25 v1 rfl rfl) h1
  have lt2 : ∀ x ∈ p2, x.block < W.heap.size := by obtain ⟨m, hm⟩ := h2; exact DataW.trod_lt m _ _ _ hm
  obtain ⟨a2_0, a2_1, rfl, wa2_0, wa2_1⟩ := open23 (hval 2 23 v2 rfl rfl) h2
  have lt3 : ∀ x ∈ p3, x.block < W.heap.size := by obtain ⟨m, hm⟩ := h3; exact DataW.trod_lt m _ _ _ hm
  obtain ⟨a3_0, a3_1, rfl, wa3_0, wa3_1⟩ := open26 (hval 3 26 v3 rfl rfl) h3
  have lt4 : ∀ x ∈ p4, x.block < W.heap.size := by obtain ⟨m, hm⟩ := h4; exact DataW.trod_lt m _ _ _ hm
  obtain ⟨a4_0, a4_1, rfl, wa4_0, wa4_1⟩ := open23 (hval 4 23 v4 rfl rfl) h4
  have lt5 : ∀ x ∈ p5, x.block < W.heap.size := by obtain ⟨m, hm⟩ := h5; exact DataW.trod_lt m _ _ _ hm
  obtain ⟨a5_0, a5_1, rfl, wa5_0, wa5_1⟩ := open26 (hval 5 26 v5 rfl rfl) h5
  have lt6 : ∀ x ∈ p6, x.block < W.heap.size := by obtain ⟨m, hm⟩ := h6; exact DataW.trod_lt m _ _ _ hm
  obtain ⟨a6_0, a6_1, rfl, wa6_0, wa6_1⟩ := open26 (hval 6 26 v6 rfl rfl) h6
  obtain ⟨a7, rfl, rfl, rfl, wa7⟩ := open_int Tryz.underlying3 (hval 7 3 v7 rfl rfl) h7
  obtain ⟨a8, rfl, rfl, rfl, wa8⟩ := open_int Tryz.underlying3 (hval 8 3 v8 rfl rfl) h8
  have lt9 : ∀ x ∈ p9, x.block < W.heap.size := by obtain ⟨m, hm⟩ := h9; exact DataW.trod_lt m _ _ _ hm
  obtain ⟨a9_0, a9_1, rfl, wa9_0, wa9_1⟩ := open26 (hval 9 26 v9 rfl rfl) h9
  obtain ⟨a10, rfl, rfl, rfl, y10⟩ := open_string Tryz.underlying9 (hval 10 9 v10 rfl rfl) h10
  have wa10 : a10.size ≤ 140737488351232 := by
    have z := sized_string hsz (j := 10) (t := 9) rfl rfl
    rw [Array.length_toList] at z
    exact z
  clear hA0 hval0 hsz0 hsz
  refine (PFnClocksAgreeOfAll.laws_FnClocksAgreeOfAll.walk Pure.FnClocksAgreeOfAll a0_0 a0_1 a0_2 a0_3 a1_0 a1_1 a1_2 a1_3 a2_0 a2_1 a3_0 a3_1 a4_0 a4_1 a5_0 a5_1 a6_0 a6_1 a7 a8 a9_0 a9_1 a10 W wa0_0 wa0_1 wa0_2 wa0_3 wa1_0 wa1_1 wa1_2 wa1_3 wa2_0 wa2_1 wa3_0 wa3_1 wa4_0 wa4_1 wa5_0 wa5_1 wa6_0 wa6_1 wa7 wa8 wa9_0 wa9_1 wa10 (tab_laid hL) (err_laid hL)).mono fun e W' ⟨he, bel⟩ => ?_
  subst he
  exact ⟨_, rfl, _, _, _, [], _, [], hW', trodAll_mk1 (shut_bool Tryz.underlying4 _), (trodAll_cons_mk (Below.trod laidOut (by kernel_rfl) (of_decide_eq_true (by kernel_rfl)) h0 bel lt0) (trodAll_cons_mk (Below.trod laidOut (by kernel_rfl) (of_decide_eq_true (by kernel_rfl)) h1 bel lt1) (trodAll_cons_mk (Below.trod laidOut (by kernel_rfl) (of_decide_eq_true (by kernel_rfl)) h2 bel lt2) (trodAll_cons_mk (Below.trod laidOut (by kernel_rfl) (of_decide_eq_true (by kernel_rfl)) h3 bel lt3) (trodAll_cons_mk (Below.trod laidOut (by kernel_rfl) (of_decide_eq_true (by kernel_rfl)) h4 bel lt4) (trodAll_cons_mk (Below.trod laidOut (by kernel_rfl) (of_decide_eq_true (by kernel_rfl)) h5 bel lt5) (trodAll_cons_mk (Below.trod laidOut (by kernel_rfl) (of_decide_eq_true (by kernel_rfl)) h6 bel lt6) (trodAll_cons_mk (shut_int Tryz.underlying3 wa7) (trodAll_cons_mk (shut_int Tryz.underlying3 wa8) (trodAll_cons_mk (Below.trod laidOut (by kernel_rfl) (of_decide_eq_true (by kernel_rfl)) h9 bel lt9) (trodAll_cons_mk (shut_string Tryz.underlying9 y10) trodAll_mk0))))))))))), rfl, bel.frame _, fun h => by cases h⟩
theorem over : Rows.fnClocksAgreeOfAllRow.holds Tryz.pinned (OpenSpec.ofChange Rows.fnClocksAgreeOfAllSpec) :=
  OpenClaim.holds_of_wide 3 Tryz.f3 rfl rfl rfl rfl rfl rfl rfl ⟨rfl, rfl, rfl, rfl, rfl⟩ rfl rfl rfl rfl rfl (by kernel_rfl) Tryz.func3 (by kernel_rfl)
    (of_decide_eq_true (by kernel_rfl)) (by unfold Func.isWrapper; first | (rw [if_pos (by decide +kernel)]; kernel_rfl) | (rw [if_neg (by decide +kernel)]; exact ⟨rfl, rfl⟩))
    (fun os started H enc _ => lifted os started H enc)
theorem proved : Rows.FnClocksAgreeOfAllCardSaid :=
  Claim7.holds_tied_plain_at .later [] [.data, .data, .data, .sentinel, .sentinel] true (true, "e1be34d2602396d7ee6cc657ad45799afdd5d49d1b55ad0c8d5f34e709cc292d") true
    over (fun _ h => by cases h) (by kernel_rfl) (fun _ h => by cases h) fnClocksAgreeOfAll_row_tie rfl ⟨rfl, rfl⟩ (by kernel_rfl) rfl
    (fun f fn hf hfn => by
      obtain rfl : f = 3 := Option.some.inj ((show Tryz.prog.funcNamed "loop.example/g01241/laws.FnClocksAgreeOfAll" = some 3 by kernel_rfl).symm.trans hf) |>.symm
      obtain rfl : fn = Tryz.f3 := (Option.some.inj (Tryz.func3.symm.trans hfn)).symm
      exact ⟨by kernel_rfl, fun j t ht => by
        rw [Tryz.params3] at ht
        have hm : t ∈ [25, 25, 23, 26, 23, 26, 26, 3, 3, 26, 9] := by simpa using Array.mem_of_getElem? ht
        have hall : ([25, 25, 23, 26, 23, 26, 26, 3, 3, 26, 9].all fun u => !Tryz.prog.wantsStandIn u) = true := by kernel_rfl
        exact (show Tryz.prog.wantsStandIn t = false by simpa using List.all_eq_true.1 hall t hm)⟩)
    (by kernel_rfl)
#print axioms proved
end Go.Proofs.YtdhifobbaniogabGreatDoor.fnClocksAgreeOfAll
namespace Go.Proofs.YtdhifobbaniogabGreatDoor
/-- The tied card, under a short name, for the claim. -/
theorem fnClocksAgreeOfAll_holds : Rows.FnClocksAgreeOfAllCardSaid := fnClocksAgreeOfAll.proved
end Go.Proofs.YtdhifobbaniogabGreatDoor
