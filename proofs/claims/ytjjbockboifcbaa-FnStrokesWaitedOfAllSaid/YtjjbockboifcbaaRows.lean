/-
  No cell of these rows narrows 'for every input' (looked for: loops, veiled, ifaces, maps, wideKeys, modest, calm, conditions, laid).
  DERIVED. THE GIVEN ROWS OF THIS SEAT. 12 by the template 'for every input the law returns true; each argument reads behind the call as it read before'; 0 by the template 'total and deterministic' (their statements: YtjjbockboifcbaaTotals.lean).
  GIVEN WITH THE SEED: the statements are not yours to turn. If you find one false, say at which input.
  Laid BY PROGRAM, IN A SANDBOX (cutbox-rows.mjs): the forced cells as the released guide's own fill.sh prints them over the translation d563c909f8acd1b4… (all of the seat's roots in one cut). By AI agents, Wed Nov 11 2026. No macro, syntax, notation, axiom, sorry.
-/
import Derived.Test.YtjjbockboifcbaaChecked
import GoSem.Claim
import GoSem.ClaimJoined
import GoSem.ClaimMapViews
import Derived.JoinedTies
import Derived.KernelRfl
namespace Go.Proofs.Ytjjbockboifcbaa
/- THE CELL 'sum', in the pinned program and in every row, IS THE sha256 OF THE DUMP (.gsa) THAT YtjjbockboifcbaaProg.lean LOADS. Nothing in Lean hashes anything: it is a label: what it is worth is what the hold of that sum in a sandbox is worth. -/
noncomputable def Try.pinned : Pinned := { name := "ytjjbockboifcbaa", sum := "d563c909f8acd1b40d569d1512dcf2bf1784661c12f8940bffbc7036cf139095", checked := Try.checked }
namespace Rows
def none {H : Type} : Left H := { results := [], args := [] }

/-- 'laws.FnExactTurnSeen': WHATEVER THE INPUT: true; the input reads as it did. -/
def fnExactTurnSeenSpec : ChangeSpec := { name := "fnExactTurnSeen", fn := fun _ => fun
  | [d1, d2] => { results := [.lit (.bool true)], args := [d1, d2] }
  | _ => none }
def fnExactTurnSeenRow : OpenClaim := { program := "ytjjbockboifcbaa", sum := "d563c909f8acd1b40d569d1512dcf2bf1784661c12f8940bffbc7036cf139095", func := "loop.example/g01241/laws.FnExactTurnSeen", spec := "fnExactTurnSeen", unfollowed := true, recurses := true, apart := false }
def FnExactTurnSeenSaid : Prop := fnExactTurnSeenRow.holds Try.pinned (OpenSpec.ofChange fnExactTurnSeenSpec)

/-- ITS FALSE NEIGHBOUR: 'it returns false'. Refute it at one input. -/
def fnExactTurnSeenWrong : ChangeSpec := { name := "fnExactTurnSeen", fn := fun _ => fun
  | [d1, d2] => { results := [.lit (.bool false)], args := [d1, d2] }
  | _ => none }
def FnExactTurnSeenWrongFalsely : Prop := fnExactTurnSeenRow.holds Try.pinned (OpenSpec.ofChange fnExactTurnSeenWrong)

/-- 'laws.FnExactAgreeEvery': WHATEVER THE INPUT: true; the input reads as it did. -/
def fnExactAgreeEverySpec : ChangeSpec := { name := "fnExactAgreeEvery", fn := fun _ => fun
  | [d1, d2] => { results := [.lit (.bool true)], args := [d1, d2] }
  | _ => none }
def fnExactAgreeEveryRow : OpenClaim := { program := "ytjjbockboifcbaa", sum := "d563c909f8acd1b40d569d1512dcf2bf1784661c12f8940bffbc7036cf139095", func := "loop.example/g01241/laws.FnExactAgreeEvery", spec := "fnExactAgreeEvery", apart := false }
def FnExactAgreeEverySaid : Prop := fnExactAgreeEveryRow.holds Try.pinned (OpenSpec.ofChange fnExactAgreeEverySpec)

/-- ITS FALSE NEIGHBOUR: 'it returns false'. Refute it at one input. -/
def fnExactAgreeEveryWrong : ChangeSpec := { name := "fnExactAgreeEvery", fn := fun _ => fun
  | [d1, d2] => { results := [.lit (.bool false)], args := [d1, d2] }
  | _ => none }
def FnExactAgreeEveryWrongFalsely : Prop := fnExactAgreeEveryRow.holds Try.pinned (OpenSpec.ofChange fnExactAgreeEveryWrong)

/-- 'laws.FnExactSetRight': WHATEVER THE INPUT: true; the input reads as it did. -/
def fnExactSetRightSpec : ChangeSpec := { name := "fnExactSetRight", fn := fun _ => fun
  | [d1, d2] => { results := [.lit (.bool true)], args := [d1, d2] }
  | _ => none }
def fnExactSetRightRow : OpenClaim := { program := "ytjjbockboifcbaa", sum := "d563c909f8acd1b40d569d1512dcf2bf1784661c12f8940bffbc7036cf139095", func := "loop.example/g01241/laws.FnExactSetRight", spec := "fnExactSetRight", apart := false }
def FnExactSetRightSaid : Prop := fnExactSetRightRow.holds Try.pinned (OpenSpec.ofChange fnExactSetRightSpec)

/-- ITS FALSE NEIGHBOUR: 'it returns false'. Refute it at one input. -/
def fnExactSetRightWrong : ChangeSpec := { name := "fnExactSetRight", fn := fun _ => fun
  | [d1, d2] => { results := [.lit (.bool false)], args := [d1, d2] }
  | _ => none }
def FnExactSetRightWrongFalsely : Prop := fnExactSetRightRow.holds Try.pinned (OpenSpec.ofChange fnExactSetRightWrong)

/-- 'laws.FnExactFirstShown': WHATEVER THE INPUT: true; the input reads as it did. -/
def fnExactFirstShownSpec : ChangeSpec := { name := "fnExactFirstShown", fn := fun _ => fun
  | [d1, d2] => { results := [.lit (.bool true)], args := [d1, d2] }
  | _ => none }
def fnExactFirstShownRow : OpenClaim := { program := "ytjjbockboifcbaa", sum := "d563c909f8acd1b40d569d1512dcf2bf1784661c12f8940bffbc7036cf139095", func := "loop.example/g01241/laws.FnExactFirstShown", spec := "fnExactFirstShown", apart := false }
def FnExactFirstShownSaid : Prop := fnExactFirstShownRow.holds Try.pinned (OpenSpec.ofChange fnExactFirstShownSpec)

/-- ITS FALSE NEIGHBOUR: 'it returns false'. Refute it at one input. -/
def fnExactFirstShownWrong : ChangeSpec := { name := "fnExactFirstShown", fn := fun _ => fun
  | [d1, d2] => { results := [.lit (.bool false)], args := [d1, d2] }
  | _ => none }
def FnExactFirstShownWrongFalsely : Prop := fnExactFirstShownRow.holds Try.pinned (OpenSpec.ofChange fnExactFirstShownWrong)

/-- 'laws.FnExactFirstRight': WHATEVER THE INPUT: true; the input reads as it did. -/
def fnExactFirstRightSpec : ChangeSpec := { name := "fnExactFirstRight", fn := fun _ => fun
  | [d] => { results := [.lit (.bool true)], args := [d] }
  | _ => none }
def fnExactFirstRightRow : OpenClaim := { program := "ytjjbockboifcbaa", sum := "d563c909f8acd1b40d569d1512dcf2bf1784661c12f8940bffbc7036cf139095", func := "loop.example/g01241/laws.FnExactFirstRight", spec := "fnExactFirstRight", apart := false }
def FnExactFirstRightSaid : Prop := fnExactFirstRightRow.holds Try.pinned (OpenSpec.ofChange fnExactFirstRightSpec)

/-- ITS FALSE NEIGHBOUR: 'it returns false'. Refute it at one input. -/
def fnExactFirstRightWrong : ChangeSpec := { name := "fnExactFirstRight", fn := fun _ => fun
  | [d] => { results := [.lit (.bool false)], args := [d] }
  | _ => none }
def FnExactFirstRightWrongFalsely : Prop := fnExactFirstRightRow.holds Try.pinned (OpenSpec.ofChange fnExactFirstRightWrong)

/-- 'laws.FnExactAllExchanged': WHATEVER THE INPUT: true; the input reads as it did. -/
def fnExactAllExchangedSpec : ChangeSpec := { name := "fnExactAllExchanged", fn := fun _ => fun
  | [d] => { results := [.lit (.bool true)], args := [d] }
  | _ => none }
def fnExactAllExchangedRow : OpenClaim := { program := "ytjjbockboifcbaa", sum := "d563c909f8acd1b40d569d1512dcf2bf1784661c12f8940bffbc7036cf139095", func := "loop.example/g01241/laws.FnExactAllExchanged", spec := "fnExactAllExchanged", unfollowed := true, recurses := true, apart := false }
def FnExactAllExchangedSaid : Prop := fnExactAllExchangedRow.holds Try.pinned (OpenSpec.ofChange fnExactAllExchangedSpec)

/-- ITS FALSE NEIGHBOUR: 'it returns false'. Refute it at one input. -/
def fnExactAllExchangedWrong : ChangeSpec := { name := "fnExactAllExchanged", fn := fun _ => fun
  | [d] => { results := [.lit (.bool false)], args := [d] }
  | _ => none }
def FnExactAllExchangedWrongFalsely : Prop := fnExactAllExchangedRow.holds Try.pinned (OpenSpec.ofChange fnExactAllExchangedWrong)

/-- 'laws.FnExactClockOfReadings': WHATEVER THE INPUT: true; the input reads as it did. -/
def fnExactClockOfReadingsSpec : ChangeSpec := { name := "fnExactClockOfReadings", fn := fun _ => fun
  | [d1, d2, d3] => { results := [.lit (.bool true)], args := [d1, d2, d3] }
  | _ => none }
def fnExactClockOfReadingsRow : OpenClaim := { program := "ytjjbockboifcbaa", sum := "d563c909f8acd1b40d569d1512dcf2bf1784661c12f8940bffbc7036cf139095", func := "loop.example/g01241/laws.FnExactClockOfReadings", spec := "fnExactClockOfReadings", unfollowed := true, recurses := true, apart := false }
def FnExactClockOfReadingsSaid : Prop := fnExactClockOfReadingsRow.holds Try.pinned (OpenSpec.ofChange fnExactClockOfReadingsSpec)

/-- ITS FALSE NEIGHBOUR: 'it returns false'. Refute it at one input. -/
def fnExactClockOfReadingsWrong : ChangeSpec := { name := "fnExactClockOfReadings", fn := fun _ => fun
  | [d1, d2, d3] => { results := [.lit (.bool false)], args := [d1, d2, d3] }
  | _ => none }
def FnExactClockOfReadingsWrongFalsely : Prop := fnExactClockOfReadingsRow.holds Try.pinned (OpenSpec.ofChange fnExactClockOfReadingsWrong)

/-- 'laws.FnExactIsHeard': WHATEVER THE INPUT: true; the input reads as it did. -/
def fnExactIsHeardSpec : ChangeSpec := { name := "fnExactIsHeard", fn := fun _ => fun
  | [d1, d2] => { results := [.lit (.bool true)], args := [d1, d2] }
  | _ => none }
def fnExactIsHeardRow : OpenClaim := { program := "ytjjbockboifcbaa", sum := "d563c909f8acd1b40d569d1512dcf2bf1784661c12f8940bffbc7036cf139095", func := "loop.example/g01241/laws.FnExactIsHeard", spec := "fnExactIsHeard", unfollowed := true, recurses := true, apart := false }
def FnExactIsHeardSaid : Prop := fnExactIsHeardRow.holds Try.pinned (OpenSpec.ofChange fnExactIsHeardSpec)

/-- ITS FALSE NEIGHBOUR: 'it returns false'. Refute it at one input. -/
def fnExactIsHeardWrong : ChangeSpec := { name := "fnExactIsHeard", fn := fun _ => fun
  | [d1, d2] => { results := [.lit (.bool false)], args := [d1, d2] }
  | _ => none }
def FnExactIsHeardWrongFalsely : Prop := fnExactIsHeardRow.holds Try.pinned (OpenSpec.ofChange fnExactIsHeardWrong)

/-- 'laws.FnStrokesWaitedOfAll': WHATEVER THE INPUT: true; the input reads as it did. -/
def fnStrokesWaitedOfAllSpec : ChangeSpec := { name := "fnStrokesWaitedOfAll", fn := fun _ => fun
  | [d1, d2, d3, d4, d5, d6, d7, d8, d9, d10] => { results := [.lit (.bool true)], args := [d1, d2, d3, d4, d5, d6, d7, d8, d9, d10] }
  | _ => none }
def fnStrokesWaitedOfAllRow : OpenClaim := { program := "ytjjbockboifcbaa", sum := "d563c909f8acd1b40d569d1512dcf2bf1784661c12f8940bffbc7036cf139095", func := "loop.example/g01241/laws.FnStrokesWaitedOfAll", spec := "fnStrokesWaitedOfAll", apart := false }
def FnStrokesWaitedOfAllSaid : Prop := fnStrokesWaitedOfAllRow.holds Try.pinned (OpenSpec.ofChange fnStrokesWaitedOfAllSpec)

/-- ITS FALSE NEIGHBOUR: 'it returns false'. Refute it at one input. -/
def fnStrokesWaitedOfAllWrong : ChangeSpec := { name := "fnStrokesWaitedOfAll", fn := fun _ => fun
  | [d1, d2, d3, d4, d5, d6, d7, d8, d9, d10] => { results := [.lit (.bool false)], args := [d1, d2, d3, d4, d5, d6, d7, d8, d9, d10] }
  | _ => none }
def FnStrokesWaitedOfAllWrongFalsely : Prop := fnStrokesWaitedOfAllRow.holds Try.pinned (OpenSpec.ofChange fnStrokesWaitedOfAllWrong)

/-- 'laws.FnExactTimesWithAngle': WHATEVER THE INPUT: true; the input reads as it did. -/
def fnExactTimesWithAngleSpec : ChangeSpec := { name := "fnExactTimesWithAngle", fn := fun _ => fun
  | [d1, d2] => { results := [.lit (.bool true)], args := [d1, d2] }
  | _ => none }
def fnExactTimesWithAngleRow : OpenClaim := { program := "ytjjbockboifcbaa", sum := "d563c909f8acd1b40d569d1512dcf2bf1784661c12f8940bffbc7036cf139095", func := "loop.example/g01241/laws.FnExactTimesWithAngle", spec := "fnExactTimesWithAngle", unfollowed := true, recurses := true, apart := false }
def FnExactTimesWithAngleSaid : Prop := fnExactTimesWithAngleRow.holds Try.pinned (OpenSpec.ofChange fnExactTimesWithAngleSpec)

/-- ITS FALSE NEIGHBOUR: 'it returns false'. Refute it at one input. -/
def fnExactTimesWithAngleWrong : ChangeSpec := { name := "fnExactTimesWithAngle", fn := fun _ => fun
  | [d1, d2] => { results := [.lit (.bool false)], args := [d1, d2] }
  | _ => none }
def FnExactTimesWithAngleWrongFalsely : Prop := fnExactTimesWithAngleRow.holds Try.pinned (OpenSpec.ofChange fnExactTimesWithAngleWrong)

/-- 'laws.FnExactFirstAgree': WHATEVER THE INPUT: true; the input reads as it did. -/
def fnExactFirstAgreeSpec : ChangeSpec := { name := "fnExactFirstAgree", fn := fun _ => fun
  | [d1, d2] => { results := [.lit (.bool true)], args := [d1, d2] }
  | _ => none }
def fnExactFirstAgreeRow : OpenClaim := { program := "ytjjbockboifcbaa", sum := "d563c909f8acd1b40d569d1512dcf2bf1784661c12f8940bffbc7036cf139095", func := "loop.example/g01241/laws.FnExactFirstAgree", spec := "fnExactFirstAgree", apart := false }
def FnExactFirstAgreeSaid : Prop := fnExactFirstAgreeRow.holds Try.pinned (OpenSpec.ofChange fnExactFirstAgreeSpec)

/-- ITS FALSE NEIGHBOUR: 'it returns false'. Refute it at one input. -/
def fnExactFirstAgreeWrong : ChangeSpec := { name := "fnExactFirstAgree", fn := fun _ => fun
  | [d1, d2] => { results := [.lit (.bool false)], args := [d1, d2] }
  | _ => none }
def FnExactFirstAgreeWrongFalsely : Prop := fnExactFirstAgreeRow.holds Try.pinned (OpenSpec.ofChange fnExactFirstAgreeWrong)

/-- 'laws.FnExactHalvesOfHeard': WHATEVER THE INPUT: true; the input reads as it did. -/
def fnExactHalvesOfHeardSpec : ChangeSpec := { name := "fnExactHalvesOfHeard", fn := fun _ => fun
  | [d1, d2] => { results := [.lit (.bool true)], args := [d1, d2] }
  | _ => none }
def fnExactHalvesOfHeardRow : OpenClaim := { program := "ytjjbockboifcbaa", sum := "d563c909f8acd1b40d569d1512dcf2bf1784661c12f8940bffbc7036cf139095", func := "loop.example/g01241/laws.FnExactHalvesOfHeard", spec := "fnExactHalvesOfHeard", unfollowed := true, recurses := true, apart := false }
def FnExactHalvesOfHeardSaid : Prop := fnExactHalvesOfHeardRow.holds Try.pinned (OpenSpec.ofChange fnExactHalvesOfHeardSpec)

/-- ITS FALSE NEIGHBOUR: 'it returns false'. Refute it at one input. -/
def fnExactHalvesOfHeardWrong : ChangeSpec := { name := "fnExactHalvesOfHeard", fn := fun _ => fun
  | [d1, d2] => { results := [.lit (.bool false)], args := [d1, d2] }
  | _ => none }
def FnExactHalvesOfHeardWrongFalsely : Prop := fnExactHalvesOfHeardRow.holds Try.pinned (OpenSpec.ofChange fnExactHalvesOfHeardWrong)

/- THE SECOND FORM. 'bulk': how many values and letters a reading holds, each counted each time it is reached (what is shared counts as often as it is met; a slice's spare places count too). A statement '..UptoSaid' is the law's where the arguments, and the package variables that the reading takes, are together of bulk at most 1048576: NARROWER than '..Said'. Prove '..Said' where nothing that the law and all that it calls make is longer than what came in: it says more and counts as full. Else prove '..UptoSaid'. A law counts once. -/
mutual
def uptoBulk {H : Type} : DataW H → Nat
  | .lit (.string bytes) => bytes.length + 1
  | .lit _ => 1
  | .nil => 1
  | .ptr d => uptoBulk d + 1
  | .slice elems spare => uptoBulkAll elems + uptoBulkAll spare + 1
  | .agg parts => uptoBulkAll parts + 1
  | .iface _ d => uptoBulk d + 1
  | .map entries => uptoBulkEntries entries + 1
  | .held _ => 1
def uptoBulkAll {H : Type} : List (DataW H) → Nat
  | [] => 0
  | d :: r => uptoBulk d + uptoBulkAll r
def uptoBulkEntries {H : Type} : List (Lit × DataW H) → Nat
  | [] => 0
  | x :: r => uptoBulkEntry x + uptoBulkEntries r
def uptoBulkEntry {H : Type} : Lit × DataW H → Nat
  | (.string bytes, d) => bytes.length + uptoBulk d + 1
  | (_, d) => uptoBulk d + 1
 end
def uptoSmall : (H : Type) → List (DataW H) → Bool := fun _ ds => decide (uptoBulkAll ds ≤ 1048576)
def OpenSpec.upto (s : _root_.Go.ChangeSpec) : _root_.Go.OpenSpec := { _root_.Go.OpenSpec.ofChange s with cond := some uptoSmall }

/-- 'laws.FnExactTurnSeen', WHERE WHAT IT READS IS OF BULK AT MOST 1048576: true; the input reads as it did. -/
def fnExactTurnSeenUptoRow : OpenClaim := { program := "ytjjbockboifcbaa", sum := "d563c909f8acd1b40d569d1512dcf2bf1784661c12f8940bffbc7036cf139095", func := "loop.example/g01241/laws.FnExactTurnSeen", spec := "fnExactTurnSeen", unfollowed := true, recurses := true, apart := false, narrowed := true }
def FnExactTurnSeenUptoSaid : Prop := fnExactTurnSeenUptoRow.holds Try.pinned (OpenSpec.upto fnExactTurnSeenSpec)

/-- 'laws.FnExactAgreeEvery', WHERE WHAT IT READS IS OF BULK AT MOST 1048576: true; the input reads as it did. -/
def fnExactAgreeEveryUptoRow : OpenClaim := { program := "ytjjbockboifcbaa", sum := "d563c909f8acd1b40d569d1512dcf2bf1784661c12f8940bffbc7036cf139095", func := "loop.example/g01241/laws.FnExactAgreeEvery", spec := "fnExactAgreeEvery", apart := false, narrowed := true }
def FnExactAgreeEveryUptoSaid : Prop := fnExactAgreeEveryUptoRow.holds Try.pinned (OpenSpec.upto fnExactAgreeEverySpec)

/-- 'laws.FnExactSetRight', WHERE WHAT IT READS IS OF BULK AT MOST 1048576: true; the input reads as it did. -/
def fnExactSetRightUptoRow : OpenClaim := { program := "ytjjbockboifcbaa", sum := "d563c909f8acd1b40d569d1512dcf2bf1784661c12f8940bffbc7036cf139095", func := "loop.example/g01241/laws.FnExactSetRight", spec := "fnExactSetRight", apart := false, narrowed := true }
def FnExactSetRightUptoSaid : Prop := fnExactSetRightUptoRow.holds Try.pinned (OpenSpec.upto fnExactSetRightSpec)

/-- 'laws.FnExactFirstShown', WHERE WHAT IT READS IS OF BULK AT MOST 1048576: true; the input reads as it did. -/
def fnExactFirstShownUptoRow : OpenClaim := { program := "ytjjbockboifcbaa", sum := "d563c909f8acd1b40d569d1512dcf2bf1784661c12f8940bffbc7036cf139095", func := "loop.example/g01241/laws.FnExactFirstShown", spec := "fnExactFirstShown", apart := false, narrowed := true }
def FnExactFirstShownUptoSaid : Prop := fnExactFirstShownUptoRow.holds Try.pinned (OpenSpec.upto fnExactFirstShownSpec)

/-- 'laws.FnExactFirstRight', WHERE WHAT IT READS IS OF BULK AT MOST 1048576: true; the input reads as it did. -/
def fnExactFirstRightUptoRow : OpenClaim := { program := "ytjjbockboifcbaa", sum := "d563c909f8acd1b40d569d1512dcf2bf1784661c12f8940bffbc7036cf139095", func := "loop.example/g01241/laws.FnExactFirstRight", spec := "fnExactFirstRight", apart := false, narrowed := true }
def FnExactFirstRightUptoSaid : Prop := fnExactFirstRightUptoRow.holds Try.pinned (OpenSpec.upto fnExactFirstRightSpec)

/-- 'laws.FnExactAllExchanged', WHERE WHAT IT READS IS OF BULK AT MOST 1048576: true; the input reads as it did. -/
def fnExactAllExchangedUptoRow : OpenClaim := { program := "ytjjbockboifcbaa", sum := "d563c909f8acd1b40d569d1512dcf2bf1784661c12f8940bffbc7036cf139095", func := "loop.example/g01241/laws.FnExactAllExchanged", spec := "fnExactAllExchanged", unfollowed := true, recurses := true, apart := false, narrowed := true }
def FnExactAllExchangedUptoSaid : Prop := fnExactAllExchangedUptoRow.holds Try.pinned (OpenSpec.upto fnExactAllExchangedSpec)

/-- 'laws.FnExactClockOfReadings', WHERE WHAT IT READS IS OF BULK AT MOST 1048576: true; the input reads as it did. -/
def fnExactClockOfReadingsUptoRow : OpenClaim := { program := "ytjjbockboifcbaa", sum := "d563c909f8acd1b40d569d1512dcf2bf1784661c12f8940bffbc7036cf139095", func := "loop.example/g01241/laws.FnExactClockOfReadings", spec := "fnExactClockOfReadings", unfollowed := true, recurses := true, apart := false, narrowed := true }
def FnExactClockOfReadingsUptoSaid : Prop := fnExactClockOfReadingsUptoRow.holds Try.pinned (OpenSpec.upto fnExactClockOfReadingsSpec)

/-- 'laws.FnExactIsHeard', WHERE WHAT IT READS IS OF BULK AT MOST 1048576: true; the input reads as it did. -/
def fnExactIsHeardUptoRow : OpenClaim := { program := "ytjjbockboifcbaa", sum := "d563c909f8acd1b40d569d1512dcf2bf1784661c12f8940bffbc7036cf139095", func := "loop.example/g01241/laws.FnExactIsHeard", spec := "fnExactIsHeard", unfollowed := true, recurses := true, apart := false, narrowed := true }
def FnExactIsHeardUptoSaid : Prop := fnExactIsHeardUptoRow.holds Try.pinned (OpenSpec.upto fnExactIsHeardSpec)

/-- 'laws.FnStrokesWaitedOfAll', WHERE WHAT IT READS IS OF BULK AT MOST 1048576: true; the input reads as it did. -/
def fnStrokesWaitedOfAllUptoRow : OpenClaim := { program := "ytjjbockboifcbaa", sum := "d563c909f8acd1b40d569d1512dcf2bf1784661c12f8940bffbc7036cf139095", func := "loop.example/g01241/laws.FnStrokesWaitedOfAll", spec := "fnStrokesWaitedOfAll", apart := false, narrowed := true }
def FnStrokesWaitedOfAllUptoSaid : Prop := fnStrokesWaitedOfAllUptoRow.holds Try.pinned (OpenSpec.upto fnStrokesWaitedOfAllSpec)

/-- 'laws.FnExactTimesWithAngle', WHERE WHAT IT READS IS OF BULK AT MOST 1048576: true; the input reads as it did. -/
def fnExactTimesWithAngleUptoRow : OpenClaim := { program := "ytjjbockboifcbaa", sum := "d563c909f8acd1b40d569d1512dcf2bf1784661c12f8940bffbc7036cf139095", func := "loop.example/g01241/laws.FnExactTimesWithAngle", spec := "fnExactTimesWithAngle", unfollowed := true, recurses := true, apart := false, narrowed := true }
def FnExactTimesWithAngleUptoSaid : Prop := fnExactTimesWithAngleUptoRow.holds Try.pinned (OpenSpec.upto fnExactTimesWithAngleSpec)

/-- 'laws.FnExactFirstAgree', WHERE WHAT IT READS IS OF BULK AT MOST 1048576: true; the input reads as it did. -/
def fnExactFirstAgreeUptoRow : OpenClaim := { program := "ytjjbockboifcbaa", sum := "d563c909f8acd1b40d569d1512dcf2bf1784661c12f8940bffbc7036cf139095", func := "loop.example/g01241/laws.FnExactFirstAgree", spec := "fnExactFirstAgree", apart := false, narrowed := true }
def FnExactFirstAgreeUptoSaid : Prop := fnExactFirstAgreeUptoRow.holds Try.pinned (OpenSpec.upto fnExactFirstAgreeSpec)

/-- 'laws.FnExactHalvesOfHeard', WHERE WHAT IT READS IS OF BULK AT MOST 1048576: true; the input reads as it did. -/
def fnExactHalvesOfHeardUptoRow : OpenClaim := { program := "ytjjbockboifcbaa", sum := "d563c909f8acd1b40d569d1512dcf2bf1784661c12f8940bffbc7036cf139095", func := "loop.example/g01241/laws.FnExactHalvesOfHeard", spec := "fnExactHalvesOfHeard", unfollowed := true, recurses := true, apart := false, narrowed := true }
def FnExactHalvesOfHeardUptoSaid : Prop := fnExactHalvesOfHeardUptoRow.holds Try.pinned (OpenSpec.upto fnExactHalvesOfHeardSpec)

end Rows
end Go.Proofs.Ytjjbockboifcbaa
