/-
  No cell of these rows narrows 'for every input' (looked for: loops, veiled, ifaces, maps, wideKeys, modest, calm, conditions, laid).
  DERIVED. THE GIVEN ROWS OF THIS SEAT. 11 by the template 'for every input the law returns true; each argument reads behind the call as it read before'; 0 by the template 'total and deterministic' (their statements: YtbcpdgiinebnaaaTotals.lean).
  GIVEN WITH THE SEED: the statements are not yours to turn. If you find one false, say at which input.
  Laid BY PROGRAM, IN A SANDBOX (cutbox-rows.mjs): the forced cells as the released guide's own fill.sh prints them over the translation 088464c0fbfd1506… (all of the seat's roots in one cut). By AI agents, Wed Nov 11 2026. No macro, syntax, notation, axiom, sorry.
-/
import Derived.Test.YtbcpdgiinebnaaaChecked
import GoSem.Claim
import GoSem.ClaimJoined
import GoSem.ClaimMapViews
import Derived.JoinedTies
import Derived.KernelRfl
namespace Go.Proofs.Ytbcpdgiinebnaaa
/- THE CELL 'sum', in the pinned program and in every row, IS THE sha256 OF THE DUMP (.gsa) THAT YtbcpdgiinebnaaaProg.lean LOADS. Nothing in Lean hashes anything: it is a label: what it is worth is what the hold of that sum in a sandbox is worth. -/
noncomputable def Try.pinned : Pinned := { name := "ytbcpdgiinebnaaa", sum := "088464c0fbfd15060d09d21349360f158a64a2166735f15d56c7cfc2c8f871d4", checked := Try.checked }
namespace Rows
def none {H : Type} : Left H := { results := [], args := [] }

/-- 'laws.FnExactLongestUnknown': WHATEVER THE INPUT: true; the input reads as it did. -/
def fnExactLongestUnknownSpec : ChangeSpec := { name := "fnExactLongestUnknown", fn := fun _ => fun
  | [d] => { results := [.lit (.bool true)], args := [d] }
  | _ => none }
def fnExactLongestUnknownRow : OpenClaim := { program := "ytbcpdgiinebnaaa", sum := "088464c0fbfd15060d09d21349360f158a64a2166735f15d56c7cfc2c8f871d4", func := "loop.example/g01241/laws.FnExactLongestUnknown", spec := "fnExactLongestUnknown", apart := false }
def FnExactLongestUnknownSaid : Prop := fnExactLongestUnknownRow.holds Try.pinned (OpenSpec.ofChange fnExactLongestUnknownSpec)

/-- ITS FALSE NEIGHBOUR: 'it returns false'. Refute it at one input. -/
def fnExactLongestUnknownWrong : ChangeSpec := { name := "fnExactLongestUnknown", fn := fun _ => fun
  | [d] => { results := [.lit (.bool false)], args := [d] }
  | _ => none }
def FnExactLongestUnknownWrongFalsely : Prop := fnExactLongestUnknownRow.holds Try.pinned (OpenSpec.ofChange fnExactLongestUnknownWrong)

/-- 'laws.FnExactTimesTurned': WHATEVER THE INPUT: true; the input reads as it did. -/
def fnExactTimesTurnedSpec : ChangeSpec := { name := "fnExactTimesTurned", fn := fun _ => fun
  | [d1, d2] => { results := [.lit (.bool true)], args := [d1, d2] }
  | _ => none }
def fnExactTimesTurnedRow : OpenClaim := { program := "ytbcpdgiinebnaaa", sum := "088464c0fbfd15060d09d21349360f158a64a2166735f15d56c7cfc2c8f871d4", func := "loop.example/g01241/laws.FnExactTimesTurned", spec := "fnExactTimesTurned", unfollowed := true, recurses := true, apart := false }
def FnExactTimesTurnedSaid : Prop := fnExactTimesTurnedRow.holds Try.pinned (OpenSpec.ofChange fnExactTimesTurnedSpec)

/-- ITS FALSE NEIGHBOUR: 'it returns false'. Refute it at one input. -/
def fnExactTimesTurnedWrong : ChangeSpec := { name := "fnExactTimesTurned", fn := fun _ => fun
  | [d1, d2] => { results := [.lit (.bool false)], args := [d1, d2] }
  | _ => none }
def FnExactTimesTurnedWrongFalsely : Prop := fnExactTimesTurnedRow.holds Try.pinned (OpenSpec.ofChange fnExactTimesTurnedWrong)

/-- 'laws.FnExactTurnsOfDial': WHATEVER THE INPUT: true; the input reads as it did. -/
def fnExactTurnsOfDialSpec : ChangeSpec := { name := "fnExactTurnsOfDial", fn := fun _ => fun
  | [d1, d2] => { results := [.lit (.bool true)], args := [d1, d2] }
  | _ => none }
def fnExactTurnsOfDialRow : OpenClaim := { program := "ytbcpdgiinebnaaa", sum := "088464c0fbfd15060d09d21349360f158a64a2166735f15d56c7cfc2c8f871d4", func := "loop.example/g01241/laws.FnExactTurnsOfDial", spec := "fnExactTurnsOfDial", unfollowed := true, recurses := true, apart := false }
def FnExactTurnsOfDialSaid : Prop := fnExactTurnsOfDialRow.holds Try.pinned (OpenSpec.ofChange fnExactTurnsOfDialSpec)

/-- ITS FALSE NEIGHBOUR: 'it returns false'. Refute it at one input. -/
def fnExactTurnsOfDialWrong : ChangeSpec := { name := "fnExactTurnsOfDial", fn := fun _ => fun
  | [d1, d2] => { results := [.lit (.bool false)], args := [d1, d2] }
  | _ => none }
def FnExactTurnsOfDialWrongFalsely : Prop := fnExactTurnsOfDialRow.holds Try.pinned (OpenSpec.ofChange fnExactTurnsOfDialWrong)

/-- 'laws.FnClocksDriftOfAll': WHATEVER THE INPUT: true; the input reads as it did. -/
def fnClocksDriftOfAllSpec : ChangeSpec := { name := "fnClocksDriftOfAll", fn := fun _ => fun
  | [d1, d2, d3, d4, d5] => { results := [.lit (.bool true)], args := [d1, d2, d3, d4, d5] }
  | _ => none }
def fnClocksDriftOfAllRow : OpenClaim := { program := "ytbcpdgiinebnaaa", sum := "088464c0fbfd15060d09d21349360f158a64a2166735f15d56c7cfc2c8f871d4", func := "loop.example/g01241/laws.FnClocksDriftOfAll", spec := "fnClocksDriftOfAll", unfollowed := true, recurses := true, apart := false }
def FnClocksDriftOfAllSaid : Prop := fnClocksDriftOfAllRow.holds Try.pinned (OpenSpec.ofChange fnClocksDriftOfAllSpec)

/-- ITS FALSE NEIGHBOUR: 'it returns false'. Refute it at one input. -/
def fnClocksDriftOfAllWrong : ChangeSpec := { name := "fnClocksDriftOfAll", fn := fun _ => fun
  | [d1, d2, d3, d4, d5] => { results := [.lit (.bool false)], args := [d1, d2, d3, d4, d5] }
  | _ => none }
def FnClocksDriftOfAllWrongFalsely : Prop := fnClocksDriftOfAllRow.holds Try.pinned (OpenSpec.ofChange fnClocksDriftOfAllWrong)

/-- 'laws.FnTurnsAdded': WHATEVER THE INPUT: true; the input reads as it did. -/
def fnTurnsAddedSpec : ChangeSpec := { name := "fnTurnsAdded", fn := fun _ => fun
  | [d1, d2] => { results := [.lit (.bool true)], args := [d1, d2] }
  | _ => none }
def fnTurnsAddedRow : OpenClaim := { program := "ytbcpdgiinebnaaa", sum := "088464c0fbfd15060d09d21349360f158a64a2166735f15d56c7cfc2c8f871d4", func := "loop.example/g01241/laws.FnTurnsAdded", spec := "fnTurnsAdded", unfollowed := true, recurses := true, apart := false }
def FnTurnsAddedSaid : Prop := fnTurnsAddedRow.holds Try.pinned (OpenSpec.ofChange fnTurnsAddedSpec)

/-- ITS FALSE NEIGHBOUR: 'it returns false'. Refute it at one input. -/
def fnTurnsAddedWrong : ChangeSpec := { name := "fnTurnsAdded", fn := fun _ => fun
  | [d1, d2] => { results := [.lit (.bool false)], args := [d1, d2] }
  | _ => none }
def FnTurnsAddedWrongFalsely : Prop := fnTurnsAddedRow.holds Try.pinned (OpenSpec.ofChange fnTurnsAddedWrong)

/-- 'laws.FnStrokesCountedOfAll': WHATEVER THE INPUT: true; the input reads as it did. -/
def fnStrokesCountedOfAllSpec : ChangeSpec := { name := "fnStrokesCountedOfAll", fn := fun _ => fun
  | [d1, d2, d3, d4, d5, d6, d7, d8, d9, d10] => { results := [.lit (.bool true)], args := [d1, d2, d3, d4, d5, d6, d7, d8, d9, d10] }
  | _ => none }
def fnStrokesCountedOfAllRow : OpenClaim := { program := "ytbcpdgiinebnaaa", sum := "088464c0fbfd15060d09d21349360f158a64a2166735f15d56c7cfc2c8f871d4", func := "loop.example/g01241/laws.FnStrokesCountedOfAll", spec := "fnStrokesCountedOfAll", unfollowed := true, recurses := true, apart := false }
def FnStrokesCountedOfAllSaid : Prop := fnStrokesCountedOfAllRow.holds Try.pinned (OpenSpec.ofChange fnStrokesCountedOfAllSpec)

/-- ITS FALSE NEIGHBOUR: 'it returns false'. Refute it at one input. -/
def fnStrokesCountedOfAllWrong : ChangeSpec := { name := "fnStrokesCountedOfAll", fn := fun _ => fun
  | [d1, d2, d3, d4, d5, d6, d7, d8, d9, d10] => { results := [.lit (.bool false)], args := [d1, d2, d3, d4, d5, d6, d7, d8, d9, d10] }
  | _ => none }
def FnStrokesCountedOfAllWrongFalsely : Prop := fnStrokesCountedOfAllRow.holds Try.pinned (OpenSpec.ofChange fnStrokesCountedOfAllWrong)

/-- 'laws.FnClocksDrift': WHATEVER THE INPUT: true; the input reads as it did. -/
def fnClocksDriftSpec : ChangeSpec := { name := "fnClocksDrift", fn := fun _ => fun
  | [d1, d2] => { results := [.lit (.bool true)], args := [d1, d2] }
  | _ => none }
def fnClocksDriftRow : OpenClaim := { program := "ytbcpdgiinebnaaa", sum := "088464c0fbfd15060d09d21349360f158a64a2166735f15d56c7cfc2c8f871d4", func := "loop.example/g01241/laws.FnClocksDrift", spec := "fnClocksDrift", unfollowed := true, recurses := true, apart := false }
def FnClocksDriftSaid : Prop := fnClocksDriftRow.holds Try.pinned (OpenSpec.ofChange fnClocksDriftSpec)

/-- ITS FALSE NEIGHBOUR: 'it returns false'. Refute it at one input. -/
def fnClocksDriftWrong : ChangeSpec := { name := "fnClocksDrift", fn := fun _ => fun
  | [d1, d2] => { results := [.lit (.bool false)], args := [d1, d2] }
  | _ => none }
def FnClocksDriftWrongFalsely : Prop := fnClocksDriftRow.holds Try.pinned (OpenSpec.ofChange fnClocksDriftWrong)

/-- 'laws.FnHandsAhead': WHATEVER THE INPUT: true; the input reads as it did. -/
def fnHandsAheadSpec : ChangeSpec := { name := "fnHandsAhead", fn := fun _ => fun
  | [d1, d2] => { results := [.lit (.bool true)], args := [d1, d2] }
  | _ => none }
def fnHandsAheadRow : OpenClaim := { program := "ytbcpdgiinebnaaa", sum := "088464c0fbfd15060d09d21349360f158a64a2166735f15d56c7cfc2c8f871d4", func := "loop.example/g01241/laws.FnHandsAhead", spec := "fnHandsAhead", unfollowed := true, recurses := true, apart := false }
def FnHandsAheadSaid : Prop := fnHandsAheadRow.holds Try.pinned (OpenSpec.ofChange fnHandsAheadSpec)

/-- ITS FALSE NEIGHBOUR: 'it returns false'. Refute it at one input. -/
def fnHandsAheadWrong : ChangeSpec := { name := "fnHandsAhead", fn := fun _ => fun
  | [d1, d2] => { results := [.lit (.bool false)], args := [d1, d2] }
  | _ => none }
def FnHandsAheadWrongFalsely : Prop := fnHandsAheadRow.holds Try.pinned (OpenSpec.ofChange fnHandsAheadWrong)

/-- 'laws.FnExactNextHeard': WHATEVER THE INPUT: true; the input reads as it did. -/
def fnExactNextHeardSpec : ChangeSpec := { name := "fnExactNextHeard", fn := fun _ => fun
  | [d1, d2] => { results := [.lit (.bool true)], args := [d1, d2] }
  | _ => none }
def fnExactNextHeardRow : OpenClaim := { program := "ytbcpdgiinebnaaa", sum := "088464c0fbfd15060d09d21349360f158a64a2166735f15d56c7cfc2c8f871d4", func := "loop.example/g01241/laws.FnExactNextHeard", spec := "fnExactNextHeard", unfollowed := true, recurses := true, apart := false }
def FnExactNextHeardSaid : Prop := fnExactNextHeardRow.holds Try.pinned (OpenSpec.ofChange fnExactNextHeardSpec)

/-- ITS FALSE NEIGHBOUR: 'it returns false'. Refute it at one input. -/
def fnExactNextHeardWrong : ChangeSpec := { name := "fnExactNextHeard", fn := fun _ => fun
  | [d1, d2] => { results := [.lit (.bool false)], args := [d1, d2] }
  | _ => none }
def FnExactNextHeardWrongFalsely : Prop := fnExactNextHeardRow.holds Try.pinned (OpenSpec.ofChange fnExactNextHeardWrong)

/-- 'laws.FnExactTimesInGlass': WHATEVER THE INPUT: true; the input reads as it did. -/
def fnExactTimesInGlassSpec : ChangeSpec := { name := "fnExactTimesInGlass", fn := fun _ => fun
  | [d1, d2] => { results := [.lit (.bool true)], args := [d1, d2] }
  | _ => none }
def fnExactTimesInGlassRow : OpenClaim := { program := "ytbcpdgiinebnaaa", sum := "088464c0fbfd15060d09d21349360f158a64a2166735f15d56c7cfc2c8f871d4", func := "loop.example/g01241/laws.FnExactTimesInGlass", spec := "fnExactTimesInGlass", unfollowed := true, recurses := true, apart := false }
def FnExactTimesInGlassSaid : Prop := fnExactTimesInGlassRow.holds Try.pinned (OpenSpec.ofChange fnExactTimesInGlassSpec)

/-- ITS FALSE NEIGHBOUR: 'it returns false'. Refute it at one input. -/
def fnExactTimesInGlassWrong : ChangeSpec := { name := "fnExactTimesInGlass", fn := fun _ => fun
  | [d1, d2] => { results := [.lit (.bool false)], args := [d1, d2] }
  | _ => none }
def FnExactTimesInGlassWrongFalsely : Prop := fnExactTimesInGlassRow.holds Try.pinned (OpenSpec.ofChange fnExactTimesInGlassWrong)

/-- 'laws.FnExactTimesAlike': WHATEVER THE INPUT: true; the input reads as it did. -/
def fnExactTimesAlikeSpec : ChangeSpec := { name := "fnExactTimesAlike", fn := fun _ => fun
  | [d1, d2] => { results := [.lit (.bool true)], args := [d1, d2] }
  | _ => none }
def fnExactTimesAlikeRow : OpenClaim := { program := "ytbcpdgiinebnaaa", sum := "088464c0fbfd15060d09d21349360f158a64a2166735f15d56c7cfc2c8f871d4", func := "loop.example/g01241/laws.FnExactTimesAlike", spec := "fnExactTimesAlike", unfollowed := true, recurses := true, apart := false }
def FnExactTimesAlikeSaid : Prop := fnExactTimesAlikeRow.holds Try.pinned (OpenSpec.ofChange fnExactTimesAlikeSpec)

/-- ITS FALSE NEIGHBOUR: 'it returns false'. Refute it at one input. -/
def fnExactTimesAlikeWrong : ChangeSpec := { name := "fnExactTimesAlike", fn := fun _ => fun
  | [d1, d2] => { results := [.lit (.bool false)], args := [d1, d2] }
  | _ => none }
def FnExactTimesAlikeWrongFalsely : Prop := fnExactTimesAlikeRow.holds Try.pinned (OpenSpec.ofChange fnExactTimesAlikeWrong)

/- THE SECOND FORM. 'bulk': how many values and letters a reading holds, each counted each time it is reached (what is shared counts as often as it is met; a slice's spare places count too). A statement '..UptoSaid' is the law's where the arguments, and the package variables that the reading takes, are together of bulk at most 1048576: NARROWER than '..Said'. Prove '..Said' where nothing that the law and all that it calls make is longer than what came in: it says more and counts as full. Else prove '..UptoSaid'. A law counts once. -/
mutual
def uptoBulk {H : Type} : DataW H → Nat
  | .lit (.string bytes) => bytes.length + 1
  | .lit _ => 1
  | .nil => 1
  | .ptr d => uptoBulk d + 1
  | .slice elems spare => uptoBulkAll elems + uptoBulkAll spare + 1
  | .agg parts => uptoBulkAll parts + 1
  | .iface _ d => uptoBulk d + 1
  | .map entries => uptoBulkEntries entries + 1
  | .held _ => 1
def uptoBulkAll {H : Type} : List (DataW H) → Nat
  | [] => 0
  | d :: r => uptoBulk d + uptoBulkAll r
def uptoBulkEntries {H : Type} : List (Lit × DataW H) → Nat
  | [] => 0
  | x :: r => uptoBulkEntry x + uptoBulkEntries r
def uptoBulkEntry {H : Type} : Lit × DataW H → Nat
  | (.string bytes, d) => bytes.length + uptoBulk d + 1
  | (_, d) => uptoBulk d + 1
 end
def uptoSmall : (H : Type) → List (DataW H) → Bool := fun _ ds => decide (uptoBulkAll ds ≤ 1048576)
def OpenSpec.upto (s : _root_.Go.ChangeSpec) : _root_.Go.OpenSpec := { _root_.Go.OpenSpec.ofChange s with cond := some uptoSmall }

/-- 'laws.FnExactLongestUnknown', WHERE WHAT IT READS IS OF BULK AT MOST 1048576: true; the input reads as it did. -/
def fnExactLongestUnknownUptoRow : OpenClaim := { program := "ytbcpdgiinebnaaa", sum := "088464c0fbfd15060d09d21349360f158a64a2166735f15d56c7cfc2c8f871d4", func := "loop.example/g01241/laws.FnExactLongestUnknown", spec := "fnExactLongestUnknown", apart := false, narrowed := true }
def FnExactLongestUnknownUptoSaid : Prop := fnExactLongestUnknownUptoRow.holds Try.pinned (OpenSpec.upto fnExactLongestUnknownSpec)

/-- 'laws.FnExactTimesTurned', WHERE WHAT IT READS IS OF BULK AT MOST 1048576: true; the input reads as it did. -/
def fnExactTimesTurnedUptoRow : OpenClaim := { program := "ytbcpdgiinebnaaa", sum := "088464c0fbfd15060d09d21349360f158a64a2166735f15d56c7cfc2c8f871d4", func := "loop.example/g01241/laws.FnExactTimesTurned", spec := "fnExactTimesTurned", unfollowed := true, recurses := true, apart := false, narrowed := true }
def FnExactTimesTurnedUptoSaid : Prop := fnExactTimesTurnedUptoRow.holds Try.pinned (OpenSpec.upto fnExactTimesTurnedSpec)

/-- 'laws.FnExactTurnsOfDial', WHERE WHAT IT READS IS OF BULK AT MOST 1048576: true; the input reads as it did. -/
def fnExactTurnsOfDialUptoRow : OpenClaim := { program := "ytbcpdgiinebnaaa", sum := "088464c0fbfd15060d09d21349360f158a64a2166735f15d56c7cfc2c8f871d4", func := "loop.example/g01241/laws.FnExactTurnsOfDial", spec := "fnExactTurnsOfDial", unfollowed := true, recurses := true, apart := false, narrowed := true }
def FnExactTurnsOfDialUptoSaid : Prop := fnExactTurnsOfDialUptoRow.holds Try.pinned (OpenSpec.upto fnExactTurnsOfDialSpec)

/-- 'laws.FnClocksDriftOfAll', WHERE WHAT IT READS IS OF BULK AT MOST 1048576: true; the input reads as it did. -/
def fnClocksDriftOfAllUptoRow : OpenClaim := { program := "ytbcpdgiinebnaaa", sum := "088464c0fbfd15060d09d21349360f158a64a2166735f15d56c7cfc2c8f871d4", func := "loop.example/g01241/laws.FnClocksDriftOfAll", spec := "fnClocksDriftOfAll", unfollowed := true, recurses := true, apart := false, narrowed := true }
def FnClocksDriftOfAllUptoSaid : Prop := fnClocksDriftOfAllUptoRow.holds Try.pinned (OpenSpec.upto fnClocksDriftOfAllSpec)

/-- 'laws.FnTurnsAdded', WHERE WHAT IT READS IS OF BULK AT MOST 1048576: true; the input reads as it did. -/
def fnTurnsAddedUptoRow : OpenClaim := { program := "ytbcpdgiinebnaaa", sum := "088464c0fbfd15060d09d21349360f158a64a2166735f15d56c7cfc2c8f871d4", func := "loop.example/g01241/laws.FnTurnsAdded", spec := "fnTurnsAdded", unfollowed := true, recurses := true, apart := false, narrowed := true }
def FnTurnsAddedUptoSaid : Prop := fnTurnsAddedUptoRow.holds Try.pinned (OpenSpec.upto fnTurnsAddedSpec)

/-- 'laws.FnStrokesCountedOfAll', WHERE WHAT IT READS IS OF BULK AT MOST 1048576: true; the input reads as it did. -/
def fnStrokesCountedOfAllUptoRow : OpenClaim := { program := "ytbcpdgiinebnaaa", sum := "088464c0fbfd15060d09d21349360f158a64a2166735f15d56c7cfc2c8f871d4", func := "loop.example/g01241/laws.FnStrokesCountedOfAll", spec := "fnStrokesCountedOfAll", unfollowed := true, recurses := true, apart := false, narrowed := true }
def FnStrokesCountedOfAllUptoSaid : Prop := fnStrokesCountedOfAllUptoRow.holds Try.pinned (OpenSpec.upto fnStrokesCountedOfAllSpec)

/-- 'laws.FnClocksDrift', WHERE WHAT IT READS IS OF BULK AT MOST 1048576: true; the input reads as it did. -/
def fnClocksDriftUptoRow : OpenClaim := { program := "ytbcpdgiinebnaaa", sum := "088464c0fbfd15060d09d21349360f158a64a2166735f15d56c7cfc2c8f871d4", func := "loop.example/g01241/laws.FnClocksDrift", spec := "fnClocksDrift", unfollowed := true, recurses := true, apart := false, narrowed := true }
def FnClocksDriftUptoSaid : Prop := fnClocksDriftUptoRow.holds Try.pinned (OpenSpec.upto fnClocksDriftSpec)

/-- 'laws.FnHandsAhead', WHERE WHAT IT READS IS OF BULK AT MOST 1048576: true; the input reads as it did. -/
def fnHandsAheadUptoRow : OpenClaim := { program := "ytbcpdgiinebnaaa", sum := "088464c0fbfd15060d09d21349360f158a64a2166735f15d56c7cfc2c8f871d4", func := "loop.example/g01241/laws.FnHandsAhead", spec := "fnHandsAhead", unfollowed := true, recurses := true, apart := false, narrowed := true }
def FnHandsAheadUptoSaid : Prop := fnHandsAheadUptoRow.holds Try.pinned (OpenSpec.upto fnHandsAheadSpec)

/-- 'laws.FnExactNextHeard', WHERE WHAT IT READS IS OF BULK AT MOST 1048576: true; the input reads as it did. -/
def fnExactNextHeardUptoRow : OpenClaim := { program := "ytbcpdgiinebnaaa", sum := "088464c0fbfd15060d09d21349360f158a64a2166735f15d56c7cfc2c8f871d4", func := "loop.example/g01241/laws.FnExactNextHeard", spec := "fnExactNextHeard", unfollowed := true, recurses := true, apart := false, narrowed := true }
def FnExactNextHeardUptoSaid : Prop := fnExactNextHeardUptoRow.holds Try.pinned (OpenSpec.upto fnExactNextHeardSpec)

/-- 'laws.FnExactTimesInGlass', WHERE WHAT IT READS IS OF BULK AT MOST 1048576: true; the input reads as it did. -/
def fnExactTimesInGlassUptoRow : OpenClaim := { program := "ytbcpdgiinebnaaa", sum := "088464c0fbfd15060d09d21349360f158a64a2166735f15d56c7cfc2c8f871d4", func := "loop.example/g01241/laws.FnExactTimesInGlass", spec := "fnExactTimesInGlass", unfollowed := true, recurses := true, apart := false, narrowed := true }
def FnExactTimesInGlassUptoSaid : Prop := fnExactTimesInGlassUptoRow.holds Try.pinned (OpenSpec.upto fnExactTimesInGlassSpec)

/-- 'laws.FnExactTimesAlike', WHERE WHAT IT READS IS OF BULK AT MOST 1048576: true; the input reads as it did. -/
def fnExactTimesAlikeUptoRow : OpenClaim := { program := "ytbcpdgiinebnaaa", sum := "088464c0fbfd15060d09d21349360f158a64a2166735f15d56c7cfc2c8f871d4", func := "loop.example/g01241/laws.FnExactTimesAlike", spec := "fnExactTimesAlike", unfollowed := true, recurses := true, apart := false, narrowed := true }
def FnExactTimesAlikeUptoSaid : Prop := fnExactTimesAlikeUptoRow.holds Try.pinned (OpenSpec.upto fnExactTimesAlikeSpec)

end Rows
end Go.Proofs.Ytbcpdgiinebnaaa
