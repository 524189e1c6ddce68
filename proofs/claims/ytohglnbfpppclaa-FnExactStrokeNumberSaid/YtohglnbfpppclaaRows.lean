/-
  No cell of these rows narrows 'for every input' (looked for: loops, veiled, ifaces, maps, wideKeys, modest, calm, conditions, laid).
  DERIVED. THE GIVEN ROWS OF THIS SEAT. 12 by the template 'for every input the law returns true; each argument reads behind the call as it read before'; 0 by the template 'total and deterministic' (their statements: YtohglnbfpppclaaTotals.lean).
  GIVEN WITH THE SEED: the statements are not yours to turn. If you find one false, say at which input.
  Laid BY PROGRAM, IN A SANDBOX (cutbox-rows.mjs): the forced cells as the released guide's own fill.sh prints them over the translation f3f909ea47f0827d… (all of the seat's roots in one cut). By AI agents, Wed Nov 11 2026. No macro, syntax, notation, axiom, sorry.
-/
import Derived.Test.YtohglnbfpppclaaChecked
import GoSem.Claim
import GoSem.ClaimJoined
import GoSem.ClaimMapViews
import Derived.JoinedTies
import Derived.KernelRfl
namespace Go.Proofs.Ytohglnbfpppclaa
/- THE CELL 'sum', in the pinned program and in every row, IS THE sha256 OF THE DUMP (.gsa) THAT YtohglnbfpppclaaProg.lean LOADS. Nothing in Lean hashes anything: it is a label: what it is worth is what the hold of that sum in a sandbox is worth. -/
noncomputable def Try.pinned : Pinned := { name := "ytohglnbfpppclaa", sum := "f3f909ea47f0827d8489bc55eb104af06a9eff6b56323427087bd7241c674cf7", checked := Try.checked }
namespace Rows
def none {H : Type} : Left H := { results := [], args := [] }

/-- 'laws.FnExactCountUnsure': WHATEVER THE INPUT: true; the input reads as it did. -/
def fnExactCountUnsureSpec : ChangeSpec := { name := "fnExactCountUnsure", fn := fun _ => fun
  | [d] => { results := [.lit (.bool true)], args := [d] }
  | _ => none }
def fnExactCountUnsureRow : OpenClaim := { program := "ytohglnbfpppclaa", sum := "f3f909ea47f0827d8489bc55eb104af06a9eff6b56323427087bd7241c674cf7", func := "loop.example/g01241/laws.FnExactCountUnsure", spec := "fnExactCountUnsure", apart := false }
def FnExactCountUnsureSaid : Prop := fnExactCountUnsureRow.holds Try.pinned (OpenSpec.ofChange fnExactCountUnsureSpec)

/-- ITS FALSE NEIGHBOUR: 'it returns false'. Refute it at one input. -/
def fnExactCountUnsureWrong : ChangeSpec := { name := "fnExactCountUnsure", fn := fun _ => fun
  | [d] => { results := [.lit (.bool false)], args := [d] }
  | _ => none }
def FnExactCountUnsureWrongFalsely : Prop := fnExactCountUnsureRow.holds Try.pinned (OpenSpec.ofChange fnExactCountUnsureWrong)

/-- 'laws.FnExactStrokesOfTurn': WHATEVER THE INPUT: true; the input reads as it did. -/
def fnExactStrokesOfTurnSpec : ChangeSpec := { name := "fnExactStrokesOfTurn", fn := fun _ => fun
  | [d] => { results := [.lit (.bool true)], args := [d] }
  | _ => none }
def fnExactStrokesOfTurnRow : OpenClaim := { program := "ytohglnbfpppclaa", sum := "f3f909ea47f0827d8489bc55eb104af06a9eff6b56323427087bd7241c674cf7", func := "loop.example/g01241/laws.FnExactStrokesOfTurn", spec := "fnExactStrokesOfTurn", apart := false }
def FnExactStrokesOfTurnSaid : Prop := fnExactStrokesOfTurnRow.holds Try.pinned (OpenSpec.ofChange fnExactStrokesOfTurnSpec)

/-- ITS FALSE NEIGHBOUR: 'it returns false'. Refute it at one input. -/
def fnExactStrokesOfTurnWrong : ChangeSpec := { name := "fnExactStrokesOfTurn", fn := fun _ => fun
  | [d] => { results := [.lit (.bool false)], args := [d] }
  | _ => none }
def FnExactStrokesOfTurnWrongFalsely : Prop := fnExactStrokesOfTurnRow.holds Try.pinned (OpenSpec.ofChange fnExactStrokesOfTurnWrong)

/-- 'laws.FnExactStepsBack': WHATEVER THE INPUT: true; the input reads as it did. -/
def fnExactStepsBackSpec : ChangeSpec := { name := "fnExactStepsBack", fn := fun _ => fun
  | [d1, d2, d3] => { results := [.lit (.bool true)], args := [d1, d2, d3] }
  | _ => none }
def fnExactStepsBackRow : OpenClaim := { program := "ytohglnbfpppclaa", sum := "f3f909ea47f0827d8489bc55eb104af06a9eff6b56323427087bd7241c674cf7", func := "loop.example/g01241/laws.FnExactStepsBack", spec := "fnExactStepsBack", apart := false }
def FnExactStepsBackSaid : Prop := fnExactStepsBackRow.holds Try.pinned (OpenSpec.ofChange fnExactStepsBackSpec)

/-- ITS FALSE NEIGHBOUR: 'it returns false'. Refute it at one input. -/
def fnExactStepsBackWrong : ChangeSpec := { name := "fnExactStepsBack", fn := fun _ => fun
  | [d1, d2, d3] => { results := [.lit (.bool false)], args := [d1, d2, d3] }
  | _ => none }
def FnExactStepsBackWrongFalsely : Prop := fnExactStepsBackRow.holds Try.pinned (OpenSpec.ofChange fnExactStepsBackWrong)

/-- 'laws.FnExactStrokesAt': WHATEVER THE INPUT: true; the input reads as it did. -/
def fnExactStrokesAtSpec : ChangeSpec := { name := "fnExactStrokesAt", fn := fun _ => fun
  | [d1, d2] => { results := [.lit (.bool true)], args := [d1, d2] }
  | _ => none }
def fnExactStrokesAtRow : OpenClaim := { program := "ytohglnbfpppclaa", sum := "f3f909ea47f0827d8489bc55eb104af06a9eff6b56323427087bd7241c674cf7", func := "loop.example/g01241/laws.FnExactStrokesAt", spec := "fnExactStrokesAt", apart := false }
def FnExactStrokesAtSaid : Prop := fnExactStrokesAtRow.holds Try.pinned (OpenSpec.ofChange fnExactStrokesAtSpec)

/-- ITS FALSE NEIGHBOUR: 'it returns false'. Refute it at one input. -/
def fnExactStrokesAtWrong : ChangeSpec := { name := "fnExactStrokesAt", fn := fun _ => fun
  | [d1, d2] => { results := [.lit (.bool false)], args := [d1, d2] }
  | _ => none }
def FnExactStrokesAtWrongFalsely : Prop := fnExactStrokesAtRow.holds Try.pinned (OpenSpec.ofChange fnExactStrokesAtWrong)

/-- 'laws.FnExactWaitForStrokes': WHATEVER THE INPUT: true; the input reads as it did. -/
def fnExactWaitForStrokesSpec : ChangeSpec := { name := "fnExactWaitForStrokes", fn := fun _ => fun
  | [d1, d2, d3] => { results := [.lit (.bool true)], args := [d1, d2, d3] }
  | _ => none }
def fnExactWaitForStrokesRow : OpenClaim := { program := "ytohglnbfpppclaa", sum := "f3f909ea47f0827d8489bc55eb104af06a9eff6b56323427087bd7241c674cf7", func := "loop.example/g01241/laws.FnExactWaitForStrokes", spec := "fnExactWaitForStrokes", apart := false }
def FnExactWaitForStrokesSaid : Prop := fnExactWaitForStrokesRow.holds Try.pinned (OpenSpec.ofChange fnExactWaitForStrokesSpec)

/-- ITS FALSE NEIGHBOUR: 'it returns false'. Refute it at one input. -/
def fnExactWaitForStrokesWrong : ChangeSpec := { name := "fnExactWaitForStrokes", fn := fun _ => fun
  | [d1, d2, d3] => { results := [.lit (.bool false)], args := [d1, d2, d3] }
  | _ => none }
def FnExactWaitForStrokesWrongFalsely : Prop := fnExactWaitForStrokesRow.holds Try.pinned (OpenSpec.ofChange fnExactWaitForStrokesWrong)

/-- 'laws.FnHandsMeet': WHATEVER THE INPUT: true; the input reads as it did. -/
def fnHandsMeetSpec : ChangeSpec := { name := "fnHandsMeet", fn := fun _ => fun
  | [d1, d2] => { results := [.lit (.bool true)], args := [d1, d2] }
  | _ => none }
def fnHandsMeetRow : OpenClaim := { program := "ytohglnbfpppclaa", sum := "f3f909ea47f0827d8489bc55eb104af06a9eff6b56323427087bd7241c674cf7", func := "loop.example/g01241/laws.FnHandsMeet", spec := "fnHandsMeet", unfollowed := true, recurses := true, apart := false }
def FnHandsMeetSaid : Prop := fnHandsMeetRow.holds Try.pinned (OpenSpec.ofChange fnHandsMeetSpec)

/-- ITS FALSE NEIGHBOUR: 'it returns false'. Refute it at one input. -/
def fnHandsMeetWrong : ChangeSpec := { name := "fnHandsMeet", fn := fun _ => fun
  | [d1, d2] => { results := [.lit (.bool false)], args := [d1, d2] }
  | _ => none }
def FnHandsMeetWrongFalsely : Prop := fnHandsMeetRow.holds Try.pinned (OpenSpec.ofChange fnHandsMeetWrong)

/-- 'laws.FnExactIsSeen': WHATEVER THE INPUT: true; the input reads as it did. -/
def fnExactIsSeenSpec : ChangeSpec := { name := "fnExactIsSeen", fn := fun _ => fun
  | [d] => { results := [.lit (.bool true)], args := [d] }
  | _ => none }
def fnExactIsSeenRow : OpenClaim := { program := "ytohglnbfpppclaa", sum := "f3f909ea47f0827d8489bc55eb104af06a9eff6b56323427087bd7241c674cf7", func := "loop.example/g01241/laws.FnExactIsSeen", spec := "fnExactIsSeen", unfollowed := true, recurses := true, apart := false }
def FnExactIsSeenSaid : Prop := fnExactIsSeenRow.holds Try.pinned (OpenSpec.ofChange fnExactIsSeenSpec)

/-- ITS FALSE NEIGHBOUR: 'it returns false'. Refute it at one input. -/
def fnExactIsSeenWrong : ChangeSpec := { name := "fnExactIsSeen", fn := fun _ => fun
  | [d] => { results := [.lit (.bool false)], args := [d] }
  | _ => none }
def FnExactIsSeenWrongFalsely : Prop := fnExactIsSeenRow.holds Try.pinned (OpenSpec.ofChange fnExactIsSeenWrong)

/-- 'laws.FnExactHalfOfWheel': WHATEVER THE INPUT: true; the input reads as it did. -/
def fnExactHalfOfWheelSpec : ChangeSpec := { name := "fnExactHalfOfWheel", fn := fun _ => fun
  | [d1, d2] => { results := [.lit (.bool true)], args := [d1, d2] }
  | _ => none }
def fnExactHalfOfWheelRow : OpenClaim := { program := "ytohglnbfpppclaa", sum := "f3f909ea47f0827d8489bc55eb104af06a9eff6b56323427087bd7241c674cf7", func := "loop.example/g01241/laws.FnExactHalfOfWheel", spec := "fnExactHalfOfWheel", apart := false }
def FnExactHalfOfWheelSaid : Prop := fnExactHalfOfWheelRow.holds Try.pinned (OpenSpec.ofChange fnExactHalfOfWheelSpec)

/-- ITS FALSE NEIGHBOUR: 'it returns false'. Refute it at one input. -/
def fnExactHalfOfWheelWrong : ChangeSpec := { name := "fnExactHalfOfWheel", fn := fun _ => fun
  | [d1, d2] => { results := [.lit (.bool false)], args := [d1, d2] }
  | _ => none }
def FnExactHalfOfWheelWrongFalsely : Prop := fnExactHalfOfWheelRow.holds Try.pinned (OpenSpec.ofChange fnExactHalfOfWheelWrong)

/-- 'laws.FnExactStrokeNumber': WHATEVER THE INPUT: true; the input reads as it did. -/
def fnExactStrokeNumberSpec : ChangeSpec := { name := "fnExactStrokeNumber", fn := fun _ => fun
  | [d1, d2] => { results := [.lit (.bool true)], args := [d1, d2] }
  | _ => none }
def fnExactStrokeNumberRow : OpenClaim := { program := "ytohglnbfpppclaa", sum := "f3f909ea47f0827d8489bc55eb104af06a9eff6b56323427087bd7241c674cf7", func := "loop.example/g01241/laws.FnExactStrokeNumber", spec := "fnExactStrokeNumber", apart := false }
def FnExactStrokeNumberSaid : Prop := fnExactStrokeNumberRow.holds Try.pinned (OpenSpec.ofChange fnExactStrokeNumberSpec)

/-- ITS FALSE NEIGHBOUR: 'it returns false'. Refute it at one input. -/
def fnExactStrokeNumberWrong : ChangeSpec := { name := "fnExactStrokeNumber", fn := fun _ => fun
  | [d1, d2] => { results := [.lit (.bool false)], args := [d1, d2] }
  | _ => none }
def FnExactStrokeNumberWrongFalsely : Prop := fnExactStrokeNumberRow.holds Try.pinned (OpenSpec.ofChange fnExactStrokeNumberWrong)

/-- 'laws.FnExactStrokesBetween': WHATEVER THE INPUT: true; the input reads as it did. -/
def fnExactStrokesBetweenSpec : ChangeSpec := { name := "fnExactStrokesBetween", fn := fun _ => fun
  | [d1, d2, d3] => { results := [.lit (.bool true)], args := [d1, d2, d3] }
  | _ => none }
def fnExactStrokesBetweenRow : OpenClaim := { program := "ytohglnbfpppclaa", sum := "f3f909ea47f0827d8489bc55eb104af06a9eff6b56323427087bd7241c674cf7", func := "loop.example/g01241/laws.FnExactStrokesBetween", spec := "fnExactStrokesBetween", apart := false }
def FnExactStrokesBetweenSaid : Prop := fnExactStrokesBetweenRow.holds Try.pinned (OpenSpec.ofChange fnExactStrokesBetweenSpec)

/-- ITS FALSE NEIGHBOUR: 'it returns false'. Refute it at one input. -/
def fnExactStrokesBetweenWrong : ChangeSpec := { name := "fnExactStrokesBetween", fn := fun _ => fun
  | [d1, d2, d3] => { results := [.lit (.bool false)], args := [d1, d2, d3] }
  | _ => none }
def FnExactStrokesBetweenWrongFalsely : Prop := fnExactStrokesBetweenRow.holds Try.pinned (OpenSpec.ofChange fnExactStrokesBetweenWrong)

/-- 'laws.FnExactStrokesToMend': WHATEVER THE INPUT: true; the input reads as it did. -/
def fnExactStrokesToMendSpec : ChangeSpec := { name := "fnExactStrokesToMend", fn := fun _ => fun
  | [d1, d2, d3] => { results := [.lit (.bool true)], args := [d1, d2, d3] }
  | _ => none }
def fnExactStrokesToMendRow : OpenClaim := { program := "ytohglnbfpppclaa", sum := "f3f909ea47f0827d8489bc55eb104af06a9eff6b56323427087bd7241c674cf7", func := "loop.example/g01241/laws.FnExactStrokesToMend", spec := "fnExactStrokesToMend", apart := false }
def FnExactStrokesToMendSaid : Prop := fnExactStrokesToMendRow.holds Try.pinned (OpenSpec.ofChange fnExactStrokesToMendSpec)

/-- ITS FALSE NEIGHBOUR: 'it returns false'. Refute it at one input. -/
def fnExactStrokesToMendWrong : ChangeSpec := { name := "fnExactStrokesToMend", fn := fun _ => fun
  | [d1, d2, d3] => { results := [.lit (.bool false)], args := [d1, d2, d3] }
  | _ => none }
def FnExactStrokesToMendWrongFalsely : Prop := fnExactStrokesToMendRow.holds Try.pinned (OpenSpec.ofChange fnExactStrokesToMendWrong)

/-- 'laws.FnExactMostInHalves': WHATEVER THE INPUT: true; the input reads as it did. -/
def fnExactMostInHalvesSpec : ChangeSpec := { name := "fnExactMostInHalves", fn := fun _ => fun
  | [d1, d2] => { results := [.lit (.bool true)], args := [d1, d2] }
  | _ => none }
def fnExactMostInHalvesRow : OpenClaim := { program := "ytohglnbfpppclaa", sum := "f3f909ea47f0827d8489bc55eb104af06a9eff6b56323427087bd7241c674cf7", func := "loop.example/g01241/laws.FnExactMostInHalves", spec := "fnExactMostInHalves", apart := false }
def FnExactMostInHalvesSaid : Prop := fnExactMostInHalvesRow.holds Try.pinned (OpenSpec.ofChange fnExactMostInHalvesSpec)

/-- ITS FALSE NEIGHBOUR: 'it returns false'. Refute it at one input. -/
def fnExactMostInHalvesWrong : ChangeSpec := { name := "fnExactMostInHalves", fn := fun _ => fun
  | [d1, d2] => { results := [.lit (.bool false)], args := [d1, d2] }
  | _ => none }
def FnExactMostInHalvesWrongFalsely : Prop := fnExactMostInHalvesRow.holds Try.pinned (OpenSpec.ofChange fnExactMostInHalvesWrong)

/- THE SECOND FORM. 'bulk': how many values and letters a reading holds, each counted each time it is reached (what is shared counts as often as it is met; a slice's spare places count too). A statement '..UptoSaid' is the law's where the arguments, and the package variables that the reading takes, are together of bulk at most 1048576: NARROWER than '..Said'. Prove '..Said' where nothing that the law and all that it calls make is longer than what came in: it says more and counts as full. Else prove '..UptoSaid'. A law counts once. -/
mutual
def uptoBulk {H : Type} : DataW H → Nat
  | .lit (.string bytes) => bytes.length + 1
  | .lit _ => 1
  | .nil => 1
  | .ptr d => uptoBulk d + 1
  | .slice elems spare => uptoBulkAll elems + uptoBulkAll spare + 1
  | .agg parts => uptoBulkAll parts + 1
  | .iface _ d => uptoBulk d + 1
  | .map entries => uptoBulkEntries entries + 1
  | .held _ => 1
def uptoBulkAll {H : Type} : List (DataW H) → Nat
  | [] => 0
  | d :: r => uptoBulk d + uptoBulkAll r
def uptoBulkEntries {H : Type} : List (Lit × DataW H) → Nat
  | [] => 0
  | x :: r => uptoBulkEntry x + uptoBulkEntries r
def uptoBulkEntry {H : Type} : Lit × DataW H → Nat
  | (.string bytes, d) => bytes.length + uptoBulk d + 1
  | (_, d) => uptoBulk d + 1
 end
def uptoSmall : (H : Type) → List (DataW H) → Bool := fun _ ds => decide (uptoBulkAll ds ≤ 1048576)
def OpenSpec.upto (s : _root_.Go.ChangeSpec) : _root_.Go.OpenSpec := { _root_.Go.OpenSpec.ofChange s with cond := some uptoSmall }

/-- 'laws.FnExactCountUnsure', WHERE WHAT IT READS IS OF BULK AT MOST 1048576: true; the input reads as it did. -/
def fnExactCountUnsureUptoRow : OpenClaim := { program := "ytohglnbfpppclaa", sum := "f3f909ea47f0827d8489bc55eb104af06a9eff6b56323427087bd7241c674cf7", func := "loop.example/g01241/laws.FnExactCountUnsure", spec := "fnExactCountUnsure", apart := false, narrowed := true }
def FnExactCountUnsureUptoSaid : Prop := fnExactCountUnsureUptoRow.holds Try.pinned (OpenSpec.upto fnExactCountUnsureSpec)

/-- 'laws.FnExactStrokesOfTurn', WHERE WHAT IT READS IS OF BULK AT MOST 1048576: true; the input reads as it did. -/
def fnExactStrokesOfTurnUptoRow : OpenClaim := { program := "ytohglnbfpppclaa", sum := "f3f909ea47f0827d8489bc55eb104af06a9eff6b56323427087bd7241c674cf7", func := "loop.example/g01241/laws.FnExactStrokesOfTurn", spec := "fnExactStrokesOfTurn", apart := false, narrowed := true }
def FnExactStrokesOfTurnUptoSaid : Prop := fnExactStrokesOfTurnUptoRow.holds Try.pinned (OpenSpec.upto fnExactStrokesOfTurnSpec)

/-- 'laws.FnExactStepsBack', WHERE WHAT IT READS IS OF BULK AT MOST 1048576: true; the input reads as it did. -/
def fnExactStepsBackUptoRow : OpenClaim := { program := "ytohglnbfpppclaa", sum := "f3f909ea47f0827d8489bc55eb104af06a9eff6b56323427087bd7241c674cf7", func := "loop.example/g01241/laws.FnExactStepsBack", spec := "fnExactStepsBack", apart := false, narrowed := true }
def FnExactStepsBackUptoSaid : Prop := fnExactStepsBackUptoRow.holds Try.pinned (OpenSpec.upto fnExactStepsBackSpec)

/-- 'laws.FnExactStrokesAt', WHERE WHAT IT READS IS OF BULK AT MOST 1048576: true; the input reads as it did. -/
def fnExactStrokesAtUptoRow : OpenClaim := { program := "ytohglnbfpppclaa", sum := "f3f909ea47f0827d8489bc55eb104af06a9eff6b56323427087bd7241c674cf7", func := "loop.example/g01241/laws.FnExactStrokesAt", spec := "fnExactStrokesAt", apart := false, narrowed := true }
def FnExactStrokesAtUptoSaid : Prop := fnExactStrokesAtUptoRow.holds Try.pinned (OpenSpec.upto fnExactStrokesAtSpec)

/-- 'laws.FnExactWaitForStrokes', WHERE WHAT IT READS IS OF BULK AT MOST 1048576: true; the input reads as it did. -/
def fnExactWaitForStrokesUptoRow : OpenClaim := { program := "ytohglnbfpppclaa", sum := "f3f909ea47f0827d8489bc55eb104af06a9eff6b56323427087bd7241c674cf7", func := "loop.example/g01241/laws.FnExactWaitForStrokes", spec := "fnExactWaitForStrokes", apart := false, narrowed := true }
def FnExactWaitForStrokesUptoSaid : Prop := fnExactWaitForStrokesUptoRow.holds Try.pinned (OpenSpec.upto fnExactWaitForStrokesSpec)

/-- 'laws.FnHandsMeet', WHERE WHAT IT READS IS OF BULK AT MOST 1048576: true; the input reads as it did. -/
def fnHandsMeetUptoRow : OpenClaim := { program := "ytohglnbfpppclaa", sum := "f3f909ea47f0827d8489bc55eb104af06a9eff6b56323427087bd7241c674cf7", func := "loop.example/g01241/laws.FnHandsMeet", spec := "fnHandsMeet", unfollowed := true, recurses := true, apart := false, narrowed := true }
def FnHandsMeetUptoSaid : Prop := fnHandsMeetUptoRow.holds Try.pinned (OpenSpec.upto fnHandsMeetSpec)

/-- 'laws.FnExactIsSeen', WHERE WHAT IT READS IS OF BULK AT MOST 1048576: true; the input reads as it did. -/
def fnExactIsSeenUptoRow : OpenClaim := { program := "ytohglnbfpppclaa", sum := "f3f909ea47f0827d8489bc55eb104af06a9eff6b56323427087bd7241c674cf7", func := "loop.example/g01241/laws.FnExactIsSeen", spec := "fnExactIsSeen", unfollowed := true, recurses := true, apart := false, narrowed := true }
def FnExactIsSeenUptoSaid : Prop := fnExactIsSeenUptoRow.holds Try.pinned (OpenSpec.upto fnExactIsSeenSpec)

/-- 'laws.FnExactHalfOfWheel', WHERE WHAT IT READS IS OF BULK AT MOST 1048576: true; the input reads as it did. -/
def fnExactHalfOfWheelUptoRow : OpenClaim := { program := "ytohglnbfpppclaa", sum := "f3f909ea47f0827d8489bc55eb104af06a9eff6b56323427087bd7241c674cf7", func := "loop.example/g01241/laws.FnExactHalfOfWheel", spec := "fnExactHalfOfWheel", apart := false, narrowed := true }
def FnExactHalfOfWheelUptoSaid : Prop := fnExactHalfOfWheelUptoRow.holds Try.pinned (OpenSpec.upto fnExactHalfOfWheelSpec)

/-- 'laws.FnExactStrokeNumber', WHERE WHAT IT READS IS OF BULK AT MOST 1048576: true; the input reads as it did. -/
def fnExactStrokeNumberUptoRow : OpenClaim := { program := "ytohglnbfpppclaa", sum := "f3f909ea47f0827d8489bc55eb104af06a9eff6b56323427087bd7241c674cf7", func := "loop.example/g01241/laws.FnExactStrokeNumber", spec := "fnExactStrokeNumber", apart := false, narrowed := true }
def FnExactStrokeNumberUptoSaid : Prop := fnExactStrokeNumberUptoRow.holds Try.pinned (OpenSpec.upto fnExactStrokeNumberSpec)

/-- 'laws.FnExactStrokesBetween', WHERE WHAT IT READS IS OF BULK AT MOST 1048576: true; the input reads as it did. -/
def fnExactStrokesBetweenUptoRow : OpenClaim := { program := "ytohglnbfpppclaa", sum := "f3f909ea47f0827d8489bc55eb104af06a9eff6b56323427087bd7241c674cf7", func := "loop.example/g01241/laws.FnExactStrokesBetween", spec := "fnExactStrokesBetween", apart := false, narrowed := true }
def FnExactStrokesBetweenUptoSaid : Prop := fnExactStrokesBetweenUptoRow.holds Try.pinned (OpenSpec.upto fnExactStrokesBetweenSpec)

/-- 'laws.FnExactStrokesToMend', WHERE WHAT IT READS IS OF BULK AT MOST 1048576: true; the input reads as it did. -/
def fnExactStrokesToMendUptoRow : OpenClaim := { program := "ytohglnbfpppclaa", sum := "f3f909ea47f0827d8489bc55eb104af06a9eff6b56323427087bd7241c674cf7", func := "loop.example/g01241/laws.FnExactStrokesToMend", spec := "fnExactStrokesToMend", apart := false, narrowed := true }
def FnExactStrokesToMendUptoSaid : Prop := fnExactStrokesToMendUptoRow.holds Try.pinned (OpenSpec.upto fnExactStrokesToMendSpec)

/-- 'laws.FnExactMostInHalves', WHERE WHAT IT READS IS OF BULK AT MOST 1048576: true; the input reads as it did. -/
def fnExactMostInHalvesUptoRow : OpenClaim := { program := "ytohglnbfpppclaa", sum := "f3f909ea47f0827d8489bc55eb104af06a9eff6b56323427087bd7241c674cf7", func := "loop.example/g01241/laws.FnExactMostInHalves", spec := "fnExactMostInHalves", apart := false, narrowed := true }
def FnExactMostInHalvesUptoSaid : Prop := fnExactMostInHalvesUptoRow.holds Try.pinned (OpenSpec.upto fnExactMostInHalvesSpec)

end Rows
end Go.Proofs.Ytohglnbfpppclaa
