/-
  DERIVED. GIVEN WITH THE SEED: THE CARDS: each row of YtdhifobbaniogafDoorRows.lean that lists a variable, with what it lists TIED to the program's text (the seventh form; the later family's looks); each row that meets fmt, with fmt's text TOLD by the authors' own Lean function (tested against real Go, not proved from fmt's source: count such statements apart). THE CARD IS WHAT COUNTS. Prove the row's statement (the work); the ties are given (YtdhifobbaniogafDoorTie.lean); close each card by the builder's one call (the guide's Derived/Test/ToyasCard.lean, 'card_holds'). Laid BY PROGRAM, IN A SANDBOX (cutbox-door.mjs). By AI agents, Wed Nov 11 2026. No macro, syntax, notation, axiom, sorry.
-/
import Derived.Test.YtdhifobbaniogafDoorRows
import GoSem.ClaimSeven
namespace Go.Proofs.YtdhifobbaniogafDoor
namespace Rows

/-- THE TIED CARD OF 'laws.FnExactParseSpan'. -/
def fnExactParseSpanCard : Claim7 := { stood := { row := fnExactParseSpanRow, standIns := [], harness := (true, "cb783b55a3ac6c6568f37d2d375f5b37f2bac1ac5211f7693aab3f35e511055c"), looks := true }, kinds := [], alts := [], laidByText := true, laidKinds := [.data, .data, .data, .sentinel, .sentinel], laidTests := true, laidLooks := .later }
def FnExactParseSpanCardSaid : Prop := Claim7.holds Tryd.pinned (.plain (OpenSpec.ofChange fnExactParseSpanSpec)) fnExactParseSpanCard

/-- THE SECOND FORM's CARD OF 'laws.FnExactParseSpan'. -/
def fnExactParseSpanUptoCard : Claim7 := { stood := { row := fnExactParseSpanUptoRow, standIns := [], harness := (true, "cb783b55a3ac6c6568f37d2d375f5b37f2bac1ac5211f7693aab3f35e511055c"), looks := true }, kinds := [], alts := [], laidByText := true, laidKinds := [.data, .data, .data, .sentinel, .sentinel], laidTests := true, laidLooks := .later }
def FnExactParseSpanUptoCardSaid : Prop := Claim7.holds Tryd.pinned (.plain (OpenSpec.upto fnExactParseSpanSpec)) fnExactParseSpanUptoCard
end Rows
end Go.Proofs.YtdhifobbaniogafDoor
