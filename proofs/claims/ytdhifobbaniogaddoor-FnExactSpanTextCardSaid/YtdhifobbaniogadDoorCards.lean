/-
  DERIVED. GIVEN WITH THE SEED: THE CARDS: each row of YtdhifobbaniogadDoorRows.lean that lists a variable, with what it lists TIED to the program's text (the seventh form; the later family's looks); each row that meets fmt, with fmt's text TOLD by the authors' own Lean function (tested against real Go, not proved from fmt's source: count such statements apart). THE CARD IS WHAT COUNTS. Prove the row's statement (the work); the ties are given (YtdhifobbaniogadDoorTie.lean); close each card by the builder's one call (the guide's Derived/Test/ToyasCard.lean, 'card_holds'). Laid BY PROGRAM, IN A SANDBOX (cutbox-door.mjs). By AI agents, Wed Nov 11 2026. No macro, syntax, notation, axiom, sorry.
-/
import Derived.Test.YtdhifobbaniogadDoorRows
import GoSem.ClaimSeven
namespace Go.Proofs.YtdhifobbaniogadDoor
namespace Rows

/-- THE TIED CARD OF 'laws.FnExactSpanText'. -/
def fnExactSpanTextCard : Claim7 := { stood := { row := fnExactSpanTextRow, standIns := [], harness := (true, "2e265f569f9d2b95a134d0859a42fcf519624e597b6a6631027d32570d22ec6e"), looks := false }, kinds := [], alts := [], laidByText := true, laidKinds := [.data, .data, .data], laidTests := true, laidLooks := .later }
def FnExactSpanTextCardSaid : Prop := Claim7.holds Tryd.pinned (.plain (OpenSpec.ofChange fnExactSpanTextSpec)) fnExactSpanTextCard

/-- THE SECOND FORM's CARD OF 'laws.FnExactSpanText'. -/
def fnExactSpanTextUptoCard : Claim7 := { stood := { row := fnExactSpanTextUptoRow, standIns := [], harness := (true, "2e265f569f9d2b95a134d0859a42fcf519624e597b6a6631027d32570d22ec6e"), looks := false }, kinds := [], alts := [], laidByText := true, laidKinds := [.data, .data, .data], laidTests := true, laidLooks := .later }
def FnExactSpanTextUptoCardSaid : Prop := Claim7.holds Tryd.pinned (.plain (OpenSpec.upto fnExactSpanTextSpec)) fnExactSpanTextUptoCard
end Rows
end Go.Proofs.YtdhifobbaniogadDoor
