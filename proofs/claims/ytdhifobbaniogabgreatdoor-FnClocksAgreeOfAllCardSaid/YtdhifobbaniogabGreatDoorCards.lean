/-
  DERIVED. GIVEN WITH THE SEED: THE CARDS: each row of YtdhifobbaniogabGreatDoorRows.lean that lists a variable, with what it lists TIED to the program's text (the seventh form; the later family's looks); each row that meets fmt, with fmt's text TOLD by the authors' own Lean function (tested against real Go, not proved from fmt's source: count such statements apart). THE CARD IS WHAT COUNTS. Prove the row's statement (the work); the ties are given (YtdhifobbaniogabGreatDoorTie.lean); close each card by the builder's one call (the guide's Derived/Test/ToyasCard.lean, 'card_holds'). Laid BY PROGRAM, IN A SANDBOX (cutbox-door.mjs). By AI agents, Wed Nov 11 2026. No macro, syntax, notation, axiom, sorry.
-/
import Derived.Test.YtdhifobbaniogabGreatDoorRows
import GoSem.ClaimSeven
namespace Go.Proofs.YtdhifobbaniogabGreatDoor
namespace Rows

/-- THE TIED CARD OF 'laws.FnClocksAgreeOfAll'. -/
def fnClocksAgreeOfAllCard : Claim7 := { stood := { row := fnClocksAgreeOfAllRow, standIns := [], harness := (true, "e1be34d2602396d7ee6cc657ad45799afdd5d49d1b55ad0c8d5f34e709cc292d"), looks := true }, kinds := [], alts := [], laidByText := true, laidKinds := [.data, .data, .data, .sentinel, .sentinel], laidTests := true, laidLooks := .later }
def FnClocksAgreeOfAllCardSaid : Prop := Claim7.holds Tryz.pinned (.plain (OpenSpec.ofChange fnClocksAgreeOfAllSpec)) fnClocksAgreeOfAllCard

/-- THE SECOND FORM's CARD OF 'laws.FnClocksAgreeOfAll'. -/
def fnClocksAgreeOfAllUptoCard : Claim7 := { stood := { row := fnClocksAgreeOfAllUptoRow, standIns := [], harness := (true, "e1be34d2602396d7ee6cc657ad45799afdd5d49d1b55ad0c8d5f34e709cc292d"), looks := true }, kinds := [], alts := [], laidByText := true, laidKinds := [.data, .data, .data, .sentinel, .sentinel], laidTests := true, laidLooks := .later }
def FnClocksAgreeOfAllUptoCardSaid : Prop := Claim7.holds Tryz.pinned (.plain (OpenSpec.upto fnClocksAgreeOfAllSpec)) fnClocksAgreeOfAllUptoCard
end Rows
end Go.Proofs.YtdhifobbaniogabGreatDoor
