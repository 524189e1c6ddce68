/-
  DERIVED. GIVEN WITH THE SEED: THE CARDS: each row of YtejlandhfnnkiaaGreatDoorRows.lean that lists a variable, with what it lists TIED to the program's text (the seventh form; the later family's looks); each row that meets fmt, with fmt's text TOLD by the authors' own Lean function (tested against real Go, not proved from fmt's source: count such statements apart). THE CARD IS WHAT COUNTS. Prove the row's statement (the work); the ties are given (YtejlandhfnnkiaaGreatDoorTie.lean); close each card by the builder's one call (the guide's Derived/Test/ToyasCard.lean, 'card_holds'). Laid BY PROGRAM, IN A SANDBOX (cutbox-door.mjs). By AI agents, Wed Nov 11 2026. No macro, syntax, notation, axiom, sorry.
-/
import Derived.Test.YtejlandhfnnkiaaGreatDoorRows
import GoSem.ClaimSeven
namespace Go.Proofs.YtejlandhfnnkiaaGreatDoor
namespace Rows

/-- THE TIED CARD OF 'laws.FnClocksAgree'. -/
def fnClocksAgreeCard : Claim7 := { stood := { row := fnClocksAgreeRow, standIns := [], harness := (true, "1a9e2f6affe4ff3ad09615d3a0adb85a91cee95c468df68133c215ca6869b826"), looks := true }, kinds := [], alts := [], laidByText := true, laidKinds := [.data, .data, .data, .sentinel, .sentinel], laidTests := true, laidLooks := .later }
def FnClocksAgreeCardSaid : Prop := Claim7.holds Tryz.pinned (.plain (OpenSpec.ofChange fnClocksAgreeSpec)) fnClocksAgreeCard

/-- THE SECOND FORM's CARD OF 'laws.FnClocksAgree'. -/
def fnClocksAgreeUptoCard : Claim7 := { stood := { row := fnClocksAgreeUptoRow, standIns := [], harness := (true, "1a9e2f6affe4ff3ad09615d3a0adb85a91cee95c468df68133c215ca6869b826"), looks := true }, kinds := [], alts := [], laidByText := true, laidKinds := [.data, .data, .data, .sentinel, .sentinel], laidTests := true, laidLooks := .later }
def FnClocksAgreeUptoCardSaid : Prop := Claim7.holds Tryz.pinned (.plain (OpenSpec.upto fnClocksAgreeSpec)) fnClocksAgreeUptoCard
end Rows
end Go.Proofs.YtejlandhfnnkiaaGreatDoor
