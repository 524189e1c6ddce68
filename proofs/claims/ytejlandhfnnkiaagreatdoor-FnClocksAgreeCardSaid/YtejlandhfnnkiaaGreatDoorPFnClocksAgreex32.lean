/- A part of the walk of FnClocksAgree: which Lean function each Go function comes to, and that the machine's call does so. Written by a program of this repo (wip/gen/xprint.py). -/
import Derived.Test.YtejlandhfnnkiaaGreatDoorPFnClocksAgreex0
import Derived.Test.YtejlandhfnnkiaaGreatDoorPFnClocksAgreex1
import Derived.Test.YtejlandhfnnkiaaGreatDoorPFnClocksAgreex2
import Derived.Test.YtejlandhfnnkiaaGreatDoorPFnClocksAgreex3
import Derived.Test.YtejlandhfnnkiaaGreatDoorPFnClocksAgreex4
import Derived.Test.YtejlandhfnnkiaaGreatDoorPFnClocksAgreex6
import Derived.Test.YtejlandhfnnkiaaGreatDoorPFnClocksAgreex7
import Derived.Test.YtejlandhfnnkiaaGreatDoorPFnClocksAgreex9
import Derived.Test.YtejlandhfnnkiaaGreatDoorPFnClocksAgreex14
import Derived.Test.YtejlandhfnnkiaaGreatDoorPFnClocksAgreex15
import Derived.Test.YtejlandhfnnkiaaGreatDoorPFnClocksAgreex16
import Derived.Test.YtejlandhfnnkiaaGreatDoorPFnClocksAgreex17
import Derived.Test.YtejlandhfnnkiaaGreatDoorPFnClocksAgreex18
import Derived.Test.YtejlandhfnnkiaaGreatDoorPFnClocksAgreex19
import Derived.Test.YtejlandhfnnkiaaGreatDoorPFnClocksAgreex20
import Derived.Test.YtejlandhfnnkiaaGreatDoorPFnClocksAgreex21
import Derived.Test.YtejlandhfnnkiaaGreatDoorPFnClocksAgreex22
import Derived.Test.YtejlandhfnnkiaaGreatDoorPFnClocksAgreex23
import Derived.Test.YtejlandhfnnkiaaGreatDoorPFnClocksAgreex24
import Derived.Test.YtejlandhfnnkiaaGreatDoorPFnClocksAgreex26
import Derived.Test.YtejlandhfnnkiaaGreatDoorPFnClocksAgreex27
import Derived.Test.YtejlandhfnnkiaaGreatDoorPFnClocksAgreex28
import Derived.Test.YtejlandhfnnkiaaGreatDoorPFnClocksAgreex30
import Derived.Test.YtejlandhfnnkiaaGreatDoorPFnClocksAgreex31
namespace Go.Proofs.YtejlandhfnnkiaaGreatDoor.PFnClocksAgree
open Go.RowKit Go.Proofs.YtejlandhfnnkiaaGreatDoorW.PrintWords Go.Proofs.YtejlandhfnnkiaaGreatDoorW.PrintLast Go.Proofs.YtejlandhfnnkiaaGreatDoorW.PrintMore
attribute [local go_sem] max2_int min2_int max_two min_two max_three min_three max_four min_four   -- for this text's walks alone
set_option linter.unusedVariables false
set_option linter.unusedSimpArgs false

attribute [local go_sem high] eqA25 eqA27 eqA30
/-- THE ONE STATEMENT of laws_FnClocksAgree: its walk. -/
def laws_FnClocksAgree.Pure : Prop := ∀ (a0 : Option Addr) (len0 cap0 : Nat) (z0 : List Int) (a1 : Option Addr) (len1 cap1 : Nat) (z1 : List Int) (w : World) (w0 : (a0 = none ∧ len0 = 0 ∧ cap0 = 0 ∧ z0 = []) ∨ ∃ x, a0 = some x ∧ len0 ≤ cap0 ∧ cap0 ≤ maxLen ∧ z0.length = cap0 ∧ (∀ i, i < z0.length → w.cell? (x.add i) = some (.int .u8 (z0.getD i 0))) ∧ ∀ n ∈ z0, (Lit.int .u8 n).wf = true) (y0 : len0 * 1 ≤ 140737488351232) (w1 : (a1 = none ∧ len1 = 0 ∧ cap1 = 0 ∧ z1 = []) ∨ ∃ x, a1 = some x ∧ len1 ≤ cap1 ∧ cap1 ≤ maxLen ∧ z1.length = cap1 ∧ (∀ i, i < z1.length → w.cell? (x.add i) = some (.int .u8 (z1.getD i 0))) ∧ ∀ n ∈ z1, (Lit.int .u8 n).wf = true) (y1 : len1 * 1 ≤ 140737488351232) (ht : HasTab w) (he : HasErr w), Calls Tryz.prog 3 #[.slice a0 len0 cap0, .slice a1 len1 cap1] w fun e w' => e = .returned (.bool true) ∧ Below w.heap.size w w'
theorem laws_FnClocksAgree.walk (P : laws_FnClocksAgree.Pure) (a0 : Option Addr) (len0 cap0 : Nat) (z0 : List Int) (a1 : Option Addr) (len1 cap1 : Nat) (z1 : List Int) (w : World) (w0 : (a0 = none ∧ len0 = 0 ∧ cap0 = 0 ∧ z0 = []) ∨ ∃ x, a0 = some x ∧ len0 ≤ cap0 ∧ cap0 ≤ maxLen ∧ z0.length = cap0 ∧ (∀ i, i < z0.length → w.cell? (x.add i) = some (.int .u8 (z0.getD i 0))) ∧ ∀ n ∈ z0, (Lit.int .u8 n).wf = true) (y0 : len0 * 1 ≤ 140737488351232) (w1 : (a1 = none ∧ len1 = 0 ∧ cap1 = 0 ∧ z1 = []) ∨ ∃ x, a1 = some x ∧ len1 ≤ cap1 ∧ cap1 ≤ maxLen ∧ z1.length = cap1 ∧ (∀ i, i < z1.length → w.cell? (x.add i) = some (.int .u8 (z1.getD i 0))) ∧ ∀ n ∈ z1, (Lit.int .u8 n).wf = true) (y1 : len1 * 1 ≤ 140737488351232) (ht : HasTab w) (he : HasErr w) :
    Calls Tryz.prog 3 #[.slice a0 len0 cap0, .slice a1 len1 cap1] w fun e w' => e = .returned (.bool true) ∧ Below w.heap.size w w' := P a0 len0 cap0 z0 a1 len1 cap1 z1 w w0 y0 w1 y1 ht he

end Go.Proofs.YtejlandhfnnkiaaGreatDoor.PFnClocksAgree
