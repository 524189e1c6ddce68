/-
  No cell of these rows narrows 'for every input' (looked for: loops, veiled, ifaces, maps, wideKeys, modest, calm, conditions, laid).
  DERIVED. THE GIVEN ROWS OF THIS SEAT. 10 by the template 'for every input the law returns true; each argument reads behind the call as it read before'; 0 by the template 'total and deterministic' (their statements: YtnangmpclikldaaTotals.lean).
  GIVEN WITH THE SEED: the statements are not yours to turn. If you find one false, say at which input.
  Laid BY PROGRAM, IN A SANDBOX (cutbox-rows.mjs): the forced cells as the released guide's own fill.sh prints them over the translation d5770ba54fd8043c… (all of the seat's roots in one cut). By AI agents, Wed Nov 11 2026. No macro, syntax, notation, axiom, sorry.
-/
import Derived.Test.YtnangmpclikldaaChecked
import GoSem.Claim
import GoSem.ClaimJoined
import GoSem.ClaimMapViews
import Derived.JoinedTies
import Derived.KernelRfl
namespace Go.Proofs.Ytnangmpclikldaa
/- THE CELL 'sum', in the pinned program and in every row, IS THE sha256 OF THE DUMP (.gsa) THAT YtnangmpclikldaaProg.lean LOADS. Nothing in Lean hashes anything: it is a label: what it is worth is what the hold of that sum in a sandbox is worth. -/
noncomputable def Try.pinned : Pinned := { name := "ytnangmpclikldaa", sum := "d5770ba54fd8043c1a91ee28019902510ecc72012ada5080d01edb547f916e71", checked := Try.checked }
namespace Rows
def none {H : Type} : Left H := { results := [], args := [] }

/-- 'laws.FnExactHeardFrom': WHATEVER THE INPUT: true; the input reads as it did. -/
def fnExactHeardFromSpec : ChangeSpec := { name := "fnExactHeardFrom", fn := fun _ => fun
  | [d1, d2, d3] => { results := [.lit (.bool true)], args := [d1, d2, d3] }
  | _ => none }
def fnExactHeardFromRow : OpenClaim := { program := "ytnangmpclikldaa", sum := "d5770ba54fd8043c1a91ee28019902510ecc72012ada5080d01edb547f916e71", func := "loop.example/g01241/laws.FnExactHeardFrom", spec := "fnExactHeardFrom", apart := false }
def FnExactHeardFromSaid : Prop := fnExactHeardFromRow.holds Try.pinned (OpenSpec.ofChange fnExactHeardFromSpec)

/-- ITS FALSE NEIGHBOUR: 'it returns false'. Refute it at one input. -/
def fnExactHeardFromWrong : ChangeSpec := { name := "fnExactHeardFrom", fn := fun _ => fun
  | [d1, d2, d3] => { results := [.lit (.bool false)], args := [d1, d2, d3] }
  | _ => none }
def FnExactHeardFromWrongFalsely : Prop := fnExactHeardFromRow.holds Try.pinned (OpenSpec.ofChange fnExactHeardFromWrong)

/-- 'laws.FnExactExchangeSeen': WHATEVER THE INPUT: true; the input reads as it did. -/
def fnExactExchangeSeenSpec : ChangeSpec := { name := "fnExactExchangeSeen", fn := fun _ => fun
  | [d] => { results := [.lit (.bool true)], args := [d] }
  | _ => none }
def fnExactExchangeSeenRow : OpenClaim := { program := "ytnangmpclikldaa", sum := "d5770ba54fd8043c1a91ee28019902510ecc72012ada5080d01edb547f916e71", func := "loop.example/g01241/laws.FnExactExchangeSeen", spec := "fnExactExchangeSeen", unfollowed := true, recurses := true, apart := false }
def FnExactExchangeSeenSaid : Prop := fnExactExchangeSeenRow.holds Try.pinned (OpenSpec.ofChange fnExactExchangeSeenSpec)

/-- ITS FALSE NEIGHBOUR: 'it returns false'. Refute it at one input. -/
def fnExactExchangeSeenWrong : ChangeSpec := { name := "fnExactExchangeSeen", fn := fun _ => fun
  | [d] => { results := [.lit (.bool false)], args := [d] }
  | _ => none }
def FnExactExchangeSeenWrongFalsely : Prop := fnExactExchangeSeenRow.holds Try.pinned (OpenSpec.ofChange fnExactExchangeSeenWrong)

/-- 'laws.FnExactSeenOf': WHATEVER THE INPUT: true; the input reads as it did. -/
def fnExactSeenOfSpec : ChangeSpec := { name := "fnExactSeenOf", fn := fun _ => fun
  | [d1, d2] => { results := [.lit (.bool true)], args := [d1, d2] }
  | _ => none }
def fnExactSeenOfRow : OpenClaim := { program := "ytnangmpclikldaa", sum := "d5770ba54fd8043c1a91ee28019902510ecc72012ada5080d01edb547f916e71", func := "loop.example/g01241/laws.FnExactSeenOf", spec := "fnExactSeenOf", apart := false }
def FnExactSeenOfSaid : Prop := fnExactSeenOfRow.holds Try.pinned (OpenSpec.ofChange fnExactSeenOfSpec)

/-- ITS FALSE NEIGHBOUR: 'it returns false'. Refute it at one input. -/
def fnExactSeenOfWrong : ChangeSpec := { name := "fnExactSeenOf", fn := fun _ => fun
  | [d1, d2] => { results := [.lit (.bool false)], args := [d1, d2] }
  | _ => none }
def FnExactSeenOfWrongFalsely : Prop := fnExactSeenOfRow.holds Try.pinned (OpenSpec.ofChange fnExactSeenOfWrong)

/-- 'laws.FnExactIsTrueSeen': WHATEVER THE INPUT: true; the input reads as it did. -/
def fnExactIsTrueSeenSpec : ChangeSpec := { name := "fnExactIsTrueSeen", fn := fun _ => fun
  | [d1, d2] => { results := [.lit (.bool true)], args := [d1, d2] }
  | _ => none }
def fnExactIsTrueSeenRow : OpenClaim := { program := "ytnangmpclikldaa", sum := "d5770ba54fd8043c1a91ee28019902510ecc72012ada5080d01edb547f916e71", func := "loop.example/g01241/laws.FnExactIsTrueSeen", spec := "fnExactIsTrueSeen", unfollowed := true, recurses := true, apart := false }
def FnExactIsTrueSeenSaid : Prop := fnExactIsTrueSeenRow.holds Try.pinned (OpenSpec.ofChange fnExactIsTrueSeenSpec)

/-- ITS FALSE NEIGHBOUR: 'it returns false'. Refute it at one input. -/
def fnExactIsTrueSeenWrong : ChangeSpec := { name := "fnExactIsTrueSeen", fn := fun _ => fun
  | [d1, d2] => { results := [.lit (.bool false)], args := [d1, d2] }
  | _ => none }
def FnExactIsTrueSeenWrongFalsely : Prop := fnExactIsTrueSeenRow.holds Try.pinned (OpenSpec.ofChange fnExactIsTrueSeenWrong)

/-- 'laws.FnExactOwnMirrors': WHATEVER THE INPUT: true; the input reads as it did. -/
def fnExactOwnMirrorsSpec : ChangeSpec := { name := "fnExactOwnMirrors", fn := fun _ => fun
  | [d] => { results := [.lit (.bool true)], args := [d] }
  | _ => none }
def fnExactOwnMirrorsRow : OpenClaim := { program := "ytnangmpclikldaa", sum := "d5770ba54fd8043c1a91ee28019902510ecc72012ada5080d01edb547f916e71", func := "loop.example/g01241/laws.FnExactOwnMirrors", spec := "fnExactOwnMirrors", apart := false }
def FnExactOwnMirrorsSaid : Prop := fnExactOwnMirrorsRow.holds Try.pinned (OpenSpec.ofChange fnExactOwnMirrorsSpec)

/-- ITS FALSE NEIGHBOUR: 'it returns false'. Refute it at one input. -/
def fnExactOwnMirrorsWrong : ChangeSpec := { name := "fnExactOwnMirrors", fn := fun _ => fun
  | [d] => { results := [.lit (.bool false)], args := [d] }
  | _ => none }
def FnExactOwnMirrorsWrongFalsely : Prop := fnExactOwnMirrorsRow.holds Try.pinned (OpenSpec.ofChange fnExactOwnMirrorsWrong)

/-- 'laws.FnExactCountHeardOnce': WHATEVER THE INPUT: true; the input reads as it did. -/
def fnExactCountHeardOnceSpec : ChangeSpec := { name := "fnExactCountHeardOnce", fn := fun _ => fun
  | [d] => { results := [.lit (.bool true)], args := [d] }
  | _ => none }
def fnExactCountHeardOnceRow : OpenClaim := { program := "ytnangmpclikldaa", sum := "d5770ba54fd8043c1a91ee28019902510ecc72012ada5080d01edb547f916e71", func := "loop.example/g01241/laws.FnExactCountHeardOnce", spec := "fnExactCountHeardOnce", apart := false }
def FnExactCountHeardOnceSaid : Prop := fnExactCountHeardOnceRow.holds Try.pinned (OpenSpec.ofChange fnExactCountHeardOnceSpec)

/-- ITS FALSE NEIGHBOUR: 'it returns false'. Refute it at one input. -/
def fnExactCountHeardOnceWrong : ChangeSpec := { name := "fnExactCountHeardOnce", fn := fun _ => fun
  | [d] => { results := [.lit (.bool false)], args := [d] }
  | _ => none }
def FnExactCountHeardOnceWrongFalsely : Prop := fnExactCountHeardOnceRow.holds Try.pinned (OpenSpec.ofChange fnExactCountHeardOnceWrong)

/-- 'laws.FnExactTimeSeen': WHATEVER THE INPUT: true; the input reads as it did. -/
def fnExactTimeSeenSpec : ChangeSpec := { name := "fnExactTimeSeen", fn := fun _ => fun
  | [d1, d2] => { results := [.lit (.bool true)], args := [d1, d2] }
  | _ => none }
def fnExactTimeSeenRow : OpenClaim := { program := "ytnangmpclikldaa", sum := "d5770ba54fd8043c1a91ee28019902510ecc72012ada5080d01edb547f916e71", func := "loop.example/g01241/laws.FnExactTimeSeen", spec := "fnExactTimeSeen", unfollowed := true, recurses := true, apart := false }
def FnExactTimeSeenSaid : Prop := fnExactTimeSeenRow.holds Try.pinned (OpenSpec.ofChange fnExactTimeSeenSpec)

/-- ITS FALSE NEIGHBOUR: 'it returns false'. Refute it at one input. -/
def fnExactTimeSeenWrong : ChangeSpec := { name := "fnExactTimeSeen", fn := fun _ => fun
  | [d1, d2] => { results := [.lit (.bool false)], args := [d1, d2] }
  | _ => none }
def FnExactTimeSeenWrongFalsely : Prop := fnExactTimeSeenRow.holds Try.pinned (OpenSpec.ofChange fnExactTimeSeenWrong)

/-- 'laws.FnExactKnownAfter': WHATEVER THE INPUT: true; the input reads as it did. -/
def fnExactKnownAfterSpec : ChangeSpec := { name := "fnExactKnownAfter", fn := fun _ => fun
  | [d1, d2] => { results := [.lit (.bool true)], args := [d1, d2] }
  | _ => none }
def fnExactKnownAfterRow : OpenClaim := { program := "ytnangmpclikldaa", sum := "d5770ba54fd8043c1a91ee28019902510ecc72012ada5080d01edb547f916e71", func := "loop.example/g01241/laws.FnExactKnownAfter", spec := "fnExactKnownAfter", apart := false }
def FnExactKnownAfterSaid : Prop := fnExactKnownAfterRow.holds Try.pinned (OpenSpec.ofChange fnExactKnownAfterSpec)

/-- ITS FALSE NEIGHBOUR: 'it returns false'. Refute it at one input. -/
def fnExactKnownAfterWrong : ChangeSpec := { name := "fnExactKnownAfter", fn := fun _ => fun
  | [d1, d2] => { results := [.lit (.bool false)], args := [d1, d2] }
  | _ => none }
def FnExactKnownAfterWrongFalsely : Prop := fnExactKnownAfterRow.holds Try.pinned (OpenSpec.ofChange fnExactKnownAfterWrong)

/-- 'laws.FnExactMirrorSeen': WHATEVER THE INPUT: true; the input reads as it did. -/
def fnExactMirrorSeenSpec : ChangeSpec := { name := "fnExactMirrorSeen", fn := fun _ => fun
  | [d] => { results := [.lit (.bool true)], args := [d] }
  | _ => none }
def fnExactMirrorSeenRow : OpenClaim := { program := "ytnangmpclikldaa", sum := "d5770ba54fd8043c1a91ee28019902510ecc72012ada5080d01edb547f916e71", func := "loop.example/g01241/laws.FnExactMirrorSeen", spec := "fnExactMirrorSeen", unfollowed := true, recurses := true, apart := false }
def FnExactMirrorSeenSaid : Prop := fnExactMirrorSeenRow.holds Try.pinned (OpenSpec.ofChange fnExactMirrorSeenSpec)

/-- ITS FALSE NEIGHBOUR: 'it returns false'. Refute it at one input. -/
def fnExactMirrorSeenWrong : ChangeSpec := { name := "fnExactMirrorSeen", fn := fun _ => fun
  | [d] => { results := [.lit (.bool false)], args := [d] }
  | _ => none }
def FnExactMirrorSeenWrongFalsely : Prop := fnExactMirrorSeenRow.holds Try.pinned (OpenSpec.ofChange fnExactMirrorSeenWrong)

/-- 'laws.FnExactExchangedTime': WHATEVER THE INPUT: true; the input reads as it did. -/
def fnExactExchangedTimeSpec : ChangeSpec := { name := "fnExactExchangedTime", fn := fun _ => fun
  | [d1, d2] => { results := [.lit (.bool true)], args := [d1, d2] }
  | _ => none }
def fnExactExchangedTimeRow : OpenClaim := { program := "ytnangmpclikldaa", sum := "d5770ba54fd8043c1a91ee28019902510ecc72012ada5080d01edb547f916e71", func := "loop.example/g01241/laws.FnExactExchangedTime", spec := "fnExactExchangedTime", unfollowed := true, recurses := true, apart := false }
def FnExactExchangedTimeSaid : Prop := fnExactExchangedTimeRow.holds Try.pinned (OpenSpec.ofChange fnExactExchangedTimeSpec)

/-- ITS FALSE NEIGHBOUR: 'it returns false'. Refute it at one input. -/
def fnExactExchangedTimeWrong : ChangeSpec := { name := "fnExactExchangedTime", fn := fun _ => fun
  | [d1, d2] => { results := [.lit (.bool false)], args := [d1, d2] }
  | _ => none }
def FnExactExchangedTimeWrongFalsely : Prop := fnExactExchangedTimeRow.holds Try.pinned (OpenSpec.ofChange fnExactExchangedTimeWrong)

/- THE SECOND FORM. 'bulk': how many values and letters a reading holds, each counted each time it is reached (what is shared counts as often as it is met; a slice's spare places count too). A statement '..UptoSaid' is the law's where the arguments, and the package variables that the reading takes, are together of bulk at most 1048576: NARROWER than '..Said'. Prove '..Said' where nothing that the law and all that it calls make is longer than what came in: it says more and counts as full. Else prove '..UptoSaid'. A law counts once. -/
mutual
def uptoBulk {H : Type} : DataW H → Nat
  | .lit (.string bytes) => bytes.length + 1
  | .lit _ => 1
  | .nil => 1
  | .ptr d => uptoBulk d + 1
  | .slice elems spare => uptoBulkAll elems + uptoBulkAll spare + 1
  | .agg parts => uptoBulkAll parts + 1
  | .iface _ d => uptoBulk d + 1
  | .map entries => uptoBulkEntries entries + 1
  | .held _ => 1
def uptoBulkAll {H : Type} : List (DataW H) → Nat
  | [] => 0
  | d :: r => uptoBulk d + uptoBulkAll r
def uptoBulkEntries {H : Type} : List (Lit × DataW H) → Nat
  | [] => 0
  | x :: r => uptoBulkEntry x + uptoBulkEntries r
def uptoBulkEntry {H : Type} : Lit × DataW H → Nat
  | (.string bytes, d) => bytes.length + uptoBulk d + 1
  | (_, d) => uptoBulk d + 1
 end
def uptoSmall : (H : Type) → List (DataW H) → Bool := fun _ ds => decide (uptoBulkAll ds ≤ 1048576)
def OpenSpec.upto (s : _root_.Go.ChangeSpec) : _root_.Go.OpenSpec := { _root_.Go.OpenSpec.ofChange s with cond := some uptoSmall }

/-- 'laws.FnExactHeardFrom', WHERE WHAT IT READS IS OF BULK AT MOST 1048576: true; the input reads as it did. -/
def fnExactHeardFromUptoRow : OpenClaim := { program := "ytnangmpclikldaa", sum := "d5770ba54fd8043c1a91ee28019902510ecc72012ada5080d01edb547f916e71", func := "loop.example/g01241/laws.FnExactHeardFrom", spec := "fnExactHeardFrom", apart := false, narrowed := true }
def FnExactHeardFromUptoSaid : Prop := fnExactHeardFromUptoRow.holds Try.pinned (OpenSpec.upto fnExactHeardFromSpec)

/-- 'laws.FnExactExchangeSeen', WHERE WHAT IT READS IS OF BULK AT MOST 1048576: true; the input reads as it did. -/
def fnExactExchangeSeenUptoRow : OpenClaim := { program := "ytnangmpclikldaa", sum := "d5770ba54fd8043c1a91ee28019902510ecc72012ada5080d01edb547f916e71", func := "loop.example/g01241/laws.FnExactExchangeSeen", spec := "fnExactExchangeSeen", unfollowed := true, recurses := true, apart := false, narrowed := true }
def FnExactExchangeSeenUptoSaid : Prop := fnExactExchangeSeenUptoRow.holds Try.pinned (OpenSpec.upto fnExactExchangeSeenSpec)

/-- 'laws.FnExactSeenOf', WHERE WHAT IT READS IS OF BULK AT MOST 1048576: true; the input reads as it did. -/
def fnExactSeenOfUptoRow : OpenClaim := { program := "ytnangmpclikldaa", sum := "d5770ba54fd8043c1a91ee28019902510ecc72012ada5080d01edb547f916e71", func := "loop.example/g01241/laws.FnExactSeenOf", spec := "fnExactSeenOf", apart := false, narrowed := true }
def FnExactSeenOfUptoSaid : Prop := fnExactSeenOfUptoRow.holds Try.pinned (OpenSpec.upto fnExactSeenOfSpec)

/-- 'laws.FnExactIsTrueSeen', WHERE WHAT IT READS IS OF BULK AT MOST 1048576: true; the input reads as it did. -/
def fnExactIsTrueSeenUptoRow : OpenClaim := { program := "ytnangmpclikldaa", sum := "d5770ba54fd8043c1a91ee28019902510ecc72012ada5080d01edb547f916e71", func := "loop.example/g01241/laws.FnExactIsTrueSeen", spec := "fnExactIsTrueSeen", unfollowed := true, recurses := true, apart := false, narrowed := true }
def FnExactIsTrueSeenUptoSaid : Prop := fnExactIsTrueSeenUptoRow.holds Try.pinned (OpenSpec.upto fnExactIsTrueSeenSpec)

/-- 'laws.FnExactOwnMirrors', WHERE WHAT IT READS IS OF BULK AT MOST 1048576: true; the input reads as it did. -/
def fnExactOwnMirrorsUptoRow : OpenClaim := { program := "ytnangmpclikldaa", sum := "d5770ba54fd8043c1a91ee28019902510ecc72012ada5080d01edb547f916e71", func := "loop.example/g01241/laws.FnExactOwnMirrors", spec := "fnExactOwnMirrors", apart := false, narrowed := true }
def FnExactOwnMirrorsUptoSaid : Prop := fnExactOwnMirrorsUptoRow.holds Try.pinned (OpenSpec.upto fnExactOwnMirrorsSpec)

/-- 'laws.FnExactCountHeardOnce', WHERE WHAT IT READS IS OF BULK AT MOST 1048576: true; the input reads as it did. -/
def fnExactCountHeardOnceUptoRow : OpenClaim := { program := "ytnangmpclikldaa", sum := "d5770ba54fd8043c1a91ee28019902510ecc72012ada5080d01edb547f916e71", func := "loop.example/g01241/laws.FnExactCountHeardOnce", spec := "fnExactCountHeardOnce", apart := false, narrowed := true }
def FnExactCountHeardOnceUptoSaid : Prop := fnExactCountHeardOnceUptoRow.holds Try.pinned (OpenSpec.upto fnExactCountHeardOnceSpec)

/-- 'laws.FnExactTimeSeen', WHERE WHAT IT READS IS OF BULK AT MOST 1048576: true; the input reads as it did. -/
def fnExactTimeSeenUptoRow : OpenClaim := { program := "ytnangmpclikldaa", sum := "d5770ba54fd8043c1a91ee28019902510ecc72012ada5080d01edb547f916e71", func := "loop.example/g01241/laws.FnExactTimeSeen", spec := "fnExactTimeSeen", unfollowed := true, recurses := true, apart := false, narrowed := true }
def FnExactTimeSeenUptoSaid : Prop := fnExactTimeSeenUptoRow.holds Try.pinned (OpenSpec.upto fnExactTimeSeenSpec)

/-- 'laws.FnExactKnownAfter', WHERE WHAT IT READS IS OF BULK AT MOST 1048576: true; the input reads as it did. -/
def fnExactKnownAfterUptoRow : OpenClaim := { program := "ytnangmpclikldaa", sum := "d5770ba54fd8043c1a91ee28019902510ecc72012ada5080d01edb547f916e71", func := "loop.example/g01241/laws.FnExactKnownAfter", spec := "fnExactKnownAfter", apart := false, narrowed := true }
def FnExactKnownAfterUptoSaid : Prop := fnExactKnownAfterUptoRow.holds Try.pinned (OpenSpec.upto fnExactKnownAfterSpec)

/-- 'laws.FnExactMirrorSeen', WHERE WHAT IT READS IS OF BULK AT MOST 1048576: true; the input reads as it did. -/
def fnExactMirrorSeenUptoRow : OpenClaim := { program := "ytnangmpclikldaa", sum := "d5770ba54fd8043c1a91ee28019902510ecc72012ada5080d01edb547f916e71", func := "loop.example/g01241/laws.FnExactMirrorSeen", spec := "fnExactMirrorSeen", unfollowed := true, recurses := true, apart := false, narrowed := true }
def FnExactMirrorSeenUptoSaid : Prop := fnExactMirrorSeenUptoRow.holds Try.pinned (OpenSpec.upto fnExactMirrorSeenSpec)

/-- 'laws.FnExactExchangedTime', WHERE WHAT IT READS IS OF BULK AT MOST 1048576: true; the input reads as it did. -/
def fnExactExchangedTimeUptoRow : OpenClaim := { program := "ytnangmpclikldaa", sum := "d5770ba54fd8043c1a91ee28019902510ecc72012ada5080d01edb547f916e71", func := "loop.example/g01241/laws.FnExactExchangedTime", spec := "fnExactExchangedTime", unfollowed := true, recurses := true, apart := false, narrowed := true }
def FnExactExchangedTimeUptoSaid : Prop := fnExactExchangedTimeUptoRow.holds Try.pinned (OpenSpec.upto fnExactExchangedTimeSpec)

end Rows
end Go.Proofs.Ytnangmpclikldaa
