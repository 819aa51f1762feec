/-
  No cell of these rows narrows 'for every input' (looked for: loops, veiled, ifaces, maps, wideKeys, modest, calm, conditions, laid).
  DERIVED. THE GIVEN ROWS OF THIS SEAT. 8 by the template 'for every input the law returns true; each argument reads behind the call as it read before'; 0 by the template 'total and deterministic' (their statements: YtaahkggbjpdofaaTotals.lean).
  GIVEN WITH THE SEED: the statements are not yours to turn. If you find one false, say at which input.
  Laid BY PROGRAM, IN A SANDBOX (cutbox-rows.mjs): the forced cells as the released guide's own fill.sh prints them over the translation 92a375c2f883e5b2… (all of the seat's roots in one cut). By AI agents, Wed Nov 11 2026. No macro, syntax, notation, axiom, sorry.
-/
import Derived.Test.YtaahkggbjpdofaaChecked
import GoSem.Claim
import GoSem.ClaimJoined
import GoSem.ClaimMapViews
import Derived.JoinedTies
import Derived.KernelRfl
namespace Go.Proofs.Ytaahkggbjpdofaa
/- THE CELL 'sum', in the pinned program and in every row, IS THE sha256 OF THE DUMP (.gsa) THAT YtaahkggbjpdofaaProg.lean LOADS. Nothing in Lean hashes anything: it is a label: what it is worth is what the hold of that sum in a sandbox is worth. -/
noncomputable def Try.pinned : Pinned := { name := "ytaahkggbjpdofaa", sum := "92a375c2f883e5b236dabf3211dc5056a1f6092511420e2c1e15601d037803da", checked := Try.checked }
namespace Rows
def none {H : Type} : Left H := { results := [], args := [] }

/-- 'trunklinelaw12.ChunkChecks': WHATEVER THE INPUT: true; the input reads as it did. -/
def chunkChecksSpec : ChangeSpec := { name := "chunkChecks", fn := fun _ => fun
  | [d] => { results := [.lit (.bool true)], args := [d] }
  | _ => none }
def chunkChecksRow : OpenClaim := { program := "ytaahkggbjpdofaa", sum := "92a375c2f883e5b236dabf3211dc5056a1f6092511420e2c1e15601d037803da", func := "trunkline/trunklinelaw12.ChunkChecks", spec := "chunkChecks", inPlace := ["slices.overlaps[byte]"], unfollowed := true, recurses := true, apart := false }
def ChunkChecksSaid : Prop := chunkChecksRow.holds Try.pinned (OpenSpec.ofChange chunkChecksSpec)

/-- ITS FALSE NEIGHBOUR: 'it returns false'. Refute it at one input. -/
def chunkChecksWrong : ChangeSpec := { name := "chunkChecks", fn := fun _ => fun
  | [d] => { results := [.lit (.bool false)], args := [d] }
  | _ => none }
def ChunkChecksWrongFalsely : Prop := chunkChecksRow.holds Try.pinned (OpenSpec.ofChange chunkChecksWrong)

/-- 'trunklinelaw12.ChunkPuts': WHATEVER THE INPUT: true; the input reads as it did. -/
def chunkPutsSpec : ChangeSpec := { name := "chunkPuts", fn := fun _ => fun
  | [d1, d2] => { results := [.lit (.bool true)], args := [d1, d2] }
  | _ => none }
def chunkPutsRow : OpenClaim := { program := "ytaahkggbjpdofaa", sum := "92a375c2f883e5b236dabf3211dc5056a1f6092511420e2c1e15601d037803da", func := "trunkline/trunklinelaw12.ChunkPuts", spec := "chunkPuts", inPlace := ["slices.overlaps[byte]"], unfollowed := true, recurses := true, apart := false }
def ChunkPutsSaid : Prop := chunkPutsRow.holds Try.pinned (OpenSpec.ofChange chunkPutsSpec)

/-- ITS FALSE NEIGHBOUR: 'it returns false'. Refute it at one input. -/
def chunkPutsWrong : ChangeSpec := { name := "chunkPuts", fn := fun _ => fun
  | [d1, d2] => { results := [.lit (.bool false)], args := [d1, d2] }
  | _ => none }
def ChunkPutsWrongFalsely : Prop := chunkPutsRow.holds Try.pinned (OpenSpec.ofChange chunkPutsWrong)

/-- 'trunklinelaw12.ChunkTakes': WHATEVER THE INPUT: true; the input reads as it did. -/
def chunkTakesSpec : ChangeSpec := { name := "chunkTakes", fn := fun _ => fun
  | [d] => { results := [.lit (.bool true)], args := [d] }
  | _ => none }
def chunkTakesRow : OpenClaim := { program := "ytaahkggbjpdofaa", sum := "92a375c2f883e5b236dabf3211dc5056a1f6092511420e2c1e15601d037803da", func := "trunkline/trunklinelaw12.ChunkTakes", spec := "chunkTakes", inPlace := ["slices.overlaps[byte]"], unfollowed := true, recurses := true, apart := false }
def ChunkTakesSaid : Prop := chunkTakesRow.holds Try.pinned (OpenSpec.ofChange chunkTakesSpec)

/-- ITS FALSE NEIGHBOUR: 'it returns false'. Refute it at one input. -/
def chunkTakesWrong : ChangeSpec := { name := "chunkTakes", fn := fun _ => fun
  | [d] => { results := [.lit (.bool false)], args := [d] }
  | _ => none }
def ChunkTakesWrongFalsely : Prop := chunkTakesRow.holds Try.pinned (OpenSpec.ofChange chunkTakesWrong)

/-- 'trunklinelaw12.ChunkBack': WHATEVER THE INPUT: true; the input reads as it did. -/
def chunkBackSpec : ChangeSpec := { name := "chunkBack", fn := fun _ => fun
  | [d1, d2] => { results := [.lit (.bool true)], args := [d1, d2] }
  | _ => none }
def chunkBackRow : OpenClaim := { program := "ytaahkggbjpdofaa", sum := "92a375c2f883e5b236dabf3211dc5056a1f6092511420e2c1e15601d037803da", func := "trunkline/trunklinelaw12.ChunkBack", spec := "chunkBack", inPlace := ["slices.overlaps[byte]"], unfollowed := true, recurses := true, apart := false }
def ChunkBackSaid : Prop := chunkBackRow.holds Try.pinned (OpenSpec.ofChange chunkBackSpec)

/-- ITS FALSE NEIGHBOUR: 'it returns false'. Refute it at one input. -/
def chunkBackWrong : ChangeSpec := { name := "chunkBack", fn := fun _ => fun
  | [d1, d2] => { results := [.lit (.bool false)], args := [d1, d2] }
  | _ => none }
def ChunkBackWrongFalsely : Prop := chunkBackRow.holds Try.pinned (OpenSpec.ofChange chunkBackWrong)

/-- 'trunklinelaw12.ChunkTurned': WHATEVER THE INPUT: true; the input reads as it did. -/
def chunkTurnedSpec : ChangeSpec := { name := "chunkTurned", fn := fun _ => fun
  | [d1, d2, d3] => { results := [.lit (.bool true)], args := [d1, d2, d3] }
  | _ => none }
def chunkTurnedRow : OpenClaim := { program := "ytaahkggbjpdofaa", sum := "92a375c2f883e5b236dabf3211dc5056a1f6092511420e2c1e15601d037803da", func := "trunkline/trunklinelaw12.ChunkTurned", spec := "chunkTurned", inPlace := ["slices.overlaps[byte]"], unfollowed := true, recurses := true, apart := false }
def ChunkTurnedSaid : Prop := chunkTurnedRow.holds Try.pinned (OpenSpec.ofChange chunkTurnedSpec)

/-- ITS FALSE NEIGHBOUR: 'it returns false'. Refute it at one input. -/
def chunkTurnedWrong : ChangeSpec := { name := "chunkTurned", fn := fun _ => fun
  | [d1, d2, d3] => { results := [.lit (.bool false)], args := [d1, d2, d3] }
  | _ => none }
def ChunkTurnedWrongFalsely : Prop := chunkTurnedRow.holds Try.pinned (OpenSpec.ofChange chunkTurnedWrong)

/-- 'trunklinelaw12.ChunkAgain': WHATEVER THE INPUT: true; the input reads as it did. -/
def chunkAgainSpec : ChangeSpec := { name := "chunkAgain", fn := fun _ => fun
  | [d] => { results := [.lit (.bool true)], args := [d] }
  | _ => none }
def chunkAgainRow : OpenClaim := { program := "ytaahkggbjpdofaa", sum := "92a375c2f883e5b236dabf3211dc5056a1f6092511420e2c1e15601d037803da", func := "trunkline/trunklinelaw12.ChunkAgain", spec := "chunkAgain", inPlace := ["slices.overlaps[byte]"], unfollowed := true, recurses := true, apart := false }
def ChunkAgainSaid : Prop := chunkAgainRow.holds Try.pinned (OpenSpec.ofChange chunkAgainSpec)

/-- ITS FALSE NEIGHBOUR: 'it returns false'. Refute it at one input. -/
def chunkAgainWrong : ChangeSpec := { name := "chunkAgain", fn := fun _ => fun
  | [d] => { results := [.lit (.bool false)], args := [d] }
  | _ => none }
def ChunkAgainWrongFalsely : Prop := chunkAgainRow.holds Try.pinned (OpenSpec.ofChange chunkAgainWrong)

/-- 'trunklinelaw12.ChunkOwn': WHATEVER THE INPUT: true; the input reads as it did. -/
def chunkOwnSpec : ChangeSpec := { name := "chunkOwn", fn := fun _ => fun
  | [d1, d2] => { results := [.lit (.bool true)], args := [d1, d2] }
  | _ => none }
def chunkOwnRow : OpenClaim := { program := "ytaahkggbjpdofaa", sum := "92a375c2f883e5b236dabf3211dc5056a1f6092511420e2c1e15601d037803da", func := "trunkline/trunklinelaw12.ChunkOwn", spec := "chunkOwn", inPlace := ["slices.overlaps[byte]"], unfollowed := true, recurses := true, apart := false }
def ChunkOwnSaid : Prop := chunkOwnRow.holds Try.pinned (OpenSpec.ofChange chunkOwnSpec)

/-- ITS FALSE NEIGHBOUR: 'it returns false'. Refute it at one input. -/
def chunkOwnWrong : ChangeSpec := { name := "chunkOwn", fn := fun _ => fun
  | [d1, d2] => { results := [.lit (.bool false)], args := [d1, d2] }
  | _ => none }
def ChunkOwnWrongFalsely : Prop := chunkOwnRow.holds Try.pinned (OpenSpec.ofChange chunkOwnWrong)

/-- 'trunklinelaw12.ChunkBits': WHATEVER THE INPUT: true; the input reads as it did. -/
def chunkBitsSpec : ChangeSpec := { name := "chunkBits", fn := fun _ => fun
  | [d] => { results := [.lit (.bool true)], args := [d] }
  | _ => none }
def chunkBitsRow : OpenClaim := { program := "ytaahkggbjpdofaa", sum := "92a375c2f883e5b236dabf3211dc5056a1f6092511420e2c1e15601d037803da", func := "trunkline/trunklinelaw12.ChunkBits", spec := "chunkBits", inPlace := ["slices.overlaps[byte]"], unfollowed := true, recurses := true, apart := false }
def ChunkBitsSaid : Prop := chunkBitsRow.holds Try.pinned (OpenSpec.ofChange chunkBitsSpec)

/-- ITS FALSE NEIGHBOUR: 'it returns false'. Refute it at one input. -/
def chunkBitsWrong : ChangeSpec := { name := "chunkBits", fn := fun _ => fun
  | [d] => { results := [.lit (.bool false)], args := [d] }
  | _ => none }
def ChunkBitsWrongFalsely : Prop := chunkBitsRow.holds Try.pinned (OpenSpec.ofChange chunkBitsWrong)

/- THE SECOND FORM. 'bulk': how many values and letters a reading holds, each counted each time it is reached (what is shared counts as often as it is met; a slice's spare places count too). A statement '..UptoSaid' is the law's where the arguments, and the package variables that the reading takes, are together of bulk at most 1048576: NARROWER than '..Said'. Prove '..Said' where nothing that the law and all that it calls make is longer than what came in: it says more and counts as full. Else prove '..UptoSaid'. A law counts once. -/
mutual
def uptoBulk {H : Type} : DataW H → Nat
  | .lit (.string bytes) => bytes.length + 1
  | .lit _ => 1
  | .nil => 1
  | .ptr d => uptoBulk d + 1
  | .slice elems spare => uptoBulkAll elems + uptoBulkAll spare + 1
  | .agg parts => uptoBulkAll parts + 1
  | .iface _ d => uptoBulk d + 1
  | .map entries => uptoBulkEntries entries + 1
  | .held _ => 1
def uptoBulkAll {H : Type} : List (DataW H) → Nat
  | [] => 0
  | d :: r => uptoBulk d + uptoBulkAll r
def uptoBulkEntries {H : Type} : List (Lit × DataW H) → Nat
  | [] => 0
  | x :: r => uptoBulkEntry x + uptoBulkEntries r
def uptoBulkEntry {H : Type} : Lit × DataW H → Nat
  | (.string bytes, d) => bytes.length + uptoBulk d + 1
  | (_, d) => uptoBulk d + 1
 end
def uptoSmall : (H : Type) → List (DataW H) → Bool := fun _ ds => decide (uptoBulkAll ds ≤ 1048576)
def OpenSpec.upto (s : _root_.Go.ChangeSpec) : _root_.Go.OpenSpec := { _root_.Go.OpenSpec.ofChange s with cond := some uptoSmall }

/-- 'trunklinelaw12.ChunkChecks', WHERE WHAT IT READS IS OF BULK AT MOST 1048576: true; the input reads as it did. -/
def chunkChecksUptoRow : OpenClaim := { program := "ytaahkggbjpdofaa", sum := "92a375c2f883e5b236dabf3211dc5056a1f6092511420e2c1e15601d037803da", func := "trunkline/trunklinelaw12.ChunkChecks", spec := "chunkChecks", inPlace := ["slices.overlaps[byte]"], unfollowed := true, recurses := true, apart := false, narrowed := true }
def ChunkChecksUptoSaid : Prop := chunkChecksUptoRow.holds Try.pinned (OpenSpec.upto chunkChecksSpec)

/-- 'trunklinelaw12.ChunkPuts', WHERE WHAT IT READS IS OF BULK AT MOST 1048576: true; the input reads as it did. -/
def chunkPutsUptoRow : OpenClaim := { program := "ytaahkggbjpdofaa", sum := "92a375c2f883e5b236dabf3211dc5056a1f6092511420e2c1e15601d037803da", func := "trunkline/trunklinelaw12.ChunkPuts", spec := "chunkPuts", inPlace := ["slices.overlaps[byte]"], unfollowed := true, recurses := true, apart := false, narrowed := true }
def ChunkPutsUptoSaid : Prop := chunkPutsUptoRow.holds Try.pinned (OpenSpec.upto chunkPutsSpec)

/-- 'trunklinelaw12.ChunkTakes', WHERE WHAT IT READS IS OF BULK AT MOST 1048576: true; the input reads as it did. -/
def chunkTakesUptoRow : OpenClaim := { program := "ytaahkggbjpdofaa", sum := "92a375c2f883e5b236dabf3211dc5056a1f6092511420e2c1e15601d037803da", func := "trunkline/trunklinelaw12.ChunkTakes", spec := "chunkTakes", inPlace := ["slices.overlaps[byte]"], unfollowed := true, recurses := true, apart := false, narrowed := true }
def ChunkTakesUptoSaid : Prop := chunkTakesUptoRow.holds Try.pinned (OpenSpec.upto chunkTakesSpec)

/-- 'trunklinelaw12.ChunkBack', WHERE WHAT IT READS IS OF BULK AT MOST 1048576: true; the input reads as it did. -/
def chunkBackUptoRow : OpenClaim := { program := "ytaahkggbjpdofaa", sum := "92a375c2f883e5b236dabf3211dc5056a1f6092511420e2c1e15601d037803da", func := "trunkline/trunklinelaw12.ChunkBack", spec := "chunkBack", inPlace := ["slices.overlaps[byte]"], unfollowed := true, recurses := true, apart := false, narrowed := true }
def ChunkBackUptoSaid : Prop := chunkBackUptoRow.holds Try.pinned (OpenSpec.upto chunkBackSpec)

/-- 'trunklinelaw12.ChunkTurned', WHERE WHAT IT READS IS OF BULK AT MOST 1048576: true; the input reads as it did. -/
def chunkTurnedUptoRow : OpenClaim := { program := "ytaahkggbjpdofaa", sum := "92a375c2f883e5b236dabf3211dc5056a1f6092511420e2c1e15601d037803da", func := "trunkline/trunklinelaw12.ChunkTurned", spec := "chunkTurned", inPlace := ["slices.overlaps[byte]"], unfollowed := true, recurses := true, apart := false, narrowed := true }
def ChunkTurnedUptoSaid : Prop := chunkTurnedUptoRow.holds Try.pinned (OpenSpec.upto chunkTurnedSpec)

/-- 'trunklinelaw12.ChunkAgain', WHERE WHAT IT READS IS OF BULK AT MOST 1048576: true; the input reads as it did. -/
def chunkAgainUptoRow : OpenClaim := { program := "ytaahkggbjpdofaa", sum := "92a375c2f883e5b236dabf3211dc5056a1f6092511420e2c1e15601d037803da", func := "trunkline/trunklinelaw12.ChunkAgain", spec := "chunkAgain", inPlace := ["slices.overlaps[byte]"], unfollowed := true, recurses := true, apart := false, narrowed := true }
def ChunkAgainUptoSaid : Prop := chunkAgainUptoRow.holds Try.pinned (OpenSpec.upto chunkAgainSpec)

/-- 'trunklinelaw12.ChunkOwn', WHERE WHAT IT READS IS OF BULK AT MOST 1048576: true; the input reads as it did. -/
def chunkOwnUptoRow : OpenClaim := { program := "ytaahkggbjpdofaa", sum := "92a375c2f883e5b236dabf3211dc5056a1f6092511420e2c1e15601d037803da", func := "trunkline/trunklinelaw12.ChunkOwn", spec := "chunkOwn", inPlace := ["slices.overlaps[byte]"], unfollowed := true, recurses := true, apart := false, narrowed := true }
def ChunkOwnUptoSaid : Prop := chunkOwnUptoRow.holds Try.pinned (OpenSpec.upto chunkOwnSpec)

/-- 'trunklinelaw12.ChunkBits', WHERE WHAT IT READS IS OF BULK AT MOST 1048576: true; the input reads as it did. -/
def chunkBitsUptoRow : OpenClaim := { program := "ytaahkggbjpdofaa", sum := "92a375c2f883e5b236dabf3211dc5056a1f6092511420e2c1e15601d037803da", func := "trunkline/trunklinelaw12.ChunkBits", spec := "chunkBits", inPlace := ["slices.overlaps[byte]"], unfollowed := true, recurses := true, apart := false, narrowed := true }
def ChunkBitsUptoSaid : Prop := chunkBitsUptoRow.holds Try.pinned (OpenSpec.upto chunkBitsSpec)

end Rows
end Go.Proofs.Ytaahkggbjpdofaa
