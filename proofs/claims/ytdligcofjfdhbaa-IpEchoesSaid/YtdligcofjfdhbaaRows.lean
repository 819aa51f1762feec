/-
  No cell of these rows narrows 'for every input' (looked for: loops, veiled, ifaces, maps, wideKeys, modest, calm, conditions, laid).
  DERIVED. THE GIVEN ROWS OF THIS SEAT. 10 by the template 'for every input the law returns true; each argument reads behind the call as it read before'; 0 by the template 'total and deterministic' (their statements: YtdligcofjfdhbaaTotals.lean).
  GIVEN WITH THE SEED: the statements are not yours to turn. If you find one false, say at which input.
  Laid BY PROGRAM, IN A SANDBOX (cutbox-rows.mjs): the forced cells as the released guide's own fill.sh prints them over the translation bc4c41e0b6f4797e… (all of the seat's roots in one cut). By AI agents, Wed Nov 11 2026. No macro, syntax, notation, axiom, sorry.
-/
import Derived.Test.YtdligcofjfdhbaaChecked
import GoSem.Claim
import GoSem.ClaimJoined
import GoSem.ClaimMapViews
import Derived.JoinedTies
import Derived.KernelRfl
namespace Go.Proofs.Ytdligcofjfdhbaa
/- THE CELL 'sum', in the pinned program and in every row, IS THE sha256 OF THE DUMP (.gsa) THAT YtdligcofjfdhbaaProg.lean LOADS. Nothing in Lean hashes anything: it is a label: what it is worth is what the hold of that sum in a sandbox is worth. -/
noncomputable def Try.pinned : Pinned := { name := "ytdligcofjfdhbaa", sum := "bc4c41e0b6f4797eff484647d2528307b2aa41cafaf3f170f37c951edd8480de", checked := Try.checked }
namespace Rows
def none {H : Type} : Left H := { results := [], args := [] }

/-- 'trunklinelaw10.IpPuts': WHATEVER THE INPUT: true; the input reads as it did. -/
def ipPutsSpec : ChangeSpec := { name := "ipPuts", fn := fun _ => fun
  | [d] => { results := [.lit (.bool true)], args := [d] }
  | _ => none }
def ipPutsRow : OpenClaim := { program := "ytdligcofjfdhbaa", sum := "bc4c41e0b6f4797eff484647d2528307b2aa41cafaf3f170f37c951edd8480de", func := "trunkline/trunklinelaw10.IpPuts", spec := "ipPuts", inPlace := ["slices.overlaps[byte]"], unfollowed := true, recurses := true, apart := false }
def IpPutsSaid : Prop := ipPutsRow.holds Try.pinned (OpenSpec.ofChange ipPutsSpec)

/-- ITS FALSE NEIGHBOUR: 'it returns false'. Refute it at one input. -/
def ipPutsWrong : ChangeSpec := { name := "ipPuts", fn := fun _ => fun
  | [d] => { results := [.lit (.bool false)], args := [d] }
  | _ => none }
def IpPutsWrongFalsely : Prop := ipPutsRow.holds Try.pinned (OpenSpec.ofChange ipPutsWrong)

/-- 'trunklinelaw10.IpTakes': WHATEVER THE INPUT: true; the input reads as it did. -/
def ipTakesSpec : ChangeSpec := { name := "ipTakes", fn := fun _ => fun
  | [d] => { results := [.lit (.bool true)], args := [d] }
  | _ => none }
def ipTakesRow : OpenClaim := { program := "ytdligcofjfdhbaa", sum := "bc4c41e0b6f4797eff484647d2528307b2aa41cafaf3f170f37c951edd8480de", func := "trunkline/trunklinelaw10.IpTakes", spec := "ipTakes", inPlace := ["slices.overlaps[byte]"], unfollowed := true, recurses := true, apart := false }
def IpTakesSaid : Prop := ipTakesRow.holds Try.pinned (OpenSpec.ofChange ipTakesSpec)

/-- ITS FALSE NEIGHBOUR: 'it returns false'. Refute it at one input. -/
def ipTakesWrong : ChangeSpec := { name := "ipTakes", fn := fun _ => fun
  | [d] => { results := [.lit (.bool false)], args := [d] }
  | _ => none }
def IpTakesWrongFalsely : Prop := ipTakesRow.holds Try.pinned (OpenSpec.ofChange ipTakesWrong)

/-- 'trunklinelaw10.IpBack': WHATEVER THE INPUT: true; the input reads as it did. -/
def ipBackSpec : ChangeSpec := { name := "ipBack", fn := fun _ => fun
  | [d1, d2] => { results := [.lit (.bool true)], args := [d1, d2] }
  | _ => none }
def ipBackRow : OpenClaim := { program := "ytdligcofjfdhbaa", sum := "bc4c41e0b6f4797eff484647d2528307b2aa41cafaf3f170f37c951edd8480de", func := "trunkline/trunklinelaw10.IpBack", spec := "ipBack", inPlace := ["slices.overlaps[byte]"], unfollowed := true, recurses := true, apart := false }
def IpBackSaid : Prop := ipBackRow.holds Try.pinned (OpenSpec.ofChange ipBackSpec)

/-- ITS FALSE NEIGHBOUR: 'it returns false'. Refute it at one input. -/
def ipBackWrong : ChangeSpec := { name := "ipBack", fn := fun _ => fun
  | [d1, d2] => { results := [.lit (.bool false)], args := [d1, d2] }
  | _ => none }
def IpBackWrongFalsely : Prop := ipBackRow.holds Try.pinned (OpenSpec.ofChange ipBackWrong)

/-- 'trunklinelaw10.IpTurned': WHATEVER THE INPUT: true; the input reads as it did. -/
def ipTurnedSpec : ChangeSpec := { name := "ipTurned", fn := fun _ => fun
  | [d1, d2, d3] => { results := [.lit (.bool true)], args := [d1, d2, d3] }
  | _ => none }
def ipTurnedRow : OpenClaim := { program := "ytdligcofjfdhbaa", sum := "bc4c41e0b6f4797eff484647d2528307b2aa41cafaf3f170f37c951edd8480de", func := "trunkline/trunklinelaw10.IpTurned", spec := "ipTurned", inPlace := ["slices.overlaps[byte]"], unfollowed := true, recurses := true, apart := false }
def IpTurnedSaid : Prop := ipTurnedRow.holds Try.pinned (OpenSpec.ofChange ipTurnedSpec)

/-- ITS FALSE NEIGHBOUR: 'it returns false'. Refute it at one input. -/
def ipTurnedWrong : ChangeSpec := { name := "ipTurned", fn := fun _ => fun
  | [d1, d2, d3] => { results := [.lit (.bool false)], args := [d1, d2, d3] }
  | _ => none }
def IpTurnedWrongFalsely : Prop := ipTurnedRow.holds Try.pinned (OpenSpec.ofChange ipTurnedWrong)

/-- 'trunklinelaw10.IpSplits': WHATEVER THE INPUT: true; the input reads as it did. -/
def ipSplitsSpec : ChangeSpec := { name := "ipSplits", fn := fun _ => fun
  | [d1, d2] => { results := [.lit (.bool true)], args := [d1, d2] }
  | _ => none }
def ipSplitsRow : OpenClaim := { program := "ytdligcofjfdhbaa", sum := "bc4c41e0b6f4797eff484647d2528307b2aa41cafaf3f170f37c951edd8480de", func := "trunkline/trunklinelaw10.IpSplits", spec := "ipSplits", inPlace := ["slices.overlaps[byte]"], unfollowed := true, recurses := true, apart := false }
def IpSplitsSaid : Prop := ipSplitsRow.holds Try.pinned (OpenSpec.ofChange ipSplitsSpec)

/-- ITS FALSE NEIGHBOUR: 'it returns false'. Refute it at one input. -/
def ipSplitsWrong : ChangeSpec := { name := "ipSplits", fn := fun _ => fun
  | [d1, d2] => { results := [.lit (.bool false)], args := [d1, d2] }
  | _ => none }
def IpSplitsWrongFalsely : Prop := ipSplitsRow.holds Try.pinned (OpenSpec.ofChange ipSplitsWrong)

/-- 'trunklinelaw10.IpPieces': WHATEVER THE INPUT: true; the input reads as it did. -/
def ipPiecesSpec : ChangeSpec := { name := "ipPieces", fn := fun _ => fun
  | [d1, d2] => { results := [.lit (.bool true)], args := [d1, d2] }
  | _ => none }
def ipPiecesRow : OpenClaim := { program := "ytdligcofjfdhbaa", sum := "bc4c41e0b6f4797eff484647d2528307b2aa41cafaf3f170f37c951edd8480de", func := "trunkline/trunklinelaw10.IpPieces", spec := "ipPieces", inPlace := ["slices.overlaps[byte]"], unfollowed := true, recurses := true, apart := false }
def IpPiecesSaid : Prop := ipPiecesRow.holds Try.pinned (OpenSpec.ofChange ipPiecesSpec)

/-- ITS FALSE NEIGHBOUR: 'it returns false'. Refute it at one input. -/
def ipPiecesWrong : ChangeSpec := { name := "ipPieces", fn := fun _ => fun
  | [d1, d2] => { results := [.lit (.bool false)], args := [d1, d2] }
  | _ => none }
def IpPiecesWrongFalsely : Prop := ipPiecesRow.holds Try.pinned (OpenSpec.ofChange ipPiecesWrong)

/-- 'trunklinelaw10.IpOwn': WHATEVER THE INPUT: true; the input reads as it did. -/
def ipOwnSpec : ChangeSpec := { name := "ipOwn", fn := fun _ => fun
  | [d1, d2] => { results := [.lit (.bool true)], args := [d1, d2] }
  | _ => none }
def ipOwnRow : OpenClaim := { program := "ytdligcofjfdhbaa", sum := "bc4c41e0b6f4797eff484647d2528307b2aa41cafaf3f170f37c951edd8480de", func := "trunkline/trunklinelaw10.IpOwn", spec := "ipOwn", inPlace := ["slices.overlaps[byte]"], unfollowed := true, recurses := true, apart := false }
def IpOwnSaid : Prop := ipOwnRow.holds Try.pinned (OpenSpec.ofChange ipOwnSpec)

/-- ITS FALSE NEIGHBOUR: 'it returns false'. Refute it at one input. -/
def ipOwnWrong : ChangeSpec := { name := "ipOwn", fn := fun _ => fun
  | [d1, d2] => { results := [.lit (.bool false)], args := [d1, d2] }
  | _ => none }
def IpOwnWrongFalsely : Prop := ipOwnRow.holds Try.pinned (OpenSpec.ofChange ipOwnWrong)

/-- 'trunklinelaw10.IpIcmps': WHATEVER THE INPUT: true; the input reads as it did. -/
def ipIcmpsSpec : ChangeSpec := { name := "ipIcmps", fn := fun _ => fun
  | [d1, d2] => { results := [.lit (.bool true)], args := [d1, d2] }
  | _ => none }
def ipIcmpsRow : OpenClaim := { program := "ytdligcofjfdhbaa", sum := "bc4c41e0b6f4797eff484647d2528307b2aa41cafaf3f170f37c951edd8480de", func := "trunkline/trunklinelaw10.IpIcmps", spec := "ipIcmps", inPlace := ["slices.overlaps[byte]"], unfollowed := true, recurses := true, apart := false }
def IpIcmpsSaid : Prop := ipIcmpsRow.holds Try.pinned (OpenSpec.ofChange ipIcmpsSpec)

/-- ITS FALSE NEIGHBOUR: 'it returns false'. Refute it at one input. -/
def ipIcmpsWrong : ChangeSpec := { name := "ipIcmps", fn := fun _ => fun
  | [d1, d2] => { results := [.lit (.bool false)], args := [d1, d2] }
  | _ => none }
def IpIcmpsWrongFalsely : Prop := ipIcmpsRow.holds Try.pinned (OpenSpec.ofChange ipIcmpsWrong)

/-- 'trunklinelaw10.IpRefuses': WHATEVER THE INPUT: true; the input reads as it did. -/
def ipRefusesSpec : ChangeSpec := { name := "ipRefuses", fn := fun _ => fun
  | [d1, d2, d3] => { results := [.lit (.bool true)], args := [d1, d2, d3] }
  | _ => none }
def ipRefusesRow : OpenClaim := { program := "ytdligcofjfdhbaa", sum := "bc4c41e0b6f4797eff484647d2528307b2aa41cafaf3f170f37c951edd8480de", func := "trunkline/trunklinelaw10.IpRefuses", spec := "ipRefuses", inPlace := ["slices.overlaps[byte]"], unfollowed := true, recurses := true, apart := false }
def IpRefusesSaid : Prop := ipRefusesRow.holds Try.pinned (OpenSpec.ofChange ipRefusesSpec)

/-- ITS FALSE NEIGHBOUR: 'it returns false'. Refute it at one input. -/
def ipRefusesWrong : ChangeSpec := { name := "ipRefuses", fn := fun _ => fun
  | [d1, d2, d3] => { results := [.lit (.bool false)], args := [d1, d2, d3] }
  | _ => none }
def IpRefusesWrongFalsely : Prop := ipRefusesRow.holds Try.pinned (OpenSpec.ofChange ipRefusesWrong)

/-- 'trunklinelaw10.IpEchoes': WHATEVER THE INPUT: true; the input reads as it did. -/
def ipEchoesSpec : ChangeSpec := { name := "ipEchoes", fn := fun _ => fun
  | [d1, d2, d3] => { results := [.lit (.bool true)], args := [d1, d2, d3] }
  | _ => none }
def ipEchoesRow : OpenClaim := { program := "ytdligcofjfdhbaa", sum := "bc4c41e0b6f4797eff484647d2528307b2aa41cafaf3f170f37c951edd8480de", func := "trunkline/trunklinelaw10.IpEchoes", spec := "ipEchoes", inPlace := ["slices.overlaps[byte]"], unfollowed := true, recurses := true, apart := false }
def IpEchoesSaid : Prop := ipEchoesRow.holds Try.pinned (OpenSpec.ofChange ipEchoesSpec)

/-- ITS FALSE NEIGHBOUR: 'it returns false'. Refute it at one input. -/
def ipEchoesWrong : ChangeSpec := { name := "ipEchoes", fn := fun _ => fun
  | [d1, d2, d3] => { results := [.lit (.bool false)], args := [d1, d2, d3] }
  | _ => none }
def IpEchoesWrongFalsely : Prop := ipEchoesRow.holds Try.pinned (OpenSpec.ofChange ipEchoesWrong)

/- THE SECOND FORM. 'bulk': how many values and letters a reading holds, each counted each time it is reached (what is shared counts as often as it is met; a slice's spare places count too). A statement '..UptoSaid' is the law's where the arguments, and the package variables that the reading takes, are together of bulk at most 1048576: NARROWER than '..Said'. Prove '..Said' where nothing that the law and all that it calls make is longer than what came in: it says more and counts as full. Else prove '..UptoSaid'. A law counts once. -/
mutual
def uptoBulk {H : Type} : DataW H → Nat
  | .lit (.string bytes) => bytes.length + 1
  | .lit _ => 1
  | .nil => 1
  | .ptr d => uptoBulk d + 1
  | .slice elems spare => uptoBulkAll elems + uptoBulkAll spare + 1
  | .agg parts => uptoBulkAll parts + 1
  | .iface _ d => uptoBulk d + 1
  | .map entries => uptoBulkEntries entries + 1
  | .held _ => 1
def uptoBulkAll {H : Type} : List (DataW H) → Nat
  | [] => 0
  | d :: r => uptoBulk d + uptoBulkAll r
def uptoBulkEntries {H : Type} : List (Lit × DataW H) → Nat
  | [] => 0
  | x :: r => uptoBulkEntry x + uptoBulkEntries r
def uptoBulkEntry {H : Type} : Lit × DataW H → Nat
  | (.string bytes, d) => bytes.length + uptoBulk d + 1
  | (_, d) => uptoBulk d + 1
 end
def uptoSmall : (H : Type) → List (DataW H) → Bool := fun _ ds => decide (uptoBulkAll ds ≤ 1048576)
def OpenSpec.upto (s : _root_.Go.ChangeSpec) : _root_.Go.OpenSpec := { _root_.Go.OpenSpec.ofChange s with cond := some uptoSmall }

/-- 'trunklinelaw10.IpPuts', WHERE WHAT IT READS IS OF BULK AT MOST 1048576: true; the input reads as it did. -/
def ipPutsUptoRow : OpenClaim := { program := "ytdligcofjfdhbaa", sum := "bc4c41e0b6f4797eff484647d2528307b2aa41cafaf3f170f37c951edd8480de", func := "trunkline/trunklinelaw10.IpPuts", spec := "ipPuts", inPlace := ["slices.overlaps[byte]"], unfollowed := true, recurses := true, apart := false, narrowed := true }
def IpPutsUptoSaid : Prop := ipPutsUptoRow.holds Try.pinned (OpenSpec.upto ipPutsSpec)

/-- 'trunklinelaw10.IpTakes', WHERE WHAT IT READS IS OF BULK AT MOST 1048576: true; the input reads as it did. -/
def ipTakesUptoRow : OpenClaim := { program := "ytdligcofjfdhbaa", sum := "bc4c41e0b6f4797eff484647d2528307b2aa41cafaf3f170f37c951edd8480de", func := "trunkline/trunklinelaw10.IpTakes", spec := "ipTakes", inPlace := ["slices.overlaps[byte]"], unfollowed := true, recurses := true, apart := false, narrowed := true }
def IpTakesUptoSaid : Prop := ipTakesUptoRow.holds Try.pinned (OpenSpec.upto ipTakesSpec)

/-- 'trunklinelaw10.IpBack', WHERE WHAT IT READS IS OF BULK AT MOST 1048576: true; the input reads as it did. -/
def ipBackUptoRow : OpenClaim := { program := "ytdligcofjfdhbaa", sum := "bc4c41e0b6f4797eff484647d2528307b2aa41cafaf3f170f37c951edd8480de", func := "trunkline/trunklinelaw10.IpBack", spec := "ipBack", inPlace := ["slices.overlaps[byte]"], unfollowed := true, recurses := true, apart := false, narrowed := true }
def IpBackUptoSaid : Prop := ipBackUptoRow.holds Try.pinned (OpenSpec.upto ipBackSpec)

/-- 'trunklinelaw10.IpTurned', WHERE WHAT IT READS IS OF BULK AT MOST 1048576: true; the input reads as it did. -/
def ipTurnedUptoRow : OpenClaim := { program := "ytdligcofjfdhbaa", sum := "bc4c41e0b6f4797eff484647d2528307b2aa41cafaf3f170f37c951edd8480de", func := "trunkline/trunklinelaw10.IpTurned", spec := "ipTurned", inPlace := ["slices.overlaps[byte]"], unfollowed := true, recurses := true, apart := false, narrowed := true }
def IpTurnedUptoSaid : Prop := ipTurnedUptoRow.holds Try.pinned (OpenSpec.upto ipTurnedSpec)

/-- 'trunklinelaw10.IpSplits', WHERE WHAT IT READS IS OF BULK AT MOST 1048576: true; the input reads as it did. -/
def ipSplitsUptoRow : OpenClaim := { program := "ytdligcofjfdhbaa", sum := "bc4c41e0b6f4797eff484647d2528307b2aa41cafaf3f170f37c951edd8480de", func := "trunkline/trunklinelaw10.IpSplits", spec := "ipSplits", inPlace := ["slices.overlaps[byte]"], unfollowed := true, recurses := true, apart := false, narrowed := true }
def IpSplitsUptoSaid : Prop := ipSplitsUptoRow.holds Try.pinned (OpenSpec.upto ipSplitsSpec)

/-- 'trunklinelaw10.IpPieces', WHERE WHAT IT READS IS OF BULK AT MOST 1048576: true; the input reads as it did. -/
def ipPiecesUptoRow : OpenClaim := { program := "ytdligcofjfdhbaa", sum := "bc4c41e0b6f4797eff484647d2528307b2aa41cafaf3f170f37c951edd8480de", func := "trunkline/trunklinelaw10.IpPieces", spec := "ipPieces", inPlace := ["slices.overlaps[byte]"], unfollowed := true, recurses := true, apart := false, narrowed := true }
def IpPiecesUptoSaid : Prop := ipPiecesUptoRow.holds Try.pinned (OpenSpec.upto ipPiecesSpec)

/-- 'trunklinelaw10.IpOwn', WHERE WHAT IT READS IS OF BULK AT MOST 1048576: true; the input reads as it did. -/
def ipOwnUptoRow : OpenClaim := { program := "ytdligcofjfdhbaa", sum := "bc4c41e0b6f4797eff484647d2528307b2aa41cafaf3f170f37c951edd8480de", func := "trunkline/trunklinelaw10.IpOwn", spec := "ipOwn", inPlace := ["slices.overlaps[byte]"], unfollowed := true, recurses := true, apart := false, narrowed := true }
def IpOwnUptoSaid : Prop := ipOwnUptoRow.holds Try.pinned (OpenSpec.upto ipOwnSpec)

/-- 'trunklinelaw10.IpIcmps', WHERE WHAT IT READS IS OF BULK AT MOST 1048576: true; the input reads as it did. -/
def ipIcmpsUptoRow : OpenClaim := { program := "ytdligcofjfdhbaa", sum := "bc4c41e0b6f4797eff484647d2528307b2aa41cafaf3f170f37c951edd8480de", func := "trunkline/trunklinelaw10.IpIcmps", spec := "ipIcmps", inPlace := ["slices.overlaps[byte]"], unfollowed := true, recurses := true, apart := false, narrowed := true }
def IpIcmpsUptoSaid : Prop := ipIcmpsUptoRow.holds Try.pinned (OpenSpec.upto ipIcmpsSpec)

/-- 'trunklinelaw10.IpRefuses', WHERE WHAT IT READS IS OF BULK AT MOST 1048576: true; the input reads as it did. -/
def ipRefusesUptoRow : OpenClaim := { program := "ytdligcofjfdhbaa", sum := "bc4c41e0b6f4797eff484647d2528307b2aa41cafaf3f170f37c951edd8480de", func := "trunkline/trunklinelaw10.IpRefuses", spec := "ipRefuses", inPlace := ["slices.overlaps[byte]"], unfollowed := true, recurses := true, apart := false, narrowed := true }
def IpRefusesUptoSaid : Prop := ipRefusesUptoRow.holds Try.pinned (OpenSpec.upto ipRefusesSpec)

/-- 'trunklinelaw10.IpEchoes', WHERE WHAT IT READS IS OF BULK AT MOST 1048576: true; the input reads as it did. -/
def ipEchoesUptoRow : OpenClaim := { program := "ytdligcofjfdhbaa", sum := "bc4c41e0b6f4797eff484647d2528307b2aa41cafaf3f170f37c951edd8480de", func := "trunkline/trunklinelaw10.IpEchoes", spec := "ipEchoes", inPlace := ["slices.overlaps[byte]"], unfollowed := true, recurses := true, apart := false, narrowed := true }
def IpEchoesUptoSaid : Prop := ipEchoesUptoRow.holds Try.pinned (OpenSpec.upto ipEchoesSpec)

end Rows
end Go.Proofs.Ytdligcofjfdhbaa
