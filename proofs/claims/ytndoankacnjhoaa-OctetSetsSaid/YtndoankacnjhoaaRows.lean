/-
  No cell of these rows narrows 'for every input' (looked for: loops, veiled, ifaces, maps, wideKeys, modest, calm, conditions, laid).
  DERIVED. THE GIVEN ROWS OF THIS SEAT. 9 by the template 'for every input the law returns true; each argument reads behind the call as it read before'; 0 by the template 'total and deterministic' (their statements: YtndoankacnjhoaaTotals.lean).
  GIVEN WITH THE SEED: the statements are not yours to turn. If you find one false, say at which input.
  Laid BY PROGRAM, IN A SANDBOX (cutbox-rows.mjs): the forced cells as the released guide's own fill.sh prints them over the translation e9ba9f359ecb80e3… (all of the seat's roots in one cut). By AI agents, Wed Nov 11 2026. No macro, syntax, notation, axiom, sorry.
-/
import Derived.Test.YtndoankacnjhoaaChecked
import GoSem.Claim
import GoSem.ClaimJoined
import GoSem.ClaimMapViews
import Derived.JoinedTies
import Derived.KernelRfl
namespace Go.Proofs.Ytndoankacnjhoaa
/- THE CELL 'sum', in the pinned program and in every row, IS THE sha256 OF THE DUMP (.gsa) THAT YtndoankacnjhoaaProg.lean LOADS. Nothing in Lean hashes anything: it is a label: what it is worth is what the hold of that sum in a sandbox is worth. -/
noncomputable def Try.pinned : Pinned := { name := "ytndoankacnjhoaa", sum := "e9ba9f359ecb80e338129ca25243b42235618e76634303089d44e0ae2d01aea1", checked := Try.checked }
namespace Rows
def none {H : Type} : Left H := { results := [], args := [] }

/-- 'trunklinelaw01.OctetNums': WHATEVER THE INPUT: true; the input reads as it did. -/
def octetNumsSpec : ChangeSpec := { name := "octetNums", fn := fun _ => fun
  | [d1, d2, d3] => { results := [.lit (.bool true)], args := [d1, d2, d3] }
  | _ => none }
def octetNumsRow : OpenClaim := { program := "ytndoankacnjhoaa", sum := "e9ba9f359ecb80e338129ca25243b42235618e76634303089d44e0ae2d01aea1", func := "trunkline/trunklinelaw01.OctetNums", spec := "octetNums", apart := false }
def OctetNumsSaid : Prop := octetNumsRow.holds Try.pinned (OpenSpec.ofChange octetNumsSpec)

/-- ITS FALSE NEIGHBOUR: 'it returns false'. Refute it at one input. -/
def octetNumsWrong : ChangeSpec := { name := "octetNums", fn := fun _ => fun
  | [d1, d2, d3] => { results := [.lit (.bool false)], args := [d1, d2, d3] }
  | _ => none }
def OctetNumsWrongFalsely : Prop := octetNumsRow.holds Try.pinned (OpenSpec.ofChange octetNumsWrong)

/-- 'trunklinelaw01.OctetBytes': WHATEVER THE INPUT: true; the input reads as it did. -/
def octetBytesSpec : ChangeSpec := { name := "octetBytes", fn := fun _ => fun
  | [d1, d2] => { results := [.lit (.bool true)], args := [d1, d2] }
  | _ => none }
def octetBytesRow : OpenClaim := { program := "ytndoankacnjhoaa", sum := "e9ba9f359ecb80e338129ca25243b42235618e76634303089d44e0ae2d01aea1", func := "trunkline/trunklinelaw01.OctetBytes", spec := "octetBytes", apart := false }
def OctetBytesSaid : Prop := octetBytesRow.holds Try.pinned (OpenSpec.ofChange octetBytesSpec)

/-- ITS FALSE NEIGHBOUR: 'it returns false'. Refute it at one input. -/
def octetBytesWrong : ChangeSpec := { name := "octetBytes", fn := fun _ => fun
  | [d1, d2] => { results := [.lit (.bool false)], args := [d1, d2] }
  | _ => none }
def OctetBytesWrongFalsely : Prop := octetBytesRow.holds Try.pinned (OpenSpec.ofChange octetBytesWrong)

/-- 'trunklinelaw01.OctetBack': WHATEVER THE INPUT: true; the input reads as it did. -/
def octetBackSpec : ChangeSpec := { name := "octetBack", fn := fun _ => fun
  | [d1, d2, d3] => { results := [.lit (.bool true)], args := [d1, d2, d3] }
  | _ => none }
def octetBackRow : OpenClaim := { program := "ytndoankacnjhoaa", sum := "e9ba9f359ecb80e338129ca25243b42235618e76634303089d44e0ae2d01aea1", func := "trunkline/trunklinelaw01.OctetBack", spec := "octetBack", apart := false }
def OctetBackSaid : Prop := octetBackRow.holds Try.pinned (OpenSpec.ofChange octetBackSpec)

/-- ITS FALSE NEIGHBOUR: 'it returns false'. Refute it at one input. -/
def octetBackWrong : ChangeSpec := { name := "octetBack", fn := fun _ => fun
  | [d1, d2, d3] => { results := [.lit (.bool false)], args := [d1, d2, d3] }
  | _ => none }
def OctetBackWrongFalsely : Prop := octetBackRow.holds Try.pinned (OpenSpec.ofChange octetBackWrong)

/-- 'trunklinelaw01.OctetOrders': WHATEVER THE INPUT: true; the input reads as it did. -/
def octetOrdersSpec : ChangeSpec := { name := "octetOrders", fn := fun _ => fun
  | [d1, d2, d3] => { results := [.lit (.bool true)], args := [d1, d2, d3] }
  | _ => none }
def octetOrdersRow : OpenClaim := { program := "ytndoankacnjhoaa", sum := "e9ba9f359ecb80e338129ca25243b42235618e76634303089d44e0ae2d01aea1", func := "trunkline/trunklinelaw01.OctetOrders", spec := "octetOrders", apart := false }
def OctetOrdersSaid : Prop := octetOrdersRow.holds Try.pinned (OpenSpec.ofChange octetOrdersSpec)

/-- ITS FALSE NEIGHBOUR: 'it returns false'. Refute it at one input. -/
def octetOrdersWrong : ChangeSpec := { name := "octetOrders", fn := fun _ => fun
  | [d1, d2, d3] => { results := [.lit (.bool false)], args := [d1, d2, d3] }
  | _ => none }
def OctetOrdersWrongFalsely : Prop := octetOrdersRow.holds Try.pinned (OpenSpec.ofChange octetOrdersWrong)

/-- 'trunklinelaw01.OctetHexBack': WHATEVER THE INPUT: true; the input reads as it did. -/
def octetHexBackSpec : ChangeSpec := { name := "octetHexBack", fn := fun _ => fun
  | [d] => { results := [.lit (.bool true)], args := [d] }
  | _ => none }
def octetHexBackRow : OpenClaim := { program := "ytndoankacnjhoaa", sum := "e9ba9f359ecb80e338129ca25243b42235618e76634303089d44e0ae2d01aea1", func := "trunkline/trunklinelaw01.OctetHexBack", spec := "octetHexBack", apart := false }
def OctetHexBackSaid : Prop := octetHexBackRow.holds Try.pinned (OpenSpec.ofChange octetHexBackSpec)

/-- ITS FALSE NEIGHBOUR: 'it returns false'. Refute it at one input. -/
def octetHexBackWrong : ChangeSpec := { name := "octetHexBack", fn := fun _ => fun
  | [d] => { results := [.lit (.bool false)], args := [d] }
  | _ => none }
def OctetHexBackWrongFalsely : Prop := octetHexBackRow.holds Try.pinned (OpenSpec.ofChange octetHexBackWrong)

/-- 'trunklinelaw01.OctetAddrBack': WHATEVER THE INPUT: true; the input reads as it did. -/
def octetAddrBackSpec : ChangeSpec := { name := "octetAddrBack", fn := fun _ => fun
  | [d1, d2] => { results := [.lit (.bool true)], args := [d1, d2] }
  | _ => none }
def octetAddrBackRow : OpenClaim := { program := "ytndoankacnjhoaa", sum := "e9ba9f359ecb80e338129ca25243b42235618e76634303089d44e0ae2d01aea1", func := "trunkline/trunklinelaw01.OctetAddrBack", spec := "octetAddrBack", apart := false }
def OctetAddrBackSaid : Prop := octetAddrBackRow.holds Try.pinned (OpenSpec.ofChange octetAddrBackSpec)

/-- ITS FALSE NEIGHBOUR: 'it returns false'. Refute it at one input. -/
def octetAddrBackWrong : ChangeSpec := { name := "octetAddrBack", fn := fun _ => fun
  | [d1, d2] => { results := [.lit (.bool false)], args := [d1, d2] }
  | _ => none }
def OctetAddrBackWrongFalsely : Prop := octetAddrBackRow.holds Try.pinned (OpenSpec.ofChange octetAddrBackWrong)

/-- 'trunklinelaw01.OctetCuts': WHATEVER THE INPUT: true; the input reads as it did. -/
def octetCutsSpec : ChangeSpec := { name := "octetCuts", fn := fun _ => fun
  | [d1, d2, d3] => { results := [.lit (.bool true)], args := [d1, d2, d3] }
  | _ => none }
def octetCutsRow : OpenClaim := { program := "ytndoankacnjhoaa", sum := "e9ba9f359ecb80e338129ca25243b42235618e76634303089d44e0ae2d01aea1", func := "trunkline/trunklinelaw01.OctetCuts", spec := "octetCuts", apart := false }
def OctetCutsSaid : Prop := octetCutsRow.holds Try.pinned (OpenSpec.ofChange octetCutsSpec)

/-- ITS FALSE NEIGHBOUR: 'it returns false'. Refute it at one input. -/
def octetCutsWrong : ChangeSpec := { name := "octetCuts", fn := fun _ => fun
  | [d1, d2, d3] => { results := [.lit (.bool false)], args := [d1, d2, d3] }
  | _ => none }
def OctetCutsWrongFalsely : Prop := octetCutsRow.holds Try.pinned (OpenSpec.ofChange octetCutsWrong)

/-- 'trunklinelaw01.OctetSets': WHATEVER THE INPUT: true; the input reads as it did. -/
def octetSetsSpec : ChangeSpec := { name := "octetSets", fn := fun _ => fun
  | [d1, d2, d3] => { results := [.lit (.bool true)], args := [d1, d2, d3] }
  | _ => none }
def octetSetsRow : OpenClaim := { program := "ytndoankacnjhoaa", sum := "e9ba9f359ecb80e338129ca25243b42235618e76634303089d44e0ae2d01aea1", func := "trunkline/trunklinelaw01.OctetSets", spec := "octetSets", inPlace := ["slices.overlaps[byte]"], apart := false }
def OctetSetsSaid : Prop := octetSetsRow.holds Try.pinned (OpenSpec.ofChange octetSetsSpec)

/-- ITS FALSE NEIGHBOUR: 'it returns false'. Refute it at one input. -/
def octetSetsWrong : ChangeSpec := { name := "octetSets", fn := fun _ => fun
  | [d1, d2, d3] => { results := [.lit (.bool false)], args := [d1, d2, d3] }
  | _ => none }
def OctetSetsWrongFalsely : Prop := octetSetsRow.holds Try.pinned (OpenSpec.ofChange octetSetsWrong)

/-- 'trunklinelaw01.OctetOwn': WHATEVER THE INPUT: true; the input reads as it did. -/
def octetOwnSpec : ChangeSpec := { name := "octetOwn", fn := fun _ => fun
  | [d1, d2, d3] => { results := [.lit (.bool true)], args := [d1, d2, d3] }
  | _ => none }
def octetOwnRow : OpenClaim := { program := "ytndoankacnjhoaa", sum := "e9ba9f359ecb80e338129ca25243b42235618e76634303089d44e0ae2d01aea1", func := "trunkline/trunklinelaw01.OctetOwn", spec := "octetOwn", inPlace := ["slices.overlaps[byte]"], apart := false }
def OctetOwnSaid : Prop := octetOwnRow.holds Try.pinned (OpenSpec.ofChange octetOwnSpec)

/-- ITS FALSE NEIGHBOUR: 'it returns false'. Refute it at one input. -/
def octetOwnWrong : ChangeSpec := { name := "octetOwn", fn := fun _ => fun
  | [d1, d2, d3] => { results := [.lit (.bool false)], args := [d1, d2, d3] }
  | _ => none }
def OctetOwnWrongFalsely : Prop := octetOwnRow.holds Try.pinned (OpenSpec.ofChange octetOwnWrong)

/- THE SECOND FORM. 'bulk': how many values and letters a reading holds, each counted each time it is reached (what is shared counts as often as it is met; a slice's spare places count too). A statement '..UptoSaid' is the law's where the arguments, and the package variables that the reading takes, are together of bulk at most 1048576: NARROWER than '..Said'. Prove '..Said' where nothing that the law and all that it calls make is longer than what came in: it says more and counts as full. Else prove '..UptoSaid'. A law counts once. -/
mutual
def uptoBulk {H : Type} : DataW H → Nat
  | .lit (.string bytes) => bytes.length + 1
  | .lit _ => 1
  | .nil => 1
  | .ptr d => uptoBulk d + 1
  | .slice elems spare => uptoBulkAll elems + uptoBulkAll spare + 1
  | .agg parts => uptoBulkAll parts + 1
  | .iface _ d => uptoBulk d + 1
  | .map entries => uptoBulkEntries entries + 1
  | .held _ => 1
def uptoBulkAll {H : Type} : List (DataW H) → Nat
  | [] => 0
  | d :: r => uptoBulk d + uptoBulkAll r
def uptoBulkEntries {H : Type} : List (Lit × DataW H) → Nat
  | [] => 0
  | x :: r => uptoBulkEntry x + uptoBulkEntries r
def uptoBulkEntry {H : Type} : Lit × DataW H → Nat
  | (.string bytes, d) => bytes.length + uptoBulk d + 1
  | (_, d) => uptoBulk d + 1
 end
def uptoSmall : (H : Type) → List (DataW H) → Bool := fun _ ds => decide (uptoBulkAll ds ≤ 1048576)
def OpenSpec.upto (s : _root_.Go.ChangeSpec) : _root_.Go.OpenSpec := { _root_.Go.OpenSpec.ofChange s with cond := some uptoSmall }

/-- 'trunklinelaw01.OctetNums', WHERE WHAT IT READS IS OF BULK AT MOST 1048576: true; the input reads as it did. -/
def octetNumsUptoRow : OpenClaim := { program := "ytndoankacnjhoaa", sum := "e9ba9f359ecb80e338129ca25243b42235618e76634303089d44e0ae2d01aea1", func := "trunkline/trunklinelaw01.OctetNums", spec := "octetNums", apart := false, narrowed := true }
def OctetNumsUptoSaid : Prop := octetNumsUptoRow.holds Try.pinned (OpenSpec.upto octetNumsSpec)

/-- 'trunklinelaw01.OctetBytes', WHERE WHAT IT READS IS OF BULK AT MOST 1048576: true; the input reads as it did. -/
def octetBytesUptoRow : OpenClaim := { program := "ytndoankacnjhoaa", sum := "e9ba9f359ecb80e338129ca25243b42235618e76634303089d44e0ae2d01aea1", func := "trunkline/trunklinelaw01.OctetBytes", spec := "octetBytes", apart := false, narrowed := true }
def OctetBytesUptoSaid : Prop := octetBytesUptoRow.holds Try.pinned (OpenSpec.upto octetBytesSpec)

/-- 'trunklinelaw01.OctetBack', WHERE WHAT IT READS IS OF BULK AT MOST 1048576: true; the input reads as it did. -/
def octetBackUptoRow : OpenClaim := { program := "ytndoankacnjhoaa", sum := "e9ba9f359ecb80e338129ca25243b42235618e76634303089d44e0ae2d01aea1", func := "trunkline/trunklinelaw01.OctetBack", spec := "octetBack", apart := false, narrowed := true }
def OctetBackUptoSaid : Prop := octetBackUptoRow.holds Try.pinned (OpenSpec.upto octetBackSpec)

/-- 'trunklinelaw01.OctetOrders', WHERE WHAT IT READS IS OF BULK AT MOST 1048576: true; the input reads as it did. -/
def octetOrdersUptoRow : OpenClaim := { program := "ytndoankacnjhoaa", sum := "e9ba9f359ecb80e338129ca25243b42235618e76634303089d44e0ae2d01aea1", func := "trunkline/trunklinelaw01.OctetOrders", spec := "octetOrders", apart := false, narrowed := true }
def OctetOrdersUptoSaid : Prop := octetOrdersUptoRow.holds Try.pinned (OpenSpec.upto octetOrdersSpec)

/-- 'trunklinelaw01.OctetHexBack', WHERE WHAT IT READS IS OF BULK AT MOST 1048576: true; the input reads as it did. -/
def octetHexBackUptoRow : OpenClaim := { program := "ytndoankacnjhoaa", sum := "e9ba9f359ecb80e338129ca25243b42235618e76634303089d44e0ae2d01aea1", func := "trunkline/trunklinelaw01.OctetHexBack", spec := "octetHexBack", apart := false, narrowed := true }
def OctetHexBackUptoSaid : Prop := octetHexBackUptoRow.holds Try.pinned (OpenSpec.upto octetHexBackSpec)

/-- 'trunklinelaw01.OctetAddrBack', WHERE WHAT IT READS IS OF BULK AT MOST 1048576: true; the input reads as it did. -/
def octetAddrBackUptoRow : OpenClaim := { program := "ytndoankacnjhoaa", sum := "e9ba9f359ecb80e338129ca25243b42235618e76634303089d44e0ae2d01aea1", func := "trunkline/trunklinelaw01.OctetAddrBack", spec := "octetAddrBack", apart := false, narrowed := true }
def OctetAddrBackUptoSaid : Prop := octetAddrBackUptoRow.holds Try.pinned (OpenSpec.upto octetAddrBackSpec)

/-- 'trunklinelaw01.OctetCuts', WHERE WHAT IT READS IS OF BULK AT MOST 1048576: true; the input reads as it did. -/
def octetCutsUptoRow : OpenClaim := { program := "ytndoankacnjhoaa", sum := "e9ba9f359ecb80e338129ca25243b42235618e76634303089d44e0ae2d01aea1", func := "trunkline/trunklinelaw01.OctetCuts", spec := "octetCuts", apart := false, narrowed := true }
def OctetCutsUptoSaid : Prop := octetCutsUptoRow.holds Try.pinned (OpenSpec.upto octetCutsSpec)

/-- 'trunklinelaw01.OctetSets', WHERE WHAT IT READS IS OF BULK AT MOST 1048576: true; the input reads as it did. -/
def octetSetsUptoRow : OpenClaim := { program := "ytndoankacnjhoaa", sum := "e9ba9f359ecb80e338129ca25243b42235618e76634303089d44e0ae2d01aea1", func := "trunkline/trunklinelaw01.OctetSets", spec := "octetSets", inPlace := ["slices.overlaps[byte]"], apart := false, narrowed := true }
def OctetSetsUptoSaid : Prop := octetSetsUptoRow.holds Try.pinned (OpenSpec.upto octetSetsSpec)

/-- 'trunklinelaw01.OctetOwn', WHERE WHAT IT READS IS OF BULK AT MOST 1048576: true; the input reads as it did. -/
def octetOwnUptoRow : OpenClaim := { program := "ytndoankacnjhoaa", sum := "e9ba9f359ecb80e338129ca25243b42235618e76634303089d44e0ae2d01aea1", func := "trunkline/trunklinelaw01.OctetOwn", spec := "octetOwn", inPlace := ["slices.overlaps[byte]"], apart := false, narrowed := true }
def OctetOwnUptoSaid : Prop := octetOwnUptoRow.holds Try.pinned (OpenSpec.upto octetOwnSpec)

end Rows
end Go.Proofs.Ytndoankacnjhoaa
