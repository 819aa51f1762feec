/-
  No cell of these rows narrows 'for every input' (looked for: loops, veiled, ifaces, maps, wideKeys, modest, calm, conditions, laid).
  DERIVED. THE GIVEN ROWS OF THIS SEAT. 7 by the template 'for every input the law returns true; each argument reads behind the call as it read before'; 0 by the template 'total and deterministic' (their statements: YtnfbbnmdlcmifaaTotals.lean).
  GIVEN WITH THE SEED: the statements are not yours to turn. If you find one false, say at which input.
  Laid BY PROGRAM, IN A SANDBOX (cutbox-rows.mjs): the forced cells as the released guide's own fill.sh prints them over the translation 6a4135e773352252… (all of the seat's roots in one cut). By AI agents, Wed Nov 11 2026. No macro, syntax, notation, axiom, sorry.
-/
import Derived.Test.YtnfbbnmdlcmifaaChecked
import GoSem.Claim
import GoSem.ClaimJoined
import GoSem.ClaimMapViews
import Derived.JoinedTies
import Derived.KernelRfl
namespace Go.Proofs.Ytnfbbnmdlcmifaa
/- THE CELL 'sum', in the pinned program and in every row, IS THE sha256 OF THE DUMP (.gsa) THAT YtnfbbnmdlcmifaaProg.lean LOADS. Nothing in Lean hashes anything: it is a label: what it is worth is what the hold of that sum in a sandbox is worth. -/
noncomputable def Try.pinned : Pinned := { name := "ytnfbbnmdlcmifaa", sum := "6a4135e77335225262a931d32f9c54d08db9837b35b7fe497d4c731758ead497", checked := Try.checked }
namespace Rows
def none {H : Type} : Left H := { results := [], args := [] }

/-- 'trunklinelaw08.EtherPuts': WHATEVER THE INPUT: true; the input reads as it did. -/
def etherPutsSpec : ChangeSpec := { name := "etherPuts", fn := fun _ => fun
  | [d1, d2] => { results := [.lit (.bool true)], args := [d1, d2] }
  | _ => none }
def etherPutsRow : OpenClaim := { program := "ytnfbbnmdlcmifaa", sum := "6a4135e77335225262a931d32f9c54d08db9837b35b7fe497d4c731758ead497", func := "trunkline/trunklinelaw08.EtherPuts", spec := "etherPuts", unfollowed := true, recurses := true, apart := false }
def EtherPutsSaid : Prop := etherPutsRow.holds Try.pinned (OpenSpec.ofChange etherPutsSpec)

/-- ITS FALSE NEIGHBOUR: 'it returns false'. Refute it at one input. -/
def etherPutsWrong : ChangeSpec := { name := "etherPuts", fn := fun _ => fun
  | [d1, d2] => { results := [.lit (.bool false)], args := [d1, d2] }
  | _ => none }
def EtherPutsWrongFalsely : Prop := etherPutsRow.holds Try.pinned (OpenSpec.ofChange etherPutsWrong)

/-- 'trunklinelaw08.EtherArps': WHATEVER THE INPUT: true; the input reads as it did. -/
def etherArpsSpec : ChangeSpec := { name := "etherArps", fn := fun _ => fun
  | [d1, d2] => { results := [.lit (.bool true)], args := [d1, d2] }
  | _ => none }
def etherArpsRow : OpenClaim := { program := "ytnfbbnmdlcmifaa", sum := "6a4135e77335225262a931d32f9c54d08db9837b35b7fe497d4c731758ead497", func := "trunkline/trunklinelaw08.EtherArps", spec := "etherArps", unfollowed := true, recurses := true, apart := false }
def EtherArpsSaid : Prop := etherArpsRow.holds Try.pinned (OpenSpec.ofChange etherArpsSpec)

/-- ITS FALSE NEIGHBOUR: 'it returns false'. Refute it at one input. -/
def etherArpsWrong : ChangeSpec := { name := "etherArps", fn := fun _ => fun
  | [d1, d2] => { results := [.lit (.bool false)], args := [d1, d2] }
  | _ => none }
def EtherArpsWrongFalsely : Prop := etherArpsRow.holds Try.pinned (OpenSpec.ofChange etherArpsWrong)

/-- 'trunklinelaw08.EtherArpBack': WHATEVER THE INPUT: true; the input reads as it did. -/
def etherArpBackSpec : ChangeSpec := { name := "etherArpBack", fn := fun _ => fun
  | [d1, d2] => { results := [.lit (.bool true)], args := [d1, d2] }
  | _ => none }
def etherArpBackRow : OpenClaim := { program := "ytnfbbnmdlcmifaa", sum := "6a4135e77335225262a931d32f9c54d08db9837b35b7fe497d4c731758ead497", func := "trunkline/trunklinelaw08.EtherArpBack", spec := "etherArpBack", unfollowed := true, recurses := true, apart := false }
def EtherArpBackSaid : Prop := etherArpBackRow.holds Try.pinned (OpenSpec.ofChange etherArpBackSpec)

/-- ITS FALSE NEIGHBOUR: 'it returns false'. Refute it at one input. -/
def etherArpBackWrong : ChangeSpec := { name := "etherArpBack", fn := fun _ => fun
  | [d1, d2] => { results := [.lit (.bool false)], args := [d1, d2] }
  | _ => none }
def EtherArpBackWrongFalsely : Prop := etherArpBackRow.holds Try.pinned (OpenSpec.ofChange etherArpBackWrong)

/-- 'trunklinelaw08.EtherTakes': WHATEVER THE INPUT: true; the input reads as it did. -/
def etherTakesSpec : ChangeSpec := { name := "etherTakes", fn := fun _ => fun
  | [d] => { results := [.lit (.bool true)], args := [d] }
  | _ => none }
def etherTakesRow : OpenClaim := { program := "ytnfbbnmdlcmifaa", sum := "6a4135e77335225262a931d32f9c54d08db9837b35b7fe497d4c731758ead497", func := "trunkline/trunklinelaw08.EtherTakes", spec := "etherTakes", unfollowed := true, recurses := true, apart := false }
def EtherTakesSaid : Prop := etherTakesRow.holds Try.pinned (OpenSpec.ofChange etherTakesSpec)

/-- ITS FALSE NEIGHBOUR: 'it returns false'. Refute it at one input. -/
def etherTakesWrong : ChangeSpec := { name := "etherTakes", fn := fun _ => fun
  | [d] => { results := [.lit (.bool false)], args := [d] }
  | _ => none }
def EtherTakesWrongFalsely : Prop := etherTakesRow.holds Try.pinned (OpenSpec.ofChange etherTakesWrong)

/-- 'trunklinelaw08.EtherBack': WHATEVER THE INPUT: true; the input reads as it did. -/
def etherBackSpec : ChangeSpec := { name := "etherBack", fn := fun _ => fun
  | [d1, d2] => { results := [.lit (.bool true)], args := [d1, d2] }
  | _ => none }
def etherBackRow : OpenClaim := { program := "ytnfbbnmdlcmifaa", sum := "6a4135e77335225262a931d32f9c54d08db9837b35b7fe497d4c731758ead497", func := "trunkline/trunklinelaw08.EtherBack", spec := "etherBack", unfollowed := true, recurses := true, apart := false }
def EtherBackSaid : Prop := etherBackRow.holds Try.pinned (OpenSpec.ofChange etherBackSpec)

/-- ITS FALSE NEIGHBOUR: 'it returns false'. Refute it at one input. -/
def etherBackWrong : ChangeSpec := { name := "etherBack", fn := fun _ => fun
  | [d1, d2] => { results := [.lit (.bool false)], args := [d1, d2] }
  | _ => none }
def EtherBackWrongFalsely : Prop := etherBackRow.holds Try.pinned (OpenSpec.ofChange etherBackWrong)

/-- 'trunklinelaw08.EtherMacBack': WHATEVER THE INPUT: true; the input reads as it did. -/
def etherMacBackSpec : ChangeSpec := { name := "etherMacBack", fn := fun _ => fun
  | [d] => { results := [.lit (.bool true)], args := [d] }
  | _ => none }
def etherMacBackRow : OpenClaim := { program := "ytnfbbnmdlcmifaa", sum := "6a4135e77335225262a931d32f9c54d08db9837b35b7fe497d4c731758ead497", func := "trunkline/trunklinelaw08.EtherMacBack", spec := "etherMacBack", unfollowed := true, recurses := true, apart := false }
def EtherMacBackSaid : Prop := etherMacBackRow.holds Try.pinned (OpenSpec.ofChange etherMacBackSpec)

/-- ITS FALSE NEIGHBOUR: 'it returns false'. Refute it at one input. -/
def etherMacBackWrong : ChangeSpec := { name := "etherMacBack", fn := fun _ => fun
  | [d] => { results := [.lit (.bool false)], args := [d] }
  | _ => none }
def EtherMacBackWrongFalsely : Prop := etherMacBackRow.holds Try.pinned (OpenSpec.ofChange etherMacBackWrong)

/-- 'trunklinelaw08.EtherOwn': WHATEVER THE INPUT: true; the input reads as it did. -/
def etherOwnSpec : ChangeSpec := { name := "etherOwn", fn := fun _ => fun
  | [d] => { results := [.lit (.bool true)], args := [d] }
  | _ => none }
def etherOwnRow : OpenClaim := { program := "ytnfbbnmdlcmifaa", sum := "6a4135e77335225262a931d32f9c54d08db9837b35b7fe497d4c731758ead497", func := "trunkline/trunklinelaw08.EtherOwn", spec := "etherOwn", unfollowed := true, recurses := true, apart := false }
def EtherOwnSaid : Prop := etherOwnRow.holds Try.pinned (OpenSpec.ofChange etherOwnSpec)

/-- ITS FALSE NEIGHBOUR: 'it returns false'. Refute it at one input. -/
def etherOwnWrong : ChangeSpec := { name := "etherOwn", fn := fun _ => fun
  | [d] => { results := [.lit (.bool false)], args := [d] }
  | _ => none }
def EtherOwnWrongFalsely : Prop := etherOwnRow.holds Try.pinned (OpenSpec.ofChange etherOwnWrong)

/- THE SECOND FORM. 'bulk': how many values and letters a reading holds, each counted each time it is reached (what is shared counts as often as it is met; a slice's spare places count too). A statement '..UptoSaid' is the law's where the arguments, and the package variables that the reading takes, are together of bulk at most 1048576: NARROWER than '..Said'. Prove '..Said' where nothing that the law and all that it calls make is longer than what came in: it says more and counts as full. Else prove '..UptoSaid'. A law counts once. -/
mutual
def uptoBulk {H : Type} : DataW H → Nat
  | .lit (.string bytes) => bytes.length + 1
  | .lit _ => 1
  | .nil => 1
  | .ptr d => uptoBulk d + 1
  | .slice elems spare => uptoBulkAll elems + uptoBulkAll spare + 1
  | .agg parts => uptoBulkAll parts + 1
  | .iface _ d => uptoBulk d + 1
  | .map entries => uptoBulkEntries entries + 1
  | .held _ => 1
def uptoBulkAll {H : Type} : List (DataW H) → Nat
  | [] => 0
  | d :: r => uptoBulk d + uptoBulkAll r
def uptoBulkEntries {H : Type} : List (Lit × DataW H) → Nat
  | [] => 0
  | x :: r => uptoBulkEntry x + uptoBulkEntries r
def uptoBulkEntry {H : Type} : Lit × DataW H → Nat
  | (.string bytes, d) => bytes.length + uptoBulk d + 1
  | (_, d) => uptoBulk d + 1
 end
def uptoSmall : (H : Type) → List (DataW H) → Bool := fun _ ds => decide (uptoBulkAll ds ≤ 1048576)
def OpenSpec.upto (s : _root_.Go.ChangeSpec) : _root_.Go.OpenSpec := { _root_.Go.OpenSpec.ofChange s with cond := some uptoSmall }

/-- 'trunklinelaw08.EtherPuts', WHERE WHAT IT READS IS OF BULK AT MOST 1048576: true; the input reads as it did. -/
def etherPutsUptoRow : OpenClaim := { program := "ytnfbbnmdlcmifaa", sum := "6a4135e77335225262a931d32f9c54d08db9837b35b7fe497d4c731758ead497", func := "trunkline/trunklinelaw08.EtherPuts", spec := "etherPuts", unfollowed := true, recurses := true, apart := false, narrowed := true }
def EtherPutsUptoSaid : Prop := etherPutsUptoRow.holds Try.pinned (OpenSpec.upto etherPutsSpec)

/-- 'trunklinelaw08.EtherArps', WHERE WHAT IT READS IS OF BULK AT MOST 1048576: true; the input reads as it did. -/
def etherArpsUptoRow : OpenClaim := { program := "ytnfbbnmdlcmifaa", sum := "6a4135e77335225262a931d32f9c54d08db9837b35b7fe497d4c731758ead497", func := "trunkline/trunklinelaw08.EtherArps", spec := "etherArps", unfollowed := true, recurses := true, apart := false, narrowed := true }
def EtherArpsUptoSaid : Prop := etherArpsUptoRow.holds Try.pinned (OpenSpec.upto etherArpsSpec)

/-- 'trunklinelaw08.EtherArpBack', WHERE WHAT IT READS IS OF BULK AT MOST 1048576: true; the input reads as it did. -/
def etherArpBackUptoRow : OpenClaim := { program := "ytnfbbnmdlcmifaa", sum := "6a4135e77335225262a931d32f9c54d08db9837b35b7fe497d4c731758ead497", func := "trunkline/trunklinelaw08.EtherArpBack", spec := "etherArpBack", unfollowed := true, recurses := true, apart := false, narrowed := true }
def EtherArpBackUptoSaid : Prop := etherArpBackUptoRow.holds Try.pinned (OpenSpec.upto etherArpBackSpec)

/-- 'trunklinelaw08.EtherTakes', WHERE WHAT IT READS IS OF BULK AT MOST 1048576: true; the input reads as it did. -/
def etherTakesUptoRow : OpenClaim := { program := "ytnfbbnmdlcmifaa", sum := "6a4135e77335225262a931d32f9c54d08db9837b35b7fe497d4c731758ead497", func := "trunkline/trunklinelaw08.EtherTakes", spec := "etherTakes", unfollowed := true, recurses := true, apart := false, narrowed := true }
def EtherTakesUptoSaid : Prop := etherTakesUptoRow.holds Try.pinned (OpenSpec.upto etherTakesSpec)

/-- 'trunklinelaw08.EtherBack', WHERE WHAT IT READS IS OF BULK AT MOST 1048576: true; the input reads as it did. -/
def etherBackUptoRow : OpenClaim := { program := "ytnfbbnmdlcmifaa", sum := "6a4135e77335225262a931d32f9c54d08db9837b35b7fe497d4c731758ead497", func := "trunkline/trunklinelaw08.EtherBack", spec := "etherBack", unfollowed := true, recurses := true, apart := false, narrowed := true }
def EtherBackUptoSaid : Prop := etherBackUptoRow.holds Try.pinned (OpenSpec.upto etherBackSpec)

/-- 'trunklinelaw08.EtherMacBack', WHERE WHAT IT READS IS OF BULK AT MOST 1048576: true; the input reads as it did. -/
def etherMacBackUptoRow : OpenClaim := { program := "ytnfbbnmdlcmifaa", sum := "6a4135e77335225262a931d32f9c54d08db9837b35b7fe497d4c731758ead497", func := "trunkline/trunklinelaw08.EtherMacBack", spec := "etherMacBack", unfollowed := true, recurses := true, apart := false, narrowed := true }
def EtherMacBackUptoSaid : Prop := etherMacBackUptoRow.holds Try.pinned (OpenSpec.upto etherMacBackSpec)

/-- 'trunklinelaw08.EtherOwn', WHERE WHAT IT READS IS OF BULK AT MOST 1048576: true; the input reads as it did. -/
def etherOwnUptoRow : OpenClaim := { program := "ytnfbbnmdlcmifaa", sum := "6a4135e77335225262a931d32f9c54d08db9837b35b7fe497d4c731758ead497", func := "trunkline/trunklinelaw08.EtherOwn", spec := "etherOwn", unfollowed := true, recurses := true, apart := false, narrowed := true }
def EtherOwnUptoSaid : Prop := etherOwnUptoRow.holds Try.pinned (OpenSpec.upto etherOwnSpec)

end Rows
end Go.Proofs.Ytnfbbnmdlcmifaa
