/-
  DERIVED. GIVEN WITH THE SEED: THE CARDS: each row of YtndoankacnjhoaaDoorRows.lean that lists a variable, with what it lists TIED to the program's text (the seventh form; the later family's looks); each row that meets fmt, with fmt's text TOLD by the authors' own Lean function (tested against real Go, not proved from fmt's source: count such statements apart). THE CARD IS WHAT COUNTS. Prove the row's statement (the work); the ties are given (YtndoankacnjhoaaDoorTie.lean); close each card by the builder's one call (the guide's Derived/Test/ToyasCard.lean, 'card_holds'). Laid BY PROGRAM, IN A SANDBOX (cutbox-door.mjs). By AI agents, Wed Nov 11 2026. No macro, syntax, notation, axiom, sorry.
-/
import Derived.Test.YtndoankacnjhoaaDoorRows
import GoSem.ClaimSeven
namespace Go.Proofs.YtndoankacnjhoaaDoor
namespace Rows

/-- THE TIED CARD OF 'trunklinelaw01.OctetHexes'. -/
def octetHexesCard : Claim7 := { stood := { row := octetHexesRow, standIns := [], harness := (true, "87663ed6786979035e75cadcf2b55f560751de235f4d25f5ea04f70b3bd3e0f4"), looks := false }, kinds := [], alts := [], laidByText := true, laidKinds := [.data, .pinned], laidTests := true, laidLooks := .later }
def OctetHexesCardSaid : Prop := Claim7.holds Tryd.pinned (.plain (OpenSpec.ofChange octetHexesSpec)) octetHexesCard

/-- THE TIED CARD OF 'trunklinelaw01.OctetAddrs'. -/
def octetAddrsCard : Claim7 := { stood := { row := octetAddrsRow, standIns := [], harness := (true, "87663ed6786979035e75cadcf2b55f560751de235f4d25f5ea04f70b3bd3e0f4"), looks := false }, kinds := [], alts := [], laidByText := true, laidKinds := [.data, .pinned], laidTests := true, laidLooks := .later }
def OctetAddrsCardSaid : Prop := Claim7.holds Tryd.pinned (.plain (OpenSpec.ofChange octetAddrsSpec)) octetAddrsCard

/-- THE SECOND FORM's CARD OF 'trunklinelaw01.OctetHexes'. -/
def octetHexesUptoCard : Claim7 := { stood := { row := octetHexesUptoRow, standIns := [], harness := (true, "87663ed6786979035e75cadcf2b55f560751de235f4d25f5ea04f70b3bd3e0f4"), looks := false }, kinds := [], alts := [], laidByText := true, laidKinds := [.data, .pinned], laidTests := true, laidLooks := .later }
def OctetHexesUptoCardSaid : Prop := Claim7.holds Tryd.pinned (.plain (OpenSpec.upto octetHexesSpec)) octetHexesUptoCard

/-- THE SECOND FORM's CARD OF 'trunklinelaw01.OctetAddrs'. -/
def octetAddrsUptoCard : Claim7 := { stood := { row := octetAddrsUptoRow, standIns := [], harness := (true, "87663ed6786979035e75cadcf2b55f560751de235f4d25f5ea04f70b3bd3e0f4"), looks := false }, kinds := [], alts := [], laidByText := true, laidKinds := [.data, .pinned], laidTests := true, laidLooks := .later }
def OctetAddrsUptoCardSaid : Prop := Claim7.holds Tryd.pinned (.plain (OpenSpec.upto octetAddrsSpec)) octetAddrsUptoCard
end Rows
end Go.Proofs.YtndoankacnjhoaaDoor
