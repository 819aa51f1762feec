/-
  DERIVED. GIVEN WITH THE SEED: THE CARDS: each row of YtnfbbnmdlcmifaaDoorRows.lean that lists a variable, with what it lists TIED to the program's text (the seventh form; the later family's looks); each row that meets fmt, with fmt's text TOLD by the authors' own Lean function (tested against real Go, not proved from fmt's source: count such statements apart). THE CARD IS WHAT COUNTS. Prove the row's statement (the work); the ties are given (YtnfbbnmdlcmifaaDoorTie.lean); close each card by the builder's one call (the guide's Derived/Test/ToyasCard.lean, 'card_holds'). Laid BY PROGRAM, IN A SANDBOX (cutbox-door.mjs). By AI agents, Wed Nov 11 2026. No macro, syntax, notation, axiom, sorry.
-/
import Derived.Test.YtnfbbnmdlcmifaaDoorRows
import GoSem.ClaimSeven
namespace Go.Proofs.YtnfbbnmdlcmifaaDoor
namespace Rows

/-- THE TIED CARD OF 'trunklinelaw08.EtherMacs'. -/
def etherMacsCard : Claim7 := { stood := { row := etherMacsRow, standIns := [], harness := (true, "95cf7c5be20eb95492e743bdd795c9ce026a10ce46ad91f4c58d1d9de03b31f4"), looks := false }, kinds := [], alts := [], laidByText := true, laidKinds := [.data, .pinned], laidTests := true, laidLooks := .later }
def EtherMacsCardSaid : Prop := Claim7.holds Tryd.pinned (.plain (OpenSpec.ofChange etherMacsSpec)) etherMacsCard

/-- THE SECOND FORM's CARD OF 'trunklinelaw08.EtherMacs'. -/
def etherMacsUptoCard : Claim7 := { stood := { row := etherMacsUptoRow, standIns := [], harness := (true, "95cf7c5be20eb95492e743bdd795c9ce026a10ce46ad91f4c58d1d9de03b31f4"), looks := false }, kinds := [], alts := [], laidByText := true, laidKinds := [.data, .pinned], laidTests := true, laidLooks := .later }
def EtherMacsUptoCardSaid : Prop := Claim7.holds Tryd.pinned (.plain (OpenSpec.upto etherMacsSpec)) etherMacsUptoCard
end Rows
end Go.Proofs.YtnfbbnmdlcmifaaDoor
