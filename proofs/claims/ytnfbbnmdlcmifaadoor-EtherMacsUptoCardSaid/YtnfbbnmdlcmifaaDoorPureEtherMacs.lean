/- A card's address as a text, and a text as one: ether's and the document's own tell the same. -/
import Derived.Test.YtnfbbnmdlcmifaaDoorPMacD
import Derived.Test.YtnfbbnmdlcmifaaDoorM13
namespace Go.Proofs.YtnfbbnmdlcmifaaDoor.Pure
open Go.RowKit Go.Proofs.YtnfbbnmdlcmifaaDoor.M Go.Proofs.YtnfbbnmdlcmifaaDoorW.PrintWords Go.Proofs.YtnfbbnmdlcmifaaDoorW.PrintLast

theorem EtherMacs : ∀ (a0 : Int) (a1 : ByteArray), (Lit.int .u64 a0).wf = true → a1.size ≤ 140737488351232 → a1.size ≤ 1048576 → ∃ k, trunklinelaw08_EtherMacs.f k a0 a1 = some true := by
  intro a0 a1 hw _ hs
  have ⟨w0, w1⟩ := wf_u64 hw
  refine ⟨30 + 2 * a1.size, ?_⟩
  have hT := macText_f a0 w0 (k := 30 + 2 * a1.size) (by omega)
  have hR := rmacText_f a0 w0 (k := 30 + 2 * a1.size) (by omega)
  have hM : ether_Mac.f a1 = some (macL (letters a1) 0 0) := rfl
  have hQ := rmac_f a1 hs (30 + 2 * a1.size) (by omega)
  have hV := live_f (k := 30 + 2 * a1.size) (by omega)
  rw [trunklinelaw08_EtherMacs.f, hT, hR, hM, hQ, hV]
  simp
end Go.Proofs.YtnfbbnmdlcmifaaDoor.Pure
