/- OctetHexBack: the plain law. -/
import Derived.Test.YtndoankacnjhoaaM5
import Derived.Test.YtndoankacnjhoaaPText
namespace Go.Proofs.Ytndoankacnjhoaa.Pure
open Go.RowKit Go.Proofs.Ytndoankacnjhoaa.M Go.Proofs.YtndoankacnjhoaaW.PrintWords Go.Proofs.YtndoankacnjhoaaW.PrintLast

theorem OctetHexBack : trunklinelaw01_OctetHexBack.Pure := by
  intro l hl hl2 hb
  have hb' := wf_bytes hb
  obtain ⟨K3, h3⟩ := live_ev
  simp only at h3
  refine ⟨K3, ?_⟩
  unfold trunklinelaw01_OctetHexBack.f
  rw [h3 _ (by omega)]
  by_cases h : (l.length : Int) > 2048
  · rw [if_pos h]; rfl
  · obtain ⟨e1, e2⟩ := hex_back l hb' (by omega)
    rw [if_neg h, e1]
    simp only [Option.bind_some]
    rw [e2]
    simp

end Go.Proofs.Ytndoankacnjhoaa.Pure
