/- OctetNums: the plain law. -/
import Derived.Test.YtndoankacnjhoaaM3
import Derived.Test.YtndoankacnjhoaaPNum
namespace Go.Proofs.Ytndoankacnjhoaa.Pure
open Go.RowKit Go.Proofs.Ytndoankacnjhoaa.M Go.Proofs.YtndoankacnjhoaaW.PrintWords Go.Proofs.YtndoankacnjhoaaW.PrintLast

theorem OctetNums : trunklinelaw01_OctetNums.Pure := by
  intro l a n hl _ hb ha hn
  have hb' := wf_bytes hb
  obtain ⟨K1, h1⟩ := num_ev l a n (by omega) hb' ha hn
  obtain ⟨K2, h2⟩ := rnum_ev l a n (by omega) hb' ha hn
  obtain ⟨K3, h3⟩ := live_ev
  simp only at h1 h2 h3
  refine ⟨max K1 (max K2 K3), ?_⟩
  unfold trunklinelaw01_OctetNums.f
  rw [h1 _ (by omega), h2 _ (by omega), h3 _ (by omega)]
  simp

end Go.Proofs.Ytndoankacnjhoaa.Pure
