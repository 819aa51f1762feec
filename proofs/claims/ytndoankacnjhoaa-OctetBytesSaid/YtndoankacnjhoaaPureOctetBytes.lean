/- OctetBytes: the plain law. -/
import Derived.Test.YtndoankacnjhoaaM3
import Derived.Test.YtndoankacnjhoaaPNum
namespace Go.Proofs.Ytndoankacnjhoaa.Pure
open Go.RowKit Go.Proofs.Ytndoankacnjhoaa.M Go.Proofs.YtndoankacnjhoaaW.PrintWords Go.Proofs.YtndoankacnjhoaaW.PrintLast

theorem OctetBytes : trunklinelaw01_OctetBytes.Pure := by
  intro v n hv hn
  have hv' := wf_u64 hv
  obtain ⟨K1, h1⟩ := bytes_ev v n (by omega) (by omega) hn
  obtain ⟨K2, h2⟩ := rbytes_ev v n (by omega) (by omega) hn
  obtain ⟨K3, h3⟩ := live_ev
  simp only at h1 h2 h3
  refine ⟨max K1 (max K2 K3), ?_⟩
  unfold trunklinelaw01_OctetBytes.f
  rw [h1 _ (by omega), h2 _ (by omega), h3 _ (by omega)]
  simp

end Go.Proofs.Ytndoankacnjhoaa.Pure
