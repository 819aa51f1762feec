/- OctetCuts: the plain law. -/
import Derived.Test.YtndoankacnjhoaaM7
import Derived.Test.YtndoankacnjhoaaPCut
namespace Go.Proofs.Ytndoankacnjhoaa.Pure
open Go.RowKit Go.Proofs.Ytndoankacnjhoaa.M Go.Proofs.YtndoankacnjhoaaW.PrintWords Go.Proofs.YtndoankacnjhoaaW.PrintLast

theorem OctetCuts : trunklinelaw01_OctetCuts.Pure := by
  intro l a n m hl hl2 hb ha hn hm
  obtain ⟨K3, h3⟩ := live_ev
  simp only at h3
  refine ⟨K3 + 66, ?_⟩
  unfold trunklinelaw01_OctetCuts.f
  rw [cut_f l a n (by omega) ha hn (K3 + 65), rcut_f l a n (by omega) ha hn (K3 + 65), pad_f l m (by omega), rpad_f l m (by omega) K3, h3 _ (by omega)]
  simp

end Go.Proofs.Ytndoankacnjhoaa.Pure
