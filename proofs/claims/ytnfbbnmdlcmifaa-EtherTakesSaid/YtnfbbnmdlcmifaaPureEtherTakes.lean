/- EtherTakes: the plain law. -/
import Derived.Test.YtnfbbnmdlcmifaaM10
import Derived.Test.YtnfbbnmdlcmifaaPEther2
namespace Go.Proofs.Ytnfbbnmdlcmifaa.Pure
open Go.RowKit Go.Proofs.Ytnfbbnmdlcmifaa.M Go.Proofs.YtnfbbnmdlcmifaaW.PrintWords Go.Proofs.YtnfbbnmdlcmifaaW.PrintLast

theorem EtherTakes : trunklinelaw08_EtherTakes.Pure := by
  intro l _ _ hb
  have hb' := wf_bytes hb
  refine ⟨30, ?_⟩
  unfold trunklinelaw08_EtherTakes.f
  rw [take_f l hb' (by decide), rtake_f l hb' (by decide), live_f (Nat.le_refl _)]
  simp only [Option.bind_some, if_true]
  rw [same_f _ _ _ _ _ _ _ _ rfl rfl rfl rfl]
  simp

end Go.Proofs.Ytnfbbnmdlcmifaa.Pure
