/- EtherArps: the plain law. -/
import Derived.Test.YtnfbbnmdlcmifaaM17
import Derived.Test.YtnfbbnmdlcmifaaPEther3
namespace Go.Proofs.Ytnfbbnmdlcmifaa.Pure
open Go.RowKit Go.Proofs.Ytnfbbnmdlcmifaa.M Go.Proofs.YtnfbbnmdlcmifaaW.PrintWords Go.Proofs.YtnfbbnmdlcmifaaW.PrintLast

theorem EtherArps : trunklinelaw08_EtherArps.Pure := by
  intro op fm fi tm ti l _ h1 h2 h3 h4 _ hl hb
  have h1' := wf_u64 h1
  have h2' := wf_u32 h2
  have h3' := wf_u64 h3
  have h4' := wf_u32 h4
  refine ⟨30, ?_⟩
  unfold trunklinelaw08_EtherArps.f
  rw [putArp_f _ _ _ _ _ h1'.1 h2'.1 h2'.2 h3'.1 h4'.1 h4'.2 (by decide), rputArp_f _ _ _ _ _ h1'.1 h2'.1 h2'.2 h3'.1 h4'.1 h4'.2 (by decide), takeArp_f l (by omega) (wf_bytes hb) (by decide), rtakeArp_f l (by omega) (wf_bytes hb) (by decide), live_f (Nat.le_refl _)]
  simp

end Go.Proofs.Ytnfbbnmdlcmifaa.Pure
