/- EtherPuts: the plain law. -/
import Derived.Test.YtnfbbnmdlcmifaaM6
import Derived.Test.YtnfbbnmdlcmifaaPEther
namespace Go.Proofs.Ytnfbbnmdlcmifaa.Pure
open Go.RowKit Go.Proofs.Ytnfbbnmdlcmifaa.M Go.Proofs.YtnfbbnmdlcmifaaW.PrintWords Go.Proofs.YtnfbbnmdlcmifaaW.PrintLast

theorem EtherPuts : trunklinelaw08_EtherPuts.Pure := by
  intro tt frm kind body mac h1 h2 h3 _ _ _ h4
  have h1' := wf_u64 h1
  have h2' := wf_u64 h2
  have h3' := wf_u16 h3
  refine ⟨30, ?_⟩
  unfold trunklinelaw08_EtherPuts.f ether_For.f
  rw [put_f _ _ _ _ (by omega) (by omega) (by omega) (by omega) (by omega), rput_f _ _ _ _ (by omega) (by omega) (by omega) (by omega) (by omega), live_f (Nat.le_refl _)]
  simp only [Option.bind_some, if_true]
  by_cases h : tt = mac
  · simp [h]
  · simp [h]

end Go.Proofs.Ytnfbbnmdlcmifaa.Pure
