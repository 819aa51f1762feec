/- EtherBack: the plain law. -/
import Derived.Test.YtnfbbnmdlcmifaaM21
import Derived.Test.YtnfbbnmdlcmifaaPEther2
namespace Go.Proofs.Ytnfbbnmdlcmifaa.Pure
open Go.RowKit Go.Proofs.Ytnfbbnmdlcmifaa.M Go.Proofs.YtnfbbnmdlcmifaaW.PrintWords Go.Proofs.YtnfbbnmdlcmifaaW.PrintLast

theorem back_j0 (l : List Int) (hb : ∀ x ∈ l, 0 ≤ x ∧ x ≤ 255) : trunklinelaw08_EtherBack.j0 31 l false = some true := by
  rw [trunklinelaw08_EtherBack.j0, if_neg (by decide), take_f l hb (by decide)]
  simp only [Option.bind_some]
  obtain ⟨a1, a2, a3, a4, _⟩ := take_ok l hb
  rw [put_f _ _ _ _ a1 a2 a3 a4 (by decide), live_f (Nat.le_refl _)]
  simp only [Option.bind_some, if_true]
  by_cases h : (takeS l).2.2.2.2 = 0
  · rw [if_pos h, put_take l hb h]
    simp
  · rw [if_neg h]
theorem EtherBack : trunklinelaw08_EtherBack.Pure := by
  intro tt frm kind body l h1 h2 h3 _ _ hbo _ _ hb
  have h1' := wf_u64 h1
  have h2' := wf_u64 h2
  have h3' := wf_u16 h3
  have hb' := wf_bytes hb
  refine ⟨31, ?_⟩
  unfold trunklinelaw08_EtherBack.f
  rw [put_f _ _ _ _ (by omega) (by omega) (by omega) (by omega) (by decide)]
  simp only [Option.bind_some]
  rw [take_f _ (putS_bytes _ _ _ _ (wf_bytes hbo)) (by decide)]
  simp only [Option.bind_some]
  by_cases h : (putS tt frm kind body).2 = 0
  · rw [if_pos h, take_put _ _ _ _ (by omega) (by omega) (by omega) (by omega) h, if_pos rfl, same_f _ _ _ _ _ _ _ _ rfl rfl rfl rfl]
    simp only [Option.bind_some]
    exact back_j0 l hb'
  · rw [if_neg h]
    exact back_j0 l hb'

end Go.Proofs.Ytnfbbnmdlcmifaa.Pure
