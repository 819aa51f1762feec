/- EtherArpBack: the plain law. -/
import Derived.Test.YtnfbbnmdlcmifaaM18
import Derived.Test.YtnfbbnmdlcmifaaPEther3
namespace Go.Proofs.Ytnfbbnmdlcmifaa.Pure
open Go.RowKit Go.Proofs.Ytnfbbnmdlcmifaa.M Go.Proofs.YtnfbbnmdlcmifaaW.PrintWords Go.Proofs.YtnfbbnmdlcmifaaW.PrintLast

theorem EtherArpBack : trunklinelaw08_EtherArpBack.Pure := by
  intro op fm fi tm ti l _ h1 h2 h3 h4 _ hl hb
  have h1' := wf_u64 h1
  have h2' := wf_u32 h2
  have h3' := wf_u64 h3
  have h4' := wf_u32 h4
  refine ⟨30, ?_⟩
  unfold trunklinelaw08_EtherArpBack.f
  rw [putArp_f _ _ _ _ _ h1'.1 h2'.1 h2'.2 h3'.1 h4'.1 h4'.2 (by decide), live_f (Nat.le_refl _)]
  simp only [Option.bind_some]
  by_cases h : (putArpS op fm fi tm ti).2 = 0
  · obtain ⟨e1, e2⟩ := takeArp_put op fm fi tm ti l h1'.1 h2'.1 h2'.2 h3'.1 h4'.1 h4'.2 h
    rw [if_pos h, if_pos (by rw [e1]; decide)]
    simp only [List.nil_append]
    rw [if_pos (by rw [e1]; omega), takeArp_f _ (by rw [List.length_append, e1]; omega) (by
      intro x hx
      rcases List.mem_append.1 hx with hx | hx
      · exact putArp_bytes _ _ _ _ _ x hx
      · exact wf_bytes hb x hx) (by decide), e2]
    simp
  · rw [if_neg h]
    have : (putArpS op fm fi tm ti).1 = [] := by
      unfold putArpS at h ⊢
      split
      · rename_i hc; rw [if_pos hc] at h; exact absurd rfl h
      · rfl
    rw [this]
    simp

end Go.Proofs.Ytnfbbnmdlcmifaa.Pure
