/- OctetAddrBack: the plain law. -/
import Derived.Test.YtndoankacnjhoaaM5
import Derived.Test.YtndoankacnjhoaaPAddr
namespace Go.Proofs.Ytndoankacnjhoaa.Pure
open Go.RowKit Go.Proofs.Ytndoankacnjhoaa.M Go.Proofs.YtndoankacnjhoaaW.PrintWords Go.Proofs.YtndoankacnjhoaaW.PrintLast

theorem OctetAddrBack : trunklinelaw01_OctetAddrBack.Pure := by
  intro a s ha hs
  have ha' := wf_u32 ha
  obtain ⟨K1, h1⟩ := text_f a ha'.1 ha'.2
  obtain ⟨K3, h3⟩ := live_ev
  simp only at h1 h3
  cases hA : octet_Addr.f s with
  | none => unfold octet_Addr.f at hA; rw [if_pos (by omega)] at hA; cases hA
  | some r =>
    obtain ⟨y, pl, f⟩ := r
    by_cases h : f = 0
    · subst h
      obtain ⟨y0, y1, e⟩ := addr_back s (by omega) y pl hA
      obtain ⟨K2, h2⟩ := text_f y y0 y1
      simp only at h2
      refine ⟨max K1 (max K2 K3) + 1, ?_⟩
      unfold trunklinelaw01_OctetAddrBack.f
      rw [h1 _ (by omega)]
      simp only [Option.bind_some]
      rw [addr_f a ha'.1 ha'.2]
      simp only [Option.bind_some]
      rw [if_pos trivial, if_pos trivial, trunklinelaw01_OctetAddrBack.j0, if_neg (by decide), hA, h3 _ (by omega)]
      simp only [Option.bind_some]
      rw [if_pos trivial, if_pos trivial, h2 _ (by omega), e]
      simp
    · refine ⟨max K1 K3 + 1, ?_⟩
      unfold trunklinelaw01_OctetAddrBack.f
      rw [h1 _ (by omega)]
      simp only [Option.bind_some]
      rw [addr_f a ha'.1 ha'.2]
      simp only [Option.bind_some]
      rw [if_pos trivial, if_pos trivial, trunklinelaw01_OctetAddrBack.j0, if_neg (by decide), hA, h3 _ (by omega)]
      simp only [Option.bind_some]
      rw [if_pos trivial, if_neg h]

end Go.Proofs.Ytndoankacnjhoaa.Pure
