/- OctetBack: the plain law. -/
import Derived.Test.YtndoankacnjhoaaM4
import Derived.Test.YtndoankacnjhoaaPNum
namespace Go.Proofs.Ytndoankacnjhoaa.Pure
open Go.RowKit Go.Proofs.Ytndoankacnjhoaa.M Go.Proofs.YtndoankacnjhoaaW.PrintWords Go.Proofs.YtndoankacnjhoaaW.PrintLast

theorem OctetBack : trunklinelaw01_OctetBack.Pure := by
  intro v n l hv hn hl hl2 hb
  have hv' := wf_u64 hv
  have hb' := wf_bytes hb
  obtain ⟨K1, h1⟩ := bytes_ev v n (by omega) (by omega) hn
  obtain ⟨K3, h3⟩ := live_ev
  have hs := bytesS_len v n
  by_cases h : (bytesS v n).2 = 0
  · obtain ⟨n1, n8, hq, hB⟩ := bytesS_ok h
    have hlt := lt_of_div (by omega) hq
    have hnum : numS (l ++ (bytesS v n).1) (l.length : Int) n = (v, 0) := by
      unfold numS
      rw [hB, if_pos ⟨n1, n8⟩, if_pos (by simp [bytesL_length]; omega), if_pos (by simp [bytesL_length]; omega), Int.toNat_natCast, List.drop_left, List.take_of_length_le (by rw [bytesL_length]; omega), numL_bytesL _ v (by omega) hlt]
    obtain ⟨K2, h2⟩ := num_ev (l ++ (bytesS v n).1) (l.length : Int) n (by simp; omega) (by
      intro x hx
      rcases List.mem_append.1 hx with hx | hx
      · exact hb' x hx
      · rw [hB] at hx; exact bytesL_range _ _ x hx) (by simp [Lit.wf, IntKind.min, IntKind.max, IntKind.signed, IntKind.bits]; omega) hn
    rw [hnum] at h2
    simp only at h1 h2 h3
    refine ⟨max K1 (max K2 K3), ?_⟩
    unfold trunklinelaw01_OctetBack.f
    rw [h1 _ (by omega)]
    simp only [Option.bind_some, List.nil_append, List.length_nil]
    rw [if_pos h, if_pos (by omega), if_pos (by omega), h2 _ (by omega), h3 _ (by omega)]
    simp only [Option.bind_some]
    rw [h1 _ (by omega)]
    simp [h]
  · simp only at h1 h3
    refine ⟨max K1 K3, ?_⟩
    unfold trunklinelaw01_OctetBack.f
    rw [h1 _ (by omega), h3 _ (by omega)]
    simp only [Option.bind_some]
    rw [if_neg h, if_pos trivial, hs.2 h]
    rfl

end Go.Proofs.Ytndoankacnjhoaa.Pure
