/- EtherMacBack: the plain law. -/
import Derived.Test.YtnfbbnmdlcmifaaM23
import Derived.Test.YtnfbbnmdlcmifaaPEtherMac
namespace Go.Proofs.Ytnfbbnmdlcmifaa.Pure
open Go.RowKit Go.Proofs.Ytnfbbnmdlcmifaa.M Go.Proofs.YtnfbbnmdlcmifaaW.PrintWords Go.Proofs.YtnfbbnmdlcmifaaW.PrintLast

theorem EtherMacBack : trunklinelaw08_EtherMacBack.Pure := by
  intro a ha
  have ha' := wf_u64 ha
  refine ⟨30, ?_⟩
  unfold trunklinelaw08_EtherMacBack.f
  rw [macText_f a ha'.1 (by decide), live_f (Nat.le_refl _)]
  simp only [Option.bind_some, if_true]
  by_cases h : a < 281474976710656
  · rw [mac_back a ha'.1 h]
    unfold macTextS
    rw [if_pos h]
    simp
  · unfold macTextS
    rw [if_neg h, if_neg (by decide), if_neg (by omega)]
    have e : (⟨#[]⟩ : ByteArray).toList = [] := by rw [Go.Lib.toList_data]
    simp only [e]
    rfl

end Go.Proofs.Ytnfbbnmdlcmifaa.Pure
