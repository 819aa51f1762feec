/- Bytes as digits, and digits as bytes: octet's and the document's own tell the same. -/
import Derived.Test.YtndoankacnjhoaaDoorPUnhexR
import Derived.Test.YtndoankacnjhoaaDoorPHexR
import Derived.Test.YtndoankacnjhoaaDoorM11
namespace Go.Proofs.YtndoankacnjhoaaDoor.Pure
open Go.RowKit Go.Proofs.YtndoankacnjhoaaDoor.M Go.Proofs.YtndoankacnjhoaaDoorW.PrintWords Go.Proofs.YtndoankacnjhoaaDoorW.PrintLast

theorem live_true : trunklinelaw01_live.f 12 = some true := by kernel_rfl
theorem OctetHexes : trunklinelaw01_OctetHexes.Pure := by
  intro l0 a1 hlen hsz hl hs
  have hr := wf_bytes hl
  refine ⟨9000 + l0.length, ?_⟩
  have hU := unhex_same a1 (9000 + l0.length) (by omega)
  have hH : octet_Hex.f l0 = some (strOfNums (hexL l0)) := by rw [octet_Hex.f, if_pos ⟨by omega, hr⟩]
  have hR := hex_same l0 (by omega) hr (9000 + l0.length) (by omega)
  have hV : trunklinelaw01_live.f (9000 + l0.length) = some true := up_ trunklinelaw01_live.mono (show 12 ≤ 9000 + l0.length by omega) live_true
  have ⟨y, hy⟩ : ∃ y, octet_Unhex.f a1 = some y := by
    unfold octet_Unhex.f; split <;> exact ⟨_, rfl⟩
  rw [hy] at hU
  rw [trunklinelaw01_OctetHexes.f, hy, hU, hV, hH, hR]
  simp
end Go.Proofs.YtndoankacnjhoaaDoor.Pure
