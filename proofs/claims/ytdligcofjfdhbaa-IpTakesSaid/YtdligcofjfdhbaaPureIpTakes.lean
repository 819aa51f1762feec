/- IpTakes: the plain law. -/
import Derived.Test.YtdligcofjfdhbaaM23
import Derived.Test.YtdligcofjfdhbaaPIpTakes
import Derived.Test.YtdligcofjfdhbaaPIpLive
namespace Go.Proofs.Ytdligcofjfdhbaa.Pure
open Go.RowKit Go.Proofs.Ytdligcofjfdhbaa.M Go.Proofs.YtdligcofjfdhbaaW.PrintWords Go.Proofs.YtdligcofjfdhbaaW.PrintLast

theorem IpTakes : trunklinelaw10_IpTakes.Pure := by
  intro L hl hl2 hb
  obtain ⟨r, h1, h2⟩ := take_both L (by omega) (wf_bytes hb) (L.length + 60) (by omega)
  obtain ⟨k, hk⟩ : ∃ k, k = L.length + 60 + 6 := ⟨_, rfl⟩
  rw [← hk] at h1 h2
  refine ⟨k, ?_⟩
  unfold trunklinelaw10_IpTakes.f
  rw [h1, h2, Option.bind_some, Option.bind_some, live_f (by omega), Option.bind_some, if_pos rfl]
  unfold trunklineref10_Same.f
  simp

end Go.Proofs.Ytdligcofjfdhbaa.Pure
