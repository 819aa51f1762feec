/- IpIcmps: the plain law. -/
import Derived.Test.YtdligcofjfdhbaaM35
import Derived.Test.YtdligcofjfdhbaaPIpIcmpT
import Derived.Test.YtdligcofjfdhbaaPIpLive
namespace Go.Proofs.Ytdligcofjfdhbaa.Pure
open Go.RowKit Go.Proofs.Ytdligcofjfdhbaa.M Go.Proofs.YtdligcofjfdhbaaW.PrintWords Go.Proofs.YtdligcofjfdhbaaW.PrintLast

theorem IpIcmps : trunklinelaw10_IpIcmps.Pure := by
  intro t c rest body L ht hc hr hl hl2 hb hm hm2 hL
  have ht' := wf_u8 ht
  have hc' := wf_u8 hc
  have hr' := wf_u32 hr
  have hb' := wf_bytes hb
  have hL' := wf_bytes hL
  obtain ⟨k, hk⟩ : ∃ k, k = body.length + L.length + 200 := ⟨_, rfl⟩
  obtain ⟨r, h1, h2⟩ := takeicmp_both L hL' (by omega) (k := k) (by omega)
  refine ⟨k, ?_⟩
  unfold trunklinelaw10_IpIcmps.f
  rw [puticmp_f t c rest body ht' hc' hr' hb' (by omega) (by omega), rputicmp_f t c rest body ht' hc' hr' hb' (by omega) (by omega), Option.bind_some, Option.bind_some, if_pos rfl, takeicmp_put t c rest body ht' hc' hr' hb' (by omega) (by omega), Option.bind_some, h1, Option.bind_some, h2, Option.bind_some, live_f (by omega), Option.bind_some, if_pos rfl]
  simp

end Go.Proofs.Ytdligcofjfdhbaa.Pure
