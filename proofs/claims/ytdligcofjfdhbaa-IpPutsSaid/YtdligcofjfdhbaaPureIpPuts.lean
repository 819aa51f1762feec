/- IpPuts: the plain law. -/
import Derived.Test.YtdligcofjfdhbaaM13
import Derived.Test.YtdligcofjfdhbaaPIpPut
import Derived.Test.YtdligcofjfdhbaaPIpLive
namespace Go.Proofs.Ytdligcofjfdhbaa.Pure
open Go.RowKit Go.Proofs.Ytdligcofjfdhbaa.M Go.Proofs.YtdligcofjfdhbaaW.PrintWords Go.Proofs.YtdligcofjfdhbaaW.PrintLast

theorem IpPuts : trunklinelaw10_IpPuts.Pure := by
  intro a0 a1 a2 a3 a4 a5 a6 a7 l h0 h1 h2 h3 h4 h7 _ hl hb
  have s0 := wf_u32 h0
  have s1 := wf_u32 h1
  have s2 := wf_u8 h2
  have s3 := wf_u8 h3
  have s4 := wf_u16 h4
  have s7 := wf_i64 h7
  refine ⟨80, ?_⟩
  unfold trunklinelaw10_IpPuts.f
  rw [put_f a0 a1 a2 a3 a4 a5 a6 a7 l s0 s1 s2 s3 s4 s7 (by omega) (by omega), rput_f a0 a1 a2 a3 a4 a5 a6 a7 l s0 s1 s2 s3 s4 s7 (by omega) (by omega), live_f (by omega)]
  simp

end Go.Proofs.Ytdligcofjfdhbaa.Pure
