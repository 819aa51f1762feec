/- IpSplits: the plain law. -/
import Derived.Test.YtdligcofjfdhbaaM28
import Derived.Test.YtdligcofjfdhbaaPIpSplitB
import Derived.Test.YtdligcofjfdhbaaPIpLive
namespace Go.Proofs.Ytdligcofjfdhbaa.Pure
open Go.RowKit Go.Proofs.Ytdligcofjfdhbaa.M Go.Proofs.YtdligcofjfdhbaaW.PrintWords Go.Proofs.YtdligcofjfdhbaaW.PrintLast

theorem IpSplits : trunklinelaw10_IpSplits.Pure := by
  intro a0 a1 a2 a3 a4 a5 a6 a7 l mtu h0 h1 h2 h3 h4 h7 _ hl hb hm
  have s7 := wf_i64 h7
  have sm := wf_i64 hm
  have hs := splitS_len a0 a1 a2 a3 a4 a5 a6 a7 l mtu
  refine ⟨l.length + 70000, ?_⟩
  unfold trunklinelaw10_IpSplits.f
  rw [split_f a0 a1 a2 a3 a4 a5 a6 a7 l mtu sm.2 sm.1 s7 (by omega) (by omega), rsplit_f a0 a1 a2 a3 a4 a5 a6 a7 l mtu sm.2 sm.1 s7 (by omega) (by omega), live_f (by omega)]
  simp only [Option.bind_some, if_true]
  rw [same_f _ (by omega) (by omega)]
  simp

end Go.Proofs.Ytdligcofjfdhbaa.Pure
