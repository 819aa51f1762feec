/- live is true. -/
import Derived.Test.YtaahkggbjpdofaaM15
import Derived.KernelRfl
import Derived.Test.YtaahkggbjpdofaaPNumA
namespace Go.Proofs.Ytaahkggbjpdofaa.Pure
open Go.RowKit Go.Proofs.Ytaahkggbjpdofaa.M Go.Proofs.YtaahkggbjpdofaaW.PrintWords Go.Proofs.YtaahkggbjpdofaaW.PrintLast Go.Proofs.YtaahkggbjpdofaaW.PrintMore

set_option maxRecDepth 100000 in
theorem live_at : trunklinelaw12_live.f 60 = some true := by
  unfold trunklinelaw12_live.f
  simp only [ByteArray.toList_eq]
  kernel_rfl

theorem live_f {k : Nat} (hk : 60 ≤ k) : trunklinelaw12_live.f k = some true := up_ (fun j => trunklinelaw12_live.mono j) hk live_at
end Go.Proofs.Ytaahkggbjpdofaa.Pure
