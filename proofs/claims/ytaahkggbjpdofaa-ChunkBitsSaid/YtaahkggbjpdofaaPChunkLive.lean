/- live is true. -/
import Derived.Test.YtaahkggbjpdofaaM17
import Derived.KernelRfl
namespace Go.Proofs.Ytaahkggbjpdofaa.Pure
open Go.RowKit Go.Proofs.Ytaahkggbjpdofaa.M Go.Proofs.YtaahkggbjpdofaaW.PrintWords Go.Proofs.YtaahkggbjpdofaaW.PrintLast Go.Proofs.YtaahkggbjpdofaaW.PrintMore

set_option maxRecDepth 100000 in
theorem live_at : trunklinelaw12_live.f 60 = some true := by
  unfold trunklinelaw12_live.f
  simp only [ByteArray.toList_eq]
  kernel_rfl

end Go.Proofs.Ytaahkggbjpdofaa.Pure
