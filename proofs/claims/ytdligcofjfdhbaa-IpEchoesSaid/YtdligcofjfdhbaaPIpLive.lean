/- live is true. -/
import Derived.Test.YtdligcofjfdhbaaPNumA
import Derived.Test.YtdligcofjfdhbaaM17
import Derived.KernelRfl
namespace Go.Proofs.Ytdligcofjfdhbaa.Pure
open Go.RowKit Go.Proofs.Ytdligcofjfdhbaa.M Go.Proofs.YtdligcofjfdhbaaW.PrintWords Go.Proofs.YtdligcofjfdhbaaW.PrintLast Go.Proofs.YtdligcofjfdhbaaW.PrintMore

theorem live_at : trunklinelaw10_live.f 60 = some true := by kernel_rfl
theorem live_f {k : Nat} (hk : 60 ≤ k) : trunklinelaw10_live.f k = some true := up_ (fun j => trunklinelaw10_live.mono j) hk live_at

end Go.Proofs.Ytdligcofjfdhbaa.Pure
