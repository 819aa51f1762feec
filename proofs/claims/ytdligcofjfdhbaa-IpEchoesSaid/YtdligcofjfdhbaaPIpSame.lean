/- A packet is the same as itself. -/
import Derived.Test.YtdligcofjfdhbaaM22
namespace Go.Proofs.Ytdligcofjfdhbaa.Pure
open Go.RowKit Go.Proofs.Ytdligcofjfdhbaa.M Go.Proofs.YtdligcofjfdhbaaW.PrintWords Go.Proofs.YtdligcofjfdhbaaW.PrintLast Go.Proofs.YtdligcofjfdhbaaW.PrintMore

theorem Same_refl (a0 a1 a2 a3 a4 : Int) (a5 a6 : Bool) (a7 : Int) (l : List Int) : trunklineref10_Same.f a0 a1 a2 a3 a4 a5 a6 a7 l a0 a1 a2 a3 a4 a5 a6 a7 l = some true := by
  unfold trunklineref10_Same.f; simp
end Go.Proofs.Ytdligcofjfdhbaa.Pure
