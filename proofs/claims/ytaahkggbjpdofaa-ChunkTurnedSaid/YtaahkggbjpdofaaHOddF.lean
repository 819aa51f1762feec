/- The document's odd, told: has a chunk a field that its kind has not? -/
import Derived.Test.YtaahkggbjpdofaaM20
namespace Go.Proofs.Ytaahkggbjpdofaa.M
open Go.RowKit Go.Proofs.YtaahkggbjpdofaaW.PrintWords Go.Proofs.YtaahkggbjpdofaaW.PrintLast Go.Proofs.YtaahkggbjpdofaaW.PrintMore
set_option linter.unusedVariables false
/-- Has a chunk a field that its kind has not? -/
def oddB (t a1 a2 a3 a4 a5 a6 a7 a8 a9 : Int) (l10 : List S101) (l11 : List Int) (l12 : List S48) (l13 : List Int) : Prop :=
  (t ≠ 0 ∧ (a3 ≠ 0 ∨ a4 ≠ 0 ∨ a5 ≠ 0)) ∨ (t ≠ 0 ∧ t ≠ 1 ∧ t ≠ 2 ∧ t ≠ 3 ∧ t ≠ 7 ∧ a2 ≠ 0) ∨ (t ≠ 1 ∧ t ≠ 2 ∧ (a6 ≠ 0 ∨ a8 ≠ 0 ∨ a9 ≠ 0)) ∨ (t ≠ 1 ∧ t ≠ 2 ∧ t ≠ 3 ∧ a7 ≠ 0) ∨ (t ≠ 3 ∧ (0 < l10.length ∨ 0 < l11.length)) ∨ (¬(t = 1 ∨ t = 2 ∨ t = 4 ∨ t = 5 ∨ t = 6 ∨ t = 9) ∧ 0 < l12.length) ∨ (t ≠ 0 ∧ ¬(t = 10 ∨ t = 12 ∨ t = 13 ∨ 14 < t) ∧ 0 < l13.length)
instance (t a1 a2 a3 a4 a5 a6 a7 a8 a9 : Int) (l10 : List S101) (l11 : List Int) (l12 : List S48) (l13 : List Int) : Decidable (oddB t a1 a2 a3 a4 a5 a6 a7 a8 a9 l10 l11 l12 l13) := by unfold oddB; infer_instance
def trunklineref12_odd.f (t a1 a2 a3 a4 a5 a6 a7 a8 a9 : Int) (l10 : List S101) (l11 : List Int) (l12 : List S48) (l13 : List Int) : Option Bool := some (decide (oddB t a1 a2 a3 a4 a5 a6 a7 a8 a9 l10 l11 l12 l13))
end Go.Proofs.Ytaahkggbjpdofaa.M
