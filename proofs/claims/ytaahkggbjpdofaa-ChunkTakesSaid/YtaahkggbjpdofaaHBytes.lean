/- chunk.bytes at the kinds that live meets. -/
import Derived.Test.YtaahkggbjpdofaaHOf
import Derived.Test.YtaahkggbjpdofaaHSet
import Derived.Test.YtaahkggbjpdofaaHStamp
import Derived.WalkSpells
import Derived.Deep.RegionWith
namespace Go.Proofs.Ytaahkggbjpdofaa.M
open Go.RowKit Go.Proofs.YtaahkggbjpdofaaW.PrintWords Go.Proofs.YtaahkggbjpdofaaW.PrintLast Go.Proofs.YtaahkggbjpdofaaW.PrintMore
set_option linter.unusedVariables false
set_option linter.unusedSimpArgs false
attribute [local go_sem] as_53_53 as_53_80 as_53_81 as_53_82 as_53_83 as_53_85 as_80_53 as_80_80 as_80_81 as_80_82 as_80_83 as_80_85 as_81_53 as_81_80 as_81_81 as_81_82 as_81_83 as_81_85 as_82_53 as_82_80 as_82_81 as_82_82 as_82_83 as_82_85 as_83_53 as_83_80 as_83_81 as_83_82 as_83_83 as_83_85 as_84_53 as_84_80 as_84_81 as_84_82 as_84_83 as_84_85 as_85_53 as_85_80 as_85_81 as_85_82 as_85_83 as_85_85

theorem ml_53 (v : Value) (w : World) : (method 229 53 (.agg #[v]) "trunkline/chunk.lay").run Try.prog w = .ok (89, .agg #[v]) w := by kernel_rfl
theorem ml_80 (v : Value) (w : World) : (method 229 80 (.agg #[v]) "trunkline/chunk.lay").run Try.prog w = .ok (93, .agg #[v]) w := by kernel_rfl
theorem ml_81 (v : Value) (w : World) : (method 229 81 (.agg #[v]) "trunkline/chunk.lay").run Try.prog w = .ok (97, .agg #[v]) w := by kernel_rfl
theorem ml_82 (v : Value) (w : World) : (method 229 82 (.agg #[v]) "trunkline/chunk.lay").run Try.prog w = .ok (99, .agg #[v]) w := by kernel_rfl
theorem ml_83 (v : Value) (w : World) : (method 229 83 (.agg #[v]) "trunkline/chunk.lay").run Try.prog w = .ok (101, .agg #[v]) w := by kernel_rfl
theorem ml_84 (v : Value) (w : World) : (method 229 84 (.agg #[v]) "trunkline/chunk.lay").run Try.prog w = .ok (103, .agg #[v]) w := by kernel_rfl
theorem ml_85 (v : Value) (w : World) : (method 229 85 (.agg #[v]) "trunkline/chunk.lay").run Try.prog w = .ok (105, .agg #[v]) w := by kernel_rfl
attribute [local go_sem] ml_53 ml_80 ml_81 ml_82 ml_83 ml_84 ml_85
end Go.Proofs.Ytaahkggbjpdofaa.M
