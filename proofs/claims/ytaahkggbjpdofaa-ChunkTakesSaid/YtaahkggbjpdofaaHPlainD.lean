import Derived.Test.YtaahkggbjpdofaaHOf
import Derived.WalkSpells
import Derived.Test.YtaahkggbjpdofaaHBytes
import Derived.LoopN
import Derived.Deep.RegionWith
section
/- chunk.plain at a piece of data. -/
namespace Go.Proofs.Ytaahkggbjpdofaa.M
open Go.RowKit Go.Proofs.YtaahkggbjpdofaaW.PrintWords Go.Proofs.YtaahkggbjpdofaaW.PrintLast Go.Proofs.YtaahkggbjpdofaaW.PrintMore
set_option linter.unusedVariables false
set_option linter.unusedSimpArgs false
attribute [local go_sem] as_53_53 as_53_80 as_53_81 as_53_82 as_53_83 as_53_85 as_80_53 as_80_80 as_80_81 as_80_82 as_80_83 as_80_85 as_81_53 as_81_80 as_81_81 as_81_82 as_81_83 as_81_85 as_82_53 as_82_80 as_82_81 as_82_82 as_82_83 as_82_85 as_83_53 as_83_80 as_83_81 as_83_82 as_83_83 as_83_85 as_84_53 as_84_80 as_84_81 as_84_82 as_84_83 as_84_85 as_85_53 as_85_80 as_85_81 as_85_82 as_85_83 as_85_85
end Go.Proofs.Ytaahkggbjpdofaa.M
end
section
/- chunk.Check at the kinds that live meets. -/
namespace Go.Proofs.Ytaahkggbjpdofaa.M
open Go.RowKit Go.Proofs.YtaahkggbjpdofaaW.PrintWords Go.Proofs.YtaahkggbjpdofaaW.PrintLast Go.Proofs.YtaahkggbjpdofaaW.PrintMore
set_option linter.unusedVariables false
set_option linter.unusedSimpArgs false
attribute [local go_sem] as_53_53 as_53_80 as_53_81 as_53_82 as_53_83 as_53_85 as_80_53 as_80_80 as_80_81 as_80_82 as_80_83 as_80_85 as_81_53 as_81_80 as_81_81 as_81_82 as_81_83 as_81_85 as_82_53 as_82_80 as_82_81 as_82_82 as_82_83 as_82_85 as_83_53 as_83_80 as_83_81 as_83_82 as_83_83 as_83_85 as_84_53 as_84_80 as_84_81 as_84_82 as_84_83 as_84_85 as_85_53 as_85_80 as_85_81 as_85_82 as_85_83 as_85_85
attribute [local go_sem] ml_53 ml_80 ml_81 ml_82 ml_83 ml_84 ml_85
theorem make4 (w : World) : (Instr.makeSlice 27 (.int .i64 4) (.int .i64 4)).run Try.prog w = .ok (.slice (some ⟨w.heap.size, 0, none⟩) 4 4) (w.alloc (.cells #[.int .u8 0, .int .u8 0, .int .u8 0, .int .u8 0] 5 (0, 0))) := by
  first | kernel_rfl | (obtain ⟨i, hi, hz0, hz1, hz2⟩ := info_parts st_info; have h := run_makeSlice 27 5 i (.int .u8 0) Try.underlying27 hi hz0; simp_all; done)
attribute [local go_sem] make4
theorem na_53 (v : Value) (w : World) : (nilAhead 229 53 (.agg #[v]) "trunkline/chunk.lay").run Try.prog w = .ok (some false) w := by kernel_rfl
theorem na_80 (v : Value) (w : World) : (nilAhead 229 80 (.agg #[v]) "trunkline/chunk.lay").run Try.prog w = .ok (some false) w := by kernel_rfl
theorem na_81 (v : Value) (w : World) : (nilAhead 229 81 (.agg #[v]) "trunkline/chunk.lay").run Try.prog w = .ok (some false) w := by kernel_rfl
theorem na_82 (v : Value) (w : World) : (nilAhead 229 82 (.agg #[v]) "trunkline/chunk.lay").run Try.prog w = .ok (some false) w := by kernel_rfl
theorem na_83 (v : Value) (w : World) : (nilAhead 229 83 (.agg #[v]) "trunkline/chunk.lay").run Try.prog w = .ok (some false) w := by kernel_rfl
theorem na_84 (v : Value) (w : World) : (nilAhead 229 84 (.agg #[v]) "trunkline/chunk.lay").run Try.prog w = .ok (some false) w := by kernel_rfl
theorem na_85 (v : Value) (w : World) : (nilAhead 229 85 (.agg #[v]) "trunkline/chunk.lay").run Try.prog w = .ok (some false) w := by kernel_rfl
attribute [local go_sem] na_53 na_80 na_81 na_82 na_83 na_84 na_85
end Go.Proofs.Ytaahkggbjpdofaa.M
end
