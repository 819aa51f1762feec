/- chunk.of: which value a chunk has; chunk.plain at the kinds that live meets. -/
import Derived.Test.YtaahkggbjpdofaaM0
import Derived.WalkSpells
namespace Go.Proofs.Ytaahkggbjpdofaa.M
open Go.RowKit Go.Proofs.YtaahkggbjpdofaaW.PrintWords Go.Proofs.YtaahkggbjpdofaaW.PrintLast Go.Proofs.YtaahkggbjpdofaaW.PrintMore
set_option linter.unusedVariables false
set_option linter.unusedSimpArgs false

theorem as_53_53 (v : Value) (w : World) : (Instr.typeAssert (.iface 53 v) 56 53 true).run Try.prog w = .ok (.tuple #[v, .bool true]) w := by kernel_rfl
theorem as_53_80 (v : Value) (w : World) : (Instr.typeAssert (.iface 53 v) 56 80 true).run Try.prog w = .ok (.tuple #[.agg #[.pointer none], .bool false]) w := by kernel_rfl
theorem as_53_81 (v : Value) (w : World) : (Instr.typeAssert (.iface 53 v) 56 81 true).run Try.prog w = .ok (.tuple #[.agg #[.pointer none], .bool false]) w := by kernel_rfl
theorem as_53_82 (v : Value) (w : World) : (Instr.typeAssert (.iface 53 v) 56 82 true).run Try.prog w = .ok (.tuple #[.agg #[.pointer none], .bool false]) w := by kernel_rfl
theorem as_53_83 (v : Value) (w : World) : (Instr.typeAssert (.iface 53 v) 56 83 true).run Try.prog w = .ok (.tuple #[.agg #[.pointer none], .bool false]) w := by kernel_rfl
theorem as_53_85 (v : Value) (w : World) : (Instr.typeAssert (.iface 53 v) 56 85 true).run Try.prog w = .ok (.tuple #[.agg #[.pointer none], .bool false]) w := by kernel_rfl
theorem as_80_53 (v : Value) (w : World) : (Instr.typeAssert (.iface 80 v) 56 53 true).run Try.prog w = .ok (.tuple #[.agg #[.pointer none], .bool false]) w := by kernel_rfl
theorem as_80_80 (v : Value) (w : World) : (Instr.typeAssert (.iface 80 v) 56 80 true).run Try.prog w = .ok (.tuple #[v, .bool true]) w := by kernel_rfl
theorem as_80_81 (v : Value) (w : World) : (Instr.typeAssert (.iface 80 v) 56 81 true).run Try.prog w = .ok (.tuple #[.agg #[.pointer none], .bool false]) w := by kernel_rfl
theorem as_80_82 (v : Value) (w : World) : (Instr.typeAssert (.iface 80 v) 56 82 true).run Try.prog w = .ok (.tuple #[.agg #[.pointer none], .bool false]) w := by kernel_rfl
theorem as_80_83 (v : Value) (w : World) : (Instr.typeAssert (.iface 80 v) 56 83 true).run Try.prog w = .ok (.tuple #[.agg #[.pointer none], .bool false]) w := by kernel_rfl
theorem as_80_85 (v : Value) (w : World) : (Instr.typeAssert (.iface 80 v) 56 85 true).run Try.prog w = .ok (.tuple #[.agg #[.pointer none], .bool false]) w := by kernel_rfl
theorem as_81_53 (v : Value) (w : World) : (Instr.typeAssert (.iface 81 v) 56 53 true).run Try.prog w = .ok (.tuple #[.agg #[.pointer none], .bool false]) w := by kernel_rfl
theorem as_81_80 (v : Value) (w : World) : (Instr.typeAssert (.iface 81 v) 56 80 true).run Try.prog w = .ok (.tuple #[.agg #[.pointer none], .bool false]) w := by kernel_rfl
theorem as_81_81 (v : Value) (w : World) : (Instr.typeAssert (.iface 81 v) 56 81 true).run Try.prog w = .ok (.tuple #[v, .bool true]) w := by kernel_rfl
theorem as_81_82 (v : Value) (w : World) : (Instr.typeAssert (.iface 81 v) 56 82 true).run Try.prog w = .ok (.tuple #[.agg #[.pointer none], .bool false]) w := by kernel_rfl
theorem as_81_83 (v : Value) (w : World) : (Instr.typeAssert (.iface 81 v) 56 83 true).run Try.prog w = .ok (.tuple #[.agg #[.pointer none], .bool false]) w := by kernel_rfl
theorem as_81_85 (v : Value) (w : World) : (Instr.typeAssert (.iface 81 v) 56 85 true).run Try.prog w = .ok (.tuple #[.agg #[.pointer none], .bool false]) w := by kernel_rfl
theorem as_82_53 (v : Value) (w : World) : (Instr.typeAssert (.iface 82 v) 56 53 true).run Try.prog w = .ok (.tuple #[.agg #[.pointer none], .bool false]) w := by kernel_rfl
theorem as_82_80 (v : Value) (w : World) : (Instr.typeAssert (.iface 82 v) 56 80 true).run Try.prog w = .ok (.tuple #[.agg #[.pointer none], .bool false]) w := by kernel_rfl
theorem as_82_81 (v : Value) (w : World) : (Instr.typeAssert (.iface 82 v) 56 81 true).run Try.prog w = .ok (.tuple #[.agg #[.pointer none], .bool false]) w := by kernel_rfl
theorem as_82_82 (v : Value) (w : World) : (Instr.typeAssert (.iface 82 v) 56 82 true).run Try.prog w = .ok (.tuple #[v, .bool true]) w := by kernel_rfl
theorem as_82_83 (v : Value) (w : World) : (Instr.typeAssert (.iface 82 v) 56 83 true).run Try.prog w = .ok (.tuple #[.agg #[.pointer none], .bool false]) w := by kernel_rfl
theorem as_82_85 (v : Value) (w : World) : (Instr.typeAssert (.iface 82 v) 56 85 true).run Try.prog w = .ok (.tuple #[.agg #[.pointer none], .bool false]) w := by kernel_rfl
theorem as_83_53 (v : Value) (w : World) : (Instr.typeAssert (.iface 83 v) 56 53 true).run Try.prog w = .ok (.tuple #[.agg #[.pointer none], .bool false]) w := by kernel_rfl
theorem as_83_80 (v : Value) (w : World) : (Instr.typeAssert (.iface 83 v) 56 80 true).run Try.prog w = .ok (.tuple #[.agg #[.pointer none], .bool false]) w := by kernel_rfl
theorem as_83_81 (v : Value) (w : World) : (Instr.typeAssert (.iface 83 v) 56 81 true).run Try.prog w = .ok (.tuple #[.agg #[.pointer none], .bool false]) w := by kernel_rfl
theorem as_83_82 (v : Value) (w : World) : (Instr.typeAssert (.iface 83 v) 56 82 true).run Try.prog w = .ok (.tuple #[.agg #[.pointer none], .bool false]) w := by kernel_rfl
theorem as_83_83 (v : Value) (w : World) : (Instr.typeAssert (.iface 83 v) 56 83 true).run Try.prog w = .ok (.tuple #[v, .bool true]) w := by kernel_rfl
theorem as_83_85 (v : Value) (w : World) : (Instr.typeAssert (.iface 83 v) 56 85 true).run Try.prog w = .ok (.tuple #[.agg #[.pointer none], .bool false]) w := by kernel_rfl
theorem as_84_53 (v : Value) (w : World) : (Instr.typeAssert (.iface 84 v) 56 53 true).run Try.prog w = .ok (.tuple #[.agg #[.pointer none], .bool false]) w := by kernel_rfl
theorem as_84_80 (v : Value) (w : World) : (Instr.typeAssert (.iface 84 v) 56 80 true).run Try.prog w = .ok (.tuple #[.agg #[.pointer none], .bool false]) w := by kernel_rfl
theorem as_84_81 (v : Value) (w : World) : (Instr.typeAssert (.iface 84 v) 56 81 true).run Try.prog w = .ok (.tuple #[.agg #[.pointer none], .bool false]) w := by kernel_rfl
theorem as_84_82 (v : Value) (w : World) : (Instr.typeAssert (.iface 84 v) 56 82 true).run Try.prog w = .ok (.tuple #[.agg #[.pointer none], .bool false]) w := by kernel_rfl
theorem as_84_83 (v : Value) (w : World) : (Instr.typeAssert (.iface 84 v) 56 83 true).run Try.prog w = .ok (.tuple #[.agg #[.pointer none], .bool false]) w := by kernel_rfl
theorem as_84_85 (v : Value) (w : World) : (Instr.typeAssert (.iface 84 v) 56 85 true).run Try.prog w = .ok (.tuple #[.agg #[.pointer none], .bool false]) w := by kernel_rfl
theorem as_85_53 (v : Value) (w : World) : (Instr.typeAssert (.iface 85 v) 56 53 true).run Try.prog w = .ok (.tuple #[.agg #[.pointer none], .bool false]) w := by kernel_rfl
theorem as_85_80 (v : Value) (w : World) : (Instr.typeAssert (.iface 85 v) 56 80 true).run Try.prog w = .ok (.tuple #[.agg #[.pointer none], .bool false]) w := by kernel_rfl
theorem as_85_81 (v : Value) (w : World) : (Instr.typeAssert (.iface 85 v) 56 81 true).run Try.prog w = .ok (.tuple #[.agg #[.pointer none], .bool false]) w := by kernel_rfl
theorem as_85_82 (v : Value) (w : World) : (Instr.typeAssert (.iface 85 v) 56 82 true).run Try.prog w = .ok (.tuple #[.agg #[.pointer none], .bool false]) w := by kernel_rfl
theorem as_85_83 (v : Value) (w : World) : (Instr.typeAssert (.iface 85 v) 56 83 true).run Try.prog w = .ok (.tuple #[.agg #[.pointer none], .bool false]) w := by kernel_rfl
theorem as_85_85 (v : Value) (w : World) : (Instr.typeAssert (.iface 85 v) 56 85 true).run Try.prog w = .ok (.tuple #[v, .bool true]) w := by kernel_rfl
attribute [local go_sem] as_53_53 as_53_80 as_53_81 as_53_82 as_53_83 as_53_85 as_80_53 as_80_80 as_80_81 as_80_82 as_80_83 as_80_85 as_81_53 as_81_80 as_81_81 as_81_82 as_81_83 as_81_85 as_82_53 as_82_80 as_82_81 as_82_82 as_82_83 as_82_85 as_83_53 as_83_80 as_83_81 as_83_82 as_83_83 as_83_85 as_84_53 as_84_80 as_84_81 as_84_82 as_84_83 as_84_85 as_85_53 as_85_80 as_85_81 as_85_82 as_85_83 as_85_85
end Go.Proofs.Ytaahkggbjpdofaa.M
