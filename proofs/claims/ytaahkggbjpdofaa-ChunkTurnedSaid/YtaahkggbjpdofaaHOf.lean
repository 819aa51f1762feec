/- chunk.of: which value a chunk has; chunk.plain at the kinds that live meets. -/
import Derived.Test.YtaahkggbjpdofaaM0
import Derived.WalkSpells
namespace Go.Proofs.Ytaahkggbjpdofaa.M
open Go.RowKit Go.Proofs.YtaahkggbjpdofaaW.PrintWords Go.Proofs.YtaahkggbjpdofaaW.PrintLast Go.Proofs.YtaahkggbjpdofaaW.PrintMore
set_option linter.unusedVariables false
set_option linter.unusedSimpArgs false

theorem as_53_53 (v : Value) (w : World) : (Instr.typeAssert (.iface 53 v) 56 53 true).run Try.prog w = .ok (.tuple #[v, .bool true]) w := by kernel_rfl
theorem as_53_80 (v : Value) (w : World) : (Instr.typeAssert (.iface 53 v) 56 80 true).run Try.prog w = .ok (.tuple #[.agg #[.pointer none], .bool false]) w := by kernel_rfl
theorem as_53_81 (v : Value) (w : World) : (Instr.typeAssert (.iface 53 v) 56 81 true).run Try.prog w = .ok (.tuple #[.agg #[.pointer none], .bool false]) w := by kernel_rfl
theorem as_53_82 (v : Value) (w : World) : (Instr.typeAssert (.iface 53 v) 56 82 true).run Try.prog w = .ok (.tuple #[.agg #[.pointer none], .bool false]) w := by kernel_rfl
theorem as_53_83 (v : Value) (w : World) : (Instr.typeAssert (.iface 53 v) 56 83 true).run Try.prog w = .ok (.tuple #[.agg #[.pointer none], .bool false]) w := by kernel_rfl
theorem as_53_85 (v : Value) (w : World) : (Instr.typeAssert (.iface 53 v) 56 85 true).run Try.prog w = .ok (.tuple #[.agg #[.pointer none], .bool false]) w := by kernel_rfl
theorem as_80_53 (v : Value) (w : World) : (Instr.typeAssert (.iface 80 v) 56 53 true).run Try.prog w = .ok (.tuple #[.agg #[.pointer none], .bool false]) w := by kernel_rfl
theorem as_80_80 (v : Value) (w : World) : (Instr.typeAssert (.iface 80 v) 56 80 true).run Try.prog w = .ok (.tuple #[v, .bool true]) w := by kernel_rfl
theorem as_80_81 (v : Value) (w : World) : (Instr.typeAssert (.iface 80 v) 56 81 true).run Try.prog w = .ok (.tuple #[.agg #[.pointer none], .bool false]) w := by kernel_rfl
theorem as_80_82 (v : Value) (w : World) : (Instr.typeAssert (.iface 80 v) 56 82 true).run Try.prog w = .ok (.tuple #[.agg #[.pointer none], .bool false]) w := by kernel_rfl
theorem as_80_83 (v : Value) (w : World) : (Instr.typeAssert (.iface 80 v) 56 83 true).run Try.prog w = .ok (.tuple #[.agg #[.pointer none], .bool false]) w := by kernel_rfl
theorem as_80_85 (v : Value) (w : World) : (Instr.typeAssert (.iface 80 v) 56 85 true).run Try.prog w = .ok (.tuple #[.agg #[.pointer none], .bool false]) w := by kernel_rfl
theorem as_81_53 (v : Value) (w : World) : (Instr.typeAssert (.iface 81 v) 56 53 true).run Try.prog w = .ok (.tuple #[.agg #[.pointer none], .bool false]) w := by kernel_rfl
theorem as_81_80 (v : Value) (w : World) : (Instr.typeAssert (.iface 81 v) 56 80 true).run Try.prog w = .ok (.tuple #[.agg #[.pointer none], .bool false]) w := by kernel_rfl
theorem as_81_81 (v : Value) (w : World) : (Instr.typeAssert (.iface 81 v) 56 81 true).run Try.prog w = .ok (.tuple #[v, .bool true]) w := by kernel_rfl
theorem as_81_82 (v : Value) (w : World) : (Instr.typeAssert (.iface 81 v) 56 82 true).run Try.prog w = .ok (.tuple #[.agg #[.pointer none], .bool false]) w := by kernel_rfl
theorem as_81_83 (v : Value) (w : World) : (Instr.typeAssert (.iface 81 v) 56 83 true).run Try.prog w = .ok (.tuple #[.agg #[.pointer none], .bool false]) w := by kernel_rfl
theorem as_81_85 (v : Value) (w : World) : (Instr.typeAssert (.iface 81 v) 56 85 true).run Try.prog w = .ok (.tuple #[.agg #[.pointer none], .bool false]) w := by kernel_rfl
theorem as_82_53 (v : Value) (w : World) : (Instr.typeAssert (.iface 82 v) 56 53 true).run Try.prog w = .ok (.tuple #[.agg #[.pointer none], .bool false]) w := by kernel_rfl
theorem as_82_80 (v : Value) (w : World) : (Instr.typeAssert (.iface 82 v) 56 80 true).run Try.prog w = .ok (.tuple #[.agg #[.pointer none], .bool false]) w := by kernel_rfl
theorem as_82_81 (v : Value) (w : World) : (Instr.typeAssert (.iface 82 v) 56 81 true).run Try.prog w = .ok (.tuple #[.agg #[.pointer none], .bool false]) w := by kernel_rfl
theorem as_82_82 (v : Value) (w : World) : (Instr.typeAssert (.iface 82 v) 56 82 true).run Try.prog w = .ok (.tuple #[v, .bool true]) w := by kernel_rfl
theorem as_82_83 (v : Value) (w : World) : (Instr.typeAssert (.iface 82 v) 56 83 true).run Try.prog w = .ok (.tuple #[.agg #[.pointer none], .bool false]) w := by kernel_rfl
theorem as_82_85 (v : Value) (w : World) : (Instr.typeAssert (.iface 82 v) 56 85 true).run Try.prog w = .ok (.tuple #[.agg #[.pointer none], .bool false]) w := by kernel_rfl
theorem as_83_53 (v : Value) (w : World) : (Instr.typeAssert (.iface 83 v) 56 53 true).run Try.prog w = .ok (.tuple #[.agg #[.pointer none], .bool false]) w := by kernel_rfl
theorem as_83_80 (v : Value) (w : World) : (Instr.typeAssert (.iface 83 v) 56 80 true).run Try.prog w = .ok (.tuple #[.agg #[.pointer none], .bool false]) w := by kernel_rfl
theorem as_83_81 (v : Value) (w : World) : (Instr.typeAssert (.iface 83 v) 56 81 true).run Try.prog w = .ok (.tuple #[.agg #[.pointer none], .bool false]) w := by kernel_rfl
theorem as_83_82 (v : Value) (w : World) : (Instr.typeAssert (.iface 83 v) 56 82 true).run Try.prog w = .ok (.tuple #[.agg #[.pointer none], .bool false]) w := by kernel_rfl
theorem as_83_83 (v : Value) (w : World) : (Instr.typeAssert (.iface 83 v) 56 83 true).run Try.prog w = .ok (.tuple #[v, .bool true]) w := by kernel_rfl
theorem as_83_85 (v : Value) (w : World) : (Instr.typeAssert (.iface 83 v) 56 85 true).run Try.prog w = .ok (.tuple #[.agg #[.pointer none], .bool false]) w := by kernel_rfl
theorem as_84_53 (v : Value) (w : World) : (Instr.typeAssert (.iface 84 v) 56 53 true).run Try.prog w = .ok (.tuple #[.agg #[.pointer none], .bool false]) w := by kernel_rfl
theorem as_84_80 (v : Value) (w : World) : (Instr.typeAssert (.iface 84 v) 56 80 true).run Try.prog w = .ok (.tuple #[.agg #[.pointer none], .bool false]) w := by kernel_rfl
theorem as_84_81 (v : Value) (w : World) : (Instr.typeAssert (.iface 84 v) 56 81 true).run Try.prog w = .ok (.tuple #[.agg #[.pointer none], .bool false]) w := by kernel_rfl
theorem as_84_82 (v : Value) (w : World) : (Instr.typeAssert (.iface 84 v) 56 82 true).run Try.prog w = .ok (.tuple #[.agg #[.pointer none], .bool false]) w := by kernel_rfl
theorem as_84_83 (v : Value) (w : World) : (Instr.typeAssert (.iface 84 v) 56 83 true).run Try.prog w = .ok (.tuple #[.agg #[.pointer none], .bool false]) w := by kernel_rfl
theorem as_84_85 (v : Value) (w : World) : (Instr.typeAssert (.iface 84 v) 56 85 true).run Try.prog w = .ok (.tuple #[.agg #[.pointer none], .bool false]) w := by kernel_rfl
theorem as_85_53 (v : Value) (w : World) : (Instr.typeAssert (.iface 85 v) 56 53 true).run Try.prog w = .ok (.tuple #[.agg #[.pointer none], .bool false]) w := by kernel_rfl
theorem as_85_80 (v : Value) (w : World) : (Instr.typeAssert (.iface 85 v) 56 80 true).run Try.prog w = .ok (.tuple #[.agg #[.pointer none], .bool false]) w := by kernel_rfl
theorem as_85_81 (v : Value) (w : World) : (Instr.typeAssert (.iface 85 v) 56 81 true).run Try.prog w = .ok (.tuple #[.agg #[.pointer none], .bool false]) w := by kernel_rfl
theorem as_85_82 (v : Value) (w : World) : (Instr.typeAssert (.iface 85 v) 56 82 true).run Try.prog w = .ok (.tuple #[.agg #[.pointer none], .bool false]) w := by kernel_rfl
theorem as_85_83 (v : Value) (w : World) : (Instr.typeAssert (.iface 85 v) 56 83 true).run Try.prog w = .ok (.tuple #[.agg #[.pointer none], .bool false]) w := by kernel_rfl
theorem as_85_85 (v : Value) (w : World) : (Instr.typeAssert (.iface 85 v) 56 85 true).run Try.prog w = .ok (.tuple #[v, .bool true]) w := by kernel_rfl
attribute [local go_sem] as_53_53 as_53_80 as_53_81 as_53_82 as_53_83 as_53_85 as_80_53 as_80_80 as_80_81 as_80_82 as_80_83 as_80_85 as_81_53 as_81_80 as_81_81 as_81_82 as_81_83 as_81_85 as_82_53 as_82_80 as_82_81 as_82_82 as_82_83 as_82_85 as_83_53 as_83_80 as_83_81 as_83_82 as_83_83 as_83_85 as_84_53 as_84_80 as_84_81 as_84_82 as_84_83 as_84_85 as_85_53 as_85_80 as_85_81 as_85_82 as_85_83 as_85_85
set_option maxHeartbeats 1600000 in
set_option maxRecDepth 100000 in
theorem of_bare (g : Nat) (w : World) (hc : w.cell? ⟨g, 0, none⟩ = some (.int .u8 11)) :
    Calls Try.prog 25 #[.pointer (some ⟨g, 0, none⟩)] w fun e w' => e = .returned (.iface 84 (.agg #[.pointer (some ⟨g, 0, none⟩)])) ∧ w' = w := by
  go_enter Try.func25, Try.ntmps25
  go_wp2
  go_ret
  exact ⟨rfl, rfl⟩
set_option maxHeartbeats 1600000 in
set_option maxRecDepth 100000 in
theorem of_data (g : Nat) (w : World) (hc : w.cell? ⟨g, 0, none⟩ = some (.int .u8 0)) :
    Calls Try.prog 25 #[.pointer (some ⟨g, 0, none⟩)] w fun e w' => e = .returned (.iface 53 (.agg #[.pointer (some ⟨g, 0, none⟩)])) ∧ w' = w := by
  go_enter Try.func25, Try.ntmps25
  go_wp2
  go_ret
  exact ⟨rfl, rfl⟩
set_option maxHeartbeats 1600000 in
set_option maxRecDepth 100000 in
theorem plain_bare (a1 a2 a3 a4 a5 a6 a7 a8 a9 : Int) (v10 v11 v12 v13 : Value) (w : World) :
    Calls Try.prog 27 #[.agg #[.int .u8 11, .int .u8 a1, .int .u32 a2, .int .u16 a3, .int .u16 a4, .int .u32 a5, .int .u32 a6, .int .u32 a7, .int .u16 a8, .int .u16 a9, v10, v11, v12, v13]] w fun e w' => e = .returned (.agg #[.int .u8 11, .int .u8 a1, .int .u32 0, .int .u16 0, .int .u16 0, .int .u32 0, .int .u32 0, .int .u32 0, .int .u16 0, .int .u16 0, .slice none 0 0, .slice none 0 0, .slice none 0 0, .slice none 0 0]) ∧ Below w.heap.size w w' := by
  go_enter Try.func27, Try.ntmps27
  go_wp2_with (first | (go_at_call 25; (with_reducible refine (of_bare _ _ ?hc0).mono ?_); (case hc0 => first | (go_simp; done) | (simp; done)); rintro e w2 ⟨rfl, rfl⟩))
  refine bodyPost_ret (v := .agg #[.int .u8 11, .int .u8 a1, .int .u32 0, .int .u16 0, .int .u16 0, .int .u32 0, .int .u32 0, .int .u32 0, .int .u16 0, .int .u16 0, .slice none 0 0, .slice none 0 0, .slice none 0 0, .slice none 0 0]) (by simp [results, Try.results27, go_sem]) rfl ⟨rfl, ?_⟩
  repeat (first | exact Below.refl _ _ | refine below_alloc ?_ _ | refine Below.setCell ?_ ?_ _)
end Go.Proofs.Ytaahkggbjpdofaa.M
