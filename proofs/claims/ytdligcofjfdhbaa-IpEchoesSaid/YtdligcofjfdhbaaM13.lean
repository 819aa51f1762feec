-- Printed by this session's mp.py over the kit's print (turned in memory). Not trusted: Lean checks it.
import Derived.Test.YtdligcofjfdhbaaM0
namespace Go.Proofs.Ytdligcofjfdhbaa.M
open Go.RowKit Go.Proofs.YtdligcofjfdhbaaW.PrintWords Go.Proofs.YtdligcofjfdhbaaW.PrintLast Go.Proofs.YtdligcofjfdhbaaW.PrintMore
attribute [local go_sem] max2_int min2_int max_two min_two max_three min_three max_four min_four   -- for this text's walks alone
set_option linter.unusedVariables false
set_option linter.unusedSimpArgs false

/-! ### trunklineref02_add: function 46 -/
def trunklineref02_add.f (a0 : Int) (a1 : Int) : Option (Int) := if ((a0 + a1) % 4294967296) > 65535 then (some ((((((a0 + a1) % 4294967296) - 65536) % 4294967296) + 1) % 4294967296)) else (some ((a0 + a1) % 4294967296))
set_option maxHeartbeats 8000000 in
set_option maxRecDepth 100000 in
theorem trunklineref02_add.calls (a0 : Int) (a1 : Int) (r : Int) (w : World) (h : trunklineref02_add.f a0 a1 = some r) :
  Calls Try.prog 46 #[.int .u32 a0, .int .u32 a1] w fun e w' => e = .returned (.int .u32 r) ∧ Drawn0 w w' := by
 have H : (if ((a0 + a1) % 4294967296) > 65535 then (some ((((((a0 + a1) % 4294967296) - 65536) % 4294967296) + 1) % 4294967296)) else (some ((a0 + a1) % 4294967296))) = some r := h
 clear h
 by_cases c3 : ((a0 + a1) % 4294967296) > 65535
 ·rw [if_pos c3] at H
  have c3b0 : decide (65535 < ((a0 + a1) % 4294967296)) = true := decide_eq_true c3
  clear c3
  obtain rfl := Option.some.inj H
  go_enter Try.func46, Try.ntmps46
  go_wp2
  go_ret
  exact ⟨by first | rfl | (simp; done) | (simp [*]; done), by repeat (first | exact Drawn0.refl _ | apply Drawn0.step)⟩
 ·rw [if_neg c3] at H
  have c3b0 : decide (65535 < ((a0 + a1) % 4294967296)) = false := decide_eq_false c3
  clear c3
  obtain rfl := Option.some.inj H
  go_enter Try.func46, Try.ntmps46
  go_wp2
  go_ret
  exact ⟨by first | rfl | (simp; done) | (simp [*]; done), by repeat (first | exact Drawn0.refl _ | apply Drawn0.step)⟩

end Go.Proofs.Ytdligcofjfdhbaa.M
