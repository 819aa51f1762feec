/- chunk.of at every kind. -/
import Derived.Test.YtaahkggbjpdofaaHOf
namespace Go.Proofs.Ytaahkggbjpdofaa.M
open Go.RowKit Go.Proofs.YtaahkggbjpdofaaW.PrintWords Go.Proofs.YtaahkggbjpdofaaW.PrintLast Go.Proofs.YtaahkggbjpdofaaW.PrintMore
set_option linter.unusedVariables false
set_option linter.unusedSimpArgs false
def ofT (t : Int) : Nat :=
  if t = 0 then 53 else if t = 1 ∨ t = 2 then 80 else if t = 3 then 81 else if t = 4 ∨ t = 5 ∨ t = 6 ∨ t = 9 then 82 else if t = 7 then 83 else if t = 8 ∨ t = 11 ∨ t = 14 then 84 else 85
set_option maxHeartbeats 1600000 in
set_option maxRecDepth 100000 in
theorem of_0 (g : Nat) (w : World) (hc : w.cell? ⟨g, 0, none⟩ = some (.int .u8 0)) :
    Calls Try.prog 25 #[.pointer (some ⟨g, 0, none⟩)] w fun e w' => e = .returned (.iface 53 (.agg #[.pointer (some ⟨g, 0, none⟩)])) ∧ w' = w := by
  go_enter Try.func25, Try.ntmps25
  go_wp2
  go_ret
  exact ⟨rfl, rfl⟩
set_option maxHeartbeats 1600000 in
set_option maxRecDepth 100000 in
theorem of_1 (g : Nat) (w : World) (hc : w.cell? ⟨g, 0, none⟩ = some (.int .u8 1)) :
    Calls Try.prog 25 #[.pointer (some ⟨g, 0, none⟩)] w fun e w' => e = .returned (.iface 80 (.agg #[.pointer (some ⟨g, 0, none⟩)])) ∧ w' = w := by
  go_enter Try.func25, Try.ntmps25
  go_wp2
  go_ret
  exact ⟨rfl, rfl⟩
set_option maxHeartbeats 1600000 in
set_option maxRecDepth 100000 in
theorem of_2 (g : Nat) (w : World) (hc : w.cell? ⟨g, 0, none⟩ = some (.int .u8 2)) :
    Calls Try.prog 25 #[.pointer (some ⟨g, 0, none⟩)] w fun e w' => e = .returned (.iface 80 (.agg #[.pointer (some ⟨g, 0, none⟩)])) ∧ w' = w := by
  go_enter Try.func25, Try.ntmps25
  go_wp2
  go_ret
  exact ⟨rfl, rfl⟩
set_option maxHeartbeats 1600000 in
set_option maxRecDepth 100000 in
theorem of_3 (g : Nat) (w : World) (hc : w.cell? ⟨g, 0, none⟩ = some (.int .u8 3)) :
    Calls Try.prog 25 #[.pointer (some ⟨g, 0, none⟩)] w fun e w' => e = .returned (.iface 81 (.agg #[.pointer (some ⟨g, 0, none⟩)])) ∧ w' = w := by
  go_enter Try.func25, Try.ntmps25
  go_wp2
  go_ret
  exact ⟨rfl, rfl⟩
set_option maxHeartbeats 1600000 in
set_option maxRecDepth 100000 in
theorem of_4 (g : Nat) (w : World) (hc : w.cell? ⟨g, 0, none⟩ = some (.int .u8 4)) :
    Calls Try.prog 25 #[.pointer (some ⟨g, 0, none⟩)] w fun e w' => e = .returned (.iface 82 (.agg #[.pointer (some ⟨g, 0, none⟩)])) ∧ w' = w := by
  go_enter Try.func25, Try.ntmps25
  go_wp2
  go_ret
  exact ⟨rfl, rfl⟩
set_option maxHeartbeats 1600000 in
set_option maxRecDepth 100000 in
theorem of_5 (g : Nat) (w : World) (hc : w.cell? ⟨g, 0, none⟩ = some (.int .u8 5)) :
    Calls Try.prog 25 #[.pointer (some ⟨g, 0, none⟩)] w fun e w' => e = .returned (.iface 82 (.agg #[.pointer (some ⟨g, 0, none⟩)])) ∧ w' = w := by
  go_enter Try.func25, Try.ntmps25
  go_wp2
  go_ret
  exact ⟨rfl, rfl⟩
set_option maxHeartbeats 1600000 in
set_option maxRecDepth 100000 in
theorem of_6 (g : Nat) (w : World) (hc : w.cell? ⟨g, 0, none⟩ = some (.int .u8 6)) :
    Calls Try.prog 25 #[.pointer (some ⟨g, 0, none⟩)] w fun e w' => e = .returned (.iface 82 (.agg #[.pointer (some ⟨g, 0, none⟩)])) ∧ w' = w := by
  go_enter Try.func25, Try.ntmps25
  go_wp2
  go_ret
  exact ⟨rfl, rfl⟩
set_option maxHeartbeats 1600000 in
set_option maxRecDepth 100000 in
theorem of_9 (g : Nat) (w : World) (hc : w.cell? ⟨g, 0, none⟩ = some (.int .u8 9)) :
    Calls Try.prog 25 #[.pointer (some ⟨g, 0, none⟩)] w fun e w' => e = .returned (.iface 82 (.agg #[.pointer (some ⟨g, 0, none⟩)])) ∧ w' = w := by
  go_enter Try.func25, Try.ntmps25
  go_wp2
  go_ret
  exact ⟨rfl, rfl⟩
set_option maxHeartbeats 1600000 in
set_option maxRecDepth 100000 in
theorem of_7 (g : Nat) (w : World) (hc : w.cell? ⟨g, 0, none⟩ = some (.int .u8 7)) :
    Calls Try.prog 25 #[.pointer (some ⟨g, 0, none⟩)] w fun e w' => e = .returned (.iface 83 (.agg #[.pointer (some ⟨g, 0, none⟩)])) ∧ w' = w := by
  go_enter Try.func25, Try.ntmps25
  go_wp2
  go_ret
  exact ⟨rfl, rfl⟩
set_option maxHeartbeats 1600000 in
set_option maxRecDepth 100000 in
theorem of_8 (g : Nat) (w : World) (hc : w.cell? ⟨g, 0, none⟩ = some (.int .u8 8)) :
    Calls Try.prog 25 #[.pointer (some ⟨g, 0, none⟩)] w fun e w' => e = .returned (.iface 84 (.agg #[.pointer (some ⟨g, 0, none⟩)])) ∧ w' = w := by
  go_enter Try.func25, Try.ntmps25
  go_wp2
  go_ret
  exact ⟨rfl, rfl⟩
set_option maxHeartbeats 1600000 in
set_option maxRecDepth 100000 in
theorem of_11 (g : Nat) (w : World) (hc : w.cell? ⟨g, 0, none⟩ = some (.int .u8 11)) :
    Calls Try.prog 25 #[.pointer (some ⟨g, 0, none⟩)] w fun e w' => e = .returned (.iface 84 (.agg #[.pointer (some ⟨g, 0, none⟩)])) ∧ w' = w := by
  go_enter Try.func25, Try.ntmps25
  go_wp2
  go_ret
  exact ⟨rfl, rfl⟩
set_option maxHeartbeats 1600000 in
set_option maxRecDepth 100000 in
theorem of_14 (g : Nat) (w : World) (hc : w.cell? ⟨g, 0, none⟩ = some (.int .u8 14)) :
    Calls Try.prog 25 #[.pointer (some ⟨g, 0, none⟩)] w fun e w' => e = .returned (.iface 84 (.agg #[.pointer (some ⟨g, 0, none⟩)])) ∧ w' = w := by
  go_enter Try.func25, Try.ntmps25
  go_wp2
  go_ret
  exact ⟨rfl, rfl⟩
set_option maxHeartbeats 1600000 in
set_option maxRecDepth 100000 in
theorem of_raw (g : Nat) (t : Int) (w : World) (hc : w.cell? ⟨g, 0, none⟩ = some (.int .u8 t)) (h0 : t ≠ 0) (h1 : t ≠ 1) (h2 : t ≠ 2) (h3 : t ≠ 3) (h4 : t ≠ 4) (h5 : t ≠ 5) (h6 : t ≠ 6) (h9 : t ≠ 9) (h7 : t ≠ 7) (h8 : t ≠ 8) (h11 : t ≠ 11) (h14 : t ≠ 14) :
    Calls Try.prog 25 #[.pointer (some ⟨g, 0, none⟩)] w fun e w' => e = .returned (.iface 85 (.agg #[.pointer (some ⟨g, 0, none⟩)])) ∧ w' = w := by
  have b0 : (t == 0) = false := beq_eq_false_iff_ne.mpr h0
  have d0 : decide (t = 0) = false := decide_eq_false h0
  have b1 : (t == 1) = false := beq_eq_false_iff_ne.mpr h1
  have d1 : decide (t = 1) = false := decide_eq_false h1
  have b2 : (t == 2) = false := beq_eq_false_iff_ne.mpr h2
  have d2 : decide (t = 2) = false := decide_eq_false h2
  have b3 : (t == 3) = false := beq_eq_false_iff_ne.mpr h3
  have d3 : decide (t = 3) = false := decide_eq_false h3
  have b4 : (t == 4) = false := beq_eq_false_iff_ne.mpr h4
  have d4 : decide (t = 4) = false := decide_eq_false h4
  have b5 : (t == 5) = false := beq_eq_false_iff_ne.mpr h5
  have d5 : decide (t = 5) = false := decide_eq_false h5
  have b6 : (t == 6) = false := beq_eq_false_iff_ne.mpr h6
  have d6 : decide (t = 6) = false := decide_eq_false h6
  have b9 : (t == 9) = false := beq_eq_false_iff_ne.mpr h9
  have d9 : decide (t = 9) = false := decide_eq_false h9
  have b7 : (t == 7) = false := beq_eq_false_iff_ne.mpr h7
  have d7 : decide (t = 7) = false := decide_eq_false h7
  have b8 : (t == 8) = false := beq_eq_false_iff_ne.mpr h8
  have d8 : decide (t = 8) = false := decide_eq_false h8
  have b11 : (t == 11) = false := beq_eq_false_iff_ne.mpr h11
  have d11 : decide (t = 11) = false := decide_eq_false h11
  have b14 : (t == 14) = false := beq_eq_false_iff_ne.mpr h14
  have d14 : decide (t = 14) = false := decide_eq_false h14
  go_enter Try.func25, Try.ntmps25
  go_wp2
  go_ret
  exact ⟨rfl, rfl⟩
theorem of_all (T g : Nat) (t : Int) (w : World) (hT : ofT t = T) (hc : w.cell? ⟨g, 0, none⟩ = some (.int .u8 t)) :
    Calls Try.prog 25 #[.pointer (some ⟨g, 0, none⟩)] w fun e w' => e = .returned (.iface T (.agg #[.pointer (some ⟨g, 0, none⟩)])) ∧ w' = w := by
  subst hT
  unfold ofT
  by_cases e0 : t = 0
  · subst e0; exact of_0 g w hc
  by_cases e1 : t = 1
  · subst e1; exact of_1 g w hc
  by_cases e2 : t = 2
  · subst e2; exact of_2 g w hc
  by_cases e3 : t = 3
  · subst e3; exact of_3 g w hc
  by_cases e4 : t = 4
  · subst e4; exact of_4 g w hc
  by_cases e5 : t = 5
  · subst e5; exact of_5 g w hc
  by_cases e6 : t = 6
  · subst e6; exact of_6 g w hc
  by_cases e9 : t = 9
  · subst e9; exact of_9 g w hc
  by_cases e7 : t = 7
  · subst e7; exact of_7 g w hc
  by_cases e8 : t = 8
  · subst e8; exact of_8 g w hc
  by_cases e11 : t = 11
  · subst e11; exact of_11 g w hc
  by_cases e14 : t = 14
  · subst e14; exact of_14 g w hc
  rw [if_neg e0, if_neg (by omega), if_neg e3, if_neg (by omega), if_neg e7, if_neg (by omega)]
  exact of_raw g t w hc e0 e1 e2 e3 e4 e5 e6 e9 e7 e8 e11 e14
end Go.Proofs.Ytaahkggbjpdofaa.M
