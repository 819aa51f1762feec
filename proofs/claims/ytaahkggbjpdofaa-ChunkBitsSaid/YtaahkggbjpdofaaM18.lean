-- Printed by this session's mp.py over the kit's print (turned in memory). Not trusted: Lean checks it.
import Derived.Test.YtaahkggbjpdofaaM0
section
namespace Go.Proofs.Ytaahkggbjpdofaa.M
open Go.RowKit Go.Proofs.YtaahkggbjpdofaaW.PrintWords Go.Proofs.YtaahkggbjpdofaaW.PrintLast Go.Proofs.YtaahkggbjpdofaaW.PrintMore
attribute [local go_sem] max2_int min2_int max_two min_two max_three min_three max_four min_four   -- for this text's walks alone
set_option linter.unusedVariables false
set_option linter.unusedSimpArgs false

/-! ### chunk_Stops: function 21 -/
def chunk_Stops.f (a0 : Int) : Option (Bool) := some ((a0 / 128) == 0)
set_option maxHeartbeats 8000000 in
set_option maxRecDepth 100000 in
theorem chunk_Stops.calls (a0 : Int) (r : Bool) (w : World) (h : chunk_Stops.f a0 = some r) :
    Calls Try.prog 21 #[.int .u8 a0] w fun e w' => e = .returned (.bool r) ∧ Drawn0 w w' := by
  have H : (some ((a0 / 128) == 0)) = some r := h
  clear h
  obtain rfl := Option.some.inj H
  go_enter Try.func21, Try.ntmps21
  go_wp2
  go_ret
  exact ⟨by first | rfl | (simp; done) | (simp [*]; done), by repeat (first | exact Drawn0.refl _ | apply Drawn0.step)⟩

end Go.Proofs.Ytaahkggbjpdofaa.M
end
section
namespace Go.Proofs.Ytaahkggbjpdofaa.M
open Go.RowKit Go.Proofs.YtaahkggbjpdofaaW.PrintWords Go.Proofs.YtaahkggbjpdofaaW.PrintLast Go.Proofs.YtaahkggbjpdofaaW.PrintMore
attribute [local go_sem] max2_int min2_int max_two min_two max_three min_three max_four min_four   -- for this text's walks alone
set_option linter.unusedVariables false
set_option linter.unusedSimpArgs false

/-! ### chunk_Tells: function 22 -/
def chunk_Tells.f (a0 : Int) : Option (Bool) := some ((Go.bits .and .u8 (a0 / 64) 1) == 1)
set_option maxHeartbeats 8000000 in
set_option maxRecDepth 100000 in
theorem chunk_Tells.calls (a0 : Int) (r : Bool) (w : World) (h : chunk_Tells.f a0 = some r) :
    Calls Try.prog 22 #[.int .u8 a0] w fun e w' => e = .returned (.bool r) ∧ Drawn0 w w' := by
  have H : (some ((Go.bits .and .u8 (a0 / 64) 1) == 1)) = some r := h
  clear h
  obtain rfl := Option.some.inj H
  go_enter Try.func22, Try.ntmps22
  go_wp2
  go_ret
  exact ⟨by first | rfl | (simp; done) | (simp [*]; done), by repeat (first | exact Drawn0.refl _ | apply Drawn0.step)⟩

end Go.Proofs.Ytaahkggbjpdofaa.M
end
section
namespace Go.Proofs.Ytaahkggbjpdofaa.M
open Go.RowKit Go.Proofs.YtaahkggbjpdofaaW.PrintWords Go.Proofs.YtaahkggbjpdofaaW.PrintLast Go.Proofs.YtaahkggbjpdofaaW.PrintMore
attribute [local go_sem] max2_int min2_int max_two min_two max_three min_three max_four min_four   -- for this text's walks alone
set_option linter.unusedVariables false
set_option linter.unusedSimpArgs false

/-! ### trunklineref12_Name: function 24 -/
def trunklineref12_Name.f (a0 : Int) : Option (ByteArray) := (some (([(⟨#[68, 65, 84, 65]⟩ : ByteArray), (⟨#[73, 78, 73, 84]⟩ : ByteArray), (⟨#[73, 78, 73, 84, 32, 65, 67, 75]⟩ : ByteArray), (⟨#[83, 65, 67, 75]⟩ : ByteArray), (⟨#[72, 69, 65, 82, 84, 66, 69, 65, 84]⟩ : ByteArray), (⟨#[72, 69, 65, 82, 84, 66, 69, 65, 84, 32, 65, 67, 75]⟩ : ByteArray), (⟨#[65, 66, 79, 82, 84]⟩ : ByteArray), (⟨#[83, 72, 85, 84, 68, 79, 87, 78]⟩ : ByteArray), (⟨#[83, 72, 85, 84, 68, 79, 87, 78, 32, 65, 67, 75]⟩ : ByteArray), (⟨#[69, 82, 82, 79, 82]⟩ : ByteArray), (⟨#[67, 79, 79, 75, 73, 69, 32, 69, 67, 72, 79]⟩ : ByteArray), (⟨#[67, 79, 79, 75, 73, 69, 32, 65, 67, 75]⟩ : ByteArray), (⟨#[85, 78, 75, 78, 79, 87, 78]⟩ : ByteArray), (⟨#[85, 78, 75, 78, 79, 87, 78]⟩ : ByteArray), (⟨#[83, 72, 85, 84, 68, 79, 87, 78, 32, 67, 79, 77, 80, 76, 69, 84, 69]⟩ : ByteArray)] : List ByteArray) : List ByteArray)).bind fun y203 => (if a0 > 14 then (some (⟨#[85, 78, 75, 78, 79, 87, 78]⟩ : ByteArray)) else (if 0 ≤ a0 then (if a0 < (y203.length : Int) then (some (rdOf ByteArray.empty y203 a0)) else (none)) else (none)))
set_option maxHeartbeats 8000000 in
set_option maxRecDepth 100000 in
theorem trunklineref12_Name.calls (a0 : Int) (r : ByteArray) (w : World) (h : trunklineref12_Name.f a0 = some r) :
    Calls Try.prog 24 #[.int .u8 a0] w fun e w' => e = .returned (.string r) ∧ Below w.heap.size w w' := by
  have HB := Aside0.mk (Below.refl w.heap.size w)
  have H : ((some (([(⟨#[68, 65, 84, 65]⟩ : ByteArray), (⟨#[73, 78, 73, 84]⟩ : ByteArray), (⟨#[73, 78, 73, 84, 32, 65, 67, 75]⟩ : ByteArray), (⟨#[83, 65, 67, 75]⟩ : ByteArray), (⟨#[72, 69, 65, 82, 84, 66, 69, 65, 84]⟩ : ByteArray), (⟨#[72, 69, 65, 82, 84, 66, 69, 65, 84, 32, 65, 67, 75]⟩ : ByteArray), (⟨#[65, 66, 79, 82, 84]⟩ : ByteArray), (⟨#[83, 72, 85, 84, 68, 79, 87, 78]⟩ : ByteArray), (⟨#[83, 72, 85, 84, 68, 79, 87, 78, 32, 65, 67, 75]⟩ : ByteArray), (⟨#[69, 82, 82, 79, 82]⟩ : ByteArray), (⟨#[67, 79, 79, 75, 73, 69, 32, 69, 67, 72, 79]⟩ : ByteArray), (⟨#[67, 79, 79, 75, 73, 69, 32, 65, 67, 75]⟩ : ByteArray), (⟨#[85, 78, 75, 78, 79, 87, 78]⟩ : ByteArray), (⟨#[85, 78, 75, 78, 79, 87, 78]⟩ : ByteArray), (⟨#[83, 72, 85, 84, 68, 79, 87, 78, 32, 67, 79, 77, 80, 76, 69, 84, 69]⟩ : ByteArray)] : List ByteArray) : List ByteArray)).bind fun y203 => (if a0 > 14 then (some (⟨#[85, 78, 75, 78, 79, 87, 78]⟩ : ByteArray)) else (if 0 ≤ a0 then (if a0 < (y203.length : Int) then (some (rdOf ByteArray.empty y203 a0)) else (none)) else (none)))) = some r := h
  clear h
  obtain ⟨y203, hy203⟩ : ∃ y_ : List ByteArray, y_ = (([(⟨#[68, 65, 84, 65]⟩ : ByteArray), (⟨#[73, 78, 73, 84]⟩ : ByteArray), (⟨#[73, 78, 73, 84, 32, 65, 67, 75]⟩ : ByteArray), (⟨#[83, 65, 67, 75]⟩ : ByteArray), (⟨#[72, 69, 65, 82, 84, 66, 69, 65, 84]⟩ : ByteArray), (⟨#[72, 69, 65, 82, 84, 66, 69, 65, 84, 32, 65, 67, 75]⟩ : ByteArray), (⟨#[65, 66, 79, 82, 84]⟩ : ByteArray), (⟨#[83, 72, 85, 84, 68, 79, 87, 78]⟩ : ByteArray), (⟨#[83, 72, 85, 84, 68, 79, 87, 78, 32, 65, 67, 75]⟩ : ByteArray), (⟨#[69, 82, 82, 79, 82]⟩ : ByteArray), (⟨#[67, 79, 79, 75, 73, 69, 32, 69, 67, 72, 79]⟩ : ByteArray), (⟨#[67, 79, 79, 75, 73, 69, 32, 65, 67, 75]⟩ : ByteArray), (⟨#[85, 78, 75, 78, 79, 87, 78]⟩ : ByteArray), (⟨#[85, 78, 75, 78, 79, 87, 78]⟩ : ByteArray), (⟨#[83, 72, 85, 84, 68, 79, 87, 78, 32, 67, 79, 77, 80, 76, 69, 84, 69]⟩ : ByteArray)] : List ByteArray)) := ⟨_, rfl⟩
  replace H : (if a0 > 14 then (some (⟨#[85, 78, 75, 78, 79, 87, 78]⟩ : ByteArray)) else (if 0 ≤ a0 then (if a0 < (y203.length : Int) then (some (rdOf ByteArray.empty y203 a0)) else (none)) else (none))) = some r := by first | (rw [hy203]; with_reducible exact H) | (have H2_ := (Option.bind_some _ _).symm.trans H; rw [hy203]; with_reducible exact H2_) | (have H2_ := (Option.bind_some _ _).symm.trans H; with_reducible exact H2_) | with_reducible exact H | (rw [hy203]; exact H) | exact H
  have Ny203 := Aside0.mk hy203
  clear hy203
  by_cases c2 : a0 > 14
  · rw [if_pos c2] at H
    have c2b0 : decide (14 < a0) = true := decide_eq_true c2
    clear c2
    obtain rfl := Option.some.inj H
    go_enter Try.func24, Try.ntmps24
    go_wp2_with (first | ((with_reducible refine gate_dst (N := 4) rfl ?_); refine Kd.R_lit Kd.string _ 9 ?hg (N := 4) ?hd (xs := ([(⟨#[68, 65, 84, 65]⟩ : ByteArray), (⟨#[73, 78, 73, 84]⟩ : ByteArray), (⟨#[73, 78, 73, 84, 32, 65, 67, 75]⟩ : ByteArray), (⟨#[83, 65, 67, 75]⟩ : ByteArray), (⟨#[72, 69, 65, 82, 84, 66, 69, 65, 84]⟩ : ByteArray), (⟨#[72, 69, 65, 82, 84, 66, 69, 65, 84, 32, 65, 67, 75]⟩ : ByteArray), (⟨#[65, 66, 79, 82, 84]⟩ : ByteArray), (⟨#[83, 72, 85, 84, 68, 79, 87, 78]⟩ : ByteArray), (⟨#[83, 72, 85, 84, 68, 79, 87, 78, 32, 65, 67, 75]⟩ : ByteArray), (⟨#[69, 82, 82, 79, 82]⟩ : ByteArray), (⟨#[67, 79, 79, 75, 73, 69, 32, 69, 67, 72, 79]⟩ : ByteArray), (⟨#[67, 79, 79, 75, 73, 69, 32, 65, 67, 75]⟩ : ByteArray), (⟨#[85, 78, 75, 78, 79, 87, 78]⟩ : ByteArray), (⟨#[85, 78, 75, 78, 79, 87, 78]⟩ : ByteArray), (⟨#[83, 72, 85, 84, 68, 79, 87, 78, 32, 67, 79, 77, 80, 76, 69, 84, 69]⟩ : ByteArray)] : List ByteArray)) (inner := [.string (⟨#[68, 65, 84, 65]⟩ : ByteArray), .string (⟨#[73, 78, 73, 84]⟩ : ByteArray), .string (⟨#[73, 78, 73, 84, 32, 65, 67, 75]⟩ : ByteArray), .string (⟨#[83, 65, 67, 75]⟩ : ByteArray), .string (⟨#[72, 69, 65, 82, 84, 66, 69, 65, 84]⟩ : ByteArray), .string (⟨#[72, 69, 65, 82, 84, 66, 69, 65, 84, 32, 65, 67, 75]⟩ : ByteArray), .string (⟨#[65, 66, 79, 82, 84]⟩ : ByteArray), .string (⟨#[83, 72, 85, 84, 68, 79, 87, 78]⟩ : ByteArray), .string (⟨#[83, 72, 85, 84, 68, 79, 87, 78, 32, 65, 67, 75]⟩ : ByteArray), .string (⟨#[69, 82, 82, 79, 82]⟩ : ByteArray), .string (⟨#[67, 79, 79, 75, 73, 69, 32, 69, 67, 72, 79]⟩ : ByteArray), .string (⟨#[67, 79, 79, 75, 73, 69, 32, 65, 67, 75]⟩ : ByteArray), .string (⟨#[85, 78, 75, 78, 79, 87, 78]⟩ : ByteArray), .string (⟨#[85, 78, 75, 78, 79, 87, 78]⟩ : ByteArray), .string (⟨#[83, 72, 85, 84, 68, 79, 87, 78, 32, 67, 79, 77, 80, 76, 69, 84, 69]⟩ : ByteArray)]) (ok := fun _ => True) (okp := fun _ => True) ?hr ?hp (fun _ hk => hk) trivial (Below.refl _ _) (Nat.le_refl _) (by simp) ?_; (case hd => rfl); (case hg => rfl); (case hr => first | (go_simp; done) | (go_simp; rfl)); (case hp => exact (Reps.one (show Kd.M Kd.string _ _ _ (⟨#[68, 65, 84, 65]⟩ : ByteArray) [.string (⟨#[68, 65, 84, 65]⟩ : ByteArray)] from rfl) (Reps.one (show Kd.M Kd.string _ _ _ (⟨#[73, 78, 73, 84]⟩ : ByteArray) [.string (⟨#[73, 78, 73, 84]⟩ : ByteArray)] from rfl) (Reps.one (show Kd.M Kd.string _ _ _ (⟨#[73, 78, 73, 84, 32, 65, 67, 75]⟩ : ByteArray) [.string (⟨#[73, 78, 73, 84, 32, 65, 67, 75]⟩ : ByteArray)] from rfl) (Reps.one (show Kd.M Kd.string _ _ _ (⟨#[83, 65, 67, 75]⟩ : ByteArray) [.string (⟨#[83, 65, 67, 75]⟩ : ByteArray)] from rfl) (Reps.one (show Kd.M Kd.string _ _ _ (⟨#[72, 69, 65, 82, 84, 66, 69, 65, 84]⟩ : ByteArray) [.string (⟨#[72, 69, 65, 82, 84, 66, 69, 65, 84]⟩ : ByteArray)] from rfl) (Reps.one (show Kd.M Kd.string _ _ _ (⟨#[72, 69, 65, 82, 84, 66, 69, 65, 84, 32, 65, 67, 75]⟩ : ByteArray) [.string (⟨#[72, 69, 65, 82, 84, 66, 69, 65, 84, 32, 65, 67, 75]⟩ : ByteArray)] from rfl) (Reps.one (show Kd.M Kd.string _ _ _ (⟨#[65, 66, 79, 82, 84]⟩ : ByteArray) [.string (⟨#[65, 66, 79, 82, 84]⟩ : ByteArray)] from rfl) (Reps.one (show Kd.M Kd.string _ _ _ (⟨#[83, 72, 85, 84, 68, 79, 87, 78]⟩ : ByteArray) [.string (⟨#[83, 72, 85, 84, 68, 79, 87, 78]⟩ : ByteArray)] from rfl) (Reps.one (show Kd.M Kd.string _ _ _ (⟨#[83, 72, 85, 84, 68, 79, 87, 78, 32, 65, 67, 75]⟩ : ByteArray) [.string (⟨#[83, 72, 85, 84, 68, 79, 87, 78, 32, 65, 67, 75]⟩ : ByteArray)] from rfl) (Reps.one (show Kd.M Kd.string _ _ _ (⟨#[69, 82, 82, 79, 82]⟩ : ByteArray) [.string (⟨#[69, 82, 82, 79, 82]⟩ : ByteArray)] from rfl) (Reps.one (show Kd.M Kd.string _ _ _ (⟨#[67, 79, 79, 75, 73, 69, 32, 69, 67, 72, 79]⟩ : ByteArray) [.string (⟨#[67, 79, 79, 75, 73, 69, 32, 69, 67, 72, 79]⟩ : ByteArray)] from rfl) (Reps.one (show Kd.M Kd.string _ _ _ (⟨#[67, 79, 79, 75, 73, 69, 32, 65, 67, 75]⟩ : ByteArray) [.string (⟨#[67, 79, 79, 75, 73, 69, 32, 65, 67, 75]⟩ : ByteArray)] from rfl) (Reps.one (show Kd.M Kd.string _ _ _ (⟨#[85, 78, 75, 78, 79, 87, 78]⟩ : ByteArray) [.string (⟨#[85, 78, 75, 78, 79, 87, 78]⟩ : ByteArray)] from rfl) (Reps.one (show Kd.M Kd.string _ _ _ (⟨#[85, 78, 75, 78, 79, 87, 78]⟩ : ByteArray) [.string (⟨#[85, 78, 75, 78, 79, 87, 78]⟩ : ByteArray)] from rfl) (Reps.one (show Kd.M Kd.string _ _ _ (⟨#[83, 72, 85, 84, 68, 79, 87, 78, 32, 67, 79, 77, 80, 76, 69, 84, 69]⟩ : ByteArray) [.string (⟨#[83, 72, 85, 84, 68, 79, 87, 78, 32, 67, 79, 77, 80, 76, 69, 84, 69]⟩ : ByteArray)] from rfl) (Reps.none _ _))))))))))))))))); intro v204 w3 ho4 hb hg_ hnew_; clear hg_ hnew_; (first | rw [← Ny203.out] at ho4 | (simp only [Int.reduceToNat] at ho4; rw [← Ny203.out] at ho4)); have n0_ := Aside0.mk (Kd.R_lower ho4 (below_size (by repeat (first | (with_reducible first | exact HB.out | apply below_alloc | apply pw_below_drewN | apply below_drew1) | exact HB.out)))); have n1_ := Aside0.mk (below_step (by repeat (first | (with_reducible first | exact HB.out | apply below_alloc | apply pw_below_drewN | apply below_drew1) | exact HB.out)) hb); clear HB; have HO205 := n0_; have HB := n1_; clear n0_ n1_; clear hb ho4))
    go_ret
    exact ⟨by first | rfl | (simp [errW_none, errW_some] <;> rfl) | (simp [*, errW_none, errW_some] <;> rfl), by repeat (first | (with_reducible first | exact HB.out | apply below_alloc | apply pw_below_drewN | apply below_drew1) | exact HB.out)⟩
  · rw [if_neg c2] at H
    have c2b0 : decide (14 < a0) = false := decide_eq_false c2
    clear c2
    by_cases c5 : 0 ≤ a0
    · rw [if_pos c5] at H
      have c5b0 : decide (0 ≤ a0) = true := decide_eq_true c5
      clear c5
      by_cases c6 : a0 < (y203.length : Int)
      · rw [if_pos c6] at H
        have c6b0 : decide (a0 < (y203.length : Int)) = true := decide_eq_true c6
        clear c6
        obtain rfl := Option.some.inj H
        go_enter Try.func24, Try.ntmps24
        go_wp2_with (first | ((with_reducible refine gate_dst (N := 4) rfl ?_); refine Kd.R_lit Kd.string _ 9 ?hg (N := 4) ?hd (xs := ([(⟨#[68, 65, 84, 65]⟩ : ByteArray), (⟨#[73, 78, 73, 84]⟩ : ByteArray), (⟨#[73, 78, 73, 84, 32, 65, 67, 75]⟩ : ByteArray), (⟨#[83, 65, 67, 75]⟩ : ByteArray), (⟨#[72, 69, 65, 82, 84, 66, 69, 65, 84]⟩ : ByteArray), (⟨#[72, 69, 65, 82, 84, 66, 69, 65, 84, 32, 65, 67, 75]⟩ : ByteArray), (⟨#[65, 66, 79, 82, 84]⟩ : ByteArray), (⟨#[83, 72, 85, 84, 68, 79, 87, 78]⟩ : ByteArray), (⟨#[83, 72, 85, 84, 68, 79, 87, 78, 32, 65, 67, 75]⟩ : ByteArray), (⟨#[69, 82, 82, 79, 82]⟩ : ByteArray), (⟨#[67, 79, 79, 75, 73, 69, 32, 69, 67, 72, 79]⟩ : ByteArray), (⟨#[67, 79, 79, 75, 73, 69, 32, 65, 67, 75]⟩ : ByteArray), (⟨#[85, 78, 75, 78, 79, 87, 78]⟩ : ByteArray), (⟨#[85, 78, 75, 78, 79, 87, 78]⟩ : ByteArray), (⟨#[83, 72, 85, 84, 68, 79, 87, 78, 32, 67, 79, 77, 80, 76, 69, 84, 69]⟩ : ByteArray)] : List ByteArray)) (inner := [.string (⟨#[68, 65, 84, 65]⟩ : ByteArray), .string (⟨#[73, 78, 73, 84]⟩ : ByteArray), .string (⟨#[73, 78, 73, 84, 32, 65, 67, 75]⟩ : ByteArray), .string (⟨#[83, 65, 67, 75]⟩ : ByteArray), .string (⟨#[72, 69, 65, 82, 84, 66, 69, 65, 84]⟩ : ByteArray), .string (⟨#[72, 69, 65, 82, 84, 66, 69, 65, 84, 32, 65, 67, 75]⟩ : ByteArray), .string (⟨#[65, 66, 79, 82, 84]⟩ : ByteArray), .string (⟨#[83, 72, 85, 84, 68, 79, 87, 78]⟩ : ByteArray), .string (⟨#[83, 72, 85, 84, 68, 79, 87, 78, 32, 65, 67, 75]⟩ : ByteArray), .string (⟨#[69, 82, 82, 79, 82]⟩ : ByteArray), .string (⟨#[67, 79, 79, 75, 73, 69, 32, 69, 67, 72, 79]⟩ : ByteArray), .string (⟨#[67, 79, 79, 75, 73, 69, 32, 65, 67, 75]⟩ : ByteArray), .string (⟨#[85, 78, 75, 78, 79, 87, 78]⟩ : ByteArray), .string (⟨#[85, 78, 75, 78, 79, 87, 78]⟩ : ByteArray), .string (⟨#[83, 72, 85, 84, 68, 79, 87, 78, 32, 67, 79, 77, 80, 76, 69, 84, 69]⟩ : ByteArray)]) (ok := fun _ => True) (okp := fun _ => True) ?hr ?hp (fun _ hk => hk) trivial (Below.refl _ _) (Nat.le_refl _) (by simp) ?_; (case hd => rfl); (case hg => rfl); (case hr => first | (go_simp; done) | (go_simp; rfl)); (case hp => exact (Reps.one (show Kd.M Kd.string _ _ _ (⟨#[68, 65, 84, 65]⟩ : ByteArray) [.string (⟨#[68, 65, 84, 65]⟩ : ByteArray)] from rfl) (Reps.one (show Kd.M Kd.string _ _ _ (⟨#[73, 78, 73, 84]⟩ : ByteArray) [.string (⟨#[73, 78, 73, 84]⟩ : ByteArray)] from rfl) (Reps.one (show Kd.M Kd.string _ _ _ (⟨#[73, 78, 73, 84, 32, 65, 67, 75]⟩ : ByteArray) [.string (⟨#[73, 78, 73, 84, 32, 65, 67, 75]⟩ : ByteArray)] from rfl) (Reps.one (show Kd.M Kd.string _ _ _ (⟨#[83, 65, 67, 75]⟩ : ByteArray) [.string (⟨#[83, 65, 67, 75]⟩ : ByteArray)] from rfl) (Reps.one (show Kd.M Kd.string _ _ _ (⟨#[72, 69, 65, 82, 84, 66, 69, 65, 84]⟩ : ByteArray) [.string (⟨#[72, 69, 65, 82, 84, 66, 69, 65, 84]⟩ : ByteArray)] from rfl) (Reps.one (show Kd.M Kd.string _ _ _ (⟨#[72, 69, 65, 82, 84, 66, 69, 65, 84, 32, 65, 67, 75]⟩ : ByteArray) [.string (⟨#[72, 69, 65, 82, 84, 66, 69, 65, 84, 32, 65, 67, 75]⟩ : ByteArray)] from rfl) (Reps.one (show Kd.M Kd.string _ _ _ (⟨#[65, 66, 79, 82, 84]⟩ : ByteArray) [.string (⟨#[65, 66, 79, 82, 84]⟩ : ByteArray)] from rfl) (Reps.one (show Kd.M Kd.string _ _ _ (⟨#[83, 72, 85, 84, 68, 79, 87, 78]⟩ : ByteArray) [.string (⟨#[83, 72, 85, 84, 68, 79, 87, 78]⟩ : ByteArray)] from rfl) (Reps.one (show Kd.M Kd.string _ _ _ (⟨#[83, 72, 85, 84, 68, 79, 87, 78, 32, 65, 67, 75]⟩ : ByteArray) [.string (⟨#[83, 72, 85, 84, 68, 79, 87, 78, 32, 65, 67, 75]⟩ : ByteArray)] from rfl) (Reps.one (show Kd.M Kd.string _ _ _ (⟨#[69, 82, 82, 79, 82]⟩ : ByteArray) [.string (⟨#[69, 82, 82, 79, 82]⟩ : ByteArray)] from rfl) (Reps.one (show Kd.M Kd.string _ _ _ (⟨#[67, 79, 79, 75, 73, 69, 32, 69, 67, 72, 79]⟩ : ByteArray) [.string (⟨#[67, 79, 79, 75, 73, 69, 32, 69, 67, 72, 79]⟩ : ByteArray)] from rfl) (Reps.one (show Kd.M Kd.string _ _ _ (⟨#[67, 79, 79, 75, 73, 69, 32, 65, 67, 75]⟩ : ByteArray) [.string (⟨#[67, 79, 79, 75, 73, 69, 32, 65, 67, 75]⟩ : ByteArray)] from rfl) (Reps.one (show Kd.M Kd.string _ _ _ (⟨#[85, 78, 75, 78, 79, 87, 78]⟩ : ByteArray) [.string (⟨#[85, 78, 75, 78, 79, 87, 78]⟩ : ByteArray)] from rfl) (Reps.one (show Kd.M Kd.string _ _ _ (⟨#[85, 78, 75, 78, 79, 87, 78]⟩ : ByteArray) [.string (⟨#[85, 78, 75, 78, 79, 87, 78]⟩ : ByteArray)] from rfl) (Reps.one (show Kd.M Kd.string _ _ _ (⟨#[83, 72, 85, 84, 68, 79, 87, 78, 32, 67, 79, 77, 80, 76, 69, 84, 69]⟩ : ByteArray) [.string (⟨#[83, 72, 85, 84, 68, 79, 87, 78, 32, 67, 79, 77, 80, 76, 69, 84, 69]⟩ : ByteArray)] from rfl) (Reps.none _ _))))))))))))))))); intro v204 w7 ho8 hb hg_ hnew_; clear hg_ hnew_; (first | rw [← Ny203.out] at ho8 | (simp only [Int.reduceToNat] at ho8; rw [← Ny203.out] at ho8)); have n0_ := Aside0.mk (Kd.R_lower ho8 (below_size (by repeat (first | (with_reducible first | exact HB.out | apply below_alloc | apply pw_below_drewN | apply below_drew1) | exact HB.out)))); have n1_ := Aside0.mk (below_step (by repeat (first | (with_reducible first | exact HB.out | apply below_alloc | apply pw_below_drewN | apply below_drew1) | exact HB.out)) hb); clear HB; have HO205 := n0_; have HB := n1_; clear n0_ n1_; clear hb ho8; obtain ⟨Ao9, co9, eo9⟩ := Kd.R_slice HO205.out; subst eo9; have p206 : 0 ≤ (a0 : Int) := of_decide_eq_true (by first | (with_reducible assumption) | assumption); have q206 : a0 < (y203.length : Int) := of_decide_eq_true (by first | (with_reducible assumption) | assumption); obtain ⟨ad206, e206, hx206_0⟩ := Kd.at_string (Kd.R_reads' HO205.out).2.2 a0 p206 q206; cases e206; replace p206 := eq_true p206; replace q206 := eq_true q206))
        go_ret
        exact ⟨by first | rfl | (simp [errW_none, errW_some] <;> rfl) | (simp [*, errW_none, errW_some] <;> rfl), by repeat (first | (with_reducible first | exact HB.out | apply below_alloc | apply pw_below_drewN | apply below_drew1) | exact HB.out)⟩
      · rw [if_neg c6] at H
        exact absurd H (by simp)
    · rw [if_neg c5] at H
      exact absurd H (by simp)

end Go.Proofs.Ytaahkggbjpdofaa.M
end
