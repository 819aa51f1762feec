-- Printed by this session's mp.py over the kit's print (turned in memory). Not trusted: Lean checks it.
import Derived.Test.YtndoankacnjhoaaDoorM0
import Derived.Test.YtndoankacnjhoaaDoorM12
namespace Go.Proofs.YtndoankacnjhoaaDoor.M
open Go.RowKit Go.Proofs.YtndoankacnjhoaaDoorW.PrintWords Go.Proofs.YtndoankacnjhoaaDoorW.PrintLast Go.Proofs.YtndoankacnjhoaaDoorW.PrintMore
attribute [local go_sem] max2_int min2_int max_two min_two max_three min_three max_four min_four   -- for this text's walks alone
set_option linter.unusedVariables false
set_option linter.unusedSimpArgs false

/-! ### trunklineref01_AddrText: function 13 -/
def trunklineref01_AddrText.f (a0 : Int) : Option (ByteArray) := (trunklineref01_number.f (wrap64 (Int.tdiv (wrap64 (a0)) 16777216))).bind fun t218 => (if t218.size + 1 ≤ 9223372036854775807 then ((trunklineref01_number.f (Int.tmod (wrap64 (Int.tdiv (wrap64 (a0)) 65536)) 256)).bind fun t219 => (if (t218 ++ (⟨#[46]⟩ : ByteArray)).size + t219.size ≤ 9223372036854775807 then (if ((t218 ++ (⟨#[46]⟩ : ByteArray)) ++ t219).size + 1 ≤ 9223372036854775807 then ((trunklineref01_number.f (Int.tmod (wrap64 (Int.tdiv (wrap64 (a0)) 256)) 256)).bind fun t220 => (if (((t218 ++ (⟨#[46]⟩ : ByteArray)) ++ t219) ++ (⟨#[46]⟩ : ByteArray)).size + t220.size ≤ 9223372036854775807 then (if ((((t218 ++ (⟨#[46]⟩ : ByteArray)) ++ t219) ++ (⟨#[46]⟩ : ByteArray)) ++ t220).size + 1 ≤ 9223372036854775807 then ((trunklineref01_number.f (Int.tmod (wrap64 (a0)) 256)).bind fun t221 => (if (((((t218 ++ (⟨#[46]⟩ : ByteArray)) ++ t219) ++ (⟨#[46]⟩ : ByteArray)) ++ t220) ++ (⟨#[46]⟩ : ByteArray)).size + t221.size ≤ 9223372036854775807 then (some ((((((t218 ++ (⟨#[46]⟩ : ByteArray)) ++ t219) ++ (⟨#[46]⟩ : ByteArray)) ++ t220) ++ (⟨#[46]⟩ : ByteArray)) ++ t221)) else (none))) else (none)) else (none))) else (none)) else (none))) else (none))
set_option maxHeartbeats 8000000 in
set_option maxRecDepth 100000 in
theorem trunklineref01_AddrText.calls (a0 : Int) (r : ByteArray) (w : World) (h : trunklineref01_AddrText.f a0 = some r) :
    Calls Tryd.prog 13 #[.int .u32 a0] w fun e w' => e = .returned (.string r) ∧ Below w.heap.size w w' := by
  have HB := Aside0.mk (Below.refl w.heap.size w)
  have H : ((trunklineref01_number.f (wrap64 (Int.tdiv (wrap64 (a0)) 16777216))).bind fun t218 => (if t218.size + 1 ≤ 9223372036854775807 then ((trunklineref01_number.f (Int.tmod (wrap64 (Int.tdiv (wrap64 (a0)) 65536)) 256)).bind fun t219 => (if (t218 ++ (⟨#[46]⟩ : ByteArray)).size + t219.size ≤ 9223372036854775807 then (if ((t218 ++ (⟨#[46]⟩ : ByteArray)) ++ t219).size + 1 ≤ 9223372036854775807 then ((trunklineref01_number.f (Int.tmod (wrap64 (Int.tdiv (wrap64 (a0)) 256)) 256)).bind fun t220 => (if (((t218 ++ (⟨#[46]⟩ : ByteArray)) ++ t219) ++ (⟨#[46]⟩ : ByteArray)).size + t220.size ≤ 9223372036854775807 then (if ((((t218 ++ (⟨#[46]⟩ : ByteArray)) ++ t219) ++ (⟨#[46]⟩ : ByteArray)) ++ t220).size + 1 ≤ 9223372036854775807 then ((trunklineref01_number.f (Int.tmod (wrap64 (a0)) 256)).bind fun t221 => (if (((((t218 ++ (⟨#[46]⟩ : ByteArray)) ++ t219) ++ (⟨#[46]⟩ : ByteArray)) ++ t220) ++ (⟨#[46]⟩ : ByteArray)).size + t221.size ≤ 9223372036854775807 then (some ((((((t218 ++ (⟨#[46]⟩ : ByteArray)) ++ t219) ++ (⟨#[46]⟩ : ByteArray)) ++ t220) ++ (⟨#[46]⟩ : ByteArray)) ++ t221)) else (none))) else (none)) else (none))) else (none)) else (none))) else (none))) = some r := h
  clear h
  replace H := Option.bind_eq_some_iff.mp H
  obtain ⟨t218, A20, H⟩ := H
  replace H : (if t218.size + 1 ≤ 9223372036854775807 then ((trunklineref01_number.f (Int.tmod (wrap64 (Int.tdiv (wrap64 (a0)) 65536)) 256)).bind fun t219 => (if (t218 ++ (⟨#[46]⟩ : ByteArray)).size + t219.size ≤ 9223372036854775807 then (if ((t218 ++ (⟨#[46]⟩ : ByteArray)) ++ t219).size + 1 ≤ 9223372036854775807 then ((trunklineref01_number.f (Int.tmod (wrap64 (Int.tdiv (wrap64 (a0)) 256)) 256)).bind fun t220 => (if (((t218 ++ (⟨#[46]⟩ : ByteArray)) ++ t219) ++ (⟨#[46]⟩ : ByteArray)).size + t220.size ≤ 9223372036854775807 then (if ((((t218 ++ (⟨#[46]⟩ : ByteArray)) ++ t219) ++ (⟨#[46]⟩ : ByteArray)) ++ t220).size + 1 ≤ 9223372036854775807 then ((trunklineref01_number.f (Int.tmod (wrap64 (a0)) 256)).bind fun t221 => (if (((((t218 ++ (⟨#[46]⟩ : ByteArray)) ++ t219) ++ (⟨#[46]⟩ : ByteArray)) ++ t220) ++ (⟨#[46]⟩ : ByteArray)).size + t221.size ≤ 9223372036854775807 then (some ((((((t218 ++ (⟨#[46]⟩ : ByteArray)) ++ t219) ++ (⟨#[46]⟩ : ByteArray)) ++ t220) ++ (⟨#[46]⟩ : ByteArray)) ++ t221)) else (none))) else (none)) else (none))) else (none)) else (none))) else (none)) = some r := H
  have A2 := Aside0.mk A20
  clear A20
  by_cases c3 : t218.size + 1 ≤ 9223372036854775807
  · rw [if_pos c3] at H
    have c3b0 := eq_true c3
    have c3b1 : decide (t218.size + 1 ≤ 9223372036854775807) = true := decide_eq_true c3
    try have c3b2 : (9223372036854775807 < t218.size + 1) = False := eq_false (Nat.not_lt.2 c3)
    replace H := Option.bind_eq_some_iff.mp H
    obtain ⟨t219, A40, H⟩ := H
    replace H : (if (t218 ++ (⟨#[46]⟩ : ByteArray)).size + t219.size ≤ 9223372036854775807 then (if ((t218 ++ (⟨#[46]⟩ : ByteArray)) ++ t219).size + 1 ≤ 9223372036854775807 then ((trunklineref01_number.f (Int.tmod (wrap64 (Int.tdiv (wrap64 (a0)) 256)) 256)).bind fun t220 => (if (((t218 ++ (⟨#[46]⟩ : ByteArray)) ++ t219) ++ (⟨#[46]⟩ : ByteArray)).size + t220.size ≤ 9223372036854775807 then (if ((((t218 ++ (⟨#[46]⟩ : ByteArray)) ++ t219) ++ (⟨#[46]⟩ : ByteArray)) ++ t220).size + 1 ≤ 9223372036854775807 then ((trunklineref01_number.f (Int.tmod (wrap64 (a0)) 256)).bind fun t221 => (if (((((t218 ++ (⟨#[46]⟩ : ByteArray)) ++ t219) ++ (⟨#[46]⟩ : ByteArray)) ++ t220) ++ (⟨#[46]⟩ : ByteArray)).size + t221.size ≤ 9223372036854775807 then (some ((((((t218 ++ (⟨#[46]⟩ : ByteArray)) ++ t219) ++ (⟨#[46]⟩ : ByteArray)) ++ t220) ++ (⟨#[46]⟩ : ByteArray)) ++ t221)) else (none))) else (none)) else (none))) else (none)) else (none)) = some r := H
    have A4 := Aside0.mk A40
    clear A40
    by_cases c5 : (t218 ++ (⟨#[46]⟩ : ByteArray)).size + t219.size ≤ 9223372036854775807
    · rw [if_pos c5] at H
      have c5b0 := eq_true c5
      have c5b1 : decide ((t218 ++ (⟨#[46]⟩ : ByteArray)).size + t219.size ≤ 9223372036854775807) = true := decide_eq_true c5
      try have c5b2 : (9223372036854775807 < (t218 ++ (⟨#[46]⟩ : ByteArray)).size + t219.size) = False := eq_false (Nat.not_lt.2 c5)
      (try (have c5b3 := c5b2; simp only [ByteArray.size_append, show (⟨#[46]⟩ : ByteArray).size = 1 from rfl] at c5b3))
      by_cases c6 : ((t218 ++ (⟨#[46]⟩ : ByteArray)) ++ t219).size + 1 ≤ 9223372036854775807
      · rw [if_pos c6] at H
        have c6b0 := eq_true c6
        have c6b1 : decide (((t218 ++ (⟨#[46]⟩ : ByteArray)) ++ t219).size + 1 ≤ 9223372036854775807) = true := decide_eq_true c6
        try have c6b2 : (9223372036854775807 < ((t218 ++ (⟨#[46]⟩ : ByteArray)) ++ t219).size + 1) = False := eq_false (Nat.not_lt.2 c6)
        (try (have c6b3 := c6b2; simp only [ByteArray.size_append, show (⟨#[46]⟩ : ByteArray).size = 1 from rfl] at c6b3))
        replace H := Option.bind_eq_some_iff.mp H
        obtain ⟨t220, A70, H⟩ := H
        replace H : (if (((t218 ++ (⟨#[46]⟩ : ByteArray)) ++ t219) ++ (⟨#[46]⟩ : ByteArray)).size + t220.size ≤ 9223372036854775807 then (if ((((t218 ++ (⟨#[46]⟩ : ByteArray)) ++ t219) ++ (⟨#[46]⟩ : ByteArray)) ++ t220).size + 1 ≤ 9223372036854775807 then ((trunklineref01_number.f (Int.tmod (wrap64 (a0)) 256)).bind fun t221 => (if (((((t218 ++ (⟨#[46]⟩ : ByteArray)) ++ t219) ++ (⟨#[46]⟩ : ByteArray)) ++ t220) ++ (⟨#[46]⟩ : ByteArray)).size + t221.size ≤ 9223372036854775807 then (some ((((((t218 ++ (⟨#[46]⟩ : ByteArray)) ++ t219) ++ (⟨#[46]⟩ : ByteArray)) ++ t220) ++ (⟨#[46]⟩ : ByteArray)) ++ t221)) else (none))) else (none)) else (none)) = some r := H
        have A7 := Aside0.mk A70
        clear A70
        by_cases c8 : (((t218 ++ (⟨#[46]⟩ : ByteArray)) ++ t219) ++ (⟨#[46]⟩ : ByteArray)).size + t220.size ≤ 9223372036854775807
        · rw [if_pos c8] at H
          have c8b0 := eq_true c8
          have c8b1 : decide ((((t218 ++ (⟨#[46]⟩ : ByteArray)) ++ t219) ++ (⟨#[46]⟩ : ByteArray)).size + t220.size ≤ 9223372036854775807) = true := decide_eq_true c8
          try have c8b2 : (9223372036854775807 < (((t218 ++ (⟨#[46]⟩ : ByteArray)) ++ t219) ++ (⟨#[46]⟩ : ByteArray)).size + t220.size) = False := eq_false (Nat.not_lt.2 c8)
          (try (have c8b3 := c8b2; simp only [ByteArray.size_append, show (⟨#[46]⟩ : ByteArray).size = 1 from rfl] at c8b3))
          by_cases c9 : ((((t218 ++ (⟨#[46]⟩ : ByteArray)) ++ t219) ++ (⟨#[46]⟩ : ByteArray)) ++ t220).size + 1 ≤ 9223372036854775807
          · rw [if_pos c9] at H
            have c9b0 := eq_true c9
            have c9b1 : decide (((((t218 ++ (⟨#[46]⟩ : ByteArray)) ++ t219) ++ (⟨#[46]⟩ : ByteArray)) ++ t220).size + 1 ≤ 9223372036854775807) = true := decide_eq_true c9
            try have c9b2 : (9223372036854775807 < ((((t218 ++ (⟨#[46]⟩ : ByteArray)) ++ t219) ++ (⟨#[46]⟩ : ByteArray)) ++ t220).size + 1) = False := eq_false (Nat.not_lt.2 c9)
            (try (have c9b3 := c9b2; simp only [ByteArray.size_append, show (⟨#[46]⟩ : ByteArray).size = 1 from rfl] at c9b3))
            replace H := Option.bind_eq_some_iff.mp H
            obtain ⟨t221, A100, H⟩ := H
            replace H : (if (((((t218 ++ (⟨#[46]⟩ : ByteArray)) ++ t219) ++ (⟨#[46]⟩ : ByteArray)) ++ t220) ++ (⟨#[46]⟩ : ByteArray)).size + t221.size ≤ 9223372036854775807 then (some ((((((t218 ++ (⟨#[46]⟩ : ByteArray)) ++ t219) ++ (⟨#[46]⟩ : ByteArray)) ++ t220) ++ (⟨#[46]⟩ : ByteArray)) ++ t221)) else (none)) = some r := H
            have A10 := Aside0.mk A100
            clear A100
            by_cases c11 : (((((t218 ++ (⟨#[46]⟩ : ByteArray)) ++ t219) ++ (⟨#[46]⟩ : ByteArray)) ++ t220) ++ (⟨#[46]⟩ : ByteArray)).size + t221.size ≤ 9223372036854775807
            · rw [if_pos c11] at H
              have c11b0 := eq_true c11
              have c11b1 : decide ((((((t218 ++ (⟨#[46]⟩ : ByteArray)) ++ t219) ++ (⟨#[46]⟩ : ByteArray)) ++ t220) ++ (⟨#[46]⟩ : ByteArray)).size + t221.size ≤ 9223372036854775807) = true := decide_eq_true c11
              try have c11b2 : (9223372036854775807 < (((((t218 ++ (⟨#[46]⟩ : ByteArray)) ++ t219) ++ (⟨#[46]⟩ : ByteArray)) ++ t220) ++ (⟨#[46]⟩ : ByteArray)).size + t221.size) = False := eq_false (Nat.not_lt.2 c11)
              (try (have c11b3 := c11b2; simp only [ByteArray.size_append, show (⟨#[46]⟩ : ByteArray).size = 1 from rfl] at c11b3))
              obtain rfl := Option.some.inj H
              go_enter Tryd.func13, Tryd.ntmps13
              go_wp2_with (first | ((with_reducible refine gate_callee (f := 21) rfl ?_); refine goesL_ (some 8) rfl rfl Tryd.func21 (by kernel_rfl) rfl #[.int .i64 (wrap64 (Int.tdiv (wrap64 (a0)) 16777216))] rfl (by (try simp only [List.map_toArray, List.map_cons, List.map_nil]); first | done | rfl | (simp only [List.length_drop, List.length_take]; rfl)) ?_; (with_reducible refine (trunklineref01_number.calls (wrap64 (Int.tdiv (wrap64 (a0)) 16777216)) t218 _ A2.out).mono ?_); rintro e w12 ⟨rfl, hb⟩; refine ⟨_, rfl, ?_⟩; have n0_ := Aside0.mk (below_step (by repeat (first | (with_reducible first | exact HB.out | apply below_alloc | apply pw_below_drewN | apply below_drew1) | exact HB.out)) hb); clear HB; have HB := n0_; clear n0_; (try clear hb); (try clear hb2); (try clear hk); (try clear hi)) | ((with_reducible refine gate_callee (f := 21) rfl ?_); refine goesL_ (some 13) rfl rfl Tryd.func21 (by kernel_rfl) rfl #[.int .i64 (Int.tmod (wrap64 (Int.tdiv (wrap64 (a0)) 65536)) 256)] rfl (by (try simp only [List.map_toArray, List.map_cons, List.map_nil]); first | done | rfl | (simp only [List.length_drop, List.length_take]; rfl)) ?_; (with_reducible refine (trunklineref01_number.calls (Int.tmod (wrap64 (Int.tdiv (wrap64 (a0)) 65536)) 256) t219 _ A4.out).mono ?_); rintro e w13 ⟨rfl, hb⟩; refine ⟨_, rfl, ?_⟩; have n0_ := Aside0.mk (below_step (by repeat (first | (with_reducible first | exact HB.out | apply below_alloc | apply pw_below_drewN | apply below_drew1) | exact HB.out)) hb); clear HB; have HB := n0_; clear n0_; (try clear hb); (try clear hb2); (try clear hk); (try clear hi)) | ((with_reducible refine gate_callee (f := 21) rfl ?_); refine goesL_ (some 19) rfl rfl Tryd.func21 (by kernel_rfl) rfl #[.int .i64 (Int.tmod (wrap64 (Int.tdiv (wrap64 (a0)) 256)) 256)] rfl (by (try simp only [List.map_toArray, List.map_cons, List.map_nil]); first | done | rfl | (simp only [List.length_drop, List.length_take]; rfl)) ?_; (with_reducible refine (trunklineref01_number.calls (Int.tmod (wrap64 (Int.tdiv (wrap64 (a0)) 256)) 256) t220 _ A7.out).mono ?_); rintro e w14 ⟨rfl, hb⟩; refine ⟨_, rfl, ?_⟩; have n0_ := Aside0.mk (below_step (by repeat (first | (with_reducible first | exact HB.out | apply below_alloc | apply pw_below_drewN | apply below_drew1) | exact HB.out)) hb); clear HB; have HB := n0_; clear n0_; (try clear hb); (try clear hb2); (try clear hk); (try clear hi)) | ((with_reducible refine gate_callee (f := 21) rfl ?_); refine goesL_ (some 24) rfl rfl Tryd.func21 (by kernel_rfl) rfl #[.int .i64 (Int.tmod (wrap64 (a0)) 256)] rfl (by (try simp only [List.map_toArray, List.map_cons, List.map_nil]); first | done | rfl | (simp only [List.length_drop, List.length_take]; rfl)) ?_; (with_reducible refine (trunklineref01_number.calls (Int.tmod (wrap64 (a0)) 256) t221 _ A10.out).mono ?_); rintro e w15 ⟨rfl, hb⟩; refine ⟨_, rfl, ?_⟩; have n0_ := Aside0.mk (below_step (by repeat (first | (with_reducible first | exact HB.out | apply below_alloc | apply pw_below_drewN | apply below_drew1) | exact HB.out)) hb); clear HB; have HB := n0_; clear n0_; (try clear hb); (try clear hb2); (try clear hk); (try clear hi)))
              go_ret
              exact ⟨by first | rfl | (simp [errW_none, errW_some] <;> rfl) | (simp [*, errW_none, errW_some] <;> rfl), by repeat (first | (with_reducible first | exact HB.out | apply below_alloc | apply pw_below_drewN | apply below_drew1) | exact HB.out)⟩
            · rw [if_neg c11] at H
              exact absurd H (by simp)
          · rw [if_neg c9] at H
            exact absurd H (by simp)
        · rw [if_neg c8] at H
          exact absurd H (by simp)
      · rw [if_neg c6] at H
        exact absurd H (by simp)
    · rw [if_neg c5] at H
      exact absurd H (by simp)
  · rw [if_neg c3] at H
    exact absurd H (by simp)

end Go.Proofs.YtndoankacnjhoaaDoor.M
