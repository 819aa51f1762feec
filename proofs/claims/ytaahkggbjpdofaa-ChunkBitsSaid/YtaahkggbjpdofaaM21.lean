-- Printed by this session's mp.py over the kit's print (turned in memory). Not trusted: Lean checks it.
import Derived.Test.YtaahkggbjpdofaaM0
import Derived.Test.YtaahkggbjpdofaaM16
import Derived.Test.YtaahkggbjpdofaaM17
import Derived.Test.YtaahkggbjpdofaaM18
namespace Go.Proofs.Ytaahkggbjpdofaa.M
open Go.RowKit Go.Proofs.YtaahkggbjpdofaaW.PrintWords Go.Proofs.YtaahkggbjpdofaaW.PrintLast Go.Proofs.YtaahkggbjpdofaaW.PrintMore
attribute [local go_sem] max2_int min2_int max_two min_two max_three min_three max_four min_four   -- for this text's walks alone
set_option linter.unusedVariables false
set_option linter.unusedSimpArgs false

/-! ### trunklinelaw12_ChunkBits: function 10 -/
def trunklinelaw12_ChunkBits.f (k : Nat) (a0 : Int) : Option (Bool) := (trunklinelaw12_live.f k).bind fun t207 => (if t207 = true then ((chunk_Stops.f a0).bind fun t208 => (if (t208 == (decide (a0 < 128))) = true then ((chunk_Tells.f a0).bind fun t209 => (if (t209 == ((((Int.tdiv a0 64) % 256) % 2) == 1)) = true then ((chunk_Name.f a0).bind fun t210 => ((trunklineref12_Name.f a0).bind fun t211 => (some (t210.toList == t211.toList)))) else (some false))) else (some false))) else (some false))
theorem trunklinelaw12_ChunkBits.mono : ∀ a0 k, LeO (trunklinelaw12_ChunkBits.f k a0) (trunklinelaw12_ChunkBits.f (k + 1) a0) := by
  intro a0 k
  unfold trunklinelaw12_ChunkBits.f
  repeat' first
      | (with_reducible exact trunklinelaw12_live.mono _)
      | (with_reducible exact LeO.refl _)
      | (with_reducible exact LeO.none _)
      | (with_reducible refine LeO.ite ?_ ?_)
      | (with_reducible refine LeO.bind ?_ (fun _ => ?_))
      | exact trunklinelaw12_live.mono _
      | exact LeO.none _
      | refine LeO.ite ?_ ?_
      | refine LeO.bind ?_ (fun _ => ?_)
set_option maxHeartbeats 8000000 in
set_option maxRecDepth 100000 in
theorem trunklinelaw12_ChunkBits.calls (k : Nat) (a0 : Int) (r : Bool) (w : World) (hr_ : r = true) (h : trunklinelaw12_ChunkBits.f k a0 = some r) :
    Calls Try.prog 10 #[.int .u8 a0] w fun e w' => e = .returned (.bool r) ∧ Below w.heap.size w w' := by
  have HRT := Aside0.mk hr_
  clear hr_
  have HB := Aside0.mk (Below.refl w.heap.size w)
  have H : ((trunklinelaw12_live.f k).bind fun t207 => (if t207 = true then ((chunk_Stops.f a0).bind fun t208 => (if (t208 == (decide (a0 < 128))) = true then ((chunk_Tells.f a0).bind fun t209 => (if (t209 == ((((Int.tdiv a0 64) % 256) % 2) == 1)) = true then ((chunk_Name.f a0).bind fun t210 => ((trunklineref12_Name.f a0).bind fun t211 => (some (t210.toList == t211.toList)))) else (some false))) else (some false))) else (some false))) = some r := h
  clear h
  replace H := Option.bind_eq_some_iff.mp H
  obtain ⟨t207, A20, H⟩ := H
  replace H : (if t207 = true then ((chunk_Stops.f a0).bind fun t208 => (if (t208 == (decide (a0 < 128))) = true then ((chunk_Tells.f a0).bind fun t209 => (if (t209 == ((((Int.tdiv a0 64) % 256) % 2) == 1)) = true then ((chunk_Name.f a0).bind fun t210 => ((trunklineref12_Name.f a0).bind fun t211 => (some (t210.toList == t211.toList)))) else (some false))) else (some false))) else (some false)) = some r := H
  have A2 := Aside0.mk A20
  clear A20
  by_cases c3 : t207 = true
  · subst c3
    have H1 : ((chunk_Stops.f a0).bind fun t208 => (if (t208 == (decide (a0 < 128))) = true then ((chunk_Tells.f a0).bind fun t209 => (if (t209 == ((((Int.tdiv a0 64) % 256) % 2) == 1)) = true then ((chunk_Name.f a0).bind fun t210 => ((trunklineref12_Name.f a0).bind fun t211 => (some (t210.toList == t211.toList)))) else (some false))) else (some false))) = some r := by rw [if_pos rfl] at H; exact H
    clear H
    have H := H1
    clear H1
    replace H := Option.bind_eq_some_iff.mp H
    obtain ⟨t208, A40, H⟩ := H
    replace H : (if (t208 == (decide (a0 < 128))) = true then ((chunk_Tells.f a0).bind fun t209 => (if (t209 == ((((Int.tdiv a0 64) % 256) % 2) == 1)) = true then ((chunk_Name.f a0).bind fun t210 => ((trunklineref12_Name.f a0).bind fun t211 => (some (t210.toList == t211.toList)))) else (some false))) else (some false)) = some r := H
    have A4 := Aside0.mk A40
    clear A40
    by_cases c5 : (t208 == (decide (a0 < 128))) = true
    · rw [if_pos c5] at H
      have c5b0 : (t208 == (decide (a0 < 128))) = true := c5
      (try (have c5b1 : decide (t208 = (decide (a0 < 128))) = true := by simpa using c5))
      (try (have c5b2 : (t208 == (decide (a0 < 128))) = true := by simpa using c5))
      clear c5
      replace H := Option.bind_eq_some_iff.mp H
      obtain ⟨t209, A60, H⟩ := H
      replace H : (if (t209 == ((((Int.tdiv a0 64) % 256) % 2) == 1)) = true then ((chunk_Name.f a0).bind fun t210 => ((trunklineref12_Name.f a0).bind fun t211 => (some (t210.toList == t211.toList)))) else (some false)) = some r := H
      have A6 := Aside0.mk A60
      clear A60
      by_cases c7 : (t209 == ((((Int.tdiv a0 64) % 256) % 2) == 1)) = true
      · rw [if_pos c7] at H
        have c7b0 : (t209 == ((((Int.tdiv a0 64) % 256) % 2) == 1)) = true := c7
        have c7b7 : (t209 == (((Int.tdiv a0 64) % 2) == 1)) = true := by have h := c7b0; rwa [show ((Int.tdiv a0 64) % 256) % 2 = (Int.tdiv a0 64) % 2 from by omega] at h
        (try (have c7b1 : decide (t209 = ((((Int.tdiv a0 64) % 256) % 2) == 1)) = true := by simpa using c7))
        (try (have c7b2 : (t209 == ((((Int.tdiv a0 64) % 256) % 2) == 1)) = true := by simpa using c7))
        clear c7
        replace H := Option.bind_eq_some_iff.mp H
        obtain ⟨t210, A80, H⟩ := H
        replace H : ((trunklineref12_Name.f a0).bind fun t211 => (some (t210.toList == t211.toList))) = some r := H
        have A8 := Aside0.mk A80
        clear A80
        replace H := Option.bind_eq_some_iff.mp H
        obtain ⟨t211, A90, H⟩ := H
        replace H : (some (t210.toList == t211.toList)) = some r := H
        have A9 := Aside0.mk A90
        clear A90
        obtain rfl := Option.some.inj H
        go_enter Try.func10, Try.ntmps10
        go_wp2_with (first | ((with_reducible refine gate_callee (f := 11) rfl ?_); refine goesL_ (some 3) rfl rfl Try.func11 (by kernel_rfl) rfl #[] rfl (by (try simp only [List.map_toArray, List.map_cons, List.map_nil]); first | done | rfl | (simp only [List.length_drop, List.length_take]; rfl)) ?_; (with_reducible refine (trunklinelaw12_live.calls k  true _ A2.out).mono ?_); rintro e w10 ⟨rfl, hb⟩; refine ⟨_, rfl, ?_⟩; have n0_ := Aside0.mk (below_step (by repeat (first | (with_reducible first | exact HB.out | apply below_alloc | apply pw_below_drewN | apply below_drew1) | exact HB.out)) hb); clear HB; have HB := n0_; clear n0_; (try clear hb); (try clear hb2); (try clear hk); (try clear hi)) | (go_at_call 21; (with_reducible refine (chunk_Stops.calls a0 t208 _ A4.out).mono ?_); rintro e w' ⟨rfl, ⟨nd, rfl⟩⟩) | (go_at_call 22; (with_reducible refine (chunk_Tells.calls a0 t209 _ A6.out).mono ?_); rintro e w' ⟨rfl, ⟨nd, rfl⟩⟩) | (go_at_call 23; (with_reducible refine (chunk_Name.calls a0 t210 _ A8.out).mono ?_); rintro e w11 ⟨rfl, hb⟩; have n0_ := Aside0.mk (below_step (by repeat (first | (with_reducible first | exact HB.out | apply below_alloc | apply pw_below_drewN | apply below_drew1) | exact HB.out)) hb); clear HB; have HB := n0_; clear n0_; (try clear hb); (try clear hb2); (try clear hk); (try clear hi)) | (go_at_call 24; (with_reducible refine (trunklineref12_Name.calls a0 t211 _ A9.out).mono ?_); rintro e w12 ⟨rfl, hb⟩; have n0_ := Aside0.mk (below_step (by repeat (first | (with_reducible first | exact HB.out | apply below_alloc | apply pw_below_drewN | apply below_drew1) | exact HB.out)) hb); clear HB; have HB := n0_; clear n0_; (try clear hb); (try clear hb2); (try clear hk); (try clear hi)))
        go_ret
        exact ⟨by first | rfl | (simp [errW_none, errW_some] <;> rfl) | (simp [*, errW_none, errW_some] <;> rfl), by repeat (first | (with_reducible first | exact HB.out | apply below_alloc | apply pw_below_drewN | apply below_drew1) | exact HB.out)⟩
      · rw [if_neg c7] at H
        have c7b0 : (t209 == ((((Int.tdiv a0 64) % 256) % 2) == 1)) = false := by simpa using c7
        have c7b7 : (t209 == (((Int.tdiv a0 64) % 2) == 1)) = false := by have h := c7b0; rwa [show ((Int.tdiv a0 64) % 256) % 2 = (Int.tdiv a0 64) % 2 from by omega] at h
        (try (have c7b1 : decide (t209 = ((((Int.tdiv a0 64) % 256) % 2) == 1)) = false := by simpa using c7))
        (try (have c7b2 : (t209 == ((((Int.tdiv a0 64) % 256) % 2) == 1)) = false := by simpa using c7))
        (try (have c7b3 : ¬ (t209 = ((((Int.tdiv a0 64) % 256) % 2) == 1)) := by simpa using c7))
        clear c7
        rw [HRT.out] at H
        exact absurd H (by simp)
    · rw [if_neg c5] at H
      have c5b0 : (t208 == (decide (a0 < 128))) = false := by simpa using c5
      (try (have c5b1 : decide (t208 = (decide (a0 < 128))) = false := by simpa using c5))
      (try (have c5b2 : (t208 == (decide (a0 < 128))) = false := by simpa using c5))
      (try (have c5b3 : ¬ (t208 = (decide (a0 < 128))) := by simpa using c5))
      clear c5
      rw [HRT.out] at H
      exact absurd H (by simp)
  · replace c3 := Bool.eq_false_iff.mpr c3
    subst c3
    have H1 : (some false) = some r := by rw [if_neg (show ¬ (false = true) by decide)] at H; exact H
    clear H
    have H := H1
    clear H1
    rw [HRT.out] at H
    exact absurd H (by simp)

/-- THE ONE PURE STATEMENT of trunklinelaw12_ChunkBits: yours. -/
def trunklinelaw12_ChunkBits.Pure : Prop := ∀ (a0 : Int), (Lit.int .u8 a0).wf = true → ∃ k, trunklinelaw12_ChunkBits.f k a0 = some true
theorem trunklinelaw12_ChunkBits.walk (P : trunklinelaw12_ChunkBits.Pure) (a0 : Int) (w : World) (w0 : (Lit.int .u8 a0).wf = true) :
    Calls Try.prog 10 #[.int .u8 a0] w fun e w' => e = .returned (.bool true) ∧ Below w.heap.size w w' := by
  obtain ⟨k, h⟩ := P a0 w0
  refine (trunklinelaw12_ChunkBits.calls k a0 true w rfl h).mono ?_
  rintro e w' ⟨rfl, hd⟩
  exact ⟨rfl, hd⟩

end Go.Proofs.Ytaahkggbjpdofaa.M
