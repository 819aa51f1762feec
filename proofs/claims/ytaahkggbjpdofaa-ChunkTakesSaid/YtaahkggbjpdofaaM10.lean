-- Printed by this session's mp.py over the kit's print (turned in memory). Not trusted: Lean checks it.
import Derived.Test.YtaahkggbjpdofaaM0
import Derived.Test.YtaahkggbjpdofaaHClone
section
namespace Go.Proofs.Ytaahkggbjpdofaa.M
open Go.RowKit Go.Proofs.YtaahkggbjpdofaaW.PrintWords Go.Proofs.YtaahkggbjpdofaaW.PrintLast Go.Proofs.YtaahkggbjpdofaaW.PrintMore
attribute [local go_sem] max2_int min2_int max_two min_two max_three min_three max_four min_four   -- for this text's walks alone
set_option linter.unusedVariables false
set_option linter.unusedSimpArgs false

/-! ### octet_Pad: function 33 -/
def octet_Pad.f (l0 : List Int) (a1 : Int) : Option (List Int × Int) := if a1 < 1 then (some (([] : List Int), 2)) else (if a1 > 64 then (some (([] : List Int), 2)) else ((slices_Clone_byte_byte.f l0).bind fun t131 => (if a1 = 0 then (none) else (if 0 ≤ (Int.tmod (wrap64 (a1 - (Int.tmod (l0.length : Int) a1))) a1) then (if t131.length + (Int.tmod (wrap64 (a1 - (Int.tmod (l0.length : Int) a1))) a1 : Int).toNat < 140737488355328 then (some ((t131 ++ List.replicate (Int.tmod (wrap64 (a1 - (Int.tmod (l0.length : Int) a1))) a1 : Int).toNat 0), 0)) else (none)) else (none)))))
def octet_Pad.T3 : Bool × List (List Nat × List Nat) := (true, [([], []), ([0], [0]), ([], []), ([], []), ([3], [3]), ([], []), ([4, 5], [4, 5]), ([2, 6], [2, 6]), ([], []), ([7, 8], [7, 8]), ([1, 9, 1], [1, 9]), ([10, 10, 0, 1, 2, 3, 4, 5, 6, 7, 8, 9, 10], [10]), ([11, 0, 1, 2, 3, 4, 5, 6, 7, 8, 9, 10, 11], [])])
def octet_Pad.B3 : List Nat := [0, 1, 0, 0, 8, 0, 56, 124, 0, 508, 1023, 2047, 4095]
theorem octet_Pad.tab3 : rtab .any (opsOf Try.f33 3) = octet_Pad.T3 := by kernel_rfl
theorem octet_Pad.bits3 : waitsOk octet_Pad.T3.2 octet_Pad.B3 = true := by kernel_rfl
set_option maxHeartbeats 8000000 in
set_option maxRecDepth 100000 in
theorem octet_Pad.calls (A0 : Option Addr) (c0 : Nat) (l0 : List Int) (a1 : Int) (r1 : List Int) (r2 : Int) (w : World) (hr0 : Kd.C (Kd.int .u8) w A0 l0.length l0) (hc0 : l0.length ≤ c0) (h : octet_Pad.f l0 a1 = some (r1, r2)) :
  Calls Try.prog 33 #[.slice A0 l0.length c0, .int .i64 a1] w fun e w' => ∃ v0_ : Value, e = .returned (.tuple #[v0_, .int .i64 r2]) ∧ Kd.R (Kd.int .u8) 5 w' w.heap.size (fun _ => True) v0_ r1 ∧ Below w.heap.size w w' := by
 have HR0 := Aside0.mk hr0
 have HC0 := Aside0.mk hc0
 clear hr0 hc0
 have HB := Aside0.mk (Below.refl w.heap.size w)
 have H : (if a1 < 1 then (some (([] : List Int), 2)) else (if a1 > 64 then (some (([] : List Int), 2)) else ((slices_Clone_byte_byte.f l0).bind fun t131 => (if a1 = 0 then (none) else (if 0 ≤ (Int.tmod (wrap64 (a1 - (Int.tmod (l0.length : Int) a1))) a1) then (if t131.length + (Int.tmod (wrap64 (a1 - (Int.tmod (l0.length : Int) a1))) a1 : Int).toNat < 140737488355328 then (some ((t131 ++ List.replicate (Int.tmod (wrap64 (a1 - (Int.tmod (l0.length : Int) a1))) a1 : Int).toNat 0), 0)) else (none)) else (none)))))) = some (r1, r2) := h
 clear h
 by_cases c3 : a1 < 1
 ·rw [if_pos c3] at H
  have c3b0 : decide (a1 < 1) = true := decide_eq_true c3
  clear c3
  simp only [Option.some.injEq, Prod.mk.injEq] at H
  obtain ⟨rfl, rfl⟩ := H
  go_enter Try.func33, Try.ntmps33
  go_wp2
  go_ret2
  exact ⟨_, by first | rfl | (simp [errW_none, errW_some] <;> rfl) | (simp [*, errW_none, errW_some] <;> rfl), by first | exact Kd.R_nil _ _ _ _ _ | exact Kd.N_nil _ _ _ _ _ | exact Kd.V_nil _ _ _ _ _ | exact Kd.Q_nil _ _ _ _ _ | exact Kd.S_nil _ _ _ _ _, by repeat (first | (with_reducible first | exact HB.out | apply below_alloc | apply pw_below_drewN | apply below_drew1) | exact HB.out)⟩
 ·rw [if_neg c3] at H
  have c3b0 : decide (a1 < 1) = false := decide_eq_false c3
  clear c3
  by_cases c4 : a1 > 64
  ·rw [if_pos c4] at H
   have c4b0 : decide (64 < a1) = true := decide_eq_true c4
   clear c4
   simp only [Option.some.injEq, Prod.mk.injEq] at H
   obtain ⟨rfl, rfl⟩ := H
   go_enter Try.func33, Try.ntmps33
   go_wp2
   go_ret2
   exact ⟨_, by first | rfl | (simp [errW_none, errW_some] <;> rfl) | (simp [*, errW_none, errW_some] <;> rfl), by first | exact Kd.R_nil _ _ _ _ _ | exact Kd.N_nil _ _ _ _ _ | exact Kd.V_nil _ _ _ _ _ | exact Kd.Q_nil _ _ _ _ _ | exact Kd.S_nil _ _ _ _ _, by repeat (first | (with_reducible first | exact HB.out | apply below_alloc | apply pw_below_drewN | apply below_drew1) | exact HB.out)⟩
  ·rw [if_neg c4] at H
   have c4b0 : decide (64 < a1) = false := decide_eq_false c4
   clear c4
   replace H := Option.bind_eq_some_iff.mp H
   obtain ⟨t131, A50, H⟩ := H
   replace H : (if a1 = 0 then (none) else (if 0 ≤ (Int.tmod (wrap64 (a1 - (Int.tmod (l0.length : Int) a1))) a1) then (if t131.length + (Int.tmod (wrap64 (a1 - (Int.tmod (l0.length : Int) a1))) a1 : Int).toNat < 140737488355328 then (some ((t131 ++ List.replicate (Int.tmod (wrap64 (a1 - (Int.tmod (l0.length : Int) a1))) a1 : Int).toNat 0), 0)) else (none)) else (none))) = some (r1, r2) := H
   have A5 := Aside0.mk A50
   clear A50
   by_cases c6 : a1 = 0
   ·rw [if_pos c6] at H
    exact absurd H (by simp)
   ·rw [if_neg c6] at H
    have c6b0 : (a1 == 0) = false := beq_eq_false_iff_ne.mpr c6
    have c6b1 : (a1 != 0) = true := bne_iff_ne.mpr c6
    obtain ⟨ji7, hji7⟩ : ∃ j_ : Int, (Int.tmod (wrap64 (a1 - (Int.tmod (l0.length : Int) a1))) a1) = j_ := ⟨_, rfl⟩
    replace H : (if 0 ≤ (ji7) then (if t131.length + (ji7 : Int).toNat < 140737488355328 then (some ((t131 ++ List.replicate (ji7 : Int).toNat 0), 0)) else (none)) else (none)) = some (r1, r2) := by first | (rw [hji7] at H; exact H) | (simp only [hji7] at H ⊢; exact H)
    (try rw [hji7] at A5)
    by_cases c8 : 0 ≤ (ji7)
    ·rw [if_pos c8] at H
     have c8b0 := eq_true c8
     have c8b1 : decide (0 ≤ (ji7)) = true := decide_eq_true c8
     clear c8
     by_cases c9 : t131.length + (ji7 : Int).toNat < 140737488355328
     ·rw [if_pos c9] at H
      have LMc9 := Aside0.mk c9
      clear c9
      obtain ⟨y134, hy134⟩ : ∃ y_ : List Int, y_ = (t131 ++ List.replicate (ji7 : Int).toNat 0) := ⟨_, rfl⟩
      replace H : (some (y134, 0)) = some (r1, r2) := by first | (rw [hy134]; with_reducible exact H) | (have H2_ := (Option.bind_some _ _).symm.trans H; rw [hy134]; with_reducible exact H2_) | (have H2_ := (Option.bind_some _ _).symm.trans H; with_reducible exact H2_) | with_reducible exact H | (rw [hy134]; exact H) | exact H
      have Ny134 := Aside0.mk hy134
      clear hy134
      simp only [Option.some.injEq, Prod.mk.injEq] at H
      obtain ⟨rfl, rfl⟩ := H
      go_enter Try.func33, Try.ntmps33
      try go_wp2
      have n0_ := Aside0.mk (below_drew1 HB.out)
      clear HB
      have HB := n0_
      clear n0_
      refine start_ (n := 13) (S := fun w' => True) (ds := []) #[false, false, false, false, false, false, false, false, false, false, false, false, false] (by kernel_rfl) rfl rfl trivial (fun hHeld => ?_); refine with_tabW octet_Pad.tab3 octet_Pad.bits3 (fun HT_ HW_ => ?_)
      generalize w.drew = w10 at HB hHeld ⊢
      refine pure_ (i := 0) (N := some 12) (v := ?_) (a' := ?_) #[true, false, false, false, false, false, false, false, false, false, false, false, false] rfl rfl (any_of HT_.out (by kernel_rfl)) (fun _ _ _ h => h) (Or.inl ⟨by rfl, ?_⟩) ?_ ?_
      rotate_left
      ·intro w'
       go_simp
       with_reducible rfl
      rotate_left
      ·simp only [Act.put, List.setIfInBounds_toArray, List.set_cons_zero, List.set_cons_succ, i64_w, i32_w]
       rfl
      refine pure_ (i := 2) (N := some 14) (v := ?_) (a' := ?_) #[true, false, true, false, false, false, false, false, false, false, false, false, false] rfl rfl (any_of HT_.out (by kernel_rfl)) (fun _ _ _ h => h) (Or.inl ⟨by rfl, ?_⟩) ?_ ?_
      rotate_left
      ·intro w'
       go_simp
       with_reducible rfl
      rotate_left
      ·simp only [Act.put, List.setIfInBounds_toArray, List.set_cons_zero, List.set_cons_succ, i64_w, i32_w]
       rfl
      refine pure_ (i := 3) (N := some 15) (v := ?_) (a' := ?_) #[true, false, true, true, false, false, false, false, false, false, false, false, false] rfl rfl (any_of HT_.out (by kernel_rfl)) (fun _ _ _ h => h) (Or.inl ⟨by rfl, ?_⟩) ?_ ?_
      rotate_left
      ·intro w'
       go_simp
       with_reducible rfl
      rotate_left
      ·simp only [Act.put, List.setIfInBounds_toArray, List.set_cons_zero, List.set_cons_succ, i64_w, i32_w]
       rfl
      refine pure_ (i := 4) (N := some 16) (v := ?_) (a' := ?_) #[true, false, true, true, true, false, false, false, false, false, false, false, false] rfl rfl (any_of HT_.out (by kernel_rfl)) (fun _ _ _ h => h) (Or.inl ⟨by rfl, ?_⟩) ?_ ?_
      rotate_left
      ·intro w'
       go_simp
       with_reducible rfl
      rotate_left
      ·simp only [Act.put, List.setIfInBounds_toArray, List.set_cons_zero, List.set_cons_succ, i64_w, i32_w]
       rfl
      refine pure_ (i := 5) (N := some 17) (v := ?_) (a' := ?_) #[true, false, true, true, true, true, false, false, false, false, false, false, false] rfl rfl (any_of HT_.out (by kernel_rfl)) (fun _ _ _ h => h) (Or.inl ⟨by rfl, ?_⟩) ?_ ?_
      rotate_left
      ·intro w'
       go_simp
       with_reducible rfl
      rotate_left
      ·simp only [Act.put, List.setIfInBounds_toArray, List.set_cons_zero, List.set_cons_succ, i64_w, i32_w]
       rfl
      refine pure_ (i := 6) (N := some 18) (v := ?_) (a' := ?_) #[true, false, true, true, true, true, true, false, false, false, false, false, false] rfl rfl (any_of HT_.out (by kernel_rfl)) (fun _ _ _ h => h) (Or.inl ⟨by rfl, ?_⟩) ?_ ?_
      rotate_left
      ·intro w'
       go_simp
       with_reducible rfl
      rotate_left
      ·simp only [Act.put, List.setIfInBounds_toArray, List.set_cons_zero, List.set_cons_succ, i64_w, i32_w]
       rfl
      refine pure_ (i := 7) (N := some 19) (v := ?_) (a' := ?_) #[true, false, true, true, true, true, true, true, false, false, false, false, false] rfl rfl (any_of HT_.out (by kernel_rfl)) (fun _ _ _ h => h) (Or.inl ⟨by rfl, ?_⟩) ?_ ?_
      rotate_left
      ·intro w'
       go_simp
       with_reducible rfl
      rotate_left
      ·simp only [Act.put, List.setIfInBounds_toArray, List.set_cons_zero, List.set_cons_succ, i64_w, i32_w]
       rfl
      refine pure_ (i := 8) (N := some 20) (v := ?_) (a' := ?_) #[true, false, true, true, true, true, true, true, true, false, false, false, false] rfl rfl (any_of HT_.out (by kernel_rfl)) (fun _ _ _ h => h) (Or.inl ⟨by rfl, ?_⟩) ?_ ?_
      rotate_left
      ·intro w'
       go_simp
       with_reducible rfl
      rotate_left
      ·simp only [Act.put, List.setIfInBounds_toArray, List.set_cons_zero, List.set_cons_succ, i64_w, i32_w]
       rfl
      refine pure_ (i := 9) (N := some 21) (v := ?_) (a' := ?_) #[true, false, true, true, true, true, true, true, true, true, false, false, false] rfl rfl (any_of HT_.out (by kernel_rfl)) (fun _ _ _ h => h) (Or.inl ⟨by rfl, ?_⟩) ?_ ?_
      rotate_left
      ·intro w'
       go_simp
       with_reducible rfl
      rotate_left
      ·simp only [Act.put, List.setIfInBounds_toArray, List.set_cons_zero, List.set_cons_succ, i64_w, i32_w]
       rfl
      refine one_ (i := 1) (N := some 13) #[true, true, true, true, true, true, true, true, true, true, false, false, false] rfl rfl (one_of HT_.out (by kernel_rfl)) (by decide) (fun K hK => ?_)
      refine goes_ Try.func50 (by kernel_rfl) rfl #[.slice A0 l0.length c0] (by rfl) rfl rfl (by (try simp only [List.map_toArray, List.map_cons, List.map_nil]); first | done | rfl | (simp only [List.length_drop, List.length_take]; rfl)) ?_
      with_reducible refine (slices_Clone_byte_byte.calls _ _ l0 t131 _ ?side1 ?side2 A5.out).mono ?_
      (case side1 => repeat (first | exact (Kd.C_below HR0.out HB.out) | (with_reducible refine Kd.C_alloc ?_ _) | (with_reducible refine Kd.C_drewN ?_ _) | (with_reducible refine Kd.C_drew ?_)))
      (case side2 => exact HC0.out)
      rintro e w11 ⟨v132, rfl, ho0, hb⟩
      refine ⟨_, rfl, ?_⟩
      have n0_ := Aside0.mk (Kd.R_lower ho0 (below_size (by repeat (first | (with_reducible first | exact HB.out | apply below_alloc | apply pw_below_drewN | apply below_drew1) | exact HB.out))))
      have n1_ := Aside0.mk (below_step (by repeat (first | (with_reducible first | exact HB.out | apply below_alloc | apply pw_below_drewN | apply below_drew1) | exact HB.out)) hb)
      clear HB
      have HO133 := n0_
      have HB := n1_
      clear n0_ n1_
      (try clear hb)
      (try clear hb2)
      (try clear hk)
      (try clear hi)
      (try clear ho0)
      refine hK.out _ _ trivial (fun hHeld => ?_)
      clear hK K
      refine norm_ (a' := ?_) ?_ ?_
      rotate_left
      ·show Act.put _ (some 13) _ = _
       simp only [Act.put, List.setIfInBounds_toArray, List.set_cons_zero, List.set_cons_succ, i64_w, i32_w]
       rfl
      refine one_ (i := 10) (N := some 22) #[true, true, true, true, true, true, true, true, true, true, true, false, false] rfl rfl (one_of HT_.out (by kernel_rfl)) (by decide) (fun K hK => ?_)
      refine Kd.R_append_zeros_step (Kd.int .u8) (w0 := w) w.heap.size (by rfl) (.tmp 13) (.tmp 21) 27 3 5 (.int .u8 0) 1 rfl Try.underlying27 Try.underlying3 info5 rfl (by decide) (by omega) v132 t131 0 (ji7 : Int) (fun _ => True) rfl rfl rfl ?aF ?aO (of_decide_eq_true (by first | (with_reducible assumption) | assumption)) ?aB ?aS ?aL ?_
      (case aB => exact (by repeat (first | (with_reducible first | exact HB.out | apply below_alloc | apply pw_below_drewN | apply below_drew1) | exact HB.out)))
      (case aF => exact (fun _ _ => trivial))
      (case aO => exact (by (with_reducible repeat (first | apply Kd.R_alloc | apply Kd.R_drewN | apply Kd.R_drew)); exact HO133.out))
      (case aS => exact (below_size (by repeat (first | (with_reducible first | exact HB.out | apply below_alloc | apply pw_below_drewN | apply below_drew1) | exact HB.out))))
      (case aL => have := LMc9.out; omega)
      intro v135 w12 ho hb hg hat
      rw [← Ny134.out] at ho
      have n0_ := Aside0.mk (hb)
      have n1_ := Aside0.mk (ho)
      clear HB
      clear HO133
      have HB := n0_
      have HO136 := n1_
      clear n0_ n1_
      clear ho hb hg hat
      refine hK.out _ _ trivial (fun hHeld => ?_)
      clear hK K
      refine norm_ (a' := ?_) ?_ ?_
      rotate_left
      ·show Act.put _ (some 22) _ = _
       simp only [Act.put, List.setIfInBounds_toArray, List.set_cons_zero, List.set_cons_succ, i64_w, i32_w]
       rfl
      refine pure_ (i := 11) (N := some 4) (v := ?_) (a' := ?_) #[true, true, true, true, true, true, true, true, true, true, true, true, false] rfl rfl (any_of HT_.out (by kernel_rfl)) (fun _ _ _ h => h) (Or.inl ⟨by rfl, ?_⟩) ?_ ?_
      rotate_left
      ·intro w'
       go_simp
       with_reducible rfl
      rotate_left
      ·simp only [Act.put, List.setIfInBounds_toArray, List.set_cons_zero, List.set_cons_succ, i64_w, i32_w]
       rfl
      refine pure_ (i := 12) (N := some 5) (v := ?_) (a' := ?_) #[true, true, true, true, true, true, true, true, true, true, true, true, true] rfl rfl (any_of HT_.out (by kernel_rfl)) (fun _ _ _ h => h) (Or.inl ⟨by rfl, ?_⟩) ?_ ?_
      rotate_left
      ·intro w'
       go_simp
       with_reducible rfl
      rotate_left
      ·simp only [Act.put, List.setIfInBounds_toArray, List.set_cons_zero, List.set_cons_succ, i64_w, i32_w]
       rfl
      refine done_ (done_of HT_.out (by kernel_rfl)) ?_
      try go_wp2
      go_ret2
      exact ⟨_, by first | rfl | (simp [errW_none, errW_some] <;> rfl) | (simp only [← hji7]; first | rfl | (simp [errW_none, errW_some] <;> rfl)) | (simp [*, errW_none, errW_some] <;> rfl), by (with_reducible repeat (first | apply Kd.R_alloc | apply Kd.R_drewN | apply Kd.R_drew)); exact HO136.out, by repeat (first | (with_reducible first | exact HB.out | apply below_alloc | apply pw_below_drewN | apply below_drew1) | exact HB.out)⟩
     ·rw [if_neg c9] at H
      exact absurd H (by simp)
    ·rw [if_neg c8] at H
     exact absurd H (by simp)

end Go.Proofs.Ytaahkggbjpdofaa.M
end
section
namespace Go.Proofs.Ytaahkggbjpdofaa.M
open Go.RowKit Go.Proofs.YtaahkggbjpdofaaW.PrintWords Go.Proofs.YtaahkggbjpdofaaW.PrintLast Go.Proofs.YtaahkggbjpdofaaW.PrintMore
attribute [local go_sem] max2_int min2_int max_two min_two max_three min_three max_four min_four   -- for this text's walks alone
set_option linter.unusedVariables false
set_option linter.unusedSimpArgs false

/-! ### chunk_Name: function 23 -/
def chunk_Name.f (a0 : Int) : Option (ByteArray) := (some (([(⟨#[68, 65, 84, 65]⟩ : ByteArray), (⟨#[73, 78, 73, 84]⟩ : ByteArray), (⟨#[73, 78, 73, 84, 32, 65, 67, 75]⟩ : ByteArray), (⟨#[83, 65, 67, 75]⟩ : ByteArray), (⟨#[72, 69, 65, 82, 84, 66, 69, 65, 84]⟩ : ByteArray), (⟨#[72, 69, 65, 82, 84, 66, 69, 65, 84, 32, 65, 67, 75]⟩ : ByteArray), (⟨#[65, 66, 79, 82, 84]⟩ : ByteArray), (⟨#[83, 72, 85, 84, 68, 79, 87, 78]⟩ : ByteArray), (⟨#[83, 72, 85, 84, 68, 79, 87, 78, 32, 65, 67, 75]⟩ : ByteArray), (⟨#[69, 82, 82, 79, 82]⟩ : ByteArray), (⟨#[67, 79, 79, 75, 73, 69, 32, 69, 67, 72, 79]⟩ : ByteArray), (⟨#[67, 79, 79, 75, 73, 69, 32, 65, 67, 75]⟩ : ByteArray)] : List ByteArray) : List ByteArray)).bind fun y174 => (if (wrap64 (a0)) < (y174.length : Int) then (if 0 ≤ a0 then (if a0 < (y174.length : Int) then (some (rdOf ByteArray.empty y174 a0)) else (none)) else (none)) else (if a0 = 14 then (some (⟨#[83, 72, 85, 84, 68, 79, 87, 78, 32, 67, 79, 77, 80, 76, 69, 84, 69]⟩ : ByteArray)) else (some (⟨#[85, 78, 75, 78, 79, 87, 78]⟩ : ByteArray))))
set_option maxHeartbeats 8000000 in
set_option maxRecDepth 100000 in
theorem chunk_Name.calls (a0 : Int) (r : ByteArray) (w : World) (h : chunk_Name.f a0 = some r) :
  Calls Try.prog 23 #[.int .u8 a0] w fun e w' => e = .returned (.string r) ∧ Below w.heap.size w w' := by
 have HB := Aside0.mk (Below.refl w.heap.size w)
 have H : ((some (([(⟨#[68, 65, 84, 65]⟩ : ByteArray), (⟨#[73, 78, 73, 84]⟩ : ByteArray), (⟨#[73, 78, 73, 84, 32, 65, 67, 75]⟩ : ByteArray), (⟨#[83, 65, 67, 75]⟩ : ByteArray), (⟨#[72, 69, 65, 82, 84, 66, 69, 65, 84]⟩ : ByteArray), (⟨#[72, 69, 65, 82, 84, 66, 69, 65, 84, 32, 65, 67, 75]⟩ : ByteArray), (⟨#[65, 66, 79, 82, 84]⟩ : ByteArray), (⟨#[83, 72, 85, 84, 68, 79, 87, 78]⟩ : ByteArray), (⟨#[83, 72, 85, 84, 68, 79, 87, 78, 32, 65, 67, 75]⟩ : ByteArray), (⟨#[69, 82, 82, 79, 82]⟩ : ByteArray), (⟨#[67, 79, 79, 75, 73, 69, 32, 69, 67, 72, 79]⟩ : ByteArray), (⟨#[67, 79, 79, 75, 73, 69, 32, 65, 67, 75]⟩ : ByteArray)] : List ByteArray) : List ByteArray)).bind fun y174 => (if (wrap64 (a0)) < (y174.length : Int) then (if 0 ≤ a0 then (if a0 < (y174.length : Int) then (some (rdOf ByteArray.empty y174 a0)) else (none)) else (none)) else (if a0 = 14 then (some (⟨#[83, 72, 85, 84, 68, 79, 87, 78, 32, 67, 79, 77, 80, 76, 69, 84, 69]⟩ : ByteArray)) else (some (⟨#[85, 78, 75, 78, 79, 87, 78]⟩ : ByteArray))))) = some r := h
 clear h
 obtain ⟨y174, hy174⟩ : ∃ y_ : List ByteArray, y_ = (([(⟨#[68, 65, 84, 65]⟩ : ByteArray), (⟨#[73, 78, 73, 84]⟩ : ByteArray), (⟨#[73, 78, 73, 84, 32, 65, 67, 75]⟩ : ByteArray), (⟨#[83, 65, 67, 75]⟩ : ByteArray), (⟨#[72, 69, 65, 82, 84, 66, 69, 65, 84]⟩ : ByteArray), (⟨#[72, 69, 65, 82, 84, 66, 69, 65, 84, 32, 65, 67, 75]⟩ : ByteArray), (⟨#[65, 66, 79, 82, 84]⟩ : ByteArray), (⟨#[83, 72, 85, 84, 68, 79, 87, 78]⟩ : ByteArray), (⟨#[83, 72, 85, 84, 68, 79, 87, 78, 32, 65, 67, 75]⟩ : ByteArray), (⟨#[69, 82, 82, 79, 82]⟩ : ByteArray), (⟨#[67, 79, 79, 75, 73, 69, 32, 69, 67, 72, 79]⟩ : ByteArray), (⟨#[67, 79, 79, 75, 73, 69, 32, 65, 67, 75]⟩ : ByteArray)] : List ByteArray)) := ⟨_, rfl⟩
 replace H : (if (wrap64 (a0)) < (y174.length : Int) then (if 0 ≤ a0 then (if a0 < (y174.length : Int) then (some (rdOf ByteArray.empty y174 a0)) else (none)) else (none)) else (if a0 = 14 then (some (⟨#[83, 72, 85, 84, 68, 79, 87, 78, 32, 67, 79, 77, 80, 76, 69, 84, 69]⟩ : ByteArray)) else (some (⟨#[85, 78, 75, 78, 79, 87, 78]⟩ : ByteArray)))) = some r := by first | (rw [hy174]; with_reducible exact H) | (have H2_ := (Option.bind_some _ _).symm.trans H; rw [hy174]; with_reducible exact H2_) | (have H2_ := (Option.bind_some _ _).symm.trans H; with_reducible exact H2_) | with_reducible exact H | (rw [hy174]; exact H) | exact H
 have Ny174 := Aside0.mk hy174
 clear hy174
 by_cases c2 : (wrap64 (a0)) < (y174.length : Int)
 ·rw [if_pos c2] at H
  have c2b0 : decide ((wrap64 (a0)) < (y174.length : Int)) = true := decide_eq_true c2
  clear c2
  by_cases c3 : 0 ≤ a0
  ·rw [if_pos c3] at H
   have c3b0 : decide (0 ≤ a0) = true := decide_eq_true c3
   clear c3
   by_cases c4 : a0 < (y174.length : Int)
   ·rw [if_pos c4] at H
    have c4b0 : decide (a0 < (y174.length : Int)) = true := decide_eq_true c4
    clear c4
    obtain rfl := Option.some.inj H
    go_enter Try.func23, Try.ntmps23
    go_wp2_with (first | ((with_reducible refine gate_dst (N := 4) rfl ?_); refine Kd.R_lit Kd.string _ 9 ?hg (N := 4) ?hd (xs := ([(⟨#[68, 65, 84, 65]⟩ : ByteArray), (⟨#[73, 78, 73, 84]⟩ : ByteArray), (⟨#[73, 78, 73, 84, 32, 65, 67, 75]⟩ : ByteArray), (⟨#[83, 65, 67, 75]⟩ : ByteArray), (⟨#[72, 69, 65, 82, 84, 66, 69, 65, 84]⟩ : ByteArray), (⟨#[72, 69, 65, 82, 84, 66, 69, 65, 84, 32, 65, 67, 75]⟩ : ByteArray), (⟨#[65, 66, 79, 82, 84]⟩ : ByteArray), (⟨#[83, 72, 85, 84, 68, 79, 87, 78]⟩ : ByteArray), (⟨#[83, 72, 85, 84, 68, 79, 87, 78, 32, 65, 67, 75]⟩ : ByteArray), (⟨#[69, 82, 82, 79, 82]⟩ : ByteArray), (⟨#[67, 79, 79, 75, 73, 69, 32, 69, 67, 72, 79]⟩ : ByteArray), (⟨#[67, 79, 79, 75, 73, 69, 32, 65, 67, 75]⟩ : ByteArray)] : List ByteArray)) (inner := [.string (⟨#[68, 65, 84, 65]⟩ : ByteArray), .string (⟨#[73, 78, 73, 84]⟩ : ByteArray), .string (⟨#[73, 78, 73, 84, 32, 65, 67, 75]⟩ : ByteArray), .string (⟨#[83, 65, 67, 75]⟩ : ByteArray), .string (⟨#[72, 69, 65, 82, 84, 66, 69, 65, 84]⟩ : ByteArray), .string (⟨#[72, 69, 65, 82, 84, 66, 69, 65, 84, 32, 65, 67, 75]⟩ : ByteArray), .string (⟨#[65, 66, 79, 82, 84]⟩ : ByteArray), .string (⟨#[83, 72, 85, 84, 68, 79, 87, 78]⟩ : ByteArray), .string (⟨#[83, 72, 85, 84, 68, 79, 87, 78, 32, 65, 67, 75]⟩ : ByteArray), .string (⟨#[69, 82, 82, 79, 82]⟩ : ByteArray), .string (⟨#[67, 79, 79, 75, 73, 69, 32, 69, 67, 72, 79]⟩ : ByteArray), .string (⟨#[67, 79, 79, 75, 73, 69, 32, 65, 67, 75]⟩ : ByteArray)]) (ok := fun _ => True) (okp := fun _ => True) ?hr ?hp (fun _ hk => hk) trivial (Below.refl _ _) (Nat.le_refl _) (by simp) ?_; (case hd => rfl); (case hg => rfl); (case hr => first | (go_simp; done) | (go_simp; rfl)); (case hp => exact (Reps.one (show Kd.M Kd.string _ _ _ (⟨#[68, 65, 84, 65]⟩ : ByteArray) [.string (⟨#[68, 65, 84, 65]⟩ : ByteArray)] from rfl) (Reps.one (show Kd.M Kd.string _ _ _ (⟨#[73, 78, 73, 84]⟩ : ByteArray) [.string (⟨#[73, 78, 73, 84]⟩ : ByteArray)] from rfl) (Reps.one (show Kd.M Kd.string _ _ _ (⟨#[73, 78, 73, 84, 32, 65, 67, 75]⟩ : ByteArray) [.string (⟨#[73, 78, 73, 84, 32, 65, 67, 75]⟩ : ByteArray)] from rfl) (Reps.one (show Kd.M Kd.string _ _ _ (⟨#[83, 65, 67, 75]⟩ : ByteArray) [.string (⟨#[83, 65, 67, 75]⟩ : ByteArray)] from rfl) (Reps.one (show Kd.M Kd.string _ _ _ (⟨#[72, 69, 65, 82, 84, 66, 69, 65, 84]⟩ : ByteArray) [.string (⟨#[72, 69, 65, 82, 84, 66, 69, 65, 84]⟩ : ByteArray)] from rfl) (Reps.one (show Kd.M Kd.string _ _ _ (⟨#[72, 69, 65, 82, 84, 66, 69, 65, 84, 32, 65, 67, 75]⟩ : ByteArray) [.string (⟨#[72, 69, 65, 82, 84, 66, 69, 65, 84, 32, 65, 67, 75]⟩ : ByteArray)] from rfl) (Reps.one (show Kd.M Kd.string _ _ _ (⟨#[65, 66, 79, 82, 84]⟩ : ByteArray) [.string (⟨#[65, 66, 79, 82, 84]⟩ : ByteArray)] from rfl) (Reps.one (show Kd.M Kd.string _ _ _ (⟨#[83, 72, 85, 84, 68, 79, 87, 78]⟩ : ByteArray) [.string (⟨#[83, 72, 85, 84, 68, 79, 87, 78]⟩ : ByteArray)] from rfl) (Reps.one (show Kd.M Kd.string _ _ _ (⟨#[83, 72, 85, 84, 68, 79, 87, 78, 32, 65, 67, 75]⟩ : ByteArray) [.string (⟨#[83, 72, 85, 84, 68, 79, 87, 78, 32, 65, 67, 75]⟩ : ByteArray)] from rfl) (Reps.one (show Kd.M Kd.string _ _ _ (⟨#[69, 82, 82, 79, 82]⟩ : ByteArray) [.string (⟨#[69, 82, 82, 79, 82]⟩ : ByteArray)] from rfl) (Reps.one (show Kd.M Kd.string _ _ _ (⟨#[67, 79, 79, 75, 73, 69, 32, 69, 67, 72, 79]⟩ : ByteArray) [.string (⟨#[67, 79, 79, 75, 73, 69, 32, 69, 67, 72, 79]⟩ : ByteArray)] from rfl) (Reps.one (show Kd.M Kd.string _ _ _ (⟨#[67, 79, 79, 75, 73, 69, 32, 65, 67, 75]⟩ : ByteArray) [.string (⟨#[67, 79, 79, 75, 73, 69, 32, 65, 67, 75]⟩ : ByteArray)] from rfl) (Reps.none _ _)))))))))))))); intro v175 w5 ho6 hb hg_ hnew_; clear hg_ hnew_; (first | rw [← Ny174.out] at ho6 | (simp only [Int.reduceToNat] at ho6; rw [← Ny174.out] at ho6)); have n0_ := Aside0.mk (Kd.R_lower ho6 (below_size (by repeat (first | (with_reducible first | exact HB.out | apply below_alloc | apply pw_below_drewN | apply below_drew1) | exact HB.out)))); have n1_ := Aside0.mk (below_step (by repeat (first | (with_reducible first | exact HB.out | apply below_alloc | apply pw_below_drewN | apply below_drew1) | exact HB.out)) hb); clear HB; have HO176 := n0_; have HB := n1_; clear n0_ n1_; clear hb ho6; obtain ⟨Ao7, co7, eo7⟩ := Kd.R_slice HO176.out; subst eo7; have p177 : 0 ≤ (a0 : Int) := of_decide_eq_true (by first | (with_reducible assumption) | assumption); have q177 : a0 < (y174.length : Int) := of_decide_eq_true (by first | (with_reducible assumption) | assumption); obtain ⟨ad177, e177, hx177_0⟩ := Kd.at_string (Kd.R_reads' HO176.out).2.2 a0 p177 q177; cases e177; replace p177 := eq_true p177; replace q177 := eq_true q177))
    go_ret
    exact ⟨by first | rfl | (simp [errW_none, errW_some] <;> rfl) | (simp [*, errW_none, errW_some] <;> rfl), by repeat (first | (with_reducible first | exact HB.out | apply below_alloc | apply pw_below_drewN | apply below_drew1) | exact HB.out)⟩
   ·rw [if_neg c4] at H
    exact absurd H (by simp)
  ·rw [if_neg c3] at H
   exact absurd H (by simp)
 ·rw [if_neg c2] at H
  have c2b0 : decide ((wrap64 (a0)) < (y174.length : Int)) = false := decide_eq_false c2
  clear c2
  by_cases c8 : a0 = 14
  ·rw [if_pos c8] at H
   have c8b0 : (a0 == 14) = true := beq_iff_eq.mpr c8
   have c8b1 : (a0 != 14) = false := bne_eq_false_iff_eq.mpr c8
   clear c8
   obtain rfl := Option.some.inj H
   go_enter Try.func23, Try.ntmps23
   go_wp2_with (first | ((with_reducible refine gate_dst (N := 4) rfl ?_); refine Kd.R_lit Kd.string _ 9 ?hg (N := 4) ?hd (xs := ([(⟨#[68, 65, 84, 65]⟩ : ByteArray), (⟨#[73, 78, 73, 84]⟩ : ByteArray), (⟨#[73, 78, 73, 84, 32, 65, 67, 75]⟩ : ByteArray), (⟨#[83, 65, 67, 75]⟩ : ByteArray), (⟨#[72, 69, 65, 82, 84, 66, 69, 65, 84]⟩ : ByteArray), (⟨#[72, 69, 65, 82, 84, 66, 69, 65, 84, 32, 65, 67, 75]⟩ : ByteArray), (⟨#[65, 66, 79, 82, 84]⟩ : ByteArray), (⟨#[83, 72, 85, 84, 68, 79, 87, 78]⟩ : ByteArray), (⟨#[83, 72, 85, 84, 68, 79, 87, 78, 32, 65, 67, 75]⟩ : ByteArray), (⟨#[69, 82, 82, 79, 82]⟩ : ByteArray), (⟨#[67, 79, 79, 75, 73, 69, 32, 69, 67, 72, 79]⟩ : ByteArray), (⟨#[67, 79, 79, 75, 73, 69, 32, 65, 67, 75]⟩ : ByteArray)] : List ByteArray)) (inner := [.string (⟨#[68, 65, 84, 65]⟩ : ByteArray), .string (⟨#[73, 78, 73, 84]⟩ : ByteArray), .string (⟨#[73, 78, 73, 84, 32, 65, 67, 75]⟩ : ByteArray), .string (⟨#[83, 65, 67, 75]⟩ : ByteArray), .string (⟨#[72, 69, 65, 82, 84, 66, 69, 65, 84]⟩ : ByteArray), .string (⟨#[72, 69, 65, 82, 84, 66, 69, 65, 84, 32, 65, 67, 75]⟩ : ByteArray), .string (⟨#[65, 66, 79, 82, 84]⟩ : ByteArray), .string (⟨#[83, 72, 85, 84, 68, 79, 87, 78]⟩ : ByteArray), .string (⟨#[83, 72, 85, 84, 68, 79, 87, 78, 32, 65, 67, 75]⟩ : ByteArray), .string (⟨#[69, 82, 82, 79, 82]⟩ : ByteArray), .string (⟨#[67, 79, 79, 75, 73, 69, 32, 69, 67, 72, 79]⟩ : ByteArray), .string (⟨#[67, 79, 79, 75, 73, 69, 32, 65, 67, 75]⟩ : ByteArray)]) (ok := fun _ => True) (okp := fun _ => True) ?hr ?hp (fun _ hk => hk) trivial (Below.refl _ _) (Nat.le_refl _) (by simp) ?_; (case hd => rfl); (case hg => rfl); (case hr => first | (go_simp; done) | (go_simp; rfl)); (case hp => exact (Reps.one (show Kd.M Kd.string _ _ _ (⟨#[68, 65, 84, 65]⟩ : ByteArray) [.string (⟨#[68, 65, 84, 65]⟩ : ByteArray)] from rfl) (Reps.one (show Kd.M Kd.string _ _ _ (⟨#[73, 78, 73, 84]⟩ : ByteArray) [.string (⟨#[73, 78, 73, 84]⟩ : ByteArray)] from rfl) (Reps.one (show Kd.M Kd.string _ _ _ (⟨#[73, 78, 73, 84, 32, 65, 67, 75]⟩ : ByteArray) [.string (⟨#[73, 78, 73, 84, 32, 65, 67, 75]⟩ : ByteArray)] from rfl) (Reps.one (show Kd.M Kd.string _ _ _ (⟨#[83, 65, 67, 75]⟩ : ByteArray) [.string (⟨#[83, 65, 67, 75]⟩ : ByteArray)] from rfl) (Reps.one (show Kd.M Kd.string _ _ _ (⟨#[72, 69, 65, 82, 84, 66, 69, 65, 84]⟩ : ByteArray) [.string (⟨#[72, 69, 65, 82, 84, 66, 69, 65, 84]⟩ : ByteArray)] from rfl) (Reps.one (show Kd.M Kd.string _ _ _ (⟨#[72, 69, 65, 82, 84, 66, 69, 65, 84, 32, 65, 67, 75]⟩ : ByteArray) [.string (⟨#[72, 69, 65, 82, 84, 66, 69, 65, 84, 32, 65, 67, 75]⟩ : ByteArray)] from rfl) (Reps.one (show Kd.M Kd.string _ _ _ (⟨#[65, 66, 79, 82, 84]⟩ : ByteArray) [.string (⟨#[65, 66, 79, 82, 84]⟩ : ByteArray)] from rfl) (Reps.one (show Kd.M Kd.string _ _ _ (⟨#[83, 72, 85, 84, 68, 79, 87, 78]⟩ : ByteArray) [.string (⟨#[83, 72, 85, 84, 68, 79, 87, 78]⟩ : ByteArray)] from rfl) (Reps.one (show Kd.M Kd.string _ _ _ (⟨#[83, 72, 85, 84, 68, 79, 87, 78, 32, 65, 67, 75]⟩ : ByteArray) [.string (⟨#[83, 72, 85, 84, 68, 79, 87, 78, 32, 65, 67, 75]⟩ : ByteArray)] from rfl) (Reps.one (show Kd.M Kd.string _ _ _ (⟨#[69, 82, 82, 79, 82]⟩ : ByteArray) [.string (⟨#[69, 82, 82, 79, 82]⟩ : ByteArray)] from rfl) (Reps.one (show Kd.M Kd.string _ _ _ (⟨#[67, 79, 79, 75, 73, 69, 32, 69, 67, 72, 79]⟩ : ByteArray) [.string (⟨#[67, 79, 79, 75, 73, 69, 32, 69, 67, 72, 79]⟩ : ByteArray)] from rfl) (Reps.one (show Kd.M Kd.string _ _ _ (⟨#[67, 79, 79, 75, 73, 69, 32, 65, 67, 75]⟩ : ByteArray) [.string (⟨#[67, 79, 79, 75, 73, 69, 32, 65, 67, 75]⟩ : ByteArray)] from rfl) (Reps.none _ _)))))))))))))); intro v175 w9 ho10 hb hg_ hnew_; clear hg_ hnew_; (first | rw [← Ny174.out] at ho10 | (simp only [Int.reduceToNat] at ho10; rw [← Ny174.out] at ho10)); have n0_ := Aside0.mk (Kd.R_lower ho10 (below_size (by repeat (first | (with_reducible first | exact HB.out | apply below_alloc | apply pw_below_drewN | apply below_drew1) | exact HB.out)))); have n1_ := Aside0.mk (below_step (by repeat (first | (with_reducible first | exact HB.out | apply below_alloc | apply pw_below_drewN | apply below_drew1) | exact HB.out)) hb); clear HB; have HO176 := n0_; have HB := n1_; clear n0_ n1_; clear hb ho10; obtain ⟨Ao11, co11, eo11⟩ := Kd.R_slice HO176.out; subst eo11))
   go_ret
   exact ⟨by first | rfl | (simp [errW_none, errW_some] <;> rfl) | (simp [*, errW_none, errW_some] <;> rfl), by repeat (first | (with_reducible first | exact HB.out | apply below_alloc | apply pw_below_drewN | apply below_drew1) | exact HB.out)⟩
  ·rw [if_neg c8] at H
   have c8b0 : (a0 == 14) = false := beq_eq_false_iff_ne.mpr c8
   have c8b1 : (a0 != 14) = true := bne_iff_ne.mpr c8
   obtain rfl := Option.some.inj H
   go_enter Try.func23, Try.ntmps23
   go_wp2_with (first | ((with_reducible refine gate_dst (N := 4) rfl ?_); refine Kd.R_lit Kd.string _ 9 ?hg (N := 4) ?hd (xs := ([(⟨#[68, 65, 84, 65]⟩ : ByteArray), (⟨#[73, 78, 73, 84]⟩ : ByteArray), (⟨#[73, 78, 73, 84, 32, 65, 67, 75]⟩ : ByteArray), (⟨#[83, 65, 67, 75]⟩ : ByteArray), (⟨#[72, 69, 65, 82, 84, 66, 69, 65, 84]⟩ : ByteArray), (⟨#[72, 69, 65, 82, 84, 66, 69, 65, 84, 32, 65, 67, 75]⟩ : ByteArray), (⟨#[65, 66, 79, 82, 84]⟩ : ByteArray), (⟨#[83, 72, 85, 84, 68, 79, 87, 78]⟩ : ByteArray), (⟨#[83, 72, 85, 84, 68, 79, 87, 78, 32, 65, 67, 75]⟩ : ByteArray), (⟨#[69, 82, 82, 79, 82]⟩ : ByteArray), (⟨#[67, 79, 79, 75, 73, 69, 32, 69, 67, 72, 79]⟩ : ByteArray), (⟨#[67, 79, 79, 75, 73, 69, 32, 65, 67, 75]⟩ : ByteArray)] : List ByteArray)) (inner := [.string (⟨#[68, 65, 84, 65]⟩ : ByteArray), .string (⟨#[73, 78, 73, 84]⟩ : ByteArray), .string (⟨#[73, 78, 73, 84, 32, 65, 67, 75]⟩ : ByteArray), .string (⟨#[83, 65, 67, 75]⟩ : ByteArray), .string (⟨#[72, 69, 65, 82, 84, 66, 69, 65, 84]⟩ : ByteArray), .string (⟨#[72, 69, 65, 82, 84, 66, 69, 65, 84, 32, 65, 67, 75]⟩ : ByteArray), .string (⟨#[65, 66, 79, 82, 84]⟩ : ByteArray), .string (⟨#[83, 72, 85, 84, 68, 79, 87, 78]⟩ : ByteArray), .string (⟨#[83, 72, 85, 84, 68, 79, 87, 78, 32, 65, 67, 75]⟩ : ByteArray), .string (⟨#[69, 82, 82, 79, 82]⟩ : ByteArray), .string (⟨#[67, 79, 79, 75, 73, 69, 32, 69, 67, 72, 79]⟩ : ByteArray), .string (⟨#[67, 79, 79, 75, 73, 69, 32, 65, 67, 75]⟩ : ByteArray)]) (ok := fun _ => True) (okp := fun _ => True) ?hr ?hp (fun _ hk => hk) trivial (Below.refl _ _) (Nat.le_refl _) (by simp) ?_; (case hd => rfl); (case hg => rfl); (case hr => first | (go_simp; done) | (go_simp; rfl)); (case hp => exact (Reps.one (show Kd.M Kd.string _ _ _ (⟨#[68, 65, 84, 65]⟩ : ByteArray) [.string (⟨#[68, 65, 84, 65]⟩ : ByteArray)] from rfl) (Reps.one (show Kd.M Kd.string _ _ _ (⟨#[73, 78, 73, 84]⟩ : ByteArray) [.string (⟨#[73, 78, 73, 84]⟩ : ByteArray)] from rfl) (Reps.one (show Kd.M Kd.string _ _ _ (⟨#[73, 78, 73, 84, 32, 65, 67, 75]⟩ : ByteArray) [.string (⟨#[73, 78, 73, 84, 32, 65, 67, 75]⟩ : ByteArray)] from rfl) (Reps.one (show Kd.M Kd.string _ _ _ (⟨#[83, 65, 67, 75]⟩ : ByteArray) [.string (⟨#[83, 65, 67, 75]⟩ : ByteArray)] from rfl) (Reps.one (show Kd.M Kd.string _ _ _ (⟨#[72, 69, 65, 82, 84, 66, 69, 65, 84]⟩ : ByteArray) [.string (⟨#[72, 69, 65, 82, 84, 66, 69, 65, 84]⟩ : ByteArray)] from rfl) (Reps.one (show Kd.M Kd.string _ _ _ (⟨#[72, 69, 65, 82, 84, 66, 69, 65, 84, 32, 65, 67, 75]⟩ : ByteArray) [.string (⟨#[72, 69, 65, 82, 84, 66, 69, 65, 84, 32, 65, 67, 75]⟩ : ByteArray)] from rfl) (Reps.one (show Kd.M Kd.string _ _ _ (⟨#[65, 66, 79, 82, 84]⟩ : ByteArray) [.string (⟨#[65, 66, 79, 82, 84]⟩ : ByteArray)] from rfl) (Reps.one (show Kd.M Kd.string _ _ _ (⟨#[83, 72, 85, 84, 68, 79, 87, 78]⟩ : ByteArray) [.string (⟨#[83, 72, 85, 84, 68, 79, 87, 78]⟩ : ByteArray)] from rfl) (Reps.one (show Kd.M Kd.string _ _ _ (⟨#[83, 72, 85, 84, 68, 79, 87, 78, 32, 65, 67, 75]⟩ : ByteArray) [.string (⟨#[83, 72, 85, 84, 68, 79, 87, 78, 32, 65, 67, 75]⟩ : ByteArray)] from rfl) (Reps.one (show Kd.M Kd.string _ _ _ (⟨#[69, 82, 82, 79, 82]⟩ : ByteArray) [.string (⟨#[69, 82, 82, 79, 82]⟩ : ByteArray)] from rfl) (Reps.one (show Kd.M Kd.string _ _ _ (⟨#[67, 79, 79, 75, 73, 69, 32, 69, 67, 72, 79]⟩ : ByteArray) [.string (⟨#[67, 79, 79, 75, 73, 69, 32, 69, 67, 72, 79]⟩ : ByteArray)] from rfl) (Reps.one (show Kd.M Kd.string _ _ _ (⟨#[67, 79, 79, 75, 73, 69, 32, 65, 67, 75]⟩ : ByteArray) [.string (⟨#[67, 79, 79, 75, 73, 69, 32, 65, 67, 75]⟩ : ByteArray)] from rfl) (Reps.none _ _)))))))))))))); intro v175 w12 ho13 hb hg_ hnew_; clear hg_ hnew_; (first | rw [← Ny174.out] at ho13 | (simp only [Int.reduceToNat] at ho13; rw [← Ny174.out] at ho13)); have n0_ := Aside0.mk (Kd.R_lower ho13 (below_size (by repeat (first | (with_reducible first | exact HB.out | apply below_alloc | apply pw_below_drewN | apply below_drew1) | exact HB.out)))); have n1_ := Aside0.mk (below_step (by repeat (first | (with_reducible first | exact HB.out | apply below_alloc | apply pw_below_drewN | apply below_drew1) | exact HB.out)) hb); clear HB; have HO176 := n0_; have HB := n1_; clear n0_ n1_; clear hb ho13; obtain ⟨Ao14, co14, eo14⟩ := Kd.R_slice HO176.out; subst eo14))
   go_ret
   exact ⟨by first | rfl | (simp [errW_none, errW_some] <;> rfl) | (simp [*, errW_none, errW_some] <;> rfl), by repeat (first | (with_reducible first | exact HB.out | apply below_alloc | apply pw_below_drewN | apply below_drew1) | exact HB.out)⟩

end Go.Proofs.Ytaahkggbjpdofaa.M
end
section
namespace Go.Proofs.Ytaahkggbjpdofaa.M
open Go.RowKit Go.Proofs.YtaahkggbjpdofaaW.PrintWords Go.Proofs.YtaahkggbjpdofaaW.PrintLast Go.Proofs.YtaahkggbjpdofaaW.PrintMore
attribute [local go_sem] max2_int min2_int max_two min_two max_three min_three max_four min_four   -- for this text's walks alone
set_option linter.unusedVariables false
set_option linter.unusedSimpArgs false

theorem eqA36 (d : Nat) (w : World) (x0 y0 : Int) (x1 y1 : Int) (x2 y2 : Int) :
  (Op.equalIn (d + 2) 36 (.agg #[.int .u16 x0, .int .u16 x1, .int .u32 x2]) (.agg #[.int .u16 y0, .int .u16 y1, .int .u32 y2])).run Try.prog w = .ok (x0 == y0 && (x1 == y1 && (x2 == y2))) w := by
 refine eqA_of Try.underlying36 (by kernel_rfl) ?_
 refine eqf_cons (by rfl) (by go_simp; rfl) (by go_simp; rfl) (by go_simp) ?_
 refine eqf_cons (by rfl) (by go_simp; rfl) (by go_simp; rfl) (by go_simp) ?_
 exact eqf_last (by rfl) (by go_simp; rfl) (by go_simp; rfl) (by go_simp)
end Go.Proofs.Ytaahkggbjpdofaa.M
end
