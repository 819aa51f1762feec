-- Printed by this session's mp.py over the kit's print (turned in memory). Not trusted: Lean checks it.
import Derived.Test.YtndoankacnjhoaaDoorM0
import Derived.Test.YtndoankacnjhoaaDoorHDec
import Derived.Test.YtndoankacnjhoaaDoorM4
import Derived.Test.YtndoankacnjhoaaDoorM9
import Derived.Test.YtndoankacnjhoaaDoorM10
import Derived.Test.YtndoankacnjhoaaDoorHHex
import Derived.Test.YtndoankacnjhoaaDoorHUnhex
namespace Go.Proofs.YtndoankacnjhoaaDoor.M
open Go.RowKit Go.Proofs.YtndoankacnjhoaaDoorW.PrintWords Go.Proofs.YtndoankacnjhoaaDoorW.PrintLast Go.Proofs.YtndoankacnjhoaaDoorW.PrintMore
attribute [local go_sem] max2_int min2_int max_two min_two max_three min_three max_four min_four   -- for this text's walks alone
set_option linter.unusedVariables false
set_option linter.unusedSimpArgs false

/-! ### trunklinelaw01_OctetHexes: function 3 -/
def trunklinelaw01_OctetHexes.f (k : Nat) (l0 : List Int) (a1 : ByteArray) : Option (Bool) := (octet_Unhex.f a1).bind fun bt157 => ((trunklineref01_Unhex.f k a1).bind fun bt162 => ((trunklinelaw01_live.f k).bind fun t167 => (if t167 = true then ((octet_Hex.f l0).bind fun t168 => ((trunklineref01_Hex.f k l0).bind fun t169 => (if t168.toList = t169.toList then (if (strOfNums bt157.1).toList = (strOfNums bt162.1).toList then (if bt157.2.1 = bt162.2.1 then (some (bt157.2.2 == bt162.2.2)) else (some false)) else (some false)) else (some false)))) else (some false))))
theorem trunklinelaw01_OctetHexes.mono : ∀ a0 a1 k, LeO (trunklinelaw01_OctetHexes.f k a0 a1) (trunklinelaw01_OctetHexes.f (k + 1) a0 a1) := by
  intro a0 a1 k
  unfold trunklinelaw01_OctetHexes.f
  repeat' first
      | (with_reducible exact trunklinelaw01_live.mono _)
      | (with_reducible exact trunklineref01_Hex.mono _ _)
      | (with_reducible exact trunklineref01_Unhex.mono _ _)
      | (with_reducible exact LeO.refl _)
      | (with_reducible exact LeO.none _)
      | (with_reducible refine LeO.ite ?_ ?_)
      | (with_reducible refine LeO.bind ?_ (fun _ => ?_))
      | exact trunklinelaw01_live.mono _
      | exact trunklineref01_Hex.mono _ _
      | exact trunklineref01_Unhex.mono _ _
      | exact LeO.none _
      | refine LeO.ite ?_ ?_
      | refine LeO.bind ?_ (fun _ => ?_)
set_option maxHeartbeats 8000000 in
set_option maxRecDepth 100000 in
theorem trunklinelaw01_OctetHexes.calls (k : Nat) (A0 : Option Addr) (c0 : Nat) (l0 : List Int) (a1 : ByteArray) (r : Bool) (w : World) (hr0 : Kd.C (Kd.int .u8) w A0 l0.length l0) (hc0 : l0.length ≤ c0) (hr_ : r = true) (hT_ : Tabs w) (h : trunklinelaw01_OctetHexes.f k l0 a1 = some r) :
    Calls Tryd.prog 3 #[.slice A0 l0.length c0, .string a1] w fun e w' => e = .returned (.bool r) ∧ Below w.heap.size w w' := by
  have HTab_ := Aside0.mk hT_
  clear hT_
  have HRT := Aside0.mk hr_
  clear hr_
  have HR0 := Aside0.mk hr0
  have HC0 := Aside0.mk hc0
  clear hr0 hc0
  have HB := Aside0.mk (Below.refl w.heap.size w)
  have H : ((octet_Unhex.f a1).bind fun bt157 => ((trunklineref01_Unhex.f k a1).bind fun bt162 => ((trunklinelaw01_live.f k).bind fun t167 => (if t167 = true then ((octet_Hex.f l0).bind fun t168 => ((trunklineref01_Hex.f k l0).bind fun t169 => (if t168.toList = t169.toList then (if (strOfNums bt157.1).toList = (strOfNums bt162.1).toList then (if bt157.2.1 = bt162.2.1 then (some (bt157.2.2 == bt162.2.2)) else (some false)) else (some false)) else (some false)))) else (some false))))) = some r := h
  clear h
  replace H := Option.bind_eq_some_iff.mp H
  obtain ⟨⟨t157, t158, t159⟩, A30, H⟩ := H
  replace H : ((trunklineref01_Unhex.f k a1).bind fun bt162 => ((trunklinelaw01_live.f k).bind fun t167 => (if t167 = true then ((octet_Hex.f l0).bind fun t168 => ((trunklineref01_Hex.f k l0).bind fun t169 => (if t168.toList = t169.toList then (if (strOfNums t157).toList = (strOfNums bt162.1).toList then (if t158 = bt162.2.1 then (some (t159 == bt162.2.2)) else (some false)) else (some false)) else (some false)))) else (some false)))) = some r := H
  have A3 := Aside0.mk A30
  clear A30
  replace H := Option.bind_eq_some_iff.mp H
  obtain ⟨⟨t162, t163, t164⟩, A40, H⟩ := H
  replace H : ((trunklinelaw01_live.f k).bind fun t167 => (if t167 = true then ((octet_Hex.f l0).bind fun t168 => ((trunklineref01_Hex.f k l0).bind fun t169 => (if t168.toList = t169.toList then (if (strOfNums t157).toList = (strOfNums t162).toList then (if t158 = t163 then (some (t159 == t164)) else (some false)) else (some false)) else (some false)))) else (some false))) = some r := H
  have A4 := Aside0.mk A40
  clear A40
  replace H := Option.bind_eq_some_iff.mp H
  obtain ⟨t167, A50, H⟩ := H
  replace H : (if t167 = true then ((octet_Hex.f l0).bind fun t168 => ((trunklineref01_Hex.f k l0).bind fun t169 => (if t168.toList = t169.toList then (if (strOfNums t157).toList = (strOfNums t162).toList then (if t158 = t163 then (some (t159 == t164)) else (some false)) else (some false)) else (some false)))) else (some false)) = some r := H
  have A5 := Aside0.mk A50
  clear A50
  by_cases c6 : t167 = true
  · subst c6
    have H1 : ((octet_Hex.f l0).bind fun t168 => ((trunklineref01_Hex.f k l0).bind fun t169 => (if t168.toList = t169.toList then (if (strOfNums t157).toList = (strOfNums t162).toList then (if t158 = t163 then (some (t159 == t164)) else (some false)) else (some false)) else (some false)))) = some r := by rw [if_pos rfl] at H; exact H
    clear H
    have H := H1
    clear H1
    replace H := Option.bind_eq_some_iff.mp H
    obtain ⟨t168, A70, H⟩ := H
    replace H : ((trunklineref01_Hex.f k l0).bind fun t169 => (if t168.toList = t169.toList then (if (strOfNums t157).toList = (strOfNums t162).toList then (if t158 = t163 then (some (t159 == t164)) else (some false)) else (some false)) else (some false))) = some r := H
    have A7 := Aside0.mk A70
    clear A70
    replace H := Option.bind_eq_some_iff.mp H
    obtain ⟨t169, A80, H⟩ := H
    replace H : (if t168.toList = t169.toList then (if (strOfNums t157).toList = (strOfNums t162).toList then (if t158 = t163 then (some (t159 == t164)) else (some false)) else (some false)) else (some false)) = some r := H
    have A8 := Aside0.mk A80
    clear A80
    by_cases c9 : t168.toList = t169.toList
    · rw [if_pos c9] at H
      have c9b0 : (t168.toList == t169.toList) = true := beq_iff_eq.mpr c9
      have c9b1 : (t168.toList != t169.toList) = false := bne_eq_false_iff_eq.mpr c9
      clear c9
      by_cases c10 : (strOfNums t157).toList = (strOfNums t162).toList
      · rw [if_pos c10] at H
        have c10b0 : ((strOfNums t157).toList == (strOfNums t162).toList) = true := beq_iff_eq.mpr c10
        have c10b1 : ((strOfNums t157).toList != (strOfNums t162).toList) = false := bne_eq_false_iff_eq.mpr c10
        clear c10
        by_cases c11 : t158 = t163
        · rw [if_pos c11] at H
          have c11b0 : (t158 == t163) = true := beq_iff_eq.mpr c11
          have c11b1 : (t158 != t163) = false := bne_eq_false_iff_eq.mpr c11
          clear c11
          obtain rfl := Option.some.inj H
          go_enter Tryd.func3, Tryd.ntmps3
          go_wp2_with (first | ((with_reducible refine gate_callee (f := 5) rfl ?_); refine goesL_ (some 13) rfl rfl Tryd.func5 (by kernel_rfl) rfl #[.string a1] rfl (by (try simp only [List.map_toArray, List.map_cons, List.map_nil]); first | done | rfl | (simp only [List.length_drop, List.length_take]; rfl)) ?_; (with_reducible refine (octet_Unhex.calls a1 t157 t158 t159 _ A3.out).mono ?_); rintro e w12 ⟨v160, rfl, ho0, hb⟩; refine ⟨_, rfl, ?_⟩; have n0_ := Aside0.mk (Kd.R_lower ho0 (below_size (by repeat (first | (with_reducible first | exact HB.out | apply below_alloc | apply pw_below_drewN | apply below_drew1) | exact HB.out)))); have n1_ := Aside0.mk (below_step (by repeat (first | (with_reducible first | exact HB.out | apply below_alloc | apply pw_below_drewN | apply below_drew1) | exact HB.out)) hb); clear HB; have HO161 := n0_; have HB := n1_; clear n0_ n1_; (try clear hb); (try clear hb2); (try clear hk); (try clear hi); (try clear ho0)) | ((with_reducible refine gate_callee (f := 6) rfl ?_); refine goesL_ (some 19) rfl rfl Tryd.func6 (by kernel_rfl) rfl #[.string a1] rfl (by (try simp only [List.map_toArray, List.map_cons, List.map_nil]); first | done | rfl | (simp only [List.length_drop, List.length_take]; rfl)) ?_; (with_reducible refine (trunklineref01_Unhex.calls k a1 t162 t163 t164 _ (tabs_b HTab_.out (by repeat (first | (with_reducible first | exact HB.out | apply below_alloc | apply pw_below_drewN | apply below_drew1) | exact HB.out))) A4.out).mono ?_); rintro e w13 ⟨v165, rfl, ho0, hb⟩; refine ⟨_, rfl, ?_⟩; have n0_ := Aside0.mk (Kd.R_elder' (by (with_reducible repeat (first | apply Kd.R_alloc | apply Kd.R_drewN | apply Kd.R_drew)); exact HO161.out) (Kd.R_base ho0) hb); have n1_ := Aside0.mk (Kd.R_lower (Kd.R_new' ho0 (Kd.R_lt (by (with_reducible repeat (first | apply Kd.R_alloc | apply Kd.R_drewN | apply Kd.R_drew)); exact HO161.out))) (below_size (by repeat (first | (with_reducible first | exact HB.out | apply below_alloc | apply pw_below_drewN | apply below_drew1) | exact HB.out)))); have n2_ := Aside0.mk (below_step (by repeat (first | (with_reducible first | exact HB.out | apply below_alloc | apply pw_below_drewN | apply below_drew1) | exact HB.out)) hb); clear HO161; clear HB; have HO161 := n0_; have HO166 := n1_; have HB := n2_; clear n0_ n1_ n2_; (try clear hb); (try clear hb2); (try clear hk); (try clear hi); (try clear ho0)) | ((with_reducible refine gate_callee (f := 7) rfl ?_); refine goesL_ (some 23) rfl rfl Tryd.func7 (by kernel_rfl) rfl #[] rfl (by (try simp only [List.map_toArray, List.map_cons, List.map_nil]); first | done | rfl | (simp only [List.length_drop, List.length_take]; rfl)) ?_; (with_reducible refine (trunklinelaw01_live.calls k  true _ A5.out).mono ?_); rintro e w14 ⟨rfl, hb⟩; refine ⟨_, rfl, ?_⟩; have n0_ := Aside0.mk (Kd.R_below (by (with_reducible repeat (first | apply Kd.R_alloc | apply Kd.R_drewN | apply Kd.R_drew)); exact HO161.out) hb); have n1_ := Aside0.mk (Kd.R_below (by (with_reducible repeat (first | apply Kd.R_alloc | apply Kd.R_drewN | apply Kd.R_drew)); exact HO166.out) hb); have n2_ := Aside0.mk (below_step (by repeat (first | (with_reducible first | exact HB.out | apply below_alloc | apply pw_below_drewN | apply below_drew1) | exact HB.out)) hb); clear HO161; clear HO166; clear HB; have HO161 := n0_; have HO166 := n1_; have HB := n2_; clear n0_ n1_ n2_; (try clear hb); (try clear hb2); (try clear hk); (try clear hi)) | (go_at_call 8; (with_reducible refine (octet_Hex.calls _ _ l0 t168 _ ?side1 ?side2 A7.out).mono ?_); (case side1 => repeat (first | exact (Kd.C_below HR0.out HB.out) | (with_reducible refine Kd.C_alloc ?_ _) | (with_reducible refine Kd.C_drewN ?_ _) | (with_reducible refine Kd.C_drew ?_))); (case side2 => exact HC0.out); rintro e w15 ⟨rfl, hb⟩; have n0_ := Aside0.mk (Kd.R_below (by (with_reducible repeat (first | apply Kd.R_alloc | apply Kd.R_drewN | apply Kd.R_drew)); exact HO161.out) hb); have n1_ := Aside0.mk (Kd.R_below (by (with_reducible repeat (first | apply Kd.R_alloc | apply Kd.R_drewN | apply Kd.R_drew)); exact HO166.out) hb); have n2_ := Aside0.mk (below_step (by repeat (first | (with_reducible first | exact HB.out | apply below_alloc | apply pw_below_drewN | apply below_drew1) | exact HB.out)) hb); clear HO161; clear HO166; clear HB; have HO161 := n0_; have HO166 := n1_; have HB := n2_; clear n0_ n1_ n2_; (try clear hb); (try clear hb2); (try clear hk); (try clear hi)) | (go_at_call 9; (with_reducible refine (trunklineref01_Hex.calls k _ _ l0 t169 _ ?side1 ?side2 A8.out).mono ?_); (case side1 => repeat (first | exact (Kd.C_below HR0.out HB.out) | (with_reducible refine Kd.C_alloc ?_ _) | (with_reducible refine Kd.C_drewN ?_ _) | (with_reducible refine Kd.C_drew ?_))); (case side2 => exact HC0.out); rintro e w' ⟨rfl, ⟨nd, rfl⟩⟩; have hcv16 := own_string (P := Tryd.prog) Tryd.underlying22 Tryd.underlying5 Tryd.underlying9 (Kd.own_of_R HO161.out); have hcv16n := fun n_ : Nat => own_string (P := Tryd.prog) Tryd.underlying22 Tryd.underlying5 Tryd.underlying9 (Kd.own_of_R (Kd.R_drewN HO161.out n_)); have hcv17 := own_string (P := Tryd.prog) Tryd.underlying22 Tryd.underlying5 Tryd.underlying9 (Kd.own_of_R HO166.out); have hcv17n := fun n_ : Nat => own_string (P := Tryd.prog) Tryd.underlying22 Tryd.underlying5 Tryd.underlying9 (Kd.own_of_R (Kd.R_drewN HO166.out n_))))
          go_ret
          exact ⟨by first | rfl | (simp [errW_none, errW_some] <;> rfl) | (simp [*, errW_none, errW_some] <;> rfl), by repeat (first | (with_reducible first | exact HB.out | apply below_alloc | apply pw_below_drewN | apply below_drew1) | exact HB.out)⟩
        · rw [if_neg c11] at H
          have c11b0 : (t158 == t163) = false := beq_eq_false_iff_ne.mpr c11
          have c11b1 : (t158 != t163) = true := bne_iff_ne.mpr c11
          rw [HRT.out] at H
          exact absurd H (by simp)
      · rw [if_neg c10] at H
        have c10b0 : ((strOfNums t157).toList == (strOfNums t162).toList) = false := beq_eq_false_iff_ne.mpr c10
        have c10b1 : ((strOfNums t157).toList != (strOfNums t162).toList) = true := bne_iff_ne.mpr c10
        rw [HRT.out] at H
        exact absurd H (by simp)
    · rw [if_neg c9] at H
      have c9b0 : (t168.toList == t169.toList) = false := beq_eq_false_iff_ne.mpr c9
      have c9b1 : (t168.toList != t169.toList) = true := bne_iff_ne.mpr c9
      rw [HRT.out] at H
      exact absurd H (by simp)
  · replace c6 := Bool.eq_false_iff.mpr c6
    subst c6
    have H1 : (some false) = some r := by rw [if_neg (show ¬ (false = true) by decide)] at H; exact H
    clear H
    have H := H1
    clear H1
    rw [HRT.out] at H
    exact absurd H (by simp)

/-- THE ONE PURE STATEMENT of trunklinelaw01_OctetHexes: yours. -/
def trunklinelaw01_OctetHexes.Pure : Prop := ∀ (l0 : List Int) (a1 : ByteArray), l0.length ≤ maxLen → l0.length * 1 ≤ 140737488351232 → (∀ x ∈ l0, (Lit.int .u8 x).wf = true) → a1.size ≤ 140737488351232 → ∃ k, trunklinelaw01_OctetHexes.f k l0 a1 = some true
theorem trunklinelaw01_OctetHexes.walk (P : trunklinelaw01_OctetHexes.Pure) (a0 : Option Addr) (len0 cap0 : Nat) (z0 : List Int) (a1 : ByteArray) (w : World) (hT_ : Tabs w) (w0 : (a0 = none ∧ len0 = 0 ∧ cap0 = 0 ∧ z0 = []) ∨ ∃ x, a0 = some x ∧ len0 ≤ cap0 ∧ cap0 ≤ maxLen ∧ z0.length = cap0 ∧ (∀ i, i < z0.length → w.cell? (x.add i) = some (.int .u8 (z0.getD i 0))) ∧ ∀ n ∈ z0, (Lit.int .u8 n).wf = true) (y0 : len0 * 1 ≤ 140737488351232) (w1 : a1.size ≤ 140737488351232) :
    Calls Tryd.prog 3 #[.slice a0 len0 cap0, .string a1] w fun e w' => e = .returned (.bool true) ∧ Below w.heap.size w w' := by
  obtain ⟨l0, rfl, hr0, hm0, hw0, hc0⟩ := ReadsInt.ofRowC w0
  obtain ⟨k, h⟩ := P l0 a1 hm0 y0 hw0 w1
  refine (trunklinelaw01_OctetHexes.calls k _ _ l0 a1 true w (Kd.C_of_reads (d := (0 : Int)) (h1 := fun _ => rfl) hr0) hc0 rfl hT_ h).mono ?_
  rintro e w' ⟨rfl, hd⟩
  exact ⟨rfl, hd⟩

end Go.Proofs.YtndoankacnjhoaaDoor.M
