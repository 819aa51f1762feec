-- Printed by this session's mp.py over the kit's print (turned in memory). Not trusted: Lean checks it.
import Derived.Test.YtnfbbnmdlcmifaaDoorM0
import Derived.Test.YtnfbbnmdlcmifaaDoorHDec
import Derived.Test.YtnfbbnmdlcmifaaDoorM5
import Derived.Test.YtnfbbnmdlcmifaaDoorM9
import Derived.Test.YtnfbbnmdlcmifaaDoorM12
import Derived.Test.YtnfbbnmdlcmifaaDoorHMac
import Derived.Test.YtnfbbnmdlcmifaaDoorHMacText
namespace Go.Proofs.YtnfbbnmdlcmifaaDoor.M
open Go.RowKit Go.Proofs.YtnfbbnmdlcmifaaDoorW.PrintWords Go.Proofs.YtnfbbnmdlcmifaaDoorW.PrintLast Go.Proofs.YtnfbbnmdlcmifaaDoorW.PrintMore
attribute [local go_sem] max2_int min2_int max_two min_two max_three min_three max_four min_four   -- for this text's walks alone
set_option linter.unusedVariables false
set_option linter.unusedSimpArgs false

/-! ### trunklinelaw08_EtherMacs: function 3 -/
def trunklinelaw08_EtherMacs.f (k : Nat) (a0 : Int) (a1 : ByteArray) : Option (Bool) := (ether_MacText.f k a0).bind fun bt183 => ((trunklineref08_MacText.f k a0).bind fun bt185 => ((ether_Mac.f a1).bind fun bt187 => ((trunklineref08_Mac.f k a1).bind fun bt190 => ((trunklinelaw08_live.f k).bind fun t193 => (if t193 = true then (if bt183.1.toList = bt185.1.toList then (if bt183.2 = bt185.2 then (if bt187.1 = bt190.1 then (if bt187.2.1 = bt190.2.1 then (some (bt187.2.2 == bt190.2.2)) else (some false)) else (some false)) else (some false)) else (some false)) else (some false))))))
theorem trunklinelaw08_EtherMacs.mono : ∀ a0 a1 k, LeO (trunklinelaw08_EtherMacs.f k a0 a1) (trunklinelaw08_EtherMacs.f (k + 1) a0 a1) := by
  intro a0 a1 k
  unfold trunklinelaw08_EtherMacs.f
  repeat' first
      | (with_reducible exact ether_MacText.mono _ _)
      | (with_reducible exact trunklinelaw08_live.mono _)
      | (with_reducible exact trunklineref08_Mac.mono _ _)
      | (with_reducible exact trunklineref08_MacText.mono _ _)
      | (with_reducible exact LeO.refl _)
      | (with_reducible exact LeO.none _)
      | (with_reducible refine LeO.ite ?_ ?_)
      | (with_reducible refine LeO.bind ?_ (fun _ => ?_))
      | exact ether_MacText.mono _ _
      | exact trunklinelaw08_live.mono _
      | exact trunklineref08_Mac.mono _ _
      | exact trunklineref08_MacText.mono _ _
      | exact LeO.none _
      | refine LeO.ite ?_ ?_
      | refine LeO.bind ?_ (fun _ => ?_)
set_option maxHeartbeats 8000000 in
set_option maxRecDepth 100000 in
theorem trunklinelaw08_EtherMacs.calls (k : Nat) (a0 : Int) (a1 : ByteArray) (r : Bool) (w : World) (hr_ : r = true) (hT_ : Tabs w) (h : trunklinelaw08_EtherMacs.f k a0 a1 = some r) :
    Calls Tryd.prog 3 #[.int .u64 a0, .string a1] w fun e w' => e = .returned (.bool r) ∧ Below w.heap.size w w' := by
  have HTab_ := Aside0.mk hT_
  clear hT_
  have HRT := Aside0.mk hr_
  clear hr_
  have HB := Aside0.mk (Below.refl w.heap.size w)
  have H : ((ether_MacText.f k a0).bind fun bt183 => ((trunklineref08_MacText.f k a0).bind fun bt185 => ((ether_Mac.f a1).bind fun bt187 => ((trunklineref08_Mac.f k a1).bind fun bt190 => ((trunklinelaw08_live.f k).bind fun t193 => (if t193 = true then (if bt183.1.toList = bt185.1.toList then (if bt183.2 = bt185.2 then (if bt187.1 = bt190.1 then (if bt187.2.1 = bt190.2.1 then (some (bt187.2.2 == bt190.2.2)) else (some false)) else (some false)) else (some false)) else (some false)) else (some false))))))) = some r := h
  clear h
  replace H := Option.bind_eq_some_iff.mp H
  obtain ⟨⟨t183, t184⟩, A30, H⟩ := H
  replace H : ((trunklineref08_MacText.f k a0).bind fun bt185 => ((ether_Mac.f a1).bind fun bt187 => ((trunklineref08_Mac.f k a1).bind fun bt190 => ((trunklinelaw08_live.f k).bind fun t193 => (if t193 = true then (if t183.toList = bt185.1.toList then (if t184 = bt185.2 then (if bt187.1 = bt190.1 then (if bt187.2.1 = bt190.2.1 then (some (bt187.2.2 == bt190.2.2)) else (some false)) else (some false)) else (some false)) else (some false)) else (some false)))))) = some r := H
  have A3 := Aside0.mk A30
  clear A30
  replace H := Option.bind_eq_some_iff.mp H
  obtain ⟨⟨t185, t186⟩, A40, H⟩ := H
  replace H : ((ether_Mac.f a1).bind fun bt187 => ((trunklineref08_Mac.f k a1).bind fun bt190 => ((trunklinelaw08_live.f k).bind fun t193 => (if t193 = true then (if t183.toList = t185.toList then (if t184 = t186 then (if bt187.1 = bt190.1 then (if bt187.2.1 = bt190.2.1 then (some (bt187.2.2 == bt190.2.2)) else (some false)) else (some false)) else (some false)) else (some false)) else (some false))))) = some r := H
  have A4 := Aside0.mk A40
  clear A40
  replace H := Option.bind_eq_some_iff.mp H
  obtain ⟨⟨t187, t188, t189⟩, A50, H⟩ := H
  replace H : ((trunklineref08_Mac.f k a1).bind fun bt190 => ((trunklinelaw08_live.f k).bind fun t193 => (if t193 = true then (if t183.toList = t185.toList then (if t184 = t186 then (if t187 = bt190.1 then (if t188 = bt190.2.1 then (some (t189 == bt190.2.2)) else (some false)) else (some false)) else (some false)) else (some false)) else (some false)))) = some r := H
  have A5 := Aside0.mk A50
  clear A50
  replace H := Option.bind_eq_some_iff.mp H
  obtain ⟨⟨t190, t191, t192⟩, A60, H⟩ := H
  replace H : ((trunklinelaw08_live.f k).bind fun t193 => (if t193 = true then (if t183.toList = t185.toList then (if t184 = t186 then (if t187 = t190 then (if t188 = t191 then (some (t189 == t192)) else (some false)) else (some false)) else (some false)) else (some false)) else (some false))) = some r := H
  have A6 := Aside0.mk A60
  clear A60
  replace H := Option.bind_eq_some_iff.mp H
  obtain ⟨t193, A70, H⟩ := H
  replace H : (if t193 = true then (if t183.toList = t185.toList then (if t184 = t186 then (if t187 = t190 then (if t188 = t191 then (some (t189 == t192)) else (some false)) else (some false)) else (some false)) else (some false)) else (some false)) = some r := H
  have A7 := Aside0.mk A70
  clear A70
  by_cases c8 : t193 = true
  · subst c8
    have H1 : (if t183.toList = t185.toList then (if t184 = t186 then (if t187 = t190 then (if t188 = t191 then (some (t189 == t192)) else (some false)) else (some false)) else (some false)) else (some false)) = some r := by rw [if_pos rfl] at H; exact H
    clear H
    have H := H1
    clear H1
    by_cases c9 : t183.toList = t185.toList
    · rw [if_pos c9] at H
      have c9b0 : (t183.toList == t185.toList) = true := beq_iff_eq.mpr c9
      have c9b1 : (t183.toList != t185.toList) = false := bne_eq_false_iff_eq.mpr c9
      clear c9
      by_cases c10 : t184 = t186
      · rw [if_pos c10] at H
        have c10b0 : (t184 == t186) = true := beq_iff_eq.mpr c10
        have c10b1 : (t184 != t186) = false := bne_eq_false_iff_eq.mpr c10
        clear c10
        by_cases c11 : t187 = t190
        · rw [if_pos c11] at H
          have c11b0 : (t187 == t190) = true := beq_iff_eq.mpr c11
          have c11b1 : (t187 != t190) = false := bne_eq_false_iff_eq.mpr c11
          clear c11
          by_cases c12 : t188 = t191
          · rw [if_pos c12] at H
            have c12b0 : (t188 == t191) = true := beq_iff_eq.mpr c12
            have c12b1 : (t188 != t191) = false := bne_eq_false_iff_eq.mpr c12
            clear c12
            obtain rfl := Option.some.inj H
            go_enter Tryd.func3, Tryd.ntmps3
            go_wp2_with (first | ((with_reducible refine gate_callee (f := 4) rfl ?_); refine goesL_ (some 17) rfl rfl Tryd.func4 (by kernel_rfl) rfl #[.int .u64 a0] rfl (by (try simp only [List.map_toArray, List.map_cons, List.map_nil]); first | done | rfl | (simp only [List.length_drop, List.length_take]; rfl)) ?_; (with_reducible refine (ether_MacText.calls k a0 t183 t184 _ A3.out).mono ?_); rintro e w13 ⟨rfl, hb⟩; refine ⟨_, rfl, ?_⟩; have n0_ := Aside0.mk (below_step (by repeat (first | (with_reducible first | exact HB.out | apply below_alloc | apply pw_below_drewN | apply below_drew1) | exact HB.out)) hb); clear HB; have HB := n0_; clear n0_; (try clear hb); (try clear hb2); (try clear hk); (try clear hi)) | ((with_reducible refine gate_callee (f := 5) rfl ?_); refine goesL_ (some 22) rfl rfl Tryd.func5 (by kernel_rfl) rfl #[.int .u64 a0] rfl (by (try simp only [List.map_toArray, List.map_cons, List.map_nil]); first | done | rfl | (simp only [List.length_drop, List.length_take]; rfl)) ?_; (with_reducible refine (trunklineref08_MacText.calls k a0 t185 t186 _ A4.out).mono ?_); rintro e w14 ⟨rfl, hb⟩; refine ⟨_, rfl, ?_⟩; have n0_ := Aside0.mk (below_step (by repeat (first | (with_reducible first | exact HB.out | apply below_alloc | apply pw_below_drewN | apply below_drew1) | exact HB.out)) hb); clear HB; have HB := n0_; clear n0_; (try clear hb); (try clear hb2); (try clear hk); (try clear hi)) | ((with_reducible refine gate_callee (f := 6) rfl ?_); refine goesL_ (some 27) rfl rfl Tryd.func6 (by kernel_rfl) rfl #[.string a1] rfl (by (try simp only [List.map_toArray, List.map_cons, List.map_nil]); first | done | rfl | (simp only [List.length_drop, List.length_take]; rfl)) ?_; (with_reducible refine (ether_Mac.calls a1 t187 t188 t189 _ A5.out).mono ?_); rintro e w15 ⟨rfl, hb⟩; refine ⟨_, rfl, ?_⟩; have n0_ := Aside0.mk (below_step (by repeat (first | (with_reducible first | exact HB.out | apply below_alloc | apply pw_below_drewN | apply below_drew1) | exact HB.out)) hb); clear HB; have HB := n0_; clear n0_; (try clear hb); (try clear hb2); (try clear hk); (try clear hi)) | ((with_reducible refine gate_callee (f := 7) rfl ?_); refine goesL_ (some 33) rfl rfl Tryd.func7 (by kernel_rfl) rfl #[.string a1] rfl (by (try simp only [List.map_toArray, List.map_cons, List.map_nil]); first | done | rfl | (simp only [List.length_drop, List.length_take]; rfl)) ?_; (with_reducible refine (trunklineref08_Mac.calls k a1 t190 t191 t192 _ (tabs_b HTab_.out (by repeat (first | (with_reducible first | exact HB.out | apply below_alloc | apply pw_below_drewN | apply below_drew1) | exact HB.out))) A6.out).mono ?_); rintro e w16 ⟨rfl, hb⟩; refine ⟨_, rfl, ?_⟩; have n0_ := Aside0.mk (below_step (by repeat (first | (with_reducible first | exact HB.out | apply below_alloc | apply pw_below_drewN | apply below_drew1) | exact HB.out)) hb); clear HB; have HB := n0_; clear n0_; (try clear hb); (try clear hb2); (try clear hk); (try clear hi)) | ((with_reducible refine gate_callee (f := 8) rfl ?_); refine goesL_ (some 37) rfl rfl Tryd.func8 (by kernel_rfl) rfl #[] rfl (by (try simp only [List.map_toArray, List.map_cons, List.map_nil]); first | done | rfl | (simp only [List.length_drop, List.length_take]; rfl)) ?_; (with_reducible refine (trunklinelaw08_live.calls k  true _ A7.out).mono ?_); rintro e w17 ⟨rfl, hb⟩; refine ⟨_, rfl, ?_⟩; have n0_ := Aside0.mk (below_step (by repeat (first | (with_reducible first | exact HB.out | apply below_alloc | apply pw_below_drewN | apply below_drew1) | exact HB.out)) hb); clear HB; have HB := n0_; clear n0_; (try clear hb); (try clear hb2); (try clear hk); (try clear hi)))
            go_ret
            exact ⟨by first | rfl | (simp [errW_none, errW_some] <;> rfl) | (simp [*, errW_none, errW_some] <;> rfl), by repeat (first | (with_reducible first | exact HB.out | apply below_alloc | apply pw_below_drewN | apply below_drew1) | exact HB.out)⟩
          · rw [if_neg c12] at H
            have c12b0 : (t188 == t191) = false := beq_eq_false_iff_ne.mpr c12
            have c12b1 : (t188 != t191) = true := bne_iff_ne.mpr c12
            rw [HRT.out] at H
            exact absurd H (by simp)
        · rw [if_neg c11] at H
          have c11b0 : (t187 == t190) = false := beq_eq_false_iff_ne.mpr c11
          have c11b1 : (t187 != t190) = true := bne_iff_ne.mpr c11
          rw [HRT.out] at H
          exact absurd H (by simp)
      · rw [if_neg c10] at H
        have c10b0 : (t184 == t186) = false := beq_eq_false_iff_ne.mpr c10
        have c10b1 : (t184 != t186) = true := bne_iff_ne.mpr c10
        rw [HRT.out] at H
        exact absurd H (by simp)
    · rw [if_neg c9] at H
      have c9b0 : (t183.toList == t185.toList) = false := beq_eq_false_iff_ne.mpr c9
      have c9b1 : (t183.toList != t185.toList) = true := bne_iff_ne.mpr c9
      rw [HRT.out] at H
      exact absurd H (by simp)
  · replace c8 := Bool.eq_false_iff.mpr c8
    subst c8
    have H1 : (some false) = some r := by rw [if_neg (show ¬ (false = true) by decide)] at H; exact H
    clear H
    have H := H1
    clear H1
    rw [HRT.out] at H
    exact absurd H (by simp)

/-- THE ONE PURE STATEMENT of trunklinelaw08_EtherMacs: yours. -/
def trunklinelaw08_EtherMacs.Pure : Prop := ∀ (a0 : Int) (a1 : ByteArray), (Lit.int .u64 a0).wf = true → a1.size ≤ 140737488351232 → ∃ k, trunklinelaw08_EtherMacs.f k a0 a1 = some true
theorem trunklinelaw08_EtherMacs.walk (P : trunklinelaw08_EtherMacs.Pure) (a0 : Int) (a1 : ByteArray) (w : World) (hT_ : Tabs w) (w0 : (Lit.int .u64 a0).wf = true) (w1 : a1.size ≤ 140737488351232) :
    Calls Tryd.prog 3 #[.int .u64 a0, .string a1] w fun e w' => e = .returned (.bool true) ∧ Below w.heap.size w w' := by
  obtain ⟨k, h⟩ := P a0 a1 w0 w1
  refine (trunklinelaw08_EtherMacs.calls k a0 a1 true w rfl hT_ h).mono ?_
  rintro e w' ⟨rfl, hd⟩
  exact ⟨rfl, hd⟩

end Go.Proofs.YtnfbbnmdlcmifaaDoor.M
