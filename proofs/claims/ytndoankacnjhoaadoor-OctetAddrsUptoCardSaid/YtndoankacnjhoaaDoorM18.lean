-- Printed by this session's mp.py over the kit's print (turned in memory). Not trusted: Lean checks it.
import Derived.Test.YtndoankacnjhoaaDoorM0
import Derived.Test.YtndoankacnjhoaaDoorHDec
import Derived.Test.YtndoankacnjhoaaDoorM9
import Derived.Test.YtndoankacnjhoaaDoorM15
import Derived.Test.YtndoankacnjhoaaDoorM16
import Derived.Test.YtndoankacnjhoaaDoorM17
import Derived.Test.YtndoankacnjhoaaDoorHAddr
namespace Go.Proofs.YtndoankacnjhoaaDoor.M
open Go.RowKit Go.Proofs.YtndoankacnjhoaaDoorW.PrintWords Go.Proofs.YtndoankacnjhoaaDoorW.PrintLast Go.Proofs.YtndoankacnjhoaaDoorW.PrintMore
attribute [local go_sem] max2_int min2_int max_two min_two max_three min_three max_four min_four   -- for this text's walks alone
set_option linter.unusedVariables false
set_option linter.unusedSimpArgs false

/-! ### trunklinelaw01_OctetAddrs: function 4 -/
def trunklinelaw01_OctetAddrs.f (k : Nat) (a0 : ByteArray) (a1 : Int) : Option (Bool) := (octet_Addr.f a0).bind fun bt222 => ((trunklineref01_Addr.f k a0).bind fun bt225 => ((trunklinelaw01_live.f k).bind fun t228 => (if t228 = true then (if bt222.1 = bt225.1 then (if bt222.2.1 = bt225.2.1 then (if bt222.2.2 = bt225.2.2 then ((octet_AddrText.f k a1).bind fun t229 => ((trunklineref01_AddrText.f a1).bind fun t230 => (some (t229.toList == t230.toList)))) else (some false)) else (some false)) else (some false)) else (some false))))
theorem trunklinelaw01_OctetAddrs.mono : ∀ a0 a1 k, LeO (trunklinelaw01_OctetAddrs.f k a0 a1) (trunklinelaw01_OctetAddrs.f (k + 1) a0 a1) := by
  intro a0 a1 k
  unfold trunklinelaw01_OctetAddrs.f
  repeat' first
      | (with_reducible exact octet_AddrText.mono _ _)
      | (with_reducible exact trunklinelaw01_live.mono _)
      | (with_reducible exact trunklineref01_Addr.mono _ _)
      | (with_reducible exact LeO.refl _)
      | (with_reducible exact LeO.none _)
      | (with_reducible refine LeO.ite ?_ ?_)
      | (with_reducible refine LeO.bind ?_ (fun _ => ?_))
      | exact octet_AddrText.mono _ _
      | exact trunklinelaw01_live.mono _
      | exact trunklineref01_Addr.mono _ _
      | exact LeO.none _
      | refine LeO.ite ?_ ?_
      | refine LeO.bind ?_ (fun _ => ?_)
set_option maxHeartbeats 8000000 in
set_option maxRecDepth 100000 in
theorem trunklinelaw01_OctetAddrs.calls (k : Nat) (a0 : ByteArray) (a1 : Int) (r : Bool) (w : World) (hr_ : r = true) (hT_ : Tabs w) (h : trunklinelaw01_OctetAddrs.f k a0 a1 = some r) :
    Calls Tryd.prog 4 #[.string a0, .int .u32 a1] w fun e w' => e = .returned (.bool r) ∧ Below w.heap.size w w' := by
  have HTab_ := Aside0.mk hT_
  clear hT_
  have HRT := Aside0.mk hr_
  clear hr_
  have HB := Aside0.mk (Below.refl w.heap.size w)
  have H : ((octet_Addr.f a0).bind fun bt222 => ((trunklineref01_Addr.f k a0).bind fun bt225 => ((trunklinelaw01_live.f k).bind fun t228 => (if t228 = true then (if bt222.1 = bt225.1 then (if bt222.2.1 = bt225.2.1 then (if bt222.2.2 = bt225.2.2 then ((octet_AddrText.f k a1).bind fun t229 => ((trunklineref01_AddrText.f a1).bind fun t230 => (some (t229.toList == t230.toList)))) else (some false)) else (some false)) else (some false)) else (some false))))) = some r := h
  clear h
  replace H := Option.bind_eq_some_iff.mp H
  obtain ⟨⟨t222, t223, t224⟩, A30, H⟩ := H
  replace H : ((trunklineref01_Addr.f k a0).bind fun bt225 => ((trunklinelaw01_live.f k).bind fun t228 => (if t228 = true then (if t222 = bt225.1 then (if t223 = bt225.2.1 then (if t224 = bt225.2.2 then ((octet_AddrText.f k a1).bind fun t229 => ((trunklineref01_AddrText.f a1).bind fun t230 => (some (t229.toList == t230.toList)))) else (some false)) else (some false)) else (some false)) else (some false)))) = some r := H
  have A3 := Aside0.mk A30
  clear A30
  replace H := Option.bind_eq_some_iff.mp H
  obtain ⟨⟨t225, t226, t227⟩, A40, H⟩ := H
  replace H : ((trunklinelaw01_live.f k).bind fun t228 => (if t228 = true then (if t222 = t225 then (if t223 = t226 then (if t224 = t227 then ((octet_AddrText.f k a1).bind fun t229 => ((trunklineref01_AddrText.f a1).bind fun t230 => (some (t229.toList == t230.toList)))) else (some false)) else (some false)) else (some false)) else (some false))) = some r := H
  have A4 := Aside0.mk A40
  clear A40
  replace H := Option.bind_eq_some_iff.mp H
  obtain ⟨t228, A50, H⟩ := H
  replace H : (if t228 = true then (if t222 = t225 then (if t223 = t226 then (if t224 = t227 then ((octet_AddrText.f k a1).bind fun t229 => ((trunklineref01_AddrText.f a1).bind fun t230 => (some (t229.toList == t230.toList)))) else (some false)) else (some false)) else (some false)) else (some false)) = some r := H
  have A5 := Aside0.mk A50
  clear A50
  by_cases c6 : t228 = true
  · subst c6
    have H1 : (if t222 = t225 then (if t223 = t226 then (if t224 = t227 then ((octet_AddrText.f k a1).bind fun t229 => ((trunklineref01_AddrText.f a1).bind fun t230 => (some (t229.toList == t230.toList)))) else (some false)) else (some false)) else (some false)) = some r := by rw [if_pos rfl] at H; exact H
    clear H
    have H := H1
    clear H1
    by_cases c7 : t222 = t225
    · rw [if_pos c7] at H
      have c7b0 : (t222 == t225) = true := beq_iff_eq.mpr c7
      have c7b1 : (t222 != t225) = false := bne_eq_false_iff_eq.mpr c7
      clear c7
      by_cases c8 : t223 = t226
      · rw [if_pos c8] at H
        have c8b0 : (t223 == t226) = true := beq_iff_eq.mpr c8
        have c8b1 : (t223 != t226) = false := bne_eq_false_iff_eq.mpr c8
        clear c8
        by_cases c9 : t224 = t227
        · rw [if_pos c9] at H
          have c9b0 : (t224 == t227) = true := beq_iff_eq.mpr c9
          have c9b1 : (t224 != t227) = false := bne_eq_false_iff_eq.mpr c9
          clear c9
          replace H := Option.bind_eq_some_iff.mp H
          obtain ⟨t229, A100, H⟩ := H
          replace H : ((trunklineref01_AddrText.f a1).bind fun t230 => (some (t229.toList == t230.toList))) = some r := H
          have A10 := Aside0.mk A100
          clear A100
          replace H := Option.bind_eq_some_iff.mp H
          obtain ⟨t230, A110, H⟩ := H
          replace H : (some (t229.toList == t230.toList)) = some r := H
          have A11 := Aside0.mk A110
          clear A110
          obtain rfl := Option.some.inj H
          go_enter Tryd.func4, Tryd.ntmps4
          go_wp2_with (first | ((with_reducible refine gate_callee (f := 10) rfl ?_); refine goesL_ (some 13) rfl rfl Tryd.func10 (by kernel_rfl) rfl #[.string a0] rfl (by (try simp only [List.map_toArray, List.map_cons, List.map_nil]); first | done | rfl | (simp only [List.length_drop, List.length_take]; rfl)) ?_; (with_reducible refine (octet_Addr.calls a0 t222 t223 t224 _ A3.out).mono ?_); rintro e w12 ⟨rfl, hb⟩; refine ⟨_, rfl, ?_⟩; have n0_ := Aside0.mk (below_step (by repeat (first | (with_reducible first | exact HB.out | apply below_alloc | apply pw_below_drewN | apply below_drew1) | exact HB.out)) hb); clear HB; have HB := n0_; clear n0_; (try clear hb); (try clear hb2); (try clear hk); (try clear hi)) | ((with_reducible refine gate_callee (f := 11) rfl ?_); refine goesL_ (some 19) rfl rfl Tryd.func11 (by kernel_rfl) rfl #[.string a0] rfl (by (try simp only [List.map_toArray, List.map_cons, List.map_nil]); first | done | rfl | (simp only [List.length_drop, List.length_take]; rfl)) ?_; (with_reducible refine (trunklineref01_Addr.calls k a0 t225 t226 t227 _ (tabs_b HTab_.out (by repeat (first | (with_reducible first | exact HB.out | apply below_alloc | apply pw_below_drewN | apply below_drew1) | exact HB.out))) A4.out).mono ?_); rintro e w13 ⟨rfl, hb⟩; refine ⟨_, rfl, ?_⟩; have n0_ := Aside0.mk (below_step (by repeat (first | (with_reducible first | exact HB.out | apply below_alloc | apply pw_below_drewN | apply below_drew1) | exact HB.out)) hb); clear HB; have HB := n0_; clear n0_; (try clear hb); (try clear hb2); (try clear hk); (try clear hi)) | ((with_reducible refine gate_callee (f := 7) rfl ?_); refine goesL_ (some 23) rfl rfl Tryd.func7 (by kernel_rfl) rfl #[] rfl (by (try simp only [List.map_toArray, List.map_cons, List.map_nil]); first | done | rfl | (simp only [List.length_drop, List.length_take]; rfl)) ?_; (with_reducible refine (trunklinelaw01_live.calls k  true _ A5.out).mono ?_); rintro e w14 ⟨rfl, hb⟩; refine ⟨_, rfl, ?_⟩; have n0_ := Aside0.mk (below_step (by repeat (first | (with_reducible first | exact HB.out | apply below_alloc | apply pw_below_drewN | apply below_drew1) | exact HB.out)) hb); clear HB; have HB := n0_; clear n0_; (try clear hb); (try clear hb2); (try clear hk); (try clear hi)) | (go_at_call 12; (with_reducible refine (octet_AddrText.calls k a1 t229 _ A10.out).mono ?_); rintro e w15 ⟨rfl, hb⟩; have n0_ := Aside0.mk (below_step (by repeat (first | (with_reducible first | exact HB.out | apply below_alloc | apply pw_below_drewN | apply below_drew1) | exact HB.out)) hb); clear HB; have HB := n0_; clear n0_; (try clear hb); (try clear hb2); (try clear hk); (try clear hi)) | (go_at_call 13; (with_reducible refine (trunklineref01_AddrText.calls a1 t230 _ A11.out).mono ?_); rintro e w16 ⟨rfl, hb⟩; have n0_ := Aside0.mk (below_step (by repeat (first | (with_reducible first | exact HB.out | apply below_alloc | apply pw_below_drewN | apply below_drew1) | exact HB.out)) hb); clear HB; have HB := n0_; clear n0_; (try clear hb); (try clear hb2); (try clear hk); (try clear hi)))
          go_ret
          exact ⟨by first | rfl | (simp [errW_none, errW_some] <;> rfl) | (simp [*, errW_none, errW_some] <;> rfl), by repeat (first | (with_reducible first | exact HB.out | apply below_alloc | apply pw_below_drewN | apply below_drew1) | exact HB.out)⟩
        · rw [if_neg c9] at H
          have c9b0 : (t224 == t227) = false := beq_eq_false_iff_ne.mpr c9
          have c9b1 : (t224 != t227) = true := bne_iff_ne.mpr c9
          rw [HRT.out] at H
          exact absurd H (by simp)
      · rw [if_neg c8] at H
        have c8b0 : (t223 == t226) = false := beq_eq_false_iff_ne.mpr c8
        have c8b1 : (t223 != t226) = true := bne_iff_ne.mpr c8
        rw [HRT.out] at H
        exact absurd H (by simp)
    · rw [if_neg c7] at H
      have c7b0 : (t222 == t225) = false := beq_eq_false_iff_ne.mpr c7
      have c7b1 : (t222 != t225) = true := bne_iff_ne.mpr c7
      rw [HRT.out] at H
      exact absurd H (by simp)
  · replace c6 := Bool.eq_false_iff.mpr c6
    subst c6
    have H1 : (some false) = some r := by rw [if_neg (show ¬ (false = true) by decide)] at H; exact H
    clear H
    have H := H1
    clear H1
    rw [HRT.out] at H
    exact absurd H (by simp)

/-- THE ONE PURE STATEMENT of trunklinelaw01_OctetAddrs: yours. -/
def trunklinelaw01_OctetAddrs.Pure : Prop := ∀ (a0 : ByteArray) (a1 : Int), a0.size ≤ 140737488351232 → (Lit.int .u32 a1).wf = true → ∃ k, trunklinelaw01_OctetAddrs.f k a0 a1 = some true
theorem trunklinelaw01_OctetAddrs.walk (P : trunklinelaw01_OctetAddrs.Pure) (a0 : ByteArray) (a1 : Int) (w : World) (hT_ : Tabs w) (w0 : a0.size ≤ 140737488351232) (w1 : (Lit.int .u32 a1).wf = true) :
    Calls Tryd.prog 4 #[.string a0, .int .u32 a1] w fun e w' => e = .returned (.bool true) ∧ Below w.heap.size w w' := by
  obtain ⟨k, h⟩ := P a0 a1 w0 w1
  refine (trunklinelaw01_OctetAddrs.calls k a0 a1 true w rfl hT_ h).mono ?_
  rintro e w' ⟨rfl, hd⟩
  exact ⟨rfl, hd⟩

end Go.Proofs.YtndoankacnjhoaaDoor.M
