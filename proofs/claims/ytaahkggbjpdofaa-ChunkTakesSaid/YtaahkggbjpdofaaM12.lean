-- Printed by this session's mp.py over the kit's print (turned in memory). Not trusted: Lean checks it.
import Derived.Test.YtaahkggbjpdofaaM0
import Derived.Test.YtaahkggbjpdofaaHStamp
import Derived.Test.YtaahkggbjpdofaaHOf
import Derived.Test.YtaahkggbjpdofaaM6
import Derived.WalkSpells
import Derived.Defers
import Derived.Recover
import Derived.LoopN
import Derived.Deep.RegionWith
import Derived.Deep.RegionLaw
section
namespace Go.Proofs.Ytaahkggbjpdofaa.M
open Go.RowKit Go.Proofs.YtaahkggbjpdofaaW.PrintWords Go.Proofs.YtaahkggbjpdofaaW.PrintLast Go.Proofs.YtaahkggbjpdofaaW.PrintMore
attribute [local go_sem] max2_int min2_int max_two min_two max_three min_three max_four min_four   -- for this text's walks alone
set_option linter.unusedVariables false
set_option linter.unusedSimpArgs false

/-! ### slices_Equal_byte_byte: function 55 -/
def slices_Equal_byte_byte.l0 : Nat → List Int → List Int → Int → Int → Option (Bool)
 | 0, _, _, _, _ => none
 | k + 1, x0, x1, x12, x13 => if x13 < x12 then (if 0 ≤ x13 then (if x13 < (x0.length : Int) then (if x13 < (x1.length : Int) then (if (rd x0 x13) = (rd x1 x13) then (slices_Equal_byte_byte.l0 k x0 x1 x12 (wrap64 (x13 + 1))) else (some false)) else (none)) else (none)) else (none)) else (some true)
def slices_Equal_byte_byte.f (k : Nat) (l0 : List Int) (l1 : List Int) : Option (Bool) := if (l0.length : Int) = (l1.length : Int) then (slices_Equal_byte_byte.l0 k l0 l1 (l0.length : Int) 0) else (some false)
theorem slices_Equal_byte_byte.mono_l : ∀ k, (∀ y0 y1 y2 y3, LeO (slices_Equal_byte_byte.l0 k y0 y1 y2 y3) (slices_Equal_byte_byte.l0 (k + 1) y0 y1 y2 y3))
 | 0 => fun _ _ _ _ r h => by simp [slices_Equal_byte_byte.l0] at h
 | k + 1 => by
  have ih0 := slices_Equal_byte_byte.mono_l k
  ·intro y0 y1 y2 y3
   unfold slices_Equal_byte_byte.l0
   repeat' first
   | (with_reducible exact ih0 _ _ _ _)
   | (with_reducible exact LeO.refl _)
   | (with_reducible exact LeO.none _)
   | (with_reducible refine LeO.ite ?_ ?_)
   | (with_reducible refine LeO.bind ?_ (fun _ => ?_))
   | exact ih0 _ _ _ _
   | exact LeO.none _
   | refine LeO.ite ?_ ?_
   | refine LeO.bind ?_ (fun _ => ?_)
theorem slices_Equal_byte_byte.mono : ∀ a0 a1 k, LeO (slices_Equal_byte_byte.f k a0 a1) (slices_Equal_byte_byte.f (k + 1) a0 a1) := by
 intro a0 a1 k
 have ih0 := slices_Equal_byte_byte.mono_l k
 unfold slices_Equal_byte_byte.f
 repeat' first
   | (with_reducible exact ih0 _ _ _ _)
   | (with_reducible exact LeO.refl _)
   | (with_reducible exact LeO.none _)
   | (with_reducible refine LeO.ite ?_ ?_)
   | (with_reducible refine LeO.bind ?_ (fun _ => ?_))
   | exact ih0 _ _ _ _
   | exact LeO.none _
   | refine LeO.ite ?_ ?_
   | refine LeO.bind ?_ (fun _ => ?_)
set_option maxHeartbeats 8000000 in
set_option maxRecDepth 100000 in
theorem slices_Equal_byte_byte.calls (k : Nat) (A0 : Option Addr) (c0 : Nat) (l0 : List Int) (A1 : Option Addr) (c1 : Nat) (l1 : List Int) (r : Bool) (w : World) (hr0 : Kd.C (Kd.int .u8) w A0 l0.length l0) (hc0 : l0.length ≤ c0) (hr1 : Kd.C (Kd.int .u8) w A1 l1.length l1) (hc1 : l1.length ≤ c1) (h : slices_Equal_byte_byte.f k l0 l1 = some r) :
  Calls Try.prog 55 #[.slice A0 l0.length c0, .slice A1 l1.length c1] w fun e w' => e = .returned (.bool r) ∧ Drawn0 w w' := by
 have HR0 := Aside0.mk hr0
 have HC0 := Aside0.mk hc0
 clear hr0 hc0
 have HR1 := Aside0.mk hr1
 have HC1 := Aside0.mk hc1
 clear hr1 hc1
 have H : (if (l0.length : Int) = (l1.length : Int) then (slices_Equal_byte_byte.l0 k l0 l1 (l0.length : Int) 0) else (some false)) = some r := h
 clear h
 by_cases c3 : (l0.length : Int) = (l1.length : Int)
 ·rw [if_pos c3] at H
  have c3b0 : ((l0.length : Int) == (l1.length : Int)) = true := beq_iff_eq.mpr c3
  have c3b1 : ((l0.length : Int) != (l1.length : Int)) = false := bne_eq_false_iff_eq.mpr c3
  have c3b2 : (l0.length == l1.length) = true := by first | simpa using c3 | (simp at c3 ⊢; omega)
  clear c3
  have H' := Aside0.mk H
  clear H
  go_enter Try.func55, Try.ntmps55
  go_wp2
  repeat (go_quiet (fail); try go_wp2)
  go_loopg [13] k (fun kq v13 w' => ∃ (x13_1 : Int), v13 = .int .i64 x13_1 ∧ Aside0 (slices_Equal_byte_byte.l0 kq l0 l1 (l0.length : Int) x13_1 = some r) ∧ Aside0 (kq ≤ k) ∧ Drawn0 w w')
  case atStart => exact ⟨(0), (by first | rfl | (simp; done) | (simp [*]; done)), H', ⟨Nat.le_refl _⟩, by repeat (first | exact Drawn0.refl _ | apply Drawn0.step)⟩
  case round =>
   clear H'
   try clear c1
   try clear p2
   try clear c3
   try clear c3b0
   try clear c3b1
   try clear c3b2
   obtain ⟨x13_1, rfl, HA, HK1, ⟨m1, rfl⟩⟩ := hrel
   cases gk with
   | zero => exact absurd HA.out (by simp [slices_Equal_byte_byte.l0])
   | succ k1 =>
    have H := HA.out
    clear HA
    simp only [slices_Equal_byte_byte.l0] at H
    by_cases c4 : x13_1 < (l0.length : Int)
    ·rw [if_pos c4] at H
     have c4b0 : decide (x13_1 < (l0.length : Int)) = true := decide_eq_true c4
     clear c4
     by_cases c5 : 0 ≤ x13_1
     ·rw [if_pos c5] at H
      have c5b0 : decide (0 ≤ x13_1) = true := decide_eq_true c5
      clear c5
      by_cases c6 : x13_1 < (l0.length : Int)
      ·rw [if_pos c6] at H
       have c6b0 : decide (x13_1 < (l0.length : Int)) = true := decide_eq_true c6
       clear c6
       by_cases c7 : x13_1 < (l1.length : Int)
       ·rw [if_pos c7] at H
        have c7b0 : decide (x13_1 < (l1.length : Int)) = true := decide_eq_true c7
        clear c7
        by_cases c8 : (rd l0 x13_1) = (rd l1 x13_1)
        ·rw [if_pos c8] at H
         have c8b0 : ((rd l0 x13_1) == (rd l1 x13_1)) = true := beq_iff_eq.mpr c8
         have c8b1 : ((rd l0 x13_1) != (rd l1 x13_1)) = false := bne_eq_false_iff_eq.mpr c8
         clear c8
         have H' := Aside0.mk H
         clear H
         have p167 : 0 ≤ (x13_1 : Int) := of_decide_eq_true (by first | (with_reducible assumption) | assumption)
         have q167 : x13_1 < (l0.length : Int) := of_decide_eq_true (by first | (with_reducible assumption) | assumption)
         obtain ⟨ad167, e167, hx167_0⟩ := Kd.at_int HR0.out x13_1 p167 q167
         cases e167
         replace p167 := eq_true p167
         replace q167 := eq_true q167
         have p168 : 0 ≤ (x13_1 : Int) := of_decide_eq_true (by first | (with_reducible assumption) | assumption)
         have q168 : x13_1 < (l1.length : Int) := of_decide_eq_true (by first | (with_reducible assumption) | assumption)
         obtain ⟨ad168, e168, hx168_0⟩ := Kd.at_int HR1.out x13_1 p168 q168
         cases e168
         replace p168 := eq_true p168
         replace q168 := eq_true q168
         go_wp2
         repeat (go_quiet (fail); try go_wp2)
         go_roundg k1
         case measure => have := HK1.out; omega
         case rel => exact ⟨(wrap64 (x13_1 + 1)), (by first | rfl | (simp; done) | (simp [*]; done)), H', ⟨by have := HK1.out; omega⟩, by repeat (first | exact Drawn0.refl _ | apply Drawn0.step)⟩
        ·rw [if_neg c8] at H
         have c8b0 : ((rd l0 x13_1) == (rd l1 x13_1)) = false := beq_eq_false_iff_ne.mpr c8
         have c8b1 : ((rd l0 x13_1) != (rd l1 x13_1)) = true := bne_iff_ne.mpr c8
         obtain rfl := Option.some.inj H
         have p167 : 0 ≤ (x13_1 : Int) := of_decide_eq_true (by first | (with_reducible assumption) | assumption)
         have q167 : x13_1 < (l0.length : Int) := of_decide_eq_true (by first | (with_reducible assumption) | assumption)
         obtain ⟨ad167, e167, hx167_0⟩ := Kd.at_int HR0.out x13_1 p167 q167
         cases e167
         replace p167 := eq_true p167
         replace q167 := eq_true q167
         have p168 : 0 ≤ (x13_1 : Int) := of_decide_eq_true (by first | (with_reducible assumption) | assumption)
         have q168 : x13_1 < (l1.length : Int) := of_decide_eq_true (by first | (with_reducible assumption) | assumption)
         obtain ⟨ad168, e168, hx168_0⟩ := Kd.at_int HR1.out x13_1 p168 q168
         cases e168
         replace p168 := eq_true p168
         replace q168 := eq_true q168
         go_wp2
         repeat (go_quiet (fail); try go_wp2)
         go_ret
         exact ⟨by first | rfl | (simp; done) | (simp [*]; done), by repeat (first | exact Drawn0.refl _ | apply Drawn0.step)⟩
       ·rw [if_neg c7] at H
        exact absurd H (by simp)
      ·rw [if_neg c6] at H
       exact absurd H (by simp)
     ·rw [if_neg c5] at H
      exact absurd H (by simp)
    ·rw [if_neg c4] at H
     have c4b0 : decide (x13_1 < (l0.length : Int)) = false := decide_eq_false c4
     clear c4
     obtain rfl := Option.some.inj H
     go_wp2
     repeat (go_quiet (fail); try go_wp2)
     go_ret
     exact ⟨by first | rfl | (simp; done) | (simp [*]; done), by repeat (first | exact Drawn0.refl _ | apply Drawn0.step)⟩
 ·rw [if_neg c3] at H
  have c3b0 : ((l0.length : Int) == (l1.length : Int)) = false := beq_eq_false_iff_ne.mpr c3
  have c3b1 : ((l0.length : Int) != (l1.length : Int)) = true := bne_iff_ne.mpr c3
  have c3b2 : (l0.length == l1.length) = false := by first | simpa using c3 | (simp at c3 ⊢; omega)
  obtain rfl := Option.some.inj H
  go_enter Try.func55, Try.ntmps55
  go_wp2
  repeat (go_quiet (fail); try go_wp2)
  go_ret
  exact ⟨by first | rfl | (simp; done) | (simp [*]; done), by repeat (first | exact Drawn0.refl _ | apply Drawn0.step)⟩

end Go.Proofs.Ytaahkggbjpdofaa.M
end
section
namespace Go.Proofs.Ytaahkggbjpdofaa.M
open Go.RowKit Go.Proofs.YtaahkggbjpdofaaW.PrintWords Go.Proofs.YtaahkggbjpdofaaW.PrintLast Go.Proofs.YtaahkggbjpdofaaW.PrintMore
attribute [local go_sem] max2_int min2_int max_two min_two max_three min_three max_four min_four   -- for this text's walks alone
set_option linter.unusedVariables false
set_option linter.unusedSimpArgs false

/-! ### sums_Stamped: function 39 -/
def sums_Stamped.f (k : Nat) (l0 : List Int) : Option (Bool) := (sums_Stamp.f k l0).bind fun bt169 => (if bt169.2 = 0 then ((slices_Equal_byte_byte.f k bt169.1 l0).bind fun t173 => (some t173)) else (some false))
theorem sums_Stamped.mono : ∀ a0 k, LeO (sums_Stamped.f k a0) (sums_Stamped.f (k + 1) a0) := by
 intro a0 k
 unfold sums_Stamped.f
 repeat' first
   | (with_reducible exact slices_Equal_byte_byte.mono _ _ _)
   | (with_reducible exact sums_Stamp.mono _ _)
   | (with_reducible exact LeO.refl _)
   | (with_reducible exact LeO.none _)
   | (with_reducible refine LeO.ite ?_ ?_)
   | (with_reducible refine LeO.bind ?_ (fun _ => ?_))
   | exact slices_Equal_byte_byte.mono _ _ _
   | exact sums_Stamp.mono _ _
   | exact LeO.none _
   | refine LeO.ite ?_ ?_
   | refine LeO.bind ?_ (fun _ => ?_)
set_option maxHeartbeats 8000000 in
set_option maxRecDepth 100000 in
theorem sums_Stamped.calls (k : Nat) (A0 : Option Addr) (c0 : Nat) (l0 : List Int) (r : Bool) (w : World) (hr0 : Kd.C (Kd.int .u8) w A0 l0.length l0) (hc0 : l0.length ≤ c0) (h : sums_Stamped.f k l0 = some r) :
  Calls Try.prog 39 #[.slice A0 l0.length c0] w fun e w' => e = .returned (.bool r) ∧ Below w.heap.size w w' := by
 have HR0 := Aside0.mk hr0
 have HC0 := Aside0.mk hc0
 clear hr0 hc0
 have HB := Aside0.mk (Below.refl w.heap.size w)
 have H : ((sums_Stamp.f k l0).bind fun bt169 => (if bt169.2 = 0 then ((slices_Equal_byte_byte.f k bt169.1 l0).bind fun t173 => (some t173)) else (some false))) = some r := h
 clear h
 replace H := Option.bind_eq_some_iff.mp H
 obtain ⟨⟨t169, t170⟩, A20, H⟩ := H
 replace H : (if t170 = 0 then ((slices_Equal_byte_byte.f k t169 l0).bind fun t173 => (some t173)) else (some false)) = some r := H
 have A2 := Aside0.mk A20
 clear A20
 by_cases c3 : t170 = 0
 ·rw [if_pos c3] at H
  have c3b0 : (t170 == 0) = true := beq_iff_eq.mpr c3
  have c3b1 : (t170 != 0) = false := bne_eq_false_iff_eq.mpr c3
  clear c3
  replace H := Option.bind_eq_some_iff.mp H
  obtain ⟨t173, A40, H⟩ := H
  replace H : (some t173) = some r := H
  have A4 := Aside0.mk A40
  clear A40
  obtain rfl := Option.some.inj H
  go_enter Try.func39, Try.ntmps39
  go_wp2_with (first | ((with_reducible refine gate_callee (f := 34) rfl ?_); refine goesL_ (some 7) rfl rfl Try.func34 (by kernel_rfl) rfl #[.slice A0 l0.length c0] rfl (by (try simp only [List.map_toArray, List.map_cons, List.map_nil]); first | done | rfl | (simp only [List.length_drop, List.length_take]; rfl)) ?_; (with_reducible refine (sums_Stamp.calls k _ _ l0 t169 t170 _ ?side1 ?side2 A2.out).mono ?_); (case side1 => repeat (first | exact HR0.out | (with_reducible refine Kd.C_alloc ?_ _) | (with_reducible refine Kd.C_drewN ?_ _) | (with_reducible refine Kd.C_drew ?_))); (case side2 => exact HC0.out); rintro e w5 ⟨v171, rfl, ho0, hb⟩; refine ⟨_, rfl, ?_⟩; have n0_ := Aside0.mk (Kd.R_lower ho0 (below_size (by repeat (first | (with_reducible first | exact HB.out | apply below_alloc | apply pw_below_drewN | apply below_drew1) | exact HB.out)))); have n1_ := Aside0.mk (below_step (by repeat (first | (with_reducible first | exact HB.out | apply below_alloc | apply pw_below_drewN | apply below_drew1) | exact HB.out)) hb); clear HB; have HO172 := n0_; have HB := n1_; clear n0_ n1_; (try clear hb); (try clear hb2); (try clear hk); (try clear hi); (try clear ho0); obtain ⟨Ao6, co6, eo6⟩ := Kd.R_slice HO172.out; subst eo6) | (go_at_call 55; (with_reducible refine (slices_Equal_byte_byte.calls k _ _ t169 _ _ l0 t173 _ ?side1 ?side2 ?side3 ?side4 A4.out).mono ?_); (case side1 => repeat (first | exact (Kd.R_reads' HO172.out).2.2 | (with_reducible refine Kd.C_alloc ?_ _) | (with_reducible refine Kd.C_drewN ?_ _) | (with_reducible refine Kd.C_drew ?_))); (case side2 => exact (Kd.R_reads' HO172.out).2.1); (case side3 => repeat (first | exact (Kd.C_below HR0.out HB.out) | (with_reducible refine Kd.C_alloc ?_ _) | (with_reducible refine Kd.C_drewN ?_ _) | (with_reducible refine Kd.C_drew ?_))); (case side4 => exact HC0.out); rintro e w' ⟨rfl, ⟨nd, rfl⟩⟩))
  go_ret
  exact ⟨by first | rfl | (simp [errW_none, errW_some] <;> rfl) | (simp [*, errW_none, errW_some] <;> rfl), by repeat (first | (with_reducible first | exact HB.out | apply below_alloc | apply pw_below_drewN | apply below_drew1) | exact HB.out)⟩
 ·rw [if_neg c3] at H
  have c3b0 : (t170 == 0) = false := beq_eq_false_iff_ne.mpr c3
  have c3b1 : (t170 != 0) = true := bne_iff_ne.mpr c3
  obtain rfl := Option.some.inj H
  go_enter Try.func39, Try.ntmps39
  go_wp2_with (first | ((with_reducible refine gate_callee (f := 34) rfl ?_); refine goesL_ (some 7) rfl rfl Try.func34 (by kernel_rfl) rfl #[.slice A0 l0.length c0] rfl (by (try simp only [List.map_toArray, List.map_cons, List.map_nil]); first | done | rfl | (simp only [List.length_drop, List.length_take]; rfl)) ?_; (with_reducible refine (sums_Stamp.calls k _ _ l0 t169 t170 _ ?side1 ?side2 A2.out).mono ?_); (case side1 => repeat (first | exact HR0.out | (with_reducible refine Kd.C_alloc ?_ _) | (with_reducible refine Kd.C_drewN ?_ _) | (with_reducible refine Kd.C_drew ?_))); (case side2 => exact HC0.out); rintro e w7 ⟨v171, rfl, ho0, hb⟩; refine ⟨_, rfl, ?_⟩; have n0_ := Aside0.mk (Kd.R_lower ho0 (below_size (by repeat (first | (with_reducible first | exact HB.out | apply below_alloc | apply pw_below_drewN | apply below_drew1) | exact HB.out)))); have n1_ := Aside0.mk (below_step (by repeat (first | (with_reducible first | exact HB.out | apply below_alloc | apply pw_below_drewN | apply below_drew1) | exact HB.out)) hb); clear HB; have HO172 := n0_; have HB := n1_; clear n0_ n1_; (try clear hb); (try clear hb2); (try clear hk); (try clear hi); (try clear ho0)))
  go_ret
  exact ⟨by first | rfl | (simp [errW_none, errW_some] <;> rfl) | (simp [*, errW_none, errW_some] <;> rfl), by repeat (first | (with_reducible first | exact HB.out | apply below_alloc | apply pw_below_drewN | apply below_drew1) | exact HB.out)⟩

end Go.Proofs.Ytaahkggbjpdofaa.M
end
section
/- The reader of packets: left, take, num, must, by what their reader's block holds. -/
section
namespace Go.Proofs.Ytaahkggbjpdofaa.M
open Go.RowKit Go.Proofs.YtaahkggbjpdofaaW.PrintWords Go.Proofs.YtaahkggbjpdofaaW.PrintLast Go.Proofs.YtaahkggbjpdofaaW.PrintMore
set_option linter.unusedVariables false
set_option linter.unusedSimpArgs false
/-- What a fault panics with. -/
@[reducible] def faultV (e : Int) : Value := .iface 68 (.agg #[.int .i64 e])
/-- A reader: a block of ours with the bytes that are left. -/
def RdrOf (w0 w : World) (g : Nat) (l : List Int) : Prop :=
  w0.heap.size ≤ g ∧ ∃ A c, w.heap[g]? = some (.cells #[.slice A l.length c] 73 (0, 0)) ∧ l.length ≤ c ∧ Kd.C (Kd.int .u8) w0 A l.length l
theorem RdrOf.kept {w0 w W : World} {g : Nat} {l : List Int} {S : Nat → Prop} (h : RdrOf w0 w g l) (hk : Kept w W S) (hn : ¬ S g) : RdrOf w0 W g l := by
  obtain ⟨h1, A, c, h2, h3, h4⟩ := h
  exact ⟨h1, A, c, blk_kept h2 hk hn, h3, h4⟩
theorem RdrOf.below {w0 w W : World} {g : Nat} {l : List Int} (h : RdrOf w0 w g l) (hk : Below w.heap.size w W) : RdrOf w0 W g l := h.kept (Kept.of_below hk (fun _ => False)) (fun h => h)
theorem RdrOf.lt {w0 w : World} {g : Nat} {l : List Int} (h : RdrOf w0 w g l) : g < w.heap.size := by
  obtain ⟨h1, A, c, h2, _⟩ := h
  exact blk_lt h2
set_option maxHeartbeats 1600000 in
set_option maxRecDepth 100000 in
theorem left_calls (g : Nat) (l : List Int) (b : Bool) (w0 w : World) (h : RdrOf w0 w g l) (hb : decide (0 < l.length) = b) :
    Calls Try.prog 58 #[.pointer (some ⟨g, 0, none⟩)] w fun e w' => e = .returned (.bool b) ∧ w' = w := by
  obtain ⟨hg, A, c, hx, hc, hC⟩ := h
  have hc0 : w.cell? ⟨g, 0, none⟩ = some (.slice A l.length c) := blk_cell hx 0
  have hb' : decide ((0 : Int) < (l.length : Int)) = b := by rw [← hb]; simp
  go_enter Try.func58, Try.ntmps58
  go_wp2
  refine bodyPost_ret (v := .bool b) (by simp [results, Try.results58, go_sem, hb, hb'] <;> rfl) rfl ⟨rfl, rfl⟩
set_option maxHeartbeats 1600000 in
set_option maxRecDepth 100000 in
theorem must_ok (e : Int) (w : World) : Calls Try.prog 38 #[.bool true, .int .i64 e] w fun x w' => x = .returned (.tuple #[]) ∧ w' = w := by
  go_enter Try.func38, Try.ntmps38
  go_wp2
  go_end0
  exact ⟨rfl, rfl⟩
set_option maxHeartbeats 1600000 in
set_option maxRecDepth 100000 in
theorem must_bad (e : Int) (w : World) : Calls Try.prog 38 #[.bool false, .int .i64 e] w fun x w' => x = .panicked [{ v := faultV e, recovered := false }] ∧ w' = w := by
  go_enter Try.func38, Try.ntmps38
  go_wp2
  exact ⟨rfl, rfl, rfl⟩
set_option maxHeartbeats 1600000 in
set_option maxRecDepth 100000 in
theorem take_ok (g : Nat) (l : List Int) (m e : Int) (w0 w : World) (hB : Below w0.heap.size w0 w) (h : RdrOf w0 w g l) (h0 : 0 ≤ m) (hm : m ≤ l.length) :
    Calls Try.prog 57 #[.pointer (some ⟨g, 0, none⟩), .int .i64 m, .int .i64 e] w fun x w' => ∃ A c, x = .returned (.slice A (l.take m.toNat).length c) ∧ (l.take m.toNat).length ≤ c ∧ Kd.C (Kd.int .u8) w0 A (l.take m.toNat).length (l.take m.toNat) ∧ RdrOf w0 w' g (l.drop m.toNat) ∧ Below w0.heap.size w0 w' ∧ Kept w w' (fun k => k = g) := by
  obtain ⟨hg, A, c, hx, hc, hC⟩ := h
  have hc0 : w.cell? ⟨g, 0, none⟩ = some (.slice A l.length c) := blk_cell hx 0
  have hf0 : w.frozen? ⟨g, 0, none⟩ = false := blk_frozen hx 0
  have hlt : decide ((l.length : Int) < m) = false := decide_eq_false (by omega)
  obtain ⟨i0, hi0, _, hsz, _⟩ := info_parts st_info
  have hto := cut_to (P := Try.prog) 27 5 .i64 Try.underlying27 hi0 A l.length c m h0 hm hc
  have hfrom := cut_from (P := Try.prog) 27 5 .i64 Try.underlying27 hi0 1 hsz A l.length c m h0 hm
  have hm' : m.toNat ≤ l.length := by omega
  have hl1 : (l.take m.toNat).length = m.toNat := by rw [List.length_take]; omega
  have hl2 : (l.drop m.toNat).length = l.length - m.toNat := List.length_drop
  have HC1 := Aside0.mk (Kd.C_take (m := m.toNat) hC hm')
  have HC2 := Aside0.mk (Kd.C_drop (m := m.toNat) hC hm' hc)
  obtain ⟨A2, hA2⟩ : ∃ A2, A2 = (if c = m.toNat then A else A.map (·.add (m.toNat * 1))) := ⟨_, rfl⟩
  rw [← hA2] at hfrom
  have HA2 := Aside0.mk hA2
  have HX := Aside0.mk hx
  have HB := Aside0.mk hB
  have HG := Aside0.mk hg
  have HC := Aside0.mk hc
  have HM := Aside0.mk hm'
  have HL1 := Aside0.mk hl1
  have HL2 := Aside0.mk hl2
  clear hA2 hx hB hg hc hC hm' hl1 hl2 hi0 hsz h0 hm
  go_enter Try.func57, Try.ntmps57
  go_wp2
  go_ret
  refine ⟨A, c, by first | (rw [HL1.out]; done) | (rw [HL1.out]; rfl), by have := HL1.out; have := HM.out; have := HC.out; omega, HC1.out, ⟨HG.out, A2, c - m.toNat, ?_, by have := HL2.out; have := HC.out; omega, by rw [HA2.out]; exact HC2.out⟩, below_set HB.out HG.out, Kept.setCell (Kept.refl w (fun k => k = g)) (p := ⟨g, 0, none⟩) (.inl rfl) _⟩
  rw [HL2.out]
  exact blk_put HX.out 0 _ rfl
set_option maxHeartbeats 1600000 in
set_option maxRecDepth 100000 in
theorem take_bad (g : Nat) (l : List Int) (m e : Int) (w0 w : World) (h : RdrOf w0 w g l) (hm : (l.length : Int) < m) :
    Calls Try.prog 57 #[.pointer (some ⟨g, 0, none⟩), .int .i64 m, .int .i64 e] w fun x w' => x = .panicked [{ v := faultV e, recovered := false }] ∧ w' = w := by
  obtain ⟨hg, A, c, hx, hc, hC⟩ := h
  have hc0 : w.cell? ⟨g, 0, none⟩ = some (.slice A l.length c) := blk_cell hx 0
  have hlt : decide ((l.length : Int) < m) = true := decide_eq_true hm
  clear hx hg hc hC hm
  go_enter Try.func57, Try.ntmps57
  go_wp2
  exact ⟨rfl, rfl, rfl⟩
theorem take_y (g : Nat) (l y : List Int) (m e : Int) (w0 w : World) (hy : y = l.take m.toNat) (hB : Below w0.heap.size w0 w) (h : RdrOf w0 w g l) (h0 : 0 ≤ m) (hm : m ≤ l.length) :
    Calls Try.prog 57 #[.pointer (some ⟨g, 0, none⟩), .int .i64 m, .int .i64 e] w fun x w' => ∃ A c, x = .returned (.slice A y.length c) ∧ y.length ≤ c ∧ Kd.C (Kd.int .u8) w0 A y.length y ∧ RdrOf w0 w' g (l.drop m.toNat) ∧ Below w0.heap.size w0 w' ∧ Kept w w' (fun k => k = g) := by
  subst hy
  exact take_ok g l m e w0 w hB h h0 hm
set_option maxHeartbeats 1600000 in
set_option maxRecDepth 100000 in
theorem num_ok (k g : Nat) (l : List Int) (m r1 r2 : Int) (w0 w : World) (hB : Below w0.heap.size w0 w) (h : RdrOf w0 w g l) (h0 : 0 ≤ m) (hm : m ≤ l.length) (hf : octet_Num.f k (l.take m.toNat) 0 m = some (r1, r2)) :
    Calls Try.prog 40 #[.pointer (some ⟨g, 0, none⟩), .int .i64 m] w fun x w' => x = .returned (.int .i64 (wrap64 r1)) ∧ RdrOf w0 w' g (l.drop m.toNat) ∧ Below w0.heap.size w0 w' ∧ Kept w w' (fun k => k = g) := by
  obtain ⟨y, hy⟩ : ∃ y, y = l.take m.toNat := ⟨_, rfl⟩
  rw [← hy] at hf
  have HY := Aside0.mk hy
  have HB := Aside0.mk hB
  have HX := Aside0.mk h
  have H0 := Aside0.mk h0
  have HM := Aside0.mk hm
  have HF := Aside0.mk hf
  clear hy hB h h0 hm hf
  go_enter Try.func40, Try.ntmps40
  go_wp2_with (first | (go_at_call 57; (with_reducible refine (take_y g l y m 4 w0 w HY.out HB.out HX.out H0.out HM.out).mono ?_); rintro e w1 ⟨A1, c1, rfl, hc1, hC1, hx1, hb1, hk1⟩; have HC1 := Aside0.mk hC1; have HD1 := Aside0.mk hc1; have HB1 := Aside0.mk hb1; have HX1 := Aside0.mk hx1; have HK1 := Aside0.mk hk1; clear hC1 hc1 hb1 hx1 hk1) | (go_at_call 56; (with_reducible refine (octet_Num.calls k A1 c1 y 0 m r1 r2 w1 (Kd.C_below HC1.out HB1.out) HD1.out HF.out).mono ?_); rintro e w2 ⟨rfl, hd⟩; have HB2 := Aside0.mk hd.below; clear hd))
  go_ret
  exact ⟨rfl, HX1.out.below HB2.out, below_step HB1.out HB2.out, HK1.out.below HB2.out⟩
set_option maxHeartbeats 1600000 in
set_option maxRecDepth 100000 in
theorem num_bad (g : Nat) (l : List Int) (m : Int) (w0 w : World) (h : RdrOf w0 w g l) (hm : (l.length : Int) < m) :
    Calls Try.prog 40 #[.pointer (some ⟨g, 0, none⟩), .int .i64 m] w fun x w' => x = .panicked [{ v := faultV 4, recovered := false }] ∧ w' = w := by
  have HX := Aside0.mk h
  have HM := Aside0.mk hm
  clear h hm
  go_enter Try.func40, Try.ntmps40
  go_wp2_with (first | (go_at_call 57; (with_reducible refine (take_bad g l m 4 w0 w HX.out HM.out).mono ?_); rintro e w1 ⟨rfl, rfl⟩))
  exact ⟨rfl, rfl, rfl⟩
end Go.Proofs.Ytaahkggbjpdofaa.M
end
section
namespace Go.Proofs.Ytaahkggbjpdofaa.M
open Go.RowKit Go.Proofs.YtaahkggbjpdofaaW.PrintWords Go.Proofs.YtaahkggbjpdofaaW.PrintLast Go.Proofs.YtaahkggbjpdofaaW.PrintMore
set_option linter.unusedVariables false
set_option linter.unusedSimpArgs false
theorem zero_fault (w : World) : (zeroValue 68).run Try.prog w = .ok (.agg #[.int .i64 0]) w := by kernel_rfl
theorem as_nil (w : World) : (Instr.typeAssert .nilIface 20 68 true).run Try.prog w = .ok (.tuple #[.agg #[.int .i64 0], .bool false]) w := by simp [Instr.typeAssert, go_sem, zero_fault]
theorem as_fault (v : Value) (w : World) : (Instr.typeAssert (.iface 68 v) 20 68 true).run Try.prog w = .ok (.tuple #[v, .bool true]) w := by simp [Instr.typeAssert, go_sem]
attribute [local go_sem] as_nil as_fault
set_option maxHeartbeats 400000 in
set_option maxRecDepth 100000 in
theorem catch_idle (ph pl pe : Addr) (w : World) :
    CallsD Try.prog 37 #[.pointer (some ph), .pointer (some pl), .pointer (some pe)] .returning w fun e u' w' => e = .returned (.tuple #[]) ∧ u' = .returning ∧ Below w.heap.size w w' := by
  refine callsD_of_wpS Try.func37 rfl fun c₀ cs hu => ?_
  apply wpS_seq
  generalize hK : Exit.thenS _ _ = K
  apply wpS_region
  simp [wpOpsS, go_sem, recoverD, hu, Try.ntmps37]
  subst hK
  simp only [Exit.thenS]
  refine wpS_of_wp ?_
  have ht : (#[Value.pointer (some ph), Value.pointer (some pl), Value.pointer (some pe)] ++ ((Array.replicate 20 undef).setIfInBounds 3 Value.nilIface).setIfInBounds 0 Value.nilIface) = #[Value.pointer (some ph), Value.pointer (some pl), Value.pointer (some pe), .nilIface, undef, undef, .nilIface, undef, undef, undef, undef, undef, undef, undef, undef, undef, undef, undef, undef, undef, undef, undef, undef] := by kernel_rfl
  rw [ht]
  clear ht
  go_wp2_with (first | ((with_reducible refine gate_dst (N := 4) rfl ?_); refine box_event ?hg (N := 4) ?hd (cs := #[.int .i64 0]) (t := 68) ?hr ?_; (case hd => rfl); (case hg => rfl); (case hr => first | (go_simp; done) | (go_simp; rfl)); intro p4 hg4 w1 hbox4 hb4; have hd0 : w1.cell? ⟨p4, 0, none⟩ = some (.int .i64 0) := blk_cell hbox4 0; have hf0 : w1.frozen? ⟨p4, 0, none⟩ = false := blk_frozen hbox4 0; have HP4 := Aside0.mk (show w.heap.size ≤ p4 by omega); have HB4 := Aside0.mk hb4; clear hg4 hbox4 hb4))
  have hb := below_set (j := 0) (v := .int .i64 0) HB4.out HP4.out
  cases c₀
  simp_all [bodyPostS, results, Try.results37]
end Go.Proofs.Ytaahkggbjpdofaa.M
end
section
namespace Go.Proofs.Ytaahkggbjpdofaa.M
open Go.RowKit Go.Proofs.YtaahkggbjpdofaaW.PrintWords Go.Proofs.YtaahkggbjpdofaaW.PrintLast Go.Proofs.YtaahkggbjpdofaaW.PrintMore
set_option linter.unusedVariables false
set_option linter.unusedSimpArgs false
theorem exit_cut {P : Program} {next : Act → World → Prop} {Q : Exit → Act → World → Prop} {x : Exit} {a : Act} {W : World} (F : World → Prop) (h : F W) (k : ∀ wz, F wz → Exit.then next Q x a wz) : Exit.then next Q x a W := k W h
end Go.Proofs.Ytaahkggbjpdofaa.M
end
end
