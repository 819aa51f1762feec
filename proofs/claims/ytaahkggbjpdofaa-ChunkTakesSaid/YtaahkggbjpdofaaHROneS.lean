/- The document's One: firsts, acknowledgements, and all kinds joined. -/
import Derived.Test.YtaahkggbjpdofaaM35
import Derived.WalkSpells
import Derived.LoopN
import Derived.Deep.RegionWith
import Derived.Deep.RegionLaw
namespace Go.Proofs.Ytaahkggbjpdofaa.M
open Go.RowKit Go.Proofs.YtaahkggbjpdofaaW.PrintWords Go.Proofs.YtaahkggbjpdofaaW.PrintLast Go.Proofs.YtaahkggbjpdofaaW.PrintMore
open Go.Proofs.Ytaahkggbjpdofaa.Pure
set_option linter.unusedVariables false
set_option linter.unusedSimpArgs false
set_option maxHeartbeats 4000000 in
set_option maxRecDepth 100000 in
theorem rone_first (t fl : Int) (A0 : Option Addr) (c0 : Nat) (l : List Int) (w : World) (hr0 : Kd.C (Kd.int .u8) w A0 l.length l) (hc0 : l.length ≤ c0) (hb : Bytes l) (hl : l.length ≤ 65536) (ht : t = 1 ∨ t = 2) (x2 : Bool) (ht1 : (t == 1) = !x2) (ht2 : (t == 2) = x2) :
    Calls Try.prog 43 #[.int .u8 t, .int .u8 fl, .slice A0 l.length c0] w fun x w' => Below w.heap.size w w' ∧ ROneOut w w' x (firstR t fl l) := by
  have HR := Aside0.mk hr0
  have HC := Aside0.mk hc0
  have HBY := Aside0.mk hb
  have HL := Aside0.mk hl
  clear hr0 hc0 hb hl
  have hu29 := Try.underlying29
  have HLE := Aside0.mk (show trunklineref12_least.f 3 t = some 16 by rcases ht with rfl | rfl <;> rfl)
  have HBA := Aside0.mk (show trunklineref12_isBare.f t = some false by rcases ht with rfl | rfl <;> rfl)
  have ht0 : (t == 0) = false := by rcases ht with rfl | rfl <;> rfl
  have ht3 : (t == 3) = false := by rcases ht with rfl | rfl <;> rfl
  have ht7 : (t == 7) = false := by rcases ht with rfl | rfl <;> rfl
  go_enter Try.func43, Try.ntmps43
  go_upto_region 2 with (first | ((with_reducible refine gate_dst (N := 6) rfl ?_); (try (refine gate_guard (by rfl) ?_; dsimp only)); refine box_event ?hg (N := 6) ?hd (cs := #[.int .u8 0, .int .u8 0, .int .u32 0, .int .u16 0, .int .u16 0, .int .u32 0, .int .u32 0, .int .u32 0, .int .u16 0, .int .u16 0, .slice none 0 0, .slice none 0 0, .slice none 0 0, .slice none 0 0]) (t := 29) ?hr ?_; (case hd => rfl); (case hg => rfl); (case hr => first | (go_simp; done) | (go_simp; rfl)); intro p6 hg w1_ hbox hb; have HWB := Aside0.mk hb; have HW6 := Aside0.mk hbox; have GE6 := Aside0.mk (show w.heap.size ≤ p6 by rw [hg]; exact Nat.le_refl _); clear hg hbox hb) | ((with_reducible refine gate_dst (N := 8) rfl ?_); (try (refine gate_guard (by rfl) ?_; dsimp only)); refine box_event ?hg (N := 8) ?hd (cs := #[.int .u8 0, .int .u8 0, .int .u32 0, .int .u16 0, .int .u16 0, .int .u32 0, .int .u32 0, .int .u32 0, .int .u16 0, .int .u16 0, .slice none 0 0, .slice none 0 0, .slice none 0 0, .slice none 0 0]) (t := 29) ?hr ?_; (case hd => rfl); (case hg => rfl); (case hr => first | (go_simp; done) | (go_simp; rfl)); intro p8 hg w2_ hbox hb; have nb_ := Aside0.mk (below_step HWB.out hb); have n6_ := Aside0.mk (blk_below HW6.out hb); have HW8 := Aside0.mk hbox; have GE8 := Aside0.mk (show w.heap.size ≤ p8 by rw [hg]; exact HWB.out.size); have NE68 := Aside0.mk (show p6 ≠ p8 by rw [hg]; exact Nat.ne_of_lt (blk_lt HW6.out)); clear HWB HW6; have HWB := nb_; have HW6 := n6_; clear nb_ n6_ hg hbox hb; obtain ⟨⟨hz0, hz1, hz2, hz3, hz4, hz5, hz6, hz7, hz8, hz9, hz10, hz11, hz12, hz13⟩, ⟨hy0, hy1, hy2, hy3, hy4, hy5, hy6, hy7, hy8, hy9, hy10, hy11, hy12, hy13⟩⟩ := oneC14 HW8.out))
  refine wp_cutw (fun W => OneAt w W p6 p8 #[.int .u8 t, .int .u8 fl, .int .u32 0, .int .u16 0, .int .u16 0, .int .u32 0, .int .u32 0, .int .u32 0, .int .u16 0, .int .u16 0, .slice none 0 0, .slice none 0 0, .slice none 0 0, .slice none 0 0]) (OneAt.start HW8.out HW6.out HWB.out GE6.out GE8.out NE68.out) ?_
  rintro W0 ha_
  clear HW8 HW6 HWB GE6 GE8 NE68 hz0 hy0 hz1 hy1 hz2 hy2 hz3 hy3 hz4 hy4 hz5 hy5 hz6 hy6 hz7 hy7 hz8 hy8 hz9 hy9 hz10 hy10 hz11 hy11 hz12 hy12 hz13 hy13
  have HA := Aside0.mk ha_
  clear ha_
  by_cases h4 : l.length < 16
  · have HE := Aside0.mk h4
    have hdlt16 : decide ((l.length : Int) < 16) = true := decide_eq_true (by omega)
    have hDlt16 : decide (l.length < 16) = true := decide_eq_true (by omega)
    have hqlt16 : (l.length < 16) = True := eq_true (by omega)
    clear h4 ht
    go_upto_region 4 with (first | (go_at_call 60; (with_reducible refine (trunklineref12_least.calls 3 t 16 _ HLE.out).mono ?_); rintro e w3_ ⟨rfl, hd⟩; have hb := hd.below; have na_ := Aside0.mk (show OneAt w w3_ p6 p8 #[.int .u8 t, .int .u8 fl, .int .u32 0, .int .u16 0, .int .u16 0, .int .u32 0, .int .u32 0, .int .u32 0, .int .u16 0, .int .u16 0, .slice none 0 0, .slice none 0 0, .slice none 0 0, .slice none 0 0] from OneAt.next HA.out hb); clear HA; have HA := na_; clear na_; clear hd hb))
    obtain ⟨⟨hz0, hz1, hz2, hz3, hz4, hz5, hz6, hz7, hz8, hz9, hz10, hz11, hz12, hz13⟩, ⟨hy0, hy1, hy2, hy3, hy4, hy5, hy6, hy7, hy8, hy9, hy10, hy11, hy12, hy13⟩⟩ := oneC14 HA.out.b8
    obtain ⟨⟨gz0, gz1, gz2, gz3, gz4, gz5, gz6, gz7, gz8, gz9, gz10, gz11, gz12, gz13⟩, ⟨gy0, gy1, gy2, gy3, gy4, gy5, gy6, gy7, gy8, gy9, gy10, gy11, gy12, gy13⟩⟩ := HA.out.cells6
    have hne := HA.out.ne
    have hne' := HA.out.ne.symm
    go_wp2
    refine bodyPost_ret (results_ct rfl _ _ p6 29 #[.int .u8 t, .int .u8 fl, .int .u32 0, .int .u16 0, .int .u16 0, .int .u32 0, .int .u32 0, .int .u32 0, .int .u16 0, .int .u16 0, .slice none 0 0, .slice none 0 0, .slice none 0 0, .slice none 0 0] (0, 0) _ rfl HA.out.put6.1 Try.underlying29 rfl (by kernel_rfl)) rfl ⟨HA.out.put6.2, ?_⟩
    unfold firstR
    rw [if_pos HE.out]
    exact ⟨_, _, _, _, _, _, _, _, _, _, rfl⟩
  have hdlt16 : decide ((l.length : Int) < 16) = false := decide_eq_false (by omega)
  have hDlt16 : decide (l.length < 16) = false := decide_eq_false (by omega)
  have hqlt16 : (l.length < 16) = False := eq_false (by omega)
  obtain ⟨r0, hr0⟩ : ∃ r, r = numN (l.drop (0 : Int).toNat) 4 := ⟨_, rfl⟩
  have HNr0 := Aside0.mk hr0
  have HA0 := Aside0.mk (show (0 : Int) + 4 ≤ (l.length : Int) by omega)
  obtain ⟨r1, hr1⟩ : ∃ r, r = numN (l.drop (4 : Int).toNat) 4 := ⟨_, rfl⟩
  have HNr1 := Aside0.mk hr1
  have HA4 := Aside0.mk (show (4 : Int) + 4 ≤ (l.length : Int) by omega)
  obtain ⟨r2, hr2⟩ : ∃ r, r = numN (l.drop (8 : Int).toNat) 2 := ⟨_, rfl⟩
  have HNr2 := Aside0.mk hr2
  have HA8 := Aside0.mk (show (8 : Int) + 2 ≤ (l.length : Int) by omega)
  have hwr2 : IntKind.u16.wrap r2 = r2 := u16w (by rw [hr2]; exact num2_range (HBY.out.drop _))
  have hmr2 : r2 % 65536 = r2 := by have := num2_range (HBY.out.drop (8 : Int).toNat); rw [← hr2] at this; omega
  obtain ⟨r3, hr3⟩ : ∃ r, r = numN (l.drop (10 : Int).toNat) 2 := ⟨_, rfl⟩
  have HNr3 := Aside0.mk hr3
  have HA10 := Aside0.mk (show (10 : Int) + 2 ≤ (l.length : Int) by omega)
  have hwr3 : IntKind.u16.wrap r3 = r3 := u16w (by rw [hr3]; exact num2_range (HBY.out.drop _))
  have hmr3 : r3 % 65536 = r3 := by have := num2_range (HBY.out.drop (10 : Int).toNat); rw [← hr3] at this; omega
  obtain ⟨r4, hr4⟩ : ∃ r, r = numN (l.drop (12 : Int).toNat) 4 := ⟨_, rfl⟩
  have HNr4 := Aside0.mk hr4
  have HA12 := Aside0.mk (show (12 : Int) + 4 ≤ (l.length : Int) by omega)
  obtain ⟨y, hy⟩ : ∃ y, y = l.drop 16 := ⟨_, rfl⟩
  have HYL := Aside0.mk (show y.length = l.length - (16 : Int).toNat by rw [hy, List.length_drop]; rfl)
  obtain ⟨i0, hi0, _, hsz, _⟩ := info_parts info5
  have hcut := cut_from (P := Try.prog) 27 5 .i64 Try.underlying27 hi0 1 hsz A0 l.length c0 16 (by decide) (by omega)
  obtain ⟨A2, hA2⟩ : ∃ A1, A1 = (if c0 = (16 : Int).toNat then A0 else A0.map (·.add ((16 : Int).toNat * 1))) := ⟨_, rfl⟩
  obtain ⟨c2, hc2⟩ : ∃ c1, c1 = c0 - (16 : Int).toNat := ⟨_, rfl⟩
  rw [← HYL.out, ← hA2, ← hc2] at hcut
  have HCM := Aside0.mk (show ∀ W, Below w.heap.size w W → Kd.C (Kd.int .u8) W A2 y.length y by
    intro W hW
    have h := Kd.C_drop (m := 16) (c := c0) (Kd.C_below HR.out hW) (by omega) HC.out
    rw [hA2, hy]; exact h)
  have HCC := Aside0.mk (show y.length ≤ c2 by rw [hc2, HYL.out]; have := HC.out; omega)
  have HY := Aside0.mk hy
  clear hy hi0 hsz hA2 hc2
  have HYB := Aside0.mk (show Bytes y by rw [HY.out]; exact HBY.out.drop 16)
  have HYS := Aside0.mk (show y.length ≤ 65536 by rw [HYL.out]; have := HL.out; omega)
  have HSF := Aside0.mk (show firstR t fl l = match parsV (y.length + 1) y [] with | .ok ps => .ok ⟨t, fl, r4, 0, 0, 0, r0, r1, r2, r3, [], [], ps, []⟩ | .error e => .error e by
    unfold firstR
    rw [if_neg h4]
    simp only [List.drop_drop]
    rw [hr0, hr1, hr2, hr3, hr4, HY.out]
    rfl)
  clear h4 ht hr0 hr1 hr2 hr3 hr4
  cases hsp : parsV (y.length + 1) y [] with
  | ok ps =>
    have HSP := Aside0.mk hsp
    clear hsp
    cases x2
    all_goals
      first | rw [Bool.not_false] at ht1 | rw [Bool.not_true] at ht1
      go_upto_region 41 with (first | (go_at_call 60; (with_reducible refine (trunklineref12_least.calls 3 t 16 _ HLE.out).mono ?_); rintro e w3_ ⟨rfl, hd⟩; have hb := hd.below; have na_ := Aside0.mk (show OneAt w w3_ p6 p8 #[.int .u8 t, .int .u8 fl, .int .u32 0, .int .u16 0, .int .u16 0, .int .u32 0, .int .u32 0, .int .u32 0, .int .u16 0, .int .u16 0, .slice none 0 0, .slice none 0 0, .slice none 0 0, .slice none 0 0] from OneAt.next HA.out hb); clear HA; have HA := na_; clear na_; clear hd hb) | (go_at_call 61; (with_reducible refine (trunklineref12_isBare.calls t false _ HBA.out).mono ?_); rintro e w4_ ⟨rfl, hd⟩; have hb := hd.below; have na_ := Aside0.mk (show OneAt w w4_ p6 p8 #[.int .u8 t, .int .u8 fl, .int .u32 0, .int .u16 0, .int .u16 0, .int .u32 0, .int .u32 0, .int .u32 0, .int .u16 0, .int .u16 0, .slice none 0 0, .slice none 0 0, .slice none 0 0, .slice none 0 0] from OneAt.next HA.out hb); clear HA; have HA := na_; clear na_; clear hd hb) | (go_at_call 42; (with_reducible refine (rnum4 A0 c0 l 0 r0 _ ?c1_ HC.out HBY.out (by decide) HA0.out HL.out HNr0.out).mono ?_); (case c1_ => exact Kd.C_below HR.out HA.out.bel); rintro e w5_ ⟨rfl, hb⟩; have na_ := Aside0.mk (show OneAt w w5_ p6 p8 #[.int .u8 t, .int .u8 fl, .int .u32 0, .int .u16 0, .int .u16 0, .int .u32 0, .int .u32 0, .int .u32 0, .int .u16 0, .int .u16 0, .slice none 0 0, .slice none 0 0, .slice none 0 0, .slice none 0 0] from OneAt.next HA.out hb); clear HA; have HA := na_; clear na_; have hc6 : w5_.cell? ⟨p8, 6, none⟩ = some (.int .u32 0) := (blk_cell HA.out.b8 6).trans rfl; have hf6 := blk_frozen HA.out.b8 6; clear hb) | (go_at_call 42; (with_reducible refine (rnum4 A0 c0 l 4 r1 _ ?c1_ HC.out HBY.out (by decide) HA4.out HL.out HNr1.out).mono ?_); (case c1_ => exact Kd.C_below HR.out (OneAt.put HA.out 6 (.int .u32 r0) rfl).bel); rintro e w6_ ⟨rfl, hb⟩; have na_ := Aside0.mk (show OneAt w w6_ p6 p8 #[.int .u8 t, .int .u8 fl, .int .u32 0, .int .u16 0, .int .u16 0, .int .u32 0, .int .u32 r0, .int .u32 0, .int .u16 0, .int .u16 0, .slice none 0 0, .slice none 0 0, .slice none 0 0, .slice none 0 0] from OneAt.next (OneAt.put HA.out 6 (.int .u32 r0) rfl) hb); clear HA; have HA := na_; clear na_; have hc7 : w6_.cell? ⟨p8, 7, none⟩ = some (.int .u32 0) := (blk_cell HA.out.b8 7).trans rfl; have hf7 := blk_frozen HA.out.b8 7; clear hb) | (go_at_call 42; (with_reducible refine (rnum2 A0 c0 l 8 r2 _ ?c1_ HC.out HBY.out (by decide) HA8.out HL.out HNr2.out).mono ?_); (case c1_ => exact Kd.C_below HR.out (OneAt.put HA.out 7 (.int .u32 r1) rfl).bel); rintro e w7_ ⟨rfl, hb⟩; have na_ := Aside0.mk (show OneAt w w7_ p6 p8 #[.int .u8 t, .int .u8 fl, .int .u32 0, .int .u16 0, .int .u16 0, .int .u32 0, .int .u32 r0, .int .u32 r1, .int .u16 0, .int .u16 0, .slice none 0 0, .slice none 0 0, .slice none 0 0, .slice none 0 0] from OneAt.next (OneAt.put HA.out 7 (.int .u32 r1) rfl) hb); clear HA; have HA := na_; clear na_; have hc8 : w7_.cell? ⟨p8, 8, none⟩ = some (.int .u16 0) := (blk_cell HA.out.b8 8).trans rfl; have hf8 := blk_frozen HA.out.b8 8; clear hb) | (go_at_call 42; (with_reducible refine (rnum2 A0 c0 l 10 r3 _ ?c1_ HC.out HBY.out (by decide) HA10.out HL.out HNr3.out).mono ?_); (case c1_ => exact Kd.C_below HR.out (OneAt.put HA.out 8 (.int .u16 r2) rfl).bel); rintro e w8_ ⟨rfl, hb⟩; have na_ := Aside0.mk (show OneAt w w8_ p6 p8 #[.int .u8 t, .int .u8 fl, .int .u32 0, .int .u16 0, .int .u16 0, .int .u32 0, .int .u32 r0, .int .u32 r1, .int .u16 r2, .int .u16 0, .slice none 0 0, .slice none 0 0, .slice none 0 0, .slice none 0 0] from OneAt.next (OneAt.put HA.out 8 (.int .u16 r2) rfl) hb); clear HA; have HA := na_; clear na_; have hc9 : w8_.cell? ⟨p8, 9, none⟩ = some (.int .u16 0) := (blk_cell HA.out.b8 9).trans rfl; have hf9 := blk_frozen HA.out.b8 9; clear hb) | (go_at_call 42; (with_reducible refine (rnum4 A0 c0 l 12 r4 _ ?c1_ HC.out HBY.out (by decide) HA12.out HL.out HNr4.out).mono ?_); (case c1_ => exact Kd.C_below HR.out (OneAt.put HA.out 9 (.int .u16 r3) rfl).bel); rintro e w9_ ⟨rfl, hb⟩; have na_ := Aside0.mk (show OneAt w w9_ p6 p8 #[.int .u8 t, .int .u8 fl, .int .u32 0, .int .u16 0, .int .u16 0, .int .u32 0, .int .u32 r0, .int .u32 r1, .int .u16 r2, .int .u16 r3, .slice none 0 0, .slice none 0 0, .slice none 0 0, .slice none 0 0] from OneAt.next (OneAt.put HA.out 9 (.int .u16 r3) rfl) hb); clear HA; have HA := na_; clear na_; have hc2 : w9_.cell? ⟨p8, 2, none⟩ = some (.int .u32 0) := (blk_cell HA.out.b8 2).trans rfl; have hf2 := blk_frozen HA.out.b8 2; clear hb) | (go_at_call 62; (with_reducible refine (rparams_calls A2 c2 y _ ?c1_ HCC.out HYB.out HYS.out).mono ?_); (case c1_ => exact HCM.out _ (OneAt.put HA.out 2 (.int .u32 r4) rfl).bel); rintro x_ w10_ ⟨hb, hout⟩; rw [HSP.out] at hout; obtain ⟨v12_, rfl, hv⟩ := hout; obtain ⟨A12, c12, e_⟩ := Kd.R_slice hv; subst e_; have HO12 := Aside0.mk (Kd.R_lower (Kd.R_mono (ok' := fun k => k ≠ p6 ∧ k ≠ p8) (Kd.R_bound hv) (fun k hk => ⟨fun e_ => Nat.not_lt.mpr hk.2.1 (by rw [e_]; exact blk_lt (OneAt.put HA.out 2 (.int .u32 r4) rfl).b6), fun e_ => Nat.not_lt.mpr hk.2.1 (by rw [e_]; exact blk_lt (OneAt.put HA.out 2 (.int .u32 r4) rfl).b8)⟩)) (OneAt.put HA.out 2 (.int .u32 r4) rfl).bel.size); clear hv; have na_ := Aside0.mk (show OneAt w w10_ p6 p8 #[.int .u8 t, .int .u8 fl, .int .u32 r4, .int .u16 0, .int .u16 0, .int .u32 0, .int .u32 r0, .int .u32 r1, .int .u16 r2, .int .u16 r3, .slice none 0 0, .slice none 0 0, .slice none 0 0, .slice none 0 0] from OneAt.next (OneAt.put HA.out 2 (.int .u32 r4) rfl) hb); clear HA; have HA := na_; clear na_; have hc12 : w10_.cell? ⟨p8, 12, none⟩ = some (.slice none 0 0) := (blk_cell HA.out.b8 12).trans rfl; have hf12 := blk_frozen HA.out.b8 12; clear hb))
      refine wp_cutw (fun W => OneAt w W p6 p8 #[.int .u8 t, .int .u8 fl, .int .u32 r4, .int .u16 0, .int .u16 0, .int .u32 0, .int .u32 r0, .int .u32 r1, .int .u16 r2, .int .u16 r3, .slice none 0 0, .slice none 0 0, .slice A12 ps.length c12, .slice none 0 0] ∧ Kd.R k48 48 W w.heap.size (fun k => k ≠ p6 ∧ k ≠ p8) (.slice A12 ps.length c12) ps) ⟨(OneAt.put HA.out 12 (.slice A12 ps.length c12) rfl), (Kd.R_far (p := ⟨p8, 12, none⟩) HO12.out (fun _ hk => hk.2) (.slice A12 ps.length c12))⟩ ?_
      rintro W1 ⟨ha_, hr0_⟩
      clear HA HO12
      have HA := Aside0.mk ha_
      have HO12 := Aside0.mk hr0_
      clear ha_ hr0_
      obtain ⟨⟨hz0, hz1, hz2, hz3, hz4, hz5, hz6, hz7, hz8, hz9, hz10, hz11, hz12, hz13⟩, ⟨hy0, hy1, hy2, hy3, hy4, hy5, hy6, hy7, hy8, hy9, hy10, hy11, hy12, hy13⟩⟩ := oneC14 HA.out.b8
      obtain ⟨⟨gz0, gz1, gz2, gz3, gz4, gz5, gz6, gz7, gz8, gz9, gz10, gz11, gz12, gz13⟩, ⟨gy0, gy1, gy2, gy3, gy4, gy5, gy6, gy7, gy8, gy9, gy10, gy11, gy12, gy13⟩⟩ := HA.out.cells6
      have hne := HA.out.ne
      have hne' := HA.out.ne.symm
      go_wp2
      refine bodyPost_ret (results_ct rfl _ _ p6 29 #[.int .u8 t, .int .u8 fl, .int .u32 r4, .int .u16 0, .int .u16 0, .int .u32 0, .int .u32 r0, .int .u32 r1, .int .u16 r2, .int .u16 r3, .slice none 0 0, .slice none 0 0, .slice A12 ps.length c12, .slice none 0 0] (0, 0) _ rfl HA.out.put6.1 Try.underlying29 rfl (by kernel_rfl)) rfl ⟨HA.out.put6.2, ?_⟩
      rw [HSF.out, HSP.out]
      exact ⟨_, rfl, _, _, _, _, rfl, Kd.R_nil _ _ _ _ _, Kd.R_nil _ _ _ _ _, R_set6 HO12.out, Kd.R_nil _ _ _ _ _⟩
  | error pe =>
    have HSP := Aside0.mk hsp
    clear hsp
    cases x2
    all_goals
      first | rw [Bool.not_false] at ht1 | rw [Bool.not_true] at ht1
      go_upto_region 41 with (first | (go_at_call 60; (with_reducible refine (trunklineref12_least.calls 3 t 16 _ HLE.out).mono ?_); rintro e w3_ ⟨rfl, hd⟩; have hb := hd.below; have na_ := Aside0.mk (show OneAt w w3_ p6 p8 #[.int .u8 t, .int .u8 fl, .int .u32 0, .int .u16 0, .int .u16 0, .int .u32 0, .int .u32 0, .int .u32 0, .int .u16 0, .int .u16 0, .slice none 0 0, .slice none 0 0, .slice none 0 0, .slice none 0 0] from OneAt.next HA.out hb); clear HA; have HA := na_; clear na_; clear hd hb) | (go_at_call 61; (with_reducible refine (trunklineref12_isBare.calls t false _ HBA.out).mono ?_); rintro e w4_ ⟨rfl, hd⟩; have hb := hd.below; have na_ := Aside0.mk (show OneAt w w4_ p6 p8 #[.int .u8 t, .int .u8 fl, .int .u32 0, .int .u16 0, .int .u16 0, .int .u32 0, .int .u32 0, .int .u32 0, .int .u16 0, .int .u16 0, .slice none 0 0, .slice none 0 0, .slice none 0 0, .slice none 0 0] from OneAt.next HA.out hb); clear HA; have HA := na_; clear na_; clear hd hb) | (go_at_call 42; (with_reducible refine (rnum4 A0 c0 l 0 r0 _ ?c1_ HC.out HBY.out (by decide) HA0.out HL.out HNr0.out).mono ?_); (case c1_ => exact Kd.C_below HR.out HA.out.bel); rintro e w5_ ⟨rfl, hb⟩; have na_ := Aside0.mk (show OneAt w w5_ p6 p8 #[.int .u8 t, .int .u8 fl, .int .u32 0, .int .u16 0, .int .u16 0, .int .u32 0, .int .u32 0, .int .u32 0, .int .u16 0, .int .u16 0, .slice none 0 0, .slice none 0 0, .slice none 0 0, .slice none 0 0] from OneAt.next HA.out hb); clear HA; have HA := na_; clear na_; have hc6 : w5_.cell? ⟨p8, 6, none⟩ = some (.int .u32 0) := (blk_cell HA.out.b8 6).trans rfl; have hf6 := blk_frozen HA.out.b8 6; clear hb) | (go_at_call 42; (with_reducible refine (rnum4 A0 c0 l 4 r1 _ ?c1_ HC.out HBY.out (by decide) HA4.out HL.out HNr1.out).mono ?_); (case c1_ => exact Kd.C_below HR.out (OneAt.put HA.out 6 (.int .u32 r0) rfl).bel); rintro e w6_ ⟨rfl, hb⟩; have na_ := Aside0.mk (show OneAt w w6_ p6 p8 #[.int .u8 t, .int .u8 fl, .int .u32 0, .int .u16 0, .int .u16 0, .int .u32 0, .int .u32 r0, .int .u32 0, .int .u16 0, .int .u16 0, .slice none 0 0, .slice none 0 0, .slice none 0 0, .slice none 0 0] from OneAt.next (OneAt.put HA.out 6 (.int .u32 r0) rfl) hb); clear HA; have HA := na_; clear na_; have hc7 : w6_.cell? ⟨p8, 7, none⟩ = some (.int .u32 0) := (blk_cell HA.out.b8 7).trans rfl; have hf7 := blk_frozen HA.out.b8 7; clear hb) | (go_at_call 42; (with_reducible refine (rnum2 A0 c0 l 8 r2 _ ?c1_ HC.out HBY.out (by decide) HA8.out HL.out HNr2.out).mono ?_); (case c1_ => exact Kd.C_below HR.out (OneAt.put HA.out 7 (.int .u32 r1) rfl).bel); rintro e w7_ ⟨rfl, hb⟩; have na_ := Aside0.mk (show OneAt w w7_ p6 p8 #[.int .u8 t, .int .u8 fl, .int .u32 0, .int .u16 0, .int .u16 0, .int .u32 0, .int .u32 r0, .int .u32 r1, .int .u16 0, .int .u16 0, .slice none 0 0, .slice none 0 0, .slice none 0 0, .slice none 0 0] from OneAt.next (OneAt.put HA.out 7 (.int .u32 r1) rfl) hb); clear HA; have HA := na_; clear na_; have hc8 : w7_.cell? ⟨p8, 8, none⟩ = some (.int .u16 0) := (blk_cell HA.out.b8 8).trans rfl; have hf8 := blk_frozen HA.out.b8 8; clear hb) | (go_at_call 42; (with_reducible refine (rnum2 A0 c0 l 10 r3 _ ?c1_ HC.out HBY.out (by decide) HA10.out HL.out HNr3.out).mono ?_); (case c1_ => exact Kd.C_below HR.out (OneAt.put HA.out 8 (.int .u16 r2) rfl).bel); rintro e w8_ ⟨rfl, hb⟩; have na_ := Aside0.mk (show OneAt w w8_ p6 p8 #[.int .u8 t, .int .u8 fl, .int .u32 0, .int .u16 0, .int .u16 0, .int .u32 0, .int .u32 r0, .int .u32 r1, .int .u16 r2, .int .u16 0, .slice none 0 0, .slice none 0 0, .slice none 0 0, .slice none 0 0] from OneAt.next (OneAt.put HA.out 8 (.int .u16 r2) rfl) hb); clear HA; have HA := na_; clear na_; have hc9 : w8_.cell? ⟨p8, 9, none⟩ = some (.int .u16 0) := (blk_cell HA.out.b8 9).trans rfl; have hf9 := blk_frozen HA.out.b8 9; clear hb) | (go_at_call 42; (with_reducible refine (rnum4 A0 c0 l 12 r4 _ ?c1_ HC.out HBY.out (by decide) HA12.out HL.out HNr4.out).mono ?_); (case c1_ => exact Kd.C_below HR.out (OneAt.put HA.out 9 (.int .u16 r3) rfl).bel); rintro e w9_ ⟨rfl, hb⟩; have na_ := Aside0.mk (show OneAt w w9_ p6 p8 #[.int .u8 t, .int .u8 fl, .int .u32 0, .int .u16 0, .int .u16 0, .int .u32 0, .int .u32 r0, .int .u32 r1, .int .u16 r2, .int .u16 r3, .slice none 0 0, .slice none 0 0, .slice none 0 0, .slice none 0 0] from OneAt.next (OneAt.put HA.out 9 (.int .u16 r3) rfl) hb); clear HA; have HA := na_; clear na_; have hc2 : w9_.cell? ⟨p8, 2, none⟩ = some (.int .u32 0) := (blk_cell HA.out.b8 2).trans rfl; have hf2 := blk_frozen HA.out.b8 2; clear hb) | (go_at_call 62; (with_reducible refine (rparams_calls A2 c2 y _ ?c1_ HCC.out HYB.out HYS.out).mono ?_); (case c1_ => exact HCM.out _ (OneAt.put HA.out 2 (.int .u32 r4) rfl).bel); rintro x_ w10_ ⟨hb, hout⟩; rw [HSP.out] at hout; have hx_ : x_ = .returned (.tuple #[.slice none 0 0, .int .i64 pe]) := hout; subst hx_; clear hout; have na_ := Aside0.mk (show OneAt w w10_ p6 p8 #[.int .u8 t, .int .u8 fl, .int .u32 r4, .int .u16 0, .int .u16 0, .int .u32 0, .int .u32 r0, .int .u32 r1, .int .u16 r2, .int .u16 r3, .slice none 0 0, .slice none 0 0, .slice none 0 0, .slice none 0 0] from OneAt.next (OneAt.put HA.out 2 (.int .u32 r4) rfl) hb); clear HA; have HA := na_; clear na_; have hc12 : w10_.cell? ⟨p8, 12, none⟩ = some (.slice none 0 0) := (blk_cell HA.out.b8 12).trans rfl; have hf12 := blk_frozen HA.out.b8 12; clear hb))
      refine wp_cutw (fun W => OneAt w W p6 p8 #[.int .u8 t, .int .u8 fl, .int .u32 r4, .int .u16 0, .int .u16 0, .int .u32 0, .int .u32 r0, .int .u32 r1, .int .u16 r2, .int .u16 r3, .slice none 0 0, .slice none 0 0, .slice none 0 0, .slice none 0 0]) (OneAt.put HA.out 12 (.slice none 0 0) rfl) ?_
      rintro W1 ha_
      clear HA
      have HA := Aside0.mk ha_
      clear ha_
      obtain ⟨⟨hz0, hz1, hz2, hz3, hz4, hz5, hz6, hz7, hz8, hz9, hz10, hz11, hz12, hz13⟩, ⟨hy0, hy1, hy2, hy3, hy4, hy5, hy6, hy7, hy8, hy9, hy10, hy11, hy12, hy13⟩⟩ := oneC14 HA.out.b8
      obtain ⟨⟨gz0, gz1, gz2, gz3, gz4, gz5, gz6, gz7, gz8, gz9, gz10, gz11, gz12, gz13⟩, ⟨gy0, gy1, gy2, gy3, gy4, gy5, gy6, gy7, gy8, gy9, gy10, gy11, gy12, gy13⟩⟩ := HA.out.cells6
      have hne := HA.out.ne
      have hne' := HA.out.ne.symm
      go_wp2
      refine bodyPost_ret (results_ct rfl _ _ p6 29 #[.int .u8 t, .int .u8 fl, .int .u32 r4, .int .u16 0, .int .u16 0, .int .u32 0, .int .u32 r0, .int .u32 r1, .int .u16 r2, .int .u16 r3, .slice none 0 0, .slice none 0 0, .slice none 0 0, .slice none 0 0] (0, 0) _ rfl HA.out.put6.1 Try.underlying29 rfl (by kernel_rfl)) rfl ⟨HA.out.put6.2, ?_⟩
      rw [HSF.out, HSP.out]
      exact ⟨_, _, _, _, _, _, _, _, _, _, rfl⟩
set_option maxHeartbeats 4000000 in
set_option maxRecDepth 100000 in
theorem rone_sack (t fl : Int) (A0 : Option Addr) (c0 : Nat) (l : List Int) (w : World) (hr0 : Kd.C (Kd.int .u8) w A0 l.length l) (hc0 : l.length ≤ c0) (hb : Bytes l) (hl : l.length ≤ 65536) (ht : t = 3) :
    Calls Try.prog 43 #[.int .u8 t, .int .u8 fl, .slice A0 l.length c0] w fun x w' => Below w.heap.size w w' ∧ ROneOut w w' x (sackR t fl l) := by
  have HR := Aside0.mk hr0
  have HC := Aside0.mk hc0
  have HBY := Aside0.mk hb
  have HL := Aside0.mk hl
  clear hr0 hc0 hb hl
  have hu29 := Try.underlying29
  subst ht
  have HLE := Aside0.mk (show trunklineref12_least.f 3 3 = some 12 by rfl)
  have HBA := Aside0.mk (show trunklineref12_isBare.f 3 = some false by rfl)
  go_enter Try.func43, Try.ntmps43
  go_upto_region 2 with (first | ((with_reducible refine gate_dst (N := 6) rfl ?_); (try (refine gate_guard (by rfl) ?_; dsimp only)); refine box_event ?hg (N := 6) ?hd (cs := #[.int .u8 0, .int .u8 0, .int .u32 0, .int .u16 0, .int .u16 0, .int .u32 0, .int .u32 0, .int .u32 0, .int .u16 0, .int .u16 0, .slice none 0 0, .slice none 0 0, .slice none 0 0, .slice none 0 0]) (t := 29) ?hr ?_; (case hd => rfl); (case hg => rfl); (case hr => first | (go_simp; done) | (go_simp; rfl)); intro p6 hg w1_ hbox hb; have HWB := Aside0.mk hb; have HW6 := Aside0.mk hbox; have GE6 := Aside0.mk (show w.heap.size ≤ p6 by rw [hg]; exact Nat.le_refl _); clear hg hbox hb) | ((with_reducible refine gate_dst (N := 8) rfl ?_); (try (refine gate_guard (by rfl) ?_; dsimp only)); refine box_event ?hg (N := 8) ?hd (cs := #[.int .u8 0, .int .u8 0, .int .u32 0, .int .u16 0, .int .u16 0, .int .u32 0, .int .u32 0, .int .u32 0, .int .u16 0, .int .u16 0, .slice none 0 0, .slice none 0 0, .slice none 0 0, .slice none 0 0]) (t := 29) ?hr ?_; (case hd => rfl); (case hg => rfl); (case hr => first | (go_simp; done) | (go_simp; rfl)); intro p8 hg w2_ hbox hb; have nb_ := Aside0.mk (below_step HWB.out hb); have n6_ := Aside0.mk (blk_below HW6.out hb); have HW8 := Aside0.mk hbox; have GE8 := Aside0.mk (show w.heap.size ≤ p8 by rw [hg]; exact HWB.out.size); have NE68 := Aside0.mk (show p6 ≠ p8 by rw [hg]; exact Nat.ne_of_lt (blk_lt HW6.out)); clear HWB HW6; have HWB := nb_; have HW6 := n6_; clear nb_ n6_ hg hbox hb; obtain ⟨⟨hz0, hz1, hz2, hz3, hz4, hz5, hz6, hz7, hz8, hz9, hz10, hz11, hz12, hz13⟩, ⟨hy0, hy1, hy2, hy3, hy4, hy5, hy6, hy7, hy8, hy9, hy10, hy11, hy12, hy13⟩⟩ := oneC14 HW8.out))
  refine wp_cutw (fun W => OneAt w W p6 p8 #[.int .u8 3, .int .u8 fl, .int .u32 0, .int .u16 0, .int .u16 0, .int .u32 0, .int .u32 0, .int .u32 0, .int .u16 0, .int .u16 0, .slice none 0 0, .slice none 0 0, .slice none 0 0, .slice none 0 0]) (OneAt.start HW8.out HW6.out HWB.out GE6.out GE8.out NE68.out) ?_
  rintro W0 ha_
  clear HW8 HW6 HWB GE6 GE8 NE68 hz0 hy0 hz1 hy1 hz2 hy2 hz3 hy3 hz4 hy4 hz5 hy5 hz6 hy6 hz7 hy7 hz8 hy8 hz9 hy9 hz10 hy10 hz11 hy11 hz12 hy12 hz13 hy13
  have HA := Aside0.mk ha_
  clear ha_
  by_cases h4 : l.length < 12
  · have HE := Aside0.mk h4
    have hdlt12 : decide ((l.length : Int) < 12) = true := decide_eq_true (by omega)
    have hDlt12 : decide (l.length < 12) = true := decide_eq_true (by omega)
    have hqlt12 : (l.length < 12) = True := eq_true (by omega)
    clear h4
    go_upto_region 4 with (first | (go_at_call 60; (with_reducible refine (trunklineref12_least.calls 3 3 12 _ HLE.out).mono ?_); rintro e w3_ ⟨rfl, hd⟩; have hb := hd.below; have na_ := Aside0.mk (show OneAt w w3_ p6 p8 #[.int .u8 3, .int .u8 fl, .int .u32 0, .int .u16 0, .int .u16 0, .int .u32 0, .int .u32 0, .int .u32 0, .int .u16 0, .int .u16 0, .slice none 0 0, .slice none 0 0, .slice none 0 0, .slice none 0 0] from OneAt.next HA.out hb); clear HA; have HA := na_; clear na_; clear hd hb))
    obtain ⟨⟨hz0, hz1, hz2, hz3, hz4, hz5, hz6, hz7, hz8, hz9, hz10, hz11, hz12, hz13⟩, ⟨hy0, hy1, hy2, hy3, hy4, hy5, hy6, hy7, hy8, hy9, hy10, hy11, hy12, hy13⟩⟩ := oneC14 HA.out.b8
    obtain ⟨⟨gz0, gz1, gz2, gz3, gz4, gz5, gz6, gz7, gz8, gz9, gz10, gz11, gz12, gz13⟩, ⟨gy0, gy1, gy2, gy3, gy4, gy5, gy6, gy7, gy8, gy9, gy10, gy11, gy12, gy13⟩⟩ := HA.out.cells6
    have hne := HA.out.ne
    have hne' := HA.out.ne.symm
    go_wp2
    refine bodyPost_ret (results_ct rfl _ _ p6 29 #[.int .u8 3, .int .u8 fl, .int .u32 0, .int .u16 0, .int .u16 0, .int .u32 0, .int .u32 0, .int .u32 0, .int .u16 0, .int .u16 0, .slice none 0 0, .slice none 0 0, .slice none 0 0, .slice none 0 0] (0, 0) _ rfl HA.out.put6.1 Try.underlying29 rfl (by kernel_rfl)) rfl ⟨HA.out.put6.2, ?_⟩
    unfold sackR
    rw [if_pos HE.out]
    exact ⟨_, _, _, _, _, _, _, _, _, _, rfl⟩
  have hdlt12 : decide ((l.length : Int) < 12) = false := decide_eq_false (by omega)
  have hDlt12 : decide (l.length < 12) = false := decide_eq_false (by omega)
  have hqlt12 : (l.length < 12) = False := eq_false (by omega)
  obtain ⟨r0, hr0⟩ : ∃ r, r = numN (l.drop (0 : Int).toNat) 4 := ⟨_, rfl⟩
  have HNr0 := Aside0.mk hr0
  have HA0 := Aside0.mk (show (0 : Int) + 4 ≤ (l.length : Int) by omega)
  obtain ⟨r1, hr1⟩ : ∃ r, r = numN (l.drop (4 : Int).toNat) 4 := ⟨_, rfl⟩
  have HNr1 := Aside0.mk hr1
  have HA4 := Aside0.mk (show (4 : Int) + 4 ≤ (l.length : Int) by omega)
  obtain ⟨n_, hn_⟩ : ∃ r, r = numN (l.drop (8 : Int).toNat) 2 := ⟨_, rfl⟩
  have HNn_ := Aside0.mk hn_
  have HA8 := Aside0.mk (show (8 : Int) + 2 ≤ (l.length : Int) by omega)
  have hwn_ : IntKind.u16.wrap n_ = n_ := u16w (by rw [hn_]; exact num2_range (HBY.out.drop _))
  have hmn_ : n_ % 65536 = n_ := by have := num2_range (HBY.out.drop (8 : Int).toNat); rw [← hn_] at this; omega
  obtain ⟨m_, hm_⟩ : ∃ r, r = numN (l.drop (10 : Int).toNat) 2 := ⟨_, rfl⟩
  have HNm_ := Aside0.mk hm_
  have HA10 := Aside0.mk (show (10 : Int) + 2 ≤ (l.length : Int) by omega)
  have hwm_ : IntKind.u16.wrap m_ = m_ := u16w (by rw [hm_]; exact num2_range (HBY.out.drop _))
  have hmm_ : m_ % 65536 = m_ := by have := num2_range (HBY.out.drop (10 : Int).toNat); rw [← hm_] at this; omega
  have hnr : 0 ≤ n_ ∧ n_ < 65536 := by rw [hn_]; exact num2_range (HBY.out.drop _)
  have hmr : 0 ≤ m_ ∧ m_ < 65536 := by rw [hm_]; exact num2_range (HBY.out.drop _)
  have HSF := Aside0.mk (show sackR 3 fl l = if ¬ ((l.length : Int) - 12 = 4 * n_ + 4 * m_) then .error 4 else if 16 < n_ ∨ 16 < m_ then .error 6 else .ok ⟨3, fl, r0, 0, 0, 0, 0, r1, 0, 0, blocksV n_.toNat (l.drop 12), dupsV m_.toNat ((l.drop 12).drop (4 * n_.toNat)), [], []⟩ by
    unfold sackR
    rw [if_neg h4]
    simp only [List.drop_drop, List.length_drop]
    rw [hr0, hr1, hn_, hm_, show ((l.length - (4 + 4 + 2 + 2) : Nat) : Int) = (l.length : Int) - 12 by omega]
    rfl)
  have HNR := Aside0.mk hnr
  have HMR := Aside0.mk hmr
  have hll := HL.out
  have wn : wrap64 (n_) = n_ := w64 (by omega) (by omega)
  have wni : IntKind.i64.wrap (n_) = n_ := (i64_w _).trans wn
  have wm : wrap64 (m_) = m_ := w64 (by omega) (by omega)
  have wmi : IntKind.i64.wrap (m_) = m_ := (i64_w _).trans wm
  have w4n : wrap64 (4 * n_) = 4 * n_ := w64 (by omega) (by omega)
  have w4ni : IntKind.i64.wrap (4 * n_) = 4 * n_ := (i64_w _).trans w4n
  have w4m : wrap64 (4 * m_) = 4 * m_ := w64 (by omega) (by omega)
  have w4mi : IntKind.i64.wrap (4 * m_) = 4 * m_ := (i64_w _).trans w4m
  have w12 : wrap64 (12 + 4 * n_) = 12 + 4 * n_ := w64 (by omega) (by omega)
  have w12i : IntKind.i64.wrap (12 + 4 * n_) = 12 + 4 * n_ := (i64_w _).trans w12
  have wall : wrap64 (12 + 4 * n_ + 4 * m_) = 12 + 4 * n_ + 4 * m_ := w64 (by omega) (by omega)
  have walli : IntKind.i64.wrap (12 + 4 * n_ + 4 * m_) = 12 + 4 * n_ + 4 * m_ := (i64_w _).trans wall
  by_cases h5 : (l.length : Int) = 12 + 4 * n_ + 4 * m_
  case neg =>
    have hz1 : ((l.length : Int) != 12 + 4 * n_ + 4 * m_) = true := bne_iff_ne.mpr h5
    have hz2 : ((l.length : Int) == 12 + 4 * n_ + 4 * m_) = false := beq_eq_false_iff_ne.mpr h5
    have HE := Aside0.mk (show ¬ ((l.length : Int) - 12 = 4 * n_ + 4 * m_) by omega)
    clear h4 h5 hr0 hr1 hn_ hm_ hnr hmr hll
    go_upto_region 24 with (first | (go_at_call 60; (with_reducible refine (trunklineref12_least.calls 3 3 12 _ HLE.out).mono ?_); rintro e w3_ ⟨rfl, hd⟩; have hb := hd.below; have na_ := Aside0.mk (show OneAt w w3_ p6 p8 #[.int .u8 3, .int .u8 fl, .int .u32 0, .int .u16 0, .int .u16 0, .int .u32 0, .int .u32 0, .int .u32 0, .int .u16 0, .int .u16 0, .slice none 0 0, .slice none 0 0, .slice none 0 0, .slice none 0 0] from OneAt.next HA.out hb); clear HA; have HA := na_; clear na_; clear hd hb) | (go_at_call 61; (with_reducible refine (trunklineref12_isBare.calls 3 false _ HBA.out).mono ?_); rintro e w4_ ⟨rfl, hd⟩; have hb := hd.below; have na_ := Aside0.mk (show OneAt w w4_ p6 p8 #[.int .u8 3, .int .u8 fl, .int .u32 0, .int .u16 0, .int .u16 0, .int .u32 0, .int .u32 0, .int .u32 0, .int .u16 0, .int .u16 0, .slice none 0 0, .slice none 0 0, .slice none 0 0, .slice none 0 0] from OneAt.next HA.out hb); clear HA; have HA := na_; clear na_; clear hd hb) | (go_at_call 42; (with_reducible refine (rnum4 A0 c0 l 0 r0 _ ?c1_ HC.out HBY.out (by decide) HA0.out HL.out HNr0.out).mono ?_); (case c1_ => exact Kd.C_below HR.out HA.out.bel); rintro e w5_ ⟨rfl, hb⟩; have na_ := Aside0.mk (show OneAt w w5_ p6 p8 #[.int .u8 3, .int .u8 fl, .int .u32 0, .int .u16 0, .int .u16 0, .int .u32 0, .int .u32 0, .int .u32 0, .int .u16 0, .int .u16 0, .slice none 0 0, .slice none 0 0, .slice none 0 0, .slice none 0 0] from OneAt.next HA.out hb); clear HA; have HA := na_; clear na_; have hc2 : w5_.cell? ⟨p8, 2, none⟩ = some (.int .u32 0) := (blk_cell HA.out.b8 2).trans rfl; have hf2 := blk_frozen HA.out.b8 2; clear hb) | (go_at_call 42; (with_reducible refine (rnum4 A0 c0 l 4 r1 _ ?c1_ HC.out HBY.out (by decide) HA4.out HL.out HNr1.out).mono ?_); (case c1_ => exact Kd.C_below HR.out (OneAt.put HA.out 2 (.int .u32 r0) rfl).bel); rintro e w6_ ⟨rfl, hb⟩; have na_ := Aside0.mk (show OneAt w w6_ p6 p8 #[.int .u8 3, .int .u8 fl, .int .u32 r0, .int .u16 0, .int .u16 0, .int .u32 0, .int .u32 0, .int .u32 0, .int .u16 0, .int .u16 0, .slice none 0 0, .slice none 0 0, .slice none 0 0, .slice none 0 0] from OneAt.next (OneAt.put HA.out 2 (.int .u32 r0) rfl) hb); clear HA; have HA := na_; clear na_; have hc7 : w6_.cell? ⟨p8, 7, none⟩ = some (.int .u32 0) := (blk_cell HA.out.b8 7).trans rfl; have hf7 := blk_frozen HA.out.b8 7; clear hb) | (go_at_call 42; (with_reducible refine (rnum2 A0 c0 l 8 n_ _ ?c1_ HC.out HBY.out (by decide) HA8.out HL.out HNn_.out).mono ?_); (case c1_ => exact Kd.C_below HR.out (OneAt.put HA.out 7 (.int .u32 r1) rfl).bel); rintro e w7_ ⟨rfl, hb⟩; have na_ := Aside0.mk (show OneAt w w7_ p6 p8 #[.int .u8 3, .int .u8 fl, .int .u32 r0, .int .u16 0, .int .u16 0, .int .u32 0, .int .u32 0, .int .u32 r1, .int .u16 0, .int .u16 0, .slice none 0 0, .slice none 0 0, .slice none 0 0, .slice none 0 0] from OneAt.next (OneAt.put HA.out 7 (.int .u32 r1) rfl) hb); clear HA; have HA := na_; clear na_; clear hb) | (go_at_call 42; (with_reducible refine (rnum2 A0 c0 l 10 m_ _ ?c1_ HC.out HBY.out (by decide) HA10.out HL.out HNm_.out).mono ?_); (case c1_ => exact Kd.C_below HR.out HA.out.bel); rintro e w8_ ⟨rfl, hb⟩; have na_ := Aside0.mk (show OneAt w w8_ p6 p8 #[.int .u8 3, .int .u8 fl, .int .u32 r0, .int .u16 0, .int .u16 0, .int .u32 0, .int .u32 0, .int .u32 r1, .int .u16 0, .int .u16 0, .slice none 0 0, .slice none 0 0, .slice none 0 0, .slice none 0 0] from OneAt.next HA.out hb); clear HA; have HA := na_; clear na_; clear hb))
    obtain ⟨⟨hz0, hz1, hz2, hz3, hz4, hz5, hz6, hz7, hz8, hz9, hz10, hz11, hz12, hz13⟩, ⟨hy0, hy1, hy2, hy3, hy4, hy5, hy6, hy7, hy8, hy9, hy10, hy11, hy12, hy13⟩⟩ := oneC14 HA.out.b8
    obtain ⟨⟨gz0, gz1, gz2, gz3, gz4, gz5, gz6, gz7, gz8, gz9, gz10, gz11, gz12, gz13⟩, ⟨gy0, gy1, gy2, gy3, gy4, gy5, gy6, gy7, gy8, gy9, gy10, gy11, gy12, gy13⟩⟩ := HA.out.cells6
    have hne := HA.out.ne
    have hne' := HA.out.ne.symm
    go_wp2
    refine bodyPost_ret (results_ct rfl _ _ p6 29 #[.int .u8 3, .int .u8 fl, .int .u32 r0, .int .u16 0, .int .u16 0, .int .u32 0, .int .u32 0, .int .u32 r1, .int .u16 0, .int .u16 0, .slice none 0 0, .slice none 0 0, .slice none 0 0, .slice none 0 0] (0, 0) _ rfl HA.out.put6.1 Try.underlying29 rfl (by kernel_rfl)) rfl ⟨HA.out.put6.2, ?_⟩
    rw [HSF.out, if_pos HE.out]
    exact ⟨_, _, _, _, _, _, _, _, _, _, rfl⟩
  have hz1 : ((l.length : Int) != 12 + 4 * n_ + 4 * m_) = false := bne_eq_false_iff_eq.mpr h5
  have hz2 : ((l.length : Int) == 12 + 4 * n_ + 4 * m_) = true := beq_iff_eq.mpr h5
  have HE5 := Aside0.mk h5
  have HE := Aside0.mk (show ¬ ¬ ((l.length : Int) - 12 = 4 * n_ + 4 * m_) by omega)
  by_cases h6 : 16 < n_ ∨ 16 < m_
  · have HF := Aside0.mk h6
    by_cases h7 : 16 < n_
    · have hg1 : decide (n_ > 16) = true := decide_eq_true (by omega)
      have hg2 : decide (16 < n_) = true := decide_eq_true (by omega)
      clear h4 h5 h6 h7 hr0 hr1 hn_ hm_ hnr hmr hll
      go_upto_region 26 with (first | (go_at_call 60; (with_reducible refine (trunklineref12_least.calls 3 3 12 _ HLE.out).mono ?_); rintro e w3_ ⟨rfl, hd⟩; have hb := hd.below; have na_ := Aside0.mk (show OneAt w w3_ p6 p8 #[.int .u8 3, .int .u8 fl, .int .u32 0, .int .u16 0, .int .u16 0, .int .u32 0, .int .u32 0, .int .u32 0, .int .u16 0, .int .u16 0, .slice none 0 0, .slice none 0 0, .slice none 0 0, .slice none 0 0] from OneAt.next HA.out hb); clear HA; have HA := na_; clear na_; clear hd hb) | (go_at_call 61; (with_reducible refine (trunklineref12_isBare.calls 3 false _ HBA.out).mono ?_); rintro e w4_ ⟨rfl, hd⟩; have hb := hd.below; have na_ := Aside0.mk (show OneAt w w4_ p6 p8 #[.int .u8 3, .int .u8 fl, .int .u32 0, .int .u16 0, .int .u16 0, .int .u32 0, .int .u32 0, .int .u32 0, .int .u16 0, .int .u16 0, .slice none 0 0, .slice none 0 0, .slice none 0 0, .slice none 0 0] from OneAt.next HA.out hb); clear HA; have HA := na_; clear na_; clear hd hb) | (go_at_call 42; (with_reducible refine (rnum4 A0 c0 l 0 r0 _ ?c1_ HC.out HBY.out (by decide) HA0.out HL.out HNr0.out).mono ?_); (case c1_ => exact Kd.C_below HR.out HA.out.bel); rintro e w5_ ⟨rfl, hb⟩; have na_ := Aside0.mk (show OneAt w w5_ p6 p8 #[.int .u8 3, .int .u8 fl, .int .u32 0, .int .u16 0, .int .u16 0, .int .u32 0, .int .u32 0, .int .u32 0, .int .u16 0, .int .u16 0, .slice none 0 0, .slice none 0 0, .slice none 0 0, .slice none 0 0] from OneAt.next HA.out hb); clear HA; have HA := na_; clear na_; have hc2 : w5_.cell? ⟨p8, 2, none⟩ = some (.int .u32 0) := (blk_cell HA.out.b8 2).trans rfl; have hf2 := blk_frozen HA.out.b8 2; clear hb) | (go_at_call 42; (with_reducible refine (rnum4 A0 c0 l 4 r1 _ ?c1_ HC.out HBY.out (by decide) HA4.out HL.out HNr1.out).mono ?_); (case c1_ => exact Kd.C_below HR.out (OneAt.put HA.out 2 (.int .u32 r0) rfl).bel); rintro e w6_ ⟨rfl, hb⟩; have na_ := Aside0.mk (show OneAt w w6_ p6 p8 #[.int .u8 3, .int .u8 fl, .int .u32 r0, .int .u16 0, .int .u16 0, .int .u32 0, .int .u32 0, .int .u32 0, .int .u16 0, .int .u16 0, .slice none 0 0, .slice none 0 0, .slice none 0 0, .slice none 0 0] from OneAt.next (OneAt.put HA.out 2 (.int .u32 r0) rfl) hb); clear HA; have HA := na_; clear na_; have hc7 : w6_.cell? ⟨p8, 7, none⟩ = some (.int .u32 0) := (blk_cell HA.out.b8 7).trans rfl; have hf7 := blk_frozen HA.out.b8 7; clear hb) | (go_at_call 42; (with_reducible refine (rnum2 A0 c0 l 8 n_ _ ?c1_ HC.out HBY.out (by decide) HA8.out HL.out HNn_.out).mono ?_); (case c1_ => exact Kd.C_below HR.out (OneAt.put HA.out 7 (.int .u32 r1) rfl).bel); rintro e w7_ ⟨rfl, hb⟩; have na_ := Aside0.mk (show OneAt w w7_ p6 p8 #[.int .u8 3, .int .u8 fl, .int .u32 r0, .int .u16 0, .int .u16 0, .int .u32 0, .int .u32 0, .int .u32 r1, .int .u16 0, .int .u16 0, .slice none 0 0, .slice none 0 0, .slice none 0 0, .slice none 0 0] from OneAt.next (OneAt.put HA.out 7 (.int .u32 r1) rfl) hb); clear HA; have HA := na_; clear na_; clear hb) | (go_at_call 42; (with_reducible refine (rnum2 A0 c0 l 10 m_ _ ?c1_ HC.out HBY.out (by decide) HA10.out HL.out HNm_.out).mono ?_); (case c1_ => exact Kd.C_below HR.out HA.out.bel); rintro e w8_ ⟨rfl, hb⟩; have na_ := Aside0.mk (show OneAt w w8_ p6 p8 #[.int .u8 3, .int .u8 fl, .int .u32 r0, .int .u16 0, .int .u16 0, .int .u32 0, .int .u32 0, .int .u32 r1, .int .u16 0, .int .u16 0, .slice none 0 0, .slice none 0 0, .slice none 0 0, .slice none 0 0] from OneAt.next HA.out hb); clear HA; have HA := na_; clear na_; clear hb))
      obtain ⟨⟨hz0, hz1, hz2, hz3, hz4, hz5, hz6, hz7, hz8, hz9, hz10, hz11, hz12, hz13⟩, ⟨hy0, hy1, hy2, hy3, hy4, hy5, hy6, hy7, hy8, hy9, hy10, hy11, hy12, hy13⟩⟩ := oneC14 HA.out.b8
      obtain ⟨⟨gz0, gz1, gz2, gz3, gz4, gz5, gz6, gz7, gz8, gz9, gz10, gz11, gz12, gz13⟩, ⟨gy0, gy1, gy2, gy3, gy4, gy5, gy6, gy7, gy8, gy9, gy10, gy11, gy12, gy13⟩⟩ := HA.out.cells6
      have hne := HA.out.ne
      have hne' := HA.out.ne.symm
      go_wp2
      refine bodyPost_ret (results_ct rfl _ _ p6 29 #[.int .u8 3, .int .u8 fl, .int .u32 r0, .int .u16 0, .int .u16 0, .int .u32 0, .int .u32 0, .int .u32 r1, .int .u16 0, .int .u16 0, .slice none 0 0, .slice none 0 0, .slice none 0 0, .slice none 0 0] (0, 0) _ rfl HA.out.put6.1 Try.underlying29 rfl (by kernel_rfl)) rfl ⟨HA.out.put6.2, ?_⟩
      rw [HSF.out, if_neg HE.out, if_pos HF.out]
      exact ⟨_, _, _, _, _, _, _, _, _, _, rfl⟩
    · have hg1 : decide (n_ > 16) = false := decide_eq_false (by omega)
      have hg2 : decide (16 < n_) = false := decide_eq_false (by omega)
      have hg3 : decide (m_ > 16) = true := decide_eq_true (by omega)
      have hg4 : decide (16 < m_) = true := decide_eq_true (by omega)
      clear h4 h5 h6 h7 hr0 hr1 hn_ hm_ hnr hmr hll
      go_upto_region 26 with (first | (go_at_call 60; (with_reducible refine (trunklineref12_least.calls 3 3 12 _ HLE.out).mono ?_); rintro e w3_ ⟨rfl, hd⟩; have hb := hd.below; have na_ := Aside0.mk (show OneAt w w3_ p6 p8 #[.int .u8 3, .int .u8 fl, .int .u32 0, .int .u16 0, .int .u16 0, .int .u32 0, .int .u32 0, .int .u32 0, .int .u16 0, .int .u16 0, .slice none 0 0, .slice none 0 0, .slice none 0 0, .slice none 0 0] from OneAt.next HA.out hb); clear HA; have HA := na_; clear na_; clear hd hb) | (go_at_call 61; (with_reducible refine (trunklineref12_isBare.calls 3 false _ HBA.out).mono ?_); rintro e w4_ ⟨rfl, hd⟩; have hb := hd.below; have na_ := Aside0.mk (show OneAt w w4_ p6 p8 #[.int .u8 3, .int .u8 fl, .int .u32 0, .int .u16 0, .int .u16 0, .int .u32 0, .int .u32 0, .int .u32 0, .int .u16 0, .int .u16 0, .slice none 0 0, .slice none 0 0, .slice none 0 0, .slice none 0 0] from OneAt.next HA.out hb); clear HA; have HA := na_; clear na_; clear hd hb) | (go_at_call 42; (with_reducible refine (rnum4 A0 c0 l 0 r0 _ ?c1_ HC.out HBY.out (by decide) HA0.out HL.out HNr0.out).mono ?_); (case c1_ => exact Kd.C_below HR.out HA.out.bel); rintro e w5_ ⟨rfl, hb⟩; have na_ := Aside0.mk (show OneAt w w5_ p6 p8 #[.int .u8 3, .int .u8 fl, .int .u32 0, .int .u16 0, .int .u16 0, .int .u32 0, .int .u32 0, .int .u32 0, .int .u16 0, .int .u16 0, .slice none 0 0, .slice none 0 0, .slice none 0 0, .slice none 0 0] from OneAt.next HA.out hb); clear HA; have HA := na_; clear na_; have hc2 : w5_.cell? ⟨p8, 2, none⟩ = some (.int .u32 0) := (blk_cell HA.out.b8 2).trans rfl; have hf2 := blk_frozen HA.out.b8 2; clear hb) | (go_at_call 42; (with_reducible refine (rnum4 A0 c0 l 4 r1 _ ?c1_ HC.out HBY.out (by decide) HA4.out HL.out HNr1.out).mono ?_); (case c1_ => exact Kd.C_below HR.out (OneAt.put HA.out 2 (.int .u32 r0) rfl).bel); rintro e w6_ ⟨rfl, hb⟩; have na_ := Aside0.mk (show OneAt w w6_ p6 p8 #[.int .u8 3, .int .u8 fl, .int .u32 r0, .int .u16 0, .int .u16 0, .int .u32 0, .int .u32 0, .int .u32 0, .int .u16 0, .int .u16 0, .slice none 0 0, .slice none 0 0, .slice none 0 0, .slice none 0 0] from OneAt.next (OneAt.put HA.out 2 (.int .u32 r0) rfl) hb); clear HA; have HA := na_; clear na_; have hc7 : w6_.cell? ⟨p8, 7, none⟩ = some (.int .u32 0) := (blk_cell HA.out.b8 7).trans rfl; have hf7 := blk_frozen HA.out.b8 7; clear hb) | (go_at_call 42; (with_reducible refine (rnum2 A0 c0 l 8 n_ _ ?c1_ HC.out HBY.out (by decide) HA8.out HL.out HNn_.out).mono ?_); (case c1_ => exact Kd.C_below HR.out (OneAt.put HA.out 7 (.int .u32 r1) rfl).bel); rintro e w7_ ⟨rfl, hb⟩; have na_ := Aside0.mk (show OneAt w w7_ p6 p8 #[.int .u8 3, .int .u8 fl, .int .u32 r0, .int .u16 0, .int .u16 0, .int .u32 0, .int .u32 0, .int .u32 r1, .int .u16 0, .int .u16 0, .slice none 0 0, .slice none 0 0, .slice none 0 0, .slice none 0 0] from OneAt.next (OneAt.put HA.out 7 (.int .u32 r1) rfl) hb); clear HA; have HA := na_; clear na_; clear hb) | (go_at_call 42; (with_reducible refine (rnum2 A0 c0 l 10 m_ _ ?c1_ HC.out HBY.out (by decide) HA10.out HL.out HNm_.out).mono ?_); (case c1_ => exact Kd.C_below HR.out HA.out.bel); rintro e w8_ ⟨rfl, hb⟩; have na_ := Aside0.mk (show OneAt w w8_ p6 p8 #[.int .u8 3, .int .u8 fl, .int .u32 r0, .int .u16 0, .int .u16 0, .int .u32 0, .int .u32 0, .int .u32 r1, .int .u16 0, .int .u16 0, .slice none 0 0, .slice none 0 0, .slice none 0 0, .slice none 0 0] from OneAt.next HA.out hb); clear HA; have HA := na_; clear na_; clear hb))
      obtain ⟨⟨hz0, hz1, hz2, hz3, hz4, hz5, hz6, hz7, hz8, hz9, hz10, hz11, hz12, hz13⟩, ⟨hy0, hy1, hy2, hy3, hy4, hy5, hy6, hy7, hy8, hy9, hy10, hy11, hy12, hy13⟩⟩ := oneC14 HA.out.b8
      obtain ⟨⟨gz0, gz1, gz2, gz3, gz4, gz5, gz6, gz7, gz8, gz9, gz10, gz11, gz12, gz13⟩, ⟨gy0, gy1, gy2, gy3, gy4, gy5, gy6, gy7, gy8, gy9, gy10, gy11, gy12, gy13⟩⟩ := HA.out.cells6
      have hne := HA.out.ne
      have hne' := HA.out.ne.symm
      go_wp2
      refine bodyPost_ret (results_ct rfl _ _ p6 29 #[.int .u8 3, .int .u8 fl, .int .u32 r0, .int .u16 0, .int .u16 0, .int .u32 0, .int .u32 0, .int .u32 r1, .int .u16 0, .int .u16 0, .slice none 0 0, .slice none 0 0, .slice none 0 0, .slice none 0 0] (0, 0) _ rfl HA.out.put6.1 Try.underlying29 rfl (by kernel_rfl)) rfl ⟨HA.out.put6.2, ?_⟩
      rw [HSF.out, if_neg HE.out, if_pos HF.out]
      exact ⟨_, _, _, _, _, _, _, _, _, _, rfl⟩
  have HF := Aside0.mk h6
  have hg1 : decide (n_ > 16) = false := decide_eq_false (by omega)
  have hg2 : decide (16 < n_) = false := decide_eq_false (by omega)
  have hg3 : decide (m_ > 16) = false := decide_eq_false (by omega)
  have hg4 : decide (16 < m_) = false := decide_eq_false (by omega)
  have H16 := Aside0.mk (show n_ ≤ 16 ∧ m_ ≤ 16 by omega)
  obtain ⟨l12, hl12⟩ : ∃ y, y = l.drop 12 := ⟨_, rfl⟩
  rw [← hl12] at HSF
  have HL12 := Aside0.mk hl12
  clear hl12
  clear h4 h5 h6 hr0 hr1 hn_ hm_ hnr hmr hll
  go_upto_region 27 with (first | (go_at_call 60; (with_reducible refine (trunklineref12_least.calls 3 3 12 _ HLE.out).mono ?_); rintro e w3_ ⟨rfl, hd⟩; have hb := hd.below; have na_ := Aside0.mk (show OneAt w w3_ p6 p8 #[.int .u8 3, .int .u8 fl, .int .u32 0, .int .u16 0, .int .u16 0, .int .u32 0, .int .u32 0, .int .u32 0, .int .u16 0, .int .u16 0, .slice none 0 0, .slice none 0 0, .slice none 0 0, .slice none 0 0] from OneAt.next HA.out hb); clear HA; have HA := na_; clear na_; clear hd hb) | (go_at_call 61; (with_reducible refine (trunklineref12_isBare.calls 3 false _ HBA.out).mono ?_); rintro e w4_ ⟨rfl, hd⟩; have hb := hd.below; have na_ := Aside0.mk (show OneAt w w4_ p6 p8 #[.int .u8 3, .int .u8 fl, .int .u32 0, .int .u16 0, .int .u16 0, .int .u32 0, .int .u32 0, .int .u32 0, .int .u16 0, .int .u16 0, .slice none 0 0, .slice none 0 0, .slice none 0 0, .slice none 0 0] from OneAt.next HA.out hb); clear HA; have HA := na_; clear na_; clear hd hb) | (go_at_call 42; (with_reducible refine (rnum4 A0 c0 l 0 r0 _ ?c1_ HC.out HBY.out (by decide) HA0.out HL.out HNr0.out).mono ?_); (case c1_ => exact Kd.C_below HR.out HA.out.bel); rintro e w5_ ⟨rfl, hb⟩; have na_ := Aside0.mk (show OneAt w w5_ p6 p8 #[.int .u8 3, .int .u8 fl, .int .u32 0, .int .u16 0, .int .u16 0, .int .u32 0, .int .u32 0, .int .u32 0, .int .u16 0, .int .u16 0, .slice none 0 0, .slice none 0 0, .slice none 0 0, .slice none 0 0] from OneAt.next HA.out hb); clear HA; have HA := na_; clear na_; have hc2 : w5_.cell? ⟨p8, 2, none⟩ = some (.int .u32 0) := (blk_cell HA.out.b8 2).trans rfl; have hf2 := blk_frozen HA.out.b8 2; clear hb) | (go_at_call 42; (with_reducible refine (rnum4 A0 c0 l 4 r1 _ ?c1_ HC.out HBY.out (by decide) HA4.out HL.out HNr1.out).mono ?_); (case c1_ => exact Kd.C_below HR.out (OneAt.put HA.out 2 (.int .u32 r0) rfl).bel); rintro e w6_ ⟨rfl, hb⟩; have na_ := Aside0.mk (show OneAt w w6_ p6 p8 #[.int .u8 3, .int .u8 fl, .int .u32 r0, .int .u16 0, .int .u16 0, .int .u32 0, .int .u32 0, .int .u32 0, .int .u16 0, .int .u16 0, .slice none 0 0, .slice none 0 0, .slice none 0 0, .slice none 0 0] from OneAt.next (OneAt.put HA.out 2 (.int .u32 r0) rfl) hb); clear HA; have HA := na_; clear na_; have hc7 : w6_.cell? ⟨p8, 7, none⟩ = some (.int .u32 0) := (blk_cell HA.out.b8 7).trans rfl; have hf7 := blk_frozen HA.out.b8 7; clear hb) | (go_at_call 42; (with_reducible refine (rnum2 A0 c0 l 8 n_ _ ?c1_ HC.out HBY.out (by decide) HA8.out HL.out HNn_.out).mono ?_); (case c1_ => exact Kd.C_below HR.out (OneAt.put HA.out 7 (.int .u32 r1) rfl).bel); rintro e w7_ ⟨rfl, hb⟩; have na_ := Aside0.mk (show OneAt w w7_ p6 p8 #[.int .u8 3, .int .u8 fl, .int .u32 r0, .int .u16 0, .int .u16 0, .int .u32 0, .int .u32 0, .int .u32 r1, .int .u16 0, .int .u16 0, .slice none 0 0, .slice none 0 0, .slice none 0 0, .slice none 0 0] from OneAt.next (OneAt.put HA.out 7 (.int .u32 r1) rfl) hb); clear HA; have HA := na_; clear na_; clear hb) | (go_at_call 42; (with_reducible refine (rnum2 A0 c0 l 10 m_ _ ?c1_ HC.out HBY.out (by decide) HA10.out HL.out HNm_.out).mono ?_); (case c1_ => exact Kd.C_below HR.out HA.out.bel); rintro e w8_ ⟨rfl, hb⟩; have na_ := Aside0.mk (show OneAt w w8_ p6 p8 #[.int .u8 3, .int .u8 fl, .int .u32 r0, .int .u16 0, .int .u16 0, .int .u32 0, .int .u32 0, .int .u32 r1, .int .u16 0, .int .u16 0, .slice none 0 0, .slice none 0 0, .slice none 0 0, .slice none 0 0] from OneAt.next HA.out hb); clear HA; have HA := na_; clear na_; clear hb))
  go_wp2
  go_loopg [12] (n_.toNat + 1) (fun gk v12 wr => ∃ (i : Nat) (out : List S101) (A10 : Option Addr) (c10 : Nat), v12 = .int .i64 (i : Int) ∧ Aside0 (i + gk = n_.toNat + 1) ∧ Aside0 (i ≤ n_.toNat ∧ out ++ blocksV (n_.toNat - i) (l12.drop (4 * i)) = blocksV n_.toNat l12) ∧ Aside0 (out.length = i) ∧ Aside0 (OneAt w wr p6 p8 #[.int .u8 3, .int .u8 fl, .int .u32 r0, .int .u16 0, .int .u16 0, .int .u32 0, .int .u32 0, .int .u32 r1, .int .u16 0, .int .u16 0, .slice A10 out.length c10, .slice none 0 0, .slice none 0 0, .slice none 0 0]) ∧ Aside0 (Kd.R k101 101 wr w.heap.size (fun k => k ≠ p6 ∧ k ≠ p8) (.slice A10 out.length c10) out))
  case atStart => exact ⟨0, [], none, 0, rfl, ⟨by omega⟩, ⟨Nat.zero_le _, rfl⟩, ⟨rfl⟩, HA, ⟨Kd.R_nil _ _ _ _ _⟩⟩
  case round =>
    clear HA
    obtain ⟨i, out, A10, c10, rfl, HGI, HBL, HOL, HA, HRO⟩ := hrel
    have h16 := H16.out
    have hnr := HNR.out
    have hmr := HMR.out
    have h5 := HE5.out
    have hol := HOL.out
    have hbl := HBL.out.1
    by_cases hi : i < n_.toNat
    · cases gk with
      | zero => exact absurd HGI.out (by omega)
      | succ gk =>
      obtain ⟨p, hp⟩ : ∃ p : Int, p = 12 + 4 * (i : Int) := ⟨_, rfl⟩
      obtain ⟨q, hq⟩ : ∃ q : Int, q = 14 + 4 * (i : Int) := ⟨_, rfl⟩
      have wi : wrap64 (4 * (i : Int)) = 4 * (i : Int) := w64 (by omega) (by omega)
      have wii : IntKind.i64.wrap (4 * (i : Int)) = 4 * (i : Int) := (i64_w _).trans wi
      have wp : wrap64 (12 + 4 * (i : Int)) = p := by rw [w64 (by omega) (by omega), hp]
      have wpi : IntKind.i64.wrap (12 + 4 * (i : Int)) = p := (i64_w _).trans wp
      have wq : wrap64 (14 + 4 * (i : Int)) = q := by rw [w64 (by omega) (by omega), hq]
      have wqi : IntKind.i64.wrap (14 + 4 * (i : Int)) = q := (i64_w _).trans wq
      obtain ⟨x, hx⟩ : ∃ x, x = numN (l.drop p.toNat) 2 := ⟨_, rfl⟩
      obtain ⟨y, hy⟩ : ∃ y, y = numN (l.drop q.toNat) 2 := ⟨_, rfl⟩
      have hux : IntKind.u16.wrap x = x := u16w (by rw [hx]; exact num2_range (HBY.out.drop _))
      have huy : IntKind.u16.wrap y = y := u16w (by rw [hy]; exact num2_range (HBY.out.drop _))
      have hum : x % 65536 = x := by have := num2_range (HBY.out.drop p.toNat); rw [← hx] at this; omega
      have hun : y % 65536 = y := by have := num2_range (HBY.out.drop q.toNat); rw [← hy] at this; omega
      have HP0 := Aside0.mk (show 0 ≤ p by omega)
      have HP1 := Aside0.mk (show p + 2 ≤ (l.length : Int) by omega)
      have HQ0 := Aside0.mk (show 0 ≤ q by omega)
      have HQ1 := Aside0.mk (show q + 2 ≤ (l.length : Int) by omega)
      have HLM := Aside0.mk (show (out.length + 1) * 4 ≤ 140737488355328 by omega)
      have HXN := Aside0.mk hx
      have HYN := Aside0.mk hy
      have cB : decide ((i : Int) < n_) = true := decide_eq_true (by omega)
      have cW : wrap64 ((i : Int) + 1) = ((i + 1 : Nat) : Int) := by rw [w64 (by omega) (by omega)]; omega
      obtain ⟨o1, ho1⟩ : ∃ o1, o1 = out ++ [(⟨x, y⟩ : S101)] := ⟨_, rfl⟩
      have HO1 := Aside0.mk ho1
      have p1 := at_a p i hp
      have p2 := at_b q i hq
      have e1 : l12.drop (4 * i) = l.drop p.toNat := by rw [HL12.out, List.drop_drop, p1]
      have e2 : (l12.drop (4 * i)).drop 2 = l.drop q.toNat := by rw [HL12.out, List.drop_drop, List.drop_drop, p2]
      have e3 : (l12.drop (4 * i)).drop 4 = l12.drop (4 * (i + 1)) := by rw [List.drop_drop, Nat.mul_succ]
      have e4 : blocksV (n_.toNat - i) (l12.drop (4 * i)) = ⟨x, y⟩ :: blocksV (n_.toNat - (i + 1)) (l12.drop (4 * (i + 1))) := by
        rw [sub_s _ _ hi, blocksV, e3, e2, e1, ← hx, ← hy]
      have HR2 := Aside0.mk (show i + 1 ≤ n_.toNat ∧ o1 ++ blocksV (n_.toNat - (i + 1)) (l12.drop (4 * (i + 1))) = blocksV n_.toNat l12 from
        ⟨hi, by have h := HBL.out.2; rw [e4] at h; rw [ho1, List.append_assoc]; exact h⟩)
      clear e1 e2 e3 e4 p1 p2
      have HR3 := Aside0.mk (show o1.length = i + 1 by rw [ho1, List.length_append, HOL.out]; rfl)
      have HR4 := Aside0.mk (add_s HGI.out)
      have hc10 : wr.cell? ⟨p8, 10, none⟩ = some (.slice A10 out.length c10) := blk_cell HA.out.b8 10
      clear hx hy hp hq ho1 hi h16 hnr hmr h5 hol hbl
      go_upto_region 30 with (fail)
      first | (go_region_law (first | (refine goes_ Try.func42 (by kernel_rfl) rfl #[.slice A0 l.length c0, .int .i64 p, .int .i64 2] (by rfl) rfl rfl (by first | rfl | kernel_rfl | (simp [Act.eval]; done) | (go_simp; rfl) | (simp [Act.eval, Act.put]; rfl)) ?_; (with_reducible refine (rnum2 A0 c0 l p x _ (Kd.C_below HR.out HA.out.drew.bel) HC.out HBY.out HP0.out HP1.out HL.out HXN.out).mono ?_); rintro e w31 ⟨rfl, hb⟩; refine ⟨_, rfl, ?_⟩; have HA31 := Aside0.mk (OneAt.next HA.out.drew hb); have HR31 := Aside0.mk (Kd.R_below (Kd.R_drew HRO.out) hb); have hc10 : w31.cell? ⟨p8, 10, none⟩ = some (.slice A10 out.length c10) := blk_cell HA31.out.b8 10; clear hb) | (refine goes_ Try.func42 (by kernel_rfl) rfl #[.slice A0 l.length c0, .int .i64 q, .int .i64 2] (by rfl) rfl rfl (by first | rfl | kernel_rfl | (simp [Act.eval]; done) | (go_simp; rfl) | (simp [Act.eval, Act.put]; rfl)) ?_; (with_reducible refine (rnum2 A0 c0 l q y _ (Kd.C_below HR.out HA31.out.bel) HC.out HBY.out HQ0.out HQ1.out HL.out HYN.out).mono ?_); rintro e w32 ⟨rfl, hb⟩; refine ⟨_, rfl, ?_⟩; have HA32 := Aside0.mk (OneAt.next HA31.out hb); have HR32 := Aside0.mk (Kd.R_below HR31.out hb); have hc10 : w32.cell? ⟨p8, 10, none⟩ = some (.slice A10 out.length c10) := blk_cell HA32.out.b8 10; have hca : ∀ o_, (w32.alloc o_).cell? ⟨p8, 10, none⟩ = some (.slice A10 out.length c10) := fun o_ => blk_cell (HA32.out.alloc o_).b8 10; clear hb) | (refine Kd.R_append_step k101 (w0 := w32) w.heap.size (by rfl) (.tmp 132) (.tmp 146) 24 101 (.agg #[(.int .u16 0), (.int .u16 0)]) 4 rfl Try.underlying24 info101 rfl (by decide) (by omega) (.slice A10 out.length c10) out (⟨x, y⟩ : S101) [.int .u16 x, .int .u16 y] (fun k => k ≠ p6 ∧ k ≠ p8) (fun _ => False) rfl rfl (k101_mkM _ _ _ (⟨x, y⟩ : S101)) (fun _ hk => hk.elim) (fun k hk => ⟨fun e_ => Nat.not_lt.mpr hk (by rw [e_]; exact blk_lt HA32.out.b6), fun e_ => Nat.not_lt.mpr hk (by rw [e_]; exact blk_lt HA32.out.b8)⟩) HR32.out (Below.refl _ _) HA32.out.bel.size HLM.out ?_; intro v33 w33 ho33 hb33 hg33 ha33; rw [← HO1.out] at ho33; obtain ⟨A33, c33, e33⟩ := Kd.R_slice ho33; subst e33; have HR33 := Aside0.mk ho33; have HA33 := Aside0.mk (OneAt.grown HA32.out hg33 (HA32.out.bel.trans hb33) (fun e_ => (HR32.out.1 _ e_.symm).1 rfl) (fun e_ => (HR32.out.1 _ e_.symm).2 rfl)); have hc10 : w33.cell? ⟨p8, 10, none⟩ = some (.slice A10 out.length c10) := blk_cell HA33.out.b8 10; have hf10 : w33.frozen? ⟨p8, 10, none⟩ = false := blk_frozen HA33.out.b8 10; clear ho33 hb33 hg33 ha33))) | fail
      all_goals go_wp2
      all_goals go_roundg gk
      all_goals first | omega | exact ⟨i + 1, o1, A33, c33, congrArg (Value.int .i64) cW, HR4, HR2, HR3, ⟨show OneAt w _ p6 p8 #[.int .u8 3, .int .u8 fl, .int .u32 r0, .int .u16 0, .int .u16 0, .int .u32 0, .int .u32 0, .int .u32 r1, .int .u16 0, .int .u16 0, .slice A33 o1.length c33, .slice none 0 0, .slice none 0 0, .slice none 0 0] from HA33.out.put 10 _ rfl⟩, ⟨Kd.R_far (p := ⟨p8, 10, none⟩) HR33.out (fun _ hk => hk.2) _⟩⟩
    · have HII := Aside0.mk (show i = n_.toNat by omega)
      have HBK := Aside0.mk (show out = blocksV n_.toNat l12 by have h := HBL.out.2; rw [HII.out, Nat.sub_self, blocksV, List.append_nil] at h; exact h)
      have cB : decide ((i : Int) < n_) = false := decide_eq_false (by omega)
      clear hi h16 hnr hmr h5 hol hbl
      go_upto_region 31 with (fail)
      go_wp2
      go_loopg [13] (m_.toNat + 1) (fun gk2 v13 wr2 => ∃ (j : Nat) (dps : List Int) (A11 : Option Addr) (c11 : Nat), v13 = .int .i64 (j : Int) ∧ Aside0 (j + gk2 = m_.toNat + 1) ∧ Aside0 (j ≤ m_.toNat ∧ dps ++ dupsV (m_.toNat - j) ((l12.drop (4 * n_.toNat)).drop (4 * j)) = dupsV m_.toNat (l12.drop (4 * n_.toNat))) ∧ Aside0 (dps.length = j) ∧ Aside0 (OneAt w wr2 p6 p8 #[.int .u8 3, .int .u8 fl, .int .u32 r0, .int .u16 0, .int .u16 0, .int .u32 0, .int .u32 0, .int .u32 r1, .int .u16 0, .int .u16 0, .slice A10 out.length c10, .slice A11 dps.length c11, .slice none 0 0, .slice none 0 0]) ∧ Aside0 (Kd.R k101 101 wr2 w.heap.size (fun k => k ≠ p6 ∧ k ≠ p8) (.slice A10 out.length c10) out) ∧ Aside0 (Kd.R (Kd.int .u32) 22 wr2 w.heap.size (fun k => k ≠ p6 ∧ k ≠ p8) (.slice A11 dps.length c11) dps))
      case atStart => exact ⟨0, [], none, 0, rfl, ⟨by omega⟩, ⟨Nat.zero_le _, rfl⟩, ⟨rfl⟩, HA, HRO, ⟨Kd.R_nil _ _ _ _ _⟩⟩
      case round =>
        clear HA HRO
        obtain ⟨j, dps, A11, c11, rfl, HGJ, HDL, HDN, HA, HRO, HRD⟩ := hrel
        have h16 := H16.out
        have hnr := HNR.out
        have hmr := HMR.out
        have h5 := HE5.out
        have hdn := HDN.out
        have hdl := HDL.out.1
        by_cases hj : j < m_.toNat
        · cases gk with
          | zero => exact absurd HGJ.out (by omega)
          | succ gk3 =>
          obtain ⟨p, hp⟩ : ∃ p : Int, p = 12 + 4 * n_ + 4 * (j : Int) := ⟨_, rfl⟩
          have wi : wrap64 (4 * (j : Int)) = 4 * (j : Int) := w64 (by omega) (by omega)
          have wii : IntKind.i64.wrap (4 * (j : Int)) = 4 * (j : Int) := (i64_w _).trans wi
          have wp : wrap64 (12 + 4 * n_ + 4 * (j : Int)) = p := by rw [w64 (by omega) (by omega), hp]
          have wpi : IntKind.i64.wrap (12 + 4 * n_ + 4 * (j : Int)) = p := (i64_w _).trans wp
          obtain ⟨z, hz⟩ : ∃ z, z = numN (l.drop p.toNat) 4 := ⟨_, rfl⟩
          have hmz : z % 4294967296 = z := by have := numN_range (HBY.out.drop p.toNat) 4 (by decide); rw [hz]; omega
          have hmz2 : IntKind.u32.wrap z = z := u32w (by rw [hz]; exact numN_range (HBY.out.drop _) 4 (by decide))
          have HP0 := Aside0.mk (show 0 ≤ p by omega)
          have HP1 := Aside0.mk (show p + 4 ≤ (l.length : Int) by omega)
          have HLM := Aside0.mk (show (dps.length + 1) * 4 ≤ 140737488355328 by omega)
          have HZN := Aside0.mk hz
          have cB2 : decide ((j : Int) < m_) = true := decide_eq_true (by omega)
          have cW2 : wrap64 ((j : Int) + 1) = ((j + 1 : Nat) : Int) := by rw [w64 (by omega) (by omega)]; omega
          obtain ⟨o2, ho2⟩ : ∃ o2, o2 = dps ++ [z] := ⟨_, rfl⟩
          have HO2 := Aside0.mk ho2
          have p1 := at_c p n_ j hnr.1 hp
          have e1 : (l12.drop (4 * n_.toNat)).drop (4 * j) = l.drop p.toNat := by rw [HL12.out, List.drop_drop, List.drop_drop, ← Nat.add_assoc, p1]
          have e3 : ((l12.drop (4 * n_.toNat)).drop (4 * j)).drop 4 = (l12.drop (4 * n_.toNat)).drop (4 * (j + 1)) := by rw [List.drop_drop, Nat.mul_succ]
          have e4 : dupsV (m_.toNat - j) ((l12.drop (4 * n_.toNat)).drop (4 * j)) = z :: dupsV (m_.toNat - (j + 1)) ((l12.drop (4 * n_.toNat)).drop (4 * (j + 1))) := by
            rw [sub_s _ _ hj, dupsV, e3, e1, ← hz]
          have HR2 := Aside0.mk (show j + 1 ≤ m_.toNat ∧ o2 ++ dupsV (m_.toNat - (j + 1)) ((l12.drop (4 * n_.toNat)).drop (4 * (j + 1))) = dupsV m_.toNat (l12.drop (4 * n_.toNat)) from
            ⟨hj, by have h := HDL.out.2; rw [e4] at h; rw [ho2, List.append_assoc]; exact h⟩)
          clear e1 e3 e4 p1
          have HR3 := Aside0.mk (show o2.length = j + 1 by rw [ho2, List.length_append, HDN.out]; rfl)
          have HR4 := Aside0.mk (add_s HGJ.out)
          have hc11 : wr.cell? ⟨p8, 11, none⟩ = some (.slice A11 dps.length c11) := blk_cell HA.out.b8 11
          clear hz hp ho2 hj h16 hnr hmr h5 hdn hdl
          go_upto_region 34 with (fail)
          first | (go_region_law (first | (refine goes_ Try.func42 (by kernel_rfl) rfl #[.slice A0 l.length c0, .int .i64 p, .int .i64 4] (by rfl) rfl rfl (by first | rfl | kernel_rfl | (simp [Act.eval]; done) | (go_simp; rfl) | (simp [Act.eval, Act.put]; rfl)) ?_; (with_reducible refine (rnum4 A0 c0 l p z _ (Kd.C_below HR.out HA.out.drew.bel) HC.out HBY.out HP0.out HP1.out HL.out HZN.out).mono ?_); rintro e w31 ⟨rfl, hb⟩; refine ⟨_, rfl, ?_⟩; have HA31 := Aside0.mk (OneAt.next HA.out.drew hb); have HT31 := Aside0.mk (Kd.R_below (Kd.R_drew HRO.out) hb); have HR31 := Aside0.mk (Kd.R_below (Kd.R_drew HRD.out) hb); have hc11 : w31.cell? ⟨p8, 11, none⟩ = some (.slice A11 dps.length c11) := blk_cell HA31.out.b8 11; have hca : ∀ o_, (w31.alloc o_).cell? ⟨p8, 11, none⟩ = some (.slice A11 dps.length c11) := fun o_ => blk_cell (HA31.out.alloc o_).b8 11; clear hb) | (refine Kd.R_append_step (Kd.int .u32) (w0 := w31) w.heap.size (by rfl) (.tmp 155) (.tmp 164) 25 22 (.int .u32 0) 4 rfl Try.underlying25 info22 rfl (by decide) (by omega) (.slice A11 dps.length c11) dps z [.int .u32 z] (fun k => k ≠ p6 ∧ k ≠ p8) (fun _ => False) rfl rfl rfl (fun _ hk => hk.elim) (fun k hk => ⟨fun e_ => Nat.not_lt.mpr hk (by rw [e_]; exact blk_lt HA31.out.b6), fun e_ => Nat.not_lt.mpr hk (by rw [e_]; exact blk_lt HA31.out.b8)⟩) HR31.out (Below.refl _ _) HA31.out.bel.size HLM.out ?_; intro v33 w33 ho33 hb33 hg33 ha33; rw [← HO2.out] at ho33; obtain ⟨A33, c33, e33⟩ := Kd.R_slice ho33; subst e33; have HR33 := Aside0.mk ho33; have HA33 := Aside0.mk (OneAt.grown HA31.out hg33 (HA31.out.bel.trans hb33) (fun e_ => (HR31.out.1 _ e_.symm).1 rfl) (fun e_ => (HR31.out.1 _ e_.symm).2 rfl)); have HS33 := Aside0.mk (keepO HT31.out HR31.out hg33); have hc11 : w33.cell? ⟨p8, 11, none⟩ = some (.slice A11 dps.length c11) := blk_cell HA33.out.b8 11; have hf11 : w33.frozen? ⟨p8, 11, none⟩ = false := blk_frozen HA33.out.b8 11; clear ho33 hb33 hg33 ha33))) | fail
          all_goals go_wp2
          all_goals go_roundg gk3
          all_goals first | omega | exact ⟨j + 1, o2, A33, c33, congrArg (Value.int .i64) cW2, HR4, HR2, HR3, ⟨show OneAt w _ p6 p8 #[.int .u8 3, .int .u8 fl, .int .u32 r0, .int .u16 0, .int .u16 0, .int .u32 0, .int .u32 0, .int .u32 r1, .int .u16 0, .int .u16 0, .slice A10 out.length c10, .slice A33 o2.length c33, .slice none 0 0, .slice none 0 0] from HA33.out.put 11 _ rfl⟩, ⟨Kd.R_far (p := ⟨p8, 11, none⟩) HS33.out (fun _ hk => hk.2) _⟩, ⟨Kd.R_far (p := ⟨p8, 11, none⟩) HR33.out (fun _ hk => hk.2) _⟩⟩
        · have HJJ := Aside0.mk (show j = m_.toNat by omega)
          have HDK := Aside0.mk (show dps = dupsV m_.toNat (l12.drop (4 * n_.toNat)) by have h := HDL.out.2; rw [HJJ.out, Nat.sub_self, dupsV, List.append_nil] at h; exact h)
          have cB2 : decide ((j : Int) < m_) = false := decide_eq_false (by omega)
          clear hj h16 hnr hmr h5 hdn hdl
          go_upto_region 41 with (fail)
          obtain ⟨⟨hz0, hz1, hz2, hz3, hz4, hz5, hz6, hz7, hz8, hz9, hz10, hz11, hz12, hz13⟩, ⟨hy0, hy1, hy2, hy3, hy4, hy5, hy6, hy7, hy8, hy9, hy10, hy11, hy12, hy13⟩⟩ := oneC14 HA.out.b8
          obtain ⟨⟨gz0, gz1, gz2, gz3, gz4, gz5, gz6, gz7, gz8, gz9, gz10, gz11, gz12, gz13⟩, ⟨gy0, gy1, gy2, gy3, gy4, gy5, gy6, gy7, gy8, gy9, gy10, gy11, gy12, gy13⟩⟩ := HA.out.cells6
          have hne := HA.out.ne
          have hne' := HA.out.ne.symm
          go_wp2
          refine bodyPost_ret (results_ct rfl _ _ p6 29 #[.int .u8 3, .int .u8 fl, .int .u32 r0, .int .u16 0, .int .u16 0, .int .u32 0, .int .u32 0, .int .u32 r1, .int .u16 0, .int .u16 0, .slice A10 out.length c10, .slice A11 dps.length c11, .slice none 0 0, .slice none 0 0] (0, 0) _ rfl HA.out.put6.1 Try.underlying29 rfl (by kernel_rfl)) rfl ⟨HA.out.put6.2, ?_⟩
          rw [HSF.out, if_neg HE.out, if_neg HF.out, ← HBK.out, ← HDK.out]
          exact ⟨_, rfl, _, _, _, _, rfl, R_set6 HRO.out, R_set6 HRD.out, Kd.R_nil _ _ _ _ _, Kd.R_nil _ _ _ _ _⟩
theorem oneV_raw (t fl : Int) (l : List Int) (h : t = 10 ∨ t = 12 ∨ t = 13 ∨ 14 < t) : oneV t fl l = rawV t fl l := by
  rcases h with rfl | rfl | rfl | h
  · rfl
  · rfl
  · rfl
  · have e : ofT t = 85 := by
      unfold ofT
      rw [if_neg (by omega), if_neg (by omega), if_neg (by omega), if_neg (by omega), if_neg (by omega), if_neg (by omega)]
    unfold oneV
    rw [e]
    rfl
/-- One tells what the program's readers tell. -/
theorem rone_calls (t fl : Int) (A0 : Option Addr) (c0 : Nat) (l : List Int) (w : World) (hr0 : Kd.C (Kd.int .u8) w A0 l.length l) (hc0 : l.length ≤ c0) (hb : Bytes l) (hl : l.length ≤ 65536) (ht : 0 ≤ t ∧ t ≤ 255) :
    Calls Try.prog 43 #[.int .u8 t, .int .u8 fl, .slice A0 l.length c0] w fun x w' => Below w.heap.size w w' ∧ ROneOut w w' x (oneV t fl l) := by
  by_cases h0 : t = 0
  · rw [show oneV t fl l = dataV t fl l by subst h0; rfl]; exact rone_data t fl A0 c0 l w hr0 hc0 hb hl h0
  by_cases h1 : t = 1 ∨ t = 2
  · rw [show oneV t fl l = firstR t fl l by rcases h1 with rfl | rfl <;> rfl]; exact rone_first t fl A0 c0 l w hr0 hc0 hb hl h1 (t == 2) (by rcases h1 with rfl | rfl <;> rfl) rfl
  by_cases h3 : t = 3
  · rw [show oneV t fl l = sackR t fl l by subst h3; rfl]; exact rone_sack t fl A0 c0 l w hr0 hc0 hb hl h3
  by_cases h4 : t = 4 ∨ t = 5 ∨ t = 6 ∨ t = 9
  · rw [show oneV t fl l = pmV t fl l by rcases h4 with rfl | rfl | rfl | rfl <;> rfl]; exact rone_params t fl A0 c0 l w hr0 hc0 hb hl h4
  by_cases h7 : t = 7
  · rw [show oneV t fl l = numberV t fl l by subst h7; rfl]; exact rone_number t fl A0 c0 l w hr0 hc0 hb hl h7
  by_cases h8 : t = 8 ∨ t = 11 ∨ t = 14
  · rw [show oneV t fl l = bareV t fl l by rcases h8 with rfl | rfl | rfl <;> rfl]; exact rone_bare t fl A0 c0 l w hr0 hc0 hb hl h8
  have h9 : t = 10 ∨ t = 12 ∨ t = 13 ∨ 14 < t := by omega
  rw [oneV_raw t fl l h9]
  exact rone_raw t fl A0 c0 l w hr0 hc0 hb hl h9
end Go.Proofs.Ytaahkggbjpdofaa.M
