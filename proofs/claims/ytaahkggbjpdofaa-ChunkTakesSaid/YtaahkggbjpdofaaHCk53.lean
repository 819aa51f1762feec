/- chunk.Check at the kinds of chunk.data. -/
import Derived.Test.YtaahkggbjpdofaaHOrd
import Derived.Test.YtaahkggbjpdofaaHLays
import Derived.Test.YtaahkggbjpdofaaHPlainD
import Derived.Test.YtaahkggbjpdofaaHAlike
import Derived.WalkSpells
import Derived.LoopN
import Derived.Deep.RegionWith
namespace Go.Proofs.Ytaahkggbjpdofaa.M
open Go.RowKit Go.Proofs.YtaahkggbjpdofaaW.PrintWords Go.Proofs.YtaahkggbjpdofaaW.PrintLast Go.Proofs.YtaahkggbjpdofaaW.PrintMore
set_option linter.unusedVariables false
set_option linter.unusedSimpArgs false
attribute [local go_sem] as_53_53 as_53_80 as_53_81 as_53_82 as_53_83 as_53_85 as_80_53 as_80_80 as_80_81 as_80_82 as_80_83 as_80_85 as_81_53 as_81_80 as_81_81 as_81_82 as_81_83 as_81_85 as_82_53 as_82_80 as_82_81 as_82_82 as_82_83 as_82_85 as_83_53 as_83_80 as_83_81 as_83_82 as_83_83 as_83_85 as_84_53 as_84_80 as_84_81 as_84_82 as_84_83 as_84_85 as_85_53 as_85_80 as_85_81 as_85_82 as_85_83 as_85_85
attribute [local go_sem] ml_53 ml_80 ml_81 ml_82 ml_83 ml_84 ml_85
attribute [local go_sem] make4
attribute [local go_sem] na_53 na_80 na_81 na_82 na_83 na_84 na_85
theorem rd48_mem (l : List S48) (i : Nat) (h : i < l.length) : rd_T48 l (i : Int) ∈ l := by
  unfold rd_T48
  rw [Int.toNat_natCast, List.getD_eq_getElem?_getD, List.getElem?_eq_getElem h]
  exact List.getElem_mem h
theorem any48_false (l : List S48) (h : ∀ j, j < l.length → (rd_T48 l (j : Int)).f1.length ≤ 1480) : (l.any fun p => decide (1480 < p.f1.length)) = false := by
  rw [List.any_eq_false]
  intro x hx
  obtain ⟨j, hj, rfl⟩ := List.getElem_of_mem hx
  have := h j hj
  unfold rd_T48 at this
  rw [Int.toNat_natCast, List.getD_eq_getElem?_getD, List.getElem?_eq_getElem hj] at this
  simp only [Option.getD_some] at this
  rw [decide_eq_true_iff]
  omega
theorem alike_53 (t a1 a2 a3 a4 a5 a6 a7 a8 a9 : Int) (A10 A11 A12 A13 : Option Addr) (c10 c11 c12 c13 : Nat) (l10 : List S101) (l11 : List Int) (l12 : List S48) (l13 : List Int) (b : Bool) (w : World) (hr10 : Kd.C k101 w A10 l10.length l10) (hc10' : l10.length ≤ c10) (hr11 : Kd.C (Kd.int .u32) w A11 l11.length l11) (hc11' : l11.length ≤ c11) (hr12 : Kd.C k48 w A12 l12.length l12) (hc12' : l12.length ≤ c12) (hr13 : Kd.C (Kd.int .u8) w A13 l13.length l13) (hc13' : l13.length ≤ c13) (h : chunk_alike.f t a1 a2 a3 a4 a5 a6 a7 a8 a9 l10 l11 l12 l13 t a1 a2 a3 a4 a5 0 0 0 0 [] [] [] l13 = some b) :
    Calls Try.prog 26 #[.agg #[.int .u8 t, .int .u8 a1, .int .u32 a2, .int .u16 a3, .int .u16 a4, .int .u32 a5, .int .u32 a6, .int .u32 a7, .int .u16 a8, .int .u16 a9, .slice A10 l10.length c10, .slice A11 l11.length c11, .slice A12 l12.length c12, .slice A13 l13.length c13], .agg #[.int .u8 t, .int .u8 a1, .int .u32 a2, .int .u16 a3, .int .u16 a4, .int .u32 a5, .int .u32 0, .int .u32 0, .int .u16 0, .int .u16 0, .slice none 0 0, .slice none 0 0, .slice none 0 0, .slice A13 l13.length c13]] w fun e w' => e = .returned (.bool b) ∧ Below w.heap.size w w' :=
  chunk_alike.calls t a1 a2 a3 a4 a5 a6 a7 a8 a9 A10 c10 l10 A11 c11 l11 A12 c12 l12 A13 c13 l13 t a1 a2 a3 a4 a5 0 0 0 0 none 0 [] none 0 [] none 0 [] A13 c13 l13 b w hr10 hc10' hr11 hc11' hr12 hc12' hr13 hc13' ((Kd.R_reads' (Kd.R_nil k101 101 w 0 (fun _ => True))).2.2) (Nat.le_refl 0) ((Kd.R_reads' (Kd.R_nil (Kd.int .u32) 22 w 0 (fun _ => True))).2.2) (Nat.le_refl 0) ((Kd.R_reads' (Kd.R_nil k48 48 w 0 (fun _ => True))).2.2) (Nat.le_refl 0) hr13 hc13' h
section
attribute [local go_sem] undef
set_option maxHeartbeats 8000000 in
set_option maxRecDepth 100000 in
theorem checkbad_53 (k : Nat) (t a1 a2 a3 a4 a5 a6 a7 a8 a9 : Int) (A10 A11 A12 A13 : Option Addr) (c10 c11 c12 c13 : Nat) (l10 : List S101) (l11 : List Int) (l12 : List S48) (l13 : List Int) (w : World) (hr10 : Kd.C k101 w A10 l10.length l10) (hc10' : l10.length ≤ c10) (hr11 : Kd.C (Kd.int .u32) w A11 l11.length l11) (hc11' : l11.length ≤ c11) (hr12 : Kd.C k48 w A12 l12.length l12) (hc12' : l12.length ≤ c12) (hr13 : Kd.C (Kd.int .u8) w A13 l13.length l13) (hc13' : l13.length ≤ c13) (hT : ofT t = 53) (hal : chunk_alike.f t a1 a2 a3 a4 a5 a6 a7 a8 a9 l10 l11 l12 l13 t a1 a2 a3 a4 a5 0 0 0 0 [] [] [] l13 = some false) :
    Calls Try.prog 12 #[.agg #[.int .u8 t, .int .u8 a1, .int .u32 a2, .int .u16 a3, .int .u16 a4, .int .u32 a5, .int .u32 a6, .int .u32 a7, .int .u16 a8, .int .u16 a9, .slice A10 l10.length c10, .slice A11 l11.length c11, .slice A12 l12.length c12, .slice A13 l13.length c13]] w fun e w' => e = .returned (.int .i64 2) ∧ Below w.heap.size w w' := by
  have HT := Aside0.mk hT
  have HAL := Aside0.mk hal
  clear hal hT
  have HR10 := Aside0.mk hr10
  have HC10 := Aside0.mk hc10'
  have HR11 := Aside0.mk hr11
  have HC11 := Aside0.mk hc11'
  have HR12 := Aside0.mk hr12
  have HC12 := Aside0.mk hc12'
  have HR13 := Aside0.mk hr13
  have HC13 := Aside0.mk hc13'
  clear hr10 hc10' hr11 hc11' hr12 hc12' hr13 hc13'
  go_enter Try.func12, Try.ntmps12
  go_wp2_with (first | ((with_reducible refine gate_dst (N := 1) rfl ?_); refine box_event ?hg (N := 1) ?hd (cs := #[.int .u8 t, .int .u8 a1, .int .u32 a2, .int .u16 a3, .int .u16 a4, .int .u32 a5, .int .u32 a6, .int .u32 a7, .int .u16 a8, .int .u16 a9, .slice A10 l10.length c10, .slice A11 l11.length c11, .slice A12 l12.length c12, .slice A13 l13.length c13]) (t := 29) ?hr ?_; (case hd => rfl); (case hg => rfl); (case hr => first | (go_simp; done) | (go_simp; rfl)); intro pb hg0 w1 hbox0 hb0; have hc0 : w1.cell? ⟨pb, 0, none⟩ = some (.int .u8 t) := blk_cell hbox0 0; have HX := Aside0.mk hbox0; have HB := Aside0.mk hb0; clear hg0 hbox0 hb0)
                       | ((with_reducible refine gate_dst (N := 3) rfl ?_); refine box_event ?hg (N := 3) ?hd (cs := #[.pointer none]) (t := 53) ?hr ?_; (case hd => rfl); (case hg => rfl); (case hr => first | (go_simp; done) | (go_simp; rfl)); intro p3 hg3 w3 hbox3 hb3; have hx3 := blk_below HX.out hb3; have hlt3 := blk_lt HX.out; have hne : pb ≠ p3 := (by omega); have hne' : p3 ≠ pb := (by omega); have HP3 := Aside0.mk (show w.heap.size ≤ p3 by have := HB.out.size; omega); clear hc0 hlt3; have hc0 : w3.cell? ⟨pb, 0, none⟩ = some (.int .u8 t) := blk_cell hx3 0; have hc1 : w3.cell? ⟨pb, 1, none⟩ = some (.int .u8 a1) := blk_cell hx3 1; have hc2 : w3.cell? ⟨pb, 2, none⟩ = some (.int .u32 a2) := blk_cell hx3 2; have hc3 : w3.cell? ⟨pb, 3, none⟩ = some (.int .u16 a3) := blk_cell hx3 3; have hc4 : w3.cell? ⟨pb, 4, none⟩ = some (.int .u16 a4) := blk_cell hx3 4; have hc5 : w3.cell? ⟨pb, 5, none⟩ = some (.int .u32 a5) := blk_cell hx3 5; have hc6 : w3.cell? ⟨pb, 6, none⟩ = some (.int .u32 a6) := blk_cell hx3 6; have hc7 : w3.cell? ⟨pb, 7, none⟩ = some (.int .u32 a7) := blk_cell hx3 7; have hc8 : w3.cell? ⟨pb, 8, none⟩ = some (.int .u16 a8) := blk_cell hx3 8; have hc9 : w3.cell? ⟨pb, 9, none⟩ = some (.int .u16 a9) := blk_cell hx3 9; have hc10 : w3.cell? ⟨pb, 10, none⟩ = some (.slice A10 l10.length c10) := blk_cell hx3 10; have hc11 : w3.cell? ⟨pb, 11, none⟩ = some (.slice A11 l11.length c11) := blk_cell hx3 11; have hc12 : w3.cell? ⟨pb, 12, none⟩ = some (.slice A12 l12.length c12) := blk_cell hx3 12; have hc13 : w3.cell? ⟨pb, 13, none⟩ = some (.slice A13 l13.length c13) := blk_cell hx3 13; have hd0 : w3.cell? ⟨p3, 0, none⟩ = some (.pointer none) := blk_cell hbox3 0; have hf0 : w3.frozen? ⟨p3, 0, none⟩ = false := blk_frozen hbox3 0; have HB3 := Aside0.mk (below_step HB.out hb3); have HX3 := Aside0.mk hx3; clear hg3 hbox3 hb3 hx3)
                       | (go_at_call 25; (with_reducible refine (of_all 53 _ t _ HT.out ?hc0).mono ?_); (case hc0 => first | exact hc0 | exact pw_cell_below (below_alloc (Below.refl _ _) _) hc0); rintro e w2 ⟨rfl, hw⟩; have hw := hw.symm; subst hw))
  first | (go_region_with (first | (go_at_call 27; (with_reducible refine (plain_53 t a1 a2 a3 a4 a5 a6 a7 a8 a9 A10 A11 A12 A13 l10.length l11.length l12.length l13.length c10 c11 c12 c13 _ HT.out).mono ?_); rintro e w4 ⟨rfl, hb4⟩; have hx4 := blk_below (w := (w3.setCell ⟨p3, 0, none⟩ (.pointer (some ⟨pb, 0, none⟩))).drew) ((Below.heap_setCell w3 ⟨p3, 0, none⟩ (.pointer (some ⟨pb, 0, none⟩)) pb hne).trans HX3.out) hb4; clear hc0 hc1 hc2 hc3 hc4 hc5 hc6 hc7 hc8 hc9 hc10 hc11 hc12 hc13; obtain ⟨hc0, hc1, hc2, hc3, hc4, hc5, hc6, hc7, hc8, hc9, hc10, hc11, hc12, hc13⟩ := cells14 hx4; have HB4 := Aside0.mk (below_step (below_set (j := 0) (v := (.pointer (some ⟨pb, 0, none⟩))) HB3.out HP3.out).drew hb4); have HX4 := Aside0.mk hx4; clear hb4 hx4) | (go_at_call 26; (with_reducible refine (alike_53 t a1 a2 a3 a4 a5 a6 a7 a8 a9 A10 A11 A12 A13 c10 c11 c12 c13 l10 l11 l12 l13 false w4 (Kd.C_below HR10.out HB4.out) HC10.out (Kd.C_below HR11.out HB4.out) HC11.out (Kd.C_below HR12.out HB4.out) HC12.out (Kd.C_below HR13.out HB4.out) HC13.out HAL.out).mono ?_); rintro e w5 ⟨rfl, hb5⟩; have hx5 := blk_below HX4.out hb5; clear hc0 hc1 hc2 hc3 hc4 hc5 hc6 hc7 hc8 hc9 hc10 hc11 hc12 hc13; obtain ⟨hc0, hc1, hc2, hc3, hc4, hc5, hc6, hc7, hc8, hc9, hc10, hc11, hc12, hc13⟩ := cells14 hx5; have HB5 := Aside0.mk (below_step HB4.out hb5); have HX5 := Aside0.mk hx5; clear hb5 hx5))) | fail
  all_goals go_wp2
  all_goals go_ret
  all_goals exact ⟨rfl, by repeat (first | exact HB5.out | refine below_alloc ?_ _ | refine Below.drew ?_)⟩
end
set_option maxHeartbeats 8000000 in
set_option maxRecDepth 100000 in
theorem checknone_53 (k : Nat) (t a1 a2 a3 a4 a5 a6 a7 a8 a9 : Int) (A10 A11 A12 A13 : Option Addr) (c10 c11 c12 c13 : Nat) (l10 : List S101) (l11 : List Int) (l12 : List S48) (l13 : List Int) (w : World) (hr10 : Kd.C k101 w A10 l10.length l10) (hc10' : l10.length ≤ c10) (hr11 : Kd.C (Kd.int .u32) w A11 l11.length l11) (hc11' : l11.length ≤ c11) (hr12 : Kd.C k48 w A12 l12.length l12) (hc12' : l12.length ≤ c12) (hr13 : Kd.C (Kd.int .u8) w A13 l13.length l13) (hc13' : l13.length ≤ c13) (hT : ofT t = 53) (hal : chunk_alike.f t a1 a2 a3 a4 a5 a6 a7 a8 a9 l10 l11 l12 l13 t a1 a2 a3 a4 a5 0 0 0 0 [] [] [] l13 = some true) (hl0 : l13.length = 0) :
    Calls Try.prog 12 #[.agg #[.int .u8 t, .int .u8 a1, .int .u32 a2, .int .u16 a3, .int .u16 a4, .int .u32 a5, .int .u32 a6, .int .u32 a7, .int .u16 a8, .int .u16 a9, .slice A10 l10.length c10, .slice A11 l11.length c11, .slice A12 l12.length c12, .slice A13 l13.length c13]] w fun e w' => e = .returned (.int .i64 2) ∧ Below w.heap.size w w' := by
  have HT := Aside0.mk hT
  have HAL := Aside0.mk hal
  have hl0' : ((l13.length : Int) == 0) = true := by rw [hl0]; rfl
  have hl0d : decide ((l13.length : Int) = 0) = true := by rw [hl0]; rfl
  have HLZ := Aside0.mk hl0
  clear hal hT hl0
  have HR10 := Aside0.mk hr10
  have HC10 := Aside0.mk hc10'
  have HR11 := Aside0.mk hr11
  have HC11 := Aside0.mk hc11'
  have HR12 := Aside0.mk hr12
  have HC12 := Aside0.mk hc12'
  have HR13 := Aside0.mk hr13
  have HC13 := Aside0.mk hc13'
  clear hr10 hc10' hr11 hc11' hr12 hc12' hr13 hc13'
  go_enter Try.func12, Try.ntmps12
  go_wp2_with (first | ((with_reducible refine gate_dst (N := 1) rfl ?_); refine box_event ?hg (N := 1) ?hd (cs := #[.int .u8 t, .int .u8 a1, .int .u32 a2, .int .u16 a3, .int .u16 a4, .int .u32 a5, .int .u32 a6, .int .u32 a7, .int .u16 a8, .int .u16 a9, .slice A10 l10.length c10, .slice A11 l11.length c11, .slice A12 l12.length c12, .slice A13 l13.length c13]) (t := 29) ?hr ?_; (case hd => rfl); (case hg => rfl); (case hr => first | (go_simp; done) | (go_simp; rfl)); intro pb hg0 w1 hbox0 hb0; have hc0 : w1.cell? ⟨pb, 0, none⟩ = some (.int .u8 t) := blk_cell hbox0 0; have HX := Aside0.mk hbox0; have HB := Aside0.mk hb0; clear hg0 hbox0 hb0)
                       | ((with_reducible refine gate_dst (N := 3) rfl ?_); refine box_event ?hg (N := 3) ?hd (cs := #[.pointer none]) (t := 53) ?hr ?_; (case hd => rfl); (case hg => rfl); (case hr => first | (go_simp; done) | (go_simp; rfl)); intro p3 hg3 w3 hbox3 hb3; have hx3 := blk_below HX.out hb3; have hlt3 := blk_lt HX.out; have hne : pb ≠ p3 := (by omega); have hne' : p3 ≠ pb := (by omega); have HP3 := Aside0.mk (show w.heap.size ≤ p3 by have := HB.out.size; omega); clear hc0 hlt3; have hc0 : w3.cell? ⟨pb, 0, none⟩ = some (.int .u8 t) := blk_cell hx3 0; have hc1 : w3.cell? ⟨pb, 1, none⟩ = some (.int .u8 a1) := blk_cell hx3 1; have hc2 : w3.cell? ⟨pb, 2, none⟩ = some (.int .u32 a2) := blk_cell hx3 2; have hc3 : w3.cell? ⟨pb, 3, none⟩ = some (.int .u16 a3) := blk_cell hx3 3; have hc4 : w3.cell? ⟨pb, 4, none⟩ = some (.int .u16 a4) := blk_cell hx3 4; have hc5 : w3.cell? ⟨pb, 5, none⟩ = some (.int .u32 a5) := blk_cell hx3 5; have hc6 : w3.cell? ⟨pb, 6, none⟩ = some (.int .u32 a6) := blk_cell hx3 6; have hc7 : w3.cell? ⟨pb, 7, none⟩ = some (.int .u32 a7) := blk_cell hx3 7; have hc8 : w3.cell? ⟨pb, 8, none⟩ = some (.int .u16 a8) := blk_cell hx3 8; have hc9 : w3.cell? ⟨pb, 9, none⟩ = some (.int .u16 a9) := blk_cell hx3 9; have hc10 : w3.cell? ⟨pb, 10, none⟩ = some (.slice A10 l10.length c10) := blk_cell hx3 10; have hc11 : w3.cell? ⟨pb, 11, none⟩ = some (.slice A11 l11.length c11) := blk_cell hx3 11; have hc12 : w3.cell? ⟨pb, 12, none⟩ = some (.slice A12 l12.length c12) := blk_cell hx3 12; have hc13 : w3.cell? ⟨pb, 13, none⟩ = some (.slice A13 l13.length c13) := blk_cell hx3 13; have hd0 : w3.cell? ⟨p3, 0, none⟩ = some (.pointer none) := blk_cell hbox3 0; have hf0 : w3.frozen? ⟨p3, 0, none⟩ = false := blk_frozen hbox3 0; have HB3 := Aside0.mk (below_step HB.out hb3); have HX3 := Aside0.mk hx3; clear hg3 hbox3 hb3 hx3)
                       | (go_at_call 25; (with_reducible refine (of_all 53 _ t _ HT.out ?hc0).mono ?_); (case hc0 => first | exact hc0 | exact pw_cell_below (below_alloc (Below.refl _ _) _) hc0); rintro e w2 ⟨rfl, hw⟩; have hw := hw.symm; subst hw))
  first | (go_region_with (first | (go_at_call 27; (with_reducible refine (plain_53 t a1 a2 a3 a4 a5 a6 a7 a8 a9 A10 A11 A12 A13 l10.length l11.length l12.length l13.length c10 c11 c12 c13 _ HT.out).mono ?_); rintro e w4 ⟨rfl, hb4⟩; have hx4 := blk_below (w := (w3.setCell ⟨p3, 0, none⟩ (.pointer (some ⟨pb, 0, none⟩))).drew) ((Below.heap_setCell w3 ⟨p3, 0, none⟩ (.pointer (some ⟨pb, 0, none⟩)) pb hne).trans HX3.out) hb4; clear hc0 hc1 hc2 hc3 hc4 hc5 hc6 hc7 hc8 hc9 hc10 hc11 hc12 hc13; obtain ⟨hc0, hc1, hc2, hc3, hc4, hc5, hc6, hc7, hc8, hc9, hc10, hc11, hc12, hc13⟩ := cells14 hx4; have HB4 := Aside0.mk (below_step (below_set (j := 0) (v := (.pointer (some ⟨pb, 0, none⟩))) HB3.out HP3.out).drew hb4); have HX4 := Aside0.mk hx4; clear hb4 hx4) | (go_at_call 26; (with_reducible refine (alike_53 t a1 a2 a3 a4 a5 a6 a7 a8 a9 A10 A11 A12 A13 c10 c11 c12 c13 l10 l11 l12 l13 true w4 (Kd.C_below HR10.out HB4.out) HC10.out (Kd.C_below HR11.out HB4.out) HC11.out (Kd.C_below HR12.out HB4.out) HC12.out (Kd.C_below HR13.out HB4.out) HC13.out HAL.out).mono ?_); rintro e w5 ⟨rfl, hb5⟩; have hx5 := blk_below HX4.out hb5; clear hc0 hc1 hc2 hc3 hc4 hc5 hc6 hc7 hc8 hc9 hc10 hc11 hc12 hc13; obtain ⟨hc0, hc1, hc2, hc3, hc4, hc5, hc6, hc7, hc8, hc9, hc10, hc11, hc12, hc13⟩ := cells14 hx5; have HB5 := Aside0.mk (below_step HB4.out hb5); have HX5 := Aside0.mk hx5; clear hb5 hx5))) | fail
  all_goals go_wp2
  all_goals go_ret
  all_goals exact ⟨rfl, by repeat (first | exact HB5.out | refine below_alloc ?_ _ | refine Below.drew ?_)⟩
set_option maxHeartbeats 8000000 in
set_option maxRecDepth 100000 in
theorem check_53 (k : Nat) (t a1 a2 a3 a4 a5 a6 a7 a8 a9 : Int) (A10 A11 A12 A13 : Option Addr) (c10 c11 c12 c13 : Nat) (l10 : List S101) (l11 : List Int) (l12 : List S48) (l13 : List Int) (w : World) (hr10 : Kd.C k101 w A10 l10.length l10) (hc10' : l10.length ≤ c10) (hr11 : Kd.C (Kd.int .u32) w A11 l11.length l11) (hc11' : l11.length ≤ c11) (hr12 : Kd.C k48 w A12 l12.length l12) (hc12' : l12.length ≤ c12) (hr13 : Kd.C (Kd.int .u8) w A13 l13.length l13) (hc13' : l13.length ≤ c13) (hT : ofT t = 53) (hal : chunk_alike.f t a1 a2 a3 a4 a5 a6 a7 a8 a9 l10 l11 l12 l13 t a1 a2 a3 a4 a5 0 0 0 0 [] [] [] l13 = some true) (hnz : l13.length ≠ 0) (r : Int) (h : (if 16 < l12.length then some 6 else if 16 < l10.length then some 6 else if 16 < l11.length then some 6 else if 1480 < l13.length then some 6 else if (l12.any fun p => decide (1480 < p.f1.length)) = true then some 6 else (chunk_data.f k a2 a3 a4 a5 l13 [0, 0, 0, 0]).bind fun b => if 1468 < b.length then some 6 else some 0) = some r) :
    Calls Try.prog 12 #[.agg #[.int .u8 t, .int .u8 a1, .int .u32 a2, .int .u16 a3, .int .u16 a4, .int .u32 a5, .int .u32 a6, .int .u32 a7, .int .u16 a8, .int .u16 a9, .slice A10 l10.length c10, .slice A11 l11.length c11, .slice A12 l12.length c12, .slice A13 l13.length c13]] w fun e w' => e = .returned (.int .i64 r) ∧ Below w.heap.size w w' := by
  have HT := Aside0.mk hT
  have HAL := Aside0.mk hal
  have hz0 : ((l13.length : Int) == 0) = false := beq_eq_false_iff_ne.mpr (by omega)
  have hz1 : decide ((l13.length : Int) = 0) = false := decide_eq_false (by omega)
  clear hnz
  have HH := Aside0.mk h
  clear hal hT h
  have HR10 := Aside0.mk hr10
  have HC10 := Aside0.mk hc10'
  have HR11 := Aside0.mk hr11
  have HC11 := Aside0.mk hc11'
  have HR12 := Aside0.mk hr12
  have HC12 := Aside0.mk hc12'
  have HR13 := Aside0.mk hr13
  have HC13 := Aside0.mk hc13'
  clear hr10 hc10' hr11 hc11' hr12 hc12' hr13 hc13'
  go_enter Try.func12, Try.ntmps12
  go_wp2_with (first | ((with_reducible refine gate_dst (N := 1) rfl ?_); refine box_event ?hg (N := 1) ?hd (cs := #[.int .u8 t, .int .u8 a1, .int .u32 a2, .int .u16 a3, .int .u16 a4, .int .u32 a5, .int .u32 a6, .int .u32 a7, .int .u16 a8, .int .u16 a9, .slice A10 l10.length c10, .slice A11 l11.length c11, .slice A12 l12.length c12, .slice A13 l13.length c13]) (t := 29) ?hr ?_; (case hd => rfl); (case hg => rfl); (case hr => first | (go_simp; done) | (go_simp; rfl)); intro pb hg0 w1 hbox0 hb0; have hc0 : w1.cell? ⟨pb, 0, none⟩ = some (.int .u8 t) := blk_cell hbox0 0; have HX := Aside0.mk hbox0; have HB := Aside0.mk hb0; clear hg0 hbox0 hb0)
                       | ((with_reducible refine gate_dst (N := 3) rfl ?_); refine box_event ?hg (N := 3) ?hd (cs := #[.pointer none]) (t := 53) ?hr ?_; (case hd => rfl); (case hg => rfl); (case hr => first | (go_simp; done) | (go_simp; rfl)); intro p3 hg3 w3 hbox3 hb3; have hx3 := blk_below HX.out hb3; have hlt3 := blk_lt HX.out; have hne : pb ≠ p3 := (by omega); have hne' : p3 ≠ pb := (by omega); have HP3 := Aside0.mk (show w.heap.size ≤ p3 by have := HB.out.size; omega); clear hc0 hlt3; have hc0 : w3.cell? ⟨pb, 0, none⟩ = some (.int .u8 t) := blk_cell hx3 0; have hc1 : w3.cell? ⟨pb, 1, none⟩ = some (.int .u8 a1) := blk_cell hx3 1; have hc2 : w3.cell? ⟨pb, 2, none⟩ = some (.int .u32 a2) := blk_cell hx3 2; have hc3 : w3.cell? ⟨pb, 3, none⟩ = some (.int .u16 a3) := blk_cell hx3 3; have hc4 : w3.cell? ⟨pb, 4, none⟩ = some (.int .u16 a4) := blk_cell hx3 4; have hc5 : w3.cell? ⟨pb, 5, none⟩ = some (.int .u32 a5) := blk_cell hx3 5; have hc6 : w3.cell? ⟨pb, 6, none⟩ = some (.int .u32 a6) := blk_cell hx3 6; have hc7 : w3.cell? ⟨pb, 7, none⟩ = some (.int .u32 a7) := blk_cell hx3 7; have hc8 : w3.cell? ⟨pb, 8, none⟩ = some (.int .u16 a8) := blk_cell hx3 8; have hc9 : w3.cell? ⟨pb, 9, none⟩ = some (.int .u16 a9) := blk_cell hx3 9; have hc10 : w3.cell? ⟨pb, 10, none⟩ = some (.slice A10 l10.length c10) := blk_cell hx3 10; have hc11 : w3.cell? ⟨pb, 11, none⟩ = some (.slice A11 l11.length c11) := blk_cell hx3 11; have hc12 : w3.cell? ⟨pb, 12, none⟩ = some (.slice A12 l12.length c12) := blk_cell hx3 12; have hc13 : w3.cell? ⟨pb, 13, none⟩ = some (.slice A13 l13.length c13) := blk_cell hx3 13; have hd0 : w3.cell? ⟨p3, 0, none⟩ = some (.pointer none) := blk_cell hbox3 0; have hf0 : w3.frozen? ⟨p3, 0, none⟩ = false := blk_frozen hbox3 0; have HB3 := Aside0.mk (below_step HB.out hb3); have HX3 := Aside0.mk hx3; clear hg3 hbox3 hb3 hx3)
                       | (go_at_call 25; (with_reducible refine (of_all 53 _ t _ HT.out ?hc0).mono ?_); (case hc0 => first | exact hc0 | exact pw_cell_below (below_alloc (Below.refl _ _) _) hc0); rintro e w2 ⟨rfl, hw⟩; have hw := hw.symm; subst hw))
  first | (go_region_with (first | (go_at_call 27; (with_reducible refine (plain_53 t a1 a2 a3 a4 a5 a6 a7 a8 a9 A10 A11 A12 A13 l10.length l11.length l12.length l13.length c10 c11 c12 c13 _ HT.out).mono ?_); rintro e w4 ⟨rfl, hb4⟩; have hx4 := blk_below (w := (w3.setCell ⟨p3, 0, none⟩ (.pointer (some ⟨pb, 0, none⟩))).drew) ((Below.heap_setCell w3 ⟨p3, 0, none⟩ (.pointer (some ⟨pb, 0, none⟩)) pb hne).trans HX3.out) hb4; clear hc0 hc1 hc2 hc3 hc4 hc5 hc6 hc7 hc8 hc9 hc10 hc11 hc12 hc13; obtain ⟨hc0, hc1, hc2, hc3, hc4, hc5, hc6, hc7, hc8, hc9, hc10, hc11, hc12, hc13⟩ := cells14 hx4; have HB4 := Aside0.mk (below_step (below_set (j := 0) (v := (.pointer (some ⟨pb, 0, none⟩))) HB3.out HP3.out).drew hb4); have HX4 := Aside0.mk hx4; clear hb4 hx4) | (go_at_call 26; (with_reducible refine (alike_53 t a1 a2 a3 a4 a5 a6 a7 a8 a9 A10 A11 A12 A13 c10 c11 c12 c13 l10 l11 l12 l13 true w4 (Kd.C_below HR10.out HB4.out) HC10.out (Kd.C_below HR11.out HB4.out) HC11.out (Kd.C_below HR12.out HB4.out) HC12.out (Kd.C_below HR13.out HB4.out) HC13.out HAL.out).mono ?_); rintro e w5 ⟨rfl, hb5⟩; have hx5 := blk_below HX4.out hb5; clear hc0 hc1 hc2 hc3 hc4 hc5 hc6 hc7 hc8 hc9 hc10 hc11 hc12 hc13; obtain ⟨hc0, hc1, hc2, hc3, hc4, hc5, hc6, hc7, hc8, hc9, hc10, hc11, hc12, hc13⟩ := cells14 hx5; have HB5 := Aside0.mk (below_step HB4.out hb5); have HX5 := Aside0.mk hx5; clear hb5 hx5))) | fail
  all_goals
    have h := HH.out
    clear HH
    by_cases q0 : 16 < l12.length
    · rw [if_pos q0] at h
      obtain rfl := Option.some.inj h
      have g0 : decide ((l12.length : Int) > 16) = true := decide_eq_true (by omega)
      have g0' : decide ((16 : Int) < (l12.length : Int)) = true := decide_eq_true (by omega)
      clear h q0
      go_wp2
      go_ret
      exact ⟨rfl, by repeat (first | exact HB5.out | refine below_alloc ?_ _ | refine Below.drew ?_)⟩
    rw [if_neg q0] at h
    have g0 : decide ((l12.length : Int) > 16) = false := decide_eq_false (by omega)
    have g0' : decide ((16 : Int) < (l12.length : Int)) = false := decide_eq_false (by omega)
    have HLE0 := Aside0.mk q0
    clear q0
    by_cases q1 : 16 < l10.length
    · rw [if_pos q1] at h
      obtain rfl := Option.some.inj h
      have g1 : decide ((l10.length : Int) > 16) = true := decide_eq_true (by omega)
      have g1' : decide ((16 : Int) < (l10.length : Int)) = true := decide_eq_true (by omega)
      clear h q1
      go_wp2
      go_ret
      exact ⟨rfl, by repeat (first | exact HB5.out | refine below_alloc ?_ _ | refine Below.drew ?_)⟩
    rw [if_neg q1] at h
    have g1 : decide ((l10.length : Int) > 16) = false := decide_eq_false (by omega)
    have g1' : decide ((16 : Int) < (l10.length : Int)) = false := decide_eq_false (by omega)
    have HLE1 := Aside0.mk q1
    clear q1
    by_cases q2 : 16 < l11.length
    · rw [if_pos q2] at h
      obtain rfl := Option.some.inj h
      have g2 : decide ((l11.length : Int) > 16) = true := decide_eq_true (by omega)
      have g2' : decide ((16 : Int) < (l11.length : Int)) = true := decide_eq_true (by omega)
      clear h q2
      go_wp2
      go_ret
      exact ⟨rfl, by repeat (first | exact HB5.out | refine below_alloc ?_ _ | refine Below.drew ?_)⟩
    rw [if_neg q2] at h
    have g2 : decide ((l11.length : Int) > 16) = false := decide_eq_false (by omega)
    have g2' : decide ((16 : Int) < (l11.length : Int)) = false := decide_eq_false (by omega)
    have HLE2 := Aside0.mk q2
    clear q2
    by_cases q3 : 1480 < l13.length
    · rw [if_pos q3] at h
      obtain rfl := Option.some.inj h
      have g3 : decide ((l13.length : Int) > 1480) = true := decide_eq_true (by omega)
      have g3' : decide ((1480 : Int) < (l13.length : Int)) = true := decide_eq_true (by omega)
      clear h q3
      go_wp2
      go_ret
      exact ⟨rfl, by repeat (first | exact HB5.out | refine below_alloc ?_ _ | refine Below.drew ?_)⟩
    rw [if_neg q3] at h
    have g3 : decide ((l13.length : Int) > 1480) = false := decide_eq_false (by omega)
    have g3' : decide ((1480 : Int) < (l13.length : Int)) = false := decide_eq_false (by omega)
    have HLE3 := Aside0.mk q3
    clear q3
    have HH := Aside0.mk h
    clear h
    go_wp2
    go_loopg [51] l12.length (fun kq v51 w' => ∃ i : Nat, v51 = .int .i64 (i : Int) ∧ Aside0 (kq + i = l12.length) ∧ Aside0 (∀ j, j < i → (rd_T48 l12 (j : Int)).f1.length ≤ 1480) ∧ Aside0 (Below w5.heap.size w5 w'))
    case atStart => exact ⟨0, rfl, ⟨rfl⟩, ⟨fun j hj => absurd hj (by omega)⟩, ⟨Below.refl _ _⟩⟩
    case round =>
      obtain ⟨i, rfl, HK, HALL, HBL⟩ := hrel
      have hx := blk_below HX5.out HBL.out
      clear hc0 hc1 hc2 hc3 hc4 hc5 hc6 hc7 hc8 hc9 hc10 hc11 hc12 hc13
      have hc0 : World.cell? _ ⟨pb, 0, none⟩ = some (.int .u8 t) := blk_cell hx 0
      have hc1 : World.cell? _ ⟨pb, 1, none⟩ = some (.int .u8 a1) := blk_cell hx 1
      have hc2 : World.cell? _ ⟨pb, 2, none⟩ = some (.int .u32 a2) := blk_cell hx 2
      have hc3 : World.cell? _ ⟨pb, 3, none⟩ = some (.int .u16 a3) := blk_cell hx 3
      have hc4 : World.cell? _ ⟨pb, 4, none⟩ = some (.int .u16 a4) := blk_cell hx 4
      have hc5 : World.cell? _ ⟨pb, 5, none⟩ = some (.int .u32 a5) := blk_cell hx 5
      have hc6 : World.cell? _ ⟨pb, 6, none⟩ = some (.int .u32 a6) := blk_cell hx 6
      have hc7 : World.cell? _ ⟨pb, 7, none⟩ = some (.int .u32 a7) := blk_cell hx 7
      have hc8 : World.cell? _ ⟨pb, 8, none⟩ = some (.int .u16 a8) := blk_cell hx 8
      have hc9 : World.cell? _ ⟨pb, 9, none⟩ = some (.int .u16 a9) := blk_cell hx 9
      have hc10 : World.cell? _ ⟨pb, 10, none⟩ = some (.slice A10 l10.length c10) := blk_cell hx 10
      have hc11 : World.cell? _ ⟨pb, 11, none⟩ = some (.slice A11 l11.length c11) := blk_cell hx 11
      have hc12 : World.cell? _ ⟨pb, 12, none⟩ = some (.slice A12 l12.length c12) := blk_cell hx 12
      have hc13 : World.cell? _ ⟨pb, 13, none⟩ = some (.slice A13 l13.length c13) := blk_cell hx 13
      have HXL := Aside0.mk hx
      have HBW := Aside0.mk (below_step HB5.out HBL.out)
      clear hx
      by_cases c4 : i < l12.length
      · have c4b0 : decide ((i : Int) < (l12.length : Int)) = true := decide_eq_true (by omega)
        have c4b1 : decide (i < l12.length) = true := decide_eq_true c4
        obtain ⟨ad, Ap, cp, e, hx0, hx1, hcp, hCp⟩ := at_T48 (Kd.C_below HR12.out HBW.out) (i : Int) (by omega) (by omega)
        subst e
        simp only [Int.toNat_natCast] at hx0 hx1
        have hi4n := eq_true c4
        have hi5 := eq_true (show (0 : Int) ≤ (i : Int) by omega)
        have hi4 := eq_true (show (i : Int) < (l12.length : Int) by omega)
        have hmax := HC12.out
        obtain ⟨q, hq⟩ : ∃ q, q = (rd_T48 l12 (i : Int)).f1 := ⟨_, rfl⟩
        rw [← hq] at hx1 hcp
        clear hCp hcp
        by_cases c6 : 1480 < q.length
        · have g6 : decide ((q.length : Int) > 1480) = true := decide_eq_true (by omega)
          have g6' : decide ((1480 : Int) < (q.length : Int)) = true := decide_eq_true (by omega)
          have h := HH.out
          rw [if_pos (List.any_eq_true.2 ⟨_, rd48_mem l12 i c4, decide_eq_true (by rw [← hq]; exact c6)⟩)] at h
          obtain rfl := Option.some.inj h
          clear h c6 hq
          go_wp2_with (first | ((with_reducible refine gate_dst (N := 6) rfl ?_); refine box_event ?hg (N := 6) ?hd (cs := #[.int .u16 0, .slice none 0 0]) (t := 48) ?hr ?_; (case hd => rfl); (case hg => rfl); (case hr => first | (go_simp; done) | (go_simp; rfl)); intro gp hgp wn hbox hb; have hz0 : wn.cell? ⟨gp, 0, none⟩ = some (.int .u16 0) := blk_cell hbox 0; have hz1 : wn.cell? ⟨gp, 1, none⟩ = some (.slice none 0 0) := blk_cell hbox 1; have hy0 : wn.frozen? ⟨gp, 0, none⟩ = false := blk_frozen hbox 0; have hy1 : wn.frozen? ⟨gp, 1, none⟩ = false := blk_frozen hbox 1; have HG0 := Aside0.mk (show w.heap.size ≤ gp by have := HBW.out.size; omega); have HG5 := Aside0.mk (show w5.heap.size ≤ gp by have := HBL.out.size; omega); have HBN := Aside0.mk (below_step HBW.out hb); have HBM := Aside0.mk (below_step HBL.out hb); clear hgp hbox hb))
          go_ret
          exact ⟨rfl, below_set (below_set HBN.out HG0.out) HG0.out⟩
        · have g6 : decide ((q.length : Int) > 1480) = false := decide_eq_false (by omega)
          have g6' : decide ((1480 : Int) < (q.length : Int)) = false := decide_eq_false (by omega)
          have HQL := Aside0.mk (show ∀ j, j < i + 1 → (rd_T48 l12 (j : Int)).f1.length ≤ 1480 from fun j hj => by
            by_cases e : j = i
            · subst e; rw [← hq]; omega
            · exact HALL.out j (by omega))
          have HC4 := Aside0.mk c4
          clear c6 hq
          go_wp2_with (first | ((with_reducible refine gate_dst (N := 6) rfl ?_); refine box_event ?hg (N := 6) ?hd (cs := #[.int .u16 0, .slice none 0 0]) (t := 48) ?hr ?_; (case hd => rfl); (case hg => rfl); (case hr => first | (go_simp; done) | (go_simp; rfl)); intro gp hgp wn hbox hb; have hz0 : wn.cell? ⟨gp, 0, none⟩ = some (.int .u16 0) := blk_cell hbox 0; have hz1 : wn.cell? ⟨gp, 1, none⟩ = some (.slice none 0 0) := blk_cell hbox 1; have hy0 : wn.frozen? ⟨gp, 0, none⟩ = false := blk_frozen hbox 0; have hy1 : wn.frozen? ⟨gp, 1, none⟩ = false := blk_frozen hbox 1; have HG0 := Aside0.mk (show w.heap.size ≤ gp by have := HBW.out.size; omega); have HG5 := Aside0.mk (show w5.heap.size ≤ gp by have := HBL.out.size; omega); have HBN := Aside0.mk (below_step HBW.out hb); have HBM := Aside0.mk (below_step HBL.out hb); clear hgp hbox hb))
          obtain ⟨k1, hk1⟩ : ∃ k1, gk = k1 + 1 := ⟨gk - 1, by have := HK.out; have := HC4.out; omega⟩
          go_roundg k1
          case measure => omega
          case rel => exact ⟨i + 1, (by have h1 := HLE0.out; have h2 := HC4.out; first | rfl | (congr 1; unfold wrap64; omega) | (congr 1; omega)), ⟨by have := HK.out; omega⟩, HQL, ⟨below_set (below_set HBM.out HG5.out) HG5.out⟩⟩
      · have c4b0 : decide ((i : Int) < (l12.length : Int)) = false := decide_eq_false (by omega)
        have c4b1 : decide (i < l12.length) = false := decide_eq_false c4
        have h := HH.out
        rw [if_neg (by rw [any48_false l12 (fun j hj => HALL.out j (by have := HK.out; omega))]; exact Bool.false_ne_true)] at h
        obtain ⟨b, hv, h⟩ := Option.bind_eq_some_iff.mp h
        have HV := Aside0.mk hv
        by_cases c8 : 1468 < b.length
        · rw [if_pos c8] at h
          have g8 : decide ((b.length : Int) > 1468) = true := decide_eq_true (by omega)
          have g8' : decide ((1468 : Int) < (b.length : Int)) = true := decide_eq_true (by omega)
          obtain rfl := Option.some.inj h
          clear h c8 c4 hv
          go_wp2
          first | (go_region_with (first | (go_at_call 25; (with_reducible refine (of_all 53 _ t _ HT.out ?hc0).mono ?_); (case hc0 => first | exact hc0 | exact pw_cell_below (below_alloc (Below.refl _ _) _) hc0); rintro e w8 ⟨rfl, hw⟩; have hw := hw.symm; subst hw) | (go_at_call 89; (first | (with_reducible refine (lay53A k pb t a1 a2 a3 a4 a5 a6 a7 a8 a9 A10 A11 A12 A13 c10 c11 c12 c13 l10 l11 l12 l13 b 0 0 0 0 _ HXL.out (Kd.C_below HR10.out HBW.out) HC10.out (Kd.C_below HR11.out HBW.out) HC11.out (Kd.C_below HR12.out HBW.out) HC12.out (Kd.C_below HR13.out HBW.out) HC13.out HV.out).mono ?_) | (with_reducible refine (lay53D k pb t a1 a2 a3 a4 a5 a6 a7 a8 a9 A10 A11 A12 A13 c10 c11 c12 c13 l10 l11 l12 l13 b 0 0 0 0 _ HXL.out (Kd.C_below HR10.out HBW.out) HC10.out (Kd.C_below HR11.out HBW.out) HC11.out (Kd.C_below HR12.out HBW.out) HC12.out (Kd.C_below HR13.out HBW.out) HC13.out HV.out).mono ?_)); rintro e w9 ⟨Ao, co, rfl, ho9, hb9⟩; have HB9 := Aside0.mk (below_step HBW.out hb9); have HO9 := Aside0.mk (Kd.R_lower ho9 HBW.out.size); clear ho9 hb9))) | fail
          all_goals go_wp2
          all_goals go_ret
          all_goals exact ⟨rfl, by repeat (first | exact HB9.out | refine below_alloc ?_ _ | refine Below.drew ?_)⟩
        · rw [if_neg c8] at h
          have g8 : decide ((b.length : Int) > 1468) = false := decide_eq_false (by omega)
          have g8' : decide ((1468 : Int) < (b.length : Int)) = false := decide_eq_false (by omega)
          obtain rfl := Option.some.inj h
          clear h c8 c4 hv
          go_wp2
          first | (go_region_with (first | (go_at_call 25; (with_reducible refine (of_all 53 _ t _ HT.out ?hc0).mono ?_); (case hc0 => first | exact hc0 | exact pw_cell_below (below_alloc (Below.refl _ _) _) hc0); rintro e w8 ⟨rfl, hw⟩; have hw := hw.symm; subst hw) | (go_at_call 89; (first | (with_reducible refine (lay53A k pb t a1 a2 a3 a4 a5 a6 a7 a8 a9 A10 A11 A12 A13 c10 c11 c12 c13 l10 l11 l12 l13 b 0 0 0 0 _ HXL.out (Kd.C_below HR10.out HBW.out) HC10.out (Kd.C_below HR11.out HBW.out) HC11.out (Kd.C_below HR12.out HBW.out) HC12.out (Kd.C_below HR13.out HBW.out) HC13.out HV.out).mono ?_) | (with_reducible refine (lay53D k pb t a1 a2 a3 a4 a5 a6 a7 a8 a9 A10 A11 A12 A13 c10 c11 c12 c13 l10 l11 l12 l13 b 0 0 0 0 _ HXL.out (Kd.C_below HR10.out HBW.out) HC10.out (Kd.C_below HR11.out HBW.out) HC11.out (Kd.C_below HR12.out HBW.out) HC12.out (Kd.C_below HR13.out HBW.out) HC13.out HV.out).mono ?_)); rintro e w9 ⟨Ao, co, rfl, ho9, hb9⟩; have HB9 := Aside0.mk (below_step HBW.out hb9); have HO9 := Aside0.mk (Kd.R_lower ho9 HBW.out.size); clear ho9 hb9))) | fail
          all_goals go_wp2
          all_goals go_ret
          all_goals exact ⟨rfl, by repeat (first | exact HB9.out | refine below_alloc ?_ _ | refine Below.drew ?_)⟩
end Go.Proofs.Ytaahkggbjpdofaa.M
