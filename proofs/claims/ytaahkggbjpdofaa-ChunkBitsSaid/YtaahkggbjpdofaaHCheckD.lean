/- chunk.bytes and chunk.Check at a piece of data. -/
import Derived.Test.YtaahkggbjpdofaaHCheck
import Derived.Test.YtaahkggbjpdofaaHLayD
import Derived.Test.YtaahkggbjpdofaaHStamp
import Derived.Test.YtaahkggbjpdofaaHPlainD
import Derived.WalkSpells
import Derived.LoopN
import Derived.Deep.RegionWith
namespace Go.Proofs.Ytaahkggbjpdofaa.M
open Go.RowKit Go.Proofs.YtaahkggbjpdofaaW.PrintWords Go.Proofs.YtaahkggbjpdofaaW.PrintLast Go.Proofs.YtaahkggbjpdofaaW.PrintMore
set_option linter.unusedVariables false
set_option linter.unusedSimpArgs false
attribute [local go_sem] as_53_53 as_53_80 as_53_81 as_53_82 as_53_83 as_53_85 as_80_53 as_80_80 as_80_81 as_80_82 as_80_83 as_80_85 as_81_53 as_81_80 as_81_81 as_81_82 as_81_83 as_81_85 as_82_53 as_82_80 as_82_81 as_82_82 as_82_83 as_82_85 as_83_53 as_83_80 as_83_81 as_83_82 as_83_83 as_83_85 as_84_53 as_84_80 as_84_81 as_84_82 as_84_83 as_84_85 as_85_53 as_85_80 as_85_81 as_85_82 as_85_83 as_85_85
attribute [local go_sem] ml_53 ml_80 ml_81 ml_82 ml_83 ml_84 ml_85
attribute [local go_sem] make4
attribute [local go_sem] na_53 na_80 na_81 na_82 na_83 na_84 na_85
theorem row4R (g B : Nat) (W : World) (a b c d : Int) (hB : B ≤ g) (h : W.heap[g]? = some (.cells #[.int .u8 a, .int .u8 b, .int .u8 c, .int .u8 d] 5 (0, 0))) : Kd.R (Kd.int .u8) 5 W B (fun _ => True) (.slice (some ⟨g, 0, none⟩) 4 4) [a, b, c, d] :=
  rowAt_R (cap := 4) (n := 4) (xs := [a, b, c, d]) ⟨[.int .u8 a, .int .u8 b, .int .u8 c, .int .u8 d], h, by decide, rfl, rfl, Nat.le_refl _, rfl⟩ hB
theorem len17 (r3 : List Int) (x : Int) (h : r3.length = 16) : (r3 ++ [x]).length = 17 := by rw [List.length_append, h]; rfl
theorem lay_dataW (k g : Nat) (ty a a1 a2 a3 a4 a5 a6 a7 a8 a9 x : Int) (A10 A11 A12 A13 : Option Addr) (n10 n11 n12 c10 c11 c12 c13 : Nat) (r1 r2 r3 : List Int) (w1 W : World) (hW : Below w1.heap.size w1 W)
    (hh : W.heap[w1.heap.size]? = some (.cells #[.int .u8 0, .int .u8 a, .int .u8 0, .int .u8 0] 5 (0, 0)))
    (hx : w1.heap[g]? = some (.cells #[.int .u8 ty, .int .u8 a1, .int .u32 a2, .int .u16 a3, .int .u16 a4, .int .u32 a5, .int .u32 a6, .int .u32 a7, .int .u16 a8, .int .u16 a9, .slice A10 n10 c10, .slice A11 n11 c11, .slice A12 n12 c12, .slice A13 1 c13] 29 (0, 0))) (hr13 : Kd.C (Kd.int .u8) w1 A13 1 [x]) (hc13' : 1 ≤ c13)
    (h1 : chunk_lay.f k [0, a, 0, 0] 4 [wrap64 a2] = some r1) (h2 : chunk_lay.f k r1 2 [IntKind.i64.wrap a3, IntKind.i64.wrap a4] = some r2) (h3 : chunk_lay.f k r2 4 [IntKind.i64.wrap a5] = some r3) (hl : r3.length = 16) :
    Calls Try.prog 89 #[.agg #[.pointer (some ⟨g, 0, none⟩)], .slice (some ⟨w1.heap.size, 0, none⟩) 4 4] W fun e w' => ∃ Ao co, e = .returned (.slice Ao 17 co) ∧ Kd.R (Kd.int .u8) 5 w' w1.heap.size (fun _ => True) (.slice Ao 17 co) (r3 ++ [x]) ∧ Below w1.heap.size w1 w' := by
  refine (lay_data k g ty a1 a2 a3 a4 a5 a6 a7 a8 a9 A10 A11 A12 A13 n10 n11 n12 c10 c11 c12 c13 [x] [0, a, 0, 0] r1 r2 r3 _ w1 W hW hx (row4R _ _ _ _ _ _ _ (Nat.le_refl _) hh) hr13 hc13' h1 h2 h3 (by rw [hl]; show 16 + 1 < 140737488355328; decide)).mono ?_
  rintro e w9 ⟨v9, rfl, ho9, hb9⟩
  obtain ⟨Ao, co, eo⟩ := Kd.R_slice ho9
  rw [len17 r3 x hl] at eo
  subst eo
  exact ⟨Ao, co, rfl, ho9, hb9⟩
theorem lay_dataA (k g : Nat) (ty a a1 a2 a3 a4 a5 a6 a7 a8 a9 x : Int) (A10 A11 A12 A13 : Option Addr) (n10 n11 n12 c10 c11 c12 c13 : Nat) (r1 r2 r3 : List Int) (w1 : World)
    (hx : w1.heap[g]? = some (.cells #[.int .u8 ty, .int .u8 a1, .int .u32 a2, .int .u16 a3, .int .u16 a4, .int .u32 a5, .int .u32 a6, .int .u32 a7, .int .u16 a8, .int .u16 a9, .slice A10 n10 c10, .slice A11 n11 c11, .slice A12 n12 c12, .slice A13 1 c13] 29 (0, 0))) (hr13 : Kd.C (Kd.int .u8) w1 A13 1 [x]) (hc13' : 1 ≤ c13)
    (h1 : chunk_lay.f k [0, a, 0, 0] 4 [wrap64 a2] = some r1) (h2 : chunk_lay.f k r1 2 [IntKind.i64.wrap a3, IntKind.i64.wrap a4] = some r2) (h3 : chunk_lay.f k r2 4 [IntKind.i64.wrap a5] = some r3) (hl : r3.length = 16) :
    Calls Try.prog 89 #[.agg #[.pointer (some ⟨g, 0, none⟩)], .slice (some ⟨w1.heap.size, 0, none⟩) 4 4] (w1.alloc (.cells #[.int .u8 0, .int .u8 a, .int .u8 0, .int .u8 0] 5 (0, 0))) fun e w' => ∃ Ao co, e = .returned (.slice Ao 17 co) ∧ Kd.R (Kd.int .u8) 5 w' w1.heap.size (fun _ => True) (.slice Ao 17 co) (r3 ++ [x]) ∧ Below w1.heap.size w1 w' :=
  lay_dataW k g ty a a1 a2 a3 a4 a5 a6 a7 a8 a9 x A10 A11 A12 A13 n10 n11 n12 c10 c11 c12 c13 r1 r2 r3 w1 _ (below_alloc (Below.refl _ _) _) (blk_new w1 _) hx hr13 hc13' h1 h2 h3 hl
theorem lay_dataD (k g : Nat) (ty a a1 a2 a3 a4 a5 a6 a7 a8 a9 x : Int) (A10 A11 A12 A13 : Option Addr) (n10 n11 n12 c10 c11 c12 c13 : Nat) (r1 r2 r3 : List Int) (w1 : World)
    (hx : w1.heap[g]? = some (.cells #[.int .u8 ty, .int .u8 a1, .int .u32 a2, .int .u16 a3, .int .u16 a4, .int .u32 a5, .int .u32 a6, .int .u32 a7, .int .u16 a8, .int .u16 a9, .slice A10 n10 c10, .slice A11 n11 c11, .slice A12 n12 c12, .slice A13 1 c13] 29 (0, 0))) (hr13 : Kd.C (Kd.int .u8) w1 A13 1 [x]) (hc13' : 1 ≤ c13)
    (h1 : chunk_lay.f k [0, a, 0, 0] 4 [wrap64 a2] = some r1) (h2 : chunk_lay.f k r1 2 [IntKind.i64.wrap a3, IntKind.i64.wrap a4] = some r2) (h3 : chunk_lay.f k r2 4 [IntKind.i64.wrap a5] = some r3) (hl : r3.length = 16) :
    Calls Try.prog 89 #[.agg #[.pointer (some ⟨g, 0, none⟩)], .slice (some ⟨w1.heap.size, 0, none⟩) 4 4] (w1.alloc (.cells #[.int .u8 0, .int .u8 a, .int .u8 0, .int .u8 0] 5 (0, 0))).drew fun e w' => ∃ Ao co, e = .returned (.slice Ao 17 co) ∧ Kd.R (Kd.int .u8) 5 w' w1.heap.size (fun _ => True) (.slice Ao 17 co) (r3 ++ [x]) ∧ Below w1.heap.size w1 w' :=
  lay_dataW k g ty a a1 a2 a3 a4 a5 a6 a7 a8 a9 x A10 A11 A12 A13 n10 n11 n12 c10 c11 c12 c13 r1 r2 r3 w1 _ (below_alloc (Below.refl _ _) _).drew (blk_new w1 _) hx hr13 hc13' h1 h2 h3 hl
theorem set17 (k : Nat) (A : Option Addr) (c : Nat) (l r1 : List Int) (r2 : Int) (w0 W w1 : World) (hl : l.length = 17) (h : octet_Set.f k l 2 17 2 = some (r1, r2)) (hR : Kd.R (Kd.int .u8) 5 w1 w0.heap.size (fun _ => True) (.slice A 17 c) l) (hB : Below w0.heap.size w0 w1) (hW : Below w1.heap.size w1 W) :
    Calls Try.prog 48 #[.slice A 17 c, .int .i64 2, .int .u64 17, .int .i64 2] W fun e w' => ∃ v, e = .returned (.tuple #[v, .int .i64 r2]) ∧ Kd.R (Kd.int .u8) 5 w' w0.heap.size (fun _ => True) v r1 ∧ Below w0.heap.size w0 w' := by
  obtain ⟨_, hc, hC⟩ := Kd.R_reads' hR
  rw [← hl] at hc ⊢
  have hB' := below_step hB hW
  refine (octet_Set.calls k A c l 2 17 2 r1 r2 W (Kd.C_below hC hW) hc h).mono ?_
  rintro e w' ⟨v, rfl, ho, hb⟩
  exact ⟨v, rfl, Kd.R_lower ho hB'.size, below_step hB' hb⟩
set_option maxHeartbeats 4000000 in
set_option maxRecDepth 100000 in
theorem bytes_data (k : Nat) (a1 a2 a3 a4 a5 a6 a7 a8 a9 x : Int) (A10 A11 A12 A13 : Option Addr) (n10 n11 n12 c10 c11 c12 c13 : Nat) (r1 r2 r3 q1 : List Int) (q2 : Int) (w : World) (hr13 : Kd.C (Kd.int .u8) w A13 1 [x]) (hc13' : 1 ≤ c13) (h1 : chunk_lay.f k [0, a1, 0, 0] 4 [wrap64 a2] = some r1) (h2 : chunk_lay.f k r1 2 [IntKind.i64.wrap a3, IntKind.i64.wrap a4] = some r2) (h3 : chunk_lay.f k r2 4 [IntKind.i64.wrap a5] = some r3) (hl : r3.length = 16) (h : octet_Set.f k (r3 ++ [x]) 2 17 2 = some (q1, q2)) :
    Calls Try.prog 31 #[.agg #[.int .u8 0, .int .u8 a1, .int .u32 a2, .int .u16 a3, .int .u16 a4, .int .u32 a5, .int .u32 a6, .int .u32 a7, .int .u16 a8, .int .u16 a9, .slice A10 n10 c10, .slice A11 n11 c11, .slice A12 n12 c12, .slice A13 1 c13]] w fun e w' => ∃ v0_ : Value, e = .returned v0_ ∧ Kd.R (Kd.int .u8) 5 w' w.heap.size (fun _ => True) v0_ q1 ∧ Below w.heap.size w w' := by
  have HF := Aside0.mk h
  have HR := Aside0.mk hr13
  have HC := Aside0.mk hc13'
  have H1 := Aside0.mk h1
  have H2 := Aside0.mk h2
  have H3 := Aside0.mk h3
  have HL := Aside0.mk hl
  clear hr13 hc13' h1 h2 h3 hl h
  go_enter Try.func31, Try.ntmps31
  go_wp2_with (first | ((with_reducible refine gate_dst (N := 1) rfl ?_); refine box_event ?hg (N := 1) ?hd (cs := #[.int .u8 0, .int .u8 a1, .int .u32 a2, .int .u16 a3, .int .u16 a4, .int .u32 a5, .int .u32 a6, .int .u32 a7, .int .u16 a8, .int .u16 a9, .slice A10 n10 c10, .slice A11 n11 c11, .slice A12 n12 c12, .slice A13 1 c13]) (t := 29) ?hr ?_; (case hd => rfl); (case hg => rfl); (case hr => first | (go_simp; done) | (go_simp; rfl)); intro pb hg0 w1 hbox0 hb0; have hc0 : w1.cell? ⟨pb, 0, none⟩ = some (.int .u8 0) := blk_cell hbox0 0; have hc1 : w1.cell? ⟨pb, 1, none⟩ = some (.int .u8 a1) := blk_cell hbox0 1; have HX := Aside0.mk hbox0; have HB := Aside0.mk hb0; clear hg0 hbox0 hb0))
  first | (go_region_with (first | (go_at_call 25; (with_reducible refine (of_data _ _ ?hc0).mono ?_); (case hc0 => first | exact hc0 | exact pw_cell_below (below_alloc (Below.refl _ _) _) hc0); rintro e w2 ⟨rfl, hw2⟩; subst hw2) | (go_at_call 89; (first | (with_reducible refine (lay_dataA k pb 0 a1 a1 a2 a3 a4 a5 a6 a7 a8 a9 x A10 A11 A12 A13 n10 n11 n12 c10 c11 c12 c13 r1 r2 r3 w1 HX.out (Kd.C_below HR.out HB.out) HC.out H1.out H2.out H3.out HL.out).mono ?_) | (with_reducible refine (lay_dataD k pb 0 a1 a1 a2 a3 a4 a5 a6 a7 a8 a9 x A10 A11 A12 A13 n10 n11 n12 c10 c11 c12 c13 r1 r2 r3 w1 HX.out (Kd.C_below HR.out HB.out) HC.out H1.out H2.out H3.out HL.out).mono ?_)); rintro e w9 ⟨Ao, co, rfl, ho9, hb9⟩; have HB9 := Aside0.mk (below_step HB.out hb9); have HO9 := Aside0.mk (Kd.R_lower ho9 HB.out.size); clear ho9 hb9))) | fail
  all_goals
    go_wp2_with (first | (go_at_call 48; (with_reducible refine (set17 k Ao co (r3 ++ [x]) q1 q2 w _ _ (len17 r3 x HL.out) HF.out HO9.out HB9.out (by first | exact Below.refl _ _ | exact (Below.refl _ _).drew)).mono ?_); rintro e w5 ⟨v5, rfl, ho5, hb5⟩; have HB5 := Aside0.mk hb5; have HO5 := Aside0.mk ho5; clear ho5 hb5))
    go_ret
    exact ⟨_, rfl, HO5.out, HB5.out⟩
#print axioms bytes_data
set_option maxHeartbeats 8000000 in
set_option maxRecDepth 100000 in
theorem check_data (k : Nat) (a1 a2 a3 a4 a5 x : Int) (A10 A11 A12 A13 : Option Addr) (c10 c11 c12 c13 : Nat) (r1 r2 r3 : List Int) (w : World) (hr13 : Kd.C (Kd.int .u8) w A13 1 [x]) (hc13' : 1 ≤ c13) (h1 : chunk_lay.f k [0, 0, 0, 0] 4 [wrap64 a2] = some r1) (h2 : chunk_lay.f k r1 2 [IntKind.i64.wrap a3, IntKind.i64.wrap a4] = some r2) (h3 : chunk_lay.f k r2 4 [IntKind.i64.wrap a5] = some r3) (hl : r3.length = 16) :
    Calls Try.prog 12 #[.agg #[.int .u8 0, .int .u8 a1, .int .u32 a2, .int .u16 a3, .int .u16 a4, .int .u32 a5, .int .u32 0, .int .u32 0, .int .u16 0, .int .u16 0, .slice A10 0 c10, .slice A11 0 c11, .slice A12 0 c12, .slice A13 1 c13]] w fun e w' => e = .returned (.int .i64 0) ∧ Below w.heap.size w w' := by
  have HR := Aside0.mk hr13
  have HC := Aside0.mk hc13'
  have H1 := Aside0.mk h1
  have H2 := Aside0.mk h2
  have H3 := Aside0.mk h3
  have HL := Aside0.mk hl
  clear hr13 hc13' h1 h2 h3 hl
  go_enter Try.func12, Try.ntmps12
  go_wp2_with (first | ((with_reducible refine gate_dst (N := 1) rfl ?_); refine box_event ?hg (N := 1) ?hd (cs := #[.int .u8 0, .int .u8 a1, .int .u32 a2, .int .u16 a3, .int .u16 a4, .int .u32 a5, .int .u32 0, .int .u32 0, .int .u16 0, .int .u16 0, .slice A10 0 c10, .slice A11 0 c11, .slice A12 0 c12, .slice A13 1 c13]) (t := 29) ?hr ?_; (case hd => rfl); (case hg => rfl); (case hr => first | (go_simp; done) | (go_simp; rfl)); intro pb hg0 w1 hbox0 hb0; have hc0 : w1.cell? ⟨pb, 0, none⟩ = some (.int .u8 0) := blk_cell hbox0 0; have HX := Aside0.mk hbox0; have HG := Aside0.mk hg0; have HB := Aside0.mk hb0; clear hg0 hbox0 hb0) | ((with_reducible refine gate_dst (N := 3) rfl ?_); refine box_event ?hg (N := 3) ?hd (cs := #[.pointer none]) (t := 53) ?hr ?_; (case hd => rfl); (case hg => rfl); (case hr => first | (go_simp; done) | (go_simp; rfl)); intro p3 hg3 w3 hbox3 hb3; have hx3 := blk_below HX.out hb3; have hlt3 := blk_lt HX.out; have hne : pb ≠ p3 := (by omega); have hne' : p3 ≠ pb := (by omega); have HP3 := Aside0.mk (show w.heap.size ≤ p3 by have := HB.out.size; omega); clear hc0 hlt3; have hc0 : w3.cell? ⟨pb, 0, none⟩ = some (.int .u8 0) := blk_cell hx3 0; have hc1 : w3.cell? ⟨pb, 1, none⟩ = some (.int .u8 a1) := blk_cell hx3 1; have hc2 : w3.cell? ⟨pb, 2, none⟩ = some (.int .u32 a2) := blk_cell hx3 2; have hc3 : w3.cell? ⟨pb, 3, none⟩ = some (.int .u16 a3) := blk_cell hx3 3; have hc4 : w3.cell? ⟨pb, 4, none⟩ = some (.int .u16 a4) := blk_cell hx3 4; have hc5 : w3.cell? ⟨pb, 5, none⟩ = some (.int .u32 a5) := blk_cell hx3 5; have hc6 : w3.cell? ⟨pb, 6, none⟩ = some (.int .u32 0) := blk_cell hx3 6; have hc7 : w3.cell? ⟨pb, 7, none⟩ = some (.int .u32 0) := blk_cell hx3 7; have hc8 : w3.cell? ⟨pb, 8, none⟩ = some (.int .u16 0) := blk_cell hx3 8; have hc9 : w3.cell? ⟨pb, 9, none⟩ = some (.int .u16 0) := blk_cell hx3 9; have hc10 : w3.cell? ⟨pb, 10, none⟩ = some (.slice A10 0 c10) := blk_cell hx3 10; have hc11 : w3.cell? ⟨pb, 11, none⟩ = some (.slice A11 0 c11) := blk_cell hx3 11; have hc12 : w3.cell? ⟨pb, 12, none⟩ = some (.slice A12 0 c12) := blk_cell hx3 12; have hc13 : w3.cell? ⟨pb, 13, none⟩ = some (.slice A13 1 c13) := blk_cell hx3 13; have hd0 : w3.cell? ⟨p3, 0, none⟩ = some (.pointer none) := blk_cell hbox3 0; have hf0 : w3.frozen? ⟨p3, 0, none⟩ = false := blk_frozen hbox3 0; have HB3 := Aside0.mk (below_step HB.out hb3); have HX3 := Aside0.mk hx3; clear hg3 hbox3 hb3 hx3) | (go_at_call 25; (with_reducible refine (of_data _ _ ?hc0).mono ?_); (case hc0 => first | exact hc0 | exact pw_cell_below (below_alloc (Below.refl _ _) _) hc0); rintro e w2 ⟨rfl, hw2⟩; subst hw2))
  first | (go_region_with (first | (go_at_call 27; (with_reducible refine (plain_data ..).mono ?_); rintro e w4 ⟨rfl, hb4⟩; have hx4 := blk_below (w := (w3.setCell ⟨p3, 0, none⟩ (.pointer (some ⟨pb, 0, none⟩))).drew) ((Below.heap_setCell w3 ⟨p3, 0, none⟩ (.pointer (some ⟨pb, 0, none⟩)) pb hne).trans HX3.out) hb4; clear hc0 hc1 hc2 hc3 hc4 hc5 hc6 hc7 hc8 hc9 hc10 hc11 hc12 hc13; have hc0 : w4.cell? ⟨pb, 0, none⟩ = some (.int .u8 0) := blk_cell hx4 0; have hc1 : w4.cell? ⟨pb, 1, none⟩ = some (.int .u8 a1) := blk_cell hx4 1; have hc2 : w4.cell? ⟨pb, 2, none⟩ = some (.int .u32 a2) := blk_cell hx4 2; have hc3 : w4.cell? ⟨pb, 3, none⟩ = some (.int .u16 a3) := blk_cell hx4 3; have hc4 : w4.cell? ⟨pb, 4, none⟩ = some (.int .u16 a4) := blk_cell hx4 4; have hc5 : w4.cell? ⟨pb, 5, none⟩ = some (.int .u32 a5) := blk_cell hx4 5; have hc6 : w4.cell? ⟨pb, 6, none⟩ = some (.int .u32 0) := blk_cell hx4 6; have hc7 : w4.cell? ⟨pb, 7, none⟩ = some (.int .u32 0) := blk_cell hx4 7; have hc8 : w4.cell? ⟨pb, 8, none⟩ = some (.int .u16 0) := blk_cell hx4 8; have hc9 : w4.cell? ⟨pb, 9, none⟩ = some (.int .u16 0) := blk_cell hx4 9; have hc10 : w4.cell? ⟨pb, 10, none⟩ = some (.slice A10 0 c10) := blk_cell hx4 10; have hc11 : w4.cell? ⟨pb, 11, none⟩ = some (.slice A11 0 c11) := blk_cell hx4 11; have hc12 : w4.cell? ⟨pb, 12, none⟩ = some (.slice A12 0 c12) := blk_cell hx4 12; have hc13 : w4.cell? ⟨pb, 13, none⟩ = some (.slice A13 1 c13) := blk_cell hx4 13; have HB4 := Aside0.mk (below_step (below_set (j := 0) (v := .pointer (some ⟨pb, 0, none⟩)) HB3.out HP3.out).drew hb4); have HX4 := Aside0.mk hx4; clear hb4 hx4) | (go_at_call 26; (with_reducible refine (alike_same ..).mono ?_); rintro e w5 ⟨rfl, hb5⟩; have hx5 := blk_below HX4.out hb5; clear hc0 hc1 hc2 hc3 hc4 hc5 hc6 hc7 hc8 hc9 hc10 hc11 hc12 hc13; have hc0 : w5.cell? ⟨pb, 0, none⟩ = some (.int .u8 0) := blk_cell hx5 0; have hc1 : w5.cell? ⟨pb, 1, none⟩ = some (.int .u8 a1) := blk_cell hx5 1; have hc2 : w5.cell? ⟨pb, 2, none⟩ = some (.int .u32 a2) := blk_cell hx5 2; have hc3 : w5.cell? ⟨pb, 3, none⟩ = some (.int .u16 a3) := blk_cell hx5 3; have hc4 : w5.cell? ⟨pb, 4, none⟩ = some (.int .u16 a4) := blk_cell hx5 4; have hc5 : w5.cell? ⟨pb, 5, none⟩ = some (.int .u32 a5) := blk_cell hx5 5; have hc6 : w5.cell? ⟨pb, 6, none⟩ = some (.int .u32 0) := blk_cell hx5 6; have hc7 : w5.cell? ⟨pb, 7, none⟩ = some (.int .u32 0) := blk_cell hx5 7; have hc8 : w5.cell? ⟨pb, 8, none⟩ = some (.int .u16 0) := blk_cell hx5 8; have hc9 : w5.cell? ⟨pb, 9, none⟩ = some (.int .u16 0) := blk_cell hx5 9; have hc10 : w5.cell? ⟨pb, 10, none⟩ = some (.slice A10 0 c10) := blk_cell hx5 10; have hc11 : w5.cell? ⟨pb, 11, none⟩ = some (.slice A11 0 c11) := blk_cell hx5 11; have hc12 : w5.cell? ⟨pb, 12, none⟩ = some (.slice A12 0 c12) := blk_cell hx5 12; have hc13 : w5.cell? ⟨pb, 13, none⟩ = some (.slice A13 1 c13) := blk_cell hx5 13; have HB5 := Aside0.mk (below_step HB4.out hb5); have HX5 := Aside0.mk hx5; clear hb5 hx5))) | fail
  all_goals
    go_wp2
    refine wp_loop_rounds 1 ?_
    rw [rounds_succ]
    go_wp2
    first | (go_region_with (first | (go_at_call 25; (with_reducible refine (of_data _ _ ?hc0).mono ?_); (case hc0 => first | exact hc0 | exact pw_cell_below (below_alloc (Below.refl _ _) _) hc0); rintro e w8 ⟨rfl, hw8⟩; subst hw8) | (go_at_call 89; (first | (with_reducible refine (lay_dataA k pb 0 0 a1 a2 a3 a4 a5 0 0 0 0 x A10 A11 A12 A13 0 0 0 c10 c11 c12 c13 r1 r2 r3 w5 HX5.out (Kd.C_below HR.out HB5.out) HC.out H1.out H2.out H3.out HL.out).mono ?_) | (with_reducible refine (lay_dataD k pb 0 0 a1 a2 a3 a4 a5 0 0 0 0 x A10 A11 A12 A13 0 0 0 c10 c11 c12 c13 r1 r2 r3 w5 HX5.out (Kd.C_below HR.out HB5.out) HC.out H1.out H2.out H3.out HL.out).mono ?_)); rintro e w9 ⟨Ao, co, rfl, ho9, hb9⟩; have HB9 := Aside0.mk (below_step HB5.out hb9); have HO9 := Aside0.mk (Kd.R_lower ho9 HB5.out.size); clear ho9 hb9))) | fail
    all_goals go_wp2
    all_goals go_ret
    all_goals exact ⟨rfl, by repeat (first | exact HB9.out | refine below_alloc ?_ _ | refine Below.drew ?_)⟩
#print axioms check_data
end Go.Proofs.Ytaahkggbjpdofaa.M
