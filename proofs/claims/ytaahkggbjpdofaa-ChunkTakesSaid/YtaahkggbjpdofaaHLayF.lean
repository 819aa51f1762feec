/- What an INIT and a SACK have behind their length, as bytes. -/
import Derived.Test.YtaahkggbjpdofaaHLayP
import Derived.WalkSpells
import Derived.LoopN
import Derived.Deep.RegionLaw
namespace Go.Proofs.Ytaahkggbjpdofaa.M
open Go.RowKit Go.Proofs.YtaahkggbjpdofaaW.PrintWords Go.Proofs.YtaahkggbjpdofaaW.PrintLast Go.Proofs.YtaahkggbjpdofaaW.PrintMore
set_option linter.unusedVariables false
set_option linter.unusedSimpArgs false
theorem region_cut {P : Program} {c : Code} {a : Act} {w : World} {K : Act → World → Prop} {Q : Exit → Act → World → Prop} (F : Act → World → Prop) (h : ∀ K1 : Act → World → Prop, Aside0 (∀ a' w', F a' w' → K1 a' w') → c.wp P (Exit.then K1 Q) a w) (k : ∀ a' w', F a' w' → K a' w') : c.wp P (Exit.then K Q) a w :=
  h K ⟨k⟩
def chunk_first.f (k : Nat) (a2 a6 a7 a8 a9 : Int) (l12 : List S48) (l0 : List Int) : Option (List Int) :=
  (chunk_lay.f k l0 4 [IntKind.i64.wrap a6, IntKind.i64.wrap a7]).bind fun r1 => (chunk_lay.f k r1 2 [IntKind.i64.wrap a8, IntKind.i64.wrap a9]).bind fun r2 => (chunk_lay.f k r2 4 [IntKind.i64.wrap a2]).bind fun r3 => chunk_layParams.f k r3 l12
set_option maxHeartbeats 4000000 in
set_option maxRecDepth 100000 in
theorem lay_first (k g : Nat) (t a1 a2 a3 a4 a5 a6 a7 a8 a9 : Int) (A10 A11 A12 A13 : Option Addr) (c10 c11 c12 c13 : Nat) (l10 : List S101) (l11 : List Int) (l12 : List S48) (l13 l0 r : List Int) (u : Value) (w0 w : World) (hB : Below w0.heap.size w0 w) (hx : w0.heap[g]? = some (.cells #[.int .u8 t, .int .u8 a1, .int .u32 a2, .int .u16 a3, .int .u16 a4, .int .u32 a5, .int .u32 a6, .int .u32 a7, .int .u16 a8, .int .u16 a9, .slice A10 l10.length c10, .slice A11 l11.length c11, .slice A12 l12.length c12, .slice A13 l13.length c13] 29 (0, 0))) (ho : Kd.R (Kd.int .u8) 5 w w0.heap.size (fun _ => True) u l0) (hr10 : Kd.C k101 w0 A10 l10.length l10) (hc10' : l10.length ≤ c10) (hr11 : Kd.C (Kd.int .u32) w0 A11 l11.length l11) (hc11' : l11.length ≤ c11) (hr12 : Kd.C k48 w0 A12 l12.length l12) (hc12' : l12.length ≤ c12) (hr13 : Kd.C (Kd.int .u8) w0 A13 l13.length l13) (hc13' : l13.length ≤ c13) (h : chunk_first.f k a2 a6 a7 a8 a9 l12 l0 = some r) :
    Calls Try.prog 93 #[.agg #[.pointer (some ⟨g, 0, none⟩)], u] w fun e w' => ∃ v, e = .returned v ∧ Kd.R (Kd.int .u8) 5 w' w0.heap.size (fun _ => True) v r ∧ Below w0.heap.size w0 w' := by
  have HB := Aside0.mk hB
  have HX := Aside0.mk hx
  have HO := Aside0.mk (show Kd.R (Kd.int .u8) 5 w w0.heap.size (fun k_ => k_ ≠ w.heap.size) u l0 from Kd.R_of_own (enc := Value.int .u8) (h1 := fun _ => rfl) (Kd.own_of_R ho) (fun k_ hk => by have := own_lt (Kd.own_of_R ho) k_ hk; omega))
  have HR10 := Aside0.mk hr10
  have HC10 := Aside0.mk hc10'
  have HR11 := Aside0.mk hr11
  have HC11 := Aside0.mk hc11'
  have HR12 := Aside0.mk hr12
  have HC12 := Aside0.mk hc12'
  have HR13 := Aside0.mk hr13
  have HC13 := Aside0.mk hc13'
  clear hB hx ho hr10 hc10' hr11 hc11' hr12 hc12' hr13 hc13'
  unfold chunk_first.f at h
  obtain ⟨r1, h1, h⟩ := Option.bind_eq_some_iff.mp h
  obtain ⟨r2, h2, h⟩ := Option.bind_eq_some_iff.mp h
  obtain ⟨r3, h3, h⟩ := Option.bind_eq_some_iff.mp h
  have H1 := Aside0.mk h1
  have H2 := Aside0.mk h2
  have H3 := Aside0.mk h3
  have H4 := Aside0.mk h
  clear h h1 h2 h3
  go_enter Try.func93, Try.ntmps93
  go_wp2_with (first | ((with_reducible refine gate_dst (N := 2) rfl ?_); refine box_event ?hg (N := 2) ?hd (cs := #[.pointer (some ⟨g, 0, none⟩)]) (t := 80) ?hr ?_; (case hd => rfl); (case hg => rfl); (case hr => first | (go_simp; done) | (go_simp; rfl)); intro p2 hg0 w1 hbox0 hb0; rw [← hg0] at HO; have hB1 := below_step HB.out hb0; have hx1 := blk_below HX.out hB1; have hc6 : w1.cell? ⟨g, 6, none⟩ = some (.int .u32 a6) := blk_cell hx1 6; have hc7 : w1.cell? ⟨g, 7, none⟩ = some (.int .u32 a7) := blk_cell hx1 7; have hc8 : w1.cell? ⟨g, 8, none⟩ = some (.int .u16 a8) := blk_cell hx1 8; have hc9 : w1.cell? ⟨g, 9, none⟩ = some (.int .u16 a9) := blk_cell hx1 9; have hc2 : w1.cell? ⟨g, 2, none⟩ = some (.int .u32 a2) := blk_cell hx1 2; have hc12 : w1.cell? ⟨g, 12, none⟩ = some (.slice A12 l12.length c12) := blk_cell hx1 12; have hp0 : w1.cell? ⟨p2, 0, none⟩ = some (.pointer (some ⟨g, 0, none⟩)) := blk_cell hbox0 0; have HB1 := Aside0.mk hB1; have HP1 := Aside0.mk hbox0; have HO1 := Aside0.mk (Kd.R_below HO.out hb0); clear hg0 hbox0 hb0 hB1 hx1))
  obtain ⟨F3, hF⟩ : ∃ F : Act → World → Prop, ∀ a' w', F a' w' ↔ ∃ v x0 x3 x5 x6 x7 x8 x9 x10 x11 x12 x13 x14 x15 x16 x17 x18 x19 x20 x21 x22 x23 x24 x25 x26 x27 x28 x29 x30 x31 x32 x33 x34 x35 x36 x37 x38 x39 x40 x41 x42 x43 x44 x45 x46 x47 x48 x49 : Value, a' = { tmps := #[x0, v, .pointer (some ⟨p2, 0, none⟩), x3, .slice none 0 0, x5, x6, x7, x8, x9, x10, x11, x12, x13, x14, x15, x16, x17, x18, x19, x20, x21, x22, x23, x24, x25, x26, x27, x28, x29, x30, x31, x32, x33, x34, x35, x36, x37, x38, x39, x40, x41, x42, x43, x44, x45, x46, x47, x48, x49], defers := [] } ∧ Kd.R (Kd.int .u8) 5 w' w0.heap.size (fun k_ => k_ ≠ p2) v r1 ∧ Below w0.heap.size w0 w' ∧ w'.heap[p2]? = some (.cells #[.pointer (some ⟨g, 0, none⟩)] 80 (0, 0)) := ⟨_, fun _ _ => Iff.rfl⟩
  have HF := Aside0.mk hF
  clear hF
  refine region_cut F3 ?_ ?_
  · intro K1 HQ
    first | (go_region_with (first | (go_at_call 32; (with_reducible refine (lay_twod k p2 4 (IntKind.i64.wrap a6) (IntKind.i64.wrap a7) l0 r1 u w0 w1 HB1.out (blk_lt HP1.out) HO1.out H1.out).mono ?_); rintro e wn ⟨vn, rfl, ho, hb, hk⟩; have hp := hk.trans HP1.out; have HBn := Aside0.mk hb; have HPn := Aside0.mk hp; have HOn := Aside0.mk ho; clear hb hp ho hk; have hx := blk_below HX.out HBn.out; clear hc6 hc7 hc8 hc9 hc2 hc12 hp0; have hc6 : wn.cell? ⟨g, 6, none⟩ = some (.int .u32 a6) := blk_cell hx 6; have hc7 : wn.cell? ⟨g, 7, none⟩ = some (.int .u32 a7) := blk_cell hx 7; have hc8 : wn.cell? ⟨g, 8, none⟩ = some (.int .u16 a8) := blk_cell hx 8; have hc9 : wn.cell? ⟨g, 9, none⟩ = some (.int .u16 a9) := blk_cell hx 9; have hc2 : wn.cell? ⟨g, 2, none⟩ = some (.int .u32 a2) := blk_cell hx 2; have hc12 : wn.cell? ⟨g, 12, none⟩ = some (.slice A12 l12.length c12) := blk_cell hx 12; have hp0 : wn.cell? ⟨p2, 0, none⟩ = some (.pointer (some ⟨g, 0, none⟩)) := blk_cell HPn.out 0; clear hx))) | fail
    all_goals exact HQ.out _ _ ((HF.out _ _).2 ⟨vn, _, _, _, _, _, _, _, _, _, _, _, _, _, _, _, _, _, _, _, _, _, _, _, _, _, _, _, _, _, _, _, _, _, _, _, _, _, _, _, _, _, _, _, _, _, _, _, rfl, HOn.out, HBn.out, HPn.out⟩)
  intro a' w3 hfw
  obtain ⟨v3, x0, x3, x5, x6, x7, x8, x9, x10, x11, x12, x13, x14, x15, x16, x17, x18, x19, x20, x21, x22, x23, x24, x25, x26, x27, x28, x29, x30, x31, x32, x33, x34, x35, x36, x37, x38, x39, x40, x41, x42, x43, x44, x45, x46, x47, x48, x49, rfl, ho, hb, hp⟩ := (HF.out _ _).1 hfw
  clear hfw HF F3
  have hx := blk_below HX.out hb
  clear hc6 hc7 hc8 hc9 hc2 hc12 hp0
  have hc6 : w3.cell? ⟨g, 6, none⟩ = some (.int .u32 a6) := blk_cell hx 6
  have hc7 : w3.cell? ⟨g, 7, none⟩ = some (.int .u32 a7) := blk_cell hx 7
  have hc8 : w3.cell? ⟨g, 8, none⟩ = some (.int .u16 a8) := blk_cell hx 8
  have hc9 : w3.cell? ⟨g, 9, none⟩ = some (.int .u16 a9) := blk_cell hx 9
  have hc2 : w3.cell? ⟨g, 2, none⟩ = some (.int .u32 a2) := blk_cell hx 2
  have hc12 : w3.cell? ⟨g, 12, none⟩ = some (.slice A12 l12.length c12) := blk_cell hx 12
  have hp0 : w3.cell? ⟨p2, 0, none⟩ = some (.pointer (some ⟨g, 0, none⟩)) := blk_cell hp 0
  have HB3 := Aside0.mk hb
  have HP3 := Aside0.mk hp
  have HO3 := Aside0.mk ho
  clear hb hp ho hx
  go_wp2
  obtain ⟨F5, hF⟩ : ∃ F : Act → World → Prop, ∀ a' w', F a' w' ↔ ∃ v x0 x3 x5 x6 x7 x8 x9 x10 x11 x12 x13 x14 x15 x16 x17 x18 x19 x20 x21 x22 x23 x24 x25 x26 x27 x28 x29 x30 x31 x32 x33 x34 x35 x36 x37 x38 x39 x40 x41 x42 x43 x44 x45 x46 x47 x48 x49 : Value, a' = { tmps := #[x0, v, .pointer (some ⟨p2, 0, none⟩), x3, .slice none 0 0, x5, x6, x7, x8, x9, x10, x11, x12, x13, x14, x15, x16, x17, x18, x19, x20, x21, x22, x23, x24, x25, x26, x27, x28, x29, x30, x31, x32, x33, x34, x35, x36, x37, x38, x39, x40, x41, x42, x43, x44, x45, x46, x47, x48, x49], defers := [] } ∧ Kd.R (Kd.int .u8) 5 w' w0.heap.size (fun k_ => k_ ≠ p2) v r2 ∧ Below w0.heap.size w0 w' ∧ w'.heap[p2]? = some (.cells #[.pointer (some ⟨g, 0, none⟩)] 80 (0, 0)) := ⟨_, fun _ _ => Iff.rfl⟩
  have HF := Aside0.mk hF
  clear hF
  refine region_cut F5 ?_ ?_
  · intro K1 HQ
    first | (go_region_with (first | (go_at_call 32; (with_reducible refine (lay_twod k p2 2 (IntKind.i64.wrap a8) (IntKind.i64.wrap a9) r1 r2 v3 w0 w3 HB3.out (blk_lt HP3.out) HO3.out H2.out).mono ?_); rintro e wn ⟨vn, rfl, ho, hb, hk⟩; have hp := hk.trans HP3.out; have HBn := Aside0.mk hb; have HPn := Aside0.mk hp; have HOn := Aside0.mk ho; clear hb hp ho hk; have hx := blk_below HX.out HBn.out; clear hc6 hc7 hc8 hc9 hc2 hc12 hp0; have hc6 : wn.cell? ⟨g, 6, none⟩ = some (.int .u32 a6) := blk_cell hx 6; have hc7 : wn.cell? ⟨g, 7, none⟩ = some (.int .u32 a7) := blk_cell hx 7; have hc8 : wn.cell? ⟨g, 8, none⟩ = some (.int .u16 a8) := blk_cell hx 8; have hc9 : wn.cell? ⟨g, 9, none⟩ = some (.int .u16 a9) := blk_cell hx 9; have hc2 : wn.cell? ⟨g, 2, none⟩ = some (.int .u32 a2) := blk_cell hx 2; have hc12 : wn.cell? ⟨g, 12, none⟩ = some (.slice A12 l12.length c12) := blk_cell hx 12; have hp0 : wn.cell? ⟨p2, 0, none⟩ = some (.pointer (some ⟨g, 0, none⟩)) := blk_cell HPn.out 0; clear hx))) | fail
    all_goals exact HQ.out _ _ ((HF.out _ _).2 ⟨vn, _, _, _, _, _, _, _, _, _, _, _, _, _, _, _, _, _, _, _, _, _, _, _, _, _, _, _, _, _, _, _, _, _, _, _, _, _, _, _, _, _, _, _, _, _, _, _, rfl, HOn.out, HBn.out, HPn.out⟩)
  intro a' w5 hfw
  obtain ⟨v5, x0, x3, x5, x6, x7, x8, x9, x10, x11, x12, x13, x14, x15, x16, x17, x18, x19, x20, x21, x22, x23, x24, x25, x26, x27, x28, x29, x30, x31, x32, x33, x34, x35, x36, x37, x38, x39, x40, x41, x42, x43, x44, x45, x46, x47, x48, x49, rfl, ho, hb, hp⟩ := (HF.out _ _).1 hfw
  clear hfw HF F5
  have hx := blk_below HX.out hb
  clear hc6 hc7 hc8 hc9 hc2 hc12 hp0
  have hc6 : w5.cell? ⟨g, 6, none⟩ = some (.int .u32 a6) := blk_cell hx 6
  have hc7 : w5.cell? ⟨g, 7, none⟩ = some (.int .u32 a7) := blk_cell hx 7
  have hc8 : w5.cell? ⟨g, 8, none⟩ = some (.int .u16 a8) := blk_cell hx 8
  have hc9 : w5.cell? ⟨g, 9, none⟩ = some (.int .u16 a9) := blk_cell hx 9
  have hc2 : w5.cell? ⟨g, 2, none⟩ = some (.int .u32 a2) := blk_cell hx 2
  have hc12 : w5.cell? ⟨g, 12, none⟩ = some (.slice A12 l12.length c12) := blk_cell hx 12
  have hp0 : w5.cell? ⟨p2, 0, none⟩ = some (.pointer (some ⟨g, 0, none⟩)) := blk_cell hp 0
  have HB5 := Aside0.mk hb
  have HP5 := Aside0.mk hp
  have HO5 := Aside0.mk ho
  clear hb hp ho hx
  go_wp2
  have hpA : ∀ o, (w5.alloc o).cell? ⟨p2, 0, none⟩ = some (.pointer (some ⟨g, 0, none⟩)) := (fun o => pw_cell_below (below_alloc (Below.refl _ _) o) hp0)
  have hgA : ∀ o, (w5.alloc o).cell? ⟨g, 12, none⟩ = some (.slice A12 l12.length c12) := (fun o => pw_cell_below (below_alloc (Below.refl _ _) o) hc12)
  first | (go_region_law (first | (refine goes_ Try.func95 (by kernel_rfl) rfl #[v6, .slice A12 l12.length c12] (by rfl) rfl rfl (by first | rfl | kernel_rfl | (simp [Act.eval]; done) | (go_simp; rfl) | (simp [Act.eval, Act.put]; rfl)) ?_; refine (chunk_layParams.own k v6 r3 A12 c12 l12 r w0 w6 HB6.out HO6.out HR12.out HC12.out H4.out).mono ?_; rintro e w7 ⟨v7, rfl, ho7, hb7⟩; refine ⟨_, rfl, ?_⟩; have HB7 := Aside0.mk hb7; have HO7 := Aside0.mk ho7; clear hb7 ho7) | (refine goes_ Try.func32 (by kernel_rfl) rfl #[v5, .int .i64 4, .slice (some ⟨w5.heap.size, 0, none⟩) 1 1] (by rfl) rfl rfl (by first | rfl | kernel_rfl | (simp [Act.eval]; done) | (go_simp; rfl) | (simp [Act.eval, Act.put]; rfl)) ?_; refine (lay_oned k p2 4 (IntKind.i64.wrap a2) r2 r3 v5 w0 w5 HB5.out (blk_lt HP5.out) HO5.out H3.out).mono ?_; rintro e w6 ⟨v6, rfl, ho6, hb6, hk6⟩; refine ⟨_, rfl, ?_⟩; have hx6 := blk_below HX.out hb6; have hp6 := hk6.trans HP5.out; clear hc6 hc7 hc8 hc9 hc2 hc12 hp0; have hc6 : w6.cell? ⟨g, 6, none⟩ = some (.int .u32 a6) := blk_cell hx6 6; have hc7 : w6.cell? ⟨g, 7, none⟩ = some (.int .u32 a7) := blk_cell hx6 7; have hc8 : w6.cell? ⟨g, 8, none⟩ = some (.int .u16 a8) := blk_cell hx6 8; have hc9 : w6.cell? ⟨g, 9, none⟩ = some (.int .u16 a9) := blk_cell hx6 9; have hc2 : w6.cell? ⟨g, 2, none⟩ = some (.int .u32 a2) := blk_cell hx6 2; have hc12 : w6.cell? ⟨g, 12, none⟩ = some (.slice A12 l12.length c12) := blk_cell hx6 12; have hp0 : w6.cell? ⟨p2, 0, none⟩ = some (.pointer (some ⟨g, 0, none⟩)) := blk_cell hp6 0; have HB6 := Aside0.mk hb6; have HO6 := Aside0.mk (Kd.R_mono ho6 (ok' := fun _ => True) (fun _ _ => trivial)); clear hb6 hp6 ho6 hk6 hx6))) | fail
  all_goals go_wp2
  all_goals first | (go_ret; exact ⟨_, rfl, HO7.out, HB7.out⟩) | (refine bodyPost_ret (v := v7) ?_ ?_ ?_; (first | rfl | kernel_rfl); (first | rfl | kernel_rfl); exact ⟨v7, rfl, HO7.out, HB7.out⟩)
end Go.Proofs.Ytaahkggbjpdofaa.M
