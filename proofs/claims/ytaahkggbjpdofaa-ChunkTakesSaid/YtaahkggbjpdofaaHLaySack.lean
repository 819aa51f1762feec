/- What an INIT and a SACK have behind their length, as bytes. -/
import Derived.Test.YtaahkggbjpdofaaHLayF
import Derived.WalkSpells
import Derived.LoopN
import Derived.Deep.RegionLaw
namespace Go.Proofs.Ytaahkggbjpdofaa.M
open Go.RowKit Go.Proofs.YtaahkggbjpdofaaW.PrintWords Go.Proofs.YtaahkggbjpdofaaW.PrintLast Go.Proofs.YtaahkggbjpdofaaW.PrintMore
set_option linter.unusedVariables false
set_option linter.unusedSimpArgs false
theorem lay_two (k p2 N : Nat) (n x y : Int) (l r : List Int) (v : Value) (w0 W : World) (hN : N = W.heap.size) (hB : Below w0.heap.size w0 W) (hp : p2 < W.heap.size) (ho : Kd.R (Kd.int .u8) 5 W w0.heap.size (fun k_ => k_ ≠ p2) v l) (h : chunk_lay.f k l n [x, y] = some r) :
    Calls Try.prog 32 #[v, .int .i64 n, .slice (some ⟨N, 0, none⟩) 2 2] (W.alloc (.cells #[.int .i64 x, .int .i64 y] 3 (0, 0))) fun e w' => ∃ v', e = .returned v' ∧ Kd.R (Kd.int .u8) 5 w' w0.heap.size (fun k_ => k_ ≠ p2) v' r ∧ Below w0.heap.size w0 w' ∧ w'.heap[p2]? = W.heap[p2]? := by
  subst hN
  exact lay_after k p2 n [x, y] l r v w0 W (show (2 : Nat) ≤ maxLen by decide) hB hp ho h
def chunk_sackB.l0 : Nat → List Int → List S101 → Int → Option (List Int)
  | 0, _, _, _ => none
  | k + 1, b, l, i => if i < (l.length : Int) then (if 0 ≤ i then (chunk_lay.f k b 2 [wrap64 (rd_T101 l i).f0, wrap64 (rd_T101 l i).f1]).bind fun b1 => chunk_sackB.l0 k b1 l (wrap64 (i + 1)) else none) else some b
def chunk_sackD.l0 : Nat → List Int → List Int → Int → Option (List Int)
  | 0, _, _, _ => none
  | k + 1, b, l, i => if i < (l.length : Int) then (if 0 ≤ i then (chunk_lay.f k b 4 [wrap64 (rd l i)]).bind fun b1 => chunk_sackD.l0 k b1 l (wrap64 (i + 1)) else none) else some b
theorem chunk_sackB.mono_l : ∀ k, (∀ y0 y1 y2, LeO (chunk_sackB.l0 k y0 y1 y2) (chunk_sackB.l0 (k + 1) y0 y1 y2))
  | 0 => fun _ _ _ r h => by simp [chunk_sackB.l0] at h
  | k + 1 => by
    have ih0 := chunk_sackB.mono_l k
    intro y0 y1 y2
    rw [chunk_sackB.l0, chunk_sackB.l0]
    exact LeO.ite (LeO.ite (LeO.bind (chunk_lay.mono _ _ _ _) (fun _ => ih0 _ _ _)) (LeO.refl _)) (LeO.refl _)
theorem chunk_sackD.mono_l : ∀ k, (∀ y0 y1 y2, LeO (chunk_sackD.l0 k y0 y1 y2) (chunk_sackD.l0 (k + 1) y0 y1 y2))
  | 0 => fun _ _ _ r h => by simp [chunk_sackD.l0] at h
  | k + 1 => by
    have ih0 := chunk_sackD.mono_l k
    intro y0 y1 y2
    rw [chunk_sackD.l0, chunk_sackD.l0]
    exact LeO.ite (LeO.ite (LeO.bind (chunk_lay.mono _ _ _ _) (fun _ => ih0 _ _ _)) (LeO.refl _)) (LeO.refl _)
def chunk_sack.f (k : Nat) (a2 a7 : Int) (l10 : List S101) (l11 : List Int) (l0 : List Int) : Option (List Int) :=
  (chunk_lay.f k l0 4 [IntKind.i64.wrap a2, IntKind.i64.wrap a7]).bind fun r1 => (chunk_lay.f k r1 2 [(l10.length : Int), (l11.length : Int)]).bind fun r2 => (chunk_sackB.l0 k r2 l10 0).bind fun r3 => chunk_sackD.l0 k r3 l11 0
set_option maxHeartbeats 4000000 in
set_option maxRecDepth 100000 in
theorem lay_sack (k g : Nat) (t a1 a2 a3 a4 a5 a6 a7 a8 a9 : Int) (A10 A11 A12 A13 : Option Addr) (c10 c11 c12 c13 : Nat) (l10 : List S101) (l11 : List Int) (l12 : List S48) (l13 l0 r : List Int) (u : Value) (w0 w : World) (hB : Below w0.heap.size w0 w) (hx : w0.heap[g]? = some (.cells #[.int .u8 t, .int .u8 a1, .int .u32 a2, .int .u16 a3, .int .u16 a4, .int .u32 a5, .int .u32 a6, .int .u32 a7, .int .u16 a8, .int .u16 a9, .slice A10 l10.length c10, .slice A11 l11.length c11, .slice A12 l12.length c12, .slice A13 l13.length c13] 29 (0, 0))) (ho : Kd.R (Kd.int .u8) 5 w w0.heap.size (fun _ => True) u l0) (hr10 : Kd.C k101 w0 A10 l10.length l10) (hc10' : l10.length ≤ c10) (hr11 : Kd.C (Kd.int .u32) w0 A11 l11.length l11) (hc11' : l11.length ≤ c11) (hr12 : Kd.C k48 w0 A12 l12.length l12) (hc12' : l12.length ≤ c12) (hr13 : Kd.C (Kd.int .u8) w0 A13 l13.length l13) (hc13' : l13.length ≤ c13) (h : chunk_sack.f k a2 a7 l10 l11 l0 = some r) :
    Calls Try.prog 97 #[.agg #[.pointer (some ⟨g, 0, none⟩)], u] w fun e w' => ∃ v, e = .returned v ∧ Kd.R (Kd.int .u8) 5 w' w0.heap.size (fun _ => True) v r ∧ Below w0.heap.size w0 w' := by
  have HB := Aside0.mk hB
  have HX := Aside0.mk hx
  have HO := Aside0.mk (show Kd.R (Kd.int .u8) 5 w w0.heap.size (fun k_ => k_ ≠ w.heap.size) u l0 from Kd.R_of_own (enc := Value.int .u8) (h1 := fun _ => rfl) (Kd.own_of_R ho) (fun k_ hk => by have := own_lt (Kd.own_of_R ho) k_ hk; omega))
  have HR10 := Aside0.mk hr10
  have HC10 := Aside0.mk hc10'
  have HR11 := Aside0.mk hr11
  have HC11 := Aside0.mk hc11'
  have HR12 := Aside0.mk hr12
  have HC12 := Aside0.mk hc12'
  have HR13 := Aside0.mk hr13
  have HC13 := Aside0.mk hc13'
  clear hB hx ho hr10 hc10' hr11 hc11' hr12 hc12' hr13 hc13'
  unfold chunk_sack.f at h
  obtain ⟨r1, h1, h⟩ := Option.bind_eq_some_iff.mp h
  obtain ⟨r2, h2, h⟩ := Option.bind_eq_some_iff.mp h
  obtain ⟨r3, h3, h⟩ := Option.bind_eq_some_iff.mp h
  have H1 := Aside0.mk h1
  have H2 := Aside0.mk h2
  have H3 := Aside0.mk h3
  have H4 := Aside0.mk h
  clear h h1 h2 h3
  go_enter Try.func97, Try.ntmps97
  go_wp2_with (first | ((with_reducible refine gate_dst (N := 2) rfl ?_); refine box_event ?hg (N := 2) ?hd (cs := #[.pointer (some ⟨g, 0, none⟩)]) (t := 81) ?hr ?_; (case hd => rfl); (case hg => rfl); (case hr => first | (go_simp; done) | (go_simp; rfl)); intro p2 hg0 w1 hbox0 hb0; rw [← hg0] at HO; have hB1 := below_step HB.out hb0; have hx1 := blk_below HX.out hB1; have hc2 : w1.cell? ⟨g, 2, none⟩ = some (.int .u32 a2) := blk_cell hx1 2; have hc7 : w1.cell? ⟨g, 7, none⟩ = some (.int .u32 a7) := blk_cell hx1 7; have hc10 : w1.cell? ⟨g, 10, none⟩ = some (.slice A10 l10.length c10) := blk_cell hx1 10; have hc11 : w1.cell? ⟨g, 11, none⟩ = some (.slice A11 l11.length c11) := blk_cell hx1 11; have hp0 : w1.cell? ⟨p2, 0, none⟩ = some (.pointer (some ⟨g, 0, none⟩)) := blk_cell hbox0 0; have HB1 := Aside0.mk hB1; have HP1 := Aside0.mk hbox0; have HO1 := Aside0.mk (Kd.R_below HO.out hb0); clear hg0 hbox0 hb0 hB1 hx1))
  obtain ⟨F3, hF⟩ : ∃ F : Act → World → Prop, ∀ a' w', F a' w' ↔ ∃ v x0 x3 x5 x6 x7 x8 x9 x10 x11 x12 x13 x14 x15 x16 x17 x18 x19 x20 x21 x22 x23 x24 x25 x26 x27 x28 x29 x30 x31 x32 x33 x34 x35 x36 x37 x38 x39 x40 x41 x42 x43 x44 x45 x46 x47 x48 x49 x50 x51 x52 x53 x54 x55 x56 x57 x58 x59 x60 x61 x62 x63 x64 x65 x66 x67 x68 x69 x70 x71 x72 x73 x74 x75 : Value, a' = { tmps := #[x0, v, .pointer (some ⟨p2, 0, none⟩), x3, .slice none 0 0, x5, x6, x7, x8, x9, x10, x11, x12, x13, x14, x15, x16, x17, x18, x19, x20, x21, x22, x23, x24, x25, x26, x27, x28, x29, x30, x31, x32, x33, x34, x35, x36, x37, x38, x39, x40, x41, x42, x43, x44, x45, x46, x47, x48, x49, x50, x51, x52, x53, x54, x55, x56, x57, x58, x59, x60, x61, x62, x63, x64, x65, x66, x67, x68, x69, x70, x71, x72, x73, x74, x75], defers := [] } ∧ Kd.R (Kd.int .u8) 5 w' w0.heap.size (fun k_ => k_ ≠ p2) v r1 ∧ Below w0.heap.size w0 w' ∧ w'.heap[p2]? = some (.cells #[.pointer (some ⟨g, 0, none⟩)] 81 (0, 0)) := ⟨_, fun _ _ => Iff.rfl⟩
  have HF := Aside0.mk hF
  clear hF
  refine region_cut F3 ?_ ?_
  · intro K1 HQ
    first | (go_region_with (first | (go_at_call 32; (with_reducible refine (lay_twod k p2 4 (IntKind.i64.wrap a2) (IntKind.i64.wrap a7) l0 r1 u w0 w1 HB1.out (blk_lt HP1.out) HO1.out H1.out).mono ?_); rintro e wn ⟨vn, rfl, ho, hb, hk⟩; have hp := hk.trans HP1.out; have HBn := Aside0.mk hb; have HPn := Aside0.mk hp; have HOn := Aside0.mk ho; clear hb hp ho hk; have hx := blk_below HX.out HBn.out; clear hc2 hc7 hc10 hc11 hp0; have hc2 : wn.cell? ⟨g, 2, none⟩ = some (.int .u32 a2) := blk_cell hx 2; have hc7 : wn.cell? ⟨g, 7, none⟩ = some (.int .u32 a7) := blk_cell hx 7; have hc10 : wn.cell? ⟨g, 10, none⟩ = some (.slice A10 l10.length c10) := blk_cell hx 10; have hc11 : wn.cell? ⟨g, 11, none⟩ = some (.slice A11 l11.length c11) := blk_cell hx 11; have hp0 : wn.cell? ⟨p2, 0, none⟩ = some (.pointer (some ⟨g, 0, none⟩)) := blk_cell HPn.out 0; clear hx))) | fail
    all_goals exact HQ.out _ _ ((HF.out _ _).2 ⟨vn, _, _, _, _, _, _, _, _, _, _, _, _, _, _, _, _, _, _, _, _, _, _, _, _, _, _, _, _, _, _, _, _, _, _, _, _, _, _, _, _, _, _, _, _, _, _, _, _, _, _, _, _, _, _, _, _, _, _, _, _, _, _, _, _, _, _, _, _, _, _, _, _, _, rfl, HOn.out, HBn.out, HPn.out⟩)
  intro a' w3 hfw
  obtain ⟨v3, x0, x3, x5, x6, x7, x8, x9, x10, x11, x12, x13, x14, x15, x16, x17, x18, x19, x20, x21, x22, x23, x24, x25, x26, x27, x28, x29, x30, x31, x32, x33, x34, x35, x36, x37, x38, x39, x40, x41, x42, x43, x44, x45, x46, x47, x48, x49, x50, x51, x52, x53, x54, x55, x56, x57, x58, x59, x60, x61, x62, x63, x64, x65, x66, x67, x68, x69, x70, x71, x72, x73, x74, x75, rfl, ho, hb, hp⟩ := (HF.out _ _).1 hfw
  clear hfw HF F3
  have hx := blk_below HX.out hb
  clear hc2 hc7 hc10 hc11 hp0
  have hc2 : w3.cell? ⟨g, 2, none⟩ = some (.int .u32 a2) := blk_cell hx 2
  have hc7 : w3.cell? ⟨g, 7, none⟩ = some (.int .u32 a7) := blk_cell hx 7
  have hc10 : w3.cell? ⟨g, 10, none⟩ = some (.slice A10 l10.length c10) := blk_cell hx 10
  have hc11 : w3.cell? ⟨g, 11, none⟩ = some (.slice A11 l11.length c11) := blk_cell hx 11
  have hp0 : w3.cell? ⟨p2, 0, none⟩ = some (.pointer (some ⟨g, 0, none⟩)) := blk_cell hp 0
  have HB3 := Aside0.mk hb
  have HP3 := Aside0.mk hp
  have HO3 := Aside0.mk ho
  clear hb hp ho hx
  go_wp2
  obtain ⟨F5, hF⟩ : ∃ F : Act → World → Prop, ∀ a' w', F a' w' ↔ ∃ v x0 x3 x5 x6 x7 x8 x9 x10 x11 x12 x13 x14 x15 x16 x17 x18 x19 x20 x21 x22 x23 x24 x25 x26 x27 x28 x29 x30 x31 x32 x33 x34 x35 x36 x37 x38 x39 x40 x41 x42 x43 x44 x45 x46 x47 x48 x49 x50 x51 x52 x53 x54 x55 x56 x57 x58 x59 x60 x61 x62 x63 x64 x65 x66 x67 x68 x69 x70 x71 x72 x73 x74 x75 : Value, a' = { tmps := #[x0, v, .pointer (some ⟨p2, 0, none⟩), x3, .slice none 0 0, x5, x6, x7, x8, x9, x10, x11, x12, x13, x14, x15, x16, x17, x18, x19, x20, x21, x22, x23, x24, x25, x26, x27, x28, x29, x30, x31, x32, x33, x34, x35, x36, x37, x38, x39, x40, x41, x42, x43, x44, x45, x46, x47, x48, x49, x50, x51, x52, x53, x54, x55, x56, x57, x58, x59, x60, x61, x62, x63, x64, x65, x66, x67, x68, x69, x70, x71, x72, x73, x74, x75], defers := [] } ∧ Kd.R (Kd.int .u8) 5 w' w0.heap.size (fun k_ => k_ ≠ p2) v r2 ∧ Below w0.heap.size w0 w' ∧ w'.heap[p2]? = some (.cells #[.pointer (some ⟨g, 0, none⟩)] 81 (0, 0)) := ⟨_, fun _ _ => Iff.rfl⟩
  have HF := Aside0.mk hF
  clear hF
  refine region_cut F5 ?_ ?_
  · intro K1 HQ
    first | (go_region_with (first | (go_at_call 32; (with_reducible refine (lay_twod k p2 2 (l10.length : Int) (l11.length : Int) r1 r2 v3 w0 w3 HB3.out (blk_lt HP3.out) HO3.out H2.out).mono ?_); rintro e wn ⟨vn, rfl, ho, hb, hk⟩; have hp := hk.trans HP3.out; have HBn := Aside0.mk hb; have HPn := Aside0.mk hp; have HOn := Aside0.mk ho; clear hb hp ho hk; have hx := blk_below HX.out HBn.out; clear hc2 hc7 hc10 hc11 hp0; have hc2 : wn.cell? ⟨g, 2, none⟩ = some (.int .u32 a2) := blk_cell hx 2; have hc7 : wn.cell? ⟨g, 7, none⟩ = some (.int .u32 a7) := blk_cell hx 7; have hc10 : wn.cell? ⟨g, 10, none⟩ = some (.slice A10 l10.length c10) := blk_cell hx 10; have hc11 : wn.cell? ⟨g, 11, none⟩ = some (.slice A11 l11.length c11) := blk_cell hx 11; have hp0 : wn.cell? ⟨p2, 0, none⟩ = some (.pointer (some ⟨g, 0, none⟩)) := blk_cell HPn.out 0; clear hx))) | fail
    all_goals exact HQ.out _ _ ((HF.out _ _).2 ⟨vn, _, _, _, _, _, _, _, _, _, _, _, _, _, _, _, _, _, _, _, _, _, _, _, _, _, _, _, _, _, _, _, _, _, _, _, _, _, _, _, _, _, _, _, _, _, _, _, _, _, _, _, _, _, _, _, _, _, _, _, _, _, _, _, _, _, _, _, _, _, _, _, _, _, rfl, HOn.out, HBn.out, HPn.out⟩)
  intro a' w5 hfw
  obtain ⟨v5, x0, x3, x5, x6, x7, x8, x9, x10, x11, x12, x13, x14, x15, x16, x17, x18, x19, x20, x21, x22, x23, x24, x25, x26, x27, x28, x29, x30, x31, x32, x33, x34, x35, x36, x37, x38, x39, x40, x41, x42, x43, x44, x45, x46, x47, x48, x49, x50, x51, x52, x53, x54, x55, x56, x57, x58, x59, x60, x61, x62, x63, x64, x65, x66, x67, x68, x69, x70, x71, x72, x73, x74, x75, rfl, ho, hb, hp⟩ := (HF.out _ _).1 hfw
  clear hfw HF F5
  have hx := blk_below HX.out hb
  clear hc2 hc7 hc10 hc11 hp0
  have hc2 : w5.cell? ⟨g, 2, none⟩ = some (.int .u32 a2) := blk_cell hx 2
  have hc7 : w5.cell? ⟨g, 7, none⟩ = some (.int .u32 a7) := blk_cell hx 7
  have hc10 : w5.cell? ⟨g, 10, none⟩ = some (.slice A10 l10.length c10) := blk_cell hx 10
  have hc11 : w5.cell? ⟨g, 11, none⟩ = some (.slice A11 l11.length c11) := blk_cell hx 11
  have hp0 : w5.cell? ⟨p2, 0, none⟩ = some (.pointer (some ⟨g, 0, none⟩)) := blk_cell hp 0
  have HB5 := Aside0.mk hb
  have HP5 := Aside0.mk hp
  have HO5 := Aside0.mk ho
  clear hb hp ho hx
  go_wp2
  go_loopg [1, 45] k (fun kq v1 v45 w' => ∃ (x : List Int) (i : Int), v45 = .int .i64 i ∧ Aside0 (chunk_sackB.l0 kq x l10 i = some r3) ∧ Aside0 (kq ≤ k) ∧ Aside0 (Kd.R (Kd.int .u8) 5 w' w0.heap.size (fun k_ => k_ ≠ p2) v1 x) ∧ Aside0 (Below w0.heap.size w0 w') ∧ Aside0 (w'.heap[p2]? = some (.cells #[.pointer (some ⟨g, 0, none⟩)] 81 (0, 0))))
  case atStart => exact ⟨r2, 0, rfl, H3, ⟨Nat.le_refl _⟩, HO5, HB5, HP5⟩
  case round =>
    clear H3
    obtain ⟨x, i, rfl, HA, HK1, HOx, HBx, HPx⟩ := hrel
    cases gk with
    | zero => exact absurd HA.out (by simp [chunk_sackB.l0])
    | succ k1 =>
      have H := HA.out
      clear HA
      simp only [chunk_sackB.l0] at H
      by_cases c4 : i < (l10.length : Int)
      · rw [if_pos c4] at H
        have c4b0 : decide (i < (l10.length : Int)) = true := decide_eq_true c4
        by_cases c5 : 0 ≤ i
        · rw [if_pos c5] at H
          obtain ⟨b1, hb1, H⟩ := Option.bind_eq_some_iff.mp H
          have H3 := Aside0.mk H
          have HLB := Aside0.mk hb1
          obtain ⟨ad, e, hx0, hx1⟩ := at_T101 HR10.out i c5 c4
          subst e
          replace hx0 := pw_cell_below HBx.out hx0
          replace hx1 := pw_cell_below HBx.out hx1
          have hi5 := eq_true c5
          have hi4 := eq_true c4
          clear H hb1 c4 c5
          go_wp2_with (first | ((with_reducible refine gate_dst (N := 6) rfl ?_); refine box_event ?hg (N := 6) ?hd (cs := #[.int .u16 0, .int .u16 0]) (t := 101) ?hr ?_; (case hd => rfl); (case hg => rfl); (case hr => first | (go_simp; done) | (go_simp; rfl)); intro gp hgp w1' hbox hb; have hz0 : w1'.cell? ⟨gp, 0, none⟩ = some (.int .u16 0) := blk_cell hbox 0; have hz1 : w1'.cell? ⟨gp, 1, none⟩ = some (.int .u16 0) := blk_cell hbox 1; have hy0 : w1'.frozen? ⟨gp, 0, none⟩ = false := blk_frozen hbox 0; have hy1 : w1'.frozen? ⟨gp, 1, none⟩ = false := blk_frozen hbox 1; have HGP := Aside0.mk (Nat.le_of_eq hgp.symm); have HGP0 := Aside0.mk (show w0.heap.size ≤ gp by have := HBx.out.size; omega); have HNE := Aside0.mk (show p2 ≠ gp by have := blk_lt HPx.out; omega); have HBn := Aside0.mk hb; clear hgp hbox hb)
                               | (go_at_call 32; (with_reducible refine (lay_two k1 p2 _ 2 (wrap64 (rd_T101 l10 i).f0) (wrap64 (rd_T101 l10 i).f1) x b1 _ w0 _ (by simp [World.setCell]) (below_set (below_set (below_step HBx.out HBn.out) HGP0.out) HGP0.out) (blk_lt (blk_far (blk_far (blk_below HPx.out HBn.out) HNE.out _) HNE.out _)) (Kd.R_below HOx.out (below_set (below_set HBn.out HGP.out) HGP.out)) HLB.out).mono ?_); rintro e w7 ⟨v7, rfl, ho, hb, hk⟩; have HP7 := Aside0.mk (hk.trans (blk_far (blk_far (blk_below HPx.out HBn.out) HNE.out _) HNE.out _)); have HB7 := Aside0.mk hb; have HO7 := Aside0.mk ho; clear ho hb hk))
          go_roundg k1
          case measure => have := HK1.out; omega
          case rel => exact ⟨b1, wrap64 (i + 1), (by first | rfl | (simp; done)), H3, ⟨by have := HK1.out; omega⟩, HO7, HB7, HP7⟩
        · rw [if_neg c5] at H; cases H
      · rw [if_neg c4] at H
        have c4b0 : decide (i < (l10.length : Int)) = false := decide_eq_false c4
        clear c4
        obtain rfl := Option.some.inj H
        clear H
        have hx := blk_below HX.out HBx.out
        clear hc2 hc7 hc10 hc11 hp0
        have hc11 := blk_cell hx 11
        have hp0 := blk_cell HPx.out 0
        clear hx
        go_wp2
        go_loopg [1, 65] k (fun kq v1 v65 w' => ∃ (x : List Int) (i : Int), v65 = .int .i64 i ∧ Aside0 (chunk_sackD.l0 kq x l11 i = some r) ∧ Aside0 (kq ≤ k) ∧ Aside0 (Kd.R (Kd.int .u8) 5 w' w0.heap.size (fun k_ => k_ ≠ p2) v1 x) ∧ Aside0 (Below w0.heap.size w0 w') ∧ Aside0 (w'.heap[p2]? = some (.cells #[.pointer (some ⟨g, 0, none⟩)] 81 (0, 0))))
        case atStart => exact ⟨x, 0, rfl, H4, ⟨Nat.le_refl _⟩, HOx, HBx, HPx⟩
        case round =>
          clear H4 HOx HBx HPx HK1
          obtain ⟨x2, i2, rfl, HA, HK1, HOx, HBx, HPx⟩ := hrel
          cases gk with
          | zero => exact absurd HA.out (by simp [chunk_sackD.l0])
          | succ k1 =>
            have H := HA.out
            clear HA
            simp only [chunk_sackD.l0] at H
            by_cases c4 : i2 < (l11.length : Int)
            · rw [if_pos c4] at H
              have c4b0 : decide (i2 < (l11.length : Int)) = true := decide_eq_true c4
              by_cases c5 : 0 ≤ i2
              · rw [if_pos c5] at H
                obtain ⟨b1, hb1, H⟩ := Option.bind_eq_some_iff.mp H
                have H3 := Aside0.mk H
                have HLB := Aside0.mk hb1
                obtain ⟨ad, e, hx0⟩ := Kd.at_int HR11.out i2 c5 c4
                subst e
                replace hx0 := pw_cell_below HBx.out hx0
                have hi5 := eq_true c5
                have hi4 := eq_true c4
                clear H hb1 c4 c5
                go_wp2_with (first | (go_at_call 32; (with_reducible refine (lay_one k1 p2 4 (wrap64 (rd l11 i2)) x2 b1 _ w0 _ HBx.out (blk_lt HPx.out) HOx.out HLB.out).mono ?_); rintro e w7 ⟨v7, rfl, ho, hb, hk⟩; have HP7 := Aside0.mk (hk.trans HPx.out); have HB7 := Aside0.mk hb; have HO7 := Aside0.mk ho; clear ho hb hk))
                go_roundg k1
                case measure => have := HK1.out; omega
                case rel => exact ⟨b1, wrap64 (i2 + 1), (by first | rfl | (simp; done)), H3, ⟨by have := HK1.out; omega⟩, HO7, HB7, HP7⟩
              · rw [if_neg c5] at H; cases H
            · rw [if_neg c4] at H
              have c4b0 : decide (i2 < (l11.length : Int)) = false := decide_eq_false c4
              clear c4
              obtain rfl := Option.some.inj H
              go_wp2
              go_ret
              exact ⟨_, rfl, Kd.R_mono HOx.out (fun _ _ => trivial), HBx.out⟩
end Go.Proofs.Ytaahkggbjpdofaa.M
