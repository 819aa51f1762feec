/- chunk.layParams: parameters behind bytes. -/
import Derived.Test.YtaahkggbjpdofaaHLayD
import Derived.Test.YtaahkggbjpdofaaM10
import Derived.WalkSpells
import Derived.LoopN
import Derived.Deep.RegionLaw
namespace Go.Proofs.Ytaahkggbjpdofaa.M
open Go.RowKit Go.Proofs.YtaahkggbjpdofaaW.PrintWords Go.Proofs.YtaahkggbjpdofaaW.PrintLast Go.Proofs.YtaahkggbjpdofaaW.PrintMore
set_option linter.unusedVariables false
set_option linter.unusedSimpArgs false
/-- The bytes ahead of a parameter: padded, but ahead of the first one. -/
def chunk_padAt.f (b : List Int) (i : Int) : Option (List Int) := if 0 < i then (octet_Pad.f b 4).bind fun q => some q.1 else some b
def chunk_layParams.l0 : Nat → List Int → List S48 → Int → Option (List Int)
  | 0, _, _, _ => none
  | k + 1, b, l, i => if i < (l.length : Int) then (if 0 ≤ i then ((chunk_padAt.f b i).bind fun b1 => (chunk_lay.f k b1 2 [IntKind.i64.wrap (rd_T48 l i).f0, IntKind.i64.wrap (4 + ((rd_T48 l i).f1.length : Int))]).bind fun b2 => (if b2.length + (rd_T48 l i).f1.length < 140737488355328 then chunk_layParams.l0 k (b2 ++ (rd_T48 l i).f1) l (wrap64 (i + 1)) else none)) else none) else some b
def chunk_layParams.f (k : Nat) (b : List Int) (l : List S48) : Option (List Int) := chunk_layParams.l0 k b l 0
theorem chunk_layParams.mono_l : ∀ k, (∀ y0 y1 y2, LeO (chunk_layParams.l0 k y0 y1 y2) (chunk_layParams.l0 (k + 1) y0 y1 y2))
  | 0 => fun _ _ _ r h => by simp [chunk_layParams.l0] at h
  | k + 1 => by
    have ih0 := chunk_layParams.mono_l k
    intro y0 y1 y2
    rw [chunk_layParams.l0, chunk_layParams.l0]
    exact LeO.ite (LeO.ite (LeO.bind (LeO.refl _) (fun _ => LeO.bind (chunk_lay.mono _ _ _ _) (fun _ => LeO.ite (ih0 _ _ _) (LeO.refl _)))) (LeO.refl _)) (LeO.refl _)
theorem chunk_layParams.mono : ∀ a0 a1 k, LeO (chunk_layParams.f k a0 a1) (chunk_layParams.f (k + 1) a0 a1) := fun a0 a1 k => chunk_layParams.mono_l k _ _ _
theorem pad_own (l0 r1 : List Int) (r2 : Int) (Ao : Option Addr) (co : Nat) (ok : Nat → Prop) (w0 W : World) (hR : Kd.R (Kd.int .u8) 5 W w0.heap.size ok (.slice Ao l0.length co) l0) (hB : Below w0.heap.size w0 W) (h : octet_Pad.f l0 4 = some (r1, r2)) :
    Calls Try.prog 33 #[.slice Ao l0.length co, .int .i64 4] W fun e w' => ∃ v, e = .returned (.tuple #[v, .int .i64 r2]) ∧ Kd.R (Kd.int .u8) 5 w' W.heap.size (fun _ => True) v r1 ∧ Below W.heap.size W w' := by
  obtain ⟨_, hc, hC⟩ := Kd.R_reads' hR
  exact octet_Pad.calls Ao co l0 4 r1 r2 W hC hc h
set_option maxHeartbeats 8000000 in
set_option maxRecDepth 100000 in
theorem chunk_layParams.own (k : Nat) (u : Value) (l0 : List Int) (A1 : Option Addr) (c1 : Nat) (l1 : List S48) (r : List Int) (w0 w : World) (hB : Below w0.heap.size w0 w) (ho : Kd.R (Kd.int .u8) 5 w w0.heap.size (fun _ => True) u l0) (hr1 : Kd.C k48 w0 A1 l1.length l1) (hc1 : l1.length ≤ c1) (h : chunk_layParams.f k l0 l1 = some r) :
    Calls Try.prog 95 #[u, .slice A1 l1.length c1] w fun e w' => ∃ v, e = .returned v ∧ Kd.R (Kd.int .u8) 5 w' w0.heap.size (fun _ => True) v r ∧ Below w0.heap.size w0 w' := by
  have HO := Aside0.mk ho
  have HR1 := Aside0.mk hr1
  have HC1 := Aside0.mk hc1
  have HB := Aside0.mk hB
  have H' := Aside0.mk (show chunk_layParams.l0 k l0 l1 0 = some r from h)
  clear ho hr1 hc1 hB h
  go_enter Try.func95, Try.ntmps95
  go_wp2
  go_loopg [0, 9] k (fun kq v0 v9 w' => ∃ (x : List Int) (i : Int), v9 = .int .i64 i ∧ Aside0 (chunk_layParams.l0 kq x l1 i = some r) ∧ Aside0 (kq ≤ k) ∧ Aside0 (Kd.R (Kd.int .u8) 5 w' w0.heap.size (fun _ => True) v0 x) ∧ Aside0 (Below w0.heap.size w0 w'))
  case atStart => exact ⟨l0, 0, rfl, H', ⟨Nat.le_refl _⟩, HO, HB⟩
  case round =>
    clear H'
    obtain ⟨x, i, rfl, HA, HK1, HOx, HBx⟩ := hrel
    cases gk with
    | zero => exact absurd HA.out (by simp [chunk_layParams.l0])
    | succ k1 =>
      have H := HA.out
      clear HA
      simp only [chunk_layParams.l0] at H
      by_cases c4 : i < (l1.length : Int)
      · rw [if_pos c4] at H
        have c4b0 : decide (i < (l1.length : Int)) = true := decide_eq_true c4
        by_cases c5 : 0 ≤ i
        · rw [if_pos c5] at H
          obtain ⟨b1, hb1, H⟩ := Option.bind_eq_some_iff.mp H
          obtain ⟨b2, hb2, H⟩ := Option.bind_eq_some_iff.mp H
          by_cases c6 : b2.length + (rd_T48 l1 i).f1.length < 140737488355328
          · rw [if_pos c6] at H
            obtain ⟨y, hy⟩ : ∃ y, y = b2 ++ (rd_T48 l1 i).f1 := ⟨_, rfl⟩
            rw [← hy] at H
            have HY := Aside0.mk hy
            have H' := Aside0.mk H
            obtain ⟨ad, Ap, cp, e, hx0, hx1, hcp, hCp⟩ := at_T48 HR1.out i c5 c4
            subst e
            replace hx0 := pw_cell_below HBx.out hx0
            replace hx1 := pw_cell_below HBx.out hx1
            obtain ⟨q, hq⟩ : ∃ q, q = (rd_T48 l1 i).f1 := ⟨_, rfl⟩
            rw [← hq] at hx1 hcp hCp hb2 c6
            have HL := Aside0.mk c6
            have HB2 := Aside0.mk hb2
            have HQ := Aside0.mk hq
            have HCp := Aside0.mk hCp
            have Hcp := Aside0.mk hcp
            have hi5 := eq_true c5
            have hi4 := eq_true c4
            obtain ⟨Ao, co, eo⟩ := Kd.R_slice HOx.out
            subst eo
            clear H hy c6 hb2 hq hCp hcp c4 c5
            unfold chunk_padAt.f at hb1
            by_cases c7 : 0 < i
            · rw [if_pos c7] at hb1
              have c7b0 : decide (0 < i) = true := decide_eq_true c7
              clear c7
              obtain ⟨⟨b1', q2⟩, hpad, hb1⟩ := Option.bind_eq_some_iff.mp hb1
              obtain rfl : b1' = b1 := Option.some.inj hb1
              have HPad := Aside0.mk hpad
              clear hpad hb1
              go_wp2_with (first | ((with_reducible refine gate_dst (N := 6) rfl ?_); refine box_event ?hg (N := 6) ?hd (cs := #[.int .u16 0, .slice none 0 0]) (t := 48) ?hr ?_; (case hd => rfl); (case hg => rfl); (case hr => first | (go_simp; done) | (go_simp; rfl)); intro gp hgp w1 hbox hb; have hz0 : w1.cell? ⟨gp, 0, none⟩ = some (.int .u16 0) := blk_cell hbox 0; have hz1 : w1.cell? ⟨gp, 1, none⟩ = some (.slice none 0 0) := blk_cell hbox 1; have hy0 : w1.frozen? ⟨gp, 0, none⟩ = false := blk_frozen hbox 0; have hy1 : w1.frozen? ⟨gp, 1, none⟩ = false := blk_frozen hbox 1; have HGP := Aside0.mk hgp; have BP := Aside0.mk hbox; have HB1 := Aside0.mk hb; clear hgp hbox hb))
              have hgp0 : w0.heap.size ≤ gp := by have := HBx.out.size; have := HGP.out; omega
              obtain ⟨W, hW⟩ : ∃ W, W = (w1.setCell { block := gp, off := 0 } (Value.int IntKind.u16 (rd_T48 l1 i).f0)).setCell { block := gp, off := 1 } (Value.slice Ap q.length cp) := ⟨_, rfl⟩
              have hBl := below_set (j := 1) (v := Value.slice Ap q.length cp) (below_set (j := 0) (v := Value.int IntKind.u16 (rd_T48 l1 i).f0) HB1.out (Nat.le_of_eq HGP.out.symm)) (Nat.le_of_eq HGP.out.symm)
              rw [← hW] at hBl
              have HOW := Aside0.mk (Kd.R_below (Kd.R_mono (Kd.R_bound HOx.out) (ok' := fun k_ => k_ ≠ gp) (fun k hk => by have := hk.2.2.1; have := HGP.out; omega)) hBl)
              have HBW := Aside0.mk (below_step HBx.out hBl)
              have BPW := Aside0.mk (show W.heap[gp]? = some (.cells #[.int .u16 (rd_T48 l1 i).f0, .slice Ap q.length cp] 48 (0, 0)) by rw [hW]; exact blk_put (blk_put BP.out 0 _ rfl) 1 _ rfl)
              rw [← hW]
              clear hW hBl hz0 hz1 hy0 hy1 hgp0 hx0 hx1
              go_wp2_with (first | (go_at_call 33; (with_reducible refine (pad_own x b1' q2 Ao co (fun k_ => k_ ≠ gp) w0 W HOW.out HBW.out HPad.out).mono ?_); rintro e w5 ⟨v5, rfl, ho5, hb5⟩; have BP5 := Aside0.mk (blk_below BPW.out hb5); have HB5 := Aside0.mk (below_step HBW.out hb5); have HO5 := Aside0.mk (Kd.R_lower (Kd.R_mono (Kd.R_newB ho5 BPW.out) (ok' := fun k_ => k_ ≠ gp) (fun _ hk => hk.2)) HBW.out.size); clear ho5 hb5))
              have hp0 : w5.cell? ⟨gp, 0, none⟩ = some (.int .u16 (rd_T48 l1 i).f0) := blk_cell BP5.out 0
              have hp1 : w5.cell? ⟨gp, 1, none⟩ = some (.slice Ap q.length cp) := blk_cell BP5.out 1
              have hpA0 : ∀ o, (w5.alloc o).cell? ⟨gp, 0, none⟩ = some (.int .u16 (rd_T48 l1 i).f0) := fun o => pw_cell_below (below_alloc (Below.refl _ _) o) (blk_cell BP5.out 0)
              have hpA1 : ∀ o, (w5.alloc o).cell? ⟨gp, 1, none⟩ = some (.slice Ap q.length cp) := fun o => pw_cell_below (below_alloc (Below.refl _ _) o) (blk_cell BP5.out 1)
              first | (go_region_law (first | (refine Kd.R_append_rows_step (Kd.int .u8) (Rr := (Kd.int .u8).K w6) (w0 := w0) w0.heap.size (by rfl) (.tmp 30) (.tmp 32) 27 5 (.int .u8 0) 1 rfl Try.underlying27 st_info rfl (by decide) (by decide) v6 b2 q Ap q.length cp (fun _ => True) (fun _ => False) rfl rfl HO6.out (Kd.C_below HCp.out HB6.out) (fun _ _ h_ => h_) (fun _ h_ => h_.elim) (fun _ _ => trivial) HB6.out HB6.out.size (by have := HL.out; omega) ?_; intro v7 w7 ho7 hb7 hg7 ha7; have HO7 := Aside0.mk ho7; have HB7 := Aside0.mk hb7; clear ho7 hb7 hg7 ha7) | (refine goes_ Try.func32 (by kernel_rfl) rfl #[v5, .int .i64 2, .slice (some ⟨w5.heap.size, 0, none⟩) 2 2] (by rfl) rfl rfl (by first | rfl | kernel_rfl | (simp [Act.eval]; done) | (go_simp; rfl) | (simp [Act.eval, Act.put]; rfl)) ?_; refine (lay_twod k1 gp 2 (IntKind.i64.wrap (rd_T48 l1 i).f0) (IntKind.i64.wrap (4 + (q.length : Int))) b1' b2 v5 w0 w5 HB5.out (blk_lt BP5.out) HO5.out HB2.out).mono ?_; rintro e w6 ⟨v6, rfl, ho6, hb6, hk6⟩; refine ⟨_, rfl, ?_⟩; have hp6 := hk6.trans BP5.out; clear hp0 hp1; have hp0 : w6.cell? ⟨gp, 0, none⟩ = some (.int .u16 (rd_T48 l1 i).f0) := blk_cell hp6 0; have hp1 : w6.cell? ⟨gp, 1, none⟩ = some (.slice Ap q.length cp) := blk_cell hp6 1; have HB6 := Aside0.mk hb6; have HO6 := Aside0.mk (Kd.R_mono ho6 (ok' := fun _ => True) (fun _ _ => trivial)); clear hb6 hp6 ho6 hk6))) | fail
              all_goals go_wp2
              all_goals go_roundg k1
              all_goals first | (case measure => have := HK1.out; omega) | skip
              all_goals exact ⟨y, wrap64 (i + 1), (by first | rfl | (simp; done)), H', ⟨by have := HK1.out; omega⟩, ⟨by rw [HY.out, ← HQ.out]; exact HO7.out⟩, HB7⟩
            · rw [if_neg c7] at hb1
              obtain rfl := Option.some.inj hb1
              have c7b0 : decide (0 < i) = false := decide_eq_false c7
              clear hb1 c7
              go_wp2_with (first | ((with_reducible refine gate_dst (N := 6) rfl ?_); refine box_event ?hg (N := 6) ?hd (cs := #[.int .u16 0, .slice none 0 0]) (t := 48) ?hr ?_; (case hd => rfl); (case hg => rfl); (case hr => first | (go_simp; done) | (go_simp; rfl)); intro gp hgp w1 hbox hb; have hz0 : w1.cell? ⟨gp, 0, none⟩ = some (.int .u16 0) := blk_cell hbox 0; have hz1 : w1.cell? ⟨gp, 1, none⟩ = some (.slice none 0 0) := blk_cell hbox 1; have hy0 : w1.frozen? ⟨gp, 0, none⟩ = false := blk_frozen hbox 0; have hy1 : w1.frozen? ⟨gp, 1, none⟩ = false := blk_frozen hbox 1; have HGP := Aside0.mk hgp; have BP := Aside0.mk hbox; have HB1 := Aside0.mk hb; clear hgp hbox hb))
              have hgp0 : w0.heap.size ≤ gp := by have := HBx.out.size; have := HGP.out; omega
              obtain ⟨w5, hW⟩ : ∃ W, W = (w1.setCell { block := gp, off := 0 } (Value.int IntKind.u16 (rd_T48 l1 i).f0)).setCell { block := gp, off := 1 } (Value.slice Ap q.length cp) := ⟨_, rfl⟩
              have hBl := below_set (j := 1) (v := Value.slice Ap q.length cp) (below_set (j := 0) (v := Value.int IntKind.u16 (rd_T48 l1 i).f0) HB1.out (Nat.le_of_eq HGP.out.symm)) (Nat.le_of_eq HGP.out.symm)
              rw [← hW] at hBl
              have HOW := Aside0.mk (Kd.R_below (Kd.R_mono (Kd.R_bound HOx.out) (ok' := fun k_ => k_ ≠ gp) (fun k hk => by have := hk.2.2.1; have := HGP.out; omega)) hBl)
              have HBW := Aside0.mk (below_step HBx.out hBl)
              have BPW := Aside0.mk (show w5.heap[gp]? = some (.cells #[.int .u16 (rd_T48 l1 i).f0, .slice Ap q.length cp] 48 (0, 0)) by rw [hW]; exact blk_put (blk_put BP.out 0 _ rfl) 1 _ rfl)
              rw [← hW]
              clear hW hBl hz0 hz1 hy0 hy1 hgp0 hx0 hx1
              have HO5 := HOW
              have HB5 := HBW
              have BP5 := BPW
              have hp0 : w5.cell? ⟨gp, 0, none⟩ = some (.int .u16 (rd_T48 l1 i).f0) := blk_cell BP5.out 0
              have hp1 : w5.cell? ⟨gp, 1, none⟩ = some (.slice Ap q.length cp) := blk_cell BP5.out 1
              have hpA0 : ∀ o, (w5.alloc o).cell? ⟨gp, 0, none⟩ = some (.int .u16 (rd_T48 l1 i).f0) := fun o => pw_cell_below (below_alloc (Below.refl _ _) o) (blk_cell BP5.out 0)
              have hpA1 : ∀ o, (w5.alloc o).cell? ⟨gp, 1, none⟩ = some (.slice Ap q.length cp) := fun o => pw_cell_below (below_alloc (Below.refl _ _) o) (blk_cell BP5.out 1)
              first | (go_region_law (first | (refine Kd.R_append_rows_step (Kd.int .u8) (Rr := (Kd.int .u8).K w6) (w0 := w0) w0.heap.size (by rfl) (.tmp 30) (.tmp 32) 27 5 (.int .u8 0) 1 rfl Try.underlying27 st_info rfl (by decide) (by decide) v6 b2 q Ap q.length cp (fun _ => True) (fun _ => False) rfl rfl HO6.out (Kd.C_below HCp.out HB6.out) (fun _ _ h_ => h_) (fun _ h_ => h_.elim) (fun _ _ => trivial) HB6.out HB6.out.size (by have := HL.out; omega) ?_; intro v7 w7 ho7 hb7 hg7 ha7; have HO7 := Aside0.mk ho7; have HB7 := Aside0.mk hb7; clear ho7 hb7 hg7 ha7) | (refine goes_ Try.func32 (by kernel_rfl) rfl #[(.slice Ao x.length co), .int .i64 2, .slice (some ⟨w5.heap.size, 0, none⟩) 2 2] (by rfl) rfl rfl (by first | rfl | kernel_rfl | (simp [Act.eval]; done) | (go_simp; rfl) | (simp [Act.eval, Act.put]; rfl)) ?_; refine (lay_twod k1 gp 2 (IntKind.i64.wrap (rd_T48 l1 i).f0) (IntKind.i64.wrap (4 + (q.length : Int))) x b2 (.slice Ao x.length co) w0 w5 HB5.out (blk_lt BP5.out) HO5.out HB2.out).mono ?_; rintro e w6 ⟨v6, rfl, ho6, hb6, hk6⟩; refine ⟨_, rfl, ?_⟩; have hp6 := hk6.trans BP5.out; clear hp0 hp1; have hp0 : w6.cell? ⟨gp, 0, none⟩ = some (.int .u16 (rd_T48 l1 i).f0) := blk_cell hp6 0; have hp1 : w6.cell? ⟨gp, 1, none⟩ = some (.slice Ap q.length cp) := blk_cell hp6 1; have HB6 := Aside0.mk hb6; have HO6 := Aside0.mk (Kd.R_mono ho6 (ok' := fun _ => True) (fun _ _ => trivial)); clear hb6 hp6 ho6 hk6))) | fail
              all_goals go_wp2
              all_goals go_roundg k1
              all_goals first | (case measure => have := HK1.out; omega) | skip
              all_goals exact ⟨y, wrap64 (i + 1), (by first | rfl | (simp; done)), H', ⟨by have := HK1.out; omega⟩, ⟨by rw [HY.out, ← HQ.out]; exact HO7.out⟩, HB7⟩
          · rw [if_neg c6] at H; cases H
        · rw [if_neg c5] at H; cases H
      · rw [if_neg c4] at H
        have c4b0 : decide (i < (l1.length : Int)) = false := decide_eq_false c4
        clear c4
        obtain rfl := Option.some.inj H
        go_wp2
        go_ret
        exact ⟨_, rfl, HOx.out, HBx.out⟩
end Go.Proofs.Ytaahkggbjpdofaa.M
