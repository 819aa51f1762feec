/- The value of a piece of data as bytes: chunk.lay behind a literal of numbers. -/
import Derived.Test.YtaahkggbjpdofaaHBytes
import Derived.Test.YtaahkggbjpdofaaM4
import Derived.WalkSpells
import Derived.Deep.RegionLaw
namespace Go.Proofs.Ytaahkggbjpdofaa.M
open Go.RowKit Go.Proofs.YtaahkggbjpdofaaW.PrintWords Go.Proofs.YtaahkggbjpdofaaW.PrintLast Go.Proofs.YtaahkggbjpdofaaW.PrintMore
set_option linter.unusedVariables false
set_option linter.unusedSimpArgs false

theorem rowI (g : Nat) (W : World) (xs : List Int) (hm : xs.length ≤ maxLen) (h : W.heap[g]? = some (.cells (nums .i64 xs).toArray 3 (0, 0))) : Kd.C (Kd.int .i64) W (some ⟨g, 0, none⟩) xs.length xs := by
  have ho : W.ownsRow 0 3 1 (.slice (some ⟨g, 0, none⟩) xs.length xs.length) xs.length (nums .i64 xs) := ⟨by simp [nums], .inr ⟨g, xs.length, _, rfl, Nat.zero_le _, h, Nat.le_refl _, hm, by simp [nums], by rw [Nat.mul_one, List.toList_toArray]; exact List.take_of_length_le (by simp [nums])⟩⟩
  exact (Kd.R_reads' (Kd.R_of_own (enc := Value.int .i64) (h1 := fun _ => rfl) (ok := fun _ => True) ho (fun _ _ => trivial))).2.2
/-- chunk.lay of a literal that was just made: a block p2 of ours stays as it is. -/
theorem lay_after (k p2 : Nat) (n : Int) (xs l r : List Int) (v : Value) (w0 W : World) (hm : xs.length ≤ maxLen) (hB : Below w0.heap.size w0 W) (hp : p2 < W.heap.size)
    (ho : Kd.R (Kd.int .u8) 5 W w0.heap.size (fun k_ => k_ ≠ p2) v l) (h : chunk_lay.f k l n xs = some r) :
    Calls Try.prog 32 #[v, .int .i64 n, .slice (some ⟨W.heap.size, 0, none⟩) xs.length xs.length] (W.alloc (.cells (nums .i64 xs).toArray 3 (0, 0))) fun e w' =>
      ∃ v', e = .returned v' ∧ Kd.R (Kd.int .u8) 5 w' w0.heap.size (fun k_ => k_ ≠ p2) v' r ∧ Below w0.heap.size w0 w' ∧ w'.heap[p2]? = W.heap[p2]? := by
  have hB1 : Below W.heap.size W (W.alloc (.cells (nums .i64 xs).toArray 3 (0, 0))) := below_alloc (Below.refl _ _) _
  have hsz := hB1.size
  have hown := Kd.own_of_R ho
  have ho1 : Kd.R (Kd.int .u8) 5 W w0.heap.size (fun k_ => k_ ≠ p2 ∧ k_ < W.heap.size) v l := Kd.R_of_own (enc := Value.int .u8) (h1 := fun _ => rfl) hown (fun k_ hk => ⟨ho.1 k_ hk, own_lt hown k_ hk⟩)
  refine (chunk_lay.calls k (fun k_ => k_ ≠ p2 ∧ k_ < W.heap.size) v l n (some ⟨W.heap.size, 0, none⟩) xs.length xs r w0 _ (below_step hB hB1) (Kd.R_below ho1 hB1) (fun W_ hk => rowI _ _ xs hm (blk_kept (blk_new W _) hk (by omega))) (Nat.le_refl _) h).mono ?_
  rintro e w' ⟨v', rfl, ho', hb', hk'⟩
  refine ⟨v', rfl, Kd.R_mono ho' (fun k_ hk => ?_), hb', ?_⟩
  · rcases hk with hk | hk
    · exact hk.1
    · omega
  · rw [hk'.2 p2 (by omega) (by omega), hB1.block p2 hp]
theorem lay_one (k p2 : Nat) (n x : Int) (l r : List Int) (v : Value) (w0 W : World) (hB : Below w0.heap.size w0 W) (hp : p2 < W.heap.size) (ho : Kd.R (Kd.int .u8) 5 W w0.heap.size (fun k_ => k_ ≠ p2) v l) (h : chunk_lay.f k l n [x] = some r) :
    Calls Try.prog 32 #[v, .int .i64 n, .slice (some ⟨W.heap.size, 0, none⟩) 1 1] (W.alloc (.cells #[.int .i64 x] 3 (0, 0))) fun e w' => ∃ v', e = .returned v' ∧ Kd.R (Kd.int .u8) 5 w' w0.heap.size (fun k_ => k_ ≠ p2) v' r ∧ Below w0.heap.size w0 w' ∧ w'.heap[p2]? = W.heap[p2]? :=
  lay_after k p2 n [x] l r v w0 W (show (1 : Nat) ≤ maxLen by decide) hB hp ho h
theorem lay_oned (k p2 : Nat) (n x : Int) (l r : List Int) (v : Value) (w0 W : World) (hB : Below w0.heap.size w0 W) (hp : p2 < W.heap.size) (ho : Kd.R (Kd.int .u8) 5 W w0.heap.size (fun k_ => k_ ≠ p2) v l) (h : chunk_lay.f k l n [x] = some r) :
    Calls Try.prog 32 #[v, .int .i64 n, .slice (some ⟨W.heap.size, 0, none⟩) 1 1] (W.alloc (.cells #[.int .i64 x] 3 (0, 0))).drew fun e w' => ∃ v', e = .returned v' ∧ Kd.R (Kd.int .u8) 5 w' w0.heap.size (fun k_ => k_ ≠ p2) v' r ∧ Below w0.heap.size w0 w' ∧ w'.heap[p2]? = W.heap[p2]? :=
  lay_after k p2 n [x] l r v w0 W.drew (show (1 : Nat) ≤ maxLen by decide) hB.drew hp (Kd.R_below ho (Below.refl _ _).drew) h
theorem lay_twod (k p2 : Nat) (n x y : Int) (l r : List Int) (v : Value) (w0 W : World) (hB : Below w0.heap.size w0 W) (hp : p2 < W.heap.size) (ho : Kd.R (Kd.int .u8) 5 W w0.heap.size (fun k_ => k_ ≠ p2) v l) (h : chunk_lay.f k l n [x, y] = some r) :
    Calls Try.prog 32 #[v, .int .i64 n, .slice (some ⟨W.heap.size, 0, none⟩) 2 2] (W.alloc (.cells #[.int .i64 x, .int .i64 y] 3 (0, 0))).drew fun e w' => ∃ v', e = .returned v' ∧ Kd.R (Kd.int .u8) 5 w' w0.heap.size (fun k_ => k_ ≠ p2) v' r ∧ Below w0.heap.size w0 w' ∧ w'.heap[p2]? = W.heap[p2]? :=
  lay_after k p2 n [x, y] l r v w0 W.drew (show (2 : Nat) ≤ maxLen by decide) hB.drew hp (Kd.R_below ho (Below.refl _ _).drew) h
set_option maxHeartbeats 4000000 in
set_option maxRecDepth 100000 in
theorem lay_data (k g : Nat) (ty a1 a2 a3 a4 a5 a6 a7 a8 a9 : Int) (A10 A11 A12 A13 : Option Addr) (n10 n11 n12 c10 c11 c12 c13 : Nat) (l13 l0 r1 r2 r3 : List Int) (u : Value) (w0 w : World) (hB : Below w0.heap.size w0 w)
    (hx : w0.heap[g]? = some (.cells #[.int .u8 ty, .int .u8 a1, .int .u32 a2, .int .u16 a3, .int .u16 a4, .int .u32 a5, .int .u32 a6, .int .u32 a7, .int .u16 a8, .int .u16 a9, .slice A10 n10 c10, .slice A11 n11 c11, .slice A12 n12 c12, .slice A13 l13.length c13] 29 (0, 0))) (ho : Kd.R (Kd.int .u8) 5 w w0.heap.size (fun _ => True) u l0) (hr13 : Kd.C (Kd.int .u8) w0 A13 l13.length l13) (hc13' : l13.length ≤ c13)
    (h1 : chunk_lay.f k l0 4 [wrap64 a2] = some r1) (h2 : chunk_lay.f k r1 2 [IntKind.i64.wrap a3, IntKind.i64.wrap a4] = some r2) (h3 : chunk_lay.f k r2 4 [IntKind.i64.wrap a5] = some r3) (hlen : r3.length + l13.length < 140737488355328) :
    Calls Try.prog 89 #[.agg #[.pointer (some ⟨g, 0, none⟩)], u] w fun e w' => ∃ v, e = .returned v ∧ Kd.R (Kd.int .u8) 5 w' w0.heap.size (fun _ => True) v (r3 ++ l13) ∧ Below w0.heap.size w0 w' := by
  have HB := Aside0.mk hB
  have HX := Aside0.mk hx
  have HO := Aside0.mk (show Kd.R (Kd.int .u8) 5 w w0.heap.size (fun k_ => k_ ≠ w.heap.size) u l0 from Kd.R_of_own (enc := Value.int .u8) (h1 := fun _ => rfl) (Kd.own_of_R ho) (fun k_ hk => by have := own_lt (Kd.own_of_R ho) k_ hk; omega))
  have HR := Aside0.mk hr13
  have HC := Aside0.mk hc13'
  have H1 := Aside0.mk h1
  have H2 := Aside0.mk h2
  have H3 := Aside0.mk h3
  have HL := Aside0.mk hlen
  clear hB hx ho hr13 hc13' h1 h2 h3 hlen
  go_enter Try.func89, Try.ntmps89
  go_wp2_with (first | ((with_reducible refine gate_dst (N := 2) rfl ?_); refine box_event ?hg (N := 2) ?hd (cs := #[.pointer (some ⟨g, 0, none⟩)]) (t := 53) ?hr ?_; (case hd => rfl); (case hg => rfl); (case hr => first | (go_simp; done) | (go_simp; rfl)); intro p2 hg0 w1 hbox0 hb0; rw [← hg0] at HO; have hB1 := below_step HB.out hb0; have hx1 := blk_below HX.out hB1; have hc2 : w1.cell? ⟨g, 2, none⟩ = some (.int .u32 a2) := blk_cell hx1 2; have hc3 : w1.cell? ⟨g, 3, none⟩ = some (.int .u16 a3) := blk_cell hx1 3; have hc4 : w1.cell? ⟨g, 4, none⟩ = some (.int .u16 a4) := blk_cell hx1 4; have hc5 : w1.cell? ⟨g, 5, none⟩ = some (.int .u32 a5) := blk_cell hx1 5; have hc13 : w1.cell? ⟨g, 13, none⟩ = some (.slice A13 l13.length c13) := blk_cell hx1 13; have hp0 : w1.cell? ⟨p2, 0, none⟩ = some (.pointer (some ⟨g, 0, none⟩)) := blk_cell hbox0 0; have HB1 := Aside0.mk hB1; have HP1 := Aside0.mk hbox0; have HO1 := Aside0.mk (Kd.R_below HO.out hb0); clear hg0 hbox0 hb0 hB1 hx1)
                       | (go_at_call 32; (with_reducible refine (lay_one k p2 4 (wrap64 a2) l0 r1 u w0 w1 HB1.out (blk_lt HP1.out) HO1.out H1.out).mono ?_); rintro e w3 ⟨v3, rfl, ho3, hb3, hk3⟩; have hx3 := blk_below HX.out hb3; have hp3 := hk3.trans HP1.out; clear hc2 hc3 hc4 hc5 hc13 hp0; have hc2 : w3.cell? ⟨g, 2, none⟩ = some (.int .u32 a2) := blk_cell hx3 2; have hc3 : w3.cell? ⟨g, 3, none⟩ = some (.int .u16 a3) := blk_cell hx3 3; have hc4 : w3.cell? ⟨g, 4, none⟩ = some (.int .u16 a4) := blk_cell hx3 4; have hc5 : w3.cell? ⟨g, 5, none⟩ = some (.int .u32 a5) := blk_cell hx3 5; have hc13 : w3.cell? ⟨g, 13, none⟩ = some (.slice A13 l13.length c13) := blk_cell hx3 13; have hp0 : w3.cell? ⟨p2, 0, none⟩ = some (.pointer (some ⟨g, 0, none⟩)) := blk_cell hp3 0; have HB3 := Aside0.mk hb3; have HP3 := Aside0.mk hp3; have HO3 := Aside0.mk ho3; clear hb3 hp3 ho3 hk3 hx3))
  first | (go_region_with (first | (go_at_call 32; (with_reducible refine (lay_twod k p2 2 (IntKind.i64.wrap a3) (IntKind.i64.wrap a4) r1 r2 v3 w0 w3 HB3.out (blk_lt HP3.out) HO3.out H2.out).mono ?_); rintro e w5 ⟨v5, rfl, ho5, hb5, hk5⟩; have hx5 := blk_below HX.out hb5; have hp5 := hk5.trans HP3.out; clear hc2 hc3 hc4 hc5 hc13 hp0; have hc2 : w5.cell? ⟨g, 2, none⟩ = some (.int .u32 a2) := blk_cell hx5 2; have hc3 : w5.cell? ⟨g, 3, none⟩ = some (.int .u16 a3) := blk_cell hx5 3; have hc4 : w5.cell? ⟨g, 4, none⟩ = some (.int .u16 a4) := blk_cell hx5 4; have hc5 : w5.cell? ⟨g, 5, none⟩ = some (.int .u32 a5) := blk_cell hx5 5; have hc13 : w5.cell? ⟨g, 13, none⟩ = some (.slice A13 l13.length c13) := blk_cell hx5 13; have hp0 : w5.cell? ⟨p2, 0, none⟩ = some (.pointer (some ⟨g, 0, none⟩)) := blk_cell hp5 0; have hpA : ∀ o, (w5.alloc o).cell? ⟨p2, 0, none⟩ = some (.pointer (some ⟨g, 0, none⟩)) := (fun o => pw_cell_below (below_alloc (Below.refl _ _) o) hp0); have hgA : ∀ o, (w5.alloc o).cell? ⟨g, 13, none⟩ = some (.slice A13 l13.length c13) := (fun o => pw_cell_below (below_alloc (Below.refl _ _) o) hc13); have HB5 := Aside0.mk hb5; have HP5 := Aside0.mk hp5; have HO5 := Aside0.mk ho5; clear hb5 hp5 ho5 hk5 hx5))) | fail
  all_goals go_wp2
  all_goals first | (go_region_law (first | (refine Kd.R_append_rows_step (Kd.int .u8) (Rr := (Kd.int .u8).K w6) (w0 := w0) w0.heap.size (by rfl) (.tmp 37) (.tmp 42) 27 5 (.int .u8 0) 1 rfl Try.underlying27 st_info rfl (by decide) (by decide) v6 r3 l13 A13 l13.length c13 (fun _ => True) (fun _ => False) rfl rfl HO6.out (Kd.C_below HR.out HB6.out) (fun _ _ h_ => h_) (fun _ h_ => h_.elim) (fun _ _ => trivial) HB6.out HB6.out.size (by have := HL.out; omega) ?_; intro v7 w7 ho7 hb7 hg7 ha7; have HO7 := Aside0.mk ho7; have HB7 := Aside0.mk hb7; clear ho7 hb7 hg7 ha7) | (refine goes_ Try.func32 (by kernel_rfl) rfl #[v5, .int .i64 4, .slice (some ⟨w5.heap.size, 0, none⟩) 1 1] (by rfl) rfl rfl (by first | rfl | kernel_rfl | (simp [Act.eval]; done) | (go_simp; rfl) | (simp [Act.eval, Act.put]; rfl)) ?_; refine (lay_oned k p2 4 (IntKind.i64.wrap a5) r2 r3 v5 w0 w5 HB5.out (blk_lt HP5.out) HO5.out H3.out).mono ?_; rintro e w6 ⟨v6, rfl, ho6, hb6, hk6⟩; refine ⟨_, rfl, ?_⟩; have hx6 := blk_below HX.out hb6; have hp6 := hk6.trans HP5.out; clear hc2 hc3 hc4 hc5 hc13 hp0; have hc5 : w6.cell? ⟨g, 5, none⟩ = some (.int .u32 a5) := blk_cell hx6 5; have hc13 : w6.cell? ⟨g, 13, none⟩ = some (.slice A13 l13.length c13) := blk_cell hx6 13; have hp0 : w6.cell? ⟨p2, 0, none⟩ = some (.pointer (some ⟨g, 0, none⟩)) := blk_cell hp6 0; have HB6 := Aside0.mk hb6; have HO6 := Aside0.mk (Kd.R_mono ho6 (ok' := fun _ => True) (fun _ _ => trivial)); clear hb6 hp6 ho6 hk6 hx6))) | fail
  all_goals go_wp2
  all_goals first | (go_ret; exact ⟨_, rfl, HO7.out, HB7.out⟩) | (refine bodyPost_ret (v := v7) ?_ ?_ ?_; (first | rfl | kernel_rfl); (first | rfl | kernel_rfl); exact ⟨v7, rfl, HO7.out, HB7.out⟩)
end Go.Proofs.Ytaahkggbjpdofaa.M
