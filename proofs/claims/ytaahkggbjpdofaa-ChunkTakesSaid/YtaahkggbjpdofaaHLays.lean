import Derived.Test.YtaahkggbjpdofaaHLayP
import Derived.WalkSpells
import Derived.LoopN
import Derived.Deep.RegionLaw
import Derived.Test.YtaahkggbjpdofaaHLaySack
import Derived.Test.YtaahkggbjpdofaaHPlain
import Derived.Test.YtaahkggbjpdofaaHStamp
section
/- What a chunk has behind its length, as bytes: the kinds but data. -/
namespace Go.Proofs.Ytaahkggbjpdofaa.M
open Go.RowKit Go.Proofs.YtaahkggbjpdofaaW.PrintWords Go.Proofs.YtaahkggbjpdofaaW.PrintLast Go.Proofs.YtaahkggbjpdofaaW.PrintMore
set_option linter.unusedVariables false
set_option linter.unusedSimpArgs false
set_option maxHeartbeats 4000000 in
set_option maxRecDepth 100000 in
theorem lay_number (k g : Nat) (t a1 a2 a3 a4 a5 a6 a7 a8 a9 : Int) (A10 A11 A12 A13 : Option Addr) (c10 c11 c12 c13 : Nat) (l10 : List S101) (l11 : List Int) (l12 : List S48) (l13 l0 r : List Int) (u : Value) (w0 w : World) (hB : Below w0.heap.size w0 w) (hx : w0.heap[g]? = some (.cells #[.int .u8 t, .int .u8 a1, .int .u32 a2, .int .u16 a3, .int .u16 a4, .int .u32 a5, .int .u32 a6, .int .u32 a7, .int .u16 a8, .int .u16 a9, .slice A10 l10.length c10, .slice A11 l11.length c11, .slice A12 l12.length c12, .slice A13 l13.length c13] 29 (0, 0))) (ho : Kd.R (Kd.int .u8) 5 w w0.heap.size (fun _ => True) u l0) (hr10 : Kd.C k101 w0 A10 l10.length l10) (hc10' : l10.length ≤ c10) (hr11 : Kd.C (Kd.int .u32) w0 A11 l11.length l11) (hc11' : l11.length ≤ c11) (hr12 : Kd.C k48 w0 A12 l12.length l12) (hc12' : l12.length ≤ c12) (hr13 : Kd.C (Kd.int .u8) w0 A13 l13.length l13) (hc13' : l13.length ≤ c13) (h : chunk_lay.f k l0 4 [wrap64 a2] = some r) :
    Calls Try.prog 101 #[.agg #[.pointer (some ⟨g, 0, none⟩)], u] w fun e w' => ∃ v, e = .returned v ∧ Kd.R (Kd.int .u8) 5 w' w0.heap.size (fun _ => True) v r ∧ Below w0.heap.size w0 w' := by
  have HB := Aside0.mk hB
  have HX := Aside0.mk hx
  have HO := Aside0.mk (show Kd.R (Kd.int .u8) 5 w w0.heap.size (fun k_ => k_ ≠ w.heap.size) u l0 from Kd.R_of_own (enc := Value.int .u8) (h1 := fun _ => rfl) (Kd.own_of_R ho) (fun k_ hk => by have := own_lt (Kd.own_of_R ho) k_ hk; omega))
  have HR10 := Aside0.mk hr10
  have HC10 := Aside0.mk hc10'
  have HR11 := Aside0.mk hr11
  have HC11 := Aside0.mk hc11'
  have HR12 := Aside0.mk hr12
  have HC12 := Aside0.mk hc12'
  have HR13 := Aside0.mk hr13
  have HC13 := Aside0.mk hc13'
  clear hB hx ho hr10 hc10' hr11 hc11' hr12 hc12' hr13 hc13'
  have H1 := Aside0.mk h
  clear h
  go_enter Try.func101, Try.ntmps101
  go_wp2_with (first | ((with_reducible refine gate_dst (N := 2) rfl ?_); refine box_event ?hg (N := 2) ?hd (cs := #[.pointer (some ⟨g, 0, none⟩)]) (t := 83) ?hr ?_; (case hd => rfl); (case hg => rfl); (case hr => first | (go_simp; done) | (go_simp; rfl)); intro p2 hg0 w1 hbox0 hb0; rw [← hg0] at HO; have hB1 := below_step HB.out hb0; have hx1 := blk_below HX.out hB1; have hc2 : w1.cell? ⟨g, 2, none⟩ = some (.int .u32 a2) := blk_cell hx1 2; have hp0 : w1.cell? ⟨p2, 0, none⟩ = some (.pointer (some ⟨g, 0, none⟩)) := blk_cell hbox0 0; have HB1 := Aside0.mk hB1; have HP1 := Aside0.mk hbox0; have HO1 := Aside0.mk (Kd.R_below HO.out hb0); clear hg0 hbox0 hb0 hB1 hx1)
                       | (go_at_call 32; (with_reducible refine (lay_one k p2 4 (wrap64 a2) l0 r u w0 w1 HB1.out (blk_lt HP1.out) HO1.out H1.out).mono ?_); rintro e w3 ⟨v3, rfl, ho3, hb3, hk3⟩; have HB3 := Aside0.mk hb3; have HO3 := Aside0.mk ho3; clear hb3 ho3 hk3))
  go_ret
  exact ⟨_, rfl, Kd.R_mono HO3.out (fun _ _ => trivial), HB3.out⟩
set_option maxHeartbeats 4000000 in
set_option maxRecDepth 100000 in
theorem lay_params (k g : Nat) (t a1 a2 a3 a4 a5 a6 a7 a8 a9 : Int) (A10 A11 A12 A13 : Option Addr) (c10 c11 c12 c13 : Nat) (l10 : List S101) (l11 : List Int) (l12 : List S48) (l13 l0 r : List Int) (u : Value) (w0 w : World) (hB : Below w0.heap.size w0 w) (hx : w0.heap[g]? = some (.cells #[.int .u8 t, .int .u8 a1, .int .u32 a2, .int .u16 a3, .int .u16 a4, .int .u32 a5, .int .u32 a6, .int .u32 a7, .int .u16 a8, .int .u16 a9, .slice A10 l10.length c10, .slice A11 l11.length c11, .slice A12 l12.length c12, .slice A13 l13.length c13] 29 (0, 0))) (ho : Kd.R (Kd.int .u8) 5 w w0.heap.size (fun _ => True) u l0) (hr10 : Kd.C k101 w0 A10 l10.length l10) (hc10' : l10.length ≤ c10) (hr11 : Kd.C (Kd.int .u32) w0 A11 l11.length l11) (hc11' : l11.length ≤ c11) (hr12 : Kd.C k48 w0 A12 l12.length l12) (hc12' : l12.length ≤ c12) (hr13 : Kd.C (Kd.int .u8) w0 A13 l13.length l13) (hc13' : l13.length ≤ c13) (h : chunk_layParams.f k l0 l12 = some r) :
    Calls Try.prog 99 #[.agg #[.pointer (some ⟨g, 0, none⟩)], u] w fun e w' => ∃ v, e = .returned v ∧ Kd.R (Kd.int .u8) 5 w' w0.heap.size (fun _ => True) v r ∧ Below w0.heap.size w0 w' := by
  have HB := Aside0.mk hB
  have HX := Aside0.mk hx
  have HO := Aside0.mk (show Kd.R (Kd.int .u8) 5 w w0.heap.size (fun k_ => k_ ≠ w.heap.size) u l0 from Kd.R_of_own (enc := Value.int .u8) (h1 := fun _ => rfl) (Kd.own_of_R ho) (fun k_ hk => by have := own_lt (Kd.own_of_R ho) k_ hk; omega))
  have HR10 := Aside0.mk hr10
  have HC10 := Aside0.mk hc10'
  have HR11 := Aside0.mk hr11
  have HC11 := Aside0.mk hc11'
  have HR12 := Aside0.mk hr12
  have HC12 := Aside0.mk hc12'
  have HR13 := Aside0.mk hr13
  have HC13 := Aside0.mk hc13'
  clear hB hx ho hr10 hc10' hr11 hc11' hr12 hc12' hr13 hc13'
  have H1 := Aside0.mk h
  clear h
  go_enter Try.func99, Try.ntmps99
  go_wp2_with (first | ((with_reducible refine gate_dst (N := 2) rfl ?_); refine box_event ?hg (N := 2) ?hd (cs := #[.pointer (some ⟨g, 0, none⟩)]) (t := 82) ?hr ?_; (case hd => rfl); (case hg => rfl); (case hr => first | (go_simp; done) | (go_simp; rfl)); intro p2 hg0 w1 hbox0 hb0; rw [← hg0] at HO; have hB1 := below_step HB.out hb0; have hx1 := blk_below HX.out hB1; have hc12 : w1.cell? ⟨g, 12, none⟩ = some (.slice A12 l12.length c12) := blk_cell hx1 12; have hp0 : w1.cell? ⟨p2, 0, none⟩ = some (.pointer (some ⟨g, 0, none⟩)) := blk_cell hbox0 0; have HB1 := Aside0.mk hB1; have HP1 := Aside0.mk hbox0; have HO1 := Aside0.mk (Kd.R_below HO.out hb0); clear hg0 hbox0 hb0 hB1 hx1)
                       | (go_at_call 95; (with_reducible refine (chunk_layParams.own k u l0 A12 c12 l12 r w0 w1 HB1.out (Kd.R_mono HO1.out (fun _ _ => trivial)) HR12.out HC12.out H1.out).mono ?_); rintro e w3 ⟨v3, rfl, ho3, hb3⟩; have HB3 := Aside0.mk hb3; have HO3 := Aside0.mk ho3; clear hb3 ho3))
  go_ret
  exact ⟨_, rfl, HO3.out, HB3.out⟩
set_option maxHeartbeats 4000000 in
set_option maxRecDepth 100000 in
theorem lay_raw (k g : Nat) (t a1 a2 a3 a4 a5 a6 a7 a8 a9 : Int) (A10 A11 A12 A13 : Option Addr) (c10 c11 c12 c13 : Nat) (l10 : List S101) (l11 : List Int) (l12 : List S48) (l13 l0 r : List Int) (u : Value) (w0 w : World) (hB : Below w0.heap.size w0 w) (hx : w0.heap[g]? = some (.cells #[.int .u8 t, .int .u8 a1, .int .u32 a2, .int .u16 a3, .int .u16 a4, .int .u32 a5, .int .u32 a6, .int .u32 a7, .int .u16 a8, .int .u16 a9, .slice A10 l10.length c10, .slice A11 l11.length c11, .slice A12 l12.length c12, .slice A13 l13.length c13] 29 (0, 0))) (ho : Kd.R (Kd.int .u8) 5 w w0.heap.size (fun _ => True) u l0) (hr10 : Kd.C k101 w0 A10 l10.length l10) (hc10' : l10.length ≤ c10) (hr11 : Kd.C (Kd.int .u32) w0 A11 l11.length l11) (hc11' : l11.length ≤ c11) (hr12 : Kd.C k48 w0 A12 l12.length l12) (hc12' : l12.length ≤ c12) (hr13 : Kd.C (Kd.int .u8) w0 A13 l13.length l13) (hc13' : l13.length ≤ c13) (h : (if l0.length + l13.length < 140737488355328 then some (l0 ++ l13) else none) = some r) :
    Calls Try.prog 105 #[.agg #[.pointer (some ⟨g, 0, none⟩)], u] w fun e w' => ∃ v, e = .returned v ∧ Kd.R (Kd.int .u8) 5 w' w0.heap.size (fun _ => True) v r ∧ Below w0.heap.size w0 w' := by
  have HB := Aside0.mk hB
  have HX := Aside0.mk hx
  have HO := Aside0.mk (show Kd.R (Kd.int .u8) 5 w w0.heap.size (fun k_ => k_ ≠ w.heap.size) u l0 from Kd.R_of_own (enc := Value.int .u8) (h1 := fun _ => rfl) (Kd.own_of_R ho) (fun k_ hk => by have := own_lt (Kd.own_of_R ho) k_ hk; omega))
  have HR10 := Aside0.mk hr10
  have HC10 := Aside0.mk hc10'
  have HR11 := Aside0.mk hr11
  have HC11 := Aside0.mk hc11'
  have HR12 := Aside0.mk hr12
  have HC12 := Aside0.mk hc12'
  have HR13 := Aside0.mk hr13
  have HC13 := Aside0.mk hc13'
  clear hB hx ho hr10 hc10' hr11 hc11' hr12 hc12' hr13 hc13'
  split at h
  case isFalse => cases h
  rename_i hlen
  have HL := Aside0.mk hlen
  obtain rfl := Option.some.inj h
  clear h hlen
  go_enter Try.func105, Try.ntmps105
  go_wp2_with (first | ((with_reducible refine gate_dst (N := 2) rfl ?_); refine box_event ?hg (N := 2) ?hd (cs := #[.pointer (some ⟨g, 0, none⟩)]) (t := 85) ?hr ?_; (case hd => rfl); (case hg => rfl); (case hr => first | (go_simp; done) | (go_simp; rfl)); intro p2 hg0 w1 hbox0 hb0; rw [← hg0] at HO; have hB1 := below_step HB.out hb0; have hx1 := blk_below HX.out hB1; have hc13 : w1.cell? ⟨g, 13, none⟩ = some (.slice A13 l13.length c13) := blk_cell hx1 13; have hp0 : w1.cell? ⟨p2, 0, none⟩ = some (.pointer (some ⟨g, 0, none⟩)) := blk_cell hbox0 0; have HB1 := Aside0.mk hB1; have HP1 := Aside0.mk hbox0; have HO1 := Aside0.mk (Kd.R_below HO.out hb0); clear hg0 hbox0 hb0 hB1 hx1)
                       | ((with_reducible refine gate_builtin (b := .append) (xs := #[.tmp 5, .tmp 10]) rfl ?_); at_builtin; refine Kd.R_append_rows (Kd.int .u8) (Rr := (Kd.int .u8).K w1) (w0 := w0) w0.heap.size rfl (.tmp 5) (.tmp 10) 27 5 (.int .u8 0) 1 rfl Try.underlying27 st_info rfl (by decide) (by decide) u l0 l13 A13 l13.length c13 (fun _ => True) (fun _ => False) rfl rfl (Kd.R_mono HO1.out (fun _ _ => trivial)) (Kd.C_below HR13.out HB1.out) (fun _ _ h_ => h_) (fun _ h_ => h_.elim) (fun _ _ => trivial) HB1.out HB1.out.size (by have := HL.out; omega) ?_; intro v7 w7 ho7 hb7 hg7 ha7; have HO7 := Aside0.mk ho7; have HB7 := Aside0.mk hb7; clear ho7 hb7 hg7 ha7))
  go_ret
  exact ⟨_, rfl, HO7.out, HB7.out⟩
set_option maxHeartbeats 4000000 in
set_option maxRecDepth 100000 in
theorem lay_bareR (k g : Nat) (t a1 a2 a3 a4 a5 a6 a7 a8 a9 : Int) (A10 A11 A12 A13 : Option Addr) (c10 c11 c12 c13 : Nat) (l10 : List S101) (l11 : List Int) (l12 : List S48) (l13 l0 r : List Int) (u : Value) (w0 w : World) (hB : Below w0.heap.size w0 w) (hx : w0.heap[g]? = some (.cells #[.int .u8 t, .int .u8 a1, .int .u32 a2, .int .u16 a3, .int .u16 a4, .int .u32 a5, .int .u32 a6, .int .u32 a7, .int .u16 a8, .int .u16 a9, .slice A10 l10.length c10, .slice A11 l11.length c11, .slice A12 l12.length c12, .slice A13 l13.length c13] 29 (0, 0))) (ho : Kd.R (Kd.int .u8) 5 w w0.heap.size (fun _ => True) u l0) (hr10 : Kd.C k101 w0 A10 l10.length l10) (hc10' : l10.length ≤ c10) (hr11 : Kd.C (Kd.int .u32) w0 A11 l11.length l11) (hc11' : l11.length ≤ c11) (hr12 : Kd.C k48 w0 A12 l12.length l12) (hc12' : l12.length ≤ c12) (hr13 : Kd.C (Kd.int .u8) w0 A13 l13.length l13) (hc13' : l13.length ≤ c13) (h : some l0 = some r) :
    Calls Try.prog 103 #[.agg #[.pointer (some ⟨g, 0, none⟩)], u] w fun e w' => ∃ v, e = .returned v ∧ Kd.R (Kd.int .u8) 5 w' w0.heap.size (fun _ => True) v r ∧ Below w0.heap.size w0 w' := by
  have HB := Aside0.mk hB
  have HX := Aside0.mk hx
  have HO := Aside0.mk (show Kd.R (Kd.int .u8) 5 w w0.heap.size (fun k_ => k_ ≠ w.heap.size) u l0 from Kd.R_of_own (enc := Value.int .u8) (h1 := fun _ => rfl) (Kd.own_of_R ho) (fun k_ hk => by have := own_lt (Kd.own_of_R ho) k_ hk; omega))
  have HR10 := Aside0.mk hr10
  have HC10 := Aside0.mk hc10'
  have HR11 := Aside0.mk hr11
  have HC11 := Aside0.mk hc11'
  have HR12 := Aside0.mk hr12
  have HC12 := Aside0.mk hc12'
  have HR13 := Aside0.mk hr13
  have HC13 := Aside0.mk hc13'
  clear hB hx ho hr10 hc10' hr11 hc11' hr12 hc12' hr13 hc13'
  obtain rfl := Option.some.inj h
  clear h
  go_enter Try.func103, Try.ntmps103
  go_wp2_with (first | ((with_reducible refine gate_dst (N := 2) rfl ?_); refine box_event ?hg (N := 2) ?hd (cs := #[.pointer (some ⟨g, 0, none⟩)]) (t := 84) ?hr ?_; (case hd => rfl); (case hg => rfl); (case hr => first | (go_simp; done) | (go_simp; rfl)); intro p2 hg0 w1 hbox0 hb0; rw [← hg0] at HO; have hB1 := below_step HB.out hb0; have hx1 := blk_below HX.out hB1; have hp0 : w1.cell? ⟨p2, 0, none⟩ = some (.pointer (some ⟨g, 0, none⟩)) := blk_cell hbox0 0; have HB1 := Aside0.mk hB1; have HP1 := Aside0.mk hbox0; have HO1 := Aside0.mk (Kd.R_below HO.out hb0); clear hg0 hbox0 hb0 hB1 hx1))
  go_ret
  exact ⟨_, rfl, Kd.R_mono HO1.out (fun _ _ => trivial), HB1.out⟩
end Go.Proofs.Ytaahkggbjpdofaa.M
end
section
/- What a chunk has behind its length, as bytes: told for every kind. -/
namespace Go.Proofs.Ytaahkggbjpdofaa.M
open Go.RowKit Go.Proofs.YtaahkggbjpdofaaW.PrintWords Go.Proofs.YtaahkggbjpdofaaW.PrintLast Go.Proofs.YtaahkggbjpdofaaW.PrintMore
set_option linter.unusedVariables false
set_option linter.unusedSimpArgs false
theorem row4V (g B : Nat) (W : World) (a b c d : Int) (hB : B ≤ g) (h : W.heap[g]? = some (.cells #[.int .u8 a, .int .u8 b, .int .u8 c, .int .u8 d] 5 (0, 0))) : Kd.R (Kd.int .u8) 5 W B (fun _ => True) (.slice (some ⟨g, 0, none⟩) 4 4) [a, b, c, d] :=
  rowAt_R (cap := 4) (n := 4) (xs := [a, b, c, d]) ⟨[.int .u8 a, .int .u8 b, .int .u8 c, .int .u8 d], h, by decide, rfl, rfl, Nat.le_refl _, rfl⟩ hB
def chunk_data.f (k : Nat) (a2 a3 a4 a5 : Int) (l13 l0 : List Int) : Option (List Int) :=
  (chunk_lay.f k l0 4 [wrap64 a2]).bind fun r1 => (chunk_lay.f k r1 2 [IntKind.i64.wrap a3, IntKind.i64.wrap a4]).bind fun r2 => (chunk_lay.f k r2 4 [IntKind.i64.wrap a5]).bind fun r3 => if r3.length + l13.length < 140737488355328 then some (r3 ++ l13) else none
def chunk_value.f (k : Nat) (t a1 a2 a3 a4 a5 a6 a7 a8 a9 : Int) (l10 : List S101) (l11 : List Int) (l12 : List S48) (l13 l0 : List Int) : Option (List Int) :=
  if ofT t = 53 then chunk_data.f k a2 a3 a4 a5 l13 l0 else if ofT t = 80 then chunk_first.f k a2 a6 a7 a8 a9 l12 l0 else if ofT t = 81 then chunk_sack.f k a2 a7 l10 l11 l0 else if ofT t = 82 then chunk_layParams.f k l0 l12 else if ofT t = 83 then chunk_lay.f k l0 4 [wrap64 a2] else if ofT t = 84 then some l0 else (if l0.length + l13.length < 140737488355328 then some (l0 ++ l13) else none)
theorem lay_dataR (k g : Nat) (t a1 a2 a3 a4 a5 a6 a7 a8 a9 : Int) (A10 A11 A12 A13 : Option Addr) (c10 c11 c12 c13 : Nat) (l10 : List S101) (l11 : List Int) (l12 : List S48) (l13 l0 r : List Int) (u : Value) (w0 w : World) (hB : Below w0.heap.size w0 w) (hx : w0.heap[g]? = some (.cells #[.int .u8 t, .int .u8 a1, .int .u32 a2, .int .u16 a3, .int .u16 a4, .int .u32 a5, .int .u32 a6, .int .u32 a7, .int .u16 a8, .int .u16 a9, .slice A10 l10.length c10, .slice A11 l11.length c11, .slice A12 l12.length c12, .slice A13 l13.length c13] 29 (0, 0))) (ho : Kd.R (Kd.int .u8) 5 w w0.heap.size (fun _ => True) u l0) (hr10 : Kd.C k101 w0 A10 l10.length l10) (hc10' : l10.length ≤ c10) (hr11 : Kd.C (Kd.int .u32) w0 A11 l11.length l11) (hc11' : l11.length ≤ c11) (hr12 : Kd.C k48 w0 A12 l12.length l12) (hc12' : l12.length ≤ c12) (hr13 : Kd.C (Kd.int .u8) w0 A13 l13.length l13) (hc13' : l13.length ≤ c13) (h : chunk_data.f k a2 a3 a4 a5 l13 l0 = some r) :
    Calls Try.prog 89 #[.agg #[.pointer (some ⟨g, 0, none⟩)], u] w fun e w' => ∃ v, e = .returned v ∧ Kd.R (Kd.int .u8) 5 w' w0.heap.size (fun _ => True) v r ∧ Below w0.heap.size w0 w' := by
  unfold chunk_data.f at h
  obtain ⟨r1, h1, h⟩ := Option.bind_eq_some_iff.mp h
  obtain ⟨r2, h2, h⟩ := Option.bind_eq_some_iff.mp h
  obtain ⟨r3, h3, h⟩ := Option.bind_eq_some_iff.mp h
  split at h
  case isFalse => cases h
  rename_i hlen
  obtain rfl := Option.some.inj h
  exact lay_data k g t a1 a2 a3 a4 a5 a6 a7 a8 a9 A10 A11 A12 A13 l10.length l11.length l12.length c10 c11 c12 c13 l13 l0 r1 r2 r3 u w0 w hB hx ho hr13 hc13' h1 h2 h3 hlen
theorem setR (k : Nat) (A : Option Addr) (c : Nat) (l r1 : List Int) (n r2 : Int) (w0 W w1 : World) (h : octet_Set.f k l 2 n 2 = some (r1, r2)) (hR : Kd.R (Kd.int .u8) 5 w1 w0.heap.size (fun _ => True) (.slice A l.length c) l) (hB : Below w0.heap.size w0 w1) (hW : Below w1.heap.size w1 W) :
    Calls Try.prog 48 #[.slice A l.length c, .int .i64 2, .int .u64 n, .int .i64 2] W fun e w' => ∃ v, e = .returned (.tuple #[v, .int .i64 r2]) ∧ Kd.R (Kd.int .u8) 5 w' w0.heap.size (fun _ => True) v r1 ∧ Below w0.heap.size w0 w' := by
  obtain ⟨_, hc, hC⟩ := Kd.R_reads' hR
  have hB' := below_step hB hW
  refine (octet_Set.calls k A c l 2 n 2 r1 r2 W (Kd.C_below hC hW) hc h).mono ?_
  rintro e w' ⟨v, rfl, ho, hb⟩
  exact ⟨v, rfl, Kd.R_lower ho hB'.size, below_step hB' hb⟩
theorem lay53W (k g : Nat) (t a1 a2 a3 a4 a5 a6 a7 a8 a9 : Int) (A10 A11 A12 A13 : Option Addr) (c10 c11 c12 c13 : Nat) (l10 : List S101) (l11 : List Int) (l12 : List S48) (l13 r : List Int) (q0 q1 q2 q3 : Int) (w0 W : World) (hx : w0.heap[g]? = some (.cells #[.int .u8 t, .int .u8 a1, .int .u32 a2, .int .u16 a3, .int .u16 a4, .int .u32 a5, .int .u32 a6, .int .u32 a7, .int .u16 a8, .int .u16 a9, .slice A10 l10.length c10, .slice A11 l11.length c11, .slice A12 l12.length c12, .slice A13 l13.length c13] 29 (0, 0)))  (hW : Below w0.heap.size w0 W) (hh : W.heap[w0.heap.size]? = some (.cells #[.int .u8 q0, .int .u8 q1, .int .u8 q2, .int .u8 q3] 5 (0, 0))) (hr10 : Kd.C k101 w0 A10 l10.length l10) (hc10' : l10.length ≤ c10) (hr11 : Kd.C (Kd.int .u32) w0 A11 l11.length l11) (hc11' : l11.length ≤ c11) (hr12 : Kd.C k48 w0 A12 l12.length l12) (hc12' : l12.length ≤ c12) (hr13 : Kd.C (Kd.int .u8) w0 A13 l13.length l13) (hc13' : l13.length ≤ c13) (h : chunk_data.f k a2 a3 a4 a5 l13 [q0, q1, q2, q3] = some r) :
    Calls Try.prog 89 #[.agg #[.pointer (some ⟨g, 0, none⟩)], .slice (some ⟨w0.heap.size, 0, none⟩) 4 4] W fun e w' => ∃ Ao co, e = .returned (.slice Ao r.length co) ∧ Kd.R (Kd.int .u8) 5 w' w0.heap.size (fun _ => True) (.slice Ao r.length co) r ∧ Below w0.heap.size w0 w' := by
  refine (lay_dataR k g t a1 a2 a3 a4 a5 a6 a7 a8 a9 A10 A11 A12 A13 c10 c11 c12 c13 l10 l11 l12 l13 [q0, q1, q2, q3] r _ w0 W hW hx (row4V _ _ _ _ _ _ _ (Nat.le_refl _) hh) hr10 hc10' hr11 hc11' hr12 hc12' hr13 hc13' h).mono ?_
  rintro e w9 ⟨v9, rfl, ho9, hb9⟩
  obtain ⟨Ao, co, eo⟩ := Kd.R_slice ho9
  subst eo
  exact ⟨Ao, co, rfl, ho9, hb9⟩
theorem lay53D (k g : Nat) (t a1 a2 a3 a4 a5 a6 a7 a8 a9 : Int) (A10 A11 A12 A13 : Option Addr) (c10 c11 c12 c13 : Nat) (l10 : List S101) (l11 : List Int) (l12 : List S48) (l13 r : List Int) (q0 q1 q2 q3 : Int) (w0 : World) (hx : w0.heap[g]? = some (.cells #[.int .u8 t, .int .u8 a1, .int .u32 a2, .int .u16 a3, .int .u16 a4, .int .u32 a5, .int .u32 a6, .int .u32 a7, .int .u16 a8, .int .u16 a9, .slice A10 l10.length c10, .slice A11 l11.length c11, .slice A12 l12.length c12, .slice A13 l13.length c13] 29 (0, 0)))  (hr10 : Kd.C k101 w0 A10 l10.length l10) (hc10' : l10.length ≤ c10) (hr11 : Kd.C (Kd.int .u32) w0 A11 l11.length l11) (hc11' : l11.length ≤ c11) (hr12 : Kd.C k48 w0 A12 l12.length l12) (hc12' : l12.length ≤ c12) (hr13 : Kd.C (Kd.int .u8) w0 A13 l13.length l13) (hc13' : l13.length ≤ c13) (h : chunk_data.f k a2 a3 a4 a5 l13 [q0, q1, q2, q3] = some r) :
    Calls Try.prog 89 #[.agg #[.pointer (some ⟨g, 0, none⟩)], .slice (some ⟨w0.heap.size, 0, none⟩) 4 4] (w0.alloc (.cells #[.int .u8 q0, .int .u8 q1, .int .u8 q2, .int .u8 q3] 5 (0, 0))).drew fun e w' => ∃ Ao co, e = .returned (.slice Ao r.length co) ∧ Kd.R (Kd.int .u8) 5 w' w0.heap.size (fun _ => True) (.slice Ao r.length co) r ∧ Below w0.heap.size w0 w' :=
  lay53W k g t a1 a2 a3 a4 a5 a6 a7 a8 a9 A10 A11 A12 A13 c10 c11 c12 c13 l10 l11 l12 l13 r q0 q1 q2 q3 w0 _ hx (below_alloc (Below.refl _ _) _).drew (blk_new w0 _) hr10 hc10' hr11 hc11' hr12 hc12' hr13 hc13' h
theorem lay80W (k g : Nat) (t a1 a2 a3 a4 a5 a6 a7 a8 a9 : Int) (A10 A11 A12 A13 : Option Addr) (c10 c11 c12 c13 : Nat) (l10 : List S101) (l11 : List Int) (l12 : List S48) (l13 r : List Int) (q0 q1 q2 q3 : Int) (w0 W : World) (hx : w0.heap[g]? = some (.cells #[.int .u8 t, .int .u8 a1, .int .u32 a2, .int .u16 a3, .int .u16 a4, .int .u32 a5, .int .u32 a6, .int .u32 a7, .int .u16 a8, .int .u16 a9, .slice A10 l10.length c10, .slice A11 l11.length c11, .slice A12 l12.length c12, .slice A13 l13.length c13] 29 (0, 0)))  (hW : Below w0.heap.size w0 W) (hh : W.heap[w0.heap.size]? = some (.cells #[.int .u8 q0, .int .u8 q1, .int .u8 q2, .int .u8 q3] 5 (0, 0))) (hr10 : Kd.C k101 w0 A10 l10.length l10) (hc10' : l10.length ≤ c10) (hr11 : Kd.C (Kd.int .u32) w0 A11 l11.length l11) (hc11' : l11.length ≤ c11) (hr12 : Kd.C k48 w0 A12 l12.length l12) (hc12' : l12.length ≤ c12) (hr13 : Kd.C (Kd.int .u8) w0 A13 l13.length l13) (hc13' : l13.length ≤ c13) (h : chunk_first.f k a2 a6 a7 a8 a9 l12 [q0, q1, q2, q3] = some r) :
    Calls Try.prog 93 #[.agg #[.pointer (some ⟨g, 0, none⟩)], .slice (some ⟨w0.heap.size, 0, none⟩) 4 4] W fun e w' => ∃ Ao co, e = .returned (.slice Ao r.length co) ∧ Kd.R (Kd.int .u8) 5 w' w0.heap.size (fun _ => True) (.slice Ao r.length co) r ∧ Below w0.heap.size w0 w' := by
  refine (lay_first k g t a1 a2 a3 a4 a5 a6 a7 a8 a9 A10 A11 A12 A13 c10 c11 c12 c13 l10 l11 l12 l13 [q0, q1, q2, q3] r _ w0 W hW hx (row4V _ _ _ _ _ _ _ (Nat.le_refl _) hh) hr10 hc10' hr11 hc11' hr12 hc12' hr13 hc13' h).mono ?_
  rintro e w9 ⟨v9, rfl, ho9, hb9⟩
  obtain ⟨Ao, co, eo⟩ := Kd.R_slice ho9
  subst eo
  exact ⟨Ao, co, rfl, ho9, hb9⟩
theorem lay81W (k g : Nat) (t a1 a2 a3 a4 a5 a6 a7 a8 a9 : Int) (A10 A11 A12 A13 : Option Addr) (c10 c11 c12 c13 : Nat) (l10 : List S101) (l11 : List Int) (l12 : List S48) (l13 r : List Int) (q0 q1 q2 q3 : Int) (w0 W : World) (hx : w0.heap[g]? = some (.cells #[.int .u8 t, .int .u8 a1, .int .u32 a2, .int .u16 a3, .int .u16 a4, .int .u32 a5, .int .u32 a6, .int .u32 a7, .int .u16 a8, .int .u16 a9, .slice A10 l10.length c10, .slice A11 l11.length c11, .slice A12 l12.length c12, .slice A13 l13.length c13] 29 (0, 0)))  (hW : Below w0.heap.size w0 W) (hh : W.heap[w0.heap.size]? = some (.cells #[.int .u8 q0, .int .u8 q1, .int .u8 q2, .int .u8 q3] 5 (0, 0))) (hr10 : Kd.C k101 w0 A10 l10.length l10) (hc10' : l10.length ≤ c10) (hr11 : Kd.C (Kd.int .u32) w0 A11 l11.length l11) (hc11' : l11.length ≤ c11) (hr12 : Kd.C k48 w0 A12 l12.length l12) (hc12' : l12.length ≤ c12) (hr13 : Kd.C (Kd.int .u8) w0 A13 l13.length l13) (hc13' : l13.length ≤ c13) (h : chunk_sack.f k a2 a7 l10 l11 [q0, q1, q2, q3] = some r) :
    Calls Try.prog 97 #[.agg #[.pointer (some ⟨g, 0, none⟩)], .slice (some ⟨w0.heap.size, 0, none⟩) 4 4] W fun e w' => ∃ Ao co, e = .returned (.slice Ao r.length co) ∧ Kd.R (Kd.int .u8) 5 w' w0.heap.size (fun _ => True) (.slice Ao r.length co) r ∧ Below w0.heap.size w0 w' := by
  refine (lay_sack k g t a1 a2 a3 a4 a5 a6 a7 a8 a9 A10 A11 A12 A13 c10 c11 c12 c13 l10 l11 l12 l13 [q0, q1, q2, q3] r _ w0 W hW hx (row4V _ _ _ _ _ _ _ (Nat.le_refl _) hh) hr10 hc10' hr11 hc11' hr12 hc12' hr13 hc13' h).mono ?_
  rintro e w9 ⟨v9, rfl, ho9, hb9⟩
  obtain ⟨Ao, co, eo⟩ := Kd.R_slice ho9
  subst eo
  exact ⟨Ao, co, rfl, ho9, hb9⟩
theorem lay82W (k g : Nat) (t a1 a2 a3 a4 a5 a6 a7 a8 a9 : Int) (A10 A11 A12 A13 : Option Addr) (c10 c11 c12 c13 : Nat) (l10 : List S101) (l11 : List Int) (l12 : List S48) (l13 r : List Int) (q0 q1 q2 q3 : Int) (w0 W : World) (hx : w0.heap[g]? = some (.cells #[.int .u8 t, .int .u8 a1, .int .u32 a2, .int .u16 a3, .int .u16 a4, .int .u32 a5, .int .u32 a6, .int .u32 a7, .int .u16 a8, .int .u16 a9, .slice A10 l10.length c10, .slice A11 l11.length c11, .slice A12 l12.length c12, .slice A13 l13.length c13] 29 (0, 0)))  (hW : Below w0.heap.size w0 W) (hh : W.heap[w0.heap.size]? = some (.cells #[.int .u8 q0, .int .u8 q1, .int .u8 q2, .int .u8 q3] 5 (0, 0))) (hr10 : Kd.C k101 w0 A10 l10.length l10) (hc10' : l10.length ≤ c10) (hr11 : Kd.C (Kd.int .u32) w0 A11 l11.length l11) (hc11' : l11.length ≤ c11) (hr12 : Kd.C k48 w0 A12 l12.length l12) (hc12' : l12.length ≤ c12) (hr13 : Kd.C (Kd.int .u8) w0 A13 l13.length l13) (hc13' : l13.length ≤ c13) (h : chunk_layParams.f k [q0, q1, q2, q3] l12 = some r) :
    Calls Try.prog 99 #[.agg #[.pointer (some ⟨g, 0, none⟩)], .slice (some ⟨w0.heap.size, 0, none⟩) 4 4] W fun e w' => ∃ Ao co, e = .returned (.slice Ao r.length co) ∧ Kd.R (Kd.int .u8) 5 w' w0.heap.size (fun _ => True) (.slice Ao r.length co) r ∧ Below w0.heap.size w0 w' := by
  refine (lay_params k g t a1 a2 a3 a4 a5 a6 a7 a8 a9 A10 A11 A12 A13 c10 c11 c12 c13 l10 l11 l12 l13 [q0, q1, q2, q3] r _ w0 W hW hx (row4V _ _ _ _ _ _ _ (Nat.le_refl _) hh) hr10 hc10' hr11 hc11' hr12 hc12' hr13 hc13' h).mono ?_
  rintro e w9 ⟨v9, rfl, ho9, hb9⟩
  obtain ⟨Ao, co, eo⟩ := Kd.R_slice ho9
  subst eo
  exact ⟨Ao, co, rfl, ho9, hb9⟩
theorem lay83W (k g : Nat) (t a1 a2 a3 a4 a5 a6 a7 a8 a9 : Int) (A10 A11 A12 A13 : Option Addr) (c10 c11 c12 c13 : Nat) (l10 : List S101) (l11 : List Int) (l12 : List S48) (l13 r : List Int) (q0 q1 q2 q3 : Int) (w0 W : World) (hx : w0.heap[g]? = some (.cells #[.int .u8 t, .int .u8 a1, .int .u32 a2, .int .u16 a3, .int .u16 a4, .int .u32 a5, .int .u32 a6, .int .u32 a7, .int .u16 a8, .int .u16 a9, .slice A10 l10.length c10, .slice A11 l11.length c11, .slice A12 l12.length c12, .slice A13 l13.length c13] 29 (0, 0)))  (hW : Below w0.heap.size w0 W) (hh : W.heap[w0.heap.size]? = some (.cells #[.int .u8 q0, .int .u8 q1, .int .u8 q2, .int .u8 q3] 5 (0, 0))) (hr10 : Kd.C k101 w0 A10 l10.length l10) (hc10' : l10.length ≤ c10) (hr11 : Kd.C (Kd.int .u32) w0 A11 l11.length l11) (hc11' : l11.length ≤ c11) (hr12 : Kd.C k48 w0 A12 l12.length l12) (hc12' : l12.length ≤ c12) (hr13 : Kd.C (Kd.int .u8) w0 A13 l13.length l13) (hc13' : l13.length ≤ c13) (h : chunk_lay.f k [q0, q1, q2, q3] 4 [wrap64 a2] = some r) :
    Calls Try.prog 101 #[.agg #[.pointer (some ⟨g, 0, none⟩)], .slice (some ⟨w0.heap.size, 0, none⟩) 4 4] W fun e w' => ∃ Ao co, e = .returned (.slice Ao r.length co) ∧ Kd.R (Kd.int .u8) 5 w' w0.heap.size (fun _ => True) (.slice Ao r.length co) r ∧ Below w0.heap.size w0 w' := by
  refine (lay_number k g t a1 a2 a3 a4 a5 a6 a7 a8 a9 A10 A11 A12 A13 c10 c11 c12 c13 l10 l11 l12 l13 [q0, q1, q2, q3] r _ w0 W hW hx (row4V _ _ _ _ _ _ _ (Nat.le_refl _) hh) hr10 hc10' hr11 hc11' hr12 hc12' hr13 hc13' h).mono ?_
  rintro e w9 ⟨v9, rfl, ho9, hb9⟩
  obtain ⟨Ao, co, eo⟩ := Kd.R_slice ho9
  subst eo
  exact ⟨Ao, co, rfl, ho9, hb9⟩
theorem lay84W (k g : Nat) (t a1 a2 a3 a4 a5 a6 a7 a8 a9 : Int) (A10 A11 A12 A13 : Option Addr) (c10 c11 c12 c13 : Nat) (l10 : List S101) (l11 : List Int) (l12 : List S48) (l13 r : List Int) (q0 q1 q2 q3 : Int) (w0 W : World) (hx : w0.heap[g]? = some (.cells #[.int .u8 t, .int .u8 a1, .int .u32 a2, .int .u16 a3, .int .u16 a4, .int .u32 a5, .int .u32 a6, .int .u32 a7, .int .u16 a8, .int .u16 a9, .slice A10 l10.length c10, .slice A11 l11.length c11, .slice A12 l12.length c12, .slice A13 l13.length c13] 29 (0, 0)))  (hW : Below w0.heap.size w0 W) (hh : W.heap[w0.heap.size]? = some (.cells #[.int .u8 q0, .int .u8 q1, .int .u8 q2, .int .u8 q3] 5 (0, 0))) (hr10 : Kd.C k101 w0 A10 l10.length l10) (hc10' : l10.length ≤ c10) (hr11 : Kd.C (Kd.int .u32) w0 A11 l11.length l11) (hc11' : l11.length ≤ c11) (hr12 : Kd.C k48 w0 A12 l12.length l12) (hc12' : l12.length ≤ c12) (hr13 : Kd.C (Kd.int .u8) w0 A13 l13.length l13) (hc13' : l13.length ≤ c13) (h : some [q0, q1, q2, q3] = some r) :
    Calls Try.prog 103 #[.agg #[.pointer (some ⟨g, 0, none⟩)], .slice (some ⟨w0.heap.size, 0, none⟩) 4 4] W fun e w' => ∃ Ao co, e = .returned (.slice Ao r.length co) ∧ Kd.R (Kd.int .u8) 5 w' w0.heap.size (fun _ => True) (.slice Ao r.length co) r ∧ Below w0.heap.size w0 w' := by
  refine (lay_bareR k g t a1 a2 a3 a4 a5 a6 a7 a8 a9 A10 A11 A12 A13 c10 c11 c12 c13 l10 l11 l12 l13 [q0, q1, q2, q3] r _ w0 W hW hx (row4V _ _ _ _ _ _ _ (Nat.le_refl _) hh) hr10 hc10' hr11 hc11' hr12 hc12' hr13 hc13' h).mono ?_
  rintro e w9 ⟨v9, rfl, ho9, hb9⟩
  obtain ⟨Ao, co, eo⟩ := Kd.R_slice ho9
  subst eo
  exact ⟨Ao, co, rfl, ho9, hb9⟩
theorem lay85W (k g : Nat) (t a1 a2 a3 a4 a5 a6 a7 a8 a9 : Int) (A10 A11 A12 A13 : Option Addr) (c10 c11 c12 c13 : Nat) (l10 : List S101) (l11 : List Int) (l12 : List S48) (l13 r : List Int) (q0 q1 q2 q3 : Int) (w0 W : World) (hx : w0.heap[g]? = some (.cells #[.int .u8 t, .int .u8 a1, .int .u32 a2, .int .u16 a3, .int .u16 a4, .int .u32 a5, .int .u32 a6, .int .u32 a7, .int .u16 a8, .int .u16 a9, .slice A10 l10.length c10, .slice A11 l11.length c11, .slice A12 l12.length c12, .slice A13 l13.length c13] 29 (0, 0)))  (hW : Below w0.heap.size w0 W) (hh : W.heap[w0.heap.size]? = some (.cells #[.int .u8 q0, .int .u8 q1, .int .u8 q2, .int .u8 q3] 5 (0, 0))) (hr10 : Kd.C k101 w0 A10 l10.length l10) (hc10' : l10.length ≤ c10) (hr11 : Kd.C (Kd.int .u32) w0 A11 l11.length l11) (hc11' : l11.length ≤ c11) (hr12 : Kd.C k48 w0 A12 l12.length l12) (hc12' : l12.length ≤ c12) (hr13 : Kd.C (Kd.int .u8) w0 A13 l13.length l13) (hc13' : l13.length ≤ c13) (h : (if [q0, q1, q2, q3].length + l13.length < 140737488355328 then some ([q0, q1, q2, q3] ++ l13) else none) = some r) :
    Calls Try.prog 105 #[.agg #[.pointer (some ⟨g, 0, none⟩)], .slice (some ⟨w0.heap.size, 0, none⟩) 4 4] W fun e w' => ∃ Ao co, e = .returned (.slice Ao r.length co) ∧ Kd.R (Kd.int .u8) 5 w' w0.heap.size (fun _ => True) (.slice Ao r.length co) r ∧ Below w0.heap.size w0 w' := by
  refine (lay_raw k g t a1 a2 a3 a4 a5 a6 a7 a8 a9 A10 A11 A12 A13 c10 c11 c12 c13 l10 l11 l12 l13 [q0, q1, q2, q3] r _ w0 W hW hx (row4V _ _ _ _ _ _ _ (Nat.le_refl _) hh) hr10 hc10' hr11 hc11' hr12 hc12' hr13 hc13' h).mono ?_
  rintro e w9 ⟨v9, rfl, ho9, hb9⟩
  obtain ⟨Ao, co, eo⟩ := Kd.R_slice ho9
  subst eo
  exact ⟨Ao, co, rfl, ho9, hb9⟩
end Go.Proofs.Ytaahkggbjpdofaa.M
end
