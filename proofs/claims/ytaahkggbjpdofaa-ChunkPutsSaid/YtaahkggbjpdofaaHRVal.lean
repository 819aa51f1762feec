/- The document's value of a chunk. -/
import Derived.Test.YtaahkggbjpdofaaHStamp
import Derived.Test.YtaahkggbjpdofaaHOrd
import Derived.Test.YtaahkggbjpdofaaM25
import Derived.Test.YtaahkggbjpdofaaM21
import Derived.WalkSpells
import Derived.LoopN
namespace Go.Proofs.Ytaahkggbjpdofaa.M
open Go.RowKit Go.Proofs.YtaahkggbjpdofaaW.PrintWords Go.Proofs.YtaahkggbjpdofaaW.PrintLast Go.Proofs.YtaahkggbjpdofaaW.PrintMore
set_option linter.unusedVariables false
set_option linter.unusedSimpArgs false
theorem rlay (k p1 : Nat) (n v : Int) (l r : List Int) (u : Value) (w0 W : World) (hB : Below w0.heap.size w0 W) (hp : p1 < W.heap.size)
    (ho : Kd.R (Kd.int .u8) 5 W w0.heap.size (fun k_ => k_ ≠ p1) u l) (h : trunklineref12_lay.f k l v n = some r) :
    Calls Try.prog 35 #[u, .int .u32 v, .int .i64 n] W fun e w' =>
      ∃ v', e = .returned v' ∧ Kd.R (Kd.int .u8) 5 w' w0.heap.size (fun k_ => k_ ≠ p1) v' r ∧ Below w0.heap.size w0 w' ∧ w'.heap[p1]? = W.heap[p1]? := by
  have hown := Kd.own_of_R ho
  have ho1 : Kd.R (Kd.int .u8) 5 W w0.heap.size (fun k_ => k_ ≠ p1 ∧ k_ < W.heap.size) u l := Kd.R_of_own (enc := Value.int .u8) (h1 := fun _ => rfl) hown (fun k_ hk => ⟨ho.1 k_ hk, own_lt hown k_ hk⟩)
  refine (trunklineref12_lay.calls k (fun k_ => k_ ≠ p1 ∧ k_ < W.heap.size) u l v n r w0 W hB ho1 h).mono ?_
  rintro e w' ⟨v', rfl, ho', hb', hk'⟩
  refine ⟨v', rfl, Kd.R_mono ho' (fun k_ hk => ?_), hb', hk'.2 p1 hp (fun hh => hh.1 rfl)⟩
  rcases hk with hk | hk
  · exact hk.1
  · omega
set_option maxHeartbeats 4000000 in
set_option maxRecDepth 100000 in
theorem rval_7 (k : Nat) (a1 a2 a3 a4 a5 a6 a7 a8 a9 : Int) (A10 A11 A12 A13 : Option Addr) (c10 c11 c12 c13 : Nat) (l10 : List S101) (l11 : List Int) (l12 : List S48) (l13 : List Int) (r : List Int) (w : World) (hr10 : Kd.C k101 w A10 l10.length l10) (hc10' : l10.length ≤ c10) (hr11 : Kd.C (Kd.int .u32) w A11 l11.length l11) (hc11' : l11.length ≤ c11) (hr12 : Kd.C k48 w A12 l12.length l12) (hc12' : l12.length ≤ c12) (hr13 : Kd.C (Kd.int .u8) w A13 l13.length l13) (hc13' : l13.length ≤ c13) (h : trunklineref12_lay.f k [] a2 4 = some r) :
    Calls Try.prog 47 #[.agg #[.int .u8 7, .int .u8 a1, .int .u32 a2, .int .u16 a3, .int .u16 a4, .int .u32 a5, .int .u32 a6, .int .u32 a7, .int .u16 a8, .int .u16 a9, .slice A10 l10.length c10, .slice A11 l11.length c11, .slice A12 l12.length c12, .slice A13 l13.length c13]] w fun e w' => ∃ v0_ : Value, e = .returned v0_ ∧ Kd.R (Kd.int .u8) 5 w' w.heap.size (fun _ => True) v0_ r ∧ Below w.heap.size w w' := by
  have H1 := Aside0.mk h
  clear h
  have HHD := Aside0.mk (show trunklineref12_hasData.f 7 = some false from by kernel_rfl)
  have HHP := Aside0.mk (show trunklineref12_hasParams.f 7 = some false from by kernel_rfl)
  have HR10 := Aside0.mk hr10
  have HC10 := Aside0.mk hc10'
  have HR11 := Aside0.mk hr11
  have HC11 := Aside0.mk hc11'
  have HR12 := Aside0.mk hr12
  have HC12 := Aside0.mk hc12'
  have HR13 := Aside0.mk hr13
  have HC13 := Aside0.mk hc13'
  clear hr10 hc10' hr11 hc11' hr12 hc12' hr13 hc13'
  go_enter Try.func47, Try.ntmps47
  go_wp2_with (first | ((with_reducible refine gate_dst (N := 1) rfl ?_); refine box_event ?hg (N := 1) ?hd (cs := #[.int .u8 7, .int .u8 a1, .int .u32 a2, .int .u16 a3, .int .u16 a4, .int .u32 a5, .int .u32 a6, .int .u32 a7, .int .u16 a8, .int .u16 a9, .slice A10 l10.length c10, .slice A11 l11.length c11, .slice A12 l12.length c12, .slice A13 l13.length c13]) (t := 29) ?hr ?_; (case hd => rfl); (case hg => rfl); (case hr => first | (go_simp; done) | (go_simp; rfl)); intro p1 hg0 w1 hbox0 hb0; have HP := Aside0.mk (show w.heap.size ≤ p1 by omega); obtain ⟨hc0, -, hc2, -, -, -, -, -, -, -, -, -, hc12, hc13⟩ := cells14 hbox0; have BX1 := Aside0.mk hbox0; have HB1 := Aside0.mk hb0; clear hg0 hbox0 hb0)
                       | ((with_reducible refine gate_dst (N := 7) rfl ?_); refine Kd.R_lit (Kd.int .u8) (w0 := w) (W := w1) w.heap.size 5 ?hg (N := 7) ?hd (xs := ([] : List Int)) (inner := []) (ok := fun k_ => k_ ≠ p1) (okp := fun _ => False) ?hr ?hp (fun _ hk => hk.elim) (by have := blk_lt BX1.out; omega) HB1.out HB1.out.size (by simp) ?_; (case hd => rfl); (case hg => rfl); (case hr => first | (go_simp; done) | (go_simp; rfl)); (case hp => exact (Reps.none _ _)); intro v2 w2 ho hb hg_ hnew_; have HO2 := Aside0.mk ho; have HB2 := Aside0.mk hb; have hbx := blk_grown BX1.out hg_ (by simp); clear hc0 hc2 hc12 hc13; obtain ⟨hc0, -, hc2, -, -, -, -, -, -, -, -, -, hc12, hc13⟩ := cells14 hbx; have BX2 := Aside0.mk hbx; clear hbx; clear ho hb hg_ hnew_)
                       | (go_at_call 35; (with_reducible refine (rlay k p1 4 a2 [] r v2 w w2 HB2.out (blk_lt BX2.out) HO2.out H1.out).mono ?_); rintro e w3 ⟨v3, rfl, ho, hb, hk⟩; have HO3 := Aside0.mk ho; have HB3 := Aside0.mk hb; have hbx := hk.trans BX2.out; clear hc0 hc2 hc12 hc13; obtain ⟨hc0, -, hc2, -, -, -, -, -, -, -, -, -, hc12, hc13⟩ := cells14 hbx; have BX3 := Aside0.mk hbx; clear hbx; clear ho hb hk)
                       | (go_at_call 46; (with_reducible refine (trunklineref12_hasData.calls 7 false w3 HHD.out).mono ?_); rintro e w4 ⟨rfl, hd⟩; have HO4 := Aside0.mk (Kd.R_below HO3.out hd.below); have HB4 := Aside0.mk (below_step HB3.out hd.below); have hbx := blk_below BX3.out hd.below; clear hc0 hc2 hc12 hc13; obtain ⟨hc0, -, hc2, -, -, -, -, -, -, -, -, -, hc12, hc13⟩ := cells14 hbx; have BX4 := Aside0.mk hbx; clear hbx; clear hd))
  refine wp_loop_rounds 1 ?_
  rw [rounds_succ]
  go_wp2_with (first | (go_at_call 45; (with_reducible refine (trunklineref12_hasParams.calls 7 false w4 HHP.out).mono ?_); rintro e w5 ⟨rfl, hd⟩; have HO5 := Aside0.mk (Kd.R_below HO4.out hd.below); have HB5 := Aside0.mk (below_step HB4.out hd.below); have hbx := blk_below BX4.out hd.below; clear hc0 hc2 hc12 hc13; obtain ⟨hc0, -, hc2, -, -, -, -, -, -, -, -, -, hc12, hc13⟩ := cells14 hbx; have BX5 := Aside0.mk hbx; clear hbx; clear hd))
  go_ret
  exact ⟨_, rfl, Kd.R_mono HO5.out (fun _ _ => trivial), HB5.out⟩
set_option maxHeartbeats 4000000 in
set_option maxRecDepth 100000 in
theorem rval_0 (k : Nat) (a1 a2 a3 a4 a5 a6 a7 a8 a9 : Int) (A10 A11 A12 A13 : Option Addr) (c10 c11 c12 c13 : Nat) (l10 : List S101) (l11 : List Int) (l12 : List S48) (l13 : List Int) (r : List Int) (w : World) (hr10 : Kd.C k101 w A10 l10.length l10) (hc10' : l10.length ≤ c10) (hr11 : Kd.C (Kd.int .u32) w A11 l11.length l11) (hc11' : l11.length ≤ c11) (hr12 : Kd.C k48 w A12 l12.length l12) (hc12' : l12.length ≤ c12) (hr13 : Kd.C (Kd.int .u8) w A13 l13.length l13) (hc13' : l13.length ≤ c13) (h : ((trunklineref12_lay.f k [] a2 4).bind fun r1 => (trunklineref12_lay.f k r1 (a3 % 4294967296) 2).bind fun r2 => (trunklineref12_lay.f k r2 (a4 % 4294967296) 2).bind fun r3 => (trunklineref12_lay.f k r3 a5 4).bind fun r4 => if r4.length + l13.length < 140737488355328 then some (r4 ++ l13) else none) = some r) :
    Calls Try.prog 47 #[.agg #[.int .u8 0, .int .u8 a1, .int .u32 a2, .int .u16 a3, .int .u16 a4, .int .u32 a5, .int .u32 a6, .int .u32 a7, .int .u16 a8, .int .u16 a9, .slice A10 l10.length c10, .slice A11 l11.length c11, .slice A12 l12.length c12, .slice A13 l13.length c13]] w fun e w' => ∃ v0_ : Value, e = .returned v0_ ∧ Kd.R (Kd.int .u8) 5 w' w.heap.size (fun _ => True) v0_ r ∧ Below w.heap.size w w' := by
  obtain ⟨r1, h1, h⟩ := Option.bind_eq_some_iff.mp h
  have H1 := Aside0.mk h1
  clear h1
  obtain ⟨r2, h2, h⟩ := Option.bind_eq_some_iff.mp h
  have H2 := Aside0.mk h2
  clear h2
  obtain ⟨r3, h3, h⟩ := Option.bind_eq_some_iff.mp h
  have H3 := Aside0.mk h3
  clear h3
  obtain ⟨r4, h4, h⟩ := Option.bind_eq_some_iff.mp h
  have H4 := Aside0.mk h4
  clear h4
  split at h
  case isFalse => cases h
  rename_i hlen
  have HL := Aside0.mk hlen
  obtain rfl := Option.some.inj h
  clear h hlen
  have HHP := Aside0.mk (show trunklineref12_hasParams.f 0 = some false from by kernel_rfl)
  have HR10 := Aside0.mk hr10
  have HC10 := Aside0.mk hc10'
  have HR11 := Aside0.mk hr11
  have HC11 := Aside0.mk hc11'
  have HR12 := Aside0.mk hr12
  have HC12 := Aside0.mk hc12'
  have HR13 := Aside0.mk hr13
  have HC13 := Aside0.mk hc13'
  clear hr10 hc10' hr11 hc11' hr12 hc12' hr13 hc13'
  go_enter Try.func47, Try.ntmps47
  go_wp2_with (first | ((with_reducible refine gate_dst (N := 1) rfl ?_); refine box_event ?hg (N := 1) ?hd (cs := #[.int .u8 0, .int .u8 a1, .int .u32 a2, .int .u16 a3, .int .u16 a4, .int .u32 a5, .int .u32 a6, .int .u32 a7, .int .u16 a8, .int .u16 a9, .slice A10 l10.length c10, .slice A11 l11.length c11, .slice A12 l12.length c12, .slice A13 l13.length c13]) (t := 29) ?hr ?_; (case hd => rfl); (case hg => rfl); (case hr => first | (go_simp; done) | (go_simp; rfl)); intro p1 hg0 w1 hbox0 hb0; have HP := Aside0.mk (show w.heap.size ≤ p1 by omega); obtain ⟨hc0, -, hc2, hc3, hc4, hc5, -, -, -, -, -, -, hc12, hc13⟩ := cells14 hbox0; have BX1 := Aside0.mk hbox0; have HB1 := Aside0.mk hb0; clear hg0 hbox0 hb0)
                       | ((with_reducible refine gate_dst (N := 7) rfl ?_); refine Kd.R_lit (Kd.int .u8) (w0 := w) (W := w1) w.heap.size 5 ?hg (N := 7) ?hd (xs := ([] : List Int)) (inner := []) (ok := fun k_ => k_ ≠ p1) (okp := fun _ => False) ?hr ?hp (fun _ hk => hk.elim) (by have := blk_lt BX1.out; omega) HB1.out HB1.out.size (by simp) ?_; (case hd => rfl); (case hg => rfl); (case hr => first | (go_simp; done) | (go_simp; rfl)); (case hp => exact (Reps.none _ _)); intro v2 w2 ho hb hg_ hnew_; have HO2 := Aside0.mk ho; have HB2 := Aside0.mk hb; have hbx := blk_grown BX1.out hg_ (by simp); clear hc0 hc2 hc3 hc4 hc5 hc12 hc13; obtain ⟨hc0, -, hc2, hc3, hc4, hc5, -, -, -, -, -, -, hc12, hc13⟩ := cells14 hbx; have BX2 := Aside0.mk hbx; clear hbx; clear ho hb hg_ hnew_)
                       | (go_at_call 35; (with_reducible refine (rlay k p1 4 a2 [] r1 v2 w w2 HB2.out (blk_lt BX2.out) HO2.out H1.out).mono ?_); rintro e w3 ⟨v3, rfl, ho, hb, hk⟩; have HO3 := Aside0.mk ho; have HB3 := Aside0.mk hb; have hbx := hk.trans BX2.out; clear hc0 hc2 hc3 hc4 hc5 hc12 hc13; obtain ⟨hc0, -, hc2, hc3, hc4, hc5, -, -, -, -, -, -, hc12, hc13⟩ := cells14 hbx; have BX3 := Aside0.mk hbx; clear hbx; clear ho hb hk)
                       | (go_at_call 35; (with_reducible refine (rlay k p1 2 (a3 % 4294967296) r1 r2 v3 w w3 HB3.out (blk_lt BX3.out) HO3.out H2.out).mono ?_); rintro e w4 ⟨v4, rfl, ho, hb, hk⟩; have HO4 := Aside0.mk ho; have HB4 := Aside0.mk hb; have hbx := hk.trans BX3.out; clear hc0 hc2 hc3 hc4 hc5 hc12 hc13; obtain ⟨hc0, -, hc2, hc3, hc4, hc5, -, -, -, -, -, -, hc12, hc13⟩ := cells14 hbx; have BX4 := Aside0.mk hbx; clear hbx; clear ho hb hk)
                       | (go_at_call 35; (with_reducible refine (rlay k p1 2 (a4 % 4294967296) r2 r3 v4 w w4 HB4.out (blk_lt BX4.out) HO4.out H3.out).mono ?_); rintro e w5 ⟨v5, rfl, ho, hb, hk⟩; have HO5 := Aside0.mk ho; have HB5 := Aside0.mk hb; have hbx := hk.trans BX4.out; clear hc0 hc2 hc3 hc4 hc5 hc12 hc13; obtain ⟨hc0, -, hc2, hc3, hc4, hc5, -, -, -, -, -, -, hc12, hc13⟩ := cells14 hbx; have BX5 := Aside0.mk hbx; clear hbx; clear ho hb hk)
                       | (go_at_call 35; (with_reducible refine (rlay k p1 4 a5 r3 r4 v5 w w5 HB5.out (blk_lt BX5.out) HO5.out H4.out).mono ?_); rintro e w6 ⟨v6, rfl, ho, hb, hk⟩; have HO6 := Aside0.mk ho; have HB6 := Aside0.mk hb; have hbx := hk.trans BX5.out; clear hc0 hc2 hc3 hc4 hc5 hc12 hc13; obtain ⟨hc0, -, hc2, hc3, hc4, hc5, -, -, -, -, -, -, hc12, hc13⟩ := cells14 hbx; have BX6 := Aside0.mk hbx; clear hbx; clear ho hb hk)
                       | ((with_reducible refine gate_builtin (b := .append) (xs := #[.tmp 130, .tmp 132]) rfl ?_); at_builtin; refine Kd.R_append_rows (Kd.int .u8) (Rr := (Kd.int .u8).K w6) (w0 := w) w.heap.size rfl (.tmp 130) (.tmp 132) 27 5 (.int .u8 0) 1 rfl Try.underlying27 st_info rfl (by decide) (by decide) v6 r4 l13 A13 l13.length c13 (fun k_ => k_ ≠ p1) (fun _ => False) rfl rfl HO6.out (Kd.C_below HR13.out HB6.out) (fun _ _ h_ => h_) (fun _ h_ => h_.elim) (fun k_ hk_ => by have := blk_lt BX6.out; omega) HB6.out HB6.out.size (by have := HL.out; omega) ?_; intro v7 w7 ho hb hg_ ha_; have HO7 := Aside0.mk ho; have HB7 := Aside0.mk hb; have hbx := blk_grown BX6.out hg_ (fun e_ => (HO6.out.1 p1 e_.symm) rfl); clear hc0 hc2 hc3 hc4 hc5 hc12 hc13; obtain ⟨hc0, -, hc2, hc3, hc4, hc5, -, -, -, -, -, -, hc12, hc13⟩ := cells14 hbx; have BX7 := Aside0.mk hbx; clear hbx ho hb hg_ ha_))
  refine wp_loop_rounds 1 ?_
  rw [rounds_succ]
  go_wp2_with (first | (go_at_call 45; (with_reducible refine (trunklineref12_hasParams.calls 0 false w7 HHP.out).mono ?_); rintro e w8 ⟨rfl, hd⟩; have HO8 := Aside0.mk (Kd.R_below HO7.out hd.below); have HB8 := Aside0.mk (below_step HB7.out hd.below); have hbx := blk_below BX7.out hd.below; clear hc0 hc2 hc3 hc4 hc5 hc12 hc13; obtain ⟨hc0, -, hc2, hc3, hc4, hc5, -, -, -, -, -, -, hc12, hc13⟩ := cells14 hbx; have BX8 := Aside0.mk hbx; clear hbx; clear hd))
  go_ret
  exact ⟨_, rfl, Kd.R_mono HO8.out (fun _ _ => trivial), HB8.out⟩
set_option maxHeartbeats 4000000 in
set_option maxRecDepth 100000 in
theorem rval_bare (k : Nat) (t a1 a2 a3 a4 a5 a6 a7 a8 a9 : Int) (A10 A11 A12 A13 : Option Addr) (c10 c11 c12 c13 : Nat) (l10 : List S101) (l11 : List Int) (l12 : List S48) (l13 : List Int) (r : List Int) (w : World) (hr10 : Kd.C k101 w A10 l10.length l10) (hc10' : l10.length ≤ c10) (hr11 : Kd.C (Kd.int .u32) w A11 l11.length l11) (hc11' : l11.length ≤ c11) (hr12 : Kd.C k48 w A12 l12.length l12) (hc12' : l12.length ≤ c12) (hr13 : Kd.C (Kd.int .u8) w A13 l13.length l13) (hc13' : l13.length ≤ c13) (h0 : t ≠ 0) (h1 : t ≠ 1) (h2 : t ≠ 2) (h3 : t ≠ 3) (h7 : t ≠ 7) (hd : trunklineref12_hasData.f t = some false) (hp : trunklineref12_hasParams.f t = some false) (h : some [] = some r) :
    Calls Try.prog 47 #[.agg #[.int .u8 t, .int .u8 a1, .int .u32 a2, .int .u16 a3, .int .u16 a4, .int .u32 a5, .int .u32 a6, .int .u32 a7, .int .u16 a8, .int .u16 a9, .slice A10 l10.length c10, .slice A11 l11.length c11, .slice A12 l12.length c12, .slice A13 l13.length c13]] w fun e w' => ∃ v0_ : Value, e = .returned v0_ ∧ Kd.R (Kd.int .u8) 5 w' w.heap.size (fun _ => True) v0_ r ∧ Below w.heap.size w w' := by
  obtain rfl := Option.some.inj h
  have HHD := Aside0.mk hd
  have HHP := Aside0.mk hp
  have b0 : (t == 0) = false := beq_eq_false_iff_ne.mpr h0
  have d0 : decide (t = 0) = false := decide_eq_false h0
  have b1 : (t == 1) = false := beq_eq_false_iff_ne.mpr h1
  have d1 : decide (t = 1) = false := decide_eq_false h1
  have b2 : (t == 2) = false := beq_eq_false_iff_ne.mpr h2
  have d2 : decide (t = 2) = false := decide_eq_false h2
  have b3 : (t == 3) = false := beq_eq_false_iff_ne.mpr h3
  have d3 : decide (t = 3) = false := decide_eq_false h3
  have b7 : (t == 7) = false := beq_eq_false_iff_ne.mpr h7
  have d7 : decide (t = 7) = false := decide_eq_false h7
  clear h hd hp h0 h1 h2 h3 h7
  have HR10 := Aside0.mk hr10
  have HC10 := Aside0.mk hc10'
  have HR11 := Aside0.mk hr11
  have HC11 := Aside0.mk hc11'
  have HR12 := Aside0.mk hr12
  have HC12 := Aside0.mk hc12'
  have HR13 := Aside0.mk hr13
  have HC13 := Aside0.mk hc13'
  clear hr10 hc10' hr11 hc11' hr12 hc12' hr13 hc13'
  go_enter Try.func47, Try.ntmps47
  go_wp2_with (first | ((with_reducible refine gate_dst (N := 1) rfl ?_); refine box_event ?hg (N := 1) ?hd (cs := #[.int .u8 t, .int .u8 a1, .int .u32 a2, .int .u16 a3, .int .u16 a4, .int .u32 a5, .int .u32 a6, .int .u32 a7, .int .u16 a8, .int .u16 a9, .slice A10 l10.length c10, .slice A11 l11.length c11, .slice A12 l12.length c12, .slice A13 l13.length c13]) (t := 29) ?hr ?_; (case hd => rfl); (case hg => rfl); (case hr => first | (go_simp; done) | (go_simp; rfl)); intro p1 hg0 w1 hbox0 hb0; have HP := Aside0.mk (show w.heap.size ≤ p1 by omega); obtain ⟨hc0, -, -, -, -, -, -, -, -, -, -, -, hc12, hc13⟩ := cells14 hbox0; have BX1 := Aside0.mk hbox0; have HB1 := Aside0.mk hb0; clear hg0 hbox0 hb0)
                       | ((with_reducible refine gate_dst (N := 7) rfl ?_); refine Kd.R_lit (Kd.int .u8) (w0 := w) (W := w1) w.heap.size 5 ?hg (N := 7) ?hd (xs := ([] : List Int)) (inner := []) (ok := fun k_ => k_ ≠ p1) (okp := fun _ => False) ?hr ?hp (fun _ hk => hk.elim) (by have := blk_lt BX1.out; omega) HB1.out HB1.out.size (by simp) ?_; (case hd => rfl); (case hg => rfl); (case hr => first | (go_simp; done) | (go_simp; rfl)); (case hp => exact (Reps.none _ _)); intro v2 w2 ho hb hg_ hnew_; have HO2 := Aside0.mk ho; have HB2 := Aside0.mk hb; have hbx := blk_grown BX1.out hg_ (by simp); clear hc0 hc12 hc13; obtain ⟨hc0, -, -, -, -, -, -, -, -, -, -, -, hc12, hc13⟩ := cells14 hbx; have BX2 := Aside0.mk hbx; clear hbx; clear ho hb hg_ hnew_)
                       | (go_at_call 46; (with_reducible refine (trunklineref12_hasData.calls t false w2 HHD.out).mono ?_); rintro e w3 ⟨rfl, hd⟩; have HO3 := Aside0.mk (Kd.R_below HO2.out hd.below); have HB3 := Aside0.mk (below_step HB2.out hd.below); have hbx := blk_below BX2.out hd.below; clear hc0 hc12 hc13; obtain ⟨hc0, -, -, -, -, -, -, -, -, -, -, -, hc12, hc13⟩ := cells14 hbx; have BX3 := Aside0.mk hbx; clear hbx; clear hd))
  refine wp_loop_rounds 1 ?_
  rw [rounds_succ]
  go_wp2_with (first | (go_at_call 45; (with_reducible refine (trunklineref12_hasParams.calls t false w3 HHP.out).mono ?_); rintro e w4 ⟨rfl, hd⟩; have HO4 := Aside0.mk (Kd.R_below HO3.out hd.below); have HB4 := Aside0.mk (below_step HB3.out hd.below); have hbx := blk_below BX3.out hd.below; clear hc0 hc12 hc13; obtain ⟨hc0, -, -, -, -, -, -, -, -, -, -, -, hc12, hc13⟩ := cells14 hbx; have BX4 := Aside0.mk hbx; clear hbx; clear hd))
  go_ret
  exact ⟨_, rfl, Kd.R_mono HO4.out (fun _ _ => trivial), HB4.out⟩
set_option maxHeartbeats 4000000 in
set_option maxRecDepth 100000 in
theorem rval_raw (k : Nat) (t a1 a2 a3 a4 a5 a6 a7 a8 a9 : Int) (A10 A11 A12 A13 : Option Addr) (c10 c11 c12 c13 : Nat) (l10 : List S101) (l11 : List Int) (l12 : List S48) (l13 : List Int) (r : List Int) (w : World) (hr10 : Kd.C k101 w A10 l10.length l10) (hc10' : l10.length ≤ c10) (hr11 : Kd.C (Kd.int .u32) w A11 l11.length l11) (hc11' : l11.length ≤ c11) (hr12 : Kd.C k48 w A12 l12.length l12) (hc12' : l12.length ≤ c12) (hr13 : Kd.C (Kd.int .u8) w A13 l13.length l13) (hc13' : l13.length ≤ c13) (h0 : t ≠ 0) (h1 : t ≠ 1) (h2 : t ≠ 2) (h3 : t ≠ 3) (h7 : t ≠ 7) (hd : trunklineref12_hasData.f t = some true) (hp : trunklineref12_hasParams.f t = some false) (h : (if ([] : List Int).length + l13.length < 140737488355328 then some (([] : List Int) ++ l13) else none) = some r) :
    Calls Try.prog 47 #[.agg #[.int .u8 t, .int .u8 a1, .int .u32 a2, .int .u16 a3, .int .u16 a4, .int .u32 a5, .int .u32 a6, .int .u32 a7, .int .u16 a8, .int .u16 a9, .slice A10 l10.length c10, .slice A11 l11.length c11, .slice A12 l12.length c12, .slice A13 l13.length c13]] w fun e w' => ∃ v0_ : Value, e = .returned v0_ ∧ Kd.R (Kd.int .u8) 5 w' w.heap.size (fun _ => True) v0_ r ∧ Below w.heap.size w w' := by
  split at h
  case isFalse => cases h
  rename_i hlen
  have HL := Aside0.mk hlen
  obtain rfl := Option.some.inj h
  have HHD := Aside0.mk hd
  have HHP := Aside0.mk hp
  have b0 : (t == 0) = false := beq_eq_false_iff_ne.mpr h0
  have d0 : decide (t = 0) = false := decide_eq_false h0
  have b1 : (t == 1) = false := beq_eq_false_iff_ne.mpr h1
  have d1 : decide (t = 1) = false := decide_eq_false h1
  have b2 : (t == 2) = false := beq_eq_false_iff_ne.mpr h2
  have d2 : decide (t = 2) = false := decide_eq_false h2
  have b3 : (t == 3) = false := beq_eq_false_iff_ne.mpr h3
  have d3 : decide (t = 3) = false := decide_eq_false h3
  have b7 : (t == 7) = false := beq_eq_false_iff_ne.mpr h7
  have d7 : decide (t = 7) = false := decide_eq_false h7
  clear h hd hp hlen h0 h1 h2 h3 h7
  have HR10 := Aside0.mk hr10
  have HC10 := Aside0.mk hc10'
  have HR11 := Aside0.mk hr11
  have HC11 := Aside0.mk hc11'
  have HR12 := Aside0.mk hr12
  have HC12 := Aside0.mk hc12'
  have HR13 := Aside0.mk hr13
  have HC13 := Aside0.mk hc13'
  clear hr10 hc10' hr11 hc11' hr12 hc12' hr13 hc13'
  go_enter Try.func47, Try.ntmps47
  go_wp2_with (first | ((with_reducible refine gate_dst (N := 1) rfl ?_); refine box_event ?hg (N := 1) ?hd (cs := #[.int .u8 t, .int .u8 a1, .int .u32 a2, .int .u16 a3, .int .u16 a4, .int .u32 a5, .int .u32 a6, .int .u32 a7, .int .u16 a8, .int .u16 a9, .slice A10 l10.length c10, .slice A11 l11.length c11, .slice A12 l12.length c12, .slice A13 l13.length c13]) (t := 29) ?hr ?_; (case hd => rfl); (case hg => rfl); (case hr => first | (go_simp; done) | (go_simp; rfl)); intro p1 hg0 w1 hbox0 hb0; have HP := Aside0.mk (show w.heap.size ≤ p1 by omega); obtain ⟨hc0, -, -, -, -, -, -, -, -, -, -, -, hc12, hc13⟩ := cells14 hbox0; have BX1 := Aside0.mk hbox0; have HB1 := Aside0.mk hb0; clear hg0 hbox0 hb0)
                       | ((with_reducible refine gate_dst (N := 7) rfl ?_); refine Kd.R_lit (Kd.int .u8) (w0 := w) (W := w1) w.heap.size 5 ?hg (N := 7) ?hd (xs := ([] : List Int)) (inner := []) (ok := fun k_ => k_ ≠ p1) (okp := fun _ => False) ?hr ?hp (fun _ hk => hk.elim) (by have := blk_lt BX1.out; omega) HB1.out HB1.out.size (by simp) ?_; (case hd => rfl); (case hg => rfl); (case hr => first | (go_simp; done) | (go_simp; rfl)); (case hp => exact (Reps.none _ _)); intro v2 w2 ho hb hg_ hnew_; have HO2 := Aside0.mk ho; have HB2 := Aside0.mk hb; have hbx := blk_grown BX1.out hg_ (by simp); clear hc0 hc12 hc13; obtain ⟨hc0, -, -, -, -, -, -, -, -, -, -, -, hc12, hc13⟩ := cells14 hbx; have BX2 := Aside0.mk hbx; clear hbx; clear ho hb hg_ hnew_)
                       | (go_at_call 46; (with_reducible refine (trunklineref12_hasData.calls t true w2 HHD.out).mono ?_); rintro e w3 ⟨rfl, hd⟩; have HO3 := Aside0.mk (Kd.R_below HO2.out hd.below); have HB3 := Aside0.mk (below_step HB2.out hd.below); have hbx := blk_below BX2.out hd.below; clear hc0 hc12 hc13; obtain ⟨hc0, -, -, -, -, -, -, -, -, -, -, -, hc12, hc13⟩ := cells14 hbx; have BX3 := Aside0.mk hbx; clear hbx; clear hd)
                       | ((with_reducible refine gate_builtin (b := .append) (xs := #[.tmp 130, .tmp 132]) rfl ?_); at_builtin; refine Kd.R_append_rows (Kd.int .u8) (Rr := (Kd.int .u8).K w3) (w0 := w) w.heap.size rfl (.tmp 130) (.tmp 132) 27 5 (.int .u8 0) 1 rfl Try.underlying27 st_info rfl (by decide) (by decide) v2 [] l13 A13 l13.length c13 (fun k_ => k_ ≠ p1) (fun _ => False) rfl rfl HO3.out (Kd.C_below HR13.out HB3.out) (fun _ _ h_ => h_) (fun _ h_ => h_.elim) (fun k_ hk_ => by have := blk_lt BX3.out; omega) HB3.out HB3.out.size (by have := HL.out; omega) ?_; intro v4 w4 ho hb hg_ ha_; have HO4 := Aside0.mk ho; have HB4 := Aside0.mk hb; have hbx := blk_grown BX3.out hg_ (fun e_ => (HO3.out.1 p1 e_.symm) rfl); clear hc0 hc12 hc13; obtain ⟨hc0, -, -, -, -, -, -, -, -, -, -, -, hc12, hc13⟩ := cells14 hbx; have BX4 := Aside0.mk hbx; clear hbx ho hb hg_ ha_))
  refine wp_loop_rounds 1 ?_
  rw [rounds_succ]
  go_wp2_with (first | (go_at_call 45; (with_reducible refine (trunklineref12_hasParams.calls t false w4 HHP.out).mono ?_); rintro e w5 ⟨rfl, hd⟩; have HO5 := Aside0.mk (Kd.R_below HO4.out hd.below); have HB5 := Aside0.mk (below_step HB4.out hd.below); have hbx := blk_below BX4.out hd.below; clear hc0 hc12 hc13; obtain ⟨hc0, -, -, -, -, -, -, -, -, -, -, -, hc12, hc13⟩ := cells14 hbx; have BX5 := Aside0.mk hbx; clear hbx; clear hd))
  go_ret
  exact ⟨_, rfl, Kd.R_mono HO5.out (fun _ _ => trivial), HB5.out⟩
def refpad.l0 : Nat → List Int → Option (List Int)
  | 0, _ => none
  | k + 1, b => if b.length % 4 = 0 then some b else (if b.length + 1 < 140737488355328 then refpad.l0 k (b ++ [0]) else none)
def refpar.l0 : Nat → List Int → List S48 → Int → Option (List Int)
  | 0, _, _, _ => none
  | k + 1, b, l, i => if i < (l.length : Int) then (if 0 ≤ i then ((refpad.l0 k b).bind fun b1 => (trunklineref12_lay.f k b1 ((rd_T48 l i).f0 % 4294967296) 2).bind fun b2 => (trunklineref12_lay.f k b2 (wrap64 (4 + ((rd_T48 l i).f1.length : Int)) % 4294967296) 2).bind fun b3 => (if b3.length + (rd_T48 l i).f1.length < 140737488355328 then refpar.l0 k (b3 ++ (rd_T48 l i).f1) l (wrap64 (i + 1)) else none)) else none) else some b
set_option maxHeartbeats 4000000 in
set_option maxRecDepth 100000 in
theorem rval_params (k : Nat) (t a1 a2 a3 a4 a5 a6 a7 a8 a9 : Int) (A10 A11 A12 A13 : Option Addr) (c10 c11 c12 c13 : Nat) (l10 : List S101) (l11 : List Int) (l12 : List S48) (l13 : List Int) (r : List Int) (w : World) (hr10 : Kd.C k101 w A10 l10.length l10) (hc10' : l10.length ≤ c10) (hr11 : Kd.C (Kd.int .u32) w A11 l11.length l11) (hc11' : l11.length ≤ c11) (hr12 : Kd.C k48 w A12 l12.length l12) (hc12' : l12.length ≤ c12) (hr13 : Kd.C (Kd.int .u8) w A13 l13.length l13) (hc13' : l13.length ≤ c13) (h0 : t ≠ 0) (h1 : t ≠ 1) (h2 : t ≠ 2) (h3 : t ≠ 3) (h7 : t ≠ 7) (hd : trunklineref12_hasData.f t = some false) (hp : trunklineref12_hasParams.f t = some true) (h : refpar.l0 k [] l12 0 = some r) :
    Calls Try.prog 47 #[.agg #[.int .u8 t, .int .u8 a1, .int .u32 a2, .int .u16 a3, .int .u16 a4, .int .u32 a5, .int .u32 a6, .int .u32 a7, .int .u16 a8, .int .u16 a9, .slice A10 l10.length c10, .slice A11 l11.length c11, .slice A12 l12.length c12, .slice A13 l13.length c13]] w fun e w' => ∃ v0_ : Value, e = .returned v0_ ∧ Kd.R (Kd.int .u8) 5 w' w.heap.size (fun _ => True) v0_ r ∧ Below w.heap.size w w' := by
  have H1 := Aside0.mk h
  have HHD := Aside0.mk hd
  have HHP := Aside0.mk hp
  have b0 : (t == 0) = false := beq_eq_false_iff_ne.mpr h0
  have d0 : decide (t = 0) = false := decide_eq_false h0
  have b1 : (t == 1) = false := beq_eq_false_iff_ne.mpr h1
  have d1 : decide (t = 1) = false := decide_eq_false h1
  have b2 : (t == 2) = false := beq_eq_false_iff_ne.mpr h2
  have d2 : decide (t = 2) = false := decide_eq_false h2
  have b3 : (t == 3) = false := beq_eq_false_iff_ne.mpr h3
  have d3 : decide (t = 3) = false := decide_eq_false h3
  have b7 : (t == 7) = false := beq_eq_false_iff_ne.mpr h7
  have d7 : decide (t = 7) = false := decide_eq_false h7
  clear h hd hp h0 h1 h2 h3 h7
  have HR10 := Aside0.mk hr10
  have HC10 := Aside0.mk hc10'
  have HR11 := Aside0.mk hr11
  have HC11 := Aside0.mk hc11'
  have HR12 := Aside0.mk hr12
  have HC12 := Aside0.mk hc12'
  have HR13 := Aside0.mk hr13
  have HC13 := Aside0.mk hc13'
  clear hr10 hc10' hr11 hc11' hr12 hc12' hr13 hc13'
  go_enter Try.func47, Try.ntmps47
  go_wp2_with (first | ((with_reducible refine gate_dst (N := 1) rfl ?_); refine box_event ?hg (N := 1) ?hd (cs := #[.int .u8 t, .int .u8 a1, .int .u32 a2, .int .u16 a3, .int .u16 a4, .int .u32 a5, .int .u32 a6, .int .u32 a7, .int .u16 a8, .int .u16 a9, .slice A10 l10.length c10, .slice A11 l11.length c11, .slice A12 l12.length c12, .slice A13 l13.length c13]) (t := 29) ?hr ?_; (case hd => rfl); (case hg => rfl); (case hr => first | (go_simp; done) | (go_simp; rfl)); intro p1 hg0 w1 hbox0 hb0; have HP := Aside0.mk (show w.heap.size ≤ p1 by omega); obtain ⟨hc0, -, -, -, -, -, -, -, -, -, -, -, hc12, hc13⟩ := cells14 hbox0; have BX1 := Aside0.mk hbox0; have HB1 := Aside0.mk hb0; clear hg0 hbox0 hb0)
                       | ((with_reducible refine gate_dst (N := 7) rfl ?_); refine Kd.R_lit (Kd.int .u8) (w0 := w) (W := w1) w.heap.size 5 ?hg (N := 7) ?hd (xs := ([] : List Int)) (inner := []) (ok := fun k_ => k_ ≠ p1) (okp := fun _ => False) ?hr ?hp (fun _ hk => hk.elim) (by have := blk_lt BX1.out; omega) HB1.out HB1.out.size (by simp) ?_; (case hd => rfl); (case hg => rfl); (case hr => first | (go_simp; done) | (go_simp; rfl)); (case hp => exact (Reps.none _ _)); intro v2 w2 ho hb hg_ hnew_; have HO2 := Aside0.mk ho; have HB2 := Aside0.mk hb; have hbx := blk_grown BX1.out hg_ (by simp); clear hc0 hc12 hc13; obtain ⟨hc0, -, -, -, -, -, -, -, -, -, -, -, hc12, hc13⟩ := cells14 hbx; have BX2 := Aside0.mk hbx; clear hbx; clear ho hb hg_ hnew_)
                       | (go_at_call 46; (with_reducible refine (trunklineref12_hasData.calls t false w2 HHD.out).mono ?_); rintro e w3 ⟨rfl, hd⟩; have HO3 := Aside0.mk (Kd.R_below HO2.out hd.below); have HB3 := Aside0.mk (below_step HB2.out hd.below); have hbx := blk_below BX2.out hd.below; clear hc0 hc12 hc13; obtain ⟨hc0, -, -, -, -, -, -, -, -, -, -, -, hc12, hc13⟩ := cells14 hbx; have BX3 := Aside0.mk hbx; clear hbx; clear hd))
  go_loopg [3, 6] k (fun kq v3 v6 w' => ∃ (x : List Int) (i : Int), v6 = .int .i64 i ∧ Aside0 (refpar.l0 kq x l12 i = some r) ∧ Aside0 (kq ≤ k) ∧ Aside0 (Kd.R (Kd.int .u8) 5 w' w.heap.size (fun k_ => k_ ≠ p1) v3 x) ∧ Aside0 (Below w.heap.size w w') ∧ Aside0 (w'.heap[p1]? = some (.cells #[.int .u8 t, .int .u8 a1, .int .u32 a2, .int .u16 a3, .int .u16 a4, .int .u32 a5, .int .u32 a6, .int .u32 a7, .int .u16 a8, .int .u16 a9, .slice A10 l10.length c10, .slice A11 l11.length c11, .slice A12 l12.length c12, .slice A13 l13.length c13] 29 (0, 0))))
  case atStart => exact ⟨[], 0, rfl, H1, ⟨Nat.le_refl _⟩, HO3, HB3, BX3⟩
  case round =>
    obtain ⟨x, i, rfl, HA, HK1, HOx, HBx, BXx⟩ := hrel
    clear hc0 hc12 hc13
    have hc0 : World.cell? _ ⟨p1, 0, none⟩ = some (.int .u8 t) := blk_cell BXx.out 0
    have hc12 : World.cell? _ ⟨p1, 12, none⟩ = some (.slice A12 l12.length c12) := blk_cell BXx.out 12
    have hc13 : World.cell? _ ⟨p1, 13, none⟩ = some (.slice A13 l13.length c13) := blk_cell BXx.out 13
    cases gk with
    | zero => exact absurd HA.out (by simp [refpar.l0])
    | succ k1 =>
      have H := HA.out
      clear HA
      simp only [refpar.l0] at H
      by_cases c4 : i < (l12.length : Int)
      · rw [if_pos c4] at H
        have c4b0 : decide (i < (l12.length : Int)) = true := decide_eq_true c4
        by_cases c5 : 0 ≤ i
        · rw [if_pos c5] at H
          obtain ⟨b1, hb1, H⟩ := Option.bind_eq_some_iff.mp H
          obtain ⟨b2, hb2, H⟩ := Option.bind_eq_some_iff.mp H
          obtain ⟨b3, hb3, H⟩ := Option.bind_eq_some_iff.mp H
          by_cases c6 : b3.length + (rd_T48 l12 i).f1.length < 140737488355328
          · rw [if_pos c6] at H
            obtain ⟨z, hz⟩ : ∃ z, z = b3 ++ (rd_T48 l12 i).f1 := ⟨_, rfl⟩
            rw [← hz] at H
            have HZ := Aside0.mk hz
            obtain ⟨q, hq⟩ : ∃ q, q = (rd_T48 l12 i).f1 := ⟨_, rfl⟩
            rw [← hq] at hb3 c6
            have HQ := Aside0.mk hq
            have HH := Aside0.mk H
            have HL := Aside0.mk c6
            have HB1' := Aside0.mk hb1
            have HB2' := Aside0.mk hb2
            have HB3' := Aside0.mk hb3
            have C5 := Aside0.mk c5
            have C4 := Aside0.mk c4
            clear H hz hq c6 hb1 hb2 hb3 c4 c5
            go_wp2_with (first | (go_at_call 45; (with_reducible refine (trunklineref12_hasParams.calls t true _ HHP.out).mono ?_); rintro e w3' ⟨rfl, hd⟩; have HO3' := Aside0.mk (Kd.R_below HOx.out hd.below); have HB3w := Aside0.mk (below_step HBx.out hd.below); have BX3' := Aside0.mk (blk_below BXx.out hd.below); clear hd; clear hc0 hc12 hc13; have hc0 : w3'.cell? ⟨p1, 0, none⟩ = some (.int .u8 t) := blk_cell BX3'.out 0; have hc12 : w3'.cell? ⟨p1, 12, none⟩ = some (.slice A12 l12.length c12) := blk_cell BX3'.out 12; have hc13 : w3'.cell? ⟨p1, 13, none⟩ = some (.slice A13 l13.length c13) := blk_cell BX3'.out 13))
            go_loopg [3] k1 (fun kq v3 w' => ∃ (y : List Int), Aside0 (refpad.l0 kq y = some b1) ∧ Aside0 (kq ≤ k1) ∧ Aside0 (Kd.R (Kd.int .u8) 5 w' w.heap.size (fun k_ => k_ ≠ p1) v3 y) ∧ Aside0 (Below w.heap.size w w') ∧ Aside0 (w'.heap[p1]? = some (.cells #[.int .u8 t, .int .u8 a1, .int .u32 a2, .int .u16 a3, .int .u16 a4, .int .u32 a5, .int .u32 a6, .int .u32 a7, .int .u16 a8, .int .u16 a9, .slice A10 l10.length c10, .slice A11 l11.length c11, .slice A12 l12.length c12, .slice A13 l13.length c13] 29 (0, 0))))
            case atStart => exact ⟨x, HB1', ⟨Nat.le_refl _⟩, HO3', HB3w, BX3'⟩
            case round =>
              obtain ⟨y, HA2, HK2, HOy, HBy, BXy⟩ := hrel
              clear hc0 hc12 hc13
              have hc0 : World.cell? _ ⟨p1, 0, none⟩ = some (.int .u8 t) := blk_cell BXy.out 0
              have hc12 : World.cell? _ ⟨p1, 12, none⟩ = some (.slice A12 l12.length c12) := blk_cell BXy.out 12
              have hc13 : World.cell? _ ⟨p1, 13, none⟩ = some (.slice A13 l13.length c13) := blk_cell BXy.out 13
              cases gk with
              | zero => exact absurd HA2.out (by simp [refpad.l0])
              | succ k2 =>
                have H := HA2.out
                clear HA2
                simp only [refpad.l0] at H
                obtain ⟨Ao, co, eo⟩ := Kd.R_slice HOy.out
                subst eo
                by_cases c7 : y.length % 4 = 0
                · rw [if_pos c7] at H
                  obtain rfl : y = b1 := Option.some.inj H
                  have e0 : Int.tmod (y.length : Int) 4 = 0 := by rw [Int.tmod_eq_emod_of_nonneg (by omega)]; omega
                  have e1 : ((y.length : Int) % 4) = 0 := by omega
                  have f0 : (Int.tmod (y.length : Int) 4 != 0) = false := by rw [e0]; rfl
                  have f1 : (((y.length : Int) % 4) != 0) = false := by rw [e1]; rfl
                  have f2 : (decide (Int.tmod (y.length : Int) 4 = 0)) = true := decide_eq_true e0
                  clear H c7 e0 e1
                  obtain ⟨ad, Ap, cp, e, hx0, hx1, hcp, hCp⟩ := at_T48 HR12.out i C5.out C4.out
                  subst e
                  have hxA := hx0
                  have hxB := hx1
                  replace hx0 := pw_cell_below HBy.out hx0
                  replace hx1 := pw_cell_below HBy.out hx1
                  rw [← HQ.out] at hx1 hcp hCp hxB
                  have HXA := Aside0.mk hxA
                  have HXB := Aside0.mk hxB
                  have HCp := Aside0.mk hCp
                  have hi5 := eq_true C5.out
                  have hi4 := eq_true C4.out
                  clear hxA hxB hCp hcp
                  go_wp2_with (first | (go_at_call 35; (with_reducible refine (rlay k1 p1 2 ((rd_T48 l12 i).f0 % 4294967296) y b2 _ w _ HBy.out (blk_lt BXy.out) HOy.out HB2'.out).mono ?_); rintro e w7 ⟨v7, rfl, ho, hb, hk⟩; have HO7 := Aside0.mk ho; have HB7 := Aside0.mk hb; have BX7 := Aside0.mk (hk.trans BXy.out); clear ho hb hk hx0 hx1; have hx0 := pw_cell_below HB7.out HXA.out; have hx1 := pw_cell_below HB7.out HXB.out; clear hc0 hc12 hc13; have hc0 : w7.cell? ⟨p1, 0, none⟩ = some (.int .u8 t) := blk_cell BX7.out 0; have hc12 : w7.cell? ⟨p1, 12, none⟩ = some (.slice (some ad) l12.length c12) := blk_cell BX7.out 12; have hc13 : w7.cell? ⟨p1, 13, none⟩ = some (.slice A13 l13.length c13) := blk_cell BX7.out 13) | (go_at_call 35; (with_reducible refine (rlay k1 p1 2 (wrap64 (4 + (q.length : Int)) % 4294967296) b2 b3 v7 w _ HB7.out (blk_lt BX7.out) HO7.out HB3'.out).mono ?_); rintro e w8 ⟨v8, rfl, ho, hb, hk⟩; have HO8 := Aside0.mk ho; have HB8 := Aside0.mk hb; have BX8 := Aside0.mk (hk.trans BX7.out); clear ho hb hk hx0 hx1; have hx0 := pw_cell_below HB8.out HXA.out; have hx1 := pw_cell_below HB8.out HXB.out; clear hc0 hc12 hc13; have hc0 : w8.cell? ⟨p1, 0, none⟩ = some (.int .u8 t) := blk_cell BX8.out 0; have hc12 : w8.cell? ⟨p1, 12, none⟩ = some (.slice (some ad) l12.length c12) := blk_cell BX8.out 12; have hc13 : w8.cell? ⟨p1, 13, none⟩ = some (.slice A13 l13.length c13) := blk_cell BX8.out 13) | ((with_reducible refine gate_builtin (b := .append) (xs := #[.tmp 173, .tmp 179]) rfl ?_); at_builtin; refine Kd.R_append_rows (Kd.int .u8) (Rr := (Kd.int .u8).K w8) (w0 := w) w.heap.size rfl (.tmp 173) (.tmp 179) 27 5 (.int .u8 0) 1 rfl Try.underlying27 st_info rfl (by decide) (by decide) v8 b3 q Ap q.length cp (fun k_ => k_ ≠ p1) (fun _ => False) rfl rfl HO8.out (Kd.C_below HCp.out HB8.out) (fun _ _ h_ => h_) (fun _ h_ => h_.elim) (fun k_ hk_ => by have := blk_lt BX8.out; omega) HB8.out HB8.out.size (by have := HL.out; omega) ?_; intro v9 w9 ho hb hg_ ha_; have HO9 := Aside0.mk ho; have HB9 := Aside0.mk hb; have BX9 := Aside0.mk (blk_grown BX8.out hg_ (fun e_ => (HO8.out.1 p1 e_.symm) rfl)); clear ho hb hg_ ha_))
                  go_roundg k1
                  case measure => have := HK1.out; omega
                  case rel => exact ⟨z, wrap64 (i + 1), (by first | rfl | (simp; done)), HH, ⟨by have := HK1.out; omega⟩, ⟨by rw [HZ.out, ← HQ.out]; exact HO9.out⟩, HB9, BX9⟩
                · rw [if_neg c7] at H
                  split at H
                  case isFalse => cases H
                  rename_i hlen
                  have HLN := Aside0.mk hlen
                  have HH2 := Aside0.mk H
                  have e0 : ¬ Int.tmod (y.length : Int) 4 = 0 := by rw [Int.tmod_eq_emod_of_nonneg (by omega)]; omega
                  have e1 : ¬ ((y.length : Int) % 4) = 0 := by omega
                  have f0 : (Int.tmod (y.length : Int) 4 != 0) = true := bne_iff_ne.mpr e0
                  have f1 : (((y.length : Int) % 4) != 0) = true := bne_iff_ne.mpr e1
                  have f2 : (decide (Int.tmod (y.length : Int) 4 = 0)) = false := decide_eq_false e0
                  clear H c7 e0 e1 hlen
                  go_wp2_with (first | ((with_reducible refine gate_builtin (b := .append) (xs := #[.tmp 150, .tmp 151]) rfl ?_); at_builtin; refine Kd.R_append (Kd.int .u8) (w0 := w) w.heap.size rfl (.tmp 150) (.tmp 151) 27 5 (.int .u8 0) 1 rfl Try.underlying27 st_info rfl (by decide) (by decide) (.slice Ao y.length co) y 0 [.int .u8 0] (fun k_ => k_ ≠ p1) (fun _ => False) rfl rfl rfl (fun _ hk => hk.elim) (fun k_ hk_ => by have := blk_lt BXy.out; omega) HOy.out HBy.out HBy.out.size (by have := HLN.out; omega) ?_; intro v9 w9 ho hb hg_ ha_; have HO9 := Aside0.mk ho; have HB9 := Aside0.mk hb; have BX9 := Aside0.mk (blk_grown BXy.out hg_ (fun e_ => (HOy.out.1 p1 e_.symm) rfl)); clear ho hb hg_ ha_))
                  go_roundg k2
                  case measure => have := HK2.out; omega
                  case rel => exact ⟨y ++ [0], HH2, ⟨by have := HK2.out; omega⟩, HO9, HB9, BX9⟩
          · rw [if_neg c6] at H; cases H
        · rw [if_neg c5] at H; cases H
      · rw [if_neg c4] at H
        have c4b0 : decide (i < (l12.length : Int)) = false := decide_eq_false c4
        clear c4
        obtain rfl := Option.some.inj H
        go_wp2_with (first | (go_at_call 45; (with_reducible refine (trunklineref12_hasParams.calls t true _ HHP.out).mono ?_); rintro e w3' ⟨rfl, hd⟩; have HO3' := Aside0.mk (Kd.R_below HOx.out hd.below); have HB3w := Aside0.mk (below_step HBx.out hd.below); have BX3' := Aside0.mk (blk_below BXx.out hd.below); clear hd; clear hc0 hc12 hc13; have hc0 : w3'.cell? ⟨p1, 0, none⟩ = some (.int .u8 t) := blk_cell BX3'.out 0; have hc12 : w3'.cell? ⟨p1, 12, none⟩ = some (.slice A12 l12.length c12) := blk_cell BX3'.out 12; have hc13 : w3'.cell? ⟨p1, 13, none⟩ = some (.slice A13 l13.length c13) := blk_cell BX3'.out 13))
        go_ret
        exact ⟨_, rfl, Kd.R_mono HO3'.out (fun _ _ => trivial), HB3w.out⟩
set_option maxHeartbeats 4000000 in
set_option maxRecDepth 100000 in
theorem rval_1 (k : Nat) (a1 a2 a3 a4 a5 a6 a7 a8 a9 : Int) (A10 A11 A12 A13 : Option Addr) (c10 c11 c12 c13 : Nat) (l10 : List S101) (l11 : List Int) (l12 : List S48) (l13 : List Int) (r : List Int) (w : World) (hr10 : Kd.C k101 w A10 l10.length l10) (hc10' : l10.length ≤ c10) (hr11 : Kd.C (Kd.int .u32) w A11 l11.length l11) (hc11' : l11.length ≤ c11) (hr12 : Kd.C k48 w A12 l12.length l12) (hc12' : l12.length ≤ c12) (hr13 : Kd.C (Kd.int .u8) w A13 l13.length l13) (hc13' : l13.length ≤ c13) (h : ((trunklineref12_lay.f k [] a6 4).bind fun r1 => (trunklineref12_lay.f k r1 a7 4).bind fun r2 => (trunklineref12_lay.f k r2 (a8 % 4294967296) 2).bind fun r3 => (trunklineref12_lay.f k r3 (a9 % 4294967296) 2).bind fun r4 => (trunklineref12_lay.f k r4 a2 4).bind fun r5 => refpar.l0 k r5 l12 0) = some r) :
    Calls Try.prog 47 #[.agg #[.int .u8 1, .int .u8 a1, .int .u32 a2, .int .u16 a3, .int .u16 a4, .int .u32 a5, .int .u32 a6, .int .u32 a7, .int .u16 a8, .int .u16 a9, .slice A10 l10.length c10, .slice A11 l11.length c11, .slice A12 l12.length c12, .slice A13 l13.length c13]] w fun e w' => ∃ v0_ : Value, e = .returned v0_ ∧ Kd.R (Kd.int .u8) 5 w' w.heap.size (fun _ => True) v0_ r ∧ Below w.heap.size w w' := by
  obtain ⟨r1, h1, h⟩ := Option.bind_eq_some_iff.mp h
  have H1 := Aside0.mk h1
  clear h1
  obtain ⟨r2, h2, h⟩ := Option.bind_eq_some_iff.mp h
  have H2 := Aside0.mk h2
  clear h2
  obtain ⟨r3, h3, h⟩ := Option.bind_eq_some_iff.mp h
  have H3 := Aside0.mk h3
  clear h3
  obtain ⟨r4, h4, h⟩ := Option.bind_eq_some_iff.mp h
  have H4 := Aside0.mk h4
  clear h4
  obtain ⟨r5, h5, h⟩ := Option.bind_eq_some_iff.mp h
  have H5 := Aside0.mk h5
  clear h5
  have H6 := Aside0.mk h
  clear h
  have HHD := Aside0.mk (show trunklineref12_hasData.f 1 = some false from by kernel_rfl)
  have HHP := Aside0.mk (show trunklineref12_hasParams.f 1 = some true from by kernel_rfl)
  have HR10 := Aside0.mk hr10
  have HC10 := Aside0.mk hc10'
  have HR11 := Aside0.mk hr11
  have HC11 := Aside0.mk hc11'
  have HR12 := Aside0.mk hr12
  have HC12 := Aside0.mk hc12'
  have HR13 := Aside0.mk hr13
  have HC13 := Aside0.mk hc13'
  clear hr10 hc10' hr11 hc11' hr12 hc12' hr13 hc13'
  go_enter Try.func47, Try.ntmps47
  go_wp2_with (first | ((with_reducible refine gate_dst (N := 1) rfl ?_); refine box_event ?hg (N := 1) ?hd (cs := #[.int .u8 1, .int .u8 a1, .int .u32 a2, .int .u16 a3, .int .u16 a4, .int .u32 a5, .int .u32 a6, .int .u32 a7, .int .u16 a8, .int .u16 a9, .slice A10 l10.length c10, .slice A11 l11.length c11, .slice A12 l12.length c12, .slice A13 l13.length c13]) (t := 29) ?hr ?_; (case hd => rfl); (case hg => rfl); (case hr => first | (go_simp; done) | (go_simp; rfl)); intro p1 hg0 w1 hbox0 hb0; have HP := Aside0.mk (show w.heap.size ≤ p1 by omega); obtain ⟨hc0, -, hc2, -, -, -, hc6, hc7, hc8, hc9, -, -, hc12, hc13⟩ := cells14 hbox0; have BX1 := Aside0.mk hbox0; have HB1 := Aside0.mk hb0; clear hg0 hbox0 hb0)
                       | ((with_reducible refine gate_dst (N := 7) rfl ?_); refine Kd.R_lit (Kd.int .u8) (w0 := w) (W := w1) w.heap.size 5 ?hg (N := 7) ?hd (xs := ([] : List Int)) (inner := []) (ok := fun k_ => k_ ≠ p1) (okp := fun _ => False) ?hr ?hp (fun _ hk => hk.elim) (by have := blk_lt BX1.out; omega) HB1.out HB1.out.size (by simp) ?_; (case hd => rfl); (case hg => rfl); (case hr => first | (go_simp; done) | (go_simp; rfl)); (case hp => exact (Reps.none _ _)); intro v2 w2 ho hb hg_ hnew_; have HO2 := Aside0.mk ho; have HB2 := Aside0.mk hb; have hbx := blk_grown BX1.out hg_ (by simp); clear hc0 hc6 hc7 hc8 hc9 hc2 hc12 hc13; obtain ⟨hc0, -, hc2, -, -, -, hc6, hc7, hc8, hc9, -, -, hc12, hc13⟩ := cells14 hbx; have BX2 := Aside0.mk hbx; clear hbx; clear ho hb hg_ hnew_)
                       | (go_at_call 35; (with_reducible refine (rlay k p1 4 a6 [] r1 v2 w w2 HB2.out (blk_lt BX2.out) HO2.out H1.out).mono ?_); rintro e w3 ⟨v3, rfl, ho, hb, hk⟩; have HO3 := Aside0.mk ho; have HB3 := Aside0.mk hb; have hbx := hk.trans BX2.out; clear hc0 hc6 hc7 hc8 hc9 hc2 hc12 hc13; obtain ⟨hc0, -, hc2, -, -, -, hc6, hc7, hc8, hc9, -, -, hc12, hc13⟩ := cells14 hbx; have BX3 := Aside0.mk hbx; clear hbx; clear ho hb hk)
                       | (go_at_call 35; (with_reducible refine (rlay k p1 4 a7 r1 r2 v3 w w3 HB3.out (blk_lt BX3.out) HO3.out H2.out).mono ?_); rintro e w4 ⟨v4, rfl, ho, hb, hk⟩; have HO4 := Aside0.mk ho; have HB4 := Aside0.mk hb; have hbx := hk.trans BX3.out; clear hc0 hc6 hc7 hc8 hc9 hc2 hc12 hc13; obtain ⟨hc0, -, hc2, -, -, -, hc6, hc7, hc8, hc9, -, -, hc12, hc13⟩ := cells14 hbx; have BX4 := Aside0.mk hbx; clear hbx; clear ho hb hk)
                       | (go_at_call 35; (with_reducible refine (rlay k p1 2 (a8 % 4294967296) r2 r3 v4 w w4 HB4.out (blk_lt BX4.out) HO4.out H3.out).mono ?_); rintro e w5 ⟨v5, rfl, ho, hb, hk⟩; have HO5 := Aside0.mk ho; have HB5 := Aside0.mk hb; have hbx := hk.trans BX4.out; clear hc0 hc6 hc7 hc8 hc9 hc2 hc12 hc13; obtain ⟨hc0, -, hc2, -, -, -, hc6, hc7, hc8, hc9, -, -, hc12, hc13⟩ := cells14 hbx; have BX5 := Aside0.mk hbx; clear hbx; clear ho hb hk)
                       | (go_at_call 35; (with_reducible refine (rlay k p1 2 (a9 % 4294967296) r3 r4 v5 w w5 HB5.out (blk_lt BX5.out) HO5.out H4.out).mono ?_); rintro e w6 ⟨v6, rfl, ho, hb, hk⟩; have HO6 := Aside0.mk ho; have HB6 := Aside0.mk hb; have hbx := hk.trans BX5.out; clear hc0 hc6 hc7 hc8 hc9 hc2 hc12 hc13; obtain ⟨hc0, -, hc2, -, -, -, hc6, hc7, hc8, hc9, -, -, hc12, hc13⟩ := cells14 hbx; have BX6 := Aside0.mk hbx; clear hbx; clear ho hb hk)
                       | (go_at_call 35; (with_reducible refine (rlay k p1 4 a2 r4 r5 v6 w w6 HB6.out (blk_lt BX6.out) HO6.out H5.out).mono ?_); rintro e w7 ⟨v7, rfl, ho, hb, hk⟩; have HO7 := Aside0.mk ho; have HB7 := Aside0.mk hb; have hbx := hk.trans BX6.out; clear hc0 hc6 hc7 hc8 hc9 hc2 hc12 hc13; obtain ⟨hc0, -, hc2, -, -, -, hc6, hc7, hc8, hc9, -, -, hc12, hc13⟩ := cells14 hbx; have BX7 := Aside0.mk hbx; clear hbx; clear ho hb hk)
                       | (go_at_call 46; (with_reducible refine (trunklineref12_hasData.calls 1 false w7 HHD.out).mono ?_); rintro e w8 ⟨rfl, hd⟩; have HO8 := Aside0.mk (Kd.R_below HO7.out hd.below); have HB8 := Aside0.mk (below_step HB7.out hd.below); have hbx := blk_below BX7.out hd.below; clear hc0 hc6 hc7 hc8 hc9 hc2 hc12 hc13; obtain ⟨hc0, -, hc2, -, -, -, hc6, hc7, hc8, hc9, -, -, hc12, hc13⟩ := cells14 hbx; have BX8 := Aside0.mk hbx; clear hbx; clear hd))
  go_loopg [3, 6] k (fun kq v3 v6 w' => ∃ (x : List Int) (i : Int), v6 = .int .i64 i ∧ Aside0 (refpar.l0 kq x l12 i = some r) ∧ Aside0 (kq ≤ k) ∧ Aside0 (Kd.R (Kd.int .u8) 5 w' w.heap.size (fun k_ => k_ ≠ p1) v3 x) ∧ Aside0 (Below w.heap.size w w') ∧ Aside0 (w'.heap[p1]? = some (.cells #[.int .u8 1, .int .u8 a1, .int .u32 a2, .int .u16 a3, .int .u16 a4, .int .u32 a5, .int .u32 a6, .int .u32 a7, .int .u16 a8, .int .u16 a9, .slice A10 l10.length c10, .slice A11 l11.length c11, .slice A12 l12.length c12, .slice A13 l13.length c13] 29 (0, 0))))
  case atStart => exact ⟨r5, 0, rfl, H6, ⟨Nat.le_refl _⟩, HO8, HB8, BX8⟩
  case round =>
    obtain ⟨x, i, rfl, HA, HK1, HOx, HBx, BXx⟩ := hrel
    clear hc0 hc6 hc7 hc8 hc9 hc2 hc12 hc13
    have hc0 : World.cell? _ ⟨p1, 0, none⟩ = some (.int .u8 1) := blk_cell BXx.out 0
    have hc6 : World.cell? _ ⟨p1, 6, none⟩ = some (.int .u32 a6) := blk_cell BXx.out 6
    have hc7 : World.cell? _ ⟨p1, 7, none⟩ = some (.int .u32 a7) := blk_cell BXx.out 7
    have hc8 : World.cell? _ ⟨p1, 8, none⟩ = some (.int .u16 a8) := blk_cell BXx.out 8
    have hc9 : World.cell? _ ⟨p1, 9, none⟩ = some (.int .u16 a9) := blk_cell BXx.out 9
    have hc2 : World.cell? _ ⟨p1, 2, none⟩ = some (.int .u32 a2) := blk_cell BXx.out 2
    have hc12 : World.cell? _ ⟨p1, 12, none⟩ = some (.slice A12 l12.length c12) := blk_cell BXx.out 12
    have hc13 : World.cell? _ ⟨p1, 13, none⟩ = some (.slice A13 l13.length c13) := blk_cell BXx.out 13
    cases gk with
    | zero => exact absurd HA.out (by simp [refpar.l0])
    | succ k1 =>
      have H := HA.out
      clear HA
      simp only [refpar.l0] at H
      by_cases c4 : i < (l12.length : Int)
      · rw [if_pos c4] at H
        have c4b0 : decide (i < (l12.length : Int)) = true := decide_eq_true c4
        by_cases c5 : 0 ≤ i
        · rw [if_pos c5] at H
          obtain ⟨b1, hb1, H⟩ := Option.bind_eq_some_iff.mp H
          obtain ⟨b2, hb2, H⟩ := Option.bind_eq_some_iff.mp H
          obtain ⟨b3, hb3, H⟩ := Option.bind_eq_some_iff.mp H
          by_cases c6 : b3.length + (rd_T48 l12 i).f1.length < 140737488355328
          · rw [if_pos c6] at H
            obtain ⟨z, hz⟩ : ∃ z, z = b3 ++ (rd_T48 l12 i).f1 := ⟨_, rfl⟩
            rw [← hz] at H
            have HZ := Aside0.mk hz
            obtain ⟨q, hq⟩ : ∃ q, q = (rd_T48 l12 i).f1 := ⟨_, rfl⟩
            rw [← hq] at hb3 c6
            have HQ := Aside0.mk hq
            have HH := Aside0.mk H
            have HL := Aside0.mk c6
            have HB1' := Aside0.mk hb1
            have HB2' := Aside0.mk hb2
            have HB3' := Aside0.mk hb3
            have C5 := Aside0.mk c5
            have C4 := Aside0.mk c4
            clear H hz hq c6 hb1 hb2 hb3 c4 c5
            go_wp2_with (first | (go_at_call 45; (with_reducible refine (trunklineref12_hasParams.calls 1 true _ HHP.out).mono ?_); rintro e w3' ⟨rfl, hd⟩; have HO3' := Aside0.mk (Kd.R_below HOx.out hd.below); have HB3w := Aside0.mk (below_step HBx.out hd.below); have BX3' := Aside0.mk (blk_below BXx.out hd.below); clear hd; clear hc0 hc6 hc7 hc8 hc9 hc2 hc12 hc13; have hc0 : w3'.cell? ⟨p1, 0, none⟩ = some (.int .u8 1) := blk_cell BX3'.out 0; have hc6 : w3'.cell? ⟨p1, 6, none⟩ = some (.int .u32 a6) := blk_cell BX3'.out 6; have hc7 : w3'.cell? ⟨p1, 7, none⟩ = some (.int .u32 a7) := blk_cell BX3'.out 7; have hc8 : w3'.cell? ⟨p1, 8, none⟩ = some (.int .u16 a8) := blk_cell BX3'.out 8; have hc9 : w3'.cell? ⟨p1, 9, none⟩ = some (.int .u16 a9) := blk_cell BX3'.out 9; have hc2 : w3'.cell? ⟨p1, 2, none⟩ = some (.int .u32 a2) := blk_cell BX3'.out 2; have hc12 : w3'.cell? ⟨p1, 12, none⟩ = some (.slice A12 l12.length c12) := blk_cell BX3'.out 12; have hc13 : w3'.cell? ⟨p1, 13, none⟩ = some (.slice A13 l13.length c13) := blk_cell BX3'.out 13))
            go_loopg [3] k1 (fun kq v3 w' => ∃ (y : List Int), Aside0 (refpad.l0 kq y = some b1) ∧ Aside0 (kq ≤ k1) ∧ Aside0 (Kd.R (Kd.int .u8) 5 w' w.heap.size (fun k_ => k_ ≠ p1) v3 y) ∧ Aside0 (Below w.heap.size w w') ∧ Aside0 (w'.heap[p1]? = some (.cells #[.int .u8 1, .int .u8 a1, .int .u32 a2, .int .u16 a3, .int .u16 a4, .int .u32 a5, .int .u32 a6, .int .u32 a7, .int .u16 a8, .int .u16 a9, .slice A10 l10.length c10, .slice A11 l11.length c11, .slice A12 l12.length c12, .slice A13 l13.length c13] 29 (0, 0))))
            case atStart => exact ⟨x, HB1', ⟨Nat.le_refl _⟩, HO3', HB3w, BX3'⟩
            case round =>
              obtain ⟨y, HA2, HK2, HOy, HBy, BXy⟩ := hrel
              clear hc0 hc6 hc7 hc8 hc9 hc2 hc12 hc13
              have hc0 : World.cell? _ ⟨p1, 0, none⟩ = some (.int .u8 1) := blk_cell BXy.out 0
              have hc6 : World.cell? _ ⟨p1, 6, none⟩ = some (.int .u32 a6) := blk_cell BXy.out 6
              have hc7 : World.cell? _ ⟨p1, 7, none⟩ = some (.int .u32 a7) := blk_cell BXy.out 7
              have hc8 : World.cell? _ ⟨p1, 8, none⟩ = some (.int .u16 a8) := blk_cell BXy.out 8
              have hc9 : World.cell? _ ⟨p1, 9, none⟩ = some (.int .u16 a9) := blk_cell BXy.out 9
              have hc2 : World.cell? _ ⟨p1, 2, none⟩ = some (.int .u32 a2) := blk_cell BXy.out 2
              have hc12 : World.cell? _ ⟨p1, 12, none⟩ = some (.slice A12 l12.length c12) := blk_cell BXy.out 12
              have hc13 : World.cell? _ ⟨p1, 13, none⟩ = some (.slice A13 l13.length c13) := blk_cell BXy.out 13
              cases gk with
              | zero => exact absurd HA2.out (by simp [refpad.l0])
              | succ k2 =>
                have H := HA2.out
                clear HA2
                simp only [refpad.l0] at H
                obtain ⟨Ao, co, eo⟩ := Kd.R_slice HOy.out
                subst eo
                by_cases c7 : y.length % 4 = 0
                · rw [if_pos c7] at H
                  obtain rfl : y = b1 := Option.some.inj H
                  have e0 : Int.tmod (y.length : Int) 4 = 0 := by rw [Int.tmod_eq_emod_of_nonneg (by omega)]; omega
                  have e1 : ((y.length : Int) % 4) = 0 := by omega
                  have f0 : (Int.tmod (y.length : Int) 4 != 0) = false := by rw [e0]; rfl
                  have f1 : (((y.length : Int) % 4) != 0) = false := by rw [e1]; rfl
                  have f2 : (decide (Int.tmod (y.length : Int) 4 = 0)) = true := decide_eq_true e0
                  clear H c7 e0 e1
                  obtain ⟨ad, Ap, cp, e, hx0, hx1, hcp, hCp⟩ := at_T48 HR12.out i C5.out C4.out
                  subst e
                  have hxA := hx0
                  have hxB := hx1
                  replace hx0 := pw_cell_below HBy.out hx0
                  replace hx1 := pw_cell_below HBy.out hx1
                  rw [← HQ.out] at hx1 hcp hCp hxB
                  have HXA := Aside0.mk hxA
                  have HXB := Aside0.mk hxB
                  have HCp := Aside0.mk hCp
                  have hi5 := eq_true C5.out
                  have hi4 := eq_true C4.out
                  clear hxA hxB hCp hcp
                  go_wp2_with (first | (go_at_call 35; (with_reducible refine (rlay k1 p1 2 ((rd_T48 l12 i).f0 % 4294967296) y b2 _ w _ HBy.out (blk_lt BXy.out) HOy.out HB2'.out).mono ?_); rintro e w7 ⟨v7, rfl, ho, hb, hk⟩; have HO7 := Aside0.mk ho; have HB7 := Aside0.mk hb; have BX7 := Aside0.mk (hk.trans BXy.out); clear ho hb hk hx0 hx1; have hx0 := pw_cell_below HB7.out HXA.out; have hx1 := pw_cell_below HB7.out HXB.out; clear hc0 hc6 hc7 hc8 hc9 hc2 hc12 hc13; obtain ⟨hc0, -, hc2, -, -, -, hc6, hc7, hc8, hc9, -, -, hc12, -⟩ := cells14 BX7.out; have hc13 : w7.cell? ⟨p1, 13, none⟩ = some (.slice A13 l13.length c13) := blk_cell BX7.out 13) | (go_at_call 35; (with_reducible refine (rlay k1 p1 2 (wrap64 (4 + (q.length : Int)) % 4294967296) b2 b3 v7 w _ HB7.out (blk_lt BX7.out) HO7.out HB3'.out).mono ?_); rintro e w8 ⟨v8, rfl, ho, hb, hk⟩; have HO8 := Aside0.mk ho; have HB8 := Aside0.mk hb; have BX8 := Aside0.mk (hk.trans BX7.out); clear ho hb hk hx0 hx1; have hx0 := pw_cell_below HB8.out HXA.out; have hx1 := pw_cell_below HB8.out HXB.out; clear hc0 hc6 hc7 hc8 hc9 hc2 hc12 hc13; obtain ⟨hc0, -, hc2, -, -, -, hc6, hc7, hc8, hc9, -, -, hc12, -⟩ := cells14 BX8.out; have hc13 : w8.cell? ⟨p1, 13, none⟩ = some (.slice A13 l13.length c13) := blk_cell BX8.out 13) | ((with_reducible refine gate_builtin (b := .append) (xs := #[.tmp 173, .tmp 179]) rfl ?_); at_builtin; refine Kd.R_append_rows (Kd.int .u8) (Rr := (Kd.int .u8).K w8) (w0 := w) w.heap.size rfl (.tmp 173) (.tmp 179) 27 5 (.int .u8 0) 1 rfl Try.underlying27 st_info rfl (by decide) (by decide) v8 b3 q Ap q.length cp (fun k_ => k_ ≠ p1) (fun _ => False) rfl rfl HO8.out (Kd.C_below HCp.out HB8.out) (fun _ _ h_ => h_) (fun _ h_ => h_.elim) (fun k_ hk_ => by have := blk_lt BX8.out; omega) HB8.out HB8.out.size (by have := HL.out; omega) ?_; intro v9 w9 ho hb hg_ ha_; have HO9 := Aside0.mk ho; have HB9 := Aside0.mk hb; have BX9 := Aside0.mk (blk_grown BX8.out hg_ (fun e_ => (HO8.out.1 p1 e_.symm) rfl)); clear ho hb hg_ ha_))
                  go_roundg k1
                  case measure => have := HK1.out; omega
                  case rel => exact ⟨z, wrap64 (i + 1), (by first | rfl | (simp; done)), HH, ⟨by have := HK1.out; omega⟩, ⟨by rw [HZ.out, ← HQ.out]; exact HO9.out⟩, HB9, BX9⟩
                · rw [if_neg c7] at H
                  split at H
                  case isFalse => cases H
                  rename_i hlen
                  have HLN := Aside0.mk hlen
                  have HH2 := Aside0.mk H
                  have e0 : ¬ Int.tmod (y.length : Int) 4 = 0 := by rw [Int.tmod_eq_emod_of_nonneg (by omega)]; omega
                  have e1 : ¬ ((y.length : Int) % 4) = 0 := by omega
                  have f0 : (Int.tmod (y.length : Int) 4 != 0) = true := bne_iff_ne.mpr e0
                  have f1 : (((y.length : Int) % 4) != 0) = true := bne_iff_ne.mpr e1
                  have f2 : (decide (Int.tmod (y.length : Int) 4 = 0)) = false := decide_eq_false e0
                  clear H c7 e0 e1 hlen
                  go_wp2_with (first | ((with_reducible refine gate_builtin (b := .append) (xs := #[.tmp 150, .tmp 151]) rfl ?_); at_builtin; refine Kd.R_append (Kd.int .u8) (w0 := w) w.heap.size rfl (.tmp 150) (.tmp 151) 27 5 (.int .u8 0) 1 rfl Try.underlying27 st_info rfl (by decide) (by decide) (.slice Ao y.length co) y 0 [.int .u8 0] (fun k_ => k_ ≠ p1) (fun _ => False) rfl rfl rfl (fun _ hk => hk.elim) (fun k_ hk_ => by have := blk_lt BXy.out; omega) HOy.out HBy.out HBy.out.size (by have := HLN.out; omega) ?_; intro v9 w9 ho hb hg_ ha_; have HO9 := Aside0.mk ho; have HB9 := Aside0.mk hb; have BX9 := Aside0.mk (blk_grown BXy.out hg_ (fun e_ => (HOy.out.1 p1 e_.symm) rfl)); clear ho hb hg_ ha_))
                  go_roundg k2
                  case measure => have := HK2.out; omega
                  case rel => exact ⟨y ++ [0], HH2, ⟨by have := HK2.out; omega⟩, HO9, HB9, BX9⟩
          · rw [if_neg c6] at H; cases H
        · rw [if_neg c5] at H; cases H
      · rw [if_neg c4] at H
        have c4b0 : decide (i < (l12.length : Int)) = false := decide_eq_false c4
        clear c4
        obtain rfl := Option.some.inj H
        go_wp2_with (first | (go_at_call 45; (with_reducible refine (trunklineref12_hasParams.calls 1 true _ HHP.out).mono ?_); rintro e w3' ⟨rfl, hd⟩; have HO3' := Aside0.mk (Kd.R_below HOx.out hd.below); have HB3w := Aside0.mk (below_step HBx.out hd.below); have BX3' := Aside0.mk (blk_below BXx.out hd.below); clear hd; clear hc0 hc6 hc7 hc8 hc9 hc2 hc12 hc13; have hc0 : w3'.cell? ⟨p1, 0, none⟩ = some (.int .u8 1) := blk_cell BX3'.out 0; have hc6 : w3'.cell? ⟨p1, 6, none⟩ = some (.int .u32 a6) := blk_cell BX3'.out 6; have hc7 : w3'.cell? ⟨p1, 7, none⟩ = some (.int .u32 a7) := blk_cell BX3'.out 7; have hc8 : w3'.cell? ⟨p1, 8, none⟩ = some (.int .u16 a8) := blk_cell BX3'.out 8; have hc9 : w3'.cell? ⟨p1, 9, none⟩ = some (.int .u16 a9) := blk_cell BX3'.out 9; have hc2 : w3'.cell? ⟨p1, 2, none⟩ = some (.int .u32 a2) := blk_cell BX3'.out 2; have hc12 : w3'.cell? ⟨p1, 12, none⟩ = some (.slice A12 l12.length c12) := blk_cell BX3'.out 12; have hc13 : w3'.cell? ⟨p1, 13, none⟩ = some (.slice A13 l13.length c13) := blk_cell BX3'.out 13))
        go_ret
        exact ⟨_, rfl, Kd.R_mono HO3'.out (fun _ _ => trivial), HB3w.out⟩
set_option maxHeartbeats 4000000 in
set_option maxRecDepth 100000 in
theorem rval_2 (k : Nat) (a1 a2 a3 a4 a5 a6 a7 a8 a9 : Int) (A10 A11 A12 A13 : Option Addr) (c10 c11 c12 c13 : Nat) (l10 : List S101) (l11 : List Int) (l12 : List S48) (l13 : List Int) (r : List Int) (w : World) (hr10 : Kd.C k101 w A10 l10.length l10) (hc10' : l10.length ≤ c10) (hr11 : Kd.C (Kd.int .u32) w A11 l11.length l11) (hc11' : l11.length ≤ c11) (hr12 : Kd.C k48 w A12 l12.length l12) (hc12' : l12.length ≤ c12) (hr13 : Kd.C (Kd.int .u8) w A13 l13.length l13) (hc13' : l13.length ≤ c13) (h : ((trunklineref12_lay.f k [] a6 4).bind fun r1 => (trunklineref12_lay.f k r1 a7 4).bind fun r2 => (trunklineref12_lay.f k r2 (a8 % 4294967296) 2).bind fun r3 => (trunklineref12_lay.f k r3 (a9 % 4294967296) 2).bind fun r4 => (trunklineref12_lay.f k r4 a2 4).bind fun r5 => refpar.l0 k r5 l12 0) = some r) :
    Calls Try.prog 47 #[.agg #[.int .u8 2, .int .u8 a1, .int .u32 a2, .int .u16 a3, .int .u16 a4, .int .u32 a5, .int .u32 a6, .int .u32 a7, .int .u16 a8, .int .u16 a9, .slice A10 l10.length c10, .slice A11 l11.length c11, .slice A12 l12.length c12, .slice A13 l13.length c13]] w fun e w' => ∃ v0_ : Value, e = .returned v0_ ∧ Kd.R (Kd.int .u8) 5 w' w.heap.size (fun _ => True) v0_ r ∧ Below w.heap.size w w' := by
  obtain ⟨r1, h1, h⟩ := Option.bind_eq_some_iff.mp h
  have H1 := Aside0.mk h1
  clear h1
  obtain ⟨r2, h2, h⟩ := Option.bind_eq_some_iff.mp h
  have H2 := Aside0.mk h2
  clear h2
  obtain ⟨r3, h3, h⟩ := Option.bind_eq_some_iff.mp h
  have H3 := Aside0.mk h3
  clear h3
  obtain ⟨r4, h4, h⟩ := Option.bind_eq_some_iff.mp h
  have H4 := Aside0.mk h4
  clear h4
  obtain ⟨r5, h5, h⟩ := Option.bind_eq_some_iff.mp h
  have H5 := Aside0.mk h5
  clear h5
  have H6 := Aside0.mk h
  clear h
  have HHD := Aside0.mk (show trunklineref12_hasData.f 2 = some false from by kernel_rfl)
  have HHP := Aside0.mk (show trunklineref12_hasParams.f 2 = some true from by kernel_rfl)
  have HR10 := Aside0.mk hr10
  have HC10 := Aside0.mk hc10'
  have HR11 := Aside0.mk hr11
  have HC11 := Aside0.mk hc11'
  have HR12 := Aside0.mk hr12
  have HC12 := Aside0.mk hc12'
  have HR13 := Aside0.mk hr13
  have HC13 := Aside0.mk hc13'
  clear hr10 hc10' hr11 hc11' hr12 hc12' hr13 hc13'
  go_enter Try.func47, Try.ntmps47
  go_wp2_with (first | ((with_reducible refine gate_dst (N := 1) rfl ?_); refine box_event ?hg (N := 1) ?hd (cs := #[.int .u8 2, .int .u8 a1, .int .u32 a2, .int .u16 a3, .int .u16 a4, .int .u32 a5, .int .u32 a6, .int .u32 a7, .int .u16 a8, .int .u16 a9, .slice A10 l10.length c10, .slice A11 l11.length c11, .slice A12 l12.length c12, .slice A13 l13.length c13]) (t := 29) ?hr ?_; (case hd => rfl); (case hg => rfl); (case hr => first | (go_simp; done) | (go_simp; rfl)); intro p1 hg0 w1 hbox0 hb0; have HP := Aside0.mk (show w.heap.size ≤ p1 by omega); obtain ⟨hc0, -, hc2, -, -, -, hc6, hc7, hc8, hc9, -, -, hc12, hc13⟩ := cells14 hbox0; have BX1 := Aside0.mk hbox0; have HB1 := Aside0.mk hb0; clear hg0 hbox0 hb0)
                       | ((with_reducible refine gate_dst (N := 7) rfl ?_); refine Kd.R_lit (Kd.int .u8) (w0 := w) (W := w1) w.heap.size 5 ?hg (N := 7) ?hd (xs := ([] : List Int)) (inner := []) (ok := fun k_ => k_ ≠ p1) (okp := fun _ => False) ?hr ?hp (fun _ hk => hk.elim) (by have := blk_lt BX1.out; omega) HB1.out HB1.out.size (by simp) ?_; (case hd => rfl); (case hg => rfl); (case hr => first | (go_simp; done) | (go_simp; rfl)); (case hp => exact (Reps.none _ _)); intro v2 w2 ho hb hg_ hnew_; have HO2 := Aside0.mk ho; have HB2 := Aside0.mk hb; have hbx := blk_grown BX1.out hg_ (by simp); clear hc0 hc6 hc7 hc8 hc9 hc2 hc12 hc13; obtain ⟨hc0, -, hc2, -, -, -, hc6, hc7, hc8, hc9, -, -, hc12, hc13⟩ := cells14 hbx; have BX2 := Aside0.mk hbx; clear hbx; clear ho hb hg_ hnew_)
                       | (go_at_call 35; (with_reducible refine (rlay k p1 4 a6 [] r1 v2 w w2 HB2.out (blk_lt BX2.out) HO2.out H1.out).mono ?_); rintro e w3 ⟨v3, rfl, ho, hb, hk⟩; have HO3 := Aside0.mk ho; have HB3 := Aside0.mk hb; have hbx := hk.trans BX2.out; clear hc0 hc6 hc7 hc8 hc9 hc2 hc12 hc13; obtain ⟨hc0, -, hc2, -, -, -, hc6, hc7, hc8, hc9, -, -, hc12, hc13⟩ := cells14 hbx; have BX3 := Aside0.mk hbx; clear hbx; clear ho hb hk)
                       | (go_at_call 35; (with_reducible refine (rlay k p1 4 a7 r1 r2 v3 w w3 HB3.out (blk_lt BX3.out) HO3.out H2.out).mono ?_); rintro e w4 ⟨v4, rfl, ho, hb, hk⟩; have HO4 := Aside0.mk ho; have HB4 := Aside0.mk hb; have hbx := hk.trans BX3.out; clear hc0 hc6 hc7 hc8 hc9 hc2 hc12 hc13; obtain ⟨hc0, -, hc2, -, -, -, hc6, hc7, hc8, hc9, -, -, hc12, hc13⟩ := cells14 hbx; have BX4 := Aside0.mk hbx; clear hbx; clear ho hb hk)
                       | (go_at_call 35; (with_reducible refine (rlay k p1 2 (a8 % 4294967296) r2 r3 v4 w w4 HB4.out (blk_lt BX4.out) HO4.out H3.out).mono ?_); rintro e w5 ⟨v5, rfl, ho, hb, hk⟩; have HO5 := Aside0.mk ho; have HB5 := Aside0.mk hb; have hbx := hk.trans BX4.out; clear hc0 hc6 hc7 hc8 hc9 hc2 hc12 hc13; obtain ⟨hc0, -, hc2, -, -, -, hc6, hc7, hc8, hc9, -, -, hc12, hc13⟩ := cells14 hbx; have BX5 := Aside0.mk hbx; clear hbx; clear ho hb hk)
                       | (go_at_call 35; (with_reducible refine (rlay k p1 2 (a9 % 4294967296) r3 r4 v5 w w5 HB5.out (blk_lt BX5.out) HO5.out H4.out).mono ?_); rintro e w6 ⟨v6, rfl, ho, hb, hk⟩; have HO6 := Aside0.mk ho; have HB6 := Aside0.mk hb; have hbx := hk.trans BX5.out; clear hc0 hc6 hc7 hc8 hc9 hc2 hc12 hc13; obtain ⟨hc0, -, hc2, -, -, -, hc6, hc7, hc8, hc9, -, -, hc12, hc13⟩ := cells14 hbx; have BX6 := Aside0.mk hbx; clear hbx; clear ho hb hk)
                       | (go_at_call 35; (with_reducible refine (rlay k p1 4 a2 r4 r5 v6 w w6 HB6.out (blk_lt BX6.out) HO6.out H5.out).mono ?_); rintro e w7 ⟨v7, rfl, ho, hb, hk⟩; have HO7 := Aside0.mk ho; have HB7 := Aside0.mk hb; have hbx := hk.trans BX6.out; clear hc0 hc6 hc7 hc8 hc9 hc2 hc12 hc13; obtain ⟨hc0, -, hc2, -, -, -, hc6, hc7, hc8, hc9, -, -, hc12, hc13⟩ := cells14 hbx; have BX7 := Aside0.mk hbx; clear hbx; clear ho hb hk)
                       | (go_at_call 46; (with_reducible refine (trunklineref12_hasData.calls 2 false w7 HHD.out).mono ?_); rintro e w8 ⟨rfl, hd⟩; have HO8 := Aside0.mk (Kd.R_below HO7.out hd.below); have HB8 := Aside0.mk (below_step HB7.out hd.below); have hbx := blk_below BX7.out hd.below; clear hc0 hc6 hc7 hc8 hc9 hc2 hc12 hc13; obtain ⟨hc0, -, hc2, -, -, -, hc6, hc7, hc8, hc9, -, -, hc12, hc13⟩ := cells14 hbx; have BX8 := Aside0.mk hbx; clear hbx; clear hd))
  go_loopg [3, 6] k (fun kq v3 v6 w' => ∃ (x : List Int) (i : Int), v6 = .int .i64 i ∧ Aside0 (refpar.l0 kq x l12 i = some r) ∧ Aside0 (kq ≤ k) ∧ Aside0 (Kd.R (Kd.int .u8) 5 w' w.heap.size (fun k_ => k_ ≠ p1) v3 x) ∧ Aside0 (Below w.heap.size w w') ∧ Aside0 (w'.heap[p1]? = some (.cells #[.int .u8 2, .int .u8 a1, .int .u32 a2, .int .u16 a3, .int .u16 a4, .int .u32 a5, .int .u32 a6, .int .u32 a7, .int .u16 a8, .int .u16 a9, .slice A10 l10.length c10, .slice A11 l11.length c11, .slice A12 l12.length c12, .slice A13 l13.length c13] 29 (0, 0))))
  case atStart => exact ⟨r5, 0, rfl, H6, ⟨Nat.le_refl _⟩, HO8, HB8, BX8⟩
  case round =>
    obtain ⟨x, i, rfl, HA, HK1, HOx, HBx, BXx⟩ := hrel
    clear hc0 hc6 hc7 hc8 hc9 hc2 hc12 hc13
    have hc0 : World.cell? _ ⟨p1, 0, none⟩ = some (.int .u8 2) := blk_cell BXx.out 0
    have hc6 : World.cell? _ ⟨p1, 6, none⟩ = some (.int .u32 a6) := blk_cell BXx.out 6
    have hc7 : World.cell? _ ⟨p1, 7, none⟩ = some (.int .u32 a7) := blk_cell BXx.out 7
    have hc8 : World.cell? _ ⟨p1, 8, none⟩ = some (.int .u16 a8) := blk_cell BXx.out 8
    have hc9 : World.cell? _ ⟨p1, 9, none⟩ = some (.int .u16 a9) := blk_cell BXx.out 9
    have hc2 : World.cell? _ ⟨p1, 2, none⟩ = some (.int .u32 a2) := blk_cell BXx.out 2
    have hc12 : World.cell? _ ⟨p1, 12, none⟩ = some (.slice A12 l12.length c12) := blk_cell BXx.out 12
    have hc13 : World.cell? _ ⟨p1, 13, none⟩ = some (.slice A13 l13.length c13) := blk_cell BXx.out 13
    cases gk with
    | zero => exact absurd HA.out (by simp [refpar.l0])
    | succ k1 =>
      have H := HA.out
      clear HA
      simp only [refpar.l0] at H
      by_cases c4 : i < (l12.length : Int)
      · rw [if_pos c4] at H
        have c4b0 : decide (i < (l12.length : Int)) = true := decide_eq_true c4
        by_cases c5 : 0 ≤ i
        · rw [if_pos c5] at H
          obtain ⟨b1, hb1, H⟩ := Option.bind_eq_some_iff.mp H
          obtain ⟨b2, hb2, H⟩ := Option.bind_eq_some_iff.mp H
          obtain ⟨b3, hb3, H⟩ := Option.bind_eq_some_iff.mp H
          by_cases c6 : b3.length + (rd_T48 l12 i).f1.length < 140737488355328
          · rw [if_pos c6] at H
            obtain ⟨z, hz⟩ : ∃ z, z = b3 ++ (rd_T48 l12 i).f1 := ⟨_, rfl⟩
            rw [← hz] at H
            have HZ := Aside0.mk hz
            obtain ⟨q, hq⟩ : ∃ q, q = (rd_T48 l12 i).f1 := ⟨_, rfl⟩
            rw [← hq] at hb3 c6
            have HQ := Aside0.mk hq
            have HH := Aside0.mk H
            have HL := Aside0.mk c6
            have HB1' := Aside0.mk hb1
            have HB2' := Aside0.mk hb2
            have HB3' := Aside0.mk hb3
            have C5 := Aside0.mk c5
            have C4 := Aside0.mk c4
            clear H hz hq c6 hb1 hb2 hb3 c4 c5
            go_wp2_with (first | (go_at_call 45; (with_reducible refine (trunklineref12_hasParams.calls 2 true _ HHP.out).mono ?_); rintro e w3' ⟨rfl, hd⟩; have HO3' := Aside0.mk (Kd.R_below HOx.out hd.below); have HB3w := Aside0.mk (below_step HBx.out hd.below); have BX3' := Aside0.mk (blk_below BXx.out hd.below); clear hd; clear hc0 hc6 hc7 hc8 hc9 hc2 hc12 hc13; have hc0 : w3'.cell? ⟨p1, 0, none⟩ = some (.int .u8 2) := blk_cell BX3'.out 0; have hc6 : w3'.cell? ⟨p1, 6, none⟩ = some (.int .u32 a6) := blk_cell BX3'.out 6; have hc7 : w3'.cell? ⟨p1, 7, none⟩ = some (.int .u32 a7) := blk_cell BX3'.out 7; have hc8 : w3'.cell? ⟨p1, 8, none⟩ = some (.int .u16 a8) := blk_cell BX3'.out 8; have hc9 : w3'.cell? ⟨p1, 9, none⟩ = some (.int .u16 a9) := blk_cell BX3'.out 9; have hc2 : w3'.cell? ⟨p1, 2, none⟩ = some (.int .u32 a2) := blk_cell BX3'.out 2; have hc12 : w3'.cell? ⟨p1, 12, none⟩ = some (.slice A12 l12.length c12) := blk_cell BX3'.out 12; have hc13 : w3'.cell? ⟨p1, 13, none⟩ = some (.slice A13 l13.length c13) := blk_cell BX3'.out 13))
            go_loopg [3] k1 (fun kq v3 w' => ∃ (y : List Int), Aside0 (refpad.l0 kq y = some b1) ∧ Aside0 (kq ≤ k1) ∧ Aside0 (Kd.R (Kd.int .u8) 5 w' w.heap.size (fun k_ => k_ ≠ p1) v3 y) ∧ Aside0 (Below w.heap.size w w') ∧ Aside0 (w'.heap[p1]? = some (.cells #[.int .u8 2, .int .u8 a1, .int .u32 a2, .int .u16 a3, .int .u16 a4, .int .u32 a5, .int .u32 a6, .int .u32 a7, .int .u16 a8, .int .u16 a9, .slice A10 l10.length c10, .slice A11 l11.length c11, .slice A12 l12.length c12, .slice A13 l13.length c13] 29 (0, 0))))
            case atStart => exact ⟨x, HB1', ⟨Nat.le_refl _⟩, HO3', HB3w, BX3'⟩
            case round =>
              obtain ⟨y, HA2, HK2, HOy, HBy, BXy⟩ := hrel
              clear hc0 hc6 hc7 hc8 hc9 hc2 hc12 hc13
              have hc0 : World.cell? _ ⟨p1, 0, none⟩ = some (.int .u8 2) := blk_cell BXy.out 0
              have hc6 : World.cell? _ ⟨p1, 6, none⟩ = some (.int .u32 a6) := blk_cell BXy.out 6
              have hc7 : World.cell? _ ⟨p1, 7, none⟩ = some (.int .u32 a7) := blk_cell BXy.out 7
              have hc8 : World.cell? _ ⟨p1, 8, none⟩ = some (.int .u16 a8) := blk_cell BXy.out 8
              have hc9 : World.cell? _ ⟨p1, 9, none⟩ = some (.int .u16 a9) := blk_cell BXy.out 9
              have hc2 : World.cell? _ ⟨p1, 2, none⟩ = some (.int .u32 a2) := blk_cell BXy.out 2
              have hc12 : World.cell? _ ⟨p1, 12, none⟩ = some (.slice A12 l12.length c12) := blk_cell BXy.out 12
              have hc13 : World.cell? _ ⟨p1, 13, none⟩ = some (.slice A13 l13.length c13) := blk_cell BXy.out 13
              cases gk with
              | zero => exact absurd HA2.out (by simp [refpad.l0])
              | succ k2 =>
                have H := HA2.out
                clear HA2
                simp only [refpad.l0] at H
                obtain ⟨Ao, co, eo⟩ := Kd.R_slice HOy.out
                subst eo
                by_cases c7 : y.length % 4 = 0
                · rw [if_pos c7] at H
                  obtain rfl : y = b1 := Option.some.inj H
                  have e0 : Int.tmod (y.length : Int) 4 = 0 := by rw [Int.tmod_eq_emod_of_nonneg (by omega)]; omega
                  have e1 : ((y.length : Int) % 4) = 0 := by omega
                  have f0 : (Int.tmod (y.length : Int) 4 != 0) = false := by rw [e0]; rfl
                  have f1 : (((y.length : Int) % 4) != 0) = false := by rw [e1]; rfl
                  have f2 : (decide (Int.tmod (y.length : Int) 4 = 0)) = true := decide_eq_true e0
                  clear H c7 e0 e1
                  obtain ⟨ad, Ap, cp, e, hx0, hx1, hcp, hCp⟩ := at_T48 HR12.out i C5.out C4.out
                  subst e
                  have hxA := hx0
                  have hxB := hx1
                  replace hx0 := pw_cell_below HBy.out hx0
                  replace hx1 := pw_cell_below HBy.out hx1
                  rw [← HQ.out] at hx1 hcp hCp hxB
                  have HXA := Aside0.mk hxA
                  have HXB := Aside0.mk hxB
                  have HCp := Aside0.mk hCp
                  have hi5 := eq_true C5.out
                  have hi4 := eq_true C4.out
                  clear hxA hxB hCp hcp
                  go_wp2_with (first | (go_at_call 35; (with_reducible refine (rlay k1 p1 2 ((rd_T48 l12 i).f0 % 4294967296) y b2 _ w _ HBy.out (blk_lt BXy.out) HOy.out HB2'.out).mono ?_); rintro e w7 ⟨v7, rfl, ho, hb, hk⟩; have HO7 := Aside0.mk ho; have HB7 := Aside0.mk hb; have BX7 := Aside0.mk (hk.trans BXy.out); clear ho hb hk hx0 hx1; have hx0 := pw_cell_below HB7.out HXA.out; have hx1 := pw_cell_below HB7.out HXB.out; clear hc0 hc6 hc7 hc8 hc9 hc2 hc12 hc13; obtain ⟨hc0, -, hc2, -, -, -, hc6, hc7, hc8, hc9, -, -, hc12, -⟩ := cells14 BX7.out; have hc13 : w7.cell? ⟨p1, 13, none⟩ = some (.slice A13 l13.length c13) := blk_cell BX7.out 13) | (go_at_call 35; (with_reducible refine (rlay k1 p1 2 (wrap64 (4 + (q.length : Int)) % 4294967296) b2 b3 v7 w _ HB7.out (blk_lt BX7.out) HO7.out HB3'.out).mono ?_); rintro e w8 ⟨v8, rfl, ho, hb, hk⟩; have HO8 := Aside0.mk ho; have HB8 := Aside0.mk hb; have BX8 := Aside0.mk (hk.trans BX7.out); clear ho hb hk hx0 hx1; have hx0 := pw_cell_below HB8.out HXA.out; have hx1 := pw_cell_below HB8.out HXB.out; clear hc0 hc6 hc7 hc8 hc9 hc2 hc12 hc13; obtain ⟨hc0, -, hc2, -, -, -, hc6, hc7, hc8, hc9, -, -, hc12, -⟩ := cells14 BX8.out; have hc13 : w8.cell? ⟨p1, 13, none⟩ = some (.slice A13 l13.length c13) := blk_cell BX8.out 13) | ((with_reducible refine gate_builtin (b := .append) (xs := #[.tmp 173, .tmp 179]) rfl ?_); at_builtin; refine Kd.R_append_rows (Kd.int .u8) (Rr := (Kd.int .u8).K w8) (w0 := w) w.heap.size rfl (.tmp 173) (.tmp 179) 27 5 (.int .u8 0) 1 rfl Try.underlying27 st_info rfl (by decide) (by decide) v8 b3 q Ap q.length cp (fun k_ => k_ ≠ p1) (fun _ => False) rfl rfl HO8.out (Kd.C_below HCp.out HB8.out) (fun _ _ h_ => h_) (fun _ h_ => h_.elim) (fun k_ hk_ => by have := blk_lt BX8.out; omega) HB8.out HB8.out.size (by have := HL.out; omega) ?_; intro v9 w9 ho hb hg_ ha_; have HO9 := Aside0.mk ho; have HB9 := Aside0.mk hb; have BX9 := Aside0.mk (blk_grown BX8.out hg_ (fun e_ => (HO8.out.1 p1 e_.symm) rfl)); clear ho hb hg_ ha_))
                  go_roundg k1
                  case measure => have := HK1.out; omega
                  case rel => exact ⟨z, wrap64 (i + 1), (by first | rfl | (simp; done)), HH, ⟨by have := HK1.out; omega⟩, ⟨by rw [HZ.out, ← HQ.out]; exact HO9.out⟩, HB9, BX9⟩
                · rw [if_neg c7] at H
                  split at H
                  case isFalse => cases H
                  rename_i hlen
                  have HLN := Aside0.mk hlen
                  have HH2 := Aside0.mk H
                  have e0 : ¬ Int.tmod (y.length : Int) 4 = 0 := by rw [Int.tmod_eq_emod_of_nonneg (by omega)]; omega
                  have e1 : ¬ ((y.length : Int) % 4) = 0 := by omega
                  have f0 : (Int.tmod (y.length : Int) 4 != 0) = true := bne_iff_ne.mpr e0
                  have f1 : (((y.length : Int) % 4) != 0) = true := bne_iff_ne.mpr e1
                  have f2 : (decide (Int.tmod (y.length : Int) 4 = 0)) = false := decide_eq_false e0
                  clear H c7 e0 e1 hlen
                  go_wp2_with (first | ((with_reducible refine gate_builtin (b := .append) (xs := #[.tmp 150, .tmp 151]) rfl ?_); at_builtin; refine Kd.R_append (Kd.int .u8) (w0 := w) w.heap.size rfl (.tmp 150) (.tmp 151) 27 5 (.int .u8 0) 1 rfl Try.underlying27 st_info rfl (by decide) (by decide) (.slice Ao y.length co) y 0 [.int .u8 0] (fun k_ => k_ ≠ p1) (fun _ => False) rfl rfl rfl (fun _ hk => hk.elim) (fun k_ hk_ => by have := blk_lt BXy.out; omega) HOy.out HBy.out HBy.out.size (by have := HLN.out; omega) ?_; intro v9 w9 ho hb hg_ ha_; have HO9 := Aside0.mk ho; have HB9 := Aside0.mk hb; have BX9 := Aside0.mk (blk_grown BXy.out hg_ (fun e_ => (HOy.out.1 p1 e_.symm) rfl)); clear ho hb hg_ ha_))
                  go_roundg k2
                  case measure => have := HK2.out; omega
                  case rel => exact ⟨y ++ [0], HH2, ⟨by have := HK2.out; omega⟩, HO9, HB9, BX9⟩
          · rw [if_neg c6] at H; cases H
        · rw [if_neg c5] at H; cases H
      · rw [if_neg c4] at H
        have c4b0 : decide (i < (l12.length : Int)) = false := decide_eq_false c4
        clear c4
        obtain rfl := Option.some.inj H
        go_wp2_with (first | (go_at_call 45; (with_reducible refine (trunklineref12_hasParams.calls 2 true _ HHP.out).mono ?_); rintro e w3' ⟨rfl, hd⟩; have HO3' := Aside0.mk (Kd.R_below HOx.out hd.below); have HB3w := Aside0.mk (below_step HBx.out hd.below); have BX3' := Aside0.mk (blk_below BXx.out hd.below); clear hd; clear hc0 hc6 hc7 hc8 hc9 hc2 hc12 hc13; have hc0 : w3'.cell? ⟨p1, 0, none⟩ = some (.int .u8 2) := blk_cell BX3'.out 0; have hc6 : w3'.cell? ⟨p1, 6, none⟩ = some (.int .u32 a6) := blk_cell BX3'.out 6; have hc7 : w3'.cell? ⟨p1, 7, none⟩ = some (.int .u32 a7) := blk_cell BX3'.out 7; have hc8 : w3'.cell? ⟨p1, 8, none⟩ = some (.int .u16 a8) := blk_cell BX3'.out 8; have hc9 : w3'.cell? ⟨p1, 9, none⟩ = some (.int .u16 a9) := blk_cell BX3'.out 9; have hc2 : w3'.cell? ⟨p1, 2, none⟩ = some (.int .u32 a2) := blk_cell BX3'.out 2; have hc12 : w3'.cell? ⟨p1, 12, none⟩ = some (.slice A12 l12.length c12) := blk_cell BX3'.out 12; have hc13 : w3'.cell? ⟨p1, 13, none⟩ = some (.slice A13 l13.length c13) := blk_cell BX3'.out 13))
        go_ret
        exact ⟨_, rfl, Kd.R_mono HO3'.out (fun _ _ => trivial), HB3w.out⟩
def refblk.l0 : Nat → List Int → List S101 → Int → Option (List Int)
  | 0, _, _, _ => none
  | k + 1, b, l, i => if i < (l.length : Int) then (if 0 ≤ i then ((trunklineref12_lay.f k b ((rd_T101 l i).f0 % 4294967296) 2).bind fun b1 => (trunklineref12_lay.f k b1 ((rd_T101 l i).f1 % 4294967296) 2).bind fun b2 => refblk.l0 k b2 l (wrap64 (i + 1))) else none) else some b
def refdup.l0 : Nat → List Int → List Int → Int → Option (List Int)
  | 0, _, _, _ => none
  | k + 1, b, l, i => if i < (l.length : Int) then (if 0 ≤ i then ((trunklineref12_lay.f k b (rd l i) 4).bind fun b1 => refdup.l0 k b1 l (wrap64 (i + 1))) else none) else some b
set_option maxHeartbeats 4000000 in
set_option maxRecDepth 100000 in
theorem rval_3 (k : Nat) (a1 a2 a3 a4 a5 a6 a7 a8 a9 : Int) (A10 A11 A12 A13 : Option Addr) (c10 c11 c12 c13 : Nat) (l10 : List S101) (l11 : List Int) (l12 : List S48) (l13 : List Int) (r : List Int) (w : World) (hr10 : Kd.C k101 w A10 l10.length l10) (hc10' : l10.length ≤ c10) (hr11 : Kd.C (Kd.int .u32) w A11 l11.length l11) (hc11' : l11.length ≤ c11) (hr12 : Kd.C k48 w A12 l12.length l12) (hc12' : l12.length ≤ c12) (hr13 : Kd.C (Kd.int .u8) w A13 l13.length l13) (hc13' : l13.length ≤ c13) (h : ((trunklineref12_lay.f k [] a2 4).bind fun r1 => (trunklineref12_lay.f k r1 a7 4).bind fun r2 => (trunklineref12_lay.f k r2 ((l10.length : Int) % 4294967296) 2).bind fun r3 => (trunklineref12_lay.f k r3 ((l11.length : Int) % 4294967296) 2).bind fun r4 => (refblk.l0 k r4 l10 0).bind fun r5 => refdup.l0 k r5 l11 0) = some r) :
    Calls Try.prog 47 #[.agg #[.int .u8 3, .int .u8 a1, .int .u32 a2, .int .u16 a3, .int .u16 a4, .int .u32 a5, .int .u32 a6, .int .u32 a7, .int .u16 a8, .int .u16 a9, .slice A10 l10.length c10, .slice A11 l11.length c11, .slice A12 l12.length c12, .slice A13 l13.length c13]] w fun e w' => ∃ v0_ : Value, e = .returned v0_ ∧ Kd.R (Kd.int .u8) 5 w' w.heap.size (fun _ => True) v0_ r ∧ Below w.heap.size w w' := by
  obtain ⟨r1, h1, h⟩ := Option.bind_eq_some_iff.mp h
  have H1 := Aside0.mk h1
  clear h1
  obtain ⟨r2, h2, h⟩ := Option.bind_eq_some_iff.mp h
  have H2 := Aside0.mk h2
  clear h2
  obtain ⟨r3, h3, h⟩ := Option.bind_eq_some_iff.mp h
  have H3 := Aside0.mk h3
  clear h3
  obtain ⟨r4, h4, h⟩ := Option.bind_eq_some_iff.mp h
  have H4 := Aside0.mk h4
  clear h4
  obtain ⟨r5, h5, h⟩ := Option.bind_eq_some_iff.mp h
  have H5 := Aside0.mk h5
  clear h5
  have H6 := Aside0.mk h
  clear h
  have HHD := Aside0.mk (show trunklineref12_hasData.f 3 = some false from by kernel_rfl)
  have HHP := Aside0.mk (show trunklineref12_hasParams.f 3 = some false from by kernel_rfl)
  have HR10 := Aside0.mk hr10
  have HC10 := Aside0.mk hc10'
  have HR11 := Aside0.mk hr11
  have HC11 := Aside0.mk hc11'
  have HR12 := Aside0.mk hr12
  have HC12 := Aside0.mk hc12'
  have HR13 := Aside0.mk hr13
  have HC13 := Aside0.mk hc13'
  clear hr10 hc10' hr11 hc11' hr12 hc12' hr13 hc13'
  go_enter Try.func47, Try.ntmps47
  go_wp2_with (first | ((with_reducible refine gate_dst (N := 1) rfl ?_); refine box_event ?hg (N := 1) ?hd (cs := #[.int .u8 3, .int .u8 a1, .int .u32 a2, .int .u16 a3, .int .u16 a4, .int .u32 a5, .int .u32 a6, .int .u32 a7, .int .u16 a8, .int .u16 a9, .slice A10 l10.length c10, .slice A11 l11.length c11, .slice A12 l12.length c12, .slice A13 l13.length c13]) (t := 29) ?hr ?_; (case hd => rfl); (case hg => rfl); (case hr => first | (go_simp; done) | (go_simp; rfl)); intro p1 hg0 w1 hbox0 hb0; have HP := Aside0.mk (show w.heap.size ≤ p1 by omega); obtain ⟨hc0, -, hc2, -, -, -, -, hc7, -, -, hc10, hc11, hc12, hc13⟩ := cells14 hbox0; have BX1 := Aside0.mk hbox0; have HB1 := Aside0.mk hb0; clear hg0 hbox0 hb0)
                       | ((with_reducible refine gate_dst (N := 7) rfl ?_); refine Kd.R_lit (Kd.int .u8) (w0 := w) (W := w1) w.heap.size 5 ?hg (N := 7) ?hd (xs := ([] : List Int)) (inner := []) (ok := fun k_ => k_ ≠ p1) (okp := fun _ => False) ?hr ?hp (fun _ hk => hk.elim) (by have := blk_lt BX1.out; omega) HB1.out HB1.out.size (by simp) ?_; (case hd => rfl); (case hg => rfl); (case hr => first | (go_simp; done) | (go_simp; rfl)); (case hp => exact (Reps.none _ _)); intro v2 w2 ho hb hg_ hnew_; have HO2 := Aside0.mk ho; have HB2 := Aside0.mk hb; have hbx := blk_grown BX1.out hg_ (by simp); clear hc0 hc2 hc7 hc10 hc11 hc12 hc13; obtain ⟨hc0, -, hc2, -, -, -, -, hc7, -, -, hc10, hc11, hc12, hc13⟩ := cells14 hbx; have BX2 := Aside0.mk hbx; clear hbx; clear ho hb hg_ hnew_)
                       | (go_at_call 35; (with_reducible refine (rlay k p1 4 a2 [] r1 v2 w w2 HB2.out (blk_lt BX2.out) HO2.out H1.out).mono ?_); rintro e w3 ⟨v3, rfl, ho, hb, hk⟩; have HO3 := Aside0.mk ho; have HB3 := Aside0.mk hb; have hbx := hk.trans BX2.out; clear hc0 hc2 hc7 hc10 hc11 hc12 hc13; obtain ⟨hc0, -, hc2, -, -, -, -, hc7, -, -, hc10, hc11, hc12, hc13⟩ := cells14 hbx; have BX3 := Aside0.mk hbx; clear hbx; clear ho hb hk)
                       | (go_at_call 35; (with_reducible refine (rlay k p1 4 a7 r1 r2 v3 w w3 HB3.out (blk_lt BX3.out) HO3.out H2.out).mono ?_); rintro e w4 ⟨v4, rfl, ho, hb, hk⟩; have HO4 := Aside0.mk ho; have HB4 := Aside0.mk hb; have hbx := hk.trans BX3.out; clear hc0 hc2 hc7 hc10 hc11 hc12 hc13; obtain ⟨hc0, -, hc2, -, -, -, -, hc7, -, -, hc10, hc11, hc12, hc13⟩ := cells14 hbx; have BX4 := Aside0.mk hbx; clear hbx; clear ho hb hk)
                       | (go_at_call 35; (with_reducible refine (rlay k p1 2 ((l10.length : Int) % 4294967296) r2 r3 v4 w w4 HB4.out (blk_lt BX4.out) HO4.out H3.out).mono ?_); rintro e w5 ⟨v5, rfl, ho, hb, hk⟩; have HO5 := Aside0.mk ho; have HB5 := Aside0.mk hb; have hbx := hk.trans BX4.out; clear hc0 hc2 hc7 hc10 hc11 hc12 hc13; obtain ⟨hc0, -, hc2, -, -, -, -, hc7, -, -, hc10, hc11, hc12, hc13⟩ := cells14 hbx; have BX5 := Aside0.mk hbx; clear hbx; clear ho hb hk)
                       | (go_at_call 35; (with_reducible refine (rlay k p1 2 ((l11.length : Int) % 4294967296) r3 r4 v5 w w5 HB5.out (blk_lt BX5.out) HO5.out H4.out).mono ?_); rintro e w6 ⟨v6, rfl, ho, hb, hk⟩; have HO6 := Aside0.mk ho; have HB6 := Aside0.mk hb; have hbx := hk.trans BX5.out; clear hc0 hc2 hc7 hc10 hc11 hc12 hc13; obtain ⟨hc0, -, hc2, -, -, -, -, hc7, -, -, hc10, hc11, hc12, hc13⟩ := cells14 hbx; have BX6 := Aside0.mk hbx; clear hbx; clear ho hb hk))
  go_loopg [3, 4] k (fun kq v3 v4 w' => ∃ (x : List Int) (i : Int), v4 = .int .i64 i ∧ Aside0 (refblk.l0 kq x l10 i = some r5) ∧ Aside0 (kq ≤ k) ∧ Aside0 (Kd.R (Kd.int .u8) 5 w' w.heap.size (fun k_ => k_ ≠ p1) v3 x) ∧ Aside0 (Below w.heap.size w w') ∧ Aside0 (w'.heap[p1]? = some (.cells #[.int .u8 3, .int .u8 a1, .int .u32 a2, .int .u16 a3, .int .u16 a4, .int .u32 a5, .int .u32 a6, .int .u32 a7, .int .u16 a8, .int .u16 a9, .slice A10 l10.length c10, .slice A11 l11.length c11, .slice A12 l12.length c12, .slice A13 l13.length c13] 29 (0, 0))))
  case atStart => exact ⟨r4, 0, rfl, H5, ⟨Nat.le_refl _⟩, HO6, HB6, BX6⟩
  case round =>
    obtain ⟨x, i, rfl, HA, HK1, HOx, HBx, BXx⟩ := hrel
    clear hc0 hc2 hc7 hc10 hc11 hc12 hc13
    have hc0 : World.cell? _ ⟨p1, 0, none⟩ = some (.int .u8 3) := blk_cell BXx.out 0
    have hc2 : World.cell? _ ⟨p1, 2, none⟩ = some (.int .u32 a2) := blk_cell BXx.out 2
    have hc7 : World.cell? _ ⟨p1, 7, none⟩ = some (.int .u32 a7) := blk_cell BXx.out 7
    have hc10 : World.cell? _ ⟨p1, 10, none⟩ = some (.slice A10 l10.length c10) := blk_cell BXx.out 10
    have hc11 : World.cell? _ ⟨p1, 11, none⟩ = some (.slice A11 l11.length c11) := blk_cell BXx.out 11
    have hc12 : World.cell? _ ⟨p1, 12, none⟩ = some (.slice A12 l12.length c12) := blk_cell BXx.out 12
    have hc13 : World.cell? _ ⟨p1, 13, none⟩ = some (.slice A13 l13.length c13) := blk_cell BXx.out 13
    cases gk with
    | zero => exact absurd HA.out (by simp [refblk.l0])
    | succ k1 =>
      have H := HA.out
      clear HA
      simp only [refblk.l0] at H
      by_cases c4 : i < (l10.length : Int)
      · rw [if_pos c4] at H
        have c4b0 : decide (i < (l10.length : Int)) = true := decide_eq_true c4
        by_cases c5 : 0 ≤ i
        · rw [if_pos c5] at H
          obtain ⟨b1, hb1, H⟩ := Option.bind_eq_some_iff.mp H
          obtain ⟨b2, hb2, H⟩ := Option.bind_eq_some_iff.mp H
          have HH := Aside0.mk H
          have HB1' := Aside0.mk hb1
          have HB2' := Aside0.mk hb2
          obtain ⟨ad, e, hx0, hx1⟩ := at_T101 HR10.out i c5 c4
          subst e
          have HXA := Aside0.mk hx0
          have HXB := Aside0.mk hx1
          replace hx0 := pw_cell_below HBx.out hx0
          replace hx1 := pw_cell_below HBx.out hx1
          have hi5 := eq_true c5
          have hi4 := eq_true c4
          clear H hb1 hb2 c4 c5
          go_wp2_with (first | (go_at_call 35; (with_reducible refine (rlay k1 p1 2 ((rd_T101 l10 i).f0 % 4294967296) x b1 _ w _ HBx.out (blk_lt BXx.out) HOx.out HB1'.out).mono ?_); rintro e w7 ⟨v7, rfl, ho, hb, hk⟩; have HO7 := Aside0.mk ho; have HB7 := Aside0.mk hb; have BX7 := Aside0.mk (hk.trans BXx.out); clear ho hb hk; clear hx0 hx1; have hx0 := pw_cell_below HB7.out HXA.out; have hx1 := pw_cell_below HB7.out HXB.out; clear hc0 hc2 hc7 hc10 hc11 hc12 hc13; obtain ⟨hc0, -, hc2, -, -, -, -, hc7, -, -, hc10, hc11, hc12, -⟩ := cells14 BX7.out; have hc13 : w7.cell? ⟨p1, 13, none⟩ = some (.slice A13 l13.length c13) := blk_cell BX7.out 13) | (go_at_call 35; (with_reducible refine (rlay k1 p1 2 ((rd_T101 l10 i).f1 % 4294967296) b1 b2 _ w _ HB7.out (blk_lt BX7.out) HO7.out HB2'.out).mono ?_); rintro e w8 ⟨v8, rfl, ho, hb, hk⟩; have HO8 := Aside0.mk ho; have HB8 := Aside0.mk hb; have BX8 := Aside0.mk (hk.trans BX7.out); clear ho hb hk; clear hx0 hx1; have hx0 := pw_cell_below HB8.out HXA.out; have hx1 := pw_cell_below HB8.out HXB.out; clear hc0 hc2 hc7 hc10 hc11 hc12 hc13; obtain ⟨hc0, -, hc2, -, -, -, -, hc7, -, -, hc10, hc11, hc12, -⟩ := cells14 BX8.out; have hc13 : w8.cell? ⟨p1, 13, none⟩ = some (.slice A13 l13.length c13) := blk_cell BX8.out 13))
          go_roundg k1
          case measure => have := HK1.out; omega
          case rel => exact ⟨b2, wrap64 (i + 1), (by first | rfl | (simp; done)), HH, ⟨by have := HK1.out; omega⟩, HO8, HB8, BX8⟩
        · rw [if_neg c5] at H; cases H
      · rw [if_neg c4] at H
        have c4b0 : decide (i < (l10.length : Int)) = false := decide_eq_false c4
        clear c4
        obtain rfl : x = r5 := Option.some.inj H
        clear H HK1
        go_wp2
        go_loopg [3, 5] k (fun kq v3 v5 w' => ∃ (y : List Int) (i : Int), v5 = .int .i64 i ∧ Aside0 (refdup.l0 kq y l11 i = some r) ∧ Aside0 (kq ≤ k) ∧ Aside0 (Kd.R (Kd.int .u8) 5 w' w.heap.size (fun k_ => k_ ≠ p1) v3 y) ∧ Aside0 (Below w.heap.size w w') ∧ Aside0 (w'.heap[p1]? = some (.cells #[.int .u8 3, .int .u8 a1, .int .u32 a2, .int .u16 a3, .int .u16 a4, .int .u32 a5, .int .u32 a6, .int .u32 a7, .int .u16 a8, .int .u16 a9, .slice A10 l10.length c10, .slice A11 l11.length c11, .slice A12 l12.length c12, .slice A13 l13.length c13] 29 (0, 0))))
        case atStart => exact ⟨x, 0, rfl, H6, ⟨Nat.le_refl _⟩, HOx, HBx, BXx⟩
        case round =>
          clear HOx HBx BXx
          obtain ⟨y, i2, rfl, HA, HK1, HOx, HBx, BXx⟩ := hrel
          clear hc0 hc2 hc7 hc10 hc11 hc12 hc13
          have hc0 : World.cell? _ ⟨p1, 0, none⟩ = some (.int .u8 3) := blk_cell BXx.out 0
          have hc2 : World.cell? _ ⟨p1, 2, none⟩ = some (.int .u32 a2) := blk_cell BXx.out 2
          have hc7 : World.cell? _ ⟨p1, 7, none⟩ = some (.int .u32 a7) := blk_cell BXx.out 7
          have hc10 : World.cell? _ ⟨p1, 10, none⟩ = some (.slice A10 l10.length c10) := blk_cell BXx.out 10
          have hc11 : World.cell? _ ⟨p1, 11, none⟩ = some (.slice A11 l11.length c11) := blk_cell BXx.out 11
          have hc12 : World.cell? _ ⟨p1, 12, none⟩ = some (.slice A12 l12.length c12) := blk_cell BXx.out 12
          have hc13 : World.cell? _ ⟨p1, 13, none⟩ = some (.slice A13 l13.length c13) := blk_cell BXx.out 13
          cases gk with
          | zero => exact absurd HA.out (by simp [refdup.l0])
          | succ k1 =>
            have H := HA.out
            clear HA
            simp only [refdup.l0] at H
            by_cases c4 : i2 < (l11.length : Int)
            · rw [if_pos c4] at H
              have c4b0 : decide (i2 < (l11.length : Int)) = true := decide_eq_true c4
              by_cases c5 : 0 ≤ i2
              · rw [if_pos c5] at H
                obtain ⟨b1, hb1, H⟩ := Option.bind_eq_some_iff.mp H
                have HH := Aside0.mk H
                have HB1' := Aside0.mk hb1
                obtain ⟨ad, e, hx0⟩ := Kd.at_int HR11.out i2 c5 c4
                subst e
                replace hx0 := pw_cell_below HBx.out hx0
                have hi5 := eq_true c5
                have hi4 := eq_true c4
                clear H hb1 c4 c5
                go_wp2_with (first | (go_at_call 35; (with_reducible refine (rlay k1 p1 4 (rd l11 i2) y b1 _ w _ HBx.out (blk_lt BXx.out) HOx.out HB1'.out).mono ?_); rintro e w7 ⟨v7, rfl, ho, hb, hk⟩; have HO7 := Aside0.mk ho; have HB7 := Aside0.mk hb; have BX7 := Aside0.mk (hk.trans BXx.out); clear ho hb hk; clear hx0; clear hc0 hc2 hc7 hc10 hc11 hc12 hc13; obtain ⟨hc0, -, hc2, -, -, -, -, hc7, -, -, hc10, hc11, hc12, -⟩ := cells14 BX7.out; have hc13 : w7.cell? ⟨p1, 13, none⟩ = some (.slice A13 l13.length c13) := blk_cell BX7.out 13))
                go_roundg k1
                case measure => have := HK1.out; omega
                case rel => exact ⟨b1, wrap64 (i2 + 1), (by first | rfl | (simp; done)), HH, ⟨by have := HK1.out; omega⟩, HO7, HB7, BX7⟩
              · rw [if_neg c5] at H; cases H
            · rw [if_neg c4] at H
              have c4b0 : decide (i2 < (l11.length : Int)) = false := decide_eq_false c4
              clear c4
              obtain rfl := Option.some.inj H
              go_wp2_with (first | (go_at_call 46; (with_reducible refine (trunklineref12_hasData.calls 3 false _ HHD.out).mono ?_); rintro e w8 ⟨rfl, hd⟩; have HO8 := Aside0.mk (Kd.R_below HOx.out hd.below); have HB8 := Aside0.mk (below_step HBx.out hd.below); have hbx := blk_below BXx.out hd.below; clear hc0 hc2 hc7 hc10 hc11 hc12 hc13; obtain ⟨hc0, -, hc2, -, -, -, -, hc7, -, -, hc10, hc11, hc12, hc13⟩ := cells14 hbx; have BX8 := Aside0.mk hbx; clear hbx; clear hd))
              refine wp_loop_rounds 1 ?_
              rw [rounds_succ]
              go_wp2_with (first | (go_at_call 45; (with_reducible refine (trunklineref12_hasParams.calls 3 false w8 HHP.out).mono ?_); rintro e w9 ⟨rfl, hd⟩; have HO9 := Aside0.mk (Kd.R_below HO8.out hd.below); have HB9 := Aside0.mk (below_step HB8.out hd.below); have hbx := blk_below BX8.out hd.below; clear hc0 hc2 hc7 hc10 hc11 hc12 hc13; obtain ⟨hc0, -, hc2, -, -, -, -, hc7, -, -, hc10, hc11, hc12, hc13⟩ := cells14 hbx; have BX9 := Aside0.mk hbx; clear hbx; clear hd))
              go_ret
              exact ⟨_, rfl, Kd.R_mono HO9.out (fun _ _ => trivial), HB9.out⟩
def trunklineref12_Value.f (k : Nat) (t a1 a2 a3 a4 a5 a6 a7 a8 a9 : Int) (l10 : List S101) (l11 : List Int) (l12 : List S48) (l13 : List Int) : Option (List Int) :=
  if t = 0 then ((trunklineref12_lay.f k [] a2 4).bind fun r1 => (trunklineref12_lay.f k r1 (a3 % 4294967296) 2).bind fun r2 => (trunklineref12_lay.f k r2 (a4 % 4294967296) 2).bind fun r3 => (trunklineref12_lay.f k r3 a5 4).bind fun r4 => if r4.length + l13.length < 140737488355328 then some (r4 ++ l13) else none) else if t = 1 then ((trunklineref12_lay.f k [] a6 4).bind fun r1 => (trunklineref12_lay.f k r1 a7 4).bind fun r2 => (trunklineref12_lay.f k r2 (a8 % 4294967296) 2).bind fun r3 => (trunklineref12_lay.f k r3 (a9 % 4294967296) 2).bind fun r4 => (trunklineref12_lay.f k r4 a2 4).bind fun r5 => refpar.l0 k r5 l12 0) else if t = 2 then ((trunklineref12_lay.f k [] a6 4).bind fun r1 => (trunklineref12_lay.f k r1 a7 4).bind fun r2 => (trunklineref12_lay.f k r2 (a8 % 4294967296) 2).bind fun r3 => (trunklineref12_lay.f k r3 (a9 % 4294967296) 2).bind fun r4 => (trunklineref12_lay.f k r4 a2 4).bind fun r5 => refpar.l0 k r5 l12 0) else if t = 3 then ((trunklineref12_lay.f k [] a2 4).bind fun r1 => (trunklineref12_lay.f k r1 a7 4).bind fun r2 => (trunklineref12_lay.f k r2 ((l10.length : Int) % 4294967296) 2).bind fun r3 => (trunklineref12_lay.f k r3 ((l11.length : Int) % 4294967296) 2).bind fun r4 => (refblk.l0 k r4 l10 0).bind fun r5 => refdup.l0 k r5 l11 0) else if t = 7 then trunklineref12_lay.f k [] a2 4 else (trunklineref12_hasData.f t).bind fun d => (trunklineref12_hasParams.f t).bind fun p => if d = true then (if p = true then none else (if ([] : List Int).length + l13.length < 140737488355328 then some (([] : List Int) ++ l13) else none)) else (if p = true then refpar.l0 k [] l12 0 else some [])
theorem refpad.mono_l : ∀ k, (∀ y0, LeO (refpad.l0 k y0) (refpad.l0 (k + 1) y0))
  | 0 => fun _ r h => by simp [refpad.l0] at h
  | k + 1 => by
    have ih0 := refpad.mono_l k
    intro y0
    rw [refpad.l0, refpad.l0]
    exact LeO.ite (LeO.refl _) (LeO.ite (ih0 _) (LeO.refl _))
theorem refpar.mono_l : ∀ k, (∀ y0 y1 y2, LeO (refpar.l0 k y0 y1 y2) (refpar.l0 (k + 1) y0 y1 y2))
  | 0 => fun _ _ _ r h => by simp [refpar.l0] at h
  | k + 1 => by
    have ih0 := refpar.mono_l k
    intro y0 y1 y2
    rw [refpar.l0, refpar.l0]
    exact LeO.ite (LeO.ite (LeO.bind (refpad.mono_l _ _) (fun _ => LeO.bind (trunklineref12_lay.mono _ _ _ _) (fun _ => LeO.bind (trunklineref12_lay.mono _ _ _ _) (fun _ => LeO.ite (ih0 _ _ _) (LeO.refl _))))) (LeO.refl _)) (LeO.refl _)
theorem refblk.mono_l : ∀ k, (∀ y0 y1 y2, LeO (refblk.l0 k y0 y1 y2) (refblk.l0 (k + 1) y0 y1 y2))
  | 0 => fun _ _ _ r h => by simp [refblk.l0] at h
  | k + 1 => by
    have ih0 := refblk.mono_l k
    intro y0 y1 y2
    rw [refblk.l0, refblk.l0]
    exact LeO.ite (LeO.ite (LeO.bind (trunklineref12_lay.mono _ _ _ _) (fun _ => LeO.bind (trunklineref12_lay.mono _ _ _ _) (fun _ => ih0 _ _ _))) (LeO.refl _)) (LeO.refl _)
theorem refdup.mono_l : ∀ k, (∀ y0 y1 y2, LeO (refdup.l0 k y0 y1 y2) (refdup.l0 (k + 1) y0 y1 y2))
  | 0 => fun _ _ _ r h => by simp [refdup.l0] at h
  | k + 1 => by
    have ih0 := refdup.mono_l k
    intro y0 y1 y2
    rw [refdup.l0, refdup.l0]
    exact LeO.ite (LeO.ite (LeO.bind (trunklineref12_lay.mono _ _ _ _) (fun _ => ih0 _ _ _)) (LeO.refl _)) (LeO.refl _)
theorem trunklineref12_Value.mono : ∀ b0 b1 b2 b3 b4 b5 b6 b7 b8 b9 b10 b11 b12 b13 k, LeO (trunklineref12_Value.f k b0 b1 b2 b3 b4 b5 b6 b7 b8 b9 b10 b11 b12 b13) (trunklineref12_Value.f (k + 1) b0 b1 b2 b3 b4 b5 b6 b7 b8 b9 b10 b11 b12 b13) := by
  intro b0 b1 b2 b3 b4 b5 b6 b7 b8 b9 b10 b11 b12 b13 k
  unfold trunklineref12_Value.f
  have hF : ∀ (a2 a6 a7 a8 a9 : Int) (l12 : List S48), LeO ((trunklineref12_lay.f k [] a6 4).bind fun r1 => (trunklineref12_lay.f k r1 a7 4).bind fun r2 => (trunklineref12_lay.f k r2 (a8 % 4294967296) 2).bind fun r3 => (trunklineref12_lay.f k r3 (a9 % 4294967296) 2).bind fun r4 => (trunklineref12_lay.f k r4 a2 4).bind fun r5 => refpar.l0 k r5 l12 0) ((trunklineref12_lay.f (k + 1) [] a6 4).bind fun r1 => (trunklineref12_lay.f (k + 1) r1 a7 4).bind fun r2 => (trunklineref12_lay.f (k + 1) r2 (a8 % 4294967296) 2).bind fun r3 => (trunklineref12_lay.f (k + 1) r3 (a9 % 4294967296) 2).bind fun r4 => (trunklineref12_lay.f (k + 1) r4 a2 4).bind fun r5 => refpar.l0 (k + 1) r5 l12 0) := fun a2 a6 a7 a8 a9 l12 =>
    LeO.bind (trunklineref12_lay.mono _ _ _ _) (fun _ => LeO.bind (trunklineref12_lay.mono _ _ _ _) (fun _ => LeO.bind (trunklineref12_lay.mono _ _ _ _) (fun _ => LeO.bind (trunklineref12_lay.mono _ _ _ _) (fun _ => LeO.bind (trunklineref12_lay.mono _ _ _ _) (fun _ => refpar.mono_l _ _ _ _)))))
  refine LeO.ite ?_ (LeO.ite (hF _ _ _ _ _ _) (LeO.ite (hF _ _ _ _ _ _) (LeO.ite ?_ (LeO.ite (trunklineref12_lay.mono _ _ _ _) (LeO.bind (LeO.refl _) (fun _ => LeO.bind (LeO.refl _) (fun _ => LeO.ite (LeO.refl _) (LeO.ite (refpar.mono_l _ _ _ _) (LeO.refl _)))))))))
  · exact LeO.bind (trunklineref12_lay.mono _ _ _ _) (fun _ => LeO.bind (trunklineref12_lay.mono _ _ _ _) (fun _ => LeO.bind (trunklineref12_lay.mono _ _ _ _) (fun _ => LeO.bind (trunklineref12_lay.mono _ _ _ _) (fun _ => LeO.refl _))))
  · exact LeO.bind (trunklineref12_lay.mono _ _ _ _) (fun _ => LeO.bind (trunklineref12_lay.mono _ _ _ _) (fun _ => LeO.bind (trunklineref12_lay.mono _ _ _ _) (fun _ => LeO.bind (trunklineref12_lay.mono _ _ _ _) (fun _ => LeO.bind (refblk.mono_l _ _ _ _) (fun _ => refdup.mono_l _ _ _ _)))))
theorem trunklineref12_Value.calls (k : Nat) (a0_0 : Int) (a0_1 : Int) (a0_2 : Int) (a0_3 : Int) (a0_4 : Int) (a0_5 : Int) (a0_6 : Int) (a0_7 : Int) (a0_8 : Int) (a0_9 : Int) (A0_10 : Option Addr) (c0_10 : Nat) (l0_10 : List (S101)) (A0_11 : Option Addr) (c0_11 : Nat) (l0_11 : List Int) (A0_12 : Option Addr) (c0_12 : Nat) (l0_12 : List (S48)) (A0_13 : Option Addr) (c0_13 : Nat) (l0_13 : List Int) (r : List Int) (w : World) (hr0_10 : Kd.C k101 w A0_10 l0_10.length l0_10) (hc0_10 : l0_10.length ≤ c0_10) (hr0_11 : Kd.C (Kd.int .u32) w A0_11 l0_11.length l0_11) (hc0_11 : l0_11.length ≤ c0_11) (hr0_12 : Kd.C k48 w A0_12 l0_12.length l0_12) (hc0_12 : l0_12.length ≤ c0_12) (hr0_13 : Kd.C (Kd.int .u8) w A0_13 l0_13.length l0_13) (hc0_13 : l0_13.length ≤ c0_13) (h : trunklineref12_Value.f k a0_0 a0_1 a0_2 a0_3 a0_4 a0_5 a0_6 a0_7 a0_8 a0_9 l0_10 l0_11 l0_12 l0_13 = some r) :
    Calls Try.prog 47 #[.agg #[.int .u8 a0_0, .int .u8 a0_1, .int .u32 a0_2, .int .u16 a0_3, .int .u16 a0_4, .int .u32 a0_5, .int .u32 a0_6, .int .u32 a0_7, .int .u16 a0_8, .int .u16 a0_9, .slice A0_10 l0_10.length c0_10, .slice A0_11 l0_11.length c0_11, .slice A0_12 l0_12.length c0_12, .slice A0_13 l0_13.length c0_13]] w fun e w' => ∃ v0_ : Value, e = .returned (v0_) ∧ Kd.R (Kd.int .u8) 5 w' w.heap.size (fun _ => True) v0_ r ∧ Below w.heap.size w w' := by
  unfold trunklineref12_Value.f at h
  by_cases e0 : a0_0 = 0
  · rw [if_pos e0] at h
    subst e0
    exact rval_0 k a0_1 a0_2 a0_3 a0_4 a0_5 a0_6 a0_7 a0_8 a0_9 A0_10 A0_11 A0_12 A0_13 c0_10 c0_11 c0_12 c0_13 l0_10 l0_11 l0_12 l0_13 r w hr0_10 hc0_10 hr0_11 hc0_11 hr0_12 hc0_12 hr0_13 hc0_13 h
  rw [if_neg e0] at h
  by_cases e1 : a0_0 = 1
  · rw [if_pos e1] at h
    subst e1
    exact rval_1 k a0_1 a0_2 a0_3 a0_4 a0_5 a0_6 a0_7 a0_8 a0_9 A0_10 A0_11 A0_12 A0_13 c0_10 c0_11 c0_12 c0_13 l0_10 l0_11 l0_12 l0_13 r w hr0_10 hc0_10 hr0_11 hc0_11 hr0_12 hc0_12 hr0_13 hc0_13 h
  rw [if_neg e1] at h
  by_cases e2 : a0_0 = 2
  · rw [if_pos e2] at h
    subst e2
    exact rval_2 k a0_1 a0_2 a0_3 a0_4 a0_5 a0_6 a0_7 a0_8 a0_9 A0_10 A0_11 A0_12 A0_13 c0_10 c0_11 c0_12 c0_13 l0_10 l0_11 l0_12 l0_13 r w hr0_10 hc0_10 hr0_11 hc0_11 hr0_12 hc0_12 hr0_13 hc0_13 h
  rw [if_neg e2] at h
  by_cases e3 : a0_0 = 3
  · rw [if_pos e3] at h
    subst e3
    exact rval_3 k a0_1 a0_2 a0_3 a0_4 a0_5 a0_6 a0_7 a0_8 a0_9 A0_10 A0_11 A0_12 A0_13 c0_10 c0_11 c0_12 c0_13 l0_10 l0_11 l0_12 l0_13 r w hr0_10 hc0_10 hr0_11 hc0_11 hr0_12 hc0_12 hr0_13 hc0_13 h
  rw [if_neg e3] at h
  by_cases e7 : a0_0 = 7
  · rw [if_pos e7] at h
    subst e7
    exact rval_7 k a0_1 a0_2 a0_3 a0_4 a0_5 a0_6 a0_7 a0_8 a0_9 A0_10 A0_11 A0_12 A0_13 c0_10 c0_11 c0_12 c0_13 l0_10 l0_11 l0_12 l0_13 r w hr0_10 hc0_10 hr0_11 hc0_11 hr0_12 hc0_12 hr0_13 hc0_13 h
  rw [if_neg e7] at h
  obtain ⟨d, hd, h⟩ := Option.bind_eq_some_iff.mp h
  obtain ⟨p, hp, h⟩ := Option.bind_eq_some_iff.mp h
  cases d with
  | true =>
    rw [if_pos rfl] at h
    cases p with
    | true => rw [if_pos rfl] at h; cases h
    | false =>
      rw [if_neg (by decide)] at h
      exact rval_raw k a0_0 a0_1 a0_2 a0_3 a0_4 a0_5 a0_6 a0_7 a0_8 a0_9 A0_10 A0_11 A0_12 A0_13 c0_10 c0_11 c0_12 c0_13 l0_10 l0_11 l0_12 l0_13 r w hr0_10 hc0_10 hr0_11 hc0_11 hr0_12 hc0_12 hr0_13 hc0_13 e0 e1 e2 e3 e7 hd hp h
  | false =>
    rw [if_neg (by decide)] at h
    cases p with
    | true =>
      rw [if_pos rfl] at h
      exact rval_params k a0_0 a0_1 a0_2 a0_3 a0_4 a0_5 a0_6 a0_7 a0_8 a0_9 A0_10 A0_11 A0_12 A0_13 c0_10 c0_11 c0_12 c0_13 l0_10 l0_11 l0_12 l0_13 r w hr0_10 hc0_10 hr0_11 hc0_11 hr0_12 hc0_12 hr0_13 hc0_13 e0 e1 e2 e3 e7 hd hp h
    | false =>
      rw [if_neg (by decide)] at h
      exact rval_bare k a0_0 a0_1 a0_2 a0_3 a0_4 a0_5 a0_6 a0_7 a0_8 a0_9 A0_10 A0_11 A0_12 A0_13 c0_10 c0_11 c0_12 c0_13 l0_10 l0_11 l0_12 l0_13 r w hr0_10 hc0_10 hr0_11 hc0_11 hr0_12 hc0_12 hr0_13 hc0_13 e0 e1 e2 e3 e7 hd hp h
#print axioms trunklineref12_Value.calls
end Go.Proofs.Ytaahkggbjpdofaa.M
