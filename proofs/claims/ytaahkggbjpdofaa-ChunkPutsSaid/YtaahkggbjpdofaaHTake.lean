/- The reader of packets: left, take, num, must, by what their reader's block holds. -/
import Derived.Test.YtaahkggbjpdofaaHStamp
import Derived.Test.YtaahkggbjpdofaaHOf
import Derived.Test.YtaahkggbjpdofaaM7
import Derived.WalkSpells
import Derived.Defers
import Derived.Recover
import Derived.LoopN
import Derived.Deep.RegionWith
import Derived.Deep.RegionLaw
import Derived.Test.YtaahkggbjpdofaaM14
section
namespace Go.Proofs.Ytaahkggbjpdofaa.M
open Go.RowKit Go.Proofs.YtaahkggbjpdofaaW.PrintWords Go.Proofs.YtaahkggbjpdofaaW.PrintLast Go.Proofs.YtaahkggbjpdofaaW.PrintMore
set_option linter.unusedVariables false
set_option linter.unusedSimpArgs false
/-- What a fault panics with. -/
@[reducible] def faultV (e : Int) : Value := .iface 68 (.agg #[.int .i64 e])
/-- A reader: a block of ours with the bytes that are left. -/
def RdrOf (w0 w : World) (g : Nat) (l : List Int) : Prop :=
  w0.heap.size ≤ g ∧ ∃ A c, w.heap[g]? = some (.cells #[.slice A l.length c] 73 (0, 0)) ∧ l.length ≤ c ∧ Kd.C (Kd.int .u8) w0 A l.length l
theorem RdrOf.kept {w0 w W : World} {g : Nat} {l : List Int} {S : Nat → Prop} (h : RdrOf w0 w g l) (hk : Kept w W S) (hn : ¬ S g) : RdrOf w0 W g l := by
  obtain ⟨h1, A, c, h2, h3, h4⟩ := h
  exact ⟨h1, A, c, blk_kept h2 hk hn, h3, h4⟩
theorem RdrOf.below {w0 w W : World} {g : Nat} {l : List Int} (h : RdrOf w0 w g l) (hk : Below w.heap.size w W) : RdrOf w0 W g l := h.kept (Kept.of_below hk (fun _ => False)) (fun h => h)
theorem RdrOf.lt {w0 w : World} {g : Nat} {l : List Int} (h : RdrOf w0 w g l) : g < w.heap.size := by
  obtain ⟨h1, A, c, h2, _⟩ := h
  exact blk_lt h2
set_option maxHeartbeats 1600000 in
set_option maxRecDepth 100000 in
theorem left_calls (g : Nat) (l : List Int) (b : Bool) (w0 w : World) (h : RdrOf w0 w g l) (hb : decide (0 < l.length) = b) :
    Calls Try.prog 58 #[.pointer (some ⟨g, 0, none⟩)] w fun e w' => e = .returned (.bool b) ∧ w' = w := by
  obtain ⟨hg, A, c, hx, hc, hC⟩ := h
  have hc0 : w.cell? ⟨g, 0, none⟩ = some (.slice A l.length c) := blk_cell hx 0
  have hb' : decide ((0 : Int) < (l.length : Int)) = b := by rw [← hb]; simp
  go_enter Try.func58, Try.ntmps58
  go_wp2
  refine bodyPost_ret (v := .bool b) (by simp [results, Try.results58, go_sem, hb, hb'] <;> rfl) rfl ⟨rfl, rfl⟩
set_option maxHeartbeats 1600000 in
set_option maxRecDepth 100000 in
theorem must_ok (e : Int) (w : World) : Calls Try.prog 38 #[.bool true, .int .i64 e] w fun x w' => x = .returned (.tuple #[]) ∧ w' = w := by
  go_enter Try.func38, Try.ntmps38
  go_wp2
  go_end0
  exact ⟨rfl, rfl⟩
set_option maxHeartbeats 1600000 in
set_option maxRecDepth 100000 in
theorem must_bad (e : Int) (w : World) : Calls Try.prog 38 #[.bool false, .int .i64 e] w fun x w' => x = .panicked [{ v := faultV e, recovered := false }] ∧ w' = w := by
  go_enter Try.func38, Try.ntmps38
  go_wp2
  exact ⟨rfl, rfl, rfl⟩
set_option maxHeartbeats 1600000 in
set_option maxRecDepth 100000 in
theorem take_ok (g : Nat) (l : List Int) (m e : Int) (w0 w : World) (hB : Below w0.heap.size w0 w) (h : RdrOf w0 w g l) (h0 : 0 ≤ m) (hm : m ≤ l.length) :
    Calls Try.prog 57 #[.pointer (some ⟨g, 0, none⟩), .int .i64 m, .int .i64 e] w fun x w' => ∃ A c, x = .returned (.slice A (l.take m.toNat).length c) ∧ (l.take m.toNat).length ≤ c ∧ Kd.C (Kd.int .u8) w0 A (l.take m.toNat).length (l.take m.toNat) ∧ RdrOf w0 w' g (l.drop m.toNat) ∧ Below w0.heap.size w0 w' ∧ Kept w w' (fun k => k = g) := by
  obtain ⟨hg, A, c, hx, hc, hC⟩ := h
  have hc0 : w.cell? ⟨g, 0, none⟩ = some (.slice A l.length c) := blk_cell hx 0
  have hf0 : w.frozen? ⟨g, 0, none⟩ = false := blk_frozen hx 0
  have hlt : decide ((l.length : Int) < m) = false := decide_eq_false (by omega)
  obtain ⟨i0, hi0, _, hsz, _⟩ := info_parts st_info
  have hto := cut_to (P := Try.prog) 27 5 .i64 Try.underlying27 hi0 A l.length c m h0 hm hc
  have hfrom := cut_from (P := Try.prog) 27 5 .i64 Try.underlying27 hi0 1 hsz A l.length c m h0 hm
  have hm' : m.toNat ≤ l.length := by omega
  have hl1 : (l.take m.toNat).length = m.toNat := by rw [List.length_take]; omega
  have hl2 : (l.drop m.toNat).length = l.length - m.toNat := List.length_drop
  have HC1 := Aside0.mk (Kd.C_take (m := m.toNat) hC hm')
  have HC2 := Aside0.mk (Kd.C_drop (m := m.toNat) hC hm' hc)
  obtain ⟨A2, hA2⟩ : ∃ A2, A2 = (if c = m.toNat then A else A.map (·.add (m.toNat * 1))) := ⟨_, rfl⟩
  rw [← hA2] at hfrom
  have HA2 := Aside0.mk hA2
  have HX := Aside0.mk hx
  have HB := Aside0.mk hB
  have HG := Aside0.mk hg
  have HC := Aside0.mk hc
  have HM := Aside0.mk hm'
  have HL1 := Aside0.mk hl1
  have HL2 := Aside0.mk hl2
  clear hA2 hx hB hg hc hC hm' hl1 hl2 hi0 hsz h0 hm
  go_enter Try.func57, Try.ntmps57
  go_wp2
  go_ret
  refine ⟨A, c, by first | (rw [HL1.out]; done) | (rw [HL1.out]; rfl), by have := HL1.out; have := HM.out; have := HC.out; omega, HC1.out, ⟨HG.out, A2, c - m.toNat, ?_, by have := HL2.out; have := HC.out; omega, by rw [HA2.out]; exact HC2.out⟩, below_set HB.out HG.out, Kept.setCell (Kept.refl w (fun k => k = g)) (p := ⟨g, 0, none⟩) (.inl rfl) _⟩
  rw [HL2.out]
  exact blk_put HX.out 0 _ rfl
set_option maxHeartbeats 1600000 in
set_option maxRecDepth 100000 in
theorem take_bad (g : Nat) (l : List Int) (m e : Int) (w0 w : World) (h : RdrOf w0 w g l) (hm : (l.length : Int) < m) :
    Calls Try.prog 57 #[.pointer (some ⟨g, 0, none⟩), .int .i64 m, .int .i64 e] w fun x w' => x = .panicked [{ v := faultV e, recovered := false }] ∧ w' = w := by
  obtain ⟨hg, A, c, hx, hc, hC⟩ := h
  have hc0 : w.cell? ⟨g, 0, none⟩ = some (.slice A l.length c) := blk_cell hx 0
  have hlt : decide ((l.length : Int) < m) = true := decide_eq_true hm
  clear hx hg hc hC hm
  go_enter Try.func57, Try.ntmps57
  go_wp2
  exact ⟨rfl, rfl, rfl⟩
theorem take_y (g : Nat) (l y : List Int) (m e : Int) (w0 w : World) (hy : y = l.take m.toNat) (hB : Below w0.heap.size w0 w) (h : RdrOf w0 w g l) (h0 : 0 ≤ m) (hm : m ≤ l.length) :
    Calls Try.prog 57 #[.pointer (some ⟨g, 0, none⟩), .int .i64 m, .int .i64 e] w fun x w' => ∃ A c, x = .returned (.slice A y.length c) ∧ y.length ≤ c ∧ Kd.C (Kd.int .u8) w0 A y.length y ∧ RdrOf w0 w' g (l.drop m.toNat) ∧ Below w0.heap.size w0 w' ∧ Kept w w' (fun k => k = g) := by
  subst hy
  exact take_ok g l m e w0 w hB h h0 hm
set_option maxHeartbeats 1600000 in
set_option maxRecDepth 100000 in
theorem num_ok (k g : Nat) (l : List Int) (m r1 r2 : Int) (w0 w : World) (hB : Below w0.heap.size w0 w) (h : RdrOf w0 w g l) (h0 : 0 ≤ m) (hm : m ≤ l.length) (hf : octet_Num.f k (l.take m.toNat) 0 m = some (r1, r2)) :
    Calls Try.prog 40 #[.pointer (some ⟨g, 0, none⟩), .int .i64 m] w fun x w' => x = .returned (.int .i64 (wrap64 r1)) ∧ RdrOf w0 w' g (l.drop m.toNat) ∧ Below w0.heap.size w0 w' ∧ Kept w w' (fun k => k = g) := by
  obtain ⟨y, hy⟩ : ∃ y, y = l.take m.toNat := ⟨_, rfl⟩
  rw [← hy] at hf
  have HY := Aside0.mk hy
  have HB := Aside0.mk hB
  have HX := Aside0.mk h
  have H0 := Aside0.mk h0
  have HM := Aside0.mk hm
  have HF := Aside0.mk hf
  clear hy hB h h0 hm hf
  go_enter Try.func40, Try.ntmps40
  go_wp2_with (first | (go_at_call 57; (with_reducible refine (take_y g l y m 4 w0 w HY.out HB.out HX.out H0.out HM.out).mono ?_); rintro e w1 ⟨A1, c1, rfl, hc1, hC1, hx1, hb1, hk1⟩; have HC1 := Aside0.mk hC1; have HD1 := Aside0.mk hc1; have HB1 := Aside0.mk hb1; have HX1 := Aside0.mk hx1; have HK1 := Aside0.mk hk1; clear hC1 hc1 hb1 hx1 hk1) | (go_at_call 56; (with_reducible refine (octet_Num.calls k A1 c1 y 0 m r1 r2 w1 (Kd.C_below HC1.out HB1.out) HD1.out HF.out).mono ?_); rintro e w2 ⟨rfl, hd⟩; have HB2 := Aside0.mk hd.below; clear hd))
  go_ret
  exact ⟨rfl, HX1.out.below HB2.out, below_step HB1.out HB2.out, HK1.out.below HB2.out⟩
set_option maxHeartbeats 1600000 in
set_option maxRecDepth 100000 in
theorem num_bad (g : Nat) (l : List Int) (m : Int) (w0 w : World) (h : RdrOf w0 w g l) (hm : (l.length : Int) < m) :
    Calls Try.prog 40 #[.pointer (some ⟨g, 0, none⟩), .int .i64 m] w fun x w' => x = .panicked [{ v := faultV 4, recovered := false }] ∧ w' = w := by
  have HX := Aside0.mk h
  have HM := Aside0.mk hm
  clear h hm
  go_enter Try.func40, Try.ntmps40
  go_wp2_with (first | (go_at_call 57; (with_reducible refine (take_bad g l m 4 w0 w HX.out HM.out).mono ?_); rintro e w1 ⟨rfl, rfl⟩))
  exact ⟨rfl, rfl, rfl⟩
end Go.Proofs.Ytaahkggbjpdofaa.M
end
section
namespace Go.Proofs.Ytaahkggbjpdofaa.M
open Go.RowKit Go.Proofs.YtaahkggbjpdofaaW.PrintWords Go.Proofs.YtaahkggbjpdofaaW.PrintLast Go.Proofs.YtaahkggbjpdofaaW.PrintMore
set_option linter.unusedVariables false
set_option linter.unusedSimpArgs false
theorem zero_fault (w : World) : (zeroValue 68).run Try.prog w = .ok (.agg #[.int .i64 0]) w := by kernel_rfl
theorem as_nil (w : World) : (Instr.typeAssert .nilIface 20 68 true).run Try.prog w = .ok (.tuple #[.agg #[.int .i64 0], .bool false]) w := by simp [Instr.typeAssert, go_sem, zero_fault]
theorem as_fault (v : Value) (w : World) : (Instr.typeAssert (.iface 68 v) 20 68 true).run Try.prog w = .ok (.tuple #[v, .bool true]) w := by simp [Instr.typeAssert, go_sem]
attribute [local go_sem] as_nil as_fault
set_option maxHeartbeats 400000 in
set_option maxRecDepth 100000 in
theorem catch_idle (ph pl pe : Addr) (w : World) :
    CallsD Try.prog 37 #[.pointer (some ph), .pointer (some pl), .pointer (some pe)] .returning w fun e u' w' => e = .returned (.tuple #[]) ∧ u' = .returning ∧ Below w.heap.size w w' := by
  refine callsD_of_wpS Try.func37 rfl fun c₀ cs hu => ?_
  apply wpS_seq
  generalize hK : Exit.thenS _ _ = K
  apply wpS_region
  simp [wpOpsS, go_sem, recoverD, hu, Try.ntmps37]
  subst hK
  simp only [Exit.thenS]
  refine wpS_of_wp ?_
  have ht : (#[Value.pointer (some ph), Value.pointer (some pl), Value.pointer (some pe)] ++ ((Array.replicate 20 undef).setIfInBounds 3 Value.nilIface).setIfInBounds 0 Value.nilIface) = #[Value.pointer (some ph), Value.pointer (some pl), Value.pointer (some pe), .nilIface, undef, undef, .nilIface, undef, undef, undef, undef, undef, undef, undef, undef, undef, undef, undef, undef, undef, undef, undef, undef] := by kernel_rfl
  rw [ht]
  clear ht
  go_wp2_with (first | ((with_reducible refine gate_dst (N := 4) rfl ?_); refine box_event ?hg (N := 4) ?hd (cs := #[.int .i64 0]) (t := 68) ?hr ?_; (case hd => rfl); (case hg => rfl); (case hr => first | (go_simp; done) | (go_simp; rfl)); intro p4 hg4 w1 hbox4 hb4; have hd0 : w1.cell? ⟨p4, 0, none⟩ = some (.int .i64 0) := blk_cell hbox4 0; have hf0 : w1.frozen? ⟨p4, 0, none⟩ = false := blk_frozen hbox4 0; have HP4 := Aside0.mk (show w.heap.size ≤ p4 by omega); have HB4 := Aside0.mk hb4; clear hg4 hbox4 hb4))
  have hb := below_set (j := 0) (v := .int .i64 0) HB4.out HP4.out
  cases c₀
  simp_all [bodyPostS, results, Try.results37]
#print axioms catch_idle
end Go.Proofs.Ytaahkggbjpdofaa.M
end
section
namespace Go.Proofs.Ytaahkggbjpdofaa.M
open Go.RowKit Go.Proofs.YtaahkggbjpdofaaW.PrintWords Go.Proofs.YtaahkggbjpdofaaW.PrintLast Go.Proofs.YtaahkggbjpdofaaW.PrintMore
set_option linter.unusedVariables false
set_option linter.unusedSimpArgs false
theorem mr_84 (v : Value) (w : World) : (method 229 84 (.agg #[v]) "trunkline/chunk.read").run Try.prog w = .ok (104, .agg #[v]) w := by kernel_rfl
theorem nr_84 (v : Value) (w : World) : (nilAhead 229 84 (.agg #[v]) "trunkline/chunk.read").run Try.prog w = .ok (some false) w := by kernel_rfl
attribute [local go_sem] mr_84 nr_84
theorem padded_4 (w : World) : Calls Try.prog 30 #[.int .i64 4] w fun e w' => e = .returned (.int .i64 4) ∧ w' = w := by
  go_enter Try.func30, Try.ntmps30
  go_wp2
  go_ret
  exact ⟨rfl, rfl⟩
set_option maxHeartbeats 1600000 in
set_option maxRecDepth 100000 in
theorem bare_read (g : Nat) (p : Value) (w0 w : World) (h : RdrOf w0 w g []) :
    Calls Try.prog 104 #[.agg #[p], .pointer (some ⟨g, 0, none⟩)] w fun e w' => e = .returned (.tuple #[]) ∧ Below w.heap.size w w' := by
  have HX := Aside0.mk h
  have hlF : decide (0 < ([] : List Int).length) = false := by decide
  clear h
  go_enter Try.func104, Try.ntmps104
  go_wp2_with (first | ((with_reducible refine gate_dst (N := 2) rfl ?_); refine box_event ?hg (N := 2) ?hd (cs := #[p]) (t := 84) ?hr ?_; (case hd => rfl); (case hg => rfl); (case hr => first | (go_simp; done) | (go_simp; rfl)); intro p2 hg2 w1 hbox2 hb2; have HX1 := Aside0.mk (HX.out.below hb2); have HB1 := Aside0.mk hb2; clear hg2 hbox2 hb2)
                       | (go_at_call 58; (with_reducible refine (left_calls g [] false w0 w1 HX1.out hlF).mono ?_); rintro e w2 ⟨rfl, hw2⟩; have hw2 := hw2.symm; subst hw2)
                       | (go_at_call 38; (with_reducible refine (must_ok _ _).mono ?_); rintro e w3 ⟨rfl, hw3⟩; subst hw3))
  go_end0
  exact ⟨rfl, HB1.out⟩
theorem exit_cut {P : Program} {next : Act → World → Prop} {Q : Exit → Act → World → Prop} {x : Exit} {a : Act} {W : World} (F : World → Prop) (h : F W) (k : ∀ wz, F wz → Exit.then next Q x a wz) : Exit.then next Q x a W := k W h
theorem bare_readW (p : Value) (A : Option Addr) (c : Nat) (w0 W W' : World) (hB : Below w0.heap.size w0 W) (hC : Kd.C (Kd.int .u8) w0 A 0 []) (hW : W'.heap[W.heap.size]? = some (.cells #[.slice A 0 c] 73 (0, 0))) (hBW : Below W.heap.size W W') :
    Calls Try.prog 104 #[.agg #[p], .pointer (some ⟨W.heap.size, 0, none⟩)] W' fun e w' => e = .returned (.tuple #[]) ∧ Below W.heap.size W w' := by
  refine (bare_read W.heap.size p w0 W' ⟨hB.size, A, c, hW, Nat.zero_le _, hC⟩).mono ?_
  rintro e w' ⟨rfl, hb⟩
  exact ⟨rfl, below_step hBW hb⟩
theorem bare_readA (p : Value) (A : Option Addr) (c : Nat) (w0 W : World) (hB : Below w0.heap.size w0 W) (hC : Kd.C (Kd.int .u8) w0 A 0 []) :
    Calls Try.prog 104 #[.agg #[p], .pointer (some ⟨W.heap.size, 0, none⟩)] (W.alloc (.cells #[.slice A 0 c] 73 (0, 0))) fun e w' => e = .returned (.tuple #[]) ∧ Below W.heap.size W w' :=
  bare_readW p A c w0 W _ hB hC (blk_new W _) (below_alloc (Below.refl _ _) _)
theorem bare_readD (p : Value) (A : Option Addr) (c : Nat) (w0 W : World) (hB : Below w0.heap.size w0 W) (hC : Kd.C (Kd.int .u8) w0 A 0 []) :
    Calls Try.prog 104 #[.agg #[p], .pointer (some ⟨W.heap.size, 0, none⟩)] (W.alloc (.cells #[.slice A 0 c] 73 (0, 0))).drew fun e w' => e = .returned (.tuple #[]) ∧ Below W.heap.size W w' :=
  bare_readW p A c w0 W _ hB hC (blk_new W _) (below_alloc (Below.refl _ _) _).drew
set_option maxHeartbeats 4000000 in
set_option maxRecDepth 100000 in
theorem chunks_one (k g : Nat) (a r2 : Int) (w0 w : World) (hB : Below w0.heap.size w0 w) (hx : RdrOf w0 w g [11, a, 0, 4]) (hn : octet_Num.f k [11, a, 0, 4] 2 2 = some (4, r2)) :
    Calls Try.prog 41 #[.pointer (some ⟨g, 0, none⟩)] w fun x w' => ∃ v, x = .returned v ∧ Kd.R k29 29 w' w0.heap.size (fun _ => True) v [⟨11, a, 0, 0, 0, 0, 0, 0, 0, 0, [], [], [], []⟩] ∧ Below w0.heap.size w0 w' ∧ Kept w w' (fun k => k = g) := by
  obtain ⟨y, hy⟩ : ∃ y : List Int, y = [11, a, 0, 4] := ⟨_, rfl⟩
  obtain ⟨z, hz⟩ : ∃ z : List Int, z = [] := ⟨_, rfl⟩
  have HY := Aside0.mk (show y = ([11, a, 0, 4] : List Int).take (4 : Int).toNat from hy)
  have HZ := Aside0.mk (show z = ([] : List Int).take (0 : Int).toNat from hz)
  have HZ0 := Aside0.mk hz
  have HYL := Aside0.mk (show y.length = 4 by rw [hy]; rfl)
  have HY0 := Aside0.mk (show rd y 0 = 11 by rw [hy]; rfl)
  have HY1 := Aside0.mk (show rd y 1 = a by rw [hy]; rfl)
  rw [← hy] at hn
  have HN := Aside0.mk hn
  have HB := Aside0.mk hB
  have HX := Aside0.mk hx
  have hlT : decide (0 < ([11, a, 0, 4] : List Int).length) = true := rfl
  have hlF : decide (0 < ([] : List Int).length) = false := by decide
  have h40 : (0 : Int) ≤ 4 := by decide
  have h44 : (4 : Int) ≤ ([11, a, 0, 4] : List Int).length := (by show (4 : Int) ≤ 4; decide)
  have h00 : (0 : Int) ≤ 0 := by decide
  have h0n : (0 : Int) ≤ ([] : List Int).length := by decide
  have HT := Aside0.mk hlT
  have HF := Aside0.mk hlF
  have H40 := Aside0.mk h40
  have H44 := Aside0.mk h44
  have H00 := Aside0.mk h00
  have H0N := Aside0.mk h0n
  clear hy hz hn hB hx hlT hlF h40 h44 h00 h0n
  go_enter Try.func41, Try.ntmps41
  go_wp2
  refine wp_loop_rounds 2 ?_
  rw [rounds_succ]
  go_wp2_with (first | (go_at_call 58; (with_reducible refine (left_calls g [11, a, 0, 4] true w0 w HX.out HT.out).mono ?_); rintro e w2 ⟨rfl, hw2⟩; have hw2 := hw2.symm; subst hw2)
                       | (go_at_call 57; (with_reducible refine (take_y g [11, a, 0, 4] y 4 3 w0 w HY.out HB.out HX.out H40.out H44.out).mono ?_); rintro e w1 ⟨A1, c1, rfl, hc1, hC1, hx1, hb1, hk1⟩; obtain ⟨ad1, e1, hp0⟩ := Kd.at_int (Kd.C_below hC1 hb1) 0 (by decide) (by rw [HYL.out]; decide); subst e1; clear hp0; have HC1 := Aside0.mk hC1; have HD1 := Aside0.mk hc1; have HB1 := Aside0.mk hb1; have HX1 := Aside0.mk (show RdrOf w0 w1 g [] from hx1); have HK1 := Aside0.mk hk1; clear hC1 hc1 hb1 hx1 hk1)
                       | (go_at_call 56; (with_reducible refine (octet_Num.calls k (some ad1) c1 y 2 2 4 r2 w1 (Kd.C_below HC1.out HB1.out) HD1.out HN.out).mono ?_); rintro e w2 ⟨rfl, hd⟩; have HB2 := Aside0.mk (below_step HB1.out hd.below); have HX2 := Aside0.mk (HX1.out.below hd.below); have HK2 := Aside0.mk (HK1.out.below hd.below); clear hd)
                       | (go_at_call 57; (with_reducible refine (take_y g [] z 0 3 w0 w2 HZ.out HB2.out HX2.out H00.out H0N.out).mono ?_); rintro e w3 ⟨A3, c3, rfl, hc3, hC3, hx3, hb3, hk3⟩; have HC3 := Aside0.mk hC3; have HD3 := Aside0.mk hc3; have HB3 := Aside0.mk hb3; have HX3 := Aside0.mk (show RdrOf w0 w3 g [] from hx3); have HK3 := Aside0.mk (Kept.then_ HK2.out hk3 (fun k hk => .inl hk)); clear hC3 hc3 hb3 hx3 hk3)
                       | (go_at_call 30; (with_reducible refine (padded_4 w2).mono ?_); rintro e wp ⟨rfl, hwp⟩; have hwp := hwp.symm; subst hwp)
                       | (go_at_call 38; (with_reducible refine (must_ok _ _).mono ?_); rintro e wm ⟨rfl, hwm⟩; have hwm := hwm.symm; subst hwm))
  obtain ⟨adx, ex, hq0⟩ := Kd.at_int (Kd.C_below HC1.out HB3.out) 0 (by decide) (by rw [HYL.out]; decide)
  injection ex with ex
  subst ex
  obtain ⟨adx, ex, hq1⟩ := Kd.at_int (Kd.C_below HC1.out HB3.out) 1 (by decide) (by rw [HYL.out]; decide)
  injection ex with ex
  subst ex
  rw [HY0.out] at hq0
  rw [HY1.out] at hq1
  simp only [show (0 : Int).toNat = 0 from rfl, show (1 : Int).toNat = 1 from rfl, Go.Addr.add, Nat.one_ne_zero, ↓reduceIte] at hq0 hq1
  have hyl := HYL.out
  have hqA0 : ∀ o, (w3.alloc o).cell? ad1 = some (.int .u8 11) := fun o => pw_cell_below (below_alloc (Below.refl _ _) o) hq0
  have hqA1 : ∀ o, (w3.alloc o).cell? ⟨ad1.block, ad1.off + 1, none⟩ = some (.int .u8 a) := fun o => pw_cell_below (below_alloc (Below.refl _ _) o) hq1
  go_region
  have HPC := Aside0.mk (show w0.heap.size ≤ w3.heap.size from HB3.out.size)
  refine exit_cut (P := Try.prog) (fun wz => wz.heap[w3.heap.size]? = some (.cells #[.int .u8 11, .int .u8 a, .int .u32 0, .int .u16 0, .int .u16 0, .int .u32 0, .int .u32 0, .int .u32 0, .int .u16 0, .int .u16 0, .slice none 0 0, .slice none 0 0, .slice none 0 0, .slice none 0 0] 29 (0, 0)) ∧ Below w0.heap.size w0 wz ∧ RdrOf w0 wz g [] ∧ Kept w wz (fun k => k = g)) ⟨blk_new w3 _, below_step HB3.out (below_alloc (Below.refl _ _) _).drew, HX3.out.below (below_alloc (Below.refl _ _) _).drew, HK3.out.below (below_alloc (Below.refl _ _) _).drew⟩ ?_
  generalize w3.heap.size = pc
  rintro wz ⟨hbx, hbz, hxz, hkz⟩
  have HKZ := Aside0.mk hkz
  clear hq0 hq1 hqA0 hqA1 hyl
  have HBZ := Aside0.mk hbz
  have HXZ := Aside0.mk hxz
  have HBX := Aside0.mk hbx
  have hcut : ∀ W : World, (Instr.slice 27 (.slice A3 z.length c3) none (some (.int .u64 0)) none).run Try.prog W = .ok (.slice A3 0 c3) W := by
    rw [HZ0.out]
    obtain ⟨i0, hi0, _, hsz, _⟩ := info_parts st_info
    exact cut_to (P := Try.prog) 27 5 .u64 Try.underlying27 hi0 A3 0 c3 0 (by decide) (by decide) (Nat.zero_le _)
  have hw0 : IntKind.u64.wrap 0 = 0 := by decide
  have HCZ := Aside0.mk (show Kd.C (Kd.int .u8) w0 A3 0 [] from by have h := HC3.out; rw [HZ0.out] at h; exact h)
  have hc0 : wz.cell? ⟨pc, 0, none⟩ = some (.int .u8 11) := blk_cell hbx 0
  have hc1 : wz.cell? ⟨pc, 1, none⟩ = some (.int .u8 a) := blk_cell hbx 1
  have hc2 : wz.cell? ⟨pc, 2, none⟩ = some (.int .u32 0) := blk_cell hbx 2
  have hc3 : wz.cell? ⟨pc, 3, none⟩ = some (.int .u16 0) := blk_cell hbx 3
  have hc4 : wz.cell? ⟨pc, 4, none⟩ = some (.int .u16 0) := blk_cell hbx 4
  have hc5 : wz.cell? ⟨pc, 5, none⟩ = some (.int .u32 0) := blk_cell hbx 5
  have hc6 : wz.cell? ⟨pc, 6, none⟩ = some (.int .u32 0) := blk_cell hbx 6
  have hc7 : wz.cell? ⟨pc, 7, none⟩ = some (.int .u32 0) := blk_cell hbx 7
  have hc8 : wz.cell? ⟨pc, 8, none⟩ = some (.int .u16 0) := blk_cell hbx 8
  have hc9 : wz.cell? ⟨pc, 9, none⟩ = some (.int .u16 0) := blk_cell hbx 9
  have hc10 : wz.cell? ⟨pc, 10, none⟩ = some (.slice none 0 0) := blk_cell hbx 10
  have hc11 : wz.cell? ⟨pc, 11, none⟩ = some (.slice none 0 0) := blk_cell hbx 11
  have hc12 : wz.cell? ⟨pc, 12, none⟩ = some (.slice none 0 0) := blk_cell hbx 12
  have hc13 : wz.cell? ⟨pc, 13, none⟩ = some (.slice none 0 0) := blk_cell hbx 13
  clear hbx hbz hxz hkz
  go_wp2
  first | (go_region_with (first | (go_at_call 25; (with_reducible refine (of_bare pc _ ?hc0).mono ?_); (case hc0 => first | exact hc0 | exact pw_cell_below (below_alloc (Below.refl _ _) _) hc0); rintro e w8 ⟨rfl, hw8⟩; subst hw8) | (go_at_call 104; (first | (with_reducible refine (bare_readA _ A3 c3 w0 wz.drew HBZ.out.drew HCZ.out).mono ?_) | (with_reducible refine (bare_readD _ A3 c3 w0 wz HBZ.out HCZ.out).mono ?_)); rintro e w5 ⟨rfl, hb5⟩; have hx5 := blk_below HBX.out hb5; have HB5 := Aside0.mk (below_step HBZ.out hb5); have HX5 := Aside0.mk (HXZ.out.below hb5); have HK5 := Aside0.mk (HKZ.out.below hb5); clear hc0 hc1 hc2 hc3 hc4 hc5 hc6 hc7 hc8 hc9 hc10 hc11 hc12 hc13; have hc0 : w5.cell? ⟨pc, 0, none⟩ = some (.int .u8 11) := blk_cell hx5 0; have hc1 : w5.cell? ⟨pc, 1, none⟩ = some (.int .u8 a) := blk_cell hx5 1; have hc2 : w5.cell? ⟨pc, 2, none⟩ = some (.int .u32 0) := blk_cell hx5 2; have hc3 : w5.cell? ⟨pc, 3, none⟩ = some (.int .u16 0) := blk_cell hx5 3; have hc4 : w5.cell? ⟨pc, 4, none⟩ = some (.int .u16 0) := blk_cell hx5 4; have hc5 : w5.cell? ⟨pc, 5, none⟩ = some (.int .u32 0) := blk_cell hx5 5; have hc6 : w5.cell? ⟨pc, 6, none⟩ = some (.int .u32 0) := blk_cell hx5 6; have hc7 : w5.cell? ⟨pc, 7, none⟩ = some (.int .u32 0) := blk_cell hx5 7; have hc8 : w5.cell? ⟨pc, 8, none⟩ = some (.int .u16 0) := blk_cell hx5 8; have hc9 : w5.cell? ⟨pc, 9, none⟩ = some (.int .u16 0) := blk_cell hx5 9; have hc10 : w5.cell? ⟨pc, 10, none⟩ = some (.slice none 0 0) := blk_cell hx5 10; have hc11 : w5.cell? ⟨pc, 11, none⟩ = some (.slice none 0 0) := blk_cell hx5 11; have hc12 : w5.cell? ⟨pc, 12, none⟩ = some (.slice none 0 0) := blk_cell hx5 12; have hc13 : w5.cell? ⟨pc, 13, none⟩ = some (.slice none 0 0) := blk_cell hx5 13; clear hx5 hb5))) | fail
  all_goals
    go_wp2_with (first | ((with_reducible refine gate_builtin (b := .append) (xs := #[.tmp 49, .tmp 51]) rfl ?_); at_builtin; refine Kd.R_append k29 (w0 := w0) w0.heap.size rfl (.tmp 49) (.tmp 51) 37 29 (.agg #[(.int .u8 0), (.int .u8 0), (.int .u32 0), (.int .u16 0), (.int .u16 0), (.int .u32 0), (.int .u32 0), (.int .u32 0), (.int .u16 0), (.int .u16 0), (.slice none 0 0), (.slice none 0 0), (.slice none 0 0), (.slice none 0 0)]) 128 rfl Try.underlying37 info29 rfl (by decide) (by omega) (.slice none 0 0) [] (⟨11, a, 0, 0, 0, 0, 0, 0, 0, 0, [], [], [], []⟩ : S29) [.int .u8 11, .int .u8 a, .int .u32 0, .int .u16 0, .int .u16 0, .int .u32 0, .int .u32 0, .int .u32 0, .int .u16 0, .int .u16 0, .slice none 0 0, .slice none 0 0, .slice none 0 0, .slice none 0 0] (fun _ => True) (fun _ => False) rfl rfl (k29_mkM _ _ _ (⟨11, a, 0, 0, 0, 0, 0, 0, 0, 0, [], [], [], []⟩ : S29) (Kd.R_nil _ _ _ _ _) (Kd.R_nil _ _ _ _ _) (Kd.R_nil _ _ _ _ _) (Kd.R_nil _ _ _ _ _)) (fun _ h => h.elim) (fun _ _ => trivial) (Kd.R_nil _ _ _ _ _) HB5.out HB5.out.size (by decide) ?_; intro v6 w6 ho6 hb6 hg6 ha6; have HO6 := Aside0.mk ho6; have HB6 := Aside0.mk hb6; have HX6 := Aside0.mk (show RdrOf w0 w6 g [] from HX5.out.kept (Kept.of_grown hg6 (Kept.refl _ (fun _ => False)) (fun k hk => by simp [Value.ownBlock] at hk)) (fun h => h)); have HK6 := Aside0.mk (Kept.of_grown hg6 HK5.out (fun k hk => by simp [Value.ownBlock] at hk)); clear ho6 hb6 hg6 ha6))
  all_goals
    rw [rounds_succ]
    go_wp2_with (first | (go_at_call 58; (with_reducible refine (left_calls g [] false w0 w6 HX6.out HF.out).mono ?_); rintro e w2 ⟨rfl, hw2⟩; have hw2 := hw2.symm; subst hw2))
    go_ret
    exact ⟨v6, rfl, HO6.out, HB6.out, HK6.out⟩
#print axioms chunks_one
end Go.Proofs.Ytaahkggbjpdofaa.M
end
section
namespace Go.Proofs.Ytaahkggbjpdofaa.M
open Go.RowKit Go.Proofs.YtaahkggbjpdofaaW.PrintWords Go.Proofs.YtaahkggbjpdofaaW.PrintLast Go.Proofs.YtaahkggbjpdofaaW.PrintMore
set_option linter.unusedVariables false
set_option linter.unusedSimpArgs false
theorem num_y (k g : Nat) (l y : List Int) (m r1 r2 : Int) (w0 w : World) (hy : y = l.drop m.toNat) (hB : Below w0.heap.size w0 w) (h : RdrOf w0 w g l) (h0 : 0 ≤ m) (hm : m ≤ l.length) (hf : octet_Num.f k (l.take m.toNat) 0 m = some (r1, r2)) :
    Calls Try.prog 40 #[.pointer (some ⟨g, 0, none⟩), .int .i64 m] w fun x w' => x = .returned (.int .i64 (wrap64 r1)) ∧ RdrOf w0 w' g y ∧ Below w0.heap.size w0 w' ∧ Kept w w' (fun k => k = g) := by
  subst hy
  exact num_ok k g l m r1 r2 w0 w hB h h0 hm hf
set_option maxHeartbeats 8000000 in
set_option maxRecDepth 100000 in
theorem take16 (k : Nat) (A0 : Option Addr) (c0 : Nat) (l0 l2 l3 l4 : List Int) (a n1 r1 n2 r2 n3 r3 n4 r4 r5 : Int) (w : World) (hr0 : Kd.C (Kd.int .u8) w A0 l0.length l0) (hc0 : l0.length ≤ c0) (hl : l0.length = 16) (h2 : l2 = l0.drop 2) (h3 : l3 = l2.drop 2) (h4 : l4 = l3.drop 4) (h5 : l4.drop 4 = [11, a, 0, 4])
    (hs : sums_Stamped.f k l0 = some true) (hn1 : octet_Num.f k (l0.take 2) 0 2 = some (n1, r1)) (hn2 : octet_Num.f k (l2.take 2) 0 2 = some (n2, r2)) (hn3 : octet_Num.f k (l3.take 4) 0 4 = some (n3, r3)) (hn4 : octet_Num.f k (l4.take 4) 0 4 = some (n4, r4)) (hn5 : octet_Num.f k [11, a, 0, 4] 2 2 = some (4, r5)) :
    Calls Try.prog 18 #[.slice A0 l0.length c0] w fun e w' => ∃ v, e = .returned (.tuple #[.agg #[.int .u16 (IntKind.u16.wrap (wrap64 n1)), .int .u16 (IntKind.u16.wrap (wrap64 n2)), .int .u32 (wrap64 n3 % 4294967296)], v, .int .i64 0]) ∧ Kd.R k29 29 w' w.heap.size (fun _ => True) v [⟨11, a, 0, 0, 0, 0, 0, 0, 0, 0, [], [], [], []⟩] ∧ Below w.heap.size w w' := by
  have hmf : ∀ (fn : Fn) (first cap : Array Value) (w : World), (Instr.makeFunc fn first cap).run Try.prog w = .ok (.func fn first cap) w := fun _ _ _ _ => rfl
  have hl2 : l2.length = 14 := by rw [h2, List.length_drop, hl]
  have hl3 : l3.length = 12 := by rw [h3, List.length_drop, hl2]
  have hl4 : l4.length = 8 := by rw [h4, List.length_drop, hl3]
  have HR := Aside0.mk hr0
  have HC := Aside0.mk hc0
  have HL := Aside0.mk hl
  have H2 := Aside0.mk (show l2 = l0.drop (2 : Int).toNat from h2)
  have H3 := Aside0.mk (show l3 = l2.drop (2 : Int).toNat from h3)
  have H4 := Aside0.mk (show l4 = l3.drop (4 : Int).toNat from h4)
  have H5 := Aside0.mk (show [11, a, 0, 4] = l4.drop (4 : Int).toNat from h5.symm)
  have HM1 := Aside0.mk (show (2 : Int) ≤ (l0.length : Int) by omega)
  have HM2 := Aside0.mk (show (2 : Int) ≤ (l2.length : Int) by omega)
  have HM3 := Aside0.mk (show (4 : Int) ≤ (l3.length : Int) by omega)
  have HM4 := Aside0.mk (show (4 : Int) ≤ (l4.length : Int) by omega)
  have HS := Aside0.mk hs
  have HN1 := Aside0.mk (show octet_Num.f k (l0.take (2 : Int).toNat) 0 2 = some (n1, r1) from hn1)
  have HN2 := Aside0.mk (show octet_Num.f k (l2.take (2 : Int).toNat) 0 2 = some (n2, r2) from hn2)
  have HN3 := Aside0.mk (show octet_Num.f k (l3.take (4 : Int).toNat) 0 4 = some (n3, r3) from hn3)
  have HN4 := Aside0.mk (show octet_Num.f k (l4.take (4 : Int).toNat) 0 4 = some (n4, r4) from hn4)
  have HN5 := Aside0.mk hn5
  have hge : decide ((16 : Int) ≤ (l0.length : Int)) = true := decide_eq_true (by omega)
  have hge' : decide (16 ≤ l0.length) = true := decide_eq_true (by omega)
  have hle : decide ((l0.length : Int) ≤ 1480) = true := decide_eq_true (by omega)
  have hle' : decide (l0.length ≤ 1480) = true := decide_eq_true (by omega)
  have H20 := Aside0.mk (show (0 : Int) ≤ 2 by decide)
  have H40 := Aside0.mk (show (0 : Int) ≤ 4 by decide)
  clear hr0 hc0 hl h2 h3 h4 h5 hs hn1 hn2 hn3 hn4 hn5 hl2 hl3 hl4
  go_enter_defers Try.func18, Try.ntmps18
  go_wp2_with (first | ((with_reducible refine gate_dst (N := 2) rfl ?_); refine box_event ?hg (N := 2) ?hd (cs := #[.int .u16 0, .int .u16 0, .int .u32 0]) (t := 36) ?hr ?_; (case hd => rfl); (case hg => rfl); (case hr => first | (go_simp; done) | (go_simp; rfl)); intro gh hgh w1 hbox hb; have GH := Aside0.mk (show w.heap.size ≤ gh by omega); have BH1 := Aside0.mk hbox; have HB1 := Aside0.mk hb; clear hgh hbox hb)
                       | ((with_reducible refine gate_dst (N := 3) rfl ?_); refine box_event ?hg (N := 3) ?hd (cs := #[.slice none 0 0]) (t := 37) ?hr ?_; (case hd => rfl); (case hg => rfl); (case hr => first | (go_simp; done) | (go_simp; rfl)); intro gl hgl w2 hbox hb; have GL := Aside0.mk (show w.heap.size ≤ gl by have := HB1.out.size; omega); have EHL := Aside0.mk (show gh ≠ gl by have := blk_lt BH1.out; omega); have BH2 := Aside0.mk (blk_below BH1.out hb); have BL2 := Aside0.mk hbox; have HB2 := Aside0.mk (below_step HB1.out hb); clear hgl hbox hb)
                       | ((with_reducible refine gate_dst (N := 4) rfl ?_); refine box_event ?hg (N := 4) ?hd (cs := #[.int .i64 0]) (t := 31) ?hr ?_; (case hd => rfl); (case hg => rfl); (case hr => first | (go_simp; done) | (go_simp; rfl)); intro ge hge w3 hbox hb; have GE := Aside0.mk (show w.heap.size ≤ ge by have := HB2.out.size; omega); have EHE := Aside0.mk (show gh ≠ ge by have := blk_lt BH2.out; omega); have ELE := Aside0.mk (show gl ≠ ge by have := blk_lt BL2.out; omega); have BH3 := Aside0.mk (blk_below BH2.out hb); have BL3 := Aside0.mk (blk_below BL2.out hb); have BE3 := Aside0.mk hbox; have HB3 := Aside0.mk (below_step HB2.out hb); clear hge hbox hb)
                       | (go_at_call 38; (with_reducible refine (must_ok _ _).mono ?_); rintro e wm ⟨rfl, hwm⟩; have hwm := hwm.symm; subst hwm)
                       | (go_at_call 39; (with_reducible refine (sums_Stamped.calls k A0 c0 l0 true w3 (Kd.C_below HR.out HB3.out) HC.out HS.out).mono ?_); rintro e w4 ⟨rfl, hb⟩; have BH4 := Aside0.mk (blk_below BH3.out hb); have BL4 := Aside0.mk (blk_below BL3.out hb); have BE4 := Aside0.mk (blk_below BE3.out hb); have HB4 := Aside0.mk (below_step HB3.out hb); clear hb)
                       | ((with_reducible refine gate_dst (N := 20) rfl ?_); refine box_event ?hg (N := 20) ?hd (cs := #[.slice A0 l0.length c0]) (t := 73) ?hr ?_; (case hd => rfl); (case hg => rfl); (case hr => first | (go_simp; done) | (go_simp; rfl)); intro g hg w5 hbox hb; have EH := Aside0.mk (show gh ≠ g by have := blk_lt BH4.out; omega); have EL := Aside0.mk (show gl ≠ g by have := blk_lt BL4.out; omega); have EE := Aside0.mk (show ge ≠ g by have := blk_lt BE4.out; omega); have HX5 := Aside0.mk (show RdrOf w w5 g l0 from ⟨by have := HB4.out.size; omega, A0, c0, hbox, HC.out, HR.out⟩); have BH5 := Aside0.mk (blk_below BH4.out hb); have BL5 := Aside0.mk (blk_below BL4.out hb); have BE5 := Aside0.mk (blk_below BE4.out hb); have HB5 := Aside0.mk (below_step HB4.out hb); clear hg hbox hb)
                       | (go_at_call 40; (with_reducible refine (num_y k g l0 l2 2 n1 r1 w w5 H2.out HB5.out HX5.out H20.out HM1.out HN1.out).mono ?_); rintro e w6 ⟨rfl, hx, hb, hk⟩; have HX6 := Aside0.mk hx; have HB6 := Aside0.mk hb; have BH6 := Aside0.mk (blk_kept BH5.out hk EH.out); have BL6 := Aside0.mk (blk_kept BL5.out hk EL.out); have BE6 := Aside0.mk (blk_kept BE5.out hk EE.out); clear hx hb hk)
                       | (go_at_call 40; (with_reducible refine (num_y k g l2 l3 2 n2 r2 w w6 H3.out HB6.out HX6.out H20.out HM2.out HN2.out).mono ?_); rintro e w7 ⟨rfl, hx, hb, hk⟩; have HX7 := Aside0.mk hx; have HB7 := Aside0.mk hb; have BH7 := Aside0.mk (blk_kept BH6.out hk EH.out); have BL7 := Aside0.mk (blk_kept BL6.out hk EL.out); have BE7 := Aside0.mk (blk_kept BE6.out hk EE.out); clear hx hb hk)
                       | (go_at_call 40; (with_reducible refine (num_y k g l3 l4 4 n3 r3 w w7 H4.out HB7.out HX7.out H40.out HM3.out HN3.out).mono ?_); rintro e w8 ⟨rfl, hx, hb, hk⟩; have HX8 := Aside0.mk hx; have HB8 := Aside0.mk hb; have hbh := blk_kept BH7.out hk EH.out; have hh0 : w8.cell? ⟨gh, 0, none⟩ = some (.int .u16 0) := blk_cell hbh 0; have hh1 : w8.cell? ⟨gh, 1, none⟩ = some (.int .u16 0) := blk_cell hbh 1; have hh2 : w8.cell? ⟨gh, 2, none⟩ = some (.int .u32 0) := blk_cell hbh 2; have hf0 : w8.frozen? ⟨gh, 0, none⟩ = false := blk_frozen hbh 0; have hf1 : w8.frozen? ⟨gh, 1, none⟩ = false := blk_frozen hbh 1; have hf2 : w8.frozen? ⟨gh, 2, none⟩ = false := blk_frozen hbh 2; have BH8 := Aside0.mk hbh; have BL8 := Aside0.mk (blk_kept BL7.out hk EL.out); have BE8 := Aside0.mk (blk_kept BE7.out hk EE.out); clear hx hb hk hbh))
  obtain ⟨W, hW⟩ : ∃ W, W = ((w8.setCell { block := gh, off := 0 } (Value.int IntKind.u16 (IntKind.u16.wrap (wrap64 n1)))).setCell { block := gh, off := 1 } (Value.int IntKind.u16 (IntKind.u16.wrap (wrap64 n2)))).setCell { block := gh, off := 2 } (Value.int IntKind.u32 (wrap64 n3 % 4294967296)) := ⟨_, rfl⟩
  have BHW := Aside0.mk (show W.heap[gh]? = some (.cells #[.int .u16 (IntKind.u16.wrap (wrap64 n1)), .int .u16 (IntKind.u16.wrap (wrap64 n2)), .int .u32 (wrap64 n3 % 4294967296)] 36 (0, 0)) by rw [hW]; exact blk_put (blk_put (blk_put BH8.out 0 _ rfl) 1 _ rfl) 2 _ rfl)
  have BLW := Aside0.mk (show W.heap[gl]? = some (.cells #[.slice none 0 0] 37 (0, 0)) by rw [hW]; exact blk_far (blk_far (blk_far BL8.out (Ne.symm EHL.out) _) (Ne.symm EHL.out) _) (Ne.symm EHL.out) _)
  have BEW := Aside0.mk (show W.heap[ge]? = some (.cells #[.int .i64 0] 31 (0, 0)) by rw [hW]; exact blk_far (blk_far (blk_far BE8.out (Ne.symm EHE.out) _) (Ne.symm EHE.out) _) (Ne.symm EHE.out) _)
  have HBW := Aside0.mk (show Below w.heap.size w W by rw [hW]; exact below_set (below_set (below_set HB8.out GH.out) GH.out) GH.out)
  have HXW := Aside0.mk (show RdrOf w W g l4 by rw [hW]; exact HX8.out.kept (S := fun k => k = gh) (Kept.setCell (Kept.setCell (Kept.setCell (Kept.refl w8 (fun k => k = gh)) (p := ⟨gh, 0, none⟩) (.inl rfl) _) (p := ⟨gh, 1, none⟩) (.inl rfl) _) (p := ⟨gh, 2, none⟩) (.inl rfl) _) (Ne.symm EH.out))
  rw [← hW]
  clear hW hh0 hh1 hh2 hf0 hf1 hf2
  go_wp2_with (first | (go_at_call 40; (with_reducible refine (num_y k g l4 [11, a, 0, 4] 4 n4 r4 w W H5.out HBW.out HXW.out H40.out HM4.out HN4.out).mono ?_); rintro e w9 ⟨rfl, hx, hb, hk⟩; have HX9 := Aside0.mk hx; have HB9 := Aside0.mk hb; have hbh := blk_kept BHW.out hk EH.out; have hbl := blk_kept BLW.out hk EL.out; have hbe := blk_kept BEW.out hk EE.out; have hh0 : w9.cell? ⟨gh, 0, none⟩ = some (.int .u16 (IntKind.u16.wrap (wrap64 n1))) := blk_cell hbh 0; have hf0 : w9.frozen? ⟨gh, 0, none⟩ = false := blk_frozen hbh 0; have hh1 : w9.cell? ⟨gh, 1, none⟩ = some (.int .u16 (IntKind.u16.wrap (wrap64 n2))) := blk_cell hbh 1; have hf1 : w9.frozen? ⟨gh, 1, none⟩ = false := blk_frozen hbh 1; have hh2 : w9.cell? ⟨gh, 2, none⟩ = some (.int .u32 (wrap64 n3 % 4294967296)) := blk_cell hbh 2; have hf2 : w9.frozen? ⟨gh, 2, none⟩ = false := blk_frozen hbh 2; have hl0 : w9.cell? ⟨gl, 0, none⟩ = some (.slice none 0 0) := blk_cell hbl 0; have hlf : w9.frozen? ⟨gl, 0, none⟩ = false := blk_frozen hbl 0; have he0 : w9.cell? ⟨ge, 0, none⟩ = some (.int .i64 0) := blk_cell hbe 0; have hef : w9.frozen? ⟨ge, 0, none⟩ = false := blk_frozen hbe 0; have BH9 := Aside0.mk hbh; have BL9 := Aside0.mk hbl; have BE9 := Aside0.mk hbe; clear hx hb hk hbh hbl hbe))
  have hn1 : gh ≠ gl := EHL.out
  have hn1' : gl ≠ gh := Ne.symm EHL.out
  have hn2 : gh ≠ ge := EHE.out
  have hn2' : ge ≠ gh := Ne.symm EHE.out
  have hn3 : gl ≠ ge := ELE.out
  have hn3' : ge ≠ gl := Ne.symm ELE.out
  first | (go_region_with (first | (go_at_call 41; (first | (with_reducible refine (chunks_one k g a r5 w w9 HB9.out HX9.out HN5.out).mono ?_) | (with_reducible refine (chunks_one k g a r5 w w9.drew HB9.out.drew (HX9.out.below (Below.refl _ _).drew) HN5.out).mono ?_)); rintro e w10 ⟨v, rfl, ho, hb, hk⟩; obtain ⟨Av, cv, ev⟩ := Kd.R_slice ho; subst ev; have hbh := blk_kept BH9.out hk EH.out; have hbl := blk_kept BL9.out hk EL.out; have hbe := blk_kept BE9.out hk EE.out; clear hh0 hf0 hh1 hf1 hh2 hf2 hl0 hlf he0 hef; have hh0 : w10.cell? ⟨gh, 0, none⟩ = some (.int .u16 (IntKind.u16.wrap (wrap64 n1))) := blk_cell hbh 0; have hf0 : w10.frozen? ⟨gh, 0, none⟩ = false := blk_frozen hbh 0; have hh1 : w10.cell? ⟨gh, 1, none⟩ = some (.int .u16 (IntKind.u16.wrap (wrap64 n2))) := blk_cell hbh 1; have hf1 : w10.frozen? ⟨gh, 1, none⟩ = false := blk_frozen hbh 1; have hh2 : w10.cell? ⟨gh, 2, none⟩ = some (.int .u32 (wrap64 n3 % 4294967296)) := blk_cell hbh 2; have hf2 : w10.frozen? ⟨gh, 2, none⟩ = false := blk_frozen hbh 2; have hl0 : w10.cell? ⟨gl, 0, none⟩ = some (.slice none 0 0) := blk_cell hbl 0; have hlf : w10.frozen? ⟨gl, 0, none⟩ = false := blk_frozen hbl 0; have he0 : w10.cell? ⟨ge, 0, none⟩ = some (.int .i64 0) := blk_cell hbe 0; have hef : w10.frozen? ⟨ge, 0, none⟩ = false := blk_frozen hbe 0; have BH10 := Aside0.mk hbh; have BL10 := Aside0.mk hbl; have BE10 := Aside0.mk hbe; have HB10 := Aside0.mk hb; have HO10 := Aside0.mk ho; clear ho hb hk hbh hbl hbe))) | fail
  all_goals
    refine exit_cut (P := Try.prog) (fun wz => wz.heap[gh]? = some (.cells #[.int .u16 (IntKind.u16.wrap (wrap64 n1)), .int .u16 (IntKind.u16.wrap (wrap64 n2)), .int .u32 (wrap64 n3 % 4294967296)] 36 (0, 0)) ∧ wz.heap[gl]? = some (.cells #[.slice Av 1 cv] 37 (0, 0)) ∧ wz.heap[ge]? = some (.cells #[.int .i64 0] 31 (0, 0)) ∧ Below w.heap.size w wz ∧ Kd.R k29 29 wz w.heap.size (fun _ => True) (.slice Av 1 cv) [⟨11, a, 0, 0, 0, 0, 0, 0, 0, 0, [], [], [], []⟩]) ⟨?_, ?_, ?_, ?_, ?_⟩ ?_
    · exact blk_far (blk_far (blk_put (blk_put (blk_put BH10.out 0 _ rfl) 1 _ rfl) 2 _ rfl) EHL.out _) EHE.out _
    · exact blk_far (blk_put (blk_far (blk_far (blk_far BL10.out (Ne.symm EHL.out) _) (Ne.symm EHL.out) _) (Ne.symm EHL.out) _) 0 _ rfl) ELE.out _
    · exact blk_put (blk_far (blk_far (blk_far (blk_far BE10.out (Ne.symm EHE.out) _) (Ne.symm EHE.out) _) (Ne.symm EHE.out) _) (Ne.symm ELE.out) _) 0 _ rfl
    · exact below_set (below_set (below_set (below_set (below_set HB10.out GH.out) GH.out) GH.out) GL.out) GE.out
    · refine Kd.R_mono (Kd.R_step (Kd.R_types (Kd.R_types (Kd.R_types HO10.out BH10.out (by decide)) BL10.out (by decide)) BE10.out (by decide)) (fun k_ hk hlt => ?_)) (fun _ _ => trivial)
      exact (Below.heap_setCell _ _ _ _ hk.2).trans ((Below.heap_setCell _ _ _ _ hk.1.2).trans ((Below.heap_setCell _ _ _ _ hk.1.1.2).trans ((Below.heap_setCell _ _ _ _ hk.1.1.2).trans (Below.heap_setCell _ _ _ _ hk.1.1.2))))
    clear hh0 hf0 hh1 hf1 hh2 hf2 hl0 hlf he0 hef
    rintro wz ⟨hbh, hbl, hbe, hb, ho⟩
    have BHZ := Aside0.mk hbh
    have BLZ := Aside0.mk hbl
    have BEZ := Aside0.mk hbe
    have HBZ := Aside0.mk hb
    have HOZ := Aside0.mk ho
    clear hbh hbl hbe hb ho
    go_wp2
    refine leaves_cons (f := 37) (args := #[.pointer (some ⟨gh, 0, none⟩), .pointer (some ⟨gl, 0, none⟩), .pointer (some ⟨ge, 0, none⟩)]) (by simp) (by simp [go_sem]) ?_
    refine (catch_idle _ _ _ _).mono ?_
    rintro e u' w'' ⟨rfl, rfl, hb⟩
    have hbh := blk_below BHZ.out hb
    have hbl := blk_below BLZ.out hb
    have hbe := blk_below BEZ.out hb
    have hh0 := blk_cell hbh 0
    have hh1 := blk_cell hbh 1
    have hh2 := blk_cell hbh 2
    have hl0 := blk_cell hbl 0
    have he0 := blk_cell hbe 0
    simp only [Leaves, settle]
    refine ⟨_, ?_, _, rfl, Kd.R_below HOZ.out hb, below_step HBZ.out hb⟩
    simp [results, Try.results18, go_sem, hh0, hh1, hh2, hl0, he0]
#print axioms take16
end Go.Proofs.Ytaahkggbjpdofaa.M
end
section
namespace Go.Proofs.Ytaahkggbjpdofaa.M
open Go.RowKit Go.Proofs.YtaahkggbjpdofaaW.PrintWords Go.Proofs.YtaahkggbjpdofaaW.PrintLast Go.Proofs.YtaahkggbjpdofaaW.PrintMore
set_option linter.unusedVariables false
set_option linter.unusedSimpArgs false
def chunk_Take.f (k : Nat) (l0 : List Int) : Option (Int × Int × Int × List S29 × Int) :=
  if l0.length = 16 ∧ (((l0.drop 2).drop 2).drop 4).drop 4 = [11, rd l0 13, 0, 4] then
    (sums_Stamped.f k l0).bind fun t => if t = true then (octet_Num.f k (l0.take 2) 0 2).bind fun p1 => (octet_Num.f k ((l0.drop 2).take 2) 0 2).bind fun p2 => (octet_Num.f k (((l0.drop 2).drop 2).take 4) 0 4).bind fun p3 => (octet_Num.f k ((((l0.drop 2).drop 2).drop 4).take 4) 0 4).bind fun p4 => (octet_Num.f k [11, rd l0 13, 0, 4] 2 2).bind fun p5 =>
      if p5.1 = 4 then some (IntKind.u16.wrap (wrap64 p1.1), IntKind.u16.wrap (wrap64 p2.1), wrap64 p3.1 % 4294967296, [⟨11, rd l0 13, 0, 0, 0, 0, 0, 0, 0, 0, [], [], [], []⟩], 0) else none
    else none
  else none
theorem chunk_Take.mono : ∀ a0 k, LeO (chunk_Take.f k a0) (chunk_Take.f (k + 1) a0) := by
  intro a0 k
  unfold chunk_Take.f
  refine LeO.ite (LeO.bind (sums_Stamped.mono _ _) (fun t => LeO.ite ?_ (LeO.refl _))) (LeO.refl _)
  refine LeO.bind (octet_Num.mono _ _ _ _) (fun _ => LeO.bind (octet_Num.mono _ _ _ _) (fun _ => LeO.bind (octet_Num.mono _ _ _ _) (fun _ => LeO.bind (octet_Num.mono _ _ _ _) (fun _ => LeO.bind (octet_Num.mono _ _ _ _) (fun _ => LeO.refl _)))))
theorem chunk_Take.calls (k : Nat) (A0 : Option Addr) (c0 : Nat) (l0 : List Int) (r1 : Int) (r2 : Int) (r3 : Int) (r4 : List S29) (r5 : Int) (w : World) (hr0 : Kd.C (Kd.int .u8) w A0 l0.length l0) (hc0 : l0.length ≤ c0) (h : chunk_Take.f k l0 = some (r1, r2, r3, r4, r5)) :
    Calls Try.prog 18 #[.slice A0 l0.length c0] w fun e w' => ∃ v1_ : Value, e = .returned (.tuple #[.agg #[.int .u16 r1, .int .u16 r2, .int .u32 r3], v1_, .int .i64 r5]) ∧ Kd.R k29 29 w' w.heap.size (fun _ => True) v1_ r4 ∧ Below w.heap.size w w' := by
  unfold chunk_Take.f at h
  split at h
  · rename_i hc
    obtain ⟨t, hs, h⟩ := Option.bind_eq_some_iff.mp h
    split at h
    · rename_i ht
      subst ht
      obtain ⟨⟨n1, q1⟩, h1, h⟩ := Option.bind_eq_some_iff.mp h
      obtain ⟨⟨n2, q2⟩, h2, h⟩ := Option.bind_eq_some_iff.mp h
      obtain ⟨⟨n3, q3⟩, h3, h⟩ := Option.bind_eq_some_iff.mp h
      obtain ⟨⟨n4, q4⟩, h4, h⟩ := Option.bind_eq_some_iff.mp h
      obtain ⟨⟨n5, q5⟩, h5, h⟩ := Option.bind_eq_some_iff.mp h
      split at h
      · rename_i h6
        simp only at h6
        subst h6
        simp only [Option.some.injEq, Prod.mk.injEq] at h
        obtain ⟨rfl, rfl, rfl, rfl, rfl⟩ := h
        exact take16 k A0 c0 l0 (l0.drop 2) ((l0.drop 2).drop 2) (((l0.drop 2).drop 2).drop 4) (rd l0 13) n1 q1 n2 q2 n3 q3 n4 q4 q5 w hr0 hc0 hc.1 rfl rfl rfl hc.2 hs h1 h2 h3 h4 h5
      · cases h
    · cases h
  · cases h
#print axioms chunk_Take.calls
end Go.Proofs.Ytaahkggbjpdofaa.M
end
