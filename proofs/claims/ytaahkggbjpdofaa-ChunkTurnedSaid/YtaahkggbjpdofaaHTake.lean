/- The reader of packets: left, take, num, must, by what their reader's block holds. -/
import Derived.Test.YtaahkggbjpdofaaHStamp
import Derived.Test.YtaahkggbjpdofaaHOf
import Derived.Test.YtaahkggbjpdofaaM6
import Derived.WalkSpells
import Derived.Defers
import Derived.Recover
import Derived.LoopN
import Derived.Deep.RegionWith
import Derived.Deep.RegionLaw
import Derived.Test.YtaahkggbjpdofaaM13
section
namespace Go.Proofs.Ytaahkggbjpdofaa.M
open Go.RowKit Go.Proofs.YtaahkggbjpdofaaW.PrintWords Go.Proofs.YtaahkggbjpdofaaW.PrintLast Go.Proofs.YtaahkggbjpdofaaW.PrintMore
set_option linter.unusedVariables false
set_option linter.unusedSimpArgs false
/-- What a fault panics with. -/
@[reducible] def faultV (e : Int) : Value := .iface 68 (.agg #[.int .i64 e])
/-- A reader: a block of ours with the bytes that are left. -/
def RdrOf (w0 w : World) (g : Nat) (l : List Int) : Prop :=
  w0.heap.size ≤ g ∧ ∃ A c, w.heap[g]? = some (.cells #[.slice A l.length c] 73 (0, 0)) ∧ l.length ≤ c ∧ Kd.C (Kd.int .u8) w0 A l.length l
theorem RdrOf.kept {w0 w W : World} {g : Nat} {l : List Int} {S : Nat → Prop} (h : RdrOf w0 w g l) (hk : Kept w W S) (hn : ¬ S g) : RdrOf w0 W g l := by
  obtain ⟨h1, A, c, h2, h3, h4⟩ := h
  exact ⟨h1, A, c, blk_kept h2 hk hn, h3, h4⟩
theorem RdrOf.below {w0 w W : World} {g : Nat} {l : List Int} (h : RdrOf w0 w g l) (hk : Below w.heap.size w W) : RdrOf w0 W g l := h.kept (Kept.of_below hk (fun _ => False)) (fun h => h)
theorem RdrOf.lt {w0 w : World} {g : Nat} {l : List Int} (h : RdrOf w0 w g l) : g < w.heap.size := by
  obtain ⟨h1, A, c, h2, _⟩ := h
  exact blk_lt h2
set_option maxHeartbeats 1600000 in
set_option maxRecDepth 100000 in
theorem left_calls (g : Nat) (l : List Int) (b : Bool) (w0 w : World) (h : RdrOf w0 w g l) (hb : decide (0 < l.length) = b) :
    Calls Try.prog 58 #[.pointer (some ⟨g, 0, none⟩)] w fun e w' => e = .returned (.bool b) ∧ w' = w := by
  obtain ⟨hg, A, c, hx, hc, hC⟩ := h
  have hc0 : w.cell? ⟨g, 0, none⟩ = some (.slice A l.length c) := blk_cell hx 0
  have hb' : decide ((0 : Int) < (l.length : Int)) = b := by rw [← hb]; simp
  go_enter Try.func58, Try.ntmps58
  go_wp2
  refine bodyPost_ret (v := .bool b) (by simp [results, Try.results58, go_sem, hb, hb'] <;> rfl) rfl ⟨rfl, rfl⟩
set_option maxHeartbeats 1600000 in
set_option maxRecDepth 100000 in
theorem must_ok (e : Int) (w : World) : Calls Try.prog 38 #[.bool true, .int .i64 e] w fun x w' => x = .returned (.tuple #[]) ∧ w' = w := by
  go_enter Try.func38, Try.ntmps38
  go_wp2
  go_end0
  exact ⟨rfl, rfl⟩
set_option maxHeartbeats 1600000 in
set_option maxRecDepth 100000 in
theorem must_bad (e : Int) (w : World) : Calls Try.prog 38 #[.bool false, .int .i64 e] w fun x w' => x = .panicked [{ v := faultV e, recovered := false }] ∧ w' = w := by
  go_enter Try.func38, Try.ntmps38
  go_wp2
  exact ⟨rfl, rfl, rfl⟩
set_option maxHeartbeats 1600000 in
set_option maxRecDepth 100000 in
theorem take_ok (g : Nat) (l : List Int) (m e : Int) (w0 w : World) (hB : Below w0.heap.size w0 w) (h : RdrOf w0 w g l) (h0 : 0 ≤ m) (hm : m ≤ l.length) :
    Calls Try.prog 57 #[.pointer (some ⟨g, 0, none⟩), .int .i64 m, .int .i64 e] w fun x w' => ∃ A c, x = .returned (.slice A (l.take m.toNat).length c) ∧ (l.take m.toNat).length ≤ c ∧ Kd.C (Kd.int .u8) w0 A (l.take m.toNat).length (l.take m.toNat) ∧ RdrOf w0 w' g (l.drop m.toNat) ∧ Below w0.heap.size w0 w' ∧ Kept w w' (fun k => k = g) := by
  obtain ⟨hg, A, c, hx, hc, hC⟩ := h
  have hc0 : w.cell? ⟨g, 0, none⟩ = some (.slice A l.length c) := blk_cell hx 0
  have hf0 : w.frozen? ⟨g, 0, none⟩ = false := blk_frozen hx 0
  have hlt : decide ((l.length : Int) < m) = false := decide_eq_false (by omega)
  obtain ⟨i0, hi0, _, hsz, _⟩ := info_parts st_info
  have hto := cut_to (P := Try.prog) 27 5 .i64 Try.underlying27 hi0 A l.length c m h0 hm hc
  have hfrom := cut_from (P := Try.prog) 27 5 .i64 Try.underlying27 hi0 1 hsz A l.length c m h0 hm
  have hm' : m.toNat ≤ l.length := by omega
  have hl1 : (l.take m.toNat).length = m.toNat := by rw [List.length_take]; omega
  have hl2 : (l.drop m.toNat).length = l.length - m.toNat := List.length_drop
  have HC1 := Aside0.mk (Kd.C_take (m := m.toNat) hC hm')
  have HC2 := Aside0.mk (Kd.C_drop (m := m.toNat) hC hm' hc)
  obtain ⟨A2, hA2⟩ : ∃ A2, A2 = (if c = m.toNat then A else A.map (·.add (m.toNat * 1))) := ⟨_, rfl⟩
  rw [← hA2] at hfrom
  have HA2 := Aside0.mk hA2
  have HX := Aside0.mk hx
  have HB := Aside0.mk hB
  have HG := Aside0.mk hg
  have HC := Aside0.mk hc
  have HM := Aside0.mk hm'
  have HL1 := Aside0.mk hl1
  have HL2 := Aside0.mk hl2
  clear hA2 hx hB hg hc hC hm' hl1 hl2 hi0 hsz h0 hm
  go_enter Try.func57, Try.ntmps57
  go_wp2
  go_ret
  refine ⟨A, c, by first | (rw [HL1.out]; done) | (rw [HL1.out]; rfl), by have := HL1.out; have := HM.out; have := HC.out; omega, HC1.out, ⟨HG.out, A2, c - m.toNat, ?_, by have := HL2.out; have := HC.out; omega, by rw [HA2.out]; exact HC2.out⟩, below_set HB.out HG.out, Kept.setCell (Kept.refl w (fun k => k = g)) (p := ⟨g, 0, none⟩) (.inl rfl) _⟩
  rw [HL2.out]
  exact blk_put HX.out 0 _ rfl
set_option maxHeartbeats 1600000 in
set_option maxRecDepth 100000 in
theorem take_bad (g : Nat) (l : List Int) (m e : Int) (w0 w : World) (h : RdrOf w0 w g l) (hm : (l.length : Int) < m) :
    Calls Try.prog 57 #[.pointer (some ⟨g, 0, none⟩), .int .i64 m, .int .i64 e] w fun x w' => x = .panicked [{ v := faultV e, recovered := false }] ∧ w' = w := by
  obtain ⟨hg, A, c, hx, hc, hC⟩ := h
  have hc0 : w.cell? ⟨g, 0, none⟩ = some (.slice A l.length c) := blk_cell hx 0
  have hlt : decide ((l.length : Int) < m) = true := decide_eq_true hm
  clear hx hg hc hC hm
  go_enter Try.func57, Try.ntmps57
  go_wp2
  exact ⟨rfl, rfl, rfl⟩
theorem take_y (g : Nat) (l y : List Int) (m e : Int) (w0 w : World) (hy : y = l.take m.toNat) (hB : Below w0.heap.size w0 w) (h : RdrOf w0 w g l) (h0 : 0 ≤ m) (hm : m ≤ l.length) :
    Calls Try.prog 57 #[.pointer (some ⟨g, 0, none⟩), .int .i64 m, .int .i64 e] w fun x w' => ∃ A c, x = .returned (.slice A y.length c) ∧ y.length ≤ c ∧ Kd.C (Kd.int .u8) w0 A y.length y ∧ RdrOf w0 w' g (l.drop m.toNat) ∧ Below w0.heap.size w0 w' ∧ Kept w w' (fun k => k = g) := by
  subst hy
  exact take_ok g l m e w0 w hB h h0 hm
set_option maxHeartbeats 1600000 in
set_option maxRecDepth 100000 in
theorem num_ok (k g : Nat) (l : List Int) (m r1 r2 : Int) (w0 w : World) (hB : Below w0.heap.size w0 w) (h : RdrOf w0 w g l) (h0 : 0 ≤ m) (hm : m ≤ l.length) (hf : octet_Num.f k (l.take m.toNat) 0 m = some (r1, r2)) :
    Calls Try.prog 40 #[.pointer (some ⟨g, 0, none⟩), .int .i64 m] w fun x w' => x = .returned (.int .i64 (wrap64 r1)) ∧ RdrOf w0 w' g (l.drop m.toNat) ∧ Below w0.heap.size w0 w' ∧ Kept w w' (fun k => k = g) := by
  obtain ⟨y, hy⟩ : ∃ y, y = l.take m.toNat := ⟨_, rfl⟩
  rw [← hy] at hf
  have HY := Aside0.mk hy
  have HB := Aside0.mk hB
  have HX := Aside0.mk h
  have H0 := Aside0.mk h0
  have HM := Aside0.mk hm
  have HF := Aside0.mk hf
  clear hy hB h h0 hm hf
  go_enter Try.func40, Try.ntmps40
  go_wp2_with (first | (go_at_call 57; (with_reducible refine (take_y g l y m 4 w0 w HY.out HB.out HX.out H0.out HM.out).mono ?_); rintro e w1 ⟨A1, c1, rfl, hc1, hC1, hx1, hb1, hk1⟩; have HC1 := Aside0.mk hC1; have HD1 := Aside0.mk hc1; have HB1 := Aside0.mk hb1; have HX1 := Aside0.mk hx1; have HK1 := Aside0.mk hk1; clear hC1 hc1 hb1 hx1 hk1) | (go_at_call 56; (with_reducible refine (octet_Num.calls k A1 c1 y 0 m r1 r2 w1 (Kd.C_below HC1.out HB1.out) HD1.out HF.out).mono ?_); rintro e w2 ⟨rfl, hd⟩; have HB2 := Aside0.mk hd.below; clear hd))
  go_ret
  exact ⟨rfl, HX1.out.below HB2.out, below_step HB1.out HB2.out, HK1.out.below HB2.out⟩
set_option maxHeartbeats 1600000 in
set_option maxRecDepth 100000 in
theorem num_bad (g : Nat) (l : List Int) (m : Int) (w0 w : World) (h : RdrOf w0 w g l) (hm : (l.length : Int) < m) :
    Calls Try.prog 40 #[.pointer (some ⟨g, 0, none⟩), .int .i64 m] w fun x w' => x = .panicked [{ v := faultV 4, recovered := false }] ∧ w' = w := by
  have HX := Aside0.mk h
  have HM := Aside0.mk hm
  clear h hm
  go_enter Try.func40, Try.ntmps40
  go_wp2_with (first | (go_at_call 57; (with_reducible refine (take_bad g l m 4 w0 w HX.out HM.out).mono ?_); rintro e w1 ⟨rfl, rfl⟩))
  exact ⟨rfl, rfl, rfl⟩
end Go.Proofs.Ytaahkggbjpdofaa.M
end
section
namespace Go.Proofs.Ytaahkggbjpdofaa.M
open Go.RowKit Go.Proofs.YtaahkggbjpdofaaW.PrintWords Go.Proofs.YtaahkggbjpdofaaW.PrintLast Go.Proofs.YtaahkggbjpdofaaW.PrintMore
set_option linter.unusedVariables false
set_option linter.unusedSimpArgs false
theorem zero_fault (w : World) : (zeroValue 68).run Try.prog w = .ok (.agg #[.int .i64 0]) w := by kernel_rfl
theorem as_nil (w : World) : (Instr.typeAssert .nilIface 20 68 true).run Try.prog w = .ok (.tuple #[.agg #[.int .i64 0], .bool false]) w := by simp [Instr.typeAssert, go_sem, zero_fault]
theorem as_fault (v : Value) (w : World) : (Instr.typeAssert (.iface 68 v) 20 68 true).run Try.prog w = .ok (.tuple #[v, .bool true]) w := by simp [Instr.typeAssert, go_sem]
attribute [local go_sem] as_nil as_fault
set_option maxHeartbeats 400000 in
set_option maxRecDepth 100000 in
theorem catch_idle (ph pl pe : Addr) (w : World) :
    CallsD Try.prog 37 #[.pointer (some ph), .pointer (some pl), .pointer (some pe)] .returning w fun e u' w' => e = .returned (.tuple #[]) ∧ u' = .returning ∧ Below w.heap.size w w' := by
  refine callsD_of_wpS Try.func37 rfl fun c₀ cs hu => ?_
  apply wpS_seq
  generalize hK : Exit.thenS _ _ = K
  apply wpS_region
  simp [wpOpsS, go_sem, recoverD, hu, Try.ntmps37]
  subst hK
  simp only [Exit.thenS]
  refine wpS_of_wp ?_
  have ht : (#[Value.pointer (some ph), Value.pointer (some pl), Value.pointer (some pe)] ++ ((Array.replicate 20 undef).setIfInBounds 3 Value.nilIface).setIfInBounds 0 Value.nilIface) = #[Value.pointer (some ph), Value.pointer (some pl), Value.pointer (some pe), .nilIface, undef, undef, .nilIface, undef, undef, undef, undef, undef, undef, undef, undef, undef, undef, undef, undef, undef, undef, undef, undef] := by kernel_rfl
  rw [ht]
  clear ht
  go_wp2_with (first | ((with_reducible refine gate_dst (N := 4) rfl ?_); refine box_event ?hg (N := 4) ?hd (cs := #[.int .i64 0]) (t := 68) ?hr ?_; (case hd => rfl); (case hg => rfl); (case hr => first | (go_simp; done) | (go_simp; rfl)); intro p4 hg4 w1 hbox4 hb4; have hd0 : w1.cell? ⟨p4, 0, none⟩ = some (.int .i64 0) := blk_cell hbox4 0; have hf0 : w1.frozen? ⟨p4, 0, none⟩ = false := blk_frozen hbox4 0; have HP4 := Aside0.mk (show w.heap.size ≤ p4 by omega); have HB4 := Aside0.mk hb4; clear hg4 hbox4 hb4))
  have hb := below_set (j := 0) (v := .int .i64 0) HB4.out HP4.out
  cases c₀
  simp_all [bodyPostS, results, Try.results37]
#print axioms catch_idle
end Go.Proofs.Ytaahkggbjpdofaa.M
end
section
namespace Go.Proofs.Ytaahkggbjpdofaa.M
open Go.RowKit Go.Proofs.YtaahkggbjpdofaaW.PrintWords Go.Proofs.YtaahkggbjpdofaaW.PrintLast Go.Proofs.YtaahkggbjpdofaaW.PrintMore
set_option linter.unusedVariables false
set_option linter.unusedSimpArgs false
theorem exit_cut {P : Program} {next : Act → World → Prop} {Q : Exit → Act → World → Prop} {x : Exit} {a : Act} {W : World} (F : World → Prop) (h : F W) (k : ∀ wz, F wz → Exit.then next Q x a wz) : Exit.then next Q x a W := k W h
end Go.Proofs.Ytaahkggbjpdofaa.M
end
