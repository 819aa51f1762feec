/- ether.reader and its closure: a place in bytes from which numbers are read one behind the other. -/
import Derived.Test.YtnfbbnmdlcmifaaM14
import Derived.WalkSpells
namespace Go.Proofs.Ytnfbbnmdlcmifaa.M
open Go.RowKit Go.Proofs.YtnfbbnmdlcmifaaW.PrintWords Go.Proofs.YtnfbbnmdlcmifaaW.PrintLast Go.Proofs.YtnfbbnmdlcmifaaW.PrintMore
set_option linter.unusedVariables false
set_option linter.unusedSimpArgs false

set_option maxHeartbeats 8000000 in
set_option maxRecDepth 100000 in
theorem next_calls (k pb pa : Nat) (A0 : Option Addr) (c0 : Nat) (l0 : List Int) (p n v e1 : Int) (w : World) (hpb : w.heap[pb]? = some (.cells #[.slice A0 l0.length c0] 24 (0, 0))) (hpa : w.heap[pa]? = some (.cells #[.int .i64 p] 3 (0, 0)))
    (hr0 : Kd.C (Kd.int .u8) w A0 l0.length l0) (hc0 : l0.length ≤ c0) (h : octet_Num.f k l0 p n = some (v, e1)) :
    Calls Try.prog 36 #[.int .i64 n, .pointer (some ⟨pb, 0, none⟩), .pointer (some ⟨pa, 0, none⟩)] w fun e w' => e = .returned (.int .u64 v) ∧ ∃ m, w' = (w.drewN m).setCell ⟨pa, 0, none⟩ (.int .i64 (wrap64 (p + n))) := by
  have HR := Aside0.mk hr0
  have HC0 := Aside0.mk hc0
  have HF := Aside0.mk h
  clear hr0 hc0 h
  have hcb : w.cell? ⟨pb, 0, none⟩ = some (.slice A0 l0.length c0) := (blk_cell hpb 0).trans rfl
  have hca : w.cell? ⟨pa, 0, none⟩ = some (.int .i64 p) := (blk_cell hpa 0).trans rfl
  have hfa := blk_frozen hpa 0
  have HPA := Aside0.mk hpa
  have HPB := Aside0.mk hpb
  clear hpa hpb
  go_enter Try.func36, Try.ntmps36
  go_wp2_with (first | (go_at_call 37; (refine (octet_Num.calls k _ _ l0 _ _ _ _ _ HR.out HC0.out HF.out).mono ?_); rintro e w2 ⟨rfl, ⟨nd, rfl⟩⟩))
  go_ret
  exact ⟨rfl, _, rfl⟩

set_option maxHeartbeats 8000000 in
set_option maxRecDepth 100000 in
theorem reader_calls (A0 : Option Addr) (c0 m0 : Nat) (p : Int) (w : World) :
    Calls Try.prog 27 #[.slice A0 m0 c0, .int .i64 p] w fun e w' => ∃ pb pa, e = .returned (.func (.func 36) #[] #[.pointer (some ⟨pb, 0, none⟩), .pointer (some ⟨pa, 0, none⟩)]) ∧ w.heap.size ≤ pb ∧ w.heap.size ≤ pa ∧ w'.heap[pb]? = some (.cells #[.slice A0 m0 c0] 24 (0, 0)) ∧ w'.heap[pa]? = some (.cells #[.int .i64 p] 3 (0, 0)) ∧ Below w.heap.size w w' := by
  go_enter Try.func27, Try.ntmps27
  go_wp2_with (first | ((with_reducible refine gate_dst (N := 2) rfl ?_); refine box_event ?hg (N := 2) ?hd (cs := #[.slice A0 m0 c0]) (t := 24) ?hr ?_; (case hd => rfl); (case hg => rfl); (case hr => first | (go_simp; done) | (go_simp; rfl)); intro pb hg w1 hbox hb; have HX1 := Aside0.mk hbox; have HB1 := Aside0.mk hb; have HG1 := Aside0.mk hg; clear hbox hb hg) | ((with_reducible refine gate_dst (N := 3) rfl ?_); refine box_event ?hg (N := 3) ?hd (cs := #[.int .i64 p]) (t := 3) ?hr ?_; (case hd => rfl); (case hg => rfl); (case hr => first | (go_simp; done) | (go_simp; rfl)); intro pa hg w2 hbox hb; have HX2 := Aside0.mk hbox; have HB2 := Aside0.mk hb; have HG2 := Aside0.mk hg; clear hbox hb hg))
  go_ret
  exact ⟨pb, pa, rfl, by rw [HG1.out]; exact Nat.le_refl _, by rw [HG2.out]; exact HB1.out.size, blk_below HX1.out HB2.out, HX2.out, HB1.out.trans (HB2.out.mono HB1.out.size)⟩
#print axioms next_calls
#print axioms reader_calls
end Go.Proofs.Ytnfbbnmdlcmifaa.M
