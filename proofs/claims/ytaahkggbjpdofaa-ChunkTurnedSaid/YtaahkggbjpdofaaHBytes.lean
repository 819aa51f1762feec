/- chunk.bytes at the kinds that live meets. -/
import Derived.Test.YtaahkggbjpdofaaHOf
import Derived.Test.YtaahkggbjpdofaaHSet
import Derived.Test.YtaahkggbjpdofaaHStamp
import Derived.WalkSpells
import Derived.Deep.RegionWith
namespace Go.Proofs.Ytaahkggbjpdofaa.M
open Go.RowKit Go.Proofs.YtaahkggbjpdofaaW.PrintWords Go.Proofs.YtaahkggbjpdofaaW.PrintLast Go.Proofs.YtaahkggbjpdofaaW.PrintMore
set_option linter.unusedVariables false
set_option linter.unusedSimpArgs false
attribute [local go_sem] as_53_53 as_53_80 as_53_81 as_53_82 as_53_83 as_53_85 as_80_53 as_80_80 as_80_81 as_80_82 as_80_83 as_80_85 as_81_53 as_81_80 as_81_81 as_81_82 as_81_83 as_81_85 as_82_53 as_82_80 as_82_81 as_82_82 as_82_83 as_82_85 as_83_53 as_83_80 as_83_81 as_83_82 as_83_83 as_83_85 as_84_53 as_84_80 as_84_81 as_84_82 as_84_83 as_84_85 as_85_53 as_85_80 as_85_81 as_85_82 as_85_83 as_85_85

theorem ml_53 (v : Value) (w : World) : (method 229 53 (.agg #[v]) "trunkline/chunk.lay").run Try.prog w = .ok (89, .agg #[v]) w := by kernel_rfl
theorem ml_80 (v : Value) (w : World) : (method 229 80 (.agg #[v]) "trunkline/chunk.lay").run Try.prog w = .ok (93, .agg #[v]) w := by kernel_rfl
theorem ml_81 (v : Value) (w : World) : (method 229 81 (.agg #[v]) "trunkline/chunk.lay").run Try.prog w = .ok (97, .agg #[v]) w := by kernel_rfl
theorem ml_82 (v : Value) (w : World) : (method 229 82 (.agg #[v]) "trunkline/chunk.lay").run Try.prog w = .ok (99, .agg #[v]) w := by kernel_rfl
theorem ml_83 (v : Value) (w : World) : (method 229 83 (.agg #[v]) "trunkline/chunk.lay").run Try.prog w = .ok (101, .agg #[v]) w := by kernel_rfl
theorem ml_84 (v : Value) (w : World) : (method 229 84 (.agg #[v]) "trunkline/chunk.lay").run Try.prog w = .ok (103, .agg #[v]) w := by kernel_rfl
theorem ml_85 (v : Value) (w : World) : (method 229 85 (.agg #[v]) "trunkline/chunk.lay").run Try.prog w = .ok (105, .agg #[v]) w := by kernel_rfl
attribute [local go_sem] ml_53 ml_80 ml_81 ml_82 ml_83 ml_84 ml_85
theorem row4 (g : Nat) (W : World) (a b c d : Int) (h : W.heap[g]? = some (.cells #[.int .u8 a, .int .u8 b, .int .u8 c, .int .u8 d] 5 (0, 0))) : Kd.C (Kd.int .u8) W (some ⟨g, 0, none⟩) 4 [a, b, c, d] :=
  (Kd.R_reads' (rowAt_R (cap := 4) (n := 4) (xs := [a, b, c, d]) ⟨[.int .u8 a, .int .u8 b, .int .u8 c, .int .u8 d], h, by decide, rfl, rfl, Nat.le_refl _, rfl⟩ (Nat.zero_le g))).2.2
theorem set_after (k : Nat) (t a b : Int) (p : Value) (u : TypeId) (r1 : List Int) (r2 : Int) (w1 : World) (h : octet_Set.f k [t, a, b, 0] 2 4 2 = some (r1, r2)) :
    Calls Try.prog 48 #[.slice (some ⟨w1.heap.size, 0, none⟩) 4 4, .int .i64 2, .int .u64 4, .int .i64 2] ((w1.alloc (.cells #[.int .u8 t, .int .u8 a, .int .u8 b, .int .u8 0] 5 (0, 0))).alloc (.cells #[p] u (0, 0))).drew fun e w' => ∃ v, e = .returned (.tuple #[v, .int .i64 r2]) ∧ Kd.R (Kd.int .u8) 5 w' w1.heap.size (fun _ => True) v r1 ∧ Below w1.heap.size w1 w' := by
  have hB : Below w1.heap.size w1 ((w1.alloc (.cells #[.int .u8 t, .int .u8 a, .int .u8 b, .int .u8 0] 5 (0, 0))).alloc (.cells #[p] u (0, 0))).drew := (below_alloc (below_alloc (Below.refl _ _) _) _).drew
  have hg : ((w1.alloc (.cells #[.int .u8 t, .int .u8 a, .int .u8 b, .int .u8 0] 5 (0, 0))).alloc (.cells #[p] u (0, 0))).drew.heap[w1.heap.size]? = some (.cells #[.int .u8 t, .int .u8 a, .int .u8 b, .int .u8 0] 5 (0, 0)) := blk_below (blk_new w1 _) (below_alloc (Below.refl _ _) _).drew
  refine (octet_Set.calls k (some ⟨w1.heap.size, 0, none⟩) 4 [t, a, b, 0] 2 4 2 r1 r2 _ (row4 _ _ _ _ _ _ hg) (Nat.le_refl _) h).mono ?_
  rintro e w' ⟨v, rfl, ho, hb⟩
  exact ⟨v, rfl, Kd.R_lower ho hB.size, below_step hB hb⟩
set_option maxHeartbeats 1600000 in
set_option maxRecDepth 100000 in
theorem lay_bare (p v : Value) (w : World) : Calls Try.prog 103 #[.agg #[p], v] w fun e w' => e = .returned v ∧ w' = w.alloc (.cells #[p] 84 (0, 0)) := by
  go_enter Try.func103, Try.ntmps103
  go_wp2
  go_ret
  exact ⟨rfl, rfl⟩
set_option maxHeartbeats 1600000 in
set_option maxRecDepth 100000 in
theorem bytes_bare (k : Nat) (a1 a2 a3 a4 a5 a6 a7 a8 a9 : Int) (A10 A11 A12 A13 : Option Addr) (n10 n11 n12 n13 c10 c11 c12 c13 : Nat) (r1 : List Int) (r2 : Int) (w : World) (h : octet_Set.f k [11, a1, 0, 0] 2 4 2 = some (r1, r2)) :
    Calls Try.prog 31 #[.agg #[.int .u8 11, .int .u8 a1, .int .u32 a2, .int .u16 a3, .int .u16 a4, .int .u32 a5, .int .u32 a6, .int .u32 a7, .int .u16 a8, .int .u16 a9, .slice A10 n10 c10, .slice A11 n11 c11, .slice A12 n12 c12, .slice A13 n13 c13]] w fun e w' => ∃ v0_ : Value, e = .returned v0_ ∧ Kd.R (Kd.int .u8) 5 w' w.heap.size (fun _ => True) v0_ r1 ∧ Below w.heap.size w w' := by
  have HF := Aside0.mk h
  clear h
  go_enter Try.func31, Try.ntmps31
  go_wp2_with (first | ((with_reducible refine gate_dst (N := 1) rfl ?_); refine box_event ?hg (N := 1) ?hd (cs := #[.int .u8 11, .int .u8 a1, .int .u32 a2, .int .u16 a3, .int .u16 a4, .int .u32 a5, .int .u32 a6, .int .u32 a7, .int .u16 a8, .int .u16 a9, .slice A10 n10 c10, .slice A11 n11 c11, .slice A12 n12 c12, .slice A13 n13 c13]) (t := 29) ?hr ?_; (case hd => rfl); (case hg => rfl); (case hr => first | (go_simp; done) | (go_simp; rfl)); intro pb hg0 w1 hbox0 hb0; have hc0 : w1.cell? ⟨pb, 0, none⟩ = some (.int .u8 11) := blk_cell hbox0 0; have hc1 : w1.cell? ⟨pb, 1, none⟩ = some (.int .u8 a1) := blk_cell hbox0 1; have HG := Aside0.mk hg0; have HB := Aside0.mk hb0; clear hg0 hbox0 hb0))
  go_region_with (first | (go_at_call 25; (with_reducible refine (of_bare _ _ ?hc0).mono ?_); (case hc0 => first | exact hc0 | exact pw_cell_below (below_alloc (Below.refl _ _) _) hc0); rintro e w2 ⟨rfl, rfl⟩) | (go_at_call 103; (with_reducible refine (lay_bare _ _ _).mono ?_); rintro e w2 ⟨rfl, rfl⟩))
  all_goals
    go_wp2_with (first | (go_at_call 48; (with_reducible refine (set_after k 11 a1 0 _ _ r1 r2 w1 HF.out).mono ?_); rintro e w5 ⟨v5, rfl, ho5, hb5⟩; have HB5 := Aside0.mk (below_step HB.out hb5); have HO5 := Aside0.mk (Kd.R_lower ho5 HB.out.size); clear ho5 hb5))
    go_ret
    exact ⟨_, rfl, HO5.out, HB5.out⟩
#print axioms bytes_bare
end Go.Proofs.Ytaahkggbjpdofaa.M
