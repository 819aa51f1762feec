import Derived.Test.YtaahkggbjpdofaaM0
import Derived.ChangeKeysEq
import Derived.WalkSpells
section
/- The document's Same, for equal chunks alone (of others f tells nothing): two boxes, one straight walk, three loops. -/
namespace Go.Proofs.Ytaahkggbjpdofaa.M
open Go.RowKit Go.Proofs.YtaahkggbjpdofaaW.PrintWords Go.Proofs.YtaahkggbjpdofaaW.PrintLast Go.Proofs.YtaahkggbjpdofaaW.PrintMore
set_option linter.unusedVariables false
set_option linter.unusedSimpArgs false
theorem eqR101 (d : Nat) (w : World) (x0 y0 x1 y1 : Int) :
    (Op.equalIn (d + 2) 101 (.agg #[.int .u16 x0, .int .u16 x1]) (.agg #[.int .u16 y0, .int .u16 y1])).run Try.prog w = .ok (x0 == y0 && (x1 == y1)) w := by
  obtain ⟨i, hi⟩ := info_of_underlying Try.underlying23
  rw [run_equalIn_array (P := Try.prog) w (d + 1) _ _ Try.underlying101 hi]
  show (Op.eqItems (d + 1) 23 (Try.prog.cellsOf 23) _ _ [0, 1]).run _ _ = _
  rw [show Try.prog.cellsOf 23 = 1 from by kernel_rfl]
  cases h0 : (x0 == y0) <;> cases h1 : (x1 == y1) <;> simp [Op.eqItems, part, run_equalIn_int (P := Try.prog) w d 23 .u16 .u16 _ _ Try.underlying23, h0, h1]
attribute [local go_sem high] eqR101
deriving instance DecidableEq for S101, S48
def trunklineref12_Same.f (k : Nat) (a0_0 : Int) (a0_1 : Int) (a0_2 : Int) (a0_3 : Int) (a0_4 : Int) (a0_5 : Int) (a0_6 : Int) (a0_7 : Int) (a0_8 : Int) (a0_9 : Int) (l0_10 : List (S101)) (l0_11 : List Int) (l0_12 : List (S48)) (l0_13 : List Int) (a1_0 : Int) (a1_1 : Int) (a1_2 : Int) (a1_3 : Int) (a1_4 : Int) (a1_5 : Int) (a1_6 : Int) (a1_7 : Int) (a1_8 : Int) (a1_9 : Int) (l1_10 : List (S101)) (l1_11 : List Int) (l1_12 : List (S48)) (l1_13 : List Int) : Option Bool := if a0_0 = a1_0 ∧ a0_1 = a1_1 ∧ a0_2 = a1_2 ∧ a0_3 = a1_3 ∧ a0_4 = a1_4 ∧ a0_5 = a1_5 ∧ a0_6 = a1_6 ∧ a0_7 = a1_7 ∧ a0_8 = a1_8 ∧ a0_9 = a1_9 ∧ l0_10 = l1_10 ∧ l0_11 = l1_11 ∧ l0_12 = l1_12 ∧ l0_13 = l1_13 ∧ l0_10.length ≤ 4611686018427387904 ∧ l0_11.length ≤ 4611686018427387904 ∧ l0_12.length ≤ 4611686018427387904 then some true else none
set_option maxHeartbeats 4000000 in
set_option maxRecDepth 100000 in
theorem trunklineref12_Same.calls (k : Nat) (a0_0 : Int) (a0_1 : Int) (a0_2 : Int) (a0_3 : Int) (a0_4 : Int) (a0_5 : Int) (a0_6 : Int) (a0_7 : Int) (a0_8 : Int) (a0_9 : Int) (A0_10 : Option Addr) (c0_10 : Nat) (l0_10 : List (S101)) (A0_11 : Option Addr) (c0_11 : Nat) (l0_11 : List Int) (A0_12 : Option Addr) (c0_12 : Nat) (l0_12 : List (S48)) (A0_13 : Option Addr) (c0_13 : Nat) (l0_13 : List Int) (a1_0 : Int) (a1_1 : Int) (a1_2 : Int) (a1_3 : Int) (a1_4 : Int) (a1_5 : Int) (a1_6 : Int) (a1_7 : Int) (a1_8 : Int) (a1_9 : Int) (A1_10 : Option Addr) (c1_10 : Nat) (l1_10 : List (S101)) (A1_11 : Option Addr) (c1_11 : Nat) (l1_11 : List Int) (A1_12 : Option Addr) (c1_12 : Nat) (l1_12 : List (S48)) (A1_13 : Option Addr) (c1_13 : Nat) (l1_13 : List Int) (r : Bool) (w : World) (hr0_10 : Kd.C k101 w A0_10 l0_10.length l0_10) (hc0_10 : l0_10.length ≤ c0_10) (hr0_11 : Kd.C (Kd.int .u32) w A0_11 l0_11.length l0_11) (hc0_11 : l0_11.length ≤ c0_11) (hr0_12 : Kd.C k48 w A0_12 l0_12.length l0_12) (hc0_12 : l0_12.length ≤ c0_12) (hr0_13 : Kd.C (Kd.int .u8) w A0_13 l0_13.length l0_13) (hc0_13 : l0_13.length ≤ c0_13) (hr1_10 : Kd.C k101 w A1_10 l1_10.length l1_10) (hc1_10 : l1_10.length ≤ c1_10) (hr1_11 : Kd.C (Kd.int .u32) w A1_11 l1_11.length l1_11) (hc1_11 : l1_11.length ≤ c1_11) (hr1_12 : Kd.C k48 w A1_12 l1_12.length l1_12) (hc1_12 : l1_12.length ≤ c1_12) (hr1_13 : Kd.C (Kd.int .u8) w A1_13 l1_13.length l1_13) (hc1_13 : l1_13.length ≤ c1_13) (hr_ : r = true) (h : trunklineref12_Same.f k a0_0 a0_1 a0_2 a0_3 a0_4 a0_5 a0_6 a0_7 a0_8 a0_9 l0_10 l0_11 l0_12 l0_13 a1_0 a1_1 a1_2 a1_3 a1_4 a1_5 a1_6 a1_7 a1_8 a1_9 l1_10 l1_11 l1_12 l1_13 = some r) :
    Calls Try.prog 44 #[.agg #[.int .u8 a0_0, .int .u8 a0_1, .int .u32 a0_2, .int .u16 a0_3, .int .u16 a0_4, .int .u32 a0_5, .int .u32 a0_6, .int .u32 a0_7, .int .u16 a0_8, .int .u16 a0_9, .slice A0_10 l0_10.length c0_10, .slice A0_11 l0_11.length c0_11, .slice A0_12 l0_12.length c0_12, .slice A0_13 l0_13.length c0_13], .agg #[.int .u8 a1_0, .int .u8 a1_1, .int .u32 a1_2, .int .u16 a1_3, .int .u16 a1_4, .int .u32 a1_5, .int .u32 a1_6, .int .u32 a1_7, .int .u16 a1_8, .int .u16 a1_9, .slice A1_10 l1_10.length c1_10, .slice A1_11 l1_11.length c1_11, .slice A1_12 l1_12.length c1_12, .slice A1_13 l1_13.length c1_13]] w fun e w' => e = .returned (.bool r) ∧ Below w.heap.size w w' := by
  unfold trunklineref12_Same.f at h
  split at h
  case isFalse => cases h
  rename_i hE
  obtain ⟨rfl, rfl, rfl, rfl, rfl, rfl, rfl, rfl, rfl, rfl, rfl, rfl, rfl, rfl, hn10, hn11, hn12⟩ := hE
  cases h
  clear hr_
  have HR0_10 := Aside0.mk hr0_10
  clear hr0_10 hc0_10
  have HR0_11 := Aside0.mk hr0_11
  clear hr0_11 hc0_11
  have HR0_12 := Aside0.mk hr0_12
  clear hr0_12 hc0_12
  have HR0_13 := Aside0.mk hr0_13
  clear hr0_13 hc0_13
  have HR1_10 := Aside0.mk hr1_10
  clear hr1_10 hc1_10
  have HR1_11 := Aside0.mk hr1_11
  clear hr1_11 hc1_11
  have HR1_12 := Aside0.mk hr1_12
  clear hr1_12 hc1_12
  have HR1_13 := Aside0.mk hr1_13
  clear hr1_13 hc1_13
  have HN10 := Aside0.mk hn10
  clear hn10
  have HN11 := Aside0.mk hn11
  clear hn11
  have HN12 := Aside0.mk hn12
  clear hn12
  have eq0 : (a0_0 != a0_0) = false := bne_self_eq_false _
  have eb0 : (a0_0 == a0_0) = true := beq_self_eq_true _
  have eq1 : (a0_1 != a0_1) = false := bne_self_eq_false _
  have eb1 : (a0_1 == a0_1) = true := beq_self_eq_true _
  have eq2 : (a0_2 != a0_2) = false := bne_self_eq_false _
  have eb2 : (a0_2 == a0_2) = true := beq_self_eq_true _
  have eq3 : (a0_3 != a0_3) = false := bne_self_eq_false _
  have eb3 : (a0_3 == a0_3) = true := beq_self_eq_true _
  have eq4 : (a0_4 != a0_4) = false := bne_self_eq_false _
  have eb4 : (a0_4 == a0_4) = true := beq_self_eq_true _
  have eq5 : (a0_5 != a0_5) = false := bne_self_eq_false _
  have eb5 : (a0_5 == a0_5) = true := beq_self_eq_true _
  have eq6 : (a0_6 != a0_6) = false := bne_self_eq_false _
  have eb6 : (a0_6 == a0_6) = true := beq_self_eq_true _
  have eq7 : (a0_7 != a0_7) = false := bne_self_eq_false _
  have eb7 : (a0_7 == a0_7) = true := beq_self_eq_true _
  have eq8 : (a0_8 != a0_8) = false := bne_self_eq_false _
  have eb8 : (a0_8 == a0_8) = true := beq_self_eq_true _
  have eq9 : (a0_9 != a0_9) = false := bne_self_eq_false _
  have eb9 : (a0_9 == a0_9) = true := beq_self_eq_true _
  have es : ((strOfNums l0_13).toList != (strOfNums l0_13).toList) = false := bne_self_eq_false _
  have el10 : ((l0_10.length : Int) != (l0_10.length : Int)) = false := bne_self_eq_false _
  have el11 : ((l0_11.length : Int) != (l0_11.length : Int)) = false := bne_self_eq_false _
  have el12 : ((l0_12.length : Int) != (l0_12.length : Int)) = false := bne_self_eq_false _
  have hu29 := Try.underlying29
  have hu101 := Try.underlying101
  go_enter Try.func44, Try.ntmps44
  go_upto_region 1 with (first | ((with_reducible refine gate_dst (N := 2) rfl ?_); (try (refine gate_guard (by rfl) ?_; dsimp only)); refine box_event ?hg (N := 2) ?hd (cs := #[.int .u8 a0_0, .int .u8 a0_1, .int .u32 a0_2, .int .u16 a0_3, .int .u16 a0_4, .int .u32 a0_5, .int .u32 a0_6, .int .u32 a0_7, .int .u16 a0_8, .int .u16 a0_9, .slice A0_10 l0_10.length c0_10, .slice A0_11 l0_11.length c0_11, .slice A0_12 l0_12.length c0_12, .slice A0_13 l0_13.length c0_13]) (t := 29) ?hr ?_; (case hd => rfl); (case hg => rfl); (case hr => first | (go_simp; done) | (go_simp; rfl)); intro p1 hg w1 hbox hb; have HB1 := Aside0.mk hb; have BK1 := Aside0.mk hbox; clear hg hbox hb) | ((with_reducible refine gate_dst (N := 3) rfl ?_); (try (refine gate_guard (by rfl) ?_; dsimp only)); refine box_event ?hg (N := 3) ?hd (cs := #[.int .u8 a0_0, .int .u8 a0_1, .int .u32 a0_2, .int .u16 a0_3, .int .u16 a0_4, .int .u32 a0_5, .int .u32 a0_6, .int .u32 a0_7, .int .u16 a0_8, .int .u16 a0_9, .slice A1_10 l0_10.length c1_10, .slice A1_11 l0_11.length c1_11, .slice A1_12 l0_12.length c1_12, .slice A1_13 l0_13.length c1_13]) (t := 29) ?hr ?_; (case hd => rfl); (case hg => rfl); (case hr => first | (go_simp; done) | (go_simp; rfl)); intro p2 hg w2 hbox hb; have HB2 := Aside0.mk hb; have BK2 := Aside0.mk hbox; clear hg hbox hb))
  repeat (go_quiet (first | ((with_reducible refine gate_dst (N := 2) rfl ?_); (try (refine gate_guard (by rfl) ?_; dsimp only)); refine box_event ?hg (N := 2) ?hd (cs := #[.int .u8 a0_0, .int .u8 a0_1, .int .u32 a0_2, .int .u16 a0_3, .int .u16 a0_4, .int .u32 a0_5, .int .u32 a0_6, .int .u32 a0_7, .int .u16 a0_8, .int .u16 a0_9, .slice A0_10 l0_10.length c0_10, .slice A0_11 l0_11.length c0_11, .slice A0_12 l0_12.length c0_12, .slice A0_13 l0_13.length c0_13]) (t := 29) ?hr ?_; (case hd => rfl); (case hg => rfl); (case hr => first | (go_simp; done) | (go_simp; rfl)); intro p1 hg w1 hbox hb; have HB1 := Aside0.mk hb; have BK1 := Aside0.mk hbox; clear hg hbox hb) | ((with_reducible refine gate_dst (N := 3) rfl ?_); (try (refine gate_guard (by rfl) ?_; dsimp only)); refine box_event ?hg (N := 3) ?hd (cs := #[.int .u8 a0_0, .int .u8 a0_1, .int .u32 a0_2, .int .u16 a0_3, .int .u16 a0_4, .int .u32 a0_5, .int .u32 a0_6, .int .u32 a0_7, .int .u16 a0_8, .int .u16 a0_9, .slice A1_10 l0_10.length c1_10, .slice A1_11 l0_11.length c1_11, .slice A1_12 l0_12.length c1_12, .slice A1_13 l0_13.length c1_13]) (t := 29) ?hr ?_; (case hd => rfl); (case hg => rfl); (case hr => first | (go_simp; done) | (go_simp; rfl)); intro p2 hg w2 hbox hb; have HB2 := Aside0.mk hb; have BK2 := Aside0.mk hbox; clear hg hbox hb)); go_upto_region 1 with (first | ((with_reducible refine gate_dst (N := 2) rfl ?_); (try (refine gate_guard (by rfl) ?_; dsimp only)); refine box_event ?hg (N := 2) ?hd (cs := #[.int .u8 a0_0, .int .u8 a0_1, .int .u32 a0_2, .int .u16 a0_3, .int .u16 a0_4, .int .u32 a0_5, .int .u32 a0_6, .int .u32 a0_7, .int .u16 a0_8, .int .u16 a0_9, .slice A0_10 l0_10.length c0_10, .slice A0_11 l0_11.length c0_11, .slice A0_12 l0_12.length c0_12, .slice A0_13 l0_13.length c0_13]) (t := 29) ?hr ?_; (case hd => rfl); (case hg => rfl); (case hr => first | (go_simp; done) | (go_simp; rfl)); intro p1 hg w1 hbox hb; have HB1 := Aside0.mk hb; have BK1 := Aside0.mk hbox; clear hg hbox hb) | ((with_reducible refine gate_dst (N := 3) rfl ?_); (try (refine gate_guard (by rfl) ?_; dsimp only)); refine box_event ?hg (N := 3) ?hd (cs := #[.int .u8 a0_0, .int .u8 a0_1, .int .u32 a0_2, .int .u16 a0_3, .int .u16 a0_4, .int .u32 a0_5, .int .u32 a0_6, .int .u32 a0_7, .int .u16 a0_8, .int .u16 a0_9, .slice A1_10 l0_10.length c1_10, .slice A1_11 l0_11.length c1_11, .slice A1_12 l0_12.length c1_12, .slice A1_13 l0_13.length c1_13]) (t := 29) ?hr ?_; (case hd => rfl); (case hg => rfl); (case hr => first | (go_simp; done) | (go_simp; rfl)); intro p2 hg w2 hbox hb; have HB2 := Aside0.mk hb; have BK2 := Aside0.mk hbox; clear hg hbox hb)))
  (try simp only [Act.put, List.setIfInBounds_toArray, List.set_cons_zero, List.set_cons_succ])
  have n1 := Aside0.mk (blk_below BK1.out HB2.out)
  clear BK1
  have BK1 := n1
  clear n1
  have HB := Aside0.mk (below_step HB1.out HB2.out)
  clear HB1 HB2
  have ha0 : w2.cell? ⟨p1, 0, none⟩ = some (.int .u8 a0_0) := (blk_cell BK1.out 0).trans rfl
  have hb0 : w2.cell? ⟨p2, 0, none⟩ = some (.int .u8 a0_0) := (blk_cell BK2.out 0).trans rfl
  have ha1 : w2.cell? ⟨p1, 1, none⟩ = some (.int .u8 a0_1) := (blk_cell BK1.out 1).trans rfl
  have hb1 : w2.cell? ⟨p2, 1, none⟩ = some (.int .u8 a0_1) := (blk_cell BK2.out 1).trans rfl
  have ha2 : w2.cell? ⟨p1, 2, none⟩ = some (.int .u32 a0_2) := (blk_cell BK1.out 2).trans rfl
  have hb2 : w2.cell? ⟨p2, 2, none⟩ = some (.int .u32 a0_2) := (blk_cell BK2.out 2).trans rfl
  have ha3 : w2.cell? ⟨p1, 3, none⟩ = some (.int .u16 a0_3) := (blk_cell BK1.out 3).trans rfl
  have hb3 : w2.cell? ⟨p2, 3, none⟩ = some (.int .u16 a0_3) := (blk_cell BK2.out 3).trans rfl
  have ha4 : w2.cell? ⟨p1, 4, none⟩ = some (.int .u16 a0_4) := (blk_cell BK1.out 4).trans rfl
  have hb4 : w2.cell? ⟨p2, 4, none⟩ = some (.int .u16 a0_4) := (blk_cell BK2.out 4).trans rfl
  have ha5 : w2.cell? ⟨p1, 5, none⟩ = some (.int .u32 a0_5) := (blk_cell BK1.out 5).trans rfl
  have hb5 : w2.cell? ⟨p2, 5, none⟩ = some (.int .u32 a0_5) := (blk_cell BK2.out 5).trans rfl
  have ha6 : w2.cell? ⟨p1, 6, none⟩ = some (.int .u32 a0_6) := (blk_cell BK1.out 6).trans rfl
  have hb6 : w2.cell? ⟨p2, 6, none⟩ = some (.int .u32 a0_6) := (blk_cell BK2.out 6).trans rfl
  have ha7 : w2.cell? ⟨p1, 7, none⟩ = some (.int .u32 a0_7) := (blk_cell BK1.out 7).trans rfl
  have hb7 : w2.cell? ⟨p2, 7, none⟩ = some (.int .u32 a0_7) := (blk_cell BK2.out 7).trans rfl
  have ha8 : w2.cell? ⟨p1, 8, none⟩ = some (.int .u16 a0_8) := (blk_cell BK1.out 8).trans rfl
  have hb8 : w2.cell? ⟨p2, 8, none⟩ = some (.int .u16 a0_8) := (blk_cell BK2.out 8).trans rfl
  have ha9 : w2.cell? ⟨p1, 9, none⟩ = some (.int .u16 a0_9) := (blk_cell BK1.out 9).trans rfl
  have hb9 : w2.cell? ⟨p2, 9, none⟩ = some (.int .u16 a0_9) := (blk_cell BK2.out 9).trans rfl
  have ha10 : w2.cell? ⟨p1, 10, none⟩ = some (.slice A0_10 l0_10.length c0_10) := (blk_cell BK1.out 10).trans rfl
  have hb10 : w2.cell? ⟨p2, 10, none⟩ = some (.slice A1_10 l0_10.length c1_10) := (blk_cell BK2.out 10).trans rfl
  have ha11 : w2.cell? ⟨p1, 11, none⟩ = some (.slice A0_11 l0_11.length c0_11) := (blk_cell BK1.out 11).trans rfl
  have hb11 : w2.cell? ⟨p2, 11, none⟩ = some (.slice A1_11 l0_11.length c1_11) := (blk_cell BK2.out 11).trans rfl
  have ha12 : w2.cell? ⟨p1, 12, none⟩ = some (.slice A0_12 l0_12.length c0_12) := (blk_cell BK1.out 12).trans rfl
  have hb12 : w2.cell? ⟨p2, 12, none⟩ = some (.slice A1_12 l0_12.length c1_12) := (blk_cell BK2.out 12).trans rfl
  have ha13 : w2.cell? ⟨p1, 13, none⟩ = some (.slice A0_13 l0_13.length c0_13) := (blk_cell BK1.out 13).trans rfl
  have hb13 : w2.cell? ⟨p2, 13, none⟩ = some (.slice A1_13 l0_13.length c1_13) := (blk_cell BK2.out 13).trans rfl
  have hs0 := Kd.C_string (P := Try.prog) (A := A0_13) (c := c0_13) Try.underlying27 Try.underlying5 Try.underlying9 (Kd.C_below HR0_13.out HB.out)
  have hs1 := Kd.C_string (P := Try.prog) (A := A1_13) (c := c1_13) Try.underlying27 Try.underlying5 Try.underlying9 (Kd.C_below HR1_13.out HB.out)
  go_wp2
  repeat (go_quiet (fail); try go_wp2)
  clear ha0 hb0 ha1 hb1 ha2 hb2 ha3 hb3 ha4 hb4 ha5 hb5 ha6 hb6 ha7 hb7 ha8 hb8 ha9 hb9 ha10 hb10 ha11 hb11 ha12 hb12 ha13 hb13 hs0 hs1
  go_loopg [5] l0_10.length (fun kq v5 w' => ∃ (x : Int), v5 = .int .i64 x ∧ Aside0 (0 ≤ x ∧ x + kq = (l0_10.length : Int)) ∧ Aside0 (w'.heap[p1]? = some (.cells #[.int .u8 a0_0, .int .u8 a0_1, .int .u32 a0_2, .int .u16 a0_3, .int .u16 a0_4, .int .u32 a0_5, .int .u32 a0_6, .int .u32 a0_7, .int .u16 a0_8, .int .u16 a0_9, .slice A0_10 l0_10.length c0_10, .slice A0_11 l0_11.length c0_11, .slice A0_12 l0_12.length c0_12, .slice A0_13 l0_13.length c0_13] 29 (0, 0))) ∧ Aside0 (w'.heap[p2]? = some (.cells #[.int .u8 a0_0, .int .u8 a0_1, .int .u32 a0_2, .int .u16 a0_3, .int .u16 a0_4, .int .u32 a0_5, .int .u32 a0_6, .int .u32 a0_7, .int .u16 a0_8, .int .u16 a0_9, .slice A1_10 l0_10.length c1_10, .slice A1_11 l0_11.length c1_11, .slice A1_12 l0_12.length c1_12, .slice A1_13 l0_13.length c1_13] 29 (0, 0))) ∧ Aside0 (Below w.heap.size w w'))
  case atStart => exact ⟨0, (by first | rfl | (simp; done) | (simp [*]; done)), ⟨by omega, by omega⟩, ⟨by (with_reducible repeat (first | refine blk_drewN ?_ _ | refine blk_drew ?_ | refine blk_alloc ?_ _)); exact BK1.out⟩, ⟨by (with_reducible repeat (first | refine blk_drewN ?_ _ | refine blk_drew ?_ | refine blk_alloc ?_ _)); exact BK2.out⟩, ⟨by repeat (first | (with_reducible first | exact HB.out | apply below_alloc | apply pw_below_drewN | apply below_drew1) | exact HB.out)⟩⟩
  case round =>
    clear BK1 BK2 HB
    obtain ⟨x, rfl, HX, BK1, BK2, HB⟩ := hrel
    have ha : wr.cell? ⟨p1, 10, none⟩ = some (.slice A0_10 l0_10.length c0_10) := (blk_cell BK1.out 10).trans rfl
    have hb : wr.cell? ⟨p2, 10, none⟩ = some (.slice A1_10 l0_10.length c1_10) := (blk_cell BK2.out 10).trans rfl
    have p0 := HX.out.1
    by_cases c : x < (l0_10.length : Int)
    · have cb : decide (x < (l0_10.length : Int)) = true := decide_eq_true c
      have pb : decide (0 ≤ x) = true := decide_eq_true p0
      obtain ⟨ud, ue, u0, u1⟩ := at_T101 HR0_10.out x p0 c
      cases ue
      replace u0 := (HB.out.cell (World.block_lt_of_cell? w _ u0)).trans u0
      replace u1 := (HB.out.cell (World.block_lt_of_cell? w _ u1)).trans u1
      obtain ⟨vd, ve, v0, v1⟩ := at_T101 HR1_10.out x p0 c
      cases ve
      replace v0 := (HB.out.cell (World.block_lt_of_cell? w _ v0)).trans v0
      replace v1 := (HB.out.cell (World.block_lt_of_cell? w _ v1)).trans v1
      have et : (!(((rd_T101 l0_10 x).f0) == ((rd_T101 l0_10 x).f0)) || (!(((rd_T101 l0_10 x).f1) == ((rd_T101 l0_10 x).f1)))) = false := by simp
      have C' := Aside0.mk c
      have p0' : (0 ≤ x) = True := eq_true p0
      have c' : (x < (l0_10.length : Int)) = True := eq_true c
      clear p0 c
      go_wp2
      repeat (go_quiet (fail); try go_wp2)
      have hw : wrap64 (x + 1) = x + 1 := by have := C'.out; have := HX.out.1; have := HN10.out; unfold wrap64; omega
      cases gk with
      | zero => exact absurd C'.out (by have := HX.out.2; omega)
      | succ gk =>
        go_roundg gk
        case measure => omega
        case rel => exact ⟨x + 1, (by first | rfl | rw [hw] | (simp; done) | (simp [*]; done)), ⟨by have := HX.out.1; omega, by have := HX.out.2; omega⟩, ⟨by (with_reducible repeat (first | refine blk_drewN ?_ _ | refine blk_drew ?_ | refine blk_alloc ?_ _)); exact BK1.out⟩, ⟨by (with_reducible repeat (first | refine blk_drewN ?_ _ | refine blk_drew ?_ | refine blk_alloc ?_ _)); exact BK2.out⟩, ⟨by repeat (first | (with_reducible first | exact HB.out | apply below_alloc | apply pw_below_drewN | apply below_drew1) | exact HB.out)⟩⟩
    · have cb : decide (x < (l0_10.length : Int)) = false := decide_eq_false c
      clear c HX
      go_wp2
      repeat (go_quiet (fail); try go_wp2)
      clear cb ha hb p0
      go_loopg [6] l0_11.length (fun kq v6 w' => ∃ (x : Int), v6 = .int .i64 x ∧ Aside0 (0 ≤ x ∧ x + kq = (l0_11.length : Int)) ∧ Aside0 (w'.heap[p1]? = some (.cells #[.int .u8 a0_0, .int .u8 a0_1, .int .u32 a0_2, .int .u16 a0_3, .int .u16 a0_4, .int .u32 a0_5, .int .u32 a0_6, .int .u32 a0_7, .int .u16 a0_8, .int .u16 a0_9, .slice A0_10 l0_10.length c0_10, .slice A0_11 l0_11.length c0_11, .slice A0_12 l0_12.length c0_12, .slice A0_13 l0_13.length c0_13] 29 (0, 0))) ∧ Aside0 (w'.heap[p2]? = some (.cells #[.int .u8 a0_0, .int .u8 a0_1, .int .u32 a0_2, .int .u16 a0_3, .int .u16 a0_4, .int .u32 a0_5, .int .u32 a0_6, .int .u32 a0_7, .int .u16 a0_8, .int .u16 a0_9, .slice A1_10 l0_10.length c1_10, .slice A1_11 l0_11.length c1_11, .slice A1_12 l0_12.length c1_12, .slice A1_13 l0_13.length c1_13] 29 (0, 0))) ∧ Aside0 (Below w.heap.size w w'))
      case atStart => exact ⟨0, (by first | rfl | (simp; done) | (simp [*]; done)), ⟨by omega, by omega⟩, ⟨by (with_reducible repeat (first | refine blk_drewN ?_ _ | refine blk_drew ?_ | refine blk_alloc ?_ _)); exact BK1.out⟩, ⟨by (with_reducible repeat (first | refine blk_drewN ?_ _ | refine blk_drew ?_ | refine blk_alloc ?_ _)); exact BK2.out⟩, ⟨by repeat (first | (with_reducible first | exact HB.out | apply below_alloc | apply pw_below_drewN | apply below_drew1) | exact HB.out)⟩⟩
      case round =>
        clear BK1 BK2 HB
        obtain ⟨x, rfl, HX, BK1, BK2, HB⟩ := hrel
        have ha : wr.cell? ⟨p1, 11, none⟩ = some (.slice A0_11 l0_11.length c0_11) := (blk_cell BK1.out 11).trans rfl
        have hb : wr.cell? ⟨p2, 11, none⟩ = some (.slice A1_11 l0_11.length c1_11) := (blk_cell BK2.out 11).trans rfl
        have p0 := HX.out.1
        by_cases c : x < (l0_11.length : Int)
        · have cb : decide (x < (l0_11.length : Int)) = true := decide_eq_true c
          have pb : decide (0 ≤ x) = true := decide_eq_true p0
          obtain ⟨ud, ue, u0⟩ := Kd.at_int HR0_11.out x p0 c
          cases ue
          replace u0 := (HB.out.cell (World.block_lt_of_cell? w _ u0)).trans u0
          obtain ⟨vd, ve, v0⟩ := Kd.at_int HR1_11.out x p0 c
          cases ve
          replace v0 := (HB.out.cell (World.block_lt_of_cell? w _ v0)).trans v0
          have et : ((rd l0_11 x) != (rd l0_11 x)) = false := bne_self_eq_false _
          have C' := Aside0.mk c
          have p0' : (0 ≤ x) = True := eq_true p0
          have c' : (x < (l0_11.length : Int)) = True := eq_true c
          clear p0 c
          go_wp2
          repeat (go_quiet (fail); try go_wp2)
          have hw : wrap64 (x + 1) = x + 1 := by have := C'.out; have := HX.out.1; have := HN11.out; unfold wrap64; omega
          cases gk with
          | zero => exact absurd C'.out (by have := HX.out.2; omega)
          | succ gk =>
            go_roundg gk
            case measure => omega
            case rel => exact ⟨x + 1, (by first | rfl | rw [hw] | (simp; done) | (simp [*]; done)), ⟨by have := HX.out.1; omega, by have := HX.out.2; omega⟩, ⟨by (with_reducible repeat (first | refine blk_drewN ?_ _ | refine blk_drew ?_ | refine blk_alloc ?_ _)); exact BK1.out⟩, ⟨by (with_reducible repeat (first | refine blk_drewN ?_ _ | refine blk_drew ?_ | refine blk_alloc ?_ _)); exact BK2.out⟩, ⟨by repeat (first | (with_reducible first | exact HB.out | apply below_alloc | apply pw_below_drewN | apply below_drew1) | exact HB.out)⟩⟩
        · have cb : decide (x < (l0_11.length : Int)) = false := decide_eq_false c
          clear c HX
          go_wp2
          repeat (go_quiet (fail); try go_wp2)
          clear cb ha hb p0
          go_loopg [7] l0_12.length (fun kq v7 w' => ∃ (x : Int), v7 = .int .i64 x ∧ Aside0 (0 ≤ x ∧ x + kq = (l0_12.length : Int)) ∧ Aside0 (w'.heap[p1]? = some (.cells #[.int .u8 a0_0, .int .u8 a0_1, .int .u32 a0_2, .int .u16 a0_3, .int .u16 a0_4, .int .u32 a0_5, .int .u32 a0_6, .int .u32 a0_7, .int .u16 a0_8, .int .u16 a0_9, .slice A0_10 l0_10.length c0_10, .slice A0_11 l0_11.length c0_11, .slice A0_12 l0_12.length c0_12, .slice A0_13 l0_13.length c0_13] 29 (0, 0))) ∧ Aside0 (w'.heap[p2]? = some (.cells #[.int .u8 a0_0, .int .u8 a0_1, .int .u32 a0_2, .int .u16 a0_3, .int .u16 a0_4, .int .u32 a0_5, .int .u32 a0_6, .int .u32 a0_7, .int .u16 a0_8, .int .u16 a0_9, .slice A1_10 l0_10.length c1_10, .slice A1_11 l0_11.length c1_11, .slice A1_12 l0_12.length c1_12, .slice A1_13 l0_13.length c1_13] 29 (0, 0))) ∧ Aside0 (Below w.heap.size w w'))
          case atStart => exact ⟨0, (by first | rfl | (simp; done) | (simp [*]; done)), ⟨by omega, by omega⟩, ⟨by (with_reducible repeat (first | refine blk_drewN ?_ _ | refine blk_drew ?_ | refine blk_alloc ?_ _)); exact BK1.out⟩, ⟨by (with_reducible repeat (first | refine blk_drewN ?_ _ | refine blk_drew ?_ | refine blk_alloc ?_ _)); exact BK2.out⟩, ⟨by repeat (first | (with_reducible first | exact HB.out | apply below_alloc | apply pw_below_drewN | apply below_drew1) | exact HB.out)⟩⟩
          case round =>
            clear BK1 BK2 HB
            obtain ⟨x, rfl, HX, BK1, BK2, HB⟩ := hrel
            have ha : wr.cell? ⟨p1, 12, none⟩ = some (.slice A0_12 l0_12.length c0_12) := (blk_cell BK1.out 12).trans rfl
            have hb : wr.cell? ⟨p2, 12, none⟩ = some (.slice A1_12 l0_12.length c1_12) := (blk_cell BK2.out 12).trans rfl
            have p0 := HX.out.1
            by_cases c : x < (l0_12.length : Int)
            · have cb : decide (x < (l0_12.length : Int)) = true := decide_eq_true c
              have pb : decide (0 ≤ x) = true := decide_eq_true p0
              obtain ⟨ud, uA, uc, ue, u0, u1, ul, ui⟩ := at_T48 HR0_12.out x p0 c
              cases ue
              replace u0 := (HB.out.cell (World.block_lt_of_cell? w _ u0)).trans u0
              replace u1 := (HB.out.cell (World.block_lt_of_cell? w _ u1)).trans u1
              have hsu := Kd.C_string (P := Try.prog) (A := uA) (c := uc) Try.underlying27 Try.underlying5 Try.underlying9 (Kd.C_below ui HB.out)
              have Hu := Aside0.mk ui
              clear ui ul
              obtain ⟨vd, vA, vc, ve, v0, v1, vl, vi⟩ := at_T48 HR1_12.out x p0 c
              cases ve
              replace v0 := (HB.out.cell (World.block_lt_of_cell? w _ v0)).trans v0
              replace v1 := (HB.out.cell (World.block_lt_of_cell? w _ v1)).trans v1
              have hsv := Kd.C_string (P := Try.prog) (A := vA) (c := vc) Try.underlying27 Try.underlying5 Try.underlying9 (Kd.C_below vi HB.out)
              have Hv := Aside0.mk vi
              clear vi vl
              have et : ((rd_T48 l0_12 x).f0 != (rd_T48 l0_12 x).f0) = false := bne_self_eq_false _
              have es : ((strOfNums ((rd_T48 l0_12 x).f1)).toList != (strOfNums ((rd_T48 l0_12 x).f1)).toList) = false := bne_self_eq_false _
              have C' := Aside0.mk c
              have p0' : (0 ≤ x) = True := eq_true p0
              have c' : (x < (l0_12.length : Int)) = True := eq_true c
              clear p0 c
              go_upto_region 18 with (fail)
              repeat (go_quiet (fail); go_upto_region 18 with (fail))
              refine start_ (n := 30) (S := fun w' => w'.cell? ⟨p1, 12, none⟩ = some (.slice (some ud) l0_12.length c0_12) ∧ w'.cell? ⟨p2, 12, none⟩ = some (.slice (some vd) l0_12.length c1_12) ∧ w'.cell? (ud.add (x.toNat * 2)) = some (.int .u16 (rd_T48 l0_12 x).f0) ∧ w'.cell? { block := (ud.add (x.toNat * 2)).block, off := (ud.add (x.toNat * 2)).off + 1 } = some (.slice uA (rd_T48 l0_12 x).f1.length uc) ∧ (convert 27 9 (.slice uA (rd_T48 l0_12 x).f1.length uc)).run Try.prog w' = .ok (.string (strOfNums (rd_T48 l0_12 x).f1)) w' ∧ w'.cell? (vd.add (x.toNat * 2)) = some (.int .u16 (rd_T48 l0_12 x).f0) ∧ w'.cell? { block := (vd.add (x.toNat * 2)).block, off := (vd.add (x.toNat * 2)).off + 1 } = some (.slice vA (rd_T48 l0_12 x).f1.length vc) ∧ (convert 27 9 (.slice vA (rd_T48 l0_12 x).f1.length vc)).run Try.prog w' = .ok (.string (strOfNums (rd_T48 l0_12 x).f1)) w') (ds := []) #[false, false, false, false, false, false, false, false, false, false, false, false, false, false, false, false, false, false, false, false, false, false, false, false, false, false, false, false, false, false] (by kernel_rfl) rfl rfl ⟨ha, hb, u0, u1, Kd.C_string (P := Try.prog) (A := uA) (c := uc) Try.underlying27 Try.underlying5 Try.underlying9 (Kd.C_below Hu.out HB.out.drew), v0, v1, Kd.C_string (P := Try.prog) (A := vA) (c := vc) Try.underlying27 Try.underlying5 Try.underlying9 (Kd.C_below Hv.out HB.out.drew)⟩ (fun hHeld => ?_)
              refine pure_ (i := 0) (N := some 153) (v := ?_) (a' := ?_) #[true, false, false, false, false, false, false, false, false, false, false, false, false, false, false, false, false, false, false, false, false, false, false, false, false, false, false, false, false, false] rfl rfl (by kernel_rfl) (fun _ _ _ h => h) (Or.inl ⟨by rfl, ?_⟩) ?_ ?_
              rotate_left
              · intro w'
                go_simp
                with_reducible rfl
              rotate_left
              · simp only [Act.put, List.setIfInBounds_toArray, List.set_cons_zero, List.set_cons_succ, i64_w, i32_w]
                rfl
              refine pure_ (i := 2) (N := some 155) (v := ?_) (a' := ?_) #[true, false, true, false, false, false, false, false, false, false, false, false, false, false, false, false, false, false, false, false, false, false, false, false, false, false, false, false, false, false] rfl rfl (by kernel_rfl) (fun _ _ _ h => h) (Or.inl ⟨by rfl, ?_⟩) ?_ ?_
              rotate_left
              · intro w'
                go_simp
                with_reducible rfl
              rotate_left
              · simp only [Act.put, List.setIfInBounds_toArray, List.set_cons_zero, List.set_cons_succ, i64_w, i32_w]
                rfl
              refine pure_ (i := 6) (N := some 159) (v := ?_) (a' := ?_) #[true, false, true, false, false, false, true, false, false, false, false, false, false, false, false, false, false, false, false, false, false, false, false, false, false, false, false, false, false, false] rfl rfl (by kernel_rfl) (fun _ _ _ h => h) (Or.inl ⟨by rfl, ?_⟩) ?_ ?_
              rotate_left
              · intro w'
                go_simp
                with_reducible rfl
              rotate_left
              · simp only [Act.put, List.setIfInBounds_toArray, List.set_cons_zero, List.set_cons_succ, i64_w, i32_w]
                rfl
              refine pure_ (i := 8) (N := some 161) (v := ?_) (a' := ?_) #[true, false, true, false, false, false, true, false, true, false, false, false, false, false, false, false, false, false, false, false, false, false, false, false, false, false, false, false, false, false] rfl rfl (by kernel_rfl) (fun _ _ _ h => h) (Or.inl ⟨by rfl, ?_⟩) ?_ ?_
              rotate_left
              · intro w'
                go_simp
                with_reducible rfl
              rotate_left
              · simp only [Act.put, List.setIfInBounds_toArray, List.set_cons_zero, List.set_cons_succ, i64_w, i32_w]
                rfl
              refine take_ (i := 1) (N := some 154) (v := ?_) (a' := ?_) #[true, true, true, false, false, false, true, false, true, false, false, false, false, false, false, false, false, false, false, false, false, false, false, false, false, false, false, false, false, false] rfl rfl (by kernel_rfl) (fun _ _ _ h => h) (Or.inl ⟨by rfl, ?_⟩) hHeld ?_ ?_
              rotate_left
              · rintro w' ⟨s0, s1, s2, s3, s4, s5, s6, s7⟩
                go_simp
                with_reducible rfl
              rotate_left
              · simp only [Act.put, List.setIfInBounds_toArray, List.set_cons_zero, List.set_cons_succ, i64_w, i32_w]
                rfl
              refine pure_ (i := 3) (N := some 156) (v := ?_) (a' := ?_) #[true, true, true, true, false, false, true, false, true, false, false, false, false, false, false, false, false, false, false, false, false, false, false, false, false, false, false, false, false, false] rfl rfl (by kernel_rfl) (fun _ _ _ h => h) (Or.inl ⟨by rfl, ?_⟩) ?_ ?_
              rotate_left
              · intro w'
                go_simp
                with_reducible rfl
              rotate_left
              · simp only [Act.put, List.setIfInBounds_toArray, List.set_cons_zero, List.set_cons_succ, i64_w, i32_w]
                rfl
              refine pure_ (i := 4) (N := some 157) (v := ?_) (a' := ?_) #[true, true, true, true, true, false, true, false, true, false, false, false, false, false, false, false, false, false, false, false, false, false, false, false, false, false, false, false, false, false] rfl rfl (by kernel_rfl) (fun _ _ _ h => h) (Or.inl ⟨by rfl, ?_⟩) ?_ ?_
              rotate_left
              · intro w'
                go_simp
                with_reducible rfl
              rotate_left
              · simp only [Act.put, List.setIfInBounds_toArray, List.set_cons_zero, List.set_cons_succ, i64_w, i32_w]
                rfl
              refine take_ (i := 5) (N := some 158) (v := ?_) (a' := ?_) #[true, true, true, true, true, true, true, false, true, false, false, false, false, false, false, false, false, false, false, false, false, false, false, false, false, false, false, false, false, false] rfl rfl (by kernel_rfl) (fun _ _ _ h => h) (Or.inl ⟨by rfl, ?_⟩) hHeld ?_ ?_
              rotate_left
              · rintro w' ⟨s0, s1, s2, s3, s4, s5, s6, s7⟩
                go_simp
                with_reducible rfl
              rotate_left
              · simp only [Act.put, List.setIfInBounds_toArray, List.set_cons_zero, List.set_cons_succ, i64_w, i32_w]
                rfl
              refine take_ (i := 7) (N := some 160) (v := ?_) (a' := ?_) #[true, true, true, true, true, true, true, true, true, false, false, false, false, false, false, false, false, false, false, false, false, false, false, false, false, false, false, false, false, false] rfl rfl (by kernel_rfl) (fun _ _ _ h => h) (Or.inl ⟨by rfl, ?_⟩) hHeld ?_ ?_
              rotate_left
              · rintro w' ⟨s0, s1, s2, s3, s4, s5, s6, s7⟩
                go_simp
                with_reducible rfl
              rotate_left
              · simp only [Act.put, List.setIfInBounds_toArray, List.set_cons_zero, List.set_cons_succ, i64_w, i32_w]
                rfl
              refine pure_ (i := 9) (N := some 162) (v := ?_) (a' := ?_) #[true, true, true, true, true, true, true, true, true, true, false, false, false, false, false, false, false, false, false, false, false, false, false, false, false, false, false, false, false, false] rfl rfl (by kernel_rfl) (fun _ _ _ h => h) (Or.inl ⟨by rfl, ?_⟩) ?_ ?_
              rotate_left
              · intro w'
                go_simp
                with_reducible rfl
              rotate_left
              · simp only [Act.put, List.setIfInBounds_toArray, List.set_cons_zero, List.set_cons_succ, i64_w, i32_w]
                rfl
              refine pure_ (i := 10) (N := some 163) (v := ?_) (a' := ?_) #[true, true, true, true, true, true, true, true, true, true, true, false, false, false, false, false, false, false, false, false, false, false, false, false, false, false, false, false, false, false] rfl rfl (by kernel_rfl) (fun _ _ _ h => h) (Or.inl ⟨by rfl, ?_⟩) ?_ ?_
              rotate_left
              · intro w'
                go_simp
                with_reducible rfl
              rotate_left
              · simp only [Act.put, List.setIfInBounds_toArray, List.set_cons_zero, List.set_cons_succ, i64_w, i32_w]
                rfl
              refine take_ (i := 11) (N := some 164) (v := ?_) (a' := ?_) #[true, true, true, true, true, true, true, true, true, true, true, true, false, false, false, false, false, false, false, false, false, false, false, false, false, false, false, false, false, false] rfl rfl (by kernel_rfl) (fun _ _ _ h => h) (Or.inl ⟨by rfl, ?_⟩) hHeld ?_ ?_
              rotate_left
              · rintro w' ⟨s0, s1, s2, s3, s4, s5, s6, s7⟩
                go_simp
                with_reducible rfl
              rotate_left
              · simp only [Act.put, List.setIfInBounds_toArray, List.set_cons_zero, List.set_cons_succ, i64_w, i32_w]
                rfl
              refine pure_ (i := 12) (N := some 165) (v := ?_) (a' := ?_) #[true, true, true, true, true, true, true, true, true, true, true, true, true, false, false, false, false, false, false, false, false, false, false, false, false, false, false, false, false, false] rfl rfl (by kernel_rfl) (fun _ _ _ h => h) (Or.inl ⟨by rfl, ?_⟩) ?_ ?_
              rotate_left
              · intro w'
                go_simp
                with_reducible rfl
              rotate_left
              · simp only [Act.put, List.setIfInBounds_toArray, List.set_cons_zero, List.set_cons_succ, i64_w, i32_w]
                rfl
              refine pure_ (i := 13) (N := some 166) (v := ?_) (a' := ?_) #[true, true, true, true, true, true, true, true, true, true, true, true, true, true, false, false, false, false, false, false, false, false, false, false, false, false, false, false, false, false] rfl rfl (by kernel_rfl) (fun _ _ _ h => h) (Or.inl ⟨by rfl, ?_⟩) ?_ ?_
              rotate_left
              · intro w'
                go_simp
                with_reducible rfl
              rotate_left
              · simp only [Act.put, List.setIfInBounds_toArray, List.set_cons_zero, List.set_cons_succ, i64_w, i32_w]
                rfl
              refine pure_ (i := 14) (N := some 167) (v := ?_) (a' := ?_) #[true, true, true, true, true, true, true, true, true, true, true, true, true, true, true, false, false, false, false, false, false, false, false, false, false, false, false, false, false, false] rfl rfl (by kernel_rfl) (fun _ _ _ h => h) (Or.inl ⟨by rfl, ?_⟩) ?_ ?_
              rotate_left
              · intro w'
                go_simp
                with_reducible rfl
              rotate_left
              · simp only [Act.put, List.setIfInBounds_toArray, List.set_cons_zero, List.set_cons_succ, i64_w, i32_w]
                rfl
              refine pure_ (i := 16) (N := some 169) (v := ?_) (a' := ?_) #[true, true, true, true, true, true, true, true, true, true, true, true, true, true, true, false, true, false, false, false, false, false, false, false, false, false, false, false, false, false] rfl rfl (by kernel_rfl) (fun _ _ _ h => h) (Or.inl ⟨by rfl, ?_⟩) ?_ ?_
              rotate_left
              · intro w'
                go_simp
                with_reducible rfl
              rotate_left
              · simp only [Act.put, List.setIfInBounds_toArray, List.set_cons_zero, List.set_cons_succ, i64_w, i32_w]
                rfl
              refine pure_ (i := 21) (N := some 174) (v := ?_) (a' := ?_) #[true, true, true, true, true, true, true, true, true, true, true, true, true, true, true, false, true, false, false, false, false, true, false, false, false, false, false, false, false, false] rfl rfl (by kernel_rfl) (fun _ _ _ h => h) (Or.inl ⟨by rfl, ?_⟩) ?_ ?_
              rotate_left
              · intro w'
                go_simp
                with_reducible rfl
              rotate_left
              · simp only [Act.put, List.setIfInBounds_toArray, List.set_cons_zero, List.set_cons_succ, i64_w, i32_w]
                rfl
              refine pure_ (i := 23) (N := some 176) (v := ?_) (a' := ?_) #[true, true, true, true, true, true, true, true, true, true, true, true, true, true, true, false, true, false, false, false, false, true, false, true, false, false, false, false, false, false] rfl rfl (by kernel_rfl) (fun _ _ _ h => h) (Or.inl ⟨by rfl, ?_⟩) ?_ ?_
              rotate_left
              · intro w'
                go_simp
                with_reducible rfl
              rotate_left
              · simp only [Act.put, List.setIfInBounds_toArray, List.set_cons_zero, List.set_cons_succ, i64_w, i32_w]
                rfl
              refine take_ (i := 15) (N := some 168) (v := ?_) (a' := ?_) #[true, true, true, true, true, true, true, true, true, true, true, true, true, true, true, true, true, false, false, false, false, true, false, true, false, false, false, false, false, false] rfl rfl (by kernel_rfl) (fun _ _ _ h => h) (Or.inl ⟨by rfl, ?_⟩) hHeld ?_ ?_
              rotate_left
              · rintro w' ⟨s0, s1, s2, s3, s4, s5, s6, s7⟩
                go_simp
                with_reducible rfl
              rotate_left
              · simp only [Act.put, List.setIfInBounds_toArray, List.set_cons_zero, List.set_cons_succ, i64_w, i32_w]
                rfl
              refine pure_ (i := 17) (N := some 170) (v := ?_) (a' := ?_) #[true, true, true, true, true, true, true, true, true, true, true, true, true, true, true, true, true, true, false, false, false, true, false, true, false, false, false, false, false, false] rfl rfl (by kernel_rfl) (fun _ _ _ h => h) (Or.inl ⟨by rfl, ?_⟩) ?_ ?_
              rotate_left
              · intro w'
                go_simp
                with_reducible rfl
              rotate_left
              · simp only [Act.put, List.setIfInBounds_toArray, List.set_cons_zero, List.set_cons_succ, i64_w, i32_w]
                rfl
              refine pure_ (i := 18) (N := some 171) (v := ?_) (a' := ?_) #[true, true, true, true, true, true, true, true, true, true, true, true, true, true, true, true, true, true, true, false, false, true, false, true, false, false, false, false, false, false] rfl rfl (by kernel_rfl) (fun _ _ _ h => h) (Or.inl ⟨by rfl, ?_⟩) ?_ ?_
              rotate_left
              · intro w'
                go_simp
                with_reducible rfl
              rotate_left
              · simp only [Act.put, List.setIfInBounds_toArray, List.set_cons_zero, List.set_cons_succ, i64_w, i32_w]
                rfl
              refine take_ (i := 19) (N := some 172) (v := ?_) (a' := ?_) #[true, true, true, true, true, true, true, true, true, true, true, true, true, true, true, true, true, true, true, true, false, true, false, true, false, false, false, false, false, false] rfl rfl (by kernel_rfl) (fun _ _ _ h => h) (Or.inl ⟨by rfl, ?_⟩) hHeld ?_ ?_
              rotate_left
              · rintro w' ⟨s0, s1, s2, s3, s4, s5, s6, s7⟩
                go_simp
                with_reducible rfl
              rotate_left
              · simp only [Act.put, List.setIfInBounds_toArray, List.set_cons_zero, List.set_cons_succ, i64_w, i32_w]
                rfl
              refine take_ (i := 20) (N := some 173) (v := ?_) (a' := ?_) #[true, true, true, true, true, true, true, true, true, true, true, true, true, true, true, true, true, true, true, true, true, true, false, true, false, false, false, false, false, false] rfl rfl (by kernel_rfl) (fun _ _ _ h => h) (Or.inl ⟨by rfl, ?_⟩) hHeld ?_ ?_
              rotate_left
              · rintro w' ⟨s0, s1, s2, s3, s4, s5, s6, s7⟩
                go_simp
                with_reducible rfl
              rotate_left
              · simp only [Act.put, List.setIfInBounds_toArray, List.set_cons_zero, List.set_cons_succ, i64_w, i32_w]
                rfl
              refine take_ (i := 22) (N := some 175) (v := ?_) (a' := ?_) #[true, true, true, true, true, true, true, true, true, true, true, true, true, true, true, true, true, true, true, true, true, true, true, true, false, false, false, false, false, false] rfl rfl (by kernel_rfl) (fun _ _ _ h => h) (Or.inl ⟨by rfl, ?_⟩) hHeld ?_ ?_
              rotate_left
              · rintro w' ⟨s0, s1, s2, s3, s4, s5, s6, s7⟩
                go_simp
                with_reducible rfl
              rotate_left
              · simp only [Act.put, List.setIfInBounds_toArray, List.set_cons_zero, List.set_cons_succ, i64_w, i32_w]
                rfl
              refine pure_ (i := 24) (N := some 177) (v := ?_) (a' := ?_) #[true, true, true, true, true, true, true, true, true, true, true, true, true, true, true, true, true, true, true, true, true, true, true, true, true, false, false, false, false, false] rfl rfl (by kernel_rfl) (fun _ _ _ h => h) (Or.inl ⟨by rfl, ?_⟩) ?_ ?_
              rotate_left
              · intro w'
                go_simp
                with_reducible rfl
              rotate_left
              · simp only [Act.put, List.setIfInBounds_toArray, List.set_cons_zero, List.set_cons_succ, i64_w, i32_w]
                rfl
              refine pure_ (i := 25) (N := some 178) (v := ?_) (a' := ?_) #[true, true, true, true, true, true, true, true, true, true, true, true, true, true, true, true, true, true, true, true, true, true, true, true, true, true, false, false, false, false] rfl rfl (by kernel_rfl) (fun _ _ _ h => h) (Or.inl ⟨by rfl, ?_⟩) ?_ ?_
              rotate_left
              · intro w'
                go_simp
                with_reducible rfl
              rotate_left
              · simp only [Act.put, List.setIfInBounds_toArray, List.set_cons_zero, List.set_cons_succ, i64_w, i32_w]
                rfl
              refine take_ (i := 26) (N := some 179) (v := ?_) (a' := ?_) #[true, true, true, true, true, true, true, true, true, true, true, true, true, true, true, true, true, true, true, true, true, true, true, true, true, true, true, false, false, false] rfl rfl (by kernel_rfl) (fun _ _ _ h => h) (Or.inl ⟨by rfl, ?_⟩) hHeld ?_ ?_
              rotate_left
              · rintro w' ⟨s0, s1, s2, s3, s4, s5, s6, s7⟩
                go_simp
                with_reducible rfl
              rotate_left
              · simp only [Act.put, List.setIfInBounds_toArray, List.set_cons_zero, List.set_cons_succ, i64_w, i32_w]
                rfl
              refine take_ (i := 27) (N := some 180) (v := ?_) (a' := ?_) #[true, true, true, true, true, true, true, true, true, true, true, true, true, true, true, true, true, true, true, true, true, true, true, true, true, true, true, true, false, false] rfl rfl (by kernel_rfl) (fun _ _ _ h => h) (Or.inl ⟨by rfl, ?_⟩) hHeld ?_ ?_
              rotate_left
              · rintro w' ⟨s0, s1, s2, s3, s4, s5, s6, s7⟩
                go_simp
                with_reducible rfl
              rotate_left
              · simp only [Act.put, List.setIfInBounds_toArray, List.set_cons_zero, List.set_cons_succ, i64_w, i32_w]
                rfl
              refine pure_ (i := 28) (N := some 181) (v := ?_) (a' := ?_) #[true, true, true, true, true, true, true, true, true, true, true, true, true, true, true, true, true, true, true, true, true, true, true, true, true, true, true, true, true, false] rfl rfl (by kernel_rfl) (fun _ _ _ h => h) (Or.inl ⟨by rfl, ?_⟩) ?_ ?_
              rotate_left
              · intro w'
                go_simp
                with_reducible rfl
              rotate_left
              · simp only [Act.put, List.setIfInBounds_toArray, List.set_cons_zero, List.set_cons_succ, i64_w, i32_w]
                rfl
              refine pure_ (i := 29) (N := some 182) (v := ?_) (a' := ?_) #[true, true, true, true, true, true, true, true, true, true, true, true, true, true, true, true, true, true, true, true, true, true, true, true, true, true, true, true, true, true] rfl rfl (by kernel_rfl) (fun _ _ _ h => h) (Or.inl ⟨by rfl, ?_⟩) ?_ ?_
              rotate_left
              · intro w'
                go_simp
                with_reducible rfl
              rotate_left
              · simp only [Act.put, List.setIfInBounds_toArray, List.set_cons_zero, List.set_cons_succ, i64_w, i32_w]
                rfl
              refine done_ (by kernel_rfl) ?_
              go_wp2
              repeat (go_quiet (fail); try go_wp2)
              have hw : wrap64 (x + 1) = x + 1 := by have := C'.out; have := HX.out.1; have := HN12.out; unfold wrap64; omega
              cases gk with
              | zero => exact absurd C'.out (by have := HX.out.2; omega)
              | succ gk =>
                go_roundg gk
                case measure => omega
                case rel => exact ⟨x + 1, (by first | rfl | rw [hw] | (simp; done) | (simp [*]; done)), ⟨by have := HX.out.1; omega, by have := HX.out.2; omega⟩, ⟨by (with_reducible repeat (first | refine blk_drewN ?_ _ | refine blk_drew ?_ | refine blk_alloc ?_ _)); exact BK1.out⟩, ⟨by (with_reducible repeat (first | refine blk_drewN ?_ _ | refine blk_drew ?_ | refine blk_alloc ?_ _)); exact BK2.out⟩, ⟨by repeat (first | (with_reducible first | exact HB.out | apply below_alloc | apply pw_below_drewN | apply below_drew1) | exact HB.out)⟩⟩
            · have cb : decide (x < (l0_12.length : Int)) = false := decide_eq_false c
              clear c HX
              go_wp2
              repeat (go_quiet (fail); try go_wp2)
              go_ret
              exact ⟨rfl, by repeat (first | (with_reducible first | exact HB.out | apply below_alloc | apply pw_below_drewN | apply below_drew1) | exact HB.out)⟩
end Go.Proofs.Ytaahkggbjpdofaa.M
end
section
namespace Go.Proofs.Ytaahkggbjpdofaa.M
open Go.RowKit Go.Proofs.YtaahkggbjpdofaaW.PrintWords Go.Proofs.YtaahkggbjpdofaaW.PrintLast Go.Proofs.YtaahkggbjpdofaaW.PrintMore
attribute [local go_sem] max2_int min2_int max_two min_two max_three min_three max_four min_four   -- for this text's walks alone
set_option linter.unusedVariables false
set_option linter.unusedSimpArgs false

/-! ### trunklineref12_SameAll: function 20 -/
def trunklineref12_SameAll.l0 : Nat → List (S29) → List (S29) → Int → Option (Bool)
  | 0, _, _, _ => none
  | k + 1, x0, x1, x5 => if x5 < (x0.length : Int) then (if 0 ≤ x5 then (if x5 < (x1.length : Int) then ((trunklineref12_Same.f k ((rd_T29 x0 x5).f0) ((rd_T29 x0 x5).f1) ((rd_T29 x0 x5).f2) ((rd_T29 x0 x5).f3) ((rd_T29 x0 x5).f4) ((rd_T29 x0 x5).f5) ((rd_T29 x0 x5).f6) ((rd_T29 x0 x5).f7) ((rd_T29 x0 x5).f8) ((rd_T29 x0 x5).f9) ((rd_T29 x0 x5).f10) ((rd_T29 x0 x5).f11) ((rd_T29 x0 x5).f12) ((rd_T29 x0 x5).f13) ((rd_T29 x1 x5).f0) ((rd_T29 x1 x5).f1) ((rd_T29 x1 x5).f2) ((rd_T29 x1 x5).f3) ((rd_T29 x1 x5).f4) ((rd_T29 x1 x5).f5) ((rd_T29 x1 x5).f6) ((rd_T29 x1 x5).f7) ((rd_T29 x1 x5).f8) ((rd_T29 x1 x5).f9) ((rd_T29 x1 x5).f10) ((rd_T29 x1 x5).f11) ((rd_T29 x1 x5).f12) ((rd_T29 x1 x5).f13)).bind fun t427 => (if t427 = true then (trunklineref12_SameAll.l0 k x0 x1 (wrap64 (x5 + 1))) else (some false))) else (none)) else (none)) else (some true)
def trunklineref12_SameAll.f (k : Nat) (l0 : List (S29)) (l1 : List (S29)) : Option (Bool) := if (l0.length : Int) = (l1.length : Int) then (trunklineref12_SameAll.l0 k l0 l1 0) else (some false)
def trunklineref12_SameAll.T6 : Bool × List (List Nat × List Nat) := (true, [([], []), ([], []), ([0, 1], [0, 1]), ([2], [2]), ([], []), ([], []), ([4, 5], [4, 5]), ([6], [6]), ([3, 7], [3, 7]), ([8], [8])])
def trunklineref12_SameAll.B6 : List Nat := [0, 0, 3, 7, 0, 0, 48, 112, 255, 511]
theorem trunklineref12_SameAll.tab6 : rtab .any (opsOf Try.f20 6) = trunklineref12_SameAll.T6 := by kernel_rfl
theorem trunklineref12_SameAll.bits6 : waitsOk trunklineref12_SameAll.T6.2 trunklineref12_SameAll.B6 = true := by kernel_rfl
set_option maxHeartbeats 8000000 in
set_option maxRecDepth 100000 in
theorem trunklineref12_SameAll.calls (k : Nat) (A0 : Option Addr) (c0 : Nat) (l0 : List (S29)) (A1 : Option Addr) (c1 : Nat) (l1 : List (S29)) (r : Bool) (w : World) (hr0 : Kd.C k29 w A0 l0.length l0) (hc0 : l0.length ≤ c0) (hr1 : Kd.C k29 w A1 l1.length l1) (hc1 : l1.length ≤ c1) (hr_ : r = true) (h : trunklineref12_SameAll.f k l0 l1 = some r) :
    Calls Try.prog 20 #[.slice A0 l0.length c0, .slice A1 l1.length c1] w fun e w' => e = .returned (.bool r) ∧ Below w.heap.size w w' := by
  have HRT := Aside0.mk hr_
  clear hr_
  have hu29 := Try.underlying29
  have HR0 := Aside0.mk hr0
  have HC0 := Aside0.mk hc0
  clear hr0 hc0
  have HR1 := Aside0.mk hr1
  have HC1 := Aside0.mk hc1
  clear hr1 hc1
  have HB := Aside0.mk (Below.refl w.heap.size w)
  have H : (if (l0.length : Int) = (l1.length : Int) then (trunklineref12_SameAll.l0 k l0 l1 0) else (some false)) = some r := h
  clear h
  by_cases c3 : (l0.length : Int) = (l1.length : Int)
  · rw [if_pos c3] at H
    have c3b0 : ((l0.length : Int) == (l1.length : Int)) = true := beq_iff_eq.mpr c3
    have c3b1 : ((l0.length : Int) != (l1.length : Int)) = false := bne_eq_false_iff_eq.mpr c3
    have c3b2 : (l0.length == l1.length) = true := by first | simpa using c3 | (simp at c3 ⊢; omega)
    clear c3
    have H' := Aside0.mk H
    clear H
    go_enter Try.func20, Try.ntmps20
    go_wp2
    go_loopg [5] k (fun kq v5 w' => ∃ (x5_1 : Int), v5 = .int .i64 x5_1 ∧ Aside0 (trunklineref12_SameAll.l0 kq l0 l1 x5_1 = some r) ∧ Aside0 (kq ≤ k) ∧ Aside0 (Below w.heap.size w w'))
    case atStart => exact ⟨(0), (by first | rfl | (simp; done) | (simp [*]; done)), H', ⟨Nat.le_refl _⟩, ⟨by repeat (first | (with_reducible first | exact HB.out | apply below_alloc | apply pw_below_drewN | apply below_drew1) | exact HB.out)⟩⟩
    case round =>
      clear H'
      try clear c1
      try clear c2
      try clear p2
      try clear c3
      try clear c3b0
      try clear c3b1
      try clear c3b2
      obtain ⟨x5_1, rfl, HA, HK1, HB⟩ := hrel
      cases gk with
      | zero => exact absurd HA.out (by simp [trunklineref12_SameAll.l0])
      | succ k1 =>
        have H := HA.out
        clear HA
        simp only [trunklineref12_SameAll.l0] at H
        by_cases c4 : x5_1 < (l0.length : Int)
        · rw [if_pos c4] at H
          have c4b0 : decide (x5_1 < (l0.length : Int)) = true := decide_eq_true c4
          clear c4
          by_cases c5 : 0 ≤ x5_1
          · rw [if_pos c5] at H
            have c5b0 : decide (0 ≤ x5_1) = true := decide_eq_true c5
            clear c5
            by_cases c6 : x5_1 < (l1.length : Int)
            · rw [if_pos c6] at H
              have c6b0 : decide (x5_1 < (l1.length : Int)) = true := decide_eq_true c6
              clear c6
              replace H := Option.bind_eq_some_iff.mp H
              obtain ⟨t427, A70, H⟩ := H
              replace H : (if t427 = true then (trunklineref12_SameAll.l0 k1 l0 l1 (wrap64 (x5_1 + 1))) else (some false)) = some r := H
              have A7 := Aside0.mk A70
              clear A70
              by_cases c8 : t427 = true
              · subst c8
                have H1 : (trunklineref12_SameAll.l0 k1 l0 l1 (wrap64 (x5_1 + 1))) = some r := by rw [if_pos rfl] at H; exact H
                clear H
                have H := H1
                clear H1
                have H' := Aside0.mk H
                clear H
                try go_wp2
                have n0_ := Aside0.mk (below_drew1 HB.out)
                clear HB
                have HB := n0_
                clear n0_
                have p425 : 0 ≤ (x5_1 : Int) := of_decide_eq_true (by first | (with_reducible assumption) | assumption)
                have q425 : x5_1 < (l0.length : Int) := of_decide_eq_true (by first | (with_reducible assumption) | assumption)
                obtain ⟨ad425, A425_10, c425_10, A425_11, c425_11, A425_12, c425_12, A425_13, c425_13, e425, hx425_0, hx425_1, hx425_2, hx425_3, hx425_4, hx425_5, hx425_6, hx425_7, hx425_8, hx425_9, hx425_10, hx425_11, hx425_12, hx425_13, hl425_10, hi425_10, hl425_11, hi425_11, hl425_12, hi425_12, hl425_13, hi425_13⟩ := at_T29 HR0.out x5_1 p425 q425
                have hw425_13 := hx425_13
                have hw425_12 := hx425_12
                have hw425_11 := hx425_11
                have hw425_10 := hx425_10
                have hw425_9 := hx425_9
                have hw425_8 := hx425_8
                have hw425_7 := hx425_7
                have hw425_6 := hx425_6
                have hw425_5 := hx425_5
                have hw425_4 := hx425_4
                have hw425_3 := hx425_3
                have hw425_2 := hx425_2
                have hw425_1 := hx425_1
                have hw425_0 := hx425_0
                cases e425
                replace hx425_0 := (HB.out.cell (World.block_lt_of_cell? w _ hx425_0)).trans hx425_0
                replace hx425_1 := (HB.out.cell (World.block_lt_of_cell? w _ hx425_1)).trans hx425_1
                replace hx425_2 := (HB.out.cell (World.block_lt_of_cell? w _ hx425_2)).trans hx425_2
                replace hx425_3 := (HB.out.cell (World.block_lt_of_cell? w _ hx425_3)).trans hx425_3
                replace hx425_4 := (HB.out.cell (World.block_lt_of_cell? w _ hx425_4)).trans hx425_4
                replace hx425_5 := (HB.out.cell (World.block_lt_of_cell? w _ hx425_5)).trans hx425_5
                replace hx425_6 := (HB.out.cell (World.block_lt_of_cell? w _ hx425_6)).trans hx425_6
                replace hx425_7 := (HB.out.cell (World.block_lt_of_cell? w _ hx425_7)).trans hx425_7
                replace hx425_8 := (HB.out.cell (World.block_lt_of_cell? w _ hx425_8)).trans hx425_8
                replace hx425_9 := (HB.out.cell (World.block_lt_of_cell? w _ hx425_9)).trans hx425_9
                replace hx425_10 := (HB.out.cell (World.block_lt_of_cell? w _ hx425_10)).trans hx425_10
                replace hx425_11 := (HB.out.cell (World.block_lt_of_cell? w _ hx425_11)).trans hx425_11
                replace hx425_12 := (HB.out.cell (World.block_lt_of_cell? w _ hx425_12)).trans hx425_12
                replace hx425_13 := (HB.out.cell (World.block_lt_of_cell? w _ hx425_13)).trans hx425_13
                have HR425_10 := Aside0.mk hi425_10
                have HC425_10 := Aside0.mk hl425_10
                clear hi425_10 hl425_10
                have HR425_11 := Aside0.mk hi425_11
                have HC425_11 := Aside0.mk hl425_11
                clear hi425_11 hl425_11
                have HR425_12 := Aside0.mk hi425_12
                have HC425_12 := Aside0.mk hl425_12
                clear hi425_12 hl425_12
                have HR425_13 := Aside0.mk hi425_13
                have HC425_13 := Aside0.mk hl425_13
                clear hi425_13 hl425_13
                replace p425 := eq_true p425
                replace q425 := eq_true q425
                have p426 : 0 ≤ (x5_1 : Int) := of_decide_eq_true (by first | (with_reducible assumption) | assumption)
                have q426 : x5_1 < (l1.length : Int) := of_decide_eq_true (by first | (with_reducible assumption) | assumption)
                obtain ⟨ad426, A426_10, c426_10, A426_11, c426_11, A426_12, c426_12, A426_13, c426_13, e426, hx426_0, hx426_1, hx426_2, hx426_3, hx426_4, hx426_5, hx426_6, hx426_7, hx426_8, hx426_9, hx426_10, hx426_11, hx426_12, hx426_13, hl426_10, hi426_10, hl426_11, hi426_11, hl426_12, hi426_12, hl426_13, hi426_13⟩ := at_T29 HR1.out x5_1 p426 q426
                have hw426_13 := hx426_13
                have hw426_12 := hx426_12
                have hw426_11 := hx426_11
                have hw426_10 := hx426_10
                have hw426_9 := hx426_9
                have hw426_8 := hx426_8
                have hw426_7 := hx426_7
                have hw426_6 := hx426_6
                have hw426_5 := hx426_5
                have hw426_4 := hx426_4
                have hw426_3 := hx426_3
                have hw426_2 := hx426_2
                have hw426_1 := hx426_1
                have hw426_0 := hx426_0
                cases e426
                replace hx426_0 := (HB.out.cell (World.block_lt_of_cell? w _ hx426_0)).trans hx426_0
                replace hx426_1 := (HB.out.cell (World.block_lt_of_cell? w _ hx426_1)).trans hx426_1
                replace hx426_2 := (HB.out.cell (World.block_lt_of_cell? w _ hx426_2)).trans hx426_2
                replace hx426_3 := (HB.out.cell (World.block_lt_of_cell? w _ hx426_3)).trans hx426_3
                replace hx426_4 := (HB.out.cell (World.block_lt_of_cell? w _ hx426_4)).trans hx426_4
                replace hx426_5 := (HB.out.cell (World.block_lt_of_cell? w _ hx426_5)).trans hx426_5
                replace hx426_6 := (HB.out.cell (World.block_lt_of_cell? w _ hx426_6)).trans hx426_6
                replace hx426_7 := (HB.out.cell (World.block_lt_of_cell? w _ hx426_7)).trans hx426_7
                replace hx426_8 := (HB.out.cell (World.block_lt_of_cell? w _ hx426_8)).trans hx426_8
                replace hx426_9 := (HB.out.cell (World.block_lt_of_cell? w _ hx426_9)).trans hx426_9
                replace hx426_10 := (HB.out.cell (World.block_lt_of_cell? w _ hx426_10)).trans hx426_10
                replace hx426_11 := (HB.out.cell (World.block_lt_of_cell? w _ hx426_11)).trans hx426_11
                replace hx426_12 := (HB.out.cell (World.block_lt_of_cell? w _ hx426_12)).trans hx426_12
                replace hx426_13 := (HB.out.cell (World.block_lt_of_cell? w _ hx426_13)).trans hx426_13
                have HR426_10 := Aside0.mk hi426_10
                have HC426_10 := Aside0.mk hl426_10
                clear hi426_10 hl426_10
                have HR426_11 := Aside0.mk hi426_11
                have HC426_11 := Aside0.mk hl426_11
                clear hi426_11 hl426_11
                have HR426_12 := Aside0.mk hi426_12
                have HC426_12 := Aside0.mk hl426_12
                clear hi426_12 hl426_12
                have HR426_13 := Aside0.mk hi426_13
                have HC426_13 := Aside0.mk hl426_13
                clear hi426_13 hl426_13
                replace p426 := eq_true p426
                replace q426 := eq_true q426
                refine start_ (n := 10) (S := fun w' => w'.cell? (ad425.add ((x5_1).toNat * 14)) = some (.int .u8 ((rd_T29 l0 x5_1).f0)) ∧ w'.cell? ⟨(ad425.add ((x5_1).toNat * 14)).block, (ad425.add ((x5_1).toNat * 14)).off + 1, none⟩ = some (.int .u8 ((rd_T29 l0 x5_1).f1)) ∧ w'.cell? ⟨(ad425.add ((x5_1).toNat * 14)).block, (ad425.add ((x5_1).toNat * 14)).off + 2, none⟩ = some (.int .u32 ((rd_T29 l0 x5_1).f2)) ∧ w'.cell? ⟨(ad425.add ((x5_1).toNat * 14)).block, (ad425.add ((x5_1).toNat * 14)).off + 3, none⟩ = some (.int .u16 ((rd_T29 l0 x5_1).f3)) ∧ w'.cell? ⟨(ad425.add ((x5_1).toNat * 14)).block, (ad425.add ((x5_1).toNat * 14)).off + 4, none⟩ = some (.int .u16 ((rd_T29 l0 x5_1).f4)) ∧ w'.cell? ⟨(ad425.add ((x5_1).toNat * 14)).block, (ad425.add ((x5_1).toNat * 14)).off + 5, none⟩ = some (.int .u32 ((rd_T29 l0 x5_1).f5)) ∧ w'.cell? ⟨(ad425.add ((x5_1).toNat * 14)).block, (ad425.add ((x5_1).toNat * 14)).off + 6, none⟩ = some (.int .u32 ((rd_T29 l0 x5_1).f6)) ∧ w'.cell? ⟨(ad425.add ((x5_1).toNat * 14)).block, (ad425.add ((x5_1).toNat * 14)).off + 7, none⟩ = some (.int .u32 ((rd_T29 l0 x5_1).f7)) ∧ w'.cell? ⟨(ad425.add ((x5_1).toNat * 14)).block, (ad425.add ((x5_1).toNat * 14)).off + 8, none⟩ = some (.int .u16 ((rd_T29 l0 x5_1).f8)) ∧ w'.cell? ⟨(ad425.add ((x5_1).toNat * 14)).block, (ad425.add ((x5_1).toNat * 14)).off + 9, none⟩ = some (.int .u16 ((rd_T29 l0 x5_1).f9)) ∧ w'.cell? ⟨(ad425.add ((x5_1).toNat * 14)).block, (ad425.add ((x5_1).toNat * 14)).off + 10, none⟩ = some (.slice A425_10 ((rd_T29 l0 x5_1).f10).length c425_10) ∧ w'.cell? ⟨(ad425.add ((x5_1).toNat * 14)).block, (ad425.add ((x5_1).toNat * 14)).off + 11, none⟩ = some (.slice A425_11 ((rd_T29 l0 x5_1).f11).length c425_11) ∧ w'.cell? ⟨(ad425.add ((x5_1).toNat * 14)).block, (ad425.add ((x5_1).toNat * 14)).off + 12, none⟩ = some (.slice A425_12 ((rd_T29 l0 x5_1).f12).length c425_12) ∧ w'.cell? ⟨(ad425.add ((x5_1).toNat * 14)).block, (ad425.add ((x5_1).toNat * 14)).off + 13, none⟩ = some (.slice A425_13 ((rd_T29 l0 x5_1).f13).length c425_13) ∧ w'.cell? (ad426.add ((x5_1).toNat * 14)) = some (.int .u8 ((rd_T29 l1 x5_1).f0)) ∧ w'.cell? ⟨(ad426.add ((x5_1).toNat * 14)).block, (ad426.add ((x5_1).toNat * 14)).off + 1, none⟩ = some (.int .u8 ((rd_T29 l1 x5_1).f1)) ∧ w'.cell? ⟨(ad426.add ((x5_1).toNat * 14)).block, (ad426.add ((x5_1).toNat * 14)).off + 2, none⟩ = some (.int .u32 ((rd_T29 l1 x5_1).f2)) ∧ w'.cell? ⟨(ad426.add ((x5_1).toNat * 14)).block, (ad426.add ((x5_1).toNat * 14)).off + 3, none⟩ = some (.int .u16 ((rd_T29 l1 x5_1).f3)) ∧ w'.cell? ⟨(ad426.add ((x5_1).toNat * 14)).block, (ad426.add ((x5_1).toNat * 14)).off + 4, none⟩ = some (.int .u16 ((rd_T29 l1 x5_1).f4)) ∧ w'.cell? ⟨(ad426.add ((x5_1).toNat * 14)).block, (ad426.add ((x5_1).toNat * 14)).off + 5, none⟩ = some (.int .u32 ((rd_T29 l1 x5_1).f5)) ∧ w'.cell? ⟨(ad426.add ((x5_1).toNat * 14)).block, (ad426.add ((x5_1).toNat * 14)).off + 6, none⟩ = some (.int .u32 ((rd_T29 l1 x5_1).f6)) ∧ w'.cell? ⟨(ad426.add ((x5_1).toNat * 14)).block, (ad426.add ((x5_1).toNat * 14)).off + 7, none⟩ = some (.int .u32 ((rd_T29 l1 x5_1).f7)) ∧ w'.cell? ⟨(ad426.add ((x5_1).toNat * 14)).block, (ad426.add ((x5_1).toNat * 14)).off + 8, none⟩ = some (.int .u16 ((rd_T29 l1 x5_1).f8)) ∧ w'.cell? ⟨(ad426.add ((x5_1).toNat * 14)).block, (ad426.add ((x5_1).toNat * 14)).off + 9, none⟩ = some (.int .u16 ((rd_T29 l1 x5_1).f9)) ∧ w'.cell? ⟨(ad426.add ((x5_1).toNat * 14)).block, (ad426.add ((x5_1).toNat * 14)).off + 10, none⟩ = some (.slice A426_10 ((rd_T29 l1 x5_1).f10).length c426_10) ∧ w'.cell? ⟨(ad426.add ((x5_1).toNat * 14)).block, (ad426.add ((x5_1).toNat * 14)).off + 11, none⟩ = some (.slice A426_11 ((rd_T29 l1 x5_1).f11).length c426_11) ∧ w'.cell? ⟨(ad426.add ((x5_1).toNat * 14)).block, (ad426.add ((x5_1).toNat * 14)).off + 12, none⟩ = some (.slice A426_12 ((rd_T29 l1 x5_1).f12).length c426_12) ∧ w'.cell? ⟨(ad426.add ((x5_1).toNat * 14)).block, (ad426.add ((x5_1).toNat * 14)).off + 13, none⟩ = some (.slice A426_13 ((rd_T29 l1 x5_1).f13).length c426_13)) (ds := []) #[false, false, false, false, false, false, false, false, false, false] (by kernel_rfl) rfl rfl ⟨((HB.out.cell (World.block_lt_of_cell? w _ hw425_0)).trans hw425_0), ((HB.out.cell (World.block_lt_of_cell? w _ hw425_1)).trans hw425_1), ((HB.out.cell (World.block_lt_of_cell? w _ hw425_2)).trans hw425_2), ((HB.out.cell (World.block_lt_of_cell? w _ hw425_3)).trans hw425_3), ((HB.out.cell (World.block_lt_of_cell? w _ hw425_4)).trans hw425_4), ((HB.out.cell (World.block_lt_of_cell? w _ hw425_5)).trans hw425_5), ((HB.out.cell (World.block_lt_of_cell? w _ hw425_6)).trans hw425_6), ((HB.out.cell (World.block_lt_of_cell? w _ hw425_7)).trans hw425_7), ((HB.out.cell (World.block_lt_of_cell? w _ hw425_8)).trans hw425_8), ((HB.out.cell (World.block_lt_of_cell? w _ hw425_9)).trans hw425_9), ((HB.out.cell (World.block_lt_of_cell? w _ hw425_10)).trans hw425_10), ((HB.out.cell (World.block_lt_of_cell? w _ hw425_11)).trans hw425_11), ((HB.out.cell (World.block_lt_of_cell? w _ hw425_12)).trans hw425_12), ((HB.out.cell (World.block_lt_of_cell? w _ hw425_13)).trans hw425_13), ((HB.out.cell (World.block_lt_of_cell? w _ hw426_0)).trans hw426_0), ((HB.out.cell (World.block_lt_of_cell? w _ hw426_1)).trans hw426_1), ((HB.out.cell (World.block_lt_of_cell? w _ hw426_2)).trans hw426_2), ((HB.out.cell (World.block_lt_of_cell? w _ hw426_3)).trans hw426_3), ((HB.out.cell (World.block_lt_of_cell? w _ hw426_4)).trans hw426_4), ((HB.out.cell (World.block_lt_of_cell? w _ hw426_5)).trans hw426_5), ((HB.out.cell (World.block_lt_of_cell? w _ hw426_6)).trans hw426_6), ((HB.out.cell (World.block_lt_of_cell? w _ hw426_7)).trans hw426_7), ((HB.out.cell (World.block_lt_of_cell? w _ hw426_8)).trans hw426_8), ((HB.out.cell (World.block_lt_of_cell? w _ hw426_9)).trans hw426_9), ((HB.out.cell (World.block_lt_of_cell? w _ hw426_10)).trans hw426_10), ((HB.out.cell (World.block_lt_of_cell? w _ hw426_11)).trans hw426_11), ((HB.out.cell (World.block_lt_of_cell? w _ hw426_12)).trans hw426_12), ((HB.out.cell (World.block_lt_of_cell? w _ hw426_13)).trans hw426_13)⟩ (fun hHeld => ?_); refine with_tabW trunklineref12_SameAll.tab6 trunklineref12_SameAll.bits6 (fun HT_ HW_ => ?_)
                generalize wr.drew = w9 at HB HR425_10 HR425_11 HR425_12 HR425_13 HR426_10 HR426_11 HR426_12 HR426_13 hx425_0 hx425_1 hx425_10 hx425_11 hx425_12 hx425_13 hx425_2 hx425_3 hx425_4 hx425_5 hx425_6 hx425_7 hx425_8 hx425_9 hx426_0 hx426_1 hx426_10 hx426_11 hx426_12 hx426_13 hx426_2 hx426_3 hx426_4 hx426_5 hx426_6 hx426_7 hx426_8 hx426_9 hHeld ⊢
                refine pure_ (i := 0) (N := some 17) (v := ?_) (a' := ?_) #[true, false, false, false, false, false, false, false, false, false] rfl rfl (any_of HT_.out (by kernel_rfl)) (fun _ _ _ h => h) (Or.inl ⟨by rfl, ?_⟩) ?_ ?_
                rotate_left
                · intro w'
                  go_simp
                  with_reducible rfl
                rotate_left
                · simp only [Act.put, List.setIfInBounds_toArray, List.set_cons_zero, List.set_cons_succ, i64_w, i32_w]
                  rfl
                refine pure_ (i := 1) (N := some 18) (v := ?_) (a' := ?_) #[true, true, false, false, false, false, false, false, false, false] rfl rfl (any_of HT_.out (by kernel_rfl)) (fun _ _ _ h => h) (Or.inl ⟨by rfl, ?_⟩) ?_ ?_
                rotate_left
                · intro w'
                  go_simp
                  with_reducible rfl
                rotate_left
                · simp only [Act.put, List.setIfInBounds_toArray, List.set_cons_zero, List.set_cons_succ, i64_w, i32_w]
                  rfl
                refine pure_ (i := 2) (N := some 19) (v := ?_) (a' := ?_) #[true, true, true, false, false, false, false, false, false, false] rfl rfl (any_of HT_.out (by kernel_rfl)) (fun _ _ _ h => h) (Or.inl ⟨by rfl, ?_⟩) ?_ ?_
                rotate_left
                · intro w'
                  go_simp
                  with_reducible rfl
                rotate_left
                · simp only [Act.put, List.setIfInBounds_toArray, List.set_cons_zero, List.set_cons_succ, i64_w, i32_w]
                  rfl
                refine pure_ (i := 4) (N := some 21) (v := ?_) (a' := ?_) #[true, true, true, false, true, false, false, false, false, false] rfl rfl (any_of HT_.out (by kernel_rfl)) (fun _ _ _ h => h) (Or.inl ⟨by rfl, ?_⟩) ?_ ?_
                rotate_left
                · intro w'
                  go_simp
                  with_reducible rfl
                rotate_left
                · simp only [Act.put, List.setIfInBounds_toArray, List.set_cons_zero, List.set_cons_succ, i64_w, i32_w]
                  rfl
                refine pure_ (i := 5) (N := some 22) (v := ?_) (a' := ?_) #[true, true, true, false, true, true, false, false, false, false] rfl rfl (any_of HT_.out (by kernel_rfl)) (fun _ _ _ h => h) (Or.inl ⟨by rfl, ?_⟩) ?_ ?_
                rotate_left
                · intro w'
                  go_simp
                  with_reducible rfl
                rotate_left
                · simp only [Act.put, List.setIfInBounds_toArray, List.set_cons_zero, List.set_cons_succ, i64_w, i32_w]
                  rfl
                refine pure_ (i := 6) (N := some 23) (v := ?_) (a' := ?_) #[true, true, true, false, true, true, true, false, false, false] rfl rfl (any_of HT_.out (by kernel_rfl)) (fun _ _ _ h => h) (Or.inl ⟨by rfl, ?_⟩) ?_ ?_
                rotate_left
                · intro w'
                  go_simp
                  with_reducible rfl
                rotate_left
                · simp only [Act.put, List.setIfInBounds_toArray, List.set_cons_zero, List.set_cons_succ, i64_w, i32_w]
                  rfl
                refine take_ (i := 3) (N := some 20) (v := ?_) (a' := ?_) #[true, true, true, true, true, true, true, false, false, false] rfl rfl (take_ofW HT_.out HW_.out (by kernel_rfl)) (fun _ _ _ h => h) (Or.inl ⟨by rfl, ?_⟩) hHeld ?_ ?_
                rotate_left
                · rintro w' ⟨s0, s1, s2, s3, s4, s5, s6, s7, s8, s9, s10, s11, s12, s13, s14, s15, s16, s17, s18, s19, s20, s21, s22, s23, s24, s25, s26, s27⟩
                  go_simp
                  with_reducible rfl
                rotate_left
                · simp only [Act.put, List.setIfInBounds_toArray, List.set_cons_zero, List.set_cons_succ, i64_w, i32_w]
                  rfl
                refine take_ (i := 7) (N := some 24) (v := ?_) (a' := ?_) #[true, true, true, true, true, true, true, true, false, false] rfl rfl (take_ofW HT_.out HW_.out (by kernel_rfl)) (fun _ _ _ h => h) (Or.inl ⟨by rfl, ?_⟩) hHeld ?_ ?_
                rotate_left
                · rintro w' ⟨s0, s1, s2, s3, s4, s5, s6, s7, s8, s9, s10, s11, s12, s13, s14, s15, s16, s17, s18, s19, s20, s21, s22, s23, s24, s25, s26, s27⟩
                  go_simp
                  with_reducible rfl
                rotate_left
                · simp only [Act.put, List.setIfInBounds_toArray, List.set_cons_zero, List.set_cons_succ, i64_w, i32_w]
                  rfl
                refine one_ (i := 8) (N := some 25) #[true, true, true, true, true, true, true, true, true, false] rfl rfl (one_of HT_.out (by kernel_rfl)) (by decide) (fun K hK => ?_)
                refine goes_ Try.func44 (by kernel_rfl) rfl #[.agg #[.int .u8 ((rd_T29 l0 x5_1).f0), .int .u8 ((rd_T29 l0 x5_1).f1), .int .u32 ((rd_T29 l0 x5_1).f2), .int .u16 ((rd_T29 l0 x5_1).f3), .int .u16 ((rd_T29 l0 x5_1).f4), .int .u32 ((rd_T29 l0 x5_1).f5), .int .u32 ((rd_T29 l0 x5_1).f6), .int .u32 ((rd_T29 l0 x5_1).f7), .int .u16 ((rd_T29 l0 x5_1).f8), .int .u16 ((rd_T29 l0 x5_1).f9), .slice A425_10 ((rd_T29 l0 x5_1).f10).length c425_10, .slice A425_11 ((rd_T29 l0 x5_1).f11).length c425_11, .slice A425_12 ((rd_T29 l0 x5_1).f12).length c425_12, .slice A425_13 ((rd_T29 l0 x5_1).f13).length c425_13], .agg #[.int .u8 ((rd_T29 l1 x5_1).f0), .int .u8 ((rd_T29 l1 x5_1).f1), .int .u32 ((rd_T29 l1 x5_1).f2), .int .u16 ((rd_T29 l1 x5_1).f3), .int .u16 ((rd_T29 l1 x5_1).f4), .int .u32 ((rd_T29 l1 x5_1).f5), .int .u32 ((rd_T29 l1 x5_1).f6), .int .u32 ((rd_T29 l1 x5_1).f7), .int .u16 ((rd_T29 l1 x5_1).f8), .int .u16 ((rd_T29 l1 x5_1).f9), .slice A426_10 ((rd_T29 l1 x5_1).f10).length c426_10, .slice A426_11 ((rd_T29 l1 x5_1).f11).length c426_11, .slice A426_12 ((rd_T29 l1 x5_1).f12).length c426_12, .slice A426_13 ((rd_T29 l1 x5_1).f13).length c426_13]] (by rfl) rfl rfl (by (try simp only [List.map_toArray, List.map_cons, List.map_nil]); first | done | rfl | (simp only [List.length_drop, List.length_take]; rfl)) ?_
                with_reducible refine (trunklineref12_Same.calls k1 ((rd_T29 l0 x5_1).f0) ((rd_T29 l0 x5_1).f1) ((rd_T29 l0 x5_1).f2) ((rd_T29 l0 x5_1).f3) ((rd_T29 l0 x5_1).f4) ((rd_T29 l0 x5_1).f5) ((rd_T29 l0 x5_1).f6) ((rd_T29 l0 x5_1).f7) ((rd_T29 l0 x5_1).f8) ((rd_T29 l0 x5_1).f9) _ _ ((rd_T29 l0 x5_1).f10) _ _ ((rd_T29 l0 x5_1).f11) _ _ ((rd_T29 l0 x5_1).f12) _ _ ((rd_T29 l0 x5_1).f13) ((rd_T29 l1 x5_1).f0) ((rd_T29 l1 x5_1).f1) ((rd_T29 l1 x5_1).f2) ((rd_T29 l1 x5_1).f3) ((rd_T29 l1 x5_1).f4) ((rd_T29 l1 x5_1).f5) ((rd_T29 l1 x5_1).f6) ((rd_T29 l1 x5_1).f7) ((rd_T29 l1 x5_1).f8) ((rd_T29 l1 x5_1).f9) _ _ ((rd_T29 l1 x5_1).f10) _ _ ((rd_T29 l1 x5_1).f11) _ _ ((rd_T29 l1 x5_1).f12) _ _ ((rd_T29 l1 x5_1).f13) true _ ?side1 ?side2 ?side3 ?side4 ?side5 ?side6 ?side7 ?side8 ?side9 ?side10 ?side11 ?side12 ?side13 ?side14 ?side15 ?side16 (by first | rfl | exact HRT.out) A7.out).mono ?_
                (case side1 => repeat (first | exact (Kd.C_below HR425_10.out HB.out) | (with_reducible refine Kd.C_alloc ?_ _) | (with_reducible refine Kd.C_drewN ?_ _) | (with_reducible refine Kd.C_drew ?_)))
                (case side2 => exact HC425_10.out)
                (case side3 => repeat (first | exact (Kd.C_below HR425_11.out HB.out) | (with_reducible refine Kd.C_alloc ?_ _) | (with_reducible refine Kd.C_drewN ?_ _) | (with_reducible refine Kd.C_drew ?_)))
                (case side4 => exact HC425_11.out)
                (case side5 => repeat (first | exact (Kd.C_below HR425_12.out HB.out) | (with_reducible refine Kd.C_alloc ?_ _) | (with_reducible refine Kd.C_drewN ?_ _) | (with_reducible refine Kd.C_drew ?_)))
                (case side6 => exact HC425_12.out)
                (case side7 => repeat (first | exact (Kd.C_below HR425_13.out HB.out) | (with_reducible refine Kd.C_alloc ?_ _) | (with_reducible refine Kd.C_drewN ?_ _) | (with_reducible refine Kd.C_drew ?_)))
                (case side8 => exact HC425_13.out)
                (case side9 => repeat (first | exact (Kd.C_below HR426_10.out HB.out) | (with_reducible refine Kd.C_alloc ?_ _) | (with_reducible refine Kd.C_drewN ?_ _) | (with_reducible refine Kd.C_drew ?_)))
                (case side10 => exact HC426_10.out)
                (case side11 => repeat (first | exact (Kd.C_below HR426_11.out HB.out) | (with_reducible refine Kd.C_alloc ?_ _) | (with_reducible refine Kd.C_drewN ?_ _) | (with_reducible refine Kd.C_drew ?_)))
                (case side12 => exact HC426_11.out)
                (case side13 => repeat (first | exact (Kd.C_below HR426_12.out HB.out) | (with_reducible refine Kd.C_alloc ?_ _) | (with_reducible refine Kd.C_drewN ?_ _) | (with_reducible refine Kd.C_drew ?_)))
                (case side14 => exact HC426_12.out)
                (case side15 => repeat (first | exact (Kd.C_below HR426_13.out HB.out) | (with_reducible refine Kd.C_alloc ?_ _) | (with_reducible refine Kd.C_drewN ?_ _) | (with_reducible refine Kd.C_drew ?_)))
                (case side16 => exact HC426_13.out)
                rintro e w10 ⟨rfl, hb⟩
                refine ⟨_, rfl, ?_⟩
                have n0_ := Aside0.mk (below_step (by repeat (first | (with_reducible first | exact HB.out | apply below_alloc | apply pw_below_drewN | apply below_drew1) | exact HB.out)) hb)
                clear HB
                have HB := n0_
                clear n0_
                (try clear hb)
                (try clear hb2)
                (try clear hk)
                (try clear hi)
                refine hK.out _ _ ⟨((HB.out.cell (World.block_lt_of_cell? w _ hw425_0)).trans hw425_0), ((HB.out.cell (World.block_lt_of_cell? w _ hw425_1)).trans hw425_1), ((HB.out.cell (World.block_lt_of_cell? w _ hw425_2)).trans hw425_2), ((HB.out.cell (World.block_lt_of_cell? w _ hw425_3)).trans hw425_3), ((HB.out.cell (World.block_lt_of_cell? w _ hw425_4)).trans hw425_4), ((HB.out.cell (World.block_lt_of_cell? w _ hw425_5)).trans hw425_5), ((HB.out.cell (World.block_lt_of_cell? w _ hw425_6)).trans hw425_6), ((HB.out.cell (World.block_lt_of_cell? w _ hw425_7)).trans hw425_7), ((HB.out.cell (World.block_lt_of_cell? w _ hw425_8)).trans hw425_8), ((HB.out.cell (World.block_lt_of_cell? w _ hw425_9)).trans hw425_9), ((HB.out.cell (World.block_lt_of_cell? w _ hw425_10)).trans hw425_10), ((HB.out.cell (World.block_lt_of_cell? w _ hw425_11)).trans hw425_11), ((HB.out.cell (World.block_lt_of_cell? w _ hw425_12)).trans hw425_12), ((HB.out.cell (World.block_lt_of_cell? w _ hw425_13)).trans hw425_13), ((HB.out.cell (World.block_lt_of_cell? w _ hw426_0)).trans hw426_0), ((HB.out.cell (World.block_lt_of_cell? w _ hw426_1)).trans hw426_1), ((HB.out.cell (World.block_lt_of_cell? w _ hw426_2)).trans hw426_2), ((HB.out.cell (World.block_lt_of_cell? w _ hw426_3)).trans hw426_3), ((HB.out.cell (World.block_lt_of_cell? w _ hw426_4)).trans hw426_4), ((HB.out.cell (World.block_lt_of_cell? w _ hw426_5)).trans hw426_5), ((HB.out.cell (World.block_lt_of_cell? w _ hw426_6)).trans hw426_6), ((HB.out.cell (World.block_lt_of_cell? w _ hw426_7)).trans hw426_7), ((HB.out.cell (World.block_lt_of_cell? w _ hw426_8)).trans hw426_8), ((HB.out.cell (World.block_lt_of_cell? w _ hw426_9)).trans hw426_9), ((HB.out.cell (World.block_lt_of_cell? w _ hw426_10)).trans hw426_10), ((HB.out.cell (World.block_lt_of_cell? w _ hw426_11)).trans hw426_11), ((HB.out.cell (World.block_lt_of_cell? w _ hw426_12)).trans hw426_12), ((HB.out.cell (World.block_lt_of_cell? w _ hw426_13)).trans hw426_13)⟩ (fun hHeld => ?_)
                clear hK K
                refine norm_ (a' := ?_) ?_ ?_
                rotate_left
                · show Act.put _ (some 25) _ = _
                  simp only [Act.put, List.setIfInBounds_toArray, List.set_cons_zero, List.set_cons_succ, i64_w, i32_w]
                  rfl
                refine pure_ (i := 9) (N := some 26) (v := ?_) (a' := ?_) #[true, true, true, true, true, true, true, true, true, true] rfl rfl (any_of HT_.out (by kernel_rfl)) (fun _ _ _ h => h) (Or.inl ⟨by rfl, ?_⟩) ?_ ?_
                rotate_left
                · intro w'
                  go_simp
                  with_reducible rfl
                rotate_left
                · simp only [Act.put, List.setIfInBounds_toArray, List.set_cons_zero, List.set_cons_succ, i64_w, i32_w]
                  rfl
                refine done_ (done_of HT_.out (by kernel_rfl)) ?_
                try go_wp2
                go_roundg k1
                case measure => have := HK1.out; omega
                case rel => exact ⟨(wrap64 (x5_1 + 1)), (by first | rfl | (simp; done) | (simp [*]; done)), H', ⟨by have := HK1.out; omega⟩, ⟨by repeat (first | (with_reducible first | exact HB.out | apply below_alloc | apply pw_below_drewN | apply below_drew1) | exact HB.out)⟩⟩
              · replace c8 := Bool.eq_false_iff.mpr c8
                subst c8
                have H1 : (some false) = some r := by rw [if_neg (show ¬ (false = true) by decide)] at H; exact H
                clear H
                have H := H1
                clear H1
                rw [HRT.out] at H
                exact absurd H (by simp)
            · rw [if_neg c6] at H
              exact absurd H (by simp)
          · rw [if_neg c5] at H
            exact absurd H (by simp)
        · rw [if_neg c4] at H
          have c4b0 : decide (x5_1 < (l0.length : Int)) = false := decide_eq_false c4
          clear c4
          obtain rfl := Option.some.inj H
          go_wp2
          go_ret
          exact ⟨by first | rfl | (simp [errW_none, errW_some] <;> rfl) | (simp [*, errW_none, errW_some] <;> rfl), by repeat (first | (with_reducible first | exact HB.out | apply below_alloc | apply pw_below_drewN | apply below_drew1) | exact HB.out)⟩
  · rw [if_neg c3] at H
    have c3b0 : ((l0.length : Int) == (l1.length : Int)) = false := beq_eq_false_iff_ne.mpr c3
    have c3b1 : ((l0.length : Int) != (l1.length : Int)) = true := bne_iff_ne.mpr c3
    have c3b2 : (l0.length == l1.length) = false := by first | simpa using c3 | (simp at c3 ⊢; omega)
    rw [HRT.out] at H
    exact absurd H (by simp)

end Go.Proofs.Ytaahkggbjpdofaa.M
end
