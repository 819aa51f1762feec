-- Printed by this session's mp.py over the kit's print (turned in memory). Not trusted: Lean checks it.
import Derived.Test.YtaahkggbjpdofaaM0
import Derived.Test.YtaahkggbjpdofaaM10
import Derived.Test.YtaahkggbjpdofaaM9
import Derived.Test.YtaahkggbjpdofaaM15
import Derived.Test.YtaahkggbjpdofaaHSame
import Derived.Test.YtaahkggbjpdofaaHCatch
namespace Go.Proofs.Ytaahkggbjpdofaa.M
open Go.RowKit Go.Proofs.YtaahkggbjpdofaaW.PrintWords Go.Proofs.YtaahkggbjpdofaaW.PrintLast Go.Proofs.YtaahkggbjpdofaaW.PrintMore
attribute [local go_sem] max2_int min2_int max_two min_two max_three min_three max_four min_four   -- for this text's walks alone
set_option linter.unusedVariables false
set_option linter.unusedSimpArgs false

attribute [local go_sem high] eqA36
/-! ### trunklinelaw12_ChunkBack: function 6 -/
def trunklinelaw12_ChunkBack.l0 : Nat → List (S29) → List Int → List (S29) → Int → Int → Int → Int → Int → Int → Int → Int → Int → Option (Bool)
  | 0, _, _, _, _, _, _, _, _, _, _, _, _ => none
  | k + 1, x1, x5, x8, x9, x10, x11, x447000, x447001, x447002, x460000, x460001, x460002 => if x11 < (x1.length : Int) then (if 0 ≤ x11 then ((chunk_Size.f k ((rd_T29 x1 x11).f0) ((rd_T29 x1 x11).f1) ((rd_T29 x1 x11).f2) ((rd_T29 x1 x11).f3) ((rd_T29 x1 x11).f4) ((rd_T29 x1 x11).f5) ((rd_T29 x1 x11).f6) ((rd_T29 x1 x11).f7) ((rd_T29 x1 x11).f8) ((rd_T29 x1 x11).f9) ((rd_T29 x1 x11).f10) ((rd_T29 x1 x11).f11) ((rd_T29 x1 x11).f12) ((rd_T29 x1 x11).f13)).bind fun t461 => (trunklinelaw12_ChunkBack.l0 k x1 x5 x8 x9 (wrap64 (x10 + t461)) (wrap64 (x11 + 1)) x447000 x447001 x447002 x460000 x460001 x460002)) else (none)) else ((trunklinelaw12_live.f k).bind fun t462 => (if t462 = true then (if x9 = 0 then (if (x460000 == x447000 && (x460001 == x447001 && (x460002 == x447002))) = true then ((trunklineref12_SameAll.f k x1 x8).bind fun t463 => (if t463 = true then (if (x5.length : Int) = x10 then (some ((Int.tmod x10 4) == 0)) else (some false)) else (some false))) else (some false)) else (some false)) else (some false)))
def trunklinelaw12_ChunkBack.f (k : Nat) (a0_0 : Int) (a0_1 : Int) (a0_2 : Int) (l1 : List (S29)) : Option (Bool) := (chunk_Put.f k a0_0 a0_1 a0_2 l1).bind fun bt447 => (if bt447.2 = 0 then ((chunk_Take.f k bt447.1).bind fun bt452 => (trunklinelaw12_ChunkBack.l0 k l1 bt447.1 bt452.2.2.2.1 bt452.2.2.2.2 12 0 a0_0 a0_1 a0_2 bt452.1 bt452.2.1 bt452.2.2.1)) else ((trunklinelaw12_live.f k).bind fun t451 => (if t451 = true then (some ((bt447.1.length : Int) == 0)) else (some false))))
theorem trunklinelaw12_ChunkBack.mono_l : ∀ k, (∀ y0 y1 y2 y3 y4 y5 y6 y7 y8 y9 y10 y11, LeO (trunklinelaw12_ChunkBack.l0 k y0 y1 y2 y3 y4 y5 y6 y7 y8 y9 y10 y11) (trunklinelaw12_ChunkBack.l0 (k + 1) y0 y1 y2 y3 y4 y5 y6 y7 y8 y9 y10 y11))
  | 0 => fun _ _ _ _ _ _ _ _ _ _ _ _ r h => by simp [trunklinelaw12_ChunkBack.l0] at h
  | k + 1 => by
    have ih0 := trunklinelaw12_ChunkBack.mono_l k
    · intro y0 y1 y2 y3 y4 y5 y6 y7 y8 y9 y10 y11
      unfold trunklinelaw12_ChunkBack.l0
      repeat' first
      | (with_reducible exact ih0 _ _ _ _ _ _ _ _ _ _ _ _)
      | (with_reducible exact chunk_Put.mono _ _ _ _ _)
      | (with_reducible exact chunk_Size.mono _ _ _ _ _ _ _ _ _ _ _ _ _ _ _)
      | (with_reducible exact chunk_Take.mono _ _)
      | (with_reducible exact trunklinelaw12_live.mono _)
      | (with_reducible exact trunklineref12_SameAll.mono _ _ _)
      | (with_reducible exact LeO.refl _)
      | (with_reducible exact LeO.none _)
      | (with_reducible refine LeO.ite ?_ ?_)
      | (with_reducible refine LeO.bind ?_ (fun _ => ?_))
      | exact ih0 _ _ _ _ _ _ _ _ _ _ _ _
      | exact chunk_Put.mono _ _ _ _ _
      | exact chunk_Size.mono _ _ _ _ _ _ _ _ _ _ _ _ _ _ _
      | exact chunk_Take.mono _ _
      | exact trunklinelaw12_live.mono _
      | exact trunklineref12_SameAll.mono _ _ _
      | exact LeO.none _
      | refine LeO.ite ?_ ?_
      | refine LeO.bind ?_ (fun _ => ?_)
theorem trunklinelaw12_ChunkBack.mono : ∀ a0 a1 a2 a3 k, LeO (trunklinelaw12_ChunkBack.f k a0 a1 a2 a3) (trunklinelaw12_ChunkBack.f (k + 1) a0 a1 a2 a3) := by
  intro a0 a1 a2 a3 k
  have ih0 := trunklinelaw12_ChunkBack.mono_l k
  unfold trunklinelaw12_ChunkBack.f
  repeat' first
      | (with_reducible exact ih0 _ _ _ _ _ _ _ _ _ _ _ _)
      | (with_reducible exact chunk_Put.mono _ _ _ _ _)
      | (with_reducible exact chunk_Size.mono _ _ _ _ _ _ _ _ _ _ _ _ _ _ _)
      | (with_reducible exact chunk_Take.mono _ _)
      | (with_reducible exact trunklinelaw12_live.mono _)
      | (with_reducible exact trunklineref12_SameAll.mono _ _ _)
      | (with_reducible exact LeO.refl _)
      | (with_reducible exact LeO.none _)
      | (with_reducible refine LeO.ite ?_ ?_)
      | (with_reducible refine LeO.bind ?_ (fun _ => ?_))
      | exact ih0 _ _ _ _ _ _ _ _ _ _ _ _
      | exact chunk_Put.mono _ _ _ _ _
      | exact chunk_Size.mono _ _ _ _ _ _ _ _ _ _ _ _ _ _ _
      | exact chunk_Take.mono _ _
      | exact trunklinelaw12_live.mono _
      | exact trunklineref12_SameAll.mono _ _ _
      | exact LeO.none _
      | refine LeO.ite ?_ ?_
      | refine LeO.bind ?_ (fun _ => ?_)
set_option maxHeartbeats 8000000 in
set_option maxRecDepth 100000 in
theorem trunklinelaw12_ChunkBack.calls (k : Nat) (a0_0 : Int) (a0_1 : Int) (a0_2 : Int) (A1 : Option Addr) (c1 : Nat) (l1 : List (S29)) (r : Bool) (w : World) (hr1 : Kd.C k29 w A1 l1.length l1) (hc1 : l1.length ≤ c1) (hr_ : r = true) (h : trunklinelaw12_ChunkBack.f k a0_0 a0_1 a0_2 l1 = some r) :
    Calls Try.prog 6 #[.agg #[.int .u16 a0_0, .int .u16 a0_1, .int .u32 a0_2], .slice A1 l1.length c1] w fun e w' => e = .returned (.bool r) ∧ Below w.heap.size w w' := by
  have HRT := Aside0.mk hr_
  clear hr_
  have hu36 := Try.underlying36
  have hu29 := Try.underlying29
  have HR1 := Aside0.mk hr1
  have HC1 := Aside0.mk hc1
  clear hr1 hc1
  have HB := Aside0.mk (Below.refl w.heap.size w)
  have H : ((chunk_Put.f k a0_0 a0_1 a0_2 l1).bind fun bt447 => (if bt447.2 = 0 then ((chunk_Take.f k bt447.1).bind fun bt452 => (trunklinelaw12_ChunkBack.l0 k l1 bt447.1 bt452.2.2.2.1 bt452.2.2.2.2 12 0 a0_0 a0_1 a0_2 bt452.1 bt452.2.1 bt452.2.2.1)) else ((trunklinelaw12_live.f k).bind fun t451 => (if t451 = true then (some ((bt447.1.length : Int) == 0)) else (some false))))) = some r := h
  clear h
  replace H := Option.bind_eq_some_iff.mp H
  obtain ⟨⟨t447, t450⟩, A30, H⟩ := H
  replace H : (if t450 = 0 then ((chunk_Take.f k t447).bind fun bt452 => (trunklinelaw12_ChunkBack.l0 k l1 t447 bt452.2.2.2.1 bt452.2.2.2.2 12 0 a0_0 a0_1 a0_2 bt452.1 bt452.2.1 bt452.2.2.1)) else ((trunklinelaw12_live.f k).bind fun t451 => (if t451 = true then (some ((t447.length : Int) == 0)) else (some false)))) = some r := H
  have A3 := Aside0.mk A30
  clear A30
  by_cases c4 : t450 = 0
  · rw [if_pos c4] at H
    have c4b0 : (t450 == 0) = true := beq_iff_eq.mpr c4
    have c4b1 : (t450 != 0) = false := bne_eq_false_iff_eq.mpr c4
    clear c4
    replace H := Option.bind_eq_some_iff.mp H
    obtain ⟨⟨t452, t453, t454, t455, t458⟩, A50, H⟩ := H
    replace H : (trunklinelaw12_ChunkBack.l0 k l1 t447 t455 t458 12 0 a0_0 a0_1 a0_2 t452 t453 t454) = some r := H
    have A5 := Aside0.mk A50
    clear A50
    have H' := Aside0.mk H
    clear H
    go_enter Try.func6, Try.ntmps6
    go_wp2_with (first | ((with_reducible refine gate_dst (N := 2) rfl ?_); (try (refine gate_guard (by rfl) ?_; dsimp only)); refine box_event ?hg (N := 2) ?hd (cs := #[.int .u16 a0_0, .int .u16 a0_1, .int .u32 a0_2]) (t := 36) ?hr ?_; (case hd => rfl); (case hg => rfl); (case hr => first | (go_simp; done) | (go_simp; rfl)); intro gb446 hg w6 hbox hb; have n0_ := Aside0.mk (below_step (by repeat (first | (with_reducible first | exact HB.out | apply below_alloc | apply pw_below_drewN | apply below_drew1) | exact HB.out)) hb); have n1_ := Aside0.mk (hbox); have n2_ := Aside0.mk ((by rw [hg]; exact (below_size (by repeat (first | (with_reducible first | exact HB.out | apply below_alloc | apply pw_below_drewN | apply below_drew1) | exact HB.out))) : w.heap.size ≤ gb446)); have n3_ := Aside0.mk ((by rw [hg]; exact (below_size (by repeat (first | (with_reducible first | exact HB.out | apply below_alloc | apply pw_below_drewN | apply below_drew1) | exact HB.out))) : w.heap.size ≤ gb446)); clear HB; have HB := n0_; have BK446 := n1_; have GW446 := n2_; have GE446 := n3_; clear n0_ n1_ n2_ n3_; clear hb hbox hg; have hcz7_0 : w6.cell? ⟨gb446, 0, none⟩ = some (.int .u16 a0_0) := (blk_cell BK446.out 0).trans rfl; have hcz7_1 : w6.cell? ⟨gb446, 1, none⟩ = some (.int .u16 a0_1) := (blk_cell BK446.out 1).trans rfl; have hcz7_2 : w6.cell? ⟨gb446, 2, none⟩ = some (.int .u32 a0_2) := (blk_cell BK446.out 2).trans rfl; have hfz7_0 := blk_frozen BK446.out 0; have hfz7_1 := blk_frozen BK446.out 1; have hfz7_2 := blk_frozen BK446.out 2) | ((with_reducible refine gate_callee (f := 16) rfl ?_); refine goesL_ (some 15) rfl rfl Try.func16 (by kernel_rfl) rfl #[.agg #[.int .u16 a0_0, .int .u16 a0_1, .int .u32 a0_2], .slice A1 l1.length c1] rfl (by (try simp only [List.map_toArray, List.map_cons, List.map_nil]); first | done | rfl | (simp only [List.length_drop, List.length_take]; rfl)) ?_; (with_reducible refine (chunk_Put.calls k a0_0 a0_1 a0_2 _ _ l1 t447 t450 _ ?side1 ?side2 A3.out).mono ?_); (case side1 => repeat (first | exact (Kd.C_below HR1.out HB.out) | (with_reducible refine Kd.C_alloc ?_ _) | (with_reducible refine Kd.C_drewN ?_ _) | (with_reducible refine Kd.C_drew ?_))); (case side2 => exact HC1.out); rintro e w8 ⟨v448, rfl, ho0, hb⟩; refine ⟨_, rfl, ?_⟩; have n0_ := Aside0.mk (Kd.R_lower ho0 (below_size (by repeat (first | (with_reducible first | exact HB.out | apply below_alloc | apply pw_below_drewN | apply below_drew1 | refine below_set ?_ GE446.out) | exact HB.out)))); have n1_ := Aside0.mk (blk_below (g := gb446) (o := .cells #[.int .u16 a0_0, .int .u16 a0_1, .int .u32 a0_2] 36 (0, 0)) (by (with_reducible repeat (first | refine blk_drewN ?_ _ | refine blk_drew ?_ | refine blk_alloc ?_ _)); exact BK446.out) hb); have n2_ := Aside0.mk (below_step (by repeat (first | (with_reducible first | exact HB.out | apply below_alloc | apply pw_below_drewN | apply below_drew1 | refine below_set ?_ GE446.out) | exact HB.out)) hb); clear BK446; clear HB; have HO449 := n0_; have BK446 := n1_; have HB := n2_; clear n0_ n1_ n2_; (try clear hb); (try clear hb2); (try clear hk); (try clear hi); (try clear ho0); obtain ⟨Ao9, co9, eo9⟩ := Kd.R_slice HO449.out; subst eo9) | ((with_reducible refine gate_callee (f := 18) rfl ?_); refine goesL_ (some 28) rfl rfl Try.func18 (by kernel_rfl) rfl #[.slice Ao9 t447.length co9] rfl (by (try simp only [List.map_toArray, List.map_cons, List.map_nil]); first | done | rfl | (simp only [List.length_drop, List.length_take]; rfl)) ?_; (with_reducible refine (chunk_Take.calls k _ _ t447 t452 t453 t454 t455 t458 _ ?side1 ?side2 A5.out).mono ?_); (case side1 => repeat (first | exact (Kd.R_reads' HO449.out).2.2 | (with_reducible refine Kd.C_alloc ?_ _) | (with_reducible refine Kd.C_drewN ?_ _) | (with_reducible refine Kd.C_drew ?_))); (case side2 => exact (Kd.R_reads' HO449.out).2.1); rintro e w10 ⟨v456, rfl, ho0, hb⟩; refine ⟨_, rfl, ?_⟩; have n0_ := Aside0.mk (Kd.R_below (by (with_reducible repeat (first | apply Kd.R_alloc | apply Kd.R_drewN | apply Kd.R_drew)); exact HO449.out) hb); have n1_ := Aside0.mk (Kd.R_lower (Kd.R_new' ho0 (Kd.R_lt (by (with_reducible repeat (first | apply Kd.R_alloc | apply Kd.R_drewN | apply Kd.R_drew)); exact HO449.out))) (below_size (by repeat (first | (with_reducible first | exact HB.out | apply below_alloc | apply pw_below_drewN | apply below_drew1 | refine below_set ?_ GE446.out) | exact HB.out)))); have n2_ := Aside0.mk (blk_below (g := gb446) (o := .cells #[.int .u16 a0_0, .int .u16 a0_1, .int .u32 a0_2] 36 (0, 0)) (by (with_reducible repeat (first | refine blk_drewN ?_ _ | refine blk_drew ?_ | refine blk_alloc ?_ _)); exact BK446.out) hb); have n3_ := Aside0.mk (below_step (by repeat (first | (with_reducible first | exact HB.out | apply below_alloc | apply pw_below_drewN | apply below_drew1 | refine below_set ?_ GE446.out) | exact HB.out)) hb); clear HO449; clear BK446; clear HB; have HO449 := n0_; have HO457 := n1_; have BK446 := n2_; have HB := n3_; clear n0_ n1_ n2_ n3_; (try clear hb); (try clear hb2); (try clear hk); (try clear hi); (try clear ho0)) | ((with_reducible refine gate_dst (N := 7) rfl ?_); (try (refine gate_guard (by rfl) ?_; dsimp only)); refine box_event ?hg (N := 7) ?hd (cs := #[.int .u16 0, .int .u16 0, .int .u32 0]) (t := 36) ?hr ?_; (case hd => rfl); (case hg => rfl); (case hr => first | (go_simp; done) | (go_simp; rfl)); intro gb459 hg w11 hbox hb; have n0_ := Aside0.mk (Kd.R_below (by (with_reducible repeat (first | apply Kd.R_alloc | apply Kd.R_drewN | apply Kd.R_drew)); exact HO449.out) hb); have n1_ := Aside0.mk (Kd.R_below (by (with_reducible repeat (first | apply Kd.R_alloc | apply Kd.R_drewN | apply Kd.R_drew)); exact HO457.out) hb); have n2_ := Aside0.mk (blk_below (g := gb446) (o := .cells #[.int .u16 a0_0, .int .u16 a0_1, .int .u32 a0_2] 36 (0, 0)) (by (with_reducible repeat (first | refine blk_drewN ?_ _ | refine blk_drew ?_ | refine blk_alloc ?_ _)); exact BK446.out) hb); have n3_ := Aside0.mk (below_step (by repeat (first | (with_reducible first | exact HB.out | apply below_alloc | apply pw_below_drewN | apply below_drew1 | refine below_set ?_ GE446.out) | exact HB.out)) hb); have n4_ := Aside0.mk (hbox); have n5_ := Aside0.mk ((by rw [hg]; exact (below_size (by repeat (first | (with_reducible first | exact HB.out | apply below_alloc | apply pw_below_drewN | apply below_drew1 | refine below_set ?_ GE446.out) | exact HB.out))) : w.heap.size ≤ gb459)); have n6_ := Aside0.mk ((by rw [hg]; exact (below_size (by repeat (first | (with_reducible first | exact HB.out | apply below_alloc | apply pw_below_drewN | apply below_drew1 | refine below_set ?_ GE446.out) | exact HB.out))) : w.heap.size ≤ gb459)); have n7_ := Aside0.mk ((by rw [hg]; exact Nat.ne_of_lt (blk_lt (g := gb446) (o := .cells #[.int .u16 a0_0, .int .u16 a0_1, .int .u32 a0_2] 36 (0, 0)) (by (with_reducible repeat (first | refine blk_drewN ?_ _ | refine blk_drew ?_ | refine blk_alloc ?_ _)); exact BK446.out)) : gb446 ≠ gb459)); have n8_ := Aside0.mk ((by rw [hg]; exact Nat.ne_of_gt (blk_lt (g := gb446) (o := .cells #[.int .u16 a0_0, .int .u16 a0_1, .int .u32 a0_2] 36 (0, 0)) (by (with_reducible repeat (first | refine blk_drewN ?_ _ | refine blk_drew ?_ | refine blk_alloc ?_ _)); exact BK446.out)) : gb459 ≠ gb446)); clear HO449; clear HO457; clear BK446; clear HB; have HO449 := n0_; have HO457 := n1_; have BK446 := n2_; have HB := n3_; have BK459 := n4_; have GW459 := n5_; have GE459 := n6_; have NB446_459 := n7_; have NB459_446 := n8_; clear n0_ n1_ n2_ n3_ n4_ n5_ n6_ n7_ n8_; clear hb hbox hg; have hnb12 := NB459_446.out; have hnc12 := NB446_459.out; have hcz13_0 : w11.cell? ⟨gb459, 0, none⟩ = some (.int .u16 0) := (blk_cell BK459.out 0).trans rfl; have hcz13_1 : w11.cell? ⟨gb459, 1, none⟩ = some (.int .u16 0) := (blk_cell BK459.out 1).trans rfl; have hcz13_2 : w11.cell? ⟨gb459, 2, none⟩ = some (.int .u32 0) := (blk_cell BK459.out 2).trans rfl; have hfz13_0 := blk_frozen BK459.out 0; have hfz13_1 := blk_frozen BK459.out 1; have hfz13_2 := blk_frozen BK459.out 2))
    go_loopg [10, 11] k (fun kq v10 v11 w' => ∃ (x10_1 : Int) (x11_1 : Int), v10 = .int .i64 x10_1 ∧ v11 = .int .i64 x11_1 ∧ Aside0 (trunklinelaw12_ChunkBack.l0 kq l1 t447 t455 t458 x10_1 x11_1 a0_0 a0_1 a0_2 t452 t453 t454 = some r) ∧ Aside0 (kq ≤ k) ∧ Aside0 (Kd.R (Kd.int .u8) 5 w' w.heap.size (fun _ => True) (.slice Ao9 t447.length co9) t447) ∧ Aside0 (Kd.R k29 29 w' w.heap.size (fun k_ => some k_ ≠ ((.slice Ao9 t447.length co9) : Value).ownBlock) v456 t455) ∧ Aside0 (w'.heap[gb446]? = some (.cells #[.int .u16 a0_0, .int .u16 a0_1, .int .u32 a0_2] 36 (0, 0))) ∧ Aside0 (w'.heap[gb459]? = some (.cells #[.int .u16 t452, .int .u16 t453, .int .u32 t454] 36 (0, 0))) ∧ Aside0 (Below w.heap.size w w'))
    case atStart => exact ⟨(12), (0), (by first | rfl | (simp; done) | (simp [*]; done)), (by first | rfl | (simp; done) | (simp [*]; done)), H', ⟨Nat.le_refl _⟩, ⟨by (with_reducible repeat (first | apply Kd.R_alloc | apply Kd.R_drewN | apply Kd.R_drew)); exact Kd.R_mono (Kd.R_far (p := ⟨gb459, 2, none⟩) (Kd.R_far (p := ⟨gb459, 1, none⟩) (Kd.R_far (p := ⟨gb459, 0, none⟩) (Kd.R_types HO449.out BK459.out (by decide)) (fun _ hk => hk.2) (.int .u16 t452)) (fun _ hk => hk.2) (.int .u16 t453)) (fun _ hk => hk.2) (.int .u32 t454)) (fun _ hk => trivial)⟩, ⟨by (with_reducible repeat (first | apply Kd.R_alloc | apply Kd.R_drewN | apply Kd.R_drew)); exact Kd.R_mono (Kd.R_far (p := ⟨gb459, 2, none⟩) (Kd.R_far (p := ⟨gb459, 1, none⟩) (Kd.R_far (p := ⟨gb459, 0, none⟩) (Kd.R_types HO457.out BK459.out (by decide)) (fun _ hk => hk.2) (.int .u16 t452)) (fun _ hk => hk.2) (.int .u16 t453)) (fun _ hk => hk.2) (.int .u32 t454)) (fun _ hk => hk.1.2)⟩, ⟨by (with_reducible repeat (first | refine blk_drewN ?_ _ | refine blk_drew ?_ | refine blk_alloc ?_ _)); refine blk_far ?_ NB446_459.out _; (with_reducible repeat (first | refine blk_drewN ?_ _ | refine blk_drew ?_ | refine blk_alloc ?_ _)); refine blk_far ?_ NB446_459.out _; (with_reducible repeat (first | refine blk_drewN ?_ _ | refine blk_drew ?_ | refine blk_alloc ?_ _)); refine blk_far ?_ NB446_459.out _; (with_reducible repeat (first | refine blk_drewN ?_ _ | refine blk_drew ?_ | refine blk_alloc ?_ _)); exact BK446.out⟩, ⟨by (with_reducible repeat (first | refine blk_drewN ?_ _ | refine blk_drew ?_ | refine blk_alloc ?_ _)); refine blk_put (cs := #[.int .u16 t452, .int .u16 t453, .int .u32 0]) ?_ 2 _ rfl; (with_reducible repeat (first | refine blk_drewN ?_ _ | refine blk_drew ?_ | refine blk_alloc ?_ _)); refine blk_put (cs := #[.int .u16 t452, .int .u16 0, .int .u32 0]) ?_ 1 _ rfl; (with_reducible repeat (first | refine blk_drewN ?_ _ | refine blk_drew ?_ | refine blk_alloc ?_ _)); refine blk_put (cs := #[.int .u16 0, .int .u16 0, .int .u32 0]) ?_ 0 _ rfl; (with_reducible repeat (first | refine blk_drewN ?_ _ | refine blk_drew ?_ | refine blk_alloc ?_ _)); exact BK459.out⟩, ⟨by repeat (first | (with_reducible first | exact HB.out | apply below_alloc | apply pw_below_drewN | apply below_drew1 | refine below_set ?_ GE446.out | refine below_set ?_ GE459.out) | exact HB.out)⟩⟩
    case round =>
      clear H'
      try clear c1
      try clear p2
      try clear c4
      try clear c4b0
      try clear c4b1
      try clear c6
      try clear c12
      try clear hcz13_0
      try clear hcz13_1
      try clear hcz13_2
      try clear hcz7_0
      try clear hcz7_1
      try clear hcz7_2
      try clear hfz13_0
      try clear hfz13_1
      try clear hfz13_2
      try clear hfz7_0
      try clear hfz7_1
      try clear hfz7_2
      obtain ⟨x10_1, x11_1, rfl, rfl, HA, HK1, HO_5, HO_8, BK446, BK459, HB⟩ := hrel
      cases gk with
      | zero => exact absurd HA.out (by simp [trunklinelaw12_ChunkBack.l0])
      | succ k1 =>
        have H := HA.out
        clear HA
        simp only [trunklinelaw12_ChunkBack.l0] at H
        by_cases c14 : x11_1 < (l1.length : Int)
        · rw [if_pos c14] at H
          have c14b0 : decide (x11_1 < (l1.length : Int)) = true := decide_eq_true c14
          clear c14
          by_cases c15 : 0 ≤ x11_1
          · rw [if_pos c15] at H
            have c15b0 : decide (0 ≤ x11_1) = true := decide_eq_true c15
            clear c15
            replace H := Option.bind_eq_some_iff.mp H
            obtain ⟨t461, A160, H⟩ := H
            replace H : (trunklinelaw12_ChunkBack.l0 k1 l1 t447 t455 t458 (wrap64 (x10_1 + t461)) (wrap64 (x11_1 + 1)) a0_0 a0_1 a0_2 t452 t453 t454) = some r := H
            have A16 := Aside0.mk A160
            clear A160
            have H' := Aside0.mk H
            clear H
            have p460 : 0 ≤ (x11_1 : Int) := of_decide_eq_true (by first | (with_reducible assumption) | assumption)
            have q460 : x11_1 < (l1.length : Int) := of_decide_eq_true (by first | (with_reducible assumption) | assumption)
            obtain ⟨ad460, A460_10, c460_10, A460_11, c460_11, A460_12, c460_12, A460_13, c460_13, e460, hx460_0, hx460_1, hx460_2, hx460_3, hx460_4, hx460_5, hx460_6, hx460_7, hx460_8, hx460_9, hx460_10, hx460_11, hx460_12, hx460_13, hl460_10, hi460_10, hl460_11, hi460_11, hl460_12, hi460_12, hl460_13, hi460_13⟩ := at_T29 HR1.out x11_1 p460 q460
            cases e460
            replace hx460_0 := (HB.out.cell (World.block_lt_of_cell? w _ hx460_0)).trans hx460_0
            replace hx460_1 := (HB.out.cell (World.block_lt_of_cell? w _ hx460_1)).trans hx460_1
            replace hx460_2 := (HB.out.cell (World.block_lt_of_cell? w _ hx460_2)).trans hx460_2
            replace hx460_3 := (HB.out.cell (World.block_lt_of_cell? w _ hx460_3)).trans hx460_3
            replace hx460_4 := (HB.out.cell (World.block_lt_of_cell? w _ hx460_4)).trans hx460_4
            replace hx460_5 := (HB.out.cell (World.block_lt_of_cell? w _ hx460_5)).trans hx460_5
            replace hx460_6 := (HB.out.cell (World.block_lt_of_cell? w _ hx460_6)).trans hx460_6
            replace hx460_7 := (HB.out.cell (World.block_lt_of_cell? w _ hx460_7)).trans hx460_7
            replace hx460_8 := (HB.out.cell (World.block_lt_of_cell? w _ hx460_8)).trans hx460_8
            replace hx460_9 := (HB.out.cell (World.block_lt_of_cell? w _ hx460_9)).trans hx460_9
            replace hx460_10 := (HB.out.cell (World.block_lt_of_cell? w _ hx460_10)).trans hx460_10
            replace hx460_11 := (HB.out.cell (World.block_lt_of_cell? w _ hx460_11)).trans hx460_11
            replace hx460_12 := (HB.out.cell (World.block_lt_of_cell? w _ hx460_12)).trans hx460_12
            replace hx460_13 := (HB.out.cell (World.block_lt_of_cell? w _ hx460_13)).trans hx460_13
            have HR460_10 := Aside0.mk hi460_10
            have HC460_10 := Aside0.mk hl460_10
            clear hi460_10 hl460_10
            have HR460_11 := Aside0.mk hi460_11
            have HC460_11 := Aside0.mk hl460_11
            clear hi460_11 hl460_11
            have HR460_12 := Aside0.mk hi460_12
            have HC460_12 := Aside0.mk hl460_12
            clear hi460_12 hl460_12
            have HR460_13 := Aside0.mk hi460_13
            have HC460_13 := Aside0.mk hl460_13
            clear hi460_13 hl460_13
            replace p460 := eq_true p460
            replace q460 := eq_true q460
            go_wp2_with (first | ((with_reducible refine gate_callee (f := 14) rfl ?_); refine goesL_ (some 43) rfl rfl Try.func14 (by kernel_rfl) rfl #[.agg #[.int .u8 ((rd_T29 l1 x11_1).f0), .int .u8 ((rd_T29 l1 x11_1).f1), .int .u32 ((rd_T29 l1 x11_1).f2), .int .u16 ((rd_T29 l1 x11_1).f3), .int .u16 ((rd_T29 l1 x11_1).f4), .int .u32 ((rd_T29 l1 x11_1).f5), .int .u32 ((rd_T29 l1 x11_1).f6), .int .u32 ((rd_T29 l1 x11_1).f7), .int .u16 ((rd_T29 l1 x11_1).f8), .int .u16 ((rd_T29 l1 x11_1).f9), .slice A460_10 ((rd_T29 l1 x11_1).f10).length c460_10, .slice A460_11 ((rd_T29 l1 x11_1).f11).length c460_11, .slice A460_12 ((rd_T29 l1 x11_1).f12).length c460_12, .slice A460_13 ((rd_T29 l1 x11_1).f13).length c460_13]] rfl (by (try simp only [List.map_toArray, List.map_cons, List.map_nil]); first | done | rfl | (simp only [List.length_drop, List.length_take]; rfl)) ?_; (with_reducible refine (chunk_Size.calls k1 ((rd_T29 l1 x11_1).f0) ((rd_T29 l1 x11_1).f1) ((rd_T29 l1 x11_1).f2) ((rd_T29 l1 x11_1).f3) ((rd_T29 l1 x11_1).f4) ((rd_T29 l1 x11_1).f5) ((rd_T29 l1 x11_1).f6) ((rd_T29 l1 x11_1).f7) ((rd_T29 l1 x11_1).f8) ((rd_T29 l1 x11_1).f9) _ _ ((rd_T29 l1 x11_1).f10) _ _ ((rd_T29 l1 x11_1).f11) _ _ ((rd_T29 l1 x11_1).f12) _ _ ((rd_T29 l1 x11_1).f13) t461 _ ?side1 ?side2 ?side3 ?side4 ?side5 ?side6 ?side7 ?side8 A16.out).mono ?_); (case side1 => repeat (first | exact (Kd.C_below HR460_10.out HB.out) | (with_reducible refine Kd.C_alloc ?_ _) | (with_reducible refine Kd.C_drewN ?_ _) | (with_reducible refine Kd.C_drew ?_))); (case side2 => exact HC460_10.out); (case side3 => repeat (first | exact (Kd.C_below HR460_11.out HB.out) | (with_reducible refine Kd.C_alloc ?_ _) | (with_reducible refine Kd.C_drewN ?_ _) | (with_reducible refine Kd.C_drew ?_))); (case side4 => exact HC460_11.out); (case side5 => repeat (first | exact (Kd.C_below HR460_12.out HB.out) | (with_reducible refine Kd.C_alloc ?_ _) | (with_reducible refine Kd.C_drewN ?_ _) | (with_reducible refine Kd.C_drew ?_))); (case side6 => exact HC460_12.out); (case side7 => repeat (first | exact (Kd.C_below HR460_13.out HB.out) | (with_reducible refine Kd.C_alloc ?_ _) | (with_reducible refine Kd.C_drewN ?_ _) | (with_reducible refine Kd.C_drew ?_))); (case side8 => exact HC460_13.out); rintro e w17 ⟨rfl, hb⟩; refine ⟨_, rfl, ?_⟩; have n0_ := Aside0.mk (Kd.R_below (by (with_reducible repeat (first | apply Kd.R_alloc | apply Kd.R_drewN | apply Kd.R_drew)); exact HO_5.out) hb); have n1_ := Aside0.mk (Kd.R_below (by (with_reducible repeat (first | apply Kd.R_alloc | apply Kd.R_drewN | apply Kd.R_drew)); exact HO_8.out) hb); have n2_ := Aside0.mk (blk_below (g := gb446) (o := .cells #[.int .u16 a0_0, .int .u16 a0_1, .int .u32 a0_2] 36 (0, 0)) (by (with_reducible repeat (first | refine blk_drewN ?_ _ | refine blk_drew ?_ | refine blk_alloc ?_ _)); exact BK446.out) hb); have n3_ := Aside0.mk (blk_below (g := gb459) (o := .cells #[.int .u16 t452, .int .u16 t453, .int .u32 t454] 36 (0, 0)) (by (with_reducible repeat (first | refine blk_drewN ?_ _ | refine blk_drew ?_ | refine blk_alloc ?_ _)); exact BK459.out) hb); have n4_ := Aside0.mk (below_step (by repeat (first | (with_reducible first | exact HB.out | apply below_alloc | apply pw_below_drewN | apply below_drew1 | refine below_set ?_ GE446.out | refine below_set ?_ GE459.out) | exact HB.out)) hb); clear HO_5; clear HO_8; clear BK446; clear BK459; clear HB; have HO_5 := n0_; have HO_8 := n1_; have BK446 := n2_; have BK459 := n3_; have HB := n4_; clear n0_ n1_ n2_ n3_ n4_; (try clear hb); (try clear hb2); (try clear hk); (try clear hi)))
            go_roundg k1
            case measure => have := HK1.out; omega
            case rel => exact ⟨(wrap64 (x10_1 + t461)), (wrap64 (x11_1 + 1)), (by first | rfl | (simp; done) | (simp [*]; done)), (by first | rfl | (simp; done) | (simp [*]; done)), H', ⟨by have := HK1.out; omega⟩, ⟨by (with_reducible repeat (first | apply Kd.R_alloc | apply Kd.R_drewN | apply Kd.R_drew)); exact HO_5.out⟩, ⟨by (with_reducible repeat (first | apply Kd.R_alloc | apply Kd.R_drewN | apply Kd.R_drew)); exact HO_8.out⟩, ⟨by (with_reducible repeat (first | refine blk_drewN ?_ _ | refine blk_drew ?_ | refine blk_alloc ?_ _)); exact BK446.out⟩, ⟨by (with_reducible repeat (first | refine blk_drewN ?_ _ | refine blk_drew ?_ | refine blk_alloc ?_ _)); exact BK459.out⟩, ⟨by repeat (first | (with_reducible first | exact HB.out | apply below_alloc | apply pw_below_drewN | apply below_drew1 | refine below_set ?_ GE446.out | refine below_set ?_ GE459.out) | exact HB.out)⟩⟩
          · rw [if_neg c15] at H
            exact absurd H (by simp)
        · rw [if_neg c14] at H
          have c14b0 : decide (x11_1 < (l1.length : Int)) = false := decide_eq_false c14
          clear c14
          replace H := Option.bind_eq_some_iff.mp H
          obtain ⟨t462, A180, H⟩ := H
          replace H : (if t462 = true then (if t458 = 0 then (if (t452 == a0_0 && (t453 == a0_1 && (t454 == a0_2))) = true then ((trunklineref12_SameAll.f k1 l1 t455).bind fun t463 => (if t463 = true then (if (t447.length : Int) = x10_1 then (some ((Int.tmod x10_1 4) == 0)) else (some false)) else (some false))) else (some false)) else (some false)) else (some false)) = some r := H
          have A18 := Aside0.mk A180
          clear A180
          by_cases c19 : t462 = true
          · subst c19
            have H1 : (if t458 = 0 then (if (t452 == a0_0 && (t453 == a0_1 && (t454 == a0_2))) = true then ((trunklineref12_SameAll.f k1 l1 t455).bind fun t463 => (if t463 = true then (if (t447.length : Int) = x10_1 then (some ((Int.tmod x10_1 4) == 0)) else (some false)) else (some false))) else (some false)) else (some false)) = some r := by rw [if_pos rfl] at H; exact H
            clear H
            have H := H1
            clear H1
            by_cases c20 : t458 = 0
            · rw [if_pos c20] at H
              have c20b0 : (t458 == 0) = true := beq_iff_eq.mpr c20
              have c20b1 : (t458 != 0) = false := bne_eq_false_iff_eq.mpr c20
              clear c20
              by_cases c21 : (t452 == a0_0 && (t453 == a0_1 && (t454 == a0_2))) = true
              · rw [if_pos c21] at H
                have c21b0 : (t452 == a0_0 && (t453 == a0_1 && (t454 == a0_2))) = true := c21
                (try (have c21b1 : decide (t452 = a0_0 && (t453 == a0_1 && (t454 == a0_2))) = true := by simpa using c21))
                (try (have c21b2 : (t452 == a0_0 && (t453 == a0_1 && (t454 == a0_2))) = true := by simpa using c21))
                clear c21
                replace H := Option.bind_eq_some_iff.mp H
                obtain ⟨t463, A220, H⟩ := H
                replace H : (if t463 = true then (if (t447.length : Int) = x10_1 then (some ((Int.tmod x10_1 4) == 0)) else (some false)) else (some false)) = some r := H
                have A22 := Aside0.mk A220
                clear A220
                by_cases c23 : t463 = true
                · subst c23
                  have H1 : (if (t447.length : Int) = x10_1 then (some ((Int.tmod x10_1 4) == 0)) else (some false)) = some r := by rw [if_pos rfl] at H; exact H
                  clear H
                  have H := H1
                  clear H1
                  by_cases c24 : (t447.length : Int) = x10_1
                  · rw [if_pos c24] at H
                    have c24b0 : ((t447.length : Int) == x10_1) = true := beq_iff_eq.mpr c24
                    have c24b1 : ((t447.length : Int) != x10_1) = false := bne_eq_false_iff_eq.mpr c24
                    clear c24
                    obtain rfl := Option.some.inj H
                    go_wp2_with (first | ((with_reducible refine gate_callee (f := 11) rfl ?_); refine goesL_ (some 45) rfl rfl Try.func11 (by kernel_rfl) rfl #[] rfl (by (try simp only [List.map_toArray, List.map_cons, List.map_nil]); first | done | rfl | (simp only [List.length_drop, List.length_take]; rfl)) ?_; (with_reducible refine (trunklinelaw12_live.calls k1  true _ (by first | rfl | exact HRT.out) A18.out).mono ?_); rintro e w25 ⟨rfl, hb⟩; refine ⟨_, rfl, ?_⟩; have n0_ := Aside0.mk (Kd.R_below (by (with_reducible repeat (first | apply Kd.R_alloc | apply Kd.R_drewN | apply Kd.R_drew)); exact HO_5.out) hb); have n1_ := Aside0.mk (Kd.R_below (by (with_reducible repeat (first | apply Kd.R_alloc | apply Kd.R_drewN | apply Kd.R_drew)); exact HO_8.out) hb); have n2_ := Aside0.mk (blk_below (g := gb446) (o := .cells #[.int .u16 a0_0, .int .u16 a0_1, .int .u32 a0_2] 36 (0, 0)) (by (with_reducible repeat (first | refine blk_drewN ?_ _ | refine blk_drew ?_ | refine blk_alloc ?_ _)); exact BK446.out) hb); have n3_ := Aside0.mk (blk_below (g := gb459) (o := .cells #[.int .u16 t452, .int .u16 t453, .int .u32 t454] 36 (0, 0)) (by (with_reducible repeat (first | refine blk_drewN ?_ _ | refine blk_drew ?_ | refine blk_alloc ?_ _)); exact BK459.out) hb); have n4_ := Aside0.mk (below_step (by repeat (first | (with_reducible first | exact HB.out | apply below_alloc | apply pw_below_drewN | apply below_drew1 | refine below_set ?_ GE446.out | refine below_set ?_ GE459.out) | exact HB.out)) hb); clear HO_5; clear HO_8; clear BK446; clear BK459; clear HB; have HO_5 := n0_; have HO_8 := n1_; have BK446 := n2_; have BK459 := n3_; have HB := n4_; clear n0_ n1_ n2_ n3_ n4_; (try clear hb); (try clear hb2); (try clear hk); (try clear hi); have hnb26 := NB459_446.out; have hnc26 := NB446_459.out; have hcz27_0 : w25.cell? ⟨gb459, 0, none⟩ = some (.int .u16 t452) := (blk_cell BK459.out 0).trans rfl; have hcz27_1 : w25.cell? ⟨gb459, 1, none⟩ = some (.int .u16 t453) := (blk_cell BK459.out 1).trans rfl; have hcz27_2 : w25.cell? ⟨gb459, 2, none⟩ = some (.int .u32 t454) := (blk_cell BK459.out 2).trans rfl; have hfz27_0 := blk_frozen BK459.out 0; have hfz27_1 := blk_frozen BK459.out 1; have hfz27_2 := blk_frozen BK459.out 2; have hcz28_0 : w25.cell? ⟨gb446, 0, none⟩ = some (.int .u16 a0_0) := (blk_cell BK446.out 0).trans rfl; have hcz28_1 : w25.cell? ⟨gb446, 1, none⟩ = some (.int .u16 a0_1) := (blk_cell BK446.out 1).trans rfl; have hcz28_2 : w25.cell? ⟨gb446, 2, none⟩ = some (.int .u32 a0_2) := (blk_cell BK446.out 2).trans rfl; have hfz28_0 := blk_frozen BK446.out 0; have hfz28_1 := blk_frozen BK446.out 1; have hfz28_2 := blk_frozen BK446.out 2; obtain ⟨Ao29, co29, eo29⟩ := Kd.R_slice HO_8.out; subst eo29) | (go_at_call 20; (with_reducible refine (trunklineref12_SameAll.calls k1 _ _ l1 _ _ t455 true _ ?side1 ?side2 ?side3 ?side4 (by first | rfl | exact HRT.out) A22.out).mono ?_); (case side1 => repeat (first | exact (Kd.C_below HR1.out HB.out) | (with_reducible refine Kd.C_alloc ?_ _) | (with_reducible refine Kd.C_drewN ?_ _) | (with_reducible refine Kd.C_drew ?_))); (case side2 => exact HC1.out); (case side3 => repeat (first | exact (Kd.R_reads' HO_8.out).2.2 | (with_reducible refine Kd.C_alloc ?_ _) | (with_reducible refine Kd.C_drewN ?_ _) | (with_reducible refine Kd.C_drew ?_))); (case side4 => exact (Kd.R_reads' HO_8.out).2.1); rintro e w30 ⟨rfl, hb⟩; have n0_ := Aside0.mk (Kd.R_below (by (with_reducible repeat (first | apply Kd.R_alloc | apply Kd.R_drewN | apply Kd.R_drew)); exact HO_5.out) hb); have n1_ := Aside0.mk (Kd.R_below (by (with_reducible repeat (first | apply Kd.R_alloc | apply Kd.R_drewN | apply Kd.R_drew)); exact HO_8.out) hb); have n2_ := Aside0.mk (blk_below (g := gb446) (o := .cells #[.int .u16 a0_0, .int .u16 a0_1, .int .u32 a0_2] 36 (0, 0)) (by (with_reducible repeat (first | refine blk_drewN ?_ _ | refine blk_drew ?_ | refine blk_alloc ?_ _)); exact BK446.out) hb); have n3_ := Aside0.mk (blk_below (g := gb459) (o := .cells #[.int .u16 t452, .int .u16 t453, .int .u32 t454] 36 (0, 0)) (by (with_reducible repeat (first | refine blk_drewN ?_ _ | refine blk_drew ?_ | refine blk_alloc ?_ _)); exact BK459.out) hb); have n4_ := Aside0.mk (below_step (by repeat (first | (with_reducible first | exact HB.out | apply below_alloc | apply pw_below_drewN | apply below_drew1 | refine below_set ?_ GE446.out | refine below_set ?_ GE459.out) | exact HB.out)) hb); clear HO_5; clear HO_8; clear BK446; clear BK459; clear HB; have HO_5 := n0_; have HO_8 := n1_; have BK446 := n2_; have BK459 := n3_; have HB := n4_; clear n0_ n1_ n2_ n3_ n4_; (try clear hb); (try clear hb2); (try clear hk); (try clear hi)))
                    go_ret
                    exact ⟨by first | rfl | (simp [errW_none, errW_some] <;> rfl) | (simp [*, errW_none, errW_some] <;> rfl), by repeat (first | (with_reducible first | exact HB.out | apply below_alloc | apply pw_below_drewN | apply below_drew1 | refine below_set ?_ GE446.out | refine below_set ?_ GE459.out) | exact HB.out)⟩
                  · rw [if_neg c24] at H
                    have c24b0 : ((t447.length : Int) == x10_1) = false := beq_eq_false_iff_ne.mpr c24
                    have c24b1 : ((t447.length : Int) != x10_1) = true := bne_iff_ne.mpr c24
                    rw [HRT.out] at H
                    exact absurd H (by simp)
                · replace c23 := Bool.eq_false_iff.mpr c23
                  subst c23
                  have H1 : (some false) = some r := by rw [if_neg (show ¬ (false = true) by decide)] at H; exact H
                  clear H
                  have H := H1
                  clear H1
                  rw [HRT.out] at H
                  exact absurd H (by simp)
              · rw [if_neg c21] at H
                have c21b0 : (t452 == a0_0 && (t453 == a0_1 && (t454 == a0_2))) = false := by simpa using c21
                (try (have c21b1 : decide (t452 = a0_0 && (t453 == a0_1 && (t454 == a0_2))) = false := by simpa using c21))
                (try (have c21b2 : (t452 == a0_0 && (t453 == a0_1 && (t454 == a0_2))) = false := by simpa using c21))
                (try (have c21b3 : ¬ (t452 = a0_0 && (t453 == a0_1 && (t454 == a0_2))) := by simpa using c21))
                clear c21
                rw [HRT.out] at H
                exact absurd H (by simp)
            · rw [if_neg c20] at H
              have c20b0 : (t458 == 0) = false := beq_eq_false_iff_ne.mpr c20
              have c20b1 : (t458 != 0) = true := bne_iff_ne.mpr c20
              rw [HRT.out] at H
              exact absurd H (by simp)
          · replace c19 := Bool.eq_false_iff.mpr c19
            subst c19
            have H1 : (some false) = some r := by rw [if_neg (show ¬ (false = true) by decide)] at H; exact H
            clear H
            have H := H1
            clear H1
            rw [HRT.out] at H
            exact absurd H (by simp)
  · rw [if_neg c4] at H
    have c4b0 : (t450 == 0) = false := beq_eq_false_iff_ne.mpr c4
    have c4b1 : (t450 != 0) = true := bne_iff_ne.mpr c4
    replace H := Option.bind_eq_some_iff.mp H
    obtain ⟨t451, A310, H⟩ := H
    replace H : (if t451 = true then (some ((t447.length : Int) == 0)) else (some false)) = some r := H
    have A31 := Aside0.mk A310
    clear A310
    by_cases c32 : t451 = true
    · subst c32
      have H1 : (some ((t447.length : Int) == 0)) = some r := by rw [if_pos rfl] at H; exact H
      clear H
      have H := H1
      clear H1
      obtain rfl := Option.some.inj H
      go_enter Try.func6, Try.ntmps6
      go_wp2_with (first | ((with_reducible refine gate_dst (N := 2) rfl ?_); (try (refine gate_guard (by rfl) ?_; dsimp only)); refine box_event ?hg (N := 2) ?hd (cs := #[.int .u16 a0_0, .int .u16 a0_1, .int .u32 a0_2]) (t := 36) ?hr ?_; (case hd => rfl); (case hg => rfl); (case hr => first | (go_simp; done) | (go_simp; rfl)); intro gb446 hg w33 hbox hb; have n0_ := Aside0.mk (below_step (by repeat (first | (with_reducible first | exact HB.out | apply below_alloc | apply pw_below_drewN | apply below_drew1) | exact HB.out)) hb); have n1_ := Aside0.mk (hbox); have n2_ := Aside0.mk ((by rw [hg]; exact (below_size (by repeat (first | (with_reducible first | exact HB.out | apply below_alloc | apply pw_below_drewN | apply below_drew1) | exact HB.out))) : w.heap.size ≤ gb446)); have n3_ := Aside0.mk ((by rw [hg]; exact (below_size (by repeat (first | (with_reducible first | exact HB.out | apply below_alloc | apply pw_below_drewN | apply below_drew1) | exact HB.out))) : w.heap.size ≤ gb446)); clear HB; have HB := n0_; have BK446 := n1_; have GW446 := n2_; have GE446 := n3_; clear n0_ n1_ n2_ n3_; clear hb hbox hg; have hcz34_0 : w33.cell? ⟨gb446, 0, none⟩ = some (.int .u16 a0_0) := (blk_cell BK446.out 0).trans rfl; have hcz34_1 : w33.cell? ⟨gb446, 1, none⟩ = some (.int .u16 a0_1) := (blk_cell BK446.out 1).trans rfl; have hcz34_2 : w33.cell? ⟨gb446, 2, none⟩ = some (.int .u32 a0_2) := (blk_cell BK446.out 2).trans rfl; have hfz34_0 := blk_frozen BK446.out 0; have hfz34_1 := blk_frozen BK446.out 1; have hfz34_2 := blk_frozen BK446.out 2) | ((with_reducible refine gate_callee (f := 16) rfl ?_); refine goesL_ (some 15) rfl rfl Try.func16 (by kernel_rfl) rfl #[.agg #[.int .u16 a0_0, .int .u16 a0_1, .int .u32 a0_2], .slice A1 l1.length c1] rfl (by (try simp only [List.map_toArray, List.map_cons, List.map_nil]); first | done | rfl | (simp only [List.length_drop, List.length_take]; rfl)) ?_; (with_reducible refine (chunk_Put.calls k a0_0 a0_1 a0_2 _ _ l1 t447 t450 _ ?side1 ?side2 A3.out).mono ?_); (case side1 => repeat (first | exact (Kd.C_below HR1.out HB.out) | (with_reducible refine Kd.C_alloc ?_ _) | (with_reducible refine Kd.C_drewN ?_ _) | (with_reducible refine Kd.C_drew ?_))); (case side2 => exact HC1.out); rintro e w35 ⟨v448, rfl, ho0, hb⟩; refine ⟨_, rfl, ?_⟩; have n0_ := Aside0.mk (Kd.R_lower ho0 (below_size (by repeat (first | (with_reducible first | exact HB.out | apply below_alloc | apply pw_below_drewN | apply below_drew1 | refine below_set ?_ GE446.out) | exact HB.out)))); have n1_ := Aside0.mk (blk_below (g := gb446) (o := .cells #[.int .u16 a0_0, .int .u16 a0_1, .int .u32 a0_2] 36 (0, 0)) (by (with_reducible repeat (first | refine blk_drewN ?_ _ | refine blk_drew ?_ | refine blk_alloc ?_ _)); exact BK446.out) hb); have n2_ := Aside0.mk (below_step (by repeat (first | (with_reducible first | exact HB.out | apply below_alloc | apply pw_below_drewN | apply below_drew1 | refine below_set ?_ GE446.out) | exact HB.out)) hb); clear BK446; clear HB; have HO449 := n0_; have BK446 := n1_; have HB := n2_; clear n0_ n1_ n2_; (try clear hb); (try clear hb2); (try clear hk); (try clear hi); (try clear ho0)) | ((with_reducible refine gate_callee (f := 11) rfl ?_); refine goesL_ (some 20) rfl rfl Try.func11 (by kernel_rfl) rfl #[] rfl (by (try simp only [List.map_toArray, List.map_cons, List.map_nil]); first | done | rfl | (simp only [List.length_drop, List.length_take]; rfl)) ?_; (with_reducible refine (trunklinelaw12_live.calls k  true _ (by first | rfl | exact HRT.out) A31.out).mono ?_); rintro e w36 ⟨rfl, hb⟩; refine ⟨_, rfl, ?_⟩; have n0_ := Aside0.mk (Kd.R_below (by (with_reducible repeat (first | apply Kd.R_alloc | apply Kd.R_drewN | apply Kd.R_drew)); exact HO449.out) hb); have n1_ := Aside0.mk (blk_below (g := gb446) (o := .cells #[.int .u16 a0_0, .int .u16 a0_1, .int .u32 a0_2] 36 (0, 0)) (by (with_reducible repeat (first | refine blk_drewN ?_ _ | refine blk_drew ?_ | refine blk_alloc ?_ _)); exact BK446.out) hb); have n2_ := Aside0.mk (below_step (by repeat (first | (with_reducible first | exact HB.out | apply below_alloc | apply pw_below_drewN | apply below_drew1 | refine below_set ?_ GE446.out) | exact HB.out)) hb); clear HO449; clear BK446; clear HB; have HO449 := n0_; have BK446 := n1_; have HB := n2_; clear n0_ n1_ n2_; (try clear hb); (try clear hb2); (try clear hk); (try clear hi); obtain ⟨Ao37, co37, eo37⟩ := Kd.R_slice HO449.out; subst eo37))
      go_ret
      exact ⟨by first | rfl | (simp [errW_none, errW_some] <;> rfl) | (simp [*, errW_none, errW_some] <;> rfl), by repeat (first | (with_reducible first | exact HB.out | apply below_alloc | apply pw_below_drewN | apply below_drew1 | refine below_set ?_ GE446.out) | exact HB.out)⟩
    · replace c32 := Bool.eq_false_iff.mpr c32
      subst c32
      have H1 : (some false) = some r := by rw [if_neg (show ¬ (false = true) by decide)] at H; exact H
      clear H
      have H := H1
      clear H1
      rw [HRT.out] at H
      exact absurd H (by simp)

/-- THE ONE PURE STATEMENT of trunklinelaw12_ChunkBack: yours. -/
def trunklinelaw12_ChunkBack.Pure : Prop := ∀ (a0_0 : Int) (a0_1 : Int) (a0_2 : Int) (l1 : List (S29)), (Lit.int .u16 a0_0).wf = true → (Lit.int .u16 a0_1).wf = true → (Lit.int .u32 a0_2).wf = true → l1.length ≤ maxLen → l1.length * 128 ≤ 140737488351232 → (∀ y ∈ l1, ok29 y) → ∃ k, trunklinelaw12_ChunkBack.f k a0_0 a0_1 a0_2 l1 = some true

end Go.Proofs.Ytaahkggbjpdofaa.M
