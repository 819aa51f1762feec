-- Printed by this session's mp.py over the kit's print (turned in memory). Not trusted: Lean checks it.
import Derived.Test.YtnfbbnmdlcmifaaM0
import Derived.Test.YtnfbbnmdlcmifaaM6
import Derived.Test.YtnfbbnmdlcmifaaM7
namespace Go.Proofs.Ytnfbbnmdlcmifaa.M
open Go.RowKit Go.Proofs.YtnfbbnmdlcmifaaW.PrintWords Go.Proofs.YtnfbbnmdlcmifaaW.PrintLast Go.Proofs.YtnfbbnmdlcmifaaW.PrintMore
attribute [local go_sem] max2_int min2_int max_two min_two max_three min_three max_four min_four   -- for this text's walks alone
set_option linter.unusedVariables false
set_option linter.unusedSimpArgs false

/-! ### trunklineref08_PutArp: function 15 -/
def trunklineref08_PutArp.j0 : Nat → Bool → Int → Int → Int → Int → Int → Option (List Int × Int)
  | 0, _, _, _, _, _, _ => none
  | k + 1, x24, x195000, x195001, x195002, x195003, x195004 => if x24 = true then (some (([] : List Int), 2)) else ((trunklineref01_Lay.f k (([0, 1, 8, 0, 6, 4, 0, (x195000) % 256] : List Int)) x195001 6).bind fun t202 => ((trunklineref01_Lay.f k t202 (IntKind.u64.wrap (x195002)) 4).bind fun t205 => ((trunklineref01_Lay.f k t205 x195003 6).bind fun t208 => ((trunklineref01_Lay.f k t208 (IntKind.u64.wrap (x195004)) 4).bind fun t211 => (some (t211, 0))))))
def trunklineref08_PutArp.f (k : Nat) (a0_0 : Int) (a0_1 : Int) (a0_2 : Int) (a0_3 : Int) (a0_4 : Int) : Option (List Int × Int) := if a0_0 = 1 then ((trunklineref08_card.f a0_1).bind fun t195 => (if t195 = true then ((trunklineref08_card.f a0_3).bind fun t196 => (trunklineref08_PutArp.j0 k (!t196) a0_0 a0_1 a0_2 a0_3 a0_4)) else (trunklineref08_PutArp.j0 k true a0_0 a0_1 a0_2 a0_3 a0_4))) else (if a0_0 = 2 then ((trunklineref08_card.f a0_1).bind fun t197 => (if t197 = true then ((trunklineref08_card.f a0_3).bind fun t198 => (trunklineref08_PutArp.j0 k (!t198) a0_0 a0_1 a0_2 a0_3 a0_4)) else (trunklineref08_PutArp.j0 k true a0_0 a0_1 a0_2 a0_3 a0_4))) else (trunklineref08_PutArp.j0 k true a0_0 a0_1 a0_2 a0_3 a0_4))
theorem trunklineref08_PutArp.mono_l : ∀ k, (∀ y0 y1 y2 y3 y4 y5, LeO (trunklineref08_PutArp.j0 k y0 y1 y2 y3 y4 y5) (trunklineref08_PutArp.j0 (k + 1) y0 y1 y2 y3 y4 y5))
  | 0 => fun _ _ _ _ _ _ r h => by simp [trunklineref08_PutArp.j0] at h
  | k + 1 => by
    have ih0 := trunklineref08_PutArp.mono_l k
    · intro y0 y1 y2 y3 y4 y5
      unfold trunklineref08_PutArp.j0
      repeat' first
      | (with_reducible exact ih0 _ _ _ _ _ _)
      | (with_reducible exact trunklineref01_Lay.mono _ _ _ _)
      | (with_reducible exact LeO.refl _)
      | (with_reducible exact LeO.none _)
      | (with_reducible refine LeO.ite ?_ ?_)
      | (with_reducible refine LeO.bind ?_ (fun _ => ?_))
      | exact ih0 _ _ _ _ _ _
      | exact trunklineref01_Lay.mono _ _ _ _
      | exact LeO.none _
      | refine LeO.ite ?_ ?_
      | refine LeO.bind ?_ (fun _ => ?_)
theorem trunklineref08_PutArp.mono : ∀ a0 a1 a2 a3 a4 k, LeO (trunklineref08_PutArp.f k a0 a1 a2 a3 a4) (trunklineref08_PutArp.f (k + 1) a0 a1 a2 a3 a4) := by
  intro a0 a1 a2 a3 a4 k
  have ih0 := trunklineref08_PutArp.mono_l k
  unfold trunklineref08_PutArp.f
  repeat' first
      | (with_reducible exact ih0 _ _ _ _ _ _)
      | (with_reducible exact trunklineref01_Lay.mono _ _ _ _)
      | (with_reducible exact LeO.refl _)
      | (with_reducible exact LeO.none _)
      | (with_reducible refine LeO.ite ?_ ?_)
      | (with_reducible refine LeO.bind ?_ (fun _ => ?_))
      | exact ih0 _ _ _ _ _ _
      | exact trunklineref01_Lay.mono _ _ _ _
      | exact LeO.none _
      | refine LeO.ite ?_ ?_
      | refine LeO.bind ?_ (fun _ => ?_)
set_option maxHeartbeats 8000000 in
set_option maxRecDepth 100000 in
theorem trunklineref08_PutArp.calls (k : Nat) (a0_0 : Int) (a0_1 : Int) (a0_2 : Int) (a0_3 : Int) (a0_4 : Int) (r1 : List Int) (r2 : Int) (w : World) (h : trunklineref08_PutArp.f k a0_0 a0_1 a0_2 a0_3 a0_4 = some (r1, r2)) :
    Calls Try.prog 15 #[.agg #[.int .i64 a0_0, .int .u64 a0_1, .int .u32 a0_2, .int .u64 a0_3, .int .u32 a0_4]] w fun e w' => ∃ v0_ : Value, e = .returned (.tuple #[v0_, .int .i64 r2]) ∧ Kd.R (Kd.int .u8) 5 w' w.heap.size (fun _ => True) v0_ r1 ∧ Below w.heap.size w w' := by
  have hu34 := Try.underlying34
  have HB := Aside0.mk (Below.refl w.heap.size w)
  have H : (if a0_0 = 1 then ((trunklineref08_card.f a0_1).bind fun t195 => (if t195 = true then ((trunklineref08_card.f a0_3).bind fun t196 => (trunklineref08_PutArp.j0 k (!t196) a0_0 a0_1 a0_2 a0_3 a0_4)) else (trunklineref08_PutArp.j0 k true a0_0 a0_1 a0_2 a0_3 a0_4))) else (if a0_0 = 2 then ((trunklineref08_card.f a0_1).bind fun t197 => (if t197 = true then ((trunklineref08_card.f a0_3).bind fun t198 => (trunklineref08_PutArp.j0 k (!t198) a0_0 a0_1 a0_2 a0_3 a0_4)) else (trunklineref08_PutArp.j0 k true a0_0 a0_1 a0_2 a0_3 a0_4))) else (trunklineref08_PutArp.j0 k true a0_0 a0_1 a0_2 a0_3 a0_4))) = some (r1, r2) := h
  clear h
  have HC2 := Aside0.mk H
  clear H
  go_enter Try.func15, Try.ntmps15
  go_upto_region 1 with (first | ((with_reducible refine gate_dst (N := 1) rfl ?_); refine box_event ?hg (N := 1) ?hd (cs := #[.int .i64 a0_0, .int .u64 a0_1, .int .u32 a0_2, .int .u64 a0_3, .int .u32 a0_4]) (t := 34) ?hr ?_; (case hd => rfl); (case hg => rfl); (case hr => first | (go_simp; done) | (go_simp; rfl)); intro gb194 hg w3 hbox hb; have n0_ := Aside0.mk (below_step (by repeat (first | (with_reducible first | exact HB.out | apply below_alloc | apply pw_below_drewN | apply below_drew1) | exact HB.out)) hb); have n1_ := Aside0.mk (hbox); have n2_ := Aside0.mk ((by rw [hg]; exact (below_size (by repeat (first | (with_reducible first | exact HB.out | apply below_alloc | apply pw_below_drewN | apply below_drew1) | exact HB.out))) : w.heap.size ≤ gb194)); have n3_ := Aside0.mk ((by rw [hg]; exact (below_size (by repeat (first | (with_reducible first | exact HB.out | apply below_alloc | apply pw_below_drewN | apply below_drew1) | exact HB.out))) : w.heap.size ≤ gb194)); clear HB; have HB := n0_; have BK194 := n1_; have GW194 := n2_; have GE194 := n3_; clear n0_ n1_ n2_ n3_; clear hb hbox hg))
  (try simp only [Act.put, List.setIfInBounds_toArray, List.set_cons_zero, List.set_cons_succ])
  go_cut [24] (fun v24 wc => ∃ (kq : Nat) (x24_1 : Bool), v24 = .bool x24_1 ∧ Aside0 (trunklineref08_PutArp.j0 kq x24_1 a0_0 a0_1 a0_2 a0_3 a0_4 = some (r1, r2)) ∧ Aside0 (kq ≤ k) ∧ Aside0 (wc.heap[gb194]? = some (.cells #[.int .i64 a0_0, .int .u64 a0_1, .int .u32 a0_2, .int .u64 a0_3, .int .u32 a0_4] 34 (0, 0))) ∧ Aside0 (Below w.heap.size w wc))
  case first =>
    have H := HC2.out
    clear HC2
    by_cases c4 : a0_0 = 1
    · rw [if_pos c4] at H
      have c4b0 : (a0_0 == 1) = true := beq_iff_eq.mpr c4
      have c4b1 : (a0_0 != 1) = false := bne_eq_false_iff_eq.mpr c4
      clear c4
      (first | rw [c4b0] | (simp only [i64_w, i32_w]; rw [c4b0]) | skip)
      replace H := Option.bind_eq_some_iff.mp H
      obtain ⟨t195, A50, H⟩ := H
      replace H : (if t195 = true then ((trunklineref08_card.f a0_3).bind fun t196 => (trunklineref08_PutArp.j0 k (!t196) a0_0 a0_1 a0_2 a0_3 a0_4)) else (trunklineref08_PutArp.j0 k true a0_0 a0_1 a0_2 a0_3 a0_4)) = some (r1, r2) := H
      have A5 := Aside0.mk A50
      clear A50
      by_cases c6 : t195 = true
      · subst c6
        have H1 : ((trunklineref08_card.f a0_3).bind fun t196 => (trunklineref08_PutArp.j0 k (!t196) a0_0 a0_1 a0_2 a0_3 a0_4)) = some (r1, r2) := by rw [if_pos rfl] at H; exact H
        clear H
        have H := H1
        clear H1
        replace H := Option.bind_eq_some_iff.mp H
        obtain ⟨t196, A70, H⟩ := H
        replace H : (trunklineref08_PutArp.j0 k (!t196) a0_0 a0_1 a0_2 a0_3 a0_4) = some (r1, r2) := H
        have A7 := Aside0.mk A70
        clear A70
        have H' := Aside0.mk H
        clear H
        have hcz8_0 : w3.cell? ⟨gb194, 0, none⟩ = some (.int .i64 a0_0) := (blk_cell BK194.out 0).trans rfl
        have hcz8_1 : w3.cell? ⟨gb194, 1, none⟩ = some (.int .u64 a0_1) := (blk_cell BK194.out 1).trans rfl
        have hcz8_2 : w3.cell? ⟨gb194, 2, none⟩ = some (.int .u32 a0_2) := (blk_cell BK194.out 2).trans rfl
        have hcz8_3 : w3.cell? ⟨gb194, 3, none⟩ = some (.int .u64 a0_3) := (blk_cell BK194.out 3).trans rfl
        have hcz8_4 : w3.cell? ⟨gb194, 4, none⟩ = some (.int .u32 a0_4) := (blk_cell BK194.out 4).trans rfl
        have hfz8_0 := blk_frozen BK194.out 0
        have hfz8_1 := blk_frozen BK194.out 1
        have hfz8_2 := blk_frozen BK194.out 2
        have hfz8_3 := blk_frozen BK194.out 3
        have hfz8_4 := blk_frozen BK194.out 4
        go_wp2_with (first | (go_at_call 25; (with_reducible refine (trunklineref08_card.calls a0_1 true _ A5.out).mono ?_); rintro e w' ⟨rfl, ⟨nd, rfl⟩⟩) | (go_at_call 25; (with_reducible refine (trunklineref08_card.calls a0_3 t196 _ A7.out).mono ?_); rintro e w' ⟨rfl, ⟨nd, rfl⟩⟩))
        go_meet
        case rel => exact ⟨_, (!t196), (by first | rfl | (simp; done) | (simp [*]; done)), H', ⟨by first | omega | exact Nat.le_refl _⟩, ⟨by (with_reducible repeat (first | refine blk_drewN ?_ _ | refine blk_drew ?_ | refine blk_alloc ?_ _)); exact BK194.out⟩, ⟨by repeat (first | (with_reducible first | exact HB.out | apply below_alloc | apply pw_below_drewN | apply below_drew1 | refine below_set ?_ GE194.out) | exact HB.out)⟩⟩
      · replace c6 := Bool.eq_false_iff.mpr c6
        subst c6
        have H1 : (trunklineref08_PutArp.j0 k true a0_0 a0_1 a0_2 a0_3 a0_4) = some (r1, r2) := by rw [if_neg (show ¬ (false = true) by decide)] at H; exact H
        clear H
        have H := H1
        clear H1
        have H' := Aside0.mk H
        clear H
        have hcz9_0 : w3.cell? ⟨gb194, 0, none⟩ = some (.int .i64 a0_0) := (blk_cell BK194.out 0).trans rfl
        have hcz9_1 : w3.cell? ⟨gb194, 1, none⟩ = some (.int .u64 a0_1) := (blk_cell BK194.out 1).trans rfl
        have hcz9_2 : w3.cell? ⟨gb194, 2, none⟩ = some (.int .u32 a0_2) := (blk_cell BK194.out 2).trans rfl
        have hcz9_3 : w3.cell? ⟨gb194, 3, none⟩ = some (.int .u64 a0_3) := (blk_cell BK194.out 3).trans rfl
        have hcz9_4 : w3.cell? ⟨gb194, 4, none⟩ = some (.int .u32 a0_4) := (blk_cell BK194.out 4).trans rfl
        have hfz9_0 := blk_frozen BK194.out 0
        have hfz9_1 := blk_frozen BK194.out 1
        have hfz9_2 := blk_frozen BK194.out 2
        have hfz9_3 := blk_frozen BK194.out 3
        have hfz9_4 := blk_frozen BK194.out 4
        go_wp2_with (first | (go_at_call 25; (with_reducible refine (trunklineref08_card.calls a0_1 false _ A5.out).mono ?_); rintro e w' ⟨rfl, ⟨nd, rfl⟩⟩))
        go_meet
        case rel => exact ⟨_, (true), (by first | rfl | (simp; done) | (simp [*]; done)), H', ⟨by first | omega | exact Nat.le_refl _⟩, ⟨by (with_reducible repeat (first | refine blk_drewN ?_ _ | refine blk_drew ?_ | refine blk_alloc ?_ _)); exact BK194.out⟩, ⟨by repeat (first | (with_reducible first | exact HB.out | apply below_alloc | apply pw_below_drewN | apply below_drew1 | refine below_set ?_ GE194.out) | exact HB.out)⟩⟩
    · rw [if_neg c4] at H
      have c4b0 : (a0_0 == 1) = false := beq_eq_false_iff_ne.mpr c4
      have c4b1 : (a0_0 != 1) = true := bne_iff_ne.mpr c4
      (first | rw [c4b0] | (simp only [i64_w, i32_w]; rw [c4b0]) | skip)
      by_cases c10 : a0_0 = 2
      · rw [if_pos c10] at H
        have c10b0 : (a0_0 == 2) = true := beq_iff_eq.mpr c10
        have c10b1 : (a0_0 != 2) = false := bne_eq_false_iff_eq.mpr c10
        clear c10
        replace H := Option.bind_eq_some_iff.mp H
        obtain ⟨t197, A110, H⟩ := H
        replace H : (if t197 = true then ((trunklineref08_card.f a0_3).bind fun t198 => (trunklineref08_PutArp.j0 k (!t198) a0_0 a0_1 a0_2 a0_3 a0_4)) else (trunklineref08_PutArp.j0 k true a0_0 a0_1 a0_2 a0_3 a0_4)) = some (r1, r2) := H
        have A11 := Aside0.mk A110
        clear A110
        by_cases c12 : t197 = true
        · subst c12
          have H1 : ((trunklineref08_card.f a0_3).bind fun t198 => (trunklineref08_PutArp.j0 k (!t198) a0_0 a0_1 a0_2 a0_3 a0_4)) = some (r1, r2) := by rw [if_pos rfl] at H; exact H
          clear H
          have H := H1
          clear H1
          replace H := Option.bind_eq_some_iff.mp H
          obtain ⟨t198, A130, H⟩ := H
          replace H : (trunklineref08_PutArp.j0 k (!t198) a0_0 a0_1 a0_2 a0_3 a0_4) = some (r1, r2) := H
          have A13 := Aside0.mk A130
          clear A130
          have H' := Aside0.mk H
          clear H
          have hcz14_0 : w3.cell? ⟨gb194, 0, none⟩ = some (.int .i64 a0_0) := (blk_cell BK194.out 0).trans rfl
          have hcz14_1 : w3.cell? ⟨gb194, 1, none⟩ = some (.int .u64 a0_1) := (blk_cell BK194.out 1).trans rfl
          have hcz14_2 : w3.cell? ⟨gb194, 2, none⟩ = some (.int .u32 a0_2) := (blk_cell BK194.out 2).trans rfl
          have hcz14_3 : w3.cell? ⟨gb194, 3, none⟩ = some (.int .u64 a0_3) := (blk_cell BK194.out 3).trans rfl
          have hcz14_4 : w3.cell? ⟨gb194, 4, none⟩ = some (.int .u32 a0_4) := (blk_cell BK194.out 4).trans rfl
          have hfz14_0 := blk_frozen BK194.out 0
          have hfz14_1 := blk_frozen BK194.out 1
          have hfz14_2 := blk_frozen BK194.out 2
          have hfz14_3 := blk_frozen BK194.out 3
          have hfz14_4 := blk_frozen BK194.out 4
          go_wp2_with (first | (go_at_call 25; (with_reducible refine (trunklineref08_card.calls a0_1 true _ A11.out).mono ?_); rintro e w' ⟨rfl, ⟨nd, rfl⟩⟩) | (go_at_call 25; (with_reducible refine (trunklineref08_card.calls a0_3 t198 _ A13.out).mono ?_); rintro e w' ⟨rfl, ⟨nd, rfl⟩⟩))
          go_meet
          case rel => exact ⟨_, (!t198), (by first | rfl | (simp; done) | (simp [*]; done)), H', ⟨by first | omega | exact Nat.le_refl _⟩, ⟨by (with_reducible repeat (first | refine blk_drewN ?_ _ | refine blk_drew ?_ | refine blk_alloc ?_ _)); exact BK194.out⟩, ⟨by repeat (first | (with_reducible first | exact HB.out | apply below_alloc | apply pw_below_drewN | apply below_drew1 | refine below_set ?_ GE194.out) | exact HB.out)⟩⟩
        · replace c12 := Bool.eq_false_iff.mpr c12
          subst c12
          have H1 : (trunklineref08_PutArp.j0 k true a0_0 a0_1 a0_2 a0_3 a0_4) = some (r1, r2) := by rw [if_neg (show ¬ (false = true) by decide)] at H; exact H
          clear H
          have H := H1
          clear H1
          have H' := Aside0.mk H
          clear H
          have hcz15_0 : w3.cell? ⟨gb194, 0, none⟩ = some (.int .i64 a0_0) := (blk_cell BK194.out 0).trans rfl
          have hcz15_1 : w3.cell? ⟨gb194, 1, none⟩ = some (.int .u64 a0_1) := (blk_cell BK194.out 1).trans rfl
          have hcz15_2 : w3.cell? ⟨gb194, 2, none⟩ = some (.int .u32 a0_2) := (blk_cell BK194.out 2).trans rfl
          have hcz15_3 : w3.cell? ⟨gb194, 3, none⟩ = some (.int .u64 a0_3) := (blk_cell BK194.out 3).trans rfl
          have hcz15_4 : w3.cell? ⟨gb194, 4, none⟩ = some (.int .u32 a0_4) := (blk_cell BK194.out 4).trans rfl
          have hfz15_0 := blk_frozen BK194.out 0
          have hfz15_1 := blk_frozen BK194.out 1
          have hfz15_2 := blk_frozen BK194.out 2
          have hfz15_3 := blk_frozen BK194.out 3
          have hfz15_4 := blk_frozen BK194.out 4
          go_wp2_with (first | (go_at_call 25; (with_reducible refine (trunklineref08_card.calls a0_1 false _ A11.out).mono ?_); rintro e w' ⟨rfl, ⟨nd, rfl⟩⟩))
          go_meet
          case rel => exact ⟨_, (true), (by first | rfl | (simp; done) | (simp [*]; done)), H', ⟨by first | omega | exact Nat.le_refl _⟩, ⟨by (with_reducible repeat (first | refine blk_drewN ?_ _ | refine blk_drew ?_ | refine blk_alloc ?_ _)); exact BK194.out⟩, ⟨by repeat (first | (with_reducible first | exact HB.out | apply below_alloc | apply pw_below_drewN | apply below_drew1 | refine below_set ?_ GE194.out) | exact HB.out)⟩⟩
      · rw [if_neg c10] at H
        have c10b0 : (a0_0 == 2) = false := beq_eq_false_iff_ne.mpr c10
        have c10b1 : (a0_0 != 2) = true := bne_iff_ne.mpr c10
        have H' := Aside0.mk H
        clear H
        have hcz16_0 : w3.cell? ⟨gb194, 0, none⟩ = some (.int .i64 a0_0) := (blk_cell BK194.out 0).trans rfl
        have hcz16_1 : w3.cell? ⟨gb194, 1, none⟩ = some (.int .u64 a0_1) := (blk_cell BK194.out 1).trans rfl
        have hcz16_2 : w3.cell? ⟨gb194, 2, none⟩ = some (.int .u32 a0_2) := (blk_cell BK194.out 2).trans rfl
        have hcz16_3 : w3.cell? ⟨gb194, 3, none⟩ = some (.int .u64 a0_3) := (blk_cell BK194.out 3).trans rfl
        have hcz16_4 : w3.cell? ⟨gb194, 4, none⟩ = some (.int .u32 a0_4) := (blk_cell BK194.out 4).trans rfl
        have hfz16_0 := blk_frozen BK194.out 0
        have hfz16_1 := blk_frozen BK194.out 1
        have hfz16_2 := blk_frozen BK194.out 2
        have hfz16_3 := blk_frozen BK194.out 3
        have hfz16_4 := blk_frozen BK194.out 4
        go_wp2
        go_meet
        case rel => exact ⟨_, (true), (by first | rfl | (simp; done) | (simp [*]; done)), H', ⟨by first | omega | exact Nat.le_refl _⟩, ⟨by (with_reducible repeat (first | refine blk_drewN ?_ _ | refine blk_drew ?_ | refine blk_alloc ?_ _)); exact BK194.out⟩, ⟨by repeat (first | (with_reducible first | exact HB.out | apply below_alloc | apply pw_below_drewN | apply below_drew1 | refine below_set ?_ GE194.out) | exact HB.out)⟩⟩
  case rest =>
    clear HC2
    try clear c1
    try clear p2
    try clear c4
    try clear c4b0
    try clear c4b1
    try clear c6
    try clear c10
    try clear c10b0
    try clear c10b1
    try clear c12
    try clear c15
    try clear hcz14_0
    try clear hcz14_1
    try clear hcz14_2
    try clear hcz14_3
    try clear hcz14_4
    try clear hcz15_0
    try clear hcz15_1
    try clear hcz15_2
    try clear hcz15_3
    try clear hcz15_4
    try clear hcz16_0
    try clear hcz16_1
    try clear hcz16_2
    try clear hcz16_3
    try clear hcz16_4
    try clear hcz8_0
    try clear hcz8_1
    try clear hcz8_2
    try clear hcz8_3
    try clear hcz8_4
    try clear hcz9_0
    try clear hcz9_1
    try clear hcz9_2
    try clear hcz9_3
    try clear hcz9_4
    try clear hfz14_0
    try clear hfz14_1
    try clear hfz14_2
    try clear hfz14_3
    try clear hfz14_4
    try clear hfz15_0
    try clear hfz15_1
    try clear hfz15_2
    try clear hfz15_3
    try clear hfz15_4
    try clear hfz16_0
    try clear hfz16_1
    try clear hfz16_2
    try clear hfz16_3
    try clear hfz16_4
    try clear hfz8_0
    try clear hfz8_1
    try clear hfz8_2
    try clear hfz8_3
    try clear hfz8_4
    try clear hfz9_0
    try clear hfz9_1
    try clear hfz9_2
    try clear hfz9_3
    try clear hfz9_4
    obtain ⟨kq, x24_1, rfl, HA, HJ1, BK194, HB⟩ := hcut
    cases kq with
    | zero => exact absurd HA.out (by simp [trunklineref08_PutArp.j0])
    | succ kj1 =>
      have H := HA.out
      clear HA
      simp only [trunklineref08_PutArp.j0] at H
      by_cases c17 : x24_1 = true
      · subst c17
        have H1 : (some (([] : List Int), 2)) = some (r1, r2) := by rw [if_pos rfl] at H; exact H
        clear H
        have H := H1
        clear H1
        simp only [Option.some.injEq, Prod.mk.injEq] at H
        obtain ⟨rfl, rfl⟩ := H
        go_wp2
        go_ret2
        exact ⟨_, by first | rfl | (simp [errW_none, errW_some] <;> rfl) | (simp [*, errW_none, errW_some] <;> rfl), by first | exact Kd.R_nil _ _ _ _ _ | exact Kd.N_nil _ _ _ _ _ | exact Kd.V_nil _ _ _ _ _ | exact Kd.Q_nil _ _ _ _ _ | exact Kd.S_nil _ _ _ _ _, by repeat (first | (with_reducible first | exact HB.out | apply below_alloc | apply pw_below_drewN | apply below_drew1 | refine below_set ?_ GE194.out) | exact HB.out)⟩
      · replace c17 := Bool.eq_false_iff.mpr c17
        subst c17
        have H1 : ((trunklineref01_Lay.f kj1 (([0, 1, 8, 0, 6, 4, 0, (a0_0) % 256] : List Int)) a0_1 6).bind fun t202 => ((trunklineref01_Lay.f kj1 t202 (IntKind.u64.wrap (a0_2)) 4).bind fun t205 => ((trunklineref01_Lay.f kj1 t205 a0_3 6).bind fun t208 => ((trunklineref01_Lay.f kj1 t208 (IntKind.u64.wrap (a0_4)) 4).bind fun t211 => (some (t211, 0)))))) = some (r1, r2) := by rw [if_neg (show ¬ (false = true) by decide)] at H; exact H
        clear H
        have H := H1
        clear H1
        obtain ⟨y199, hy199⟩ : ∃ y_ : List Int, y_ = (([0, 1, 8, 0, 6, 4, 0, (a0_0) % 256] : List Int)) := ⟨_, rfl⟩
        replace H : ((trunklineref01_Lay.f kj1 y199 a0_1 6).bind fun t202 => ((trunklineref01_Lay.f kj1 t202 (IntKind.u64.wrap (a0_2)) 4).bind fun t205 => ((trunklineref01_Lay.f kj1 t205 a0_3 6).bind fun t208 => ((trunklineref01_Lay.f kj1 t208 (IntKind.u64.wrap (a0_4)) 4).bind fun t211 => (some (t211, 0)))))) = some (r1, r2) := by first | (rw [hy199]; with_reducible exact H) | (have H2_ := (Option.bind_some _ _).symm.trans H; rw [hy199]; with_reducible exact H2_) | (have H2_ := (Option.bind_some _ _).symm.trans H; with_reducible exact H2_) | with_reducible exact H | (rw [hy199]; exact H) | exact H
        have Ny199 := Aside0.mk hy199
        clear hy199
        replace H := Option.bind_eq_some_iff.mp H
        obtain ⟨t202, A180, H⟩ := H
        replace H : ((trunklineref01_Lay.f kj1 t202 (IntKind.u64.wrap (a0_2)) 4).bind fun t205 => ((trunklineref01_Lay.f kj1 t205 a0_3 6).bind fun t208 => ((trunklineref01_Lay.f kj1 t208 (IntKind.u64.wrap (a0_4)) 4).bind fun t211 => (some (t211, 0))))) = some (r1, r2) := H
        have A18 := Aside0.mk A180
        clear A180
        replace H := Option.bind_eq_some_iff.mp H
        obtain ⟨t205, A190, H⟩ := H
        replace H : ((trunklineref01_Lay.f kj1 t205 a0_3 6).bind fun t208 => ((trunklineref01_Lay.f kj1 t208 (IntKind.u64.wrap (a0_4)) 4).bind fun t211 => (some (t211, 0)))) = some (r1, r2) := H
        have A19 := Aside0.mk A190
        clear A190
        replace H := Option.bind_eq_some_iff.mp H
        obtain ⟨t208, A200, H⟩ := H
        replace H : ((trunklineref01_Lay.f kj1 t208 (IntKind.u64.wrap (a0_4)) 4).bind fun t211 => (some (t211, 0))) = some (r1, r2) := H
        have A20 := Aside0.mk A200
        clear A200
        replace H := Option.bind_eq_some_iff.mp H
        obtain ⟨t211, A210, H⟩ := H
        replace H : (some (t211, 0)) = some (r1, r2) := H
        have A21 := Aside0.mk A210
        clear A210
        simp only [Option.some.injEq, Prod.mk.injEq] at H
        obtain ⟨rfl, rfl⟩ := H
        have hcz22_0 : wc.cell? ⟨gb194, 0, none⟩ = some (.int .i64 a0_0) := (blk_cell BK194.out 0).trans rfl
        have hcz22_1 : wc.cell? ⟨gb194, 1, none⟩ = some (.int .u64 a0_1) := (blk_cell BK194.out 1).trans rfl
        have hcz22_2 : wc.cell? ⟨gb194, 2, none⟩ = some (.int .u32 a0_2) := (blk_cell BK194.out 2).trans rfl
        have hcz22_3 : wc.cell? ⟨gb194, 3, none⟩ = some (.int .u64 a0_3) := (blk_cell BK194.out 3).trans rfl
        have hcz22_4 : wc.cell? ⟨gb194, 4, none⟩ = some (.int .u32 a0_4) := (blk_cell BK194.out 4).trans rfl
        have hfz22_0 := blk_frozen BK194.out 0
        have hfz22_1 := blk_frozen BK194.out 1
        have hfz22_2 := blk_frozen BK194.out 2
        have hfz22_3 := blk_frozen BK194.out 3
        have hfz22_4 := blk_frozen BK194.out 4
        go_wp2_with (first | ((with_reducible refine gate_dst (N := 28) rfl ?_); refine Kd.R_lit (Kd.int .u8) _ 5 ?hg (N := 28) ?hd (xs := ([0, 1, 8, 0, 6, 4, 0, (a0_0) % 256] : List Int)) (inner := [.int .u8 0, .int .u8 1, .int .u8 8, .int .u8 0, .int .u8 6, .int .u8 4, .int .u8 0, .int .u8 ((a0_0) % 256)]) (ok := fun _ => True) (okp := fun _ => True) ?hr ?hp (fun _ hk => hk) trivial (Below.refl _ _) (Nat.le_refl _) (by simp) ?_; (case hd => rfl); (case hg => rfl); (case hr => first | (go_simp; done) | (go_simp; rfl)); (case hp => exact (Reps.one (show Kd.M (Kd.int .u8) _ _ _ 0 [.int .u8 0] from rfl) (Reps.one (show Kd.M (Kd.int .u8) _ _ _ 1 [.int .u8 1] from rfl) (Reps.one (show Kd.M (Kd.int .u8) _ _ _ 8 [.int .u8 8] from rfl) (Reps.one (show Kd.M (Kd.int .u8) _ _ _ 0 [.int .u8 0] from rfl) (Reps.one (show Kd.M (Kd.int .u8) _ _ _ 6 [.int .u8 6] from rfl) (Reps.one (show Kd.M (Kd.int .u8) _ _ _ 4 [.int .u8 4] from rfl) (Reps.one (show Kd.M (Kd.int .u8) _ _ _ 0 [.int .u8 0] from rfl) (Reps.one (show Kd.M (Kd.int .u8) _ _ _ ((a0_0) % 256) [.int .u8 ((a0_0) % 256)] from rfl) (Reps.none _ _)))))))))); intro v200 w23 ho24 hb hg_ hnew_; clear hg_ hnew_; (first | rw [← Ny199.out] at ho24 | (simp only [Int.reduceToNat] at ho24; rw [← Ny199.out] at ho24)); have n0_ := Aside0.mk (Kd.R_lower ho24 (below_size (by repeat (first | (with_reducible first | exact HB.out | apply below_alloc | apply pw_below_drewN | apply below_drew1 | refine below_set ?_ GE194.out) | exact HB.out)))); have n1_ := Aside0.mk (blk_below (g := gb194) (o := .cells #[.int .i64 a0_0, .int .u64 a0_1, .int .u32 a0_2, .int .u64 a0_3, .int .u32 a0_4] 34 (0, 0)) (by (with_reducible repeat (first | refine blk_drewN ?_ _ | refine blk_drew ?_ | refine blk_alloc ?_ _)); exact BK194.out) hb); have n2_ := Aside0.mk (below_step (by repeat (first | (with_reducible first | exact HB.out | apply below_alloc | apply pw_below_drewN | apply below_drew1 | refine below_set ?_ GE194.out) | exact HB.out)) hb); clear BK194; clear HB; have HO201 := n0_; have BK194 := n1_; have HB := n2_; clear n0_ n1_ n2_; clear hb ho24; have hcz25_0 : w23.cell? ⟨gb194, 0, none⟩ = some (.int .i64 a0_0) := (blk_cell BK194.out 0).trans rfl; have hcz25_1 : w23.cell? ⟨gb194, 1, none⟩ = some (.int .u64 a0_1) := (blk_cell BK194.out 1).trans rfl; have hcz25_2 : w23.cell? ⟨gb194, 2, none⟩ = some (.int .u32 a0_2) := (blk_cell BK194.out 2).trans rfl; have hcz25_3 : w23.cell? ⟨gb194, 3, none⟩ = some (.int .u64 a0_3) := (blk_cell BK194.out 3).trans rfl; have hcz25_4 : w23.cell? ⟨gb194, 4, none⟩ = some (.int .u32 a0_4) := (blk_cell BK194.out 4).trans rfl; have hfz25_0 := blk_frozen BK194.out 0; have hfz25_1 := blk_frozen BK194.out 1; have hfz25_2 := blk_frozen BK194.out 2; have hfz25_3 := blk_frozen BK194.out 3; have hfz25_4 := blk_frozen BK194.out 4; obtain ⟨Ao26, co26, eo26⟩ := Kd.R_slice HO201.out; subst eo26) | ((with_reducible refine gate_callee (f := 26) rfl ?_); refine goesL_ (some 32) rfl rfl Try.func26 (by kernel_rfl) rfl #[.slice Ao26 y199.length co26, .int .u64 a0_1, .int .i64 6] rfl (by (try simp only [List.map_toArray, List.map_cons, List.map_nil]); first | done | rfl | (simp only [List.length_drop, List.length_take]; rfl)) ?_; (with_reducible refine (trunklineref01_Lay.calls kj1 (fun k_ => some k_ = (.slice Ao26 y199.length co26 : Value).ownBlock) (.slice Ao26 y199.length co26) y199 a0_1 6 t202 w _ ?side1 ?side2 A18.out).mono ?_); (case side1 => repeat (first | (with_reducible first | exact HB.out | apply below_alloc | apply pw_below_drewN | apply below_drew1 | refine below_set ?_ GE194.out) | exact HB.out)); (case side2 => exact Kd.R_tight rfl HO201.out); rintro e w27 ⟨v203, rfl, ho0, hb, hkp⟩; refine ⟨_, rfl, ?_⟩; have n0_ := Aside0.mk (blk_kept (by (with_reducible repeat (first | refine blk_drewN ?_ _ | refine blk_drew ?_ | refine blk_alloc ?_ _)); exact BK194.out) hkp (fun hs_ => (fun e_ => (Kd.R_ne HO201.out BK194.out (by decide)) e_) hs_)); have n1_ := Aside0.mk (Kd.R_mono (ok' := fun k_ => True) ho0 (fun k_ hk_ => trivial)); have n2_ := Aside0.mk (hb); clear BK194; clear HB; clear HO201; have BK194 := n0_; have HO204 := n1_; have HB := n2_; clear n0_ n1_ n2_; (try clear hb); (try clear hkp); (try clear ho0); have hcz28_0 : w27.cell? ⟨gb194, 0, none⟩ = some (.int .i64 a0_0) := (blk_cell BK194.out 0).trans rfl; have hcz28_1 : w27.cell? ⟨gb194, 1, none⟩ = some (.int .u64 a0_1) := (blk_cell BK194.out 1).trans rfl; have hcz28_2 : w27.cell? ⟨gb194, 2, none⟩ = some (.int .u32 a0_2) := (blk_cell BK194.out 2).trans rfl; have hcz28_3 : w27.cell? ⟨gb194, 3, none⟩ = some (.int .u64 a0_3) := (blk_cell BK194.out 3).trans rfl; have hcz28_4 : w27.cell? ⟨gb194, 4, none⟩ = some (.int .u32 a0_4) := (blk_cell BK194.out 4).trans rfl; have hfz28_0 := blk_frozen BK194.out 0; have hfz28_1 := blk_frozen BK194.out 1; have hfz28_2 := blk_frozen BK194.out 2; have hfz28_3 := blk_frozen BK194.out 3; have hfz28_4 := blk_frozen BK194.out 4; obtain ⟨Ao29, co29, eo29⟩ := Kd.R_slice HO204.out; subst eo29) | ((with_reducible refine gate_callee (f := 26) rfl ?_); refine goesL_ (some 37) rfl rfl Try.func26 (by kernel_rfl) rfl #[.slice Ao29 t202.length co29, .int .u64 (IntKind.u64.wrap (a0_2)), .int .i64 4] rfl (by (try simp only [List.map_toArray, List.map_cons, List.map_nil]); first | done | rfl | (simp only [List.length_drop, List.length_take]; rfl)) ?_; (with_reducible refine (trunklineref01_Lay.calls kj1 (fun k_ => some k_ = (.slice Ao29 t202.length co29 : Value).ownBlock) (.slice Ao29 t202.length co29) t202 (IntKind.u64.wrap (a0_2)) 4 t205 w _ ?side1 ?side2 A19.out).mono ?_); (case side1 => repeat (first | (with_reducible first | exact HB.out | apply below_alloc | apply pw_below_drewN | apply below_drew1 | refine below_set ?_ GE194.out) | exact HB.out)); (case side2 => exact Kd.R_tight rfl HO204.out); rintro e w30 ⟨v206, rfl, ho0, hb, hkp⟩; refine ⟨_, rfl, ?_⟩; have n0_ := Aside0.mk (blk_kept (by (with_reducible repeat (first | refine blk_drewN ?_ _ | refine blk_drew ?_ | refine blk_alloc ?_ _)); exact BK194.out) hkp (fun hs_ => (fun e_ => (Kd.R_ne HO204.out BK194.out (by decide)) e_) hs_)); have n1_ := Aside0.mk (Kd.R_mono (ok' := fun k_ => True) ho0 (fun k_ hk_ => trivial)); have n2_ := Aside0.mk (hb); clear BK194; clear HB; clear HO204; have BK194 := n0_; have HO207 := n1_; have HB := n2_; clear n0_ n1_ n2_; (try clear hb); (try clear hkp); (try clear ho0); have hcz31_0 : w30.cell? ⟨gb194, 0, none⟩ = some (.int .i64 a0_0) := (blk_cell BK194.out 0).trans rfl; have hcz31_1 : w30.cell? ⟨gb194, 1, none⟩ = some (.int .u64 a0_1) := (blk_cell BK194.out 1).trans rfl; have hcz31_2 : w30.cell? ⟨gb194, 2, none⟩ = some (.int .u32 a0_2) := (blk_cell BK194.out 2).trans rfl; have hcz31_3 : w30.cell? ⟨gb194, 3, none⟩ = some (.int .u64 a0_3) := (blk_cell BK194.out 3).trans rfl; have hcz31_4 : w30.cell? ⟨gb194, 4, none⟩ = some (.int .u32 a0_4) := (blk_cell BK194.out 4).trans rfl; have hfz31_0 := blk_frozen BK194.out 0; have hfz31_1 := blk_frozen BK194.out 1; have hfz31_2 := blk_frozen BK194.out 2; have hfz31_3 := blk_frozen BK194.out 3; have hfz31_4 := blk_frozen BK194.out 4; obtain ⟨Ao32, co32, eo32⟩ := Kd.R_slice HO207.out; subst eo32) | ((with_reducible refine gate_callee (f := 26) rfl ?_); refine goesL_ (some 41) rfl rfl Try.func26 (by kernel_rfl) rfl #[.slice Ao32 t205.length co32, .int .u64 a0_3, .int .i64 6] rfl (by (try simp only [List.map_toArray, List.map_cons, List.map_nil]); first | done | rfl | (simp only [List.length_drop, List.length_take]; rfl)) ?_; (with_reducible refine (trunklineref01_Lay.calls kj1 (fun k_ => some k_ = (.slice Ao32 t205.length co32 : Value).ownBlock) (.slice Ao32 t205.length co32) t205 a0_3 6 t208 w _ ?side1 ?side2 A20.out).mono ?_); (case side1 => repeat (first | (with_reducible first | exact HB.out | apply below_alloc | apply pw_below_drewN | apply below_drew1 | refine below_set ?_ GE194.out) | exact HB.out)); (case side2 => exact Kd.R_tight rfl HO207.out); rintro e w33 ⟨v209, rfl, ho0, hb, hkp⟩; refine ⟨_, rfl, ?_⟩; have n0_ := Aside0.mk (blk_kept (by (with_reducible repeat (first | refine blk_drewN ?_ _ | refine blk_drew ?_ | refine blk_alloc ?_ _)); exact BK194.out) hkp (fun hs_ => (fun e_ => (Kd.R_ne HO207.out BK194.out (by decide)) e_) hs_)); have n1_ := Aside0.mk (Kd.R_mono (ok' := fun k_ => True) ho0 (fun k_ hk_ => trivial)); have n2_ := Aside0.mk (hb); clear BK194; clear HB; clear HO207; have BK194 := n0_; have HO210 := n1_; have HB := n2_; clear n0_ n1_ n2_; (try clear hb); (try clear hkp); (try clear ho0); have hcz34_0 : w33.cell? ⟨gb194, 0, none⟩ = some (.int .i64 a0_0) := (blk_cell BK194.out 0).trans rfl; have hcz34_1 : w33.cell? ⟨gb194, 1, none⟩ = some (.int .u64 a0_1) := (blk_cell BK194.out 1).trans rfl; have hcz34_2 : w33.cell? ⟨gb194, 2, none⟩ = some (.int .u32 a0_2) := (blk_cell BK194.out 2).trans rfl; have hcz34_3 : w33.cell? ⟨gb194, 3, none⟩ = some (.int .u64 a0_3) := (blk_cell BK194.out 3).trans rfl; have hcz34_4 : w33.cell? ⟨gb194, 4, none⟩ = some (.int .u32 a0_4) := (blk_cell BK194.out 4).trans rfl; have hfz34_0 := blk_frozen BK194.out 0; have hfz34_1 := blk_frozen BK194.out 1; have hfz34_2 := blk_frozen BK194.out 2; have hfz34_3 := blk_frozen BK194.out 3; have hfz34_4 := blk_frozen BK194.out 4; obtain ⟨Ao35, co35, eo35⟩ := Kd.R_slice HO210.out; subst eo35) | ((with_reducible refine gate_callee (f := 26) rfl ?_); refine goesL_ (some 46) rfl rfl Try.func26 (by kernel_rfl) rfl #[.slice Ao35 t208.length co35, .int .u64 (IntKind.u64.wrap (a0_4)), .int .i64 4] rfl (by (try simp only [List.map_toArray, List.map_cons, List.map_nil]); first | done | rfl | (simp only [List.length_drop, List.length_take]; rfl)) ?_; (with_reducible refine (trunklineref01_Lay.calls kj1 (fun k_ => some k_ = (.slice Ao35 t208.length co35 : Value).ownBlock) (.slice Ao35 t208.length co35) t208 (IntKind.u64.wrap (a0_4)) 4 t211 w _ ?side1 ?side2 A21.out).mono ?_); (case side1 => repeat (first | (with_reducible first | exact HB.out | apply below_alloc | apply pw_below_drewN | apply below_drew1 | refine below_set ?_ GE194.out) | exact HB.out)); (case side2 => exact Kd.R_tight rfl HO210.out); rintro e w36 ⟨v212, rfl, ho0, hb, hkp⟩; refine ⟨_, rfl, ?_⟩; have n0_ := Aside0.mk (blk_kept (by (with_reducible repeat (first | refine blk_drewN ?_ _ | refine blk_drew ?_ | refine blk_alloc ?_ _)); exact BK194.out) hkp (fun hs_ => (fun e_ => (Kd.R_ne HO210.out BK194.out (by decide)) e_) hs_)); have n1_ := Aside0.mk (Kd.R_mono (ok' := fun k_ => True) ho0 (fun k_ hk_ => trivial)); have n2_ := Aside0.mk (hb); clear BK194; clear HB; clear HO210; have BK194 := n0_; have HO213 := n1_; have HB := n2_; clear n0_ n1_ n2_; (try clear hb); (try clear hkp); (try clear ho0)))
        go_ret2
        exact ⟨_, by first | rfl | (simp [errW_none, errW_some] <;> rfl) | (simp [*, errW_none, errW_some] <;> rfl), by (with_reducible repeat (first | apply Kd.R_alloc | apply Kd.R_drewN | apply Kd.R_drew)); exact HO213.out, by repeat (first | (with_reducible first | exact HB.out | apply below_alloc | apply pw_below_drewN | apply below_drew1 | refine below_set ?_ GE194.out) | exact HB.out)⟩

end Go.Proofs.Ytnfbbnmdlcmifaa.M
