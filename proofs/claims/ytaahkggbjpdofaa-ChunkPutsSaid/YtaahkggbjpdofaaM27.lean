-- Printed by this session's mp.py over the kit's print (turned in memory). Not trusted: Lean checks it.
import Derived.Test.YtaahkggbjpdofaaM0
import Derived.Test.YtaahkggbjpdofaaM26
import Derived.Test.YtaahkggbjpdofaaHOddF
namespace Go.Proofs.Ytaahkggbjpdofaa.M
open Go.RowKit Go.Proofs.YtaahkggbjpdofaaW.PrintWords Go.Proofs.YtaahkggbjpdofaaW.PrintLast Go.Proofs.YtaahkggbjpdofaaW.PrintMore
attribute [local go_sem] max2_int min2_int max_two min_two max_three min_three max_four min_four   -- for this text's walks alone
set_option linter.unusedVariables false
set_option linter.unusedSimpArgs false

/-! ### trunklineref12_Check: function 13 -/
mutual
def trunklineref12_Check.j0 : Nat → Bool → Int → Int → Int → Int → Int → Int → Int → Int → Int → Int → List (S101) → List Int → List (S48) → List Int → Option (Int)
  | 0, _, _, _, _, _, _, _, _, _, _, _, _, _, _, _ => none
  | k + 1, x16, x241000, x241001, x241002, x241003, x241004, x241005, x241006, x241007, x241008, x241009, x241010, x241011, x241012, x241013 => if x16 = true then (some 2) else (if (x241012.length : Int) > 16 then (trunklineref12_Check.j1 k true x241000 x241001 x241002 x241003 x241004 x241005 x241006 x241007 x241008 x241009 x241010 x241011 x241012 x241013) else (if (x241010.length : Int) > 16 then (trunklineref12_Check.j1 k true x241000 x241001 x241002 x241003 x241004 x241005 x241006 x241007 x241008 x241009 x241010 x241011 x241012 x241013) else (if (x241011.length : Int) > 16 then (trunklineref12_Check.j1 k true x241000 x241001 x241002 x241003 x241004 x241005 x241006 x241007 x241008 x241009 x241010 x241011 x241012 x241013) else (trunklineref12_Check.j1 k (decide ((x241013.length : Int) > 1480)) x241000 x241001 x241002 x241003 x241004 x241005 x241006 x241007 x241008 x241009 x241010 x241011 x241012 x241013))))
def trunklineref12_Check.j1 : Nat → Bool → Int → Int → Int → Int → Int → Int → Int → Int → Int → Int → List (S101) → List Int → List (S48) → List Int → Option (Int)
  | 0, _, _, _, _, _, _, _, _, _, _, _, _, _, _, _ => none
  | k + 1, x38, x241000, x241001, x241002, x241003, x241004, x241005, x241006, x241007, x241008, x241009, x241010, x241011, x241012, x241013 => if x38 = true then (some 6) else (trunklineref12_Check.l0 k 0 x241000 x241001 x241002 x241003 x241004 x241005 x241006 x241007 x241008 x241009 x241010 x241011 x241012 x241013)
def trunklineref12_Check.l0 : Nat → Int → Int → Int → Int → Int → Int → Int → Int → Int → Int → Int → List (S101) → List Int → List (S48) → List Int → Option (Int)
  | 0, _, _, _, _, _, _, _, _, _, _, _, _, _, _, _ => none
  | k + 1, x3, x241000, x241001, x241002, x241003, x241004, x241005, x241006, x241007, x241008, x241009, x241010, x241011, x241012, x241013 => if x3 < (x241012.length : Int) then (if 0 ≤ x3 then (if (((rd_T48 x241012 x3).f1).length : Int) > 1480 then (some 6) else (trunklineref12_Check.l0 k (wrap64 (x3 + 1)) x241000 x241001 x241002 x241003 x241004 x241005 x241006 x241007 x241008 x241009 x241010 x241011 x241012 x241013)) else (none)) else ((trunklineref12_Bytes.f k x241000 x241001 x241002 x241003 x241004 x241005 x241006 x241007 x241008 x241009 x241010 x241011 x241012 x241013).bind fun t243 => (if (t243.length : Int) > 1468 then (some 6) else (some 0)))
end
def trunklineref12_Check.f (k : Nat) (a0_0 : Int) (a0_1 : Int) (a0_2 : Int) (a0_3 : Int) (a0_4 : Int) (a0_5 : Int) (a0_6 : Int) (a0_7 : Int) (a0_8 : Int) (a0_9 : Int) (l0_10 : List (S101)) (l0_11 : List Int) (l0_12 : List (S48)) (l0_13 : List Int) : Option (Int) := (trunklineref12_odd.f a0_0 a0_1 a0_2 a0_3 a0_4 a0_5 a0_6 a0_7 a0_8 a0_9 l0_10 l0_11 l0_12 l0_13).bind fun t241 => (if t241 = true then (trunklineref12_Check.j0 k true a0_0 a0_1 a0_2 a0_3 a0_4 a0_5 a0_6 a0_7 a0_8 a0_9 l0_10 l0_11 l0_12 l0_13) else (if a0_0 = 0 then (trunklineref12_Check.j0 k ((l0_13.length : Int) == 0) a0_0 a0_1 a0_2 a0_3 a0_4 a0_5 a0_6 a0_7 a0_8 a0_9 l0_10 l0_11 l0_12 l0_13) else (trunklineref12_Check.j0 k false a0_0 a0_1 a0_2 a0_3 a0_4 a0_5 a0_6 a0_7 a0_8 a0_9 l0_10 l0_11 l0_12 l0_13)))
theorem trunklineref12_Check.mono_l : ∀ k, (∀ y0 y1 y2 y3 y4 y5 y6 y7 y8 y9 y10 y11 y12 y13 y14, LeO (trunklineref12_Check.j0 k y0 y1 y2 y3 y4 y5 y6 y7 y8 y9 y10 y11 y12 y13 y14) (trunklineref12_Check.j0 (k + 1) y0 y1 y2 y3 y4 y5 y6 y7 y8 y9 y10 y11 y12 y13 y14)) ∧ (∀ y0 y1 y2 y3 y4 y5 y6 y7 y8 y9 y10 y11 y12 y13 y14, LeO (trunklineref12_Check.j1 k y0 y1 y2 y3 y4 y5 y6 y7 y8 y9 y10 y11 y12 y13 y14) (trunklineref12_Check.j1 (k + 1) y0 y1 y2 y3 y4 y5 y6 y7 y8 y9 y10 y11 y12 y13 y14)) ∧ (∀ y0 y1 y2 y3 y4 y5 y6 y7 y8 y9 y10 y11 y12 y13 y14, LeO (trunklineref12_Check.l0 k y0 y1 y2 y3 y4 y5 y6 y7 y8 y9 y10 y11 y12 y13 y14) (trunklineref12_Check.l0 (k + 1) y0 y1 y2 y3 y4 y5 y6 y7 y8 y9 y10 y11 y12 y13 y14))
  | 0 => ⟨fun _ _ _ _ _ _ _ _ _ _ _ _ _ _ _ r h => by simp [trunklineref12_Check.j0] at h, fun _ _ _ _ _ _ _ _ _ _ _ _ _ _ _ r h => by simp [trunklineref12_Check.j1] at h, fun _ _ _ _ _ _ _ _ _ _ _ _ _ _ _ r h => by simp [trunklineref12_Check.l0] at h⟩
  | k + 1 => by
    obtain ⟨ih0, ih1, ih2⟩ := trunklineref12_Check.mono_l k
    refine ⟨?_, ?_, ?_⟩
    · intro y0 y1 y2 y3 y4 y5 y6 y7 y8 y9 y10 y11 y12 y13 y14
      unfold trunklineref12_Check.j0
      repeat' first
      | (with_reducible exact ih0 _ _ _ _ _ _ _ _ _ _ _ _ _ _ _)
      | (with_reducible exact ih1 _ _ _ _ _ _ _ _ _ _ _ _ _ _ _)
      | (with_reducible exact ih2 _ _ _ _ _ _ _ _ _ _ _ _ _ _ _)
      | (with_reducible exact trunklineref12_Bytes.mono _ _ _ _ _ _ _ _ _ _ _ _ _ _ _)
      | (with_reducible exact LeO.refl _)
      | (with_reducible exact LeO.none _)
      | (with_reducible refine LeO.ite ?_ ?_)
      | (with_reducible refine LeO.bind ?_ (fun _ => ?_))
      | exact ih0 _ _ _ _ _ _ _ _ _ _ _ _ _ _ _
      | exact ih1 _ _ _ _ _ _ _ _ _ _ _ _ _ _ _
      | exact ih2 _ _ _ _ _ _ _ _ _ _ _ _ _ _ _
      | exact trunklineref12_Bytes.mono _ _ _ _ _ _ _ _ _ _ _ _ _ _ _
      | exact LeO.none _
      | refine LeO.ite ?_ ?_
      | refine LeO.bind ?_ (fun _ => ?_)
    · intro y0 y1 y2 y3 y4 y5 y6 y7 y8 y9 y10 y11 y12 y13 y14
      unfold trunklineref12_Check.j1
      repeat' first
      | (with_reducible exact ih0 _ _ _ _ _ _ _ _ _ _ _ _ _ _ _)
      | (with_reducible exact ih1 _ _ _ _ _ _ _ _ _ _ _ _ _ _ _)
      | (with_reducible exact ih2 _ _ _ _ _ _ _ _ _ _ _ _ _ _ _)
      | (with_reducible exact trunklineref12_Bytes.mono _ _ _ _ _ _ _ _ _ _ _ _ _ _ _)
      | (with_reducible exact LeO.refl _)
      | (with_reducible exact LeO.none _)
      | (with_reducible refine LeO.ite ?_ ?_)
      | (with_reducible refine LeO.bind ?_ (fun _ => ?_))
      | exact ih0 _ _ _ _ _ _ _ _ _ _ _ _ _ _ _
      | exact ih1 _ _ _ _ _ _ _ _ _ _ _ _ _ _ _
      | exact ih2 _ _ _ _ _ _ _ _ _ _ _ _ _ _ _
      | exact trunklineref12_Bytes.mono _ _ _ _ _ _ _ _ _ _ _ _ _ _ _
      | exact LeO.none _
      | refine LeO.ite ?_ ?_
      | refine LeO.bind ?_ (fun _ => ?_)
    · intro y0 y1 y2 y3 y4 y5 y6 y7 y8 y9 y10 y11 y12 y13 y14
      unfold trunklineref12_Check.l0
      repeat' first
      | (with_reducible exact ih0 _ _ _ _ _ _ _ _ _ _ _ _ _ _ _)
      | (with_reducible exact ih1 _ _ _ _ _ _ _ _ _ _ _ _ _ _ _)
      | (with_reducible exact ih2 _ _ _ _ _ _ _ _ _ _ _ _ _ _ _)
      | (with_reducible exact trunklineref12_Bytes.mono _ _ _ _ _ _ _ _ _ _ _ _ _ _ _)
      | (with_reducible exact LeO.refl _)
      | (with_reducible exact LeO.none _)
      | (with_reducible refine LeO.ite ?_ ?_)
      | (with_reducible refine LeO.bind ?_ (fun _ => ?_))
      | exact ih0 _ _ _ _ _ _ _ _ _ _ _ _ _ _ _
      | exact ih1 _ _ _ _ _ _ _ _ _ _ _ _ _ _ _
      | exact ih2 _ _ _ _ _ _ _ _ _ _ _ _ _ _ _
      | exact trunklineref12_Bytes.mono _ _ _ _ _ _ _ _ _ _ _ _ _ _ _
      | exact LeO.none _
      | refine LeO.ite ?_ ?_
      | refine LeO.bind ?_ (fun _ => ?_)
theorem trunklineref12_Check.mono : ∀ a0 a1 a2 a3 a4 a5 a6 a7 a8 a9 a10 a11 a12 a13 k, LeO (trunklineref12_Check.f k a0 a1 a2 a3 a4 a5 a6 a7 a8 a9 a10 a11 a12 a13) (trunklineref12_Check.f (k + 1) a0 a1 a2 a3 a4 a5 a6 a7 a8 a9 a10 a11 a12 a13) := by
  intro a0 a1 a2 a3 a4 a5 a6 a7 a8 a9 a10 a11 a12 a13 k
  obtain ⟨ih0, ih1, ih2⟩ := trunklineref12_Check.mono_l k
  unfold trunklineref12_Check.f
  repeat' first
      | (with_reducible exact ih0 _ _ _ _ _ _ _ _ _ _ _ _ _ _ _)
      | (with_reducible exact ih1 _ _ _ _ _ _ _ _ _ _ _ _ _ _ _)
      | (with_reducible exact ih2 _ _ _ _ _ _ _ _ _ _ _ _ _ _ _)
      | (with_reducible exact trunklineref12_Bytes.mono _ _ _ _ _ _ _ _ _ _ _ _ _ _ _)
      | (with_reducible exact LeO.refl _)
      | (with_reducible exact LeO.none _)
      | (with_reducible refine LeO.ite ?_ ?_)
      | (with_reducible refine LeO.bind ?_ (fun _ => ?_))
      | exact ih0 _ _ _ _ _ _ _ _ _ _ _ _ _ _ _
      | exact ih1 _ _ _ _ _ _ _ _ _ _ _ _ _ _ _
      | exact ih2 _ _ _ _ _ _ _ _ _ _ _ _ _ _ _
      | exact trunklineref12_Bytes.mono _ _ _ _ _ _ _ _ _ _ _ _ _ _ _
      | exact LeO.none _
      | refine LeO.ite ?_ ?_
      | refine LeO.bind ?_ (fun _ => ?_)
set_option maxHeartbeats 8000000 in
set_option maxRecDepth 100000 in
theorem trunklineref12_Check.calls (k : Nat) (a0_0 : Int) (a0_1 : Int) (a0_2 : Int) (a0_3 : Int) (a0_4 : Int) (a0_5 : Int) (a0_6 : Int) (a0_7 : Int) (a0_8 : Int) (a0_9 : Int) (A0_10 : Option Addr) (c0_10 : Nat) (l0_10 : List (S101)) (A0_11 : Option Addr) (c0_11 : Nat) (l0_11 : List Int) (A0_12 : Option Addr) (c0_12 : Nat) (l0_12 : List (S48)) (A0_13 : Option Addr) (c0_13 : Nat) (l0_13 : List Int) (r : Int) (w : World) (hr0_10 : Kd.C k101 w A0_10 l0_10.length l0_10) (hc0_10 : l0_10.length ≤ c0_10) (hr0_11 : Kd.C (Kd.int .u32) w A0_11 l0_11.length l0_11) (hc0_11 : l0_11.length ≤ c0_11) (hr0_12 : Kd.C k48 w A0_12 l0_12.length l0_12) (hc0_12 : l0_12.length ≤ c0_12) (hr0_13 : Kd.C (Kd.int .u8) w A0_13 l0_13.length l0_13) (hc0_13 : l0_13.length ≤ c0_13) (h : trunklineref12_Check.f k a0_0 a0_1 a0_2 a0_3 a0_4 a0_5 a0_6 a0_7 a0_8 a0_9 l0_10 l0_11 l0_12 l0_13 = some r) :
    Calls Try.prog 13 #[.agg #[.int .u8 a0_0, .int .u8 a0_1, .int .u32 a0_2, .int .u16 a0_3, .int .u16 a0_4, .int .u32 a0_5, .int .u32 a0_6, .int .u32 a0_7, .int .u16 a0_8, .int .u16 a0_9, .slice A0_10 l0_10.length c0_10, .slice A0_11 l0_11.length c0_11, .slice A0_12 l0_12.length c0_12, .slice A0_13 l0_13.length c0_13]] w fun e w' => e = .returned (.int .i64 r) ∧ Below w.heap.size w w' := by
  have hu29 := Try.underlying29
  have HR0_10 := Aside0.mk hr0_10
  have HC0_10 := Aside0.mk hc0_10
  clear hr0_10 hc0_10
  have HR0_11 := Aside0.mk hr0_11
  have HC0_11 := Aside0.mk hc0_11
  clear hr0_11 hc0_11
  have HR0_12 := Aside0.mk hr0_12
  have HC0_12 := Aside0.mk hc0_12
  clear hr0_12 hc0_12
  have HR0_13 := Aside0.mk hr0_13
  have HC0_13 := Aside0.mk hc0_13
  clear hr0_13 hc0_13
  have HB := Aside0.mk (Below.refl w.heap.size w)
  have H : ((trunklineref12_odd.f a0_0 a0_1 a0_2 a0_3 a0_4 a0_5 a0_6 a0_7 a0_8 a0_9 l0_10 l0_11 l0_12 l0_13).bind fun t241 => (if t241 = true then (trunklineref12_Check.j0 k true a0_0 a0_1 a0_2 a0_3 a0_4 a0_5 a0_6 a0_7 a0_8 a0_9 l0_10 l0_11 l0_12 l0_13) else (if a0_0 = 0 then (trunklineref12_Check.j0 k ((l0_13.length : Int) == 0) a0_0 a0_1 a0_2 a0_3 a0_4 a0_5 a0_6 a0_7 a0_8 a0_9 l0_10 l0_11 l0_12 l0_13) else (trunklineref12_Check.j0 k false a0_0 a0_1 a0_2 a0_3 a0_4 a0_5 a0_6 a0_7 a0_8 a0_9 l0_10 l0_11 l0_12 l0_13)))) = some r := h
  clear h
  have HC2 := Aside0.mk H
  clear H
  go_enter Try.func13, Try.ntmps13
  go_upto_region 1 with (first | ((with_reducible refine gate_dst (N := 1) rfl ?_); (try (refine gate_guard (by rfl) ?_; dsimp only)); refine box_event ?hg (N := 1) ?hd (cs := #[.int .u8 a0_0, .int .u8 a0_1, .int .u32 a0_2, .int .u16 a0_3, .int .u16 a0_4, .int .u32 a0_5, .int .u32 a0_6, .int .u32 a0_7, .int .u16 a0_8, .int .u16 a0_9, .slice A0_10 l0_10.length c0_10, .slice A0_11 l0_11.length c0_11, .slice A0_12 l0_12.length c0_12, .slice A0_13 l0_13.length c0_13]) (t := 29) ?hr ?_; (case hd => rfl); (case hg => rfl); (case hr => first | (go_simp; done) | (go_simp; rfl)); intro gb240 hg w3 hbox hb; have n0_ := Aside0.mk (below_step (by repeat (first | (with_reducible first | exact HB.out | apply below_alloc | apply pw_below_drewN | apply below_drew1) | exact HB.out)) hb); have n1_ := Aside0.mk (hbox); have n2_ := Aside0.mk ((by rw [hg]; exact (below_size (by repeat (first | (with_reducible first | exact HB.out | apply below_alloc | apply pw_below_drewN | apply below_drew1) | exact HB.out))) : w.heap.size ≤ gb240)); have n3_ := Aside0.mk ((by rw [hg]; exact (below_size (by repeat (first | (with_reducible first | exact HB.out | apply below_alloc | apply pw_below_drewN | apply below_drew1) | exact HB.out))) : w.heap.size ≤ gb240)); clear HB; have HB := n0_; have BK240 := n1_; have GW240 := n2_; have GE240 := n3_; clear n0_ n1_ n2_ n3_; clear hb hbox hg))
  (try simp only [Act.put, List.setIfInBounds_toArray, List.set_cons_zero, List.set_cons_succ])
  go_cut [16] (fun v16 wc => ∃ (kq : Nat) (x16_1 : Bool), v16 = .bool x16_1 ∧ Aside0 (trunklineref12_Check.j0 kq x16_1 a0_0 a0_1 a0_2 a0_3 a0_4 a0_5 a0_6 a0_7 a0_8 a0_9 l0_10 l0_11 l0_12 l0_13 = some r) ∧ Aside0 (kq ≤ k) ∧ Aside0 (wc.heap[gb240]? = some (.cells #[.int .u8 a0_0, .int .u8 a0_1, .int .u32 a0_2, .int .u16 a0_3, .int .u16 a0_4, .int .u32 a0_5, .int .u32 a0_6, .int .u32 a0_7, .int .u16 a0_8, .int .u16 a0_9, (.slice A0_10 l0_10.length c0_10), (.slice A0_11 l0_11.length c0_11), (.slice A0_12 l0_12.length c0_12), (.slice A0_13 l0_13.length c0_13)] 29 (0, 0))) ∧ Aside0 (Below w.heap.size w wc))
  case first =>
    have H := HC2.out
    clear HC2
    replace H := Option.bind_eq_some_iff.mp H
    obtain ⟨t241, A40, H⟩ := H
    replace H : (if t241 = true then (trunklineref12_Check.j0 k true a0_0 a0_1 a0_2 a0_3 a0_4 a0_5 a0_6 a0_7 a0_8 a0_9 l0_10 l0_11 l0_12 l0_13) else (if a0_0 = 0 then (trunklineref12_Check.j0 k ((l0_13.length : Int) == 0) a0_0 a0_1 a0_2 a0_3 a0_4 a0_5 a0_6 a0_7 a0_8 a0_9 l0_10 l0_11 l0_12 l0_13) else (trunklineref12_Check.j0 k false a0_0 a0_1 a0_2 a0_3 a0_4 a0_5 a0_6 a0_7 a0_8 a0_9 l0_10 l0_11 l0_12 l0_13))) = some r := H
    have A4 := Aside0.mk A40
    clear A40
    by_cases c5 : t241 = true
    · subst c5
      have H1 : (trunklineref12_Check.j0 k true a0_0 a0_1 a0_2 a0_3 a0_4 a0_5 a0_6 a0_7 a0_8 a0_9 l0_10 l0_11 l0_12 l0_13) = some r := by rw [if_pos rfl] at H; exact H
      clear H
      have H := H1
      clear H1
      have H' := Aside0.mk H
      clear H
      have hcz6_0 : w3.cell? ⟨gb240, 0, none⟩ = some (.int .u8 a0_0) := (blk_cell BK240.out 0).trans rfl
      have hcz6_1 : w3.cell? ⟨gb240, 1, none⟩ = some (.int .u8 a0_1) := (blk_cell BK240.out 1).trans rfl
      have hcz6_2 : w3.cell? ⟨gb240, 2, none⟩ = some (.int .u32 a0_2) := (blk_cell BK240.out 2).trans rfl
      have hcz6_3 : w3.cell? ⟨gb240, 3, none⟩ = some (.int .u16 a0_3) := (blk_cell BK240.out 3).trans rfl
      have hcz6_4 : w3.cell? ⟨gb240, 4, none⟩ = some (.int .u16 a0_4) := (blk_cell BK240.out 4).trans rfl
      have hcz6_5 : w3.cell? ⟨gb240, 5, none⟩ = some (.int .u32 a0_5) := (blk_cell BK240.out 5).trans rfl
      have hcz6_6 : w3.cell? ⟨gb240, 6, none⟩ = some (.int .u32 a0_6) := (blk_cell BK240.out 6).trans rfl
      have hcz6_7 : w3.cell? ⟨gb240, 7, none⟩ = some (.int .u32 a0_7) := (blk_cell BK240.out 7).trans rfl
      have hcz6_8 : w3.cell? ⟨gb240, 8, none⟩ = some (.int .u16 a0_8) := (blk_cell BK240.out 8).trans rfl
      have hcz6_9 : w3.cell? ⟨gb240, 9, none⟩ = some (.int .u16 a0_9) := (blk_cell BK240.out 9).trans rfl
      have hcz6_10 : w3.cell? ⟨gb240, 10, none⟩ = some (.slice A0_10 l0_10.length c0_10) := (blk_cell BK240.out 10).trans rfl
      have hcz6_11 : w3.cell? ⟨gb240, 11, none⟩ = some (.slice A0_11 l0_11.length c0_11) := (blk_cell BK240.out 11).trans rfl
      have hcz6_12 : w3.cell? ⟨gb240, 12, none⟩ = some (.slice A0_12 l0_12.length c0_12) := (blk_cell BK240.out 12).trans rfl
      have hcz6_13 : w3.cell? ⟨gb240, 13, none⟩ = some (.slice A0_13 l0_13.length c0_13) := (blk_cell BK240.out 13).trans rfl
      have hfz6_0 := blk_frozen BK240.out 0
      have hfz6_1 := blk_frozen BK240.out 1
      have hfz6_2 := blk_frozen BK240.out 2
      have hfz6_3 := blk_frozen BK240.out 3
      have hfz6_4 := blk_frozen BK240.out 4
      have hfz6_5 := blk_frozen BK240.out 5
      have hfz6_6 := blk_frozen BK240.out 6
      have hfz6_7 := blk_frozen BK240.out 7
      have hfz6_8 := blk_frozen BK240.out 8
      have hfz6_9 := blk_frozen BK240.out 9
      have hfz6_10 := blk_frozen BK240.out 10
      have hfz6_11 := blk_frozen BK240.out 11
      have hfz6_12 := blk_frozen BK240.out 12
      have hfz6_13 := blk_frozen BK240.out 13
      go_wp2_with (first | ((with_reducible refine gate_callee (f := 28) rfl ?_); refine goesL_ (some 5) rfl rfl Try.func28 (by kernel_rfl) rfl #[.agg #[.int .u8 a0_0, .int .u8 a0_1, .int .u32 a0_2, .int .u16 a0_3, .int .u16 a0_4, .int .u32 a0_5, .int .u32 a0_6, .int .u32 a0_7, .int .u16 a0_8, .int .u16 a0_9, .slice A0_10 l0_10.length c0_10, .slice A0_11 l0_11.length c0_11, .slice A0_12 l0_12.length c0_12, .slice A0_13 l0_13.length c0_13]] rfl (by (try simp only [List.map_toArray, List.map_cons, List.map_nil]); first | done | rfl | (simp only [List.length_drop, List.length_take]; rfl)) ?_; (with_reducible refine (trunklineref12_odd.calls a0_0 a0_1 a0_2 a0_3 a0_4 a0_5 a0_6 a0_7 a0_8 a0_9 _ _ l0_10 _ _ l0_11 _ _ l0_12 _ _ l0_13 true _ ?side1 ?side2 ?side3 ?side4 ?side5 ?side6 ?side7 ?side8 A4.out).mono ?_); (case side1 => repeat (first | exact (Kd.C_below HR0_10.out HB.out) | (with_reducible refine Kd.C_alloc ?_ _) | (with_reducible refine Kd.C_drewN ?_ _) | (with_reducible refine Kd.C_drew ?_))); (case side2 => exact HC0_10.out); (case side3 => repeat (first | exact (Kd.C_below HR0_11.out HB.out) | (with_reducible refine Kd.C_alloc ?_ _) | (with_reducible refine Kd.C_drewN ?_ _) | (with_reducible refine Kd.C_drew ?_))); (case side4 => exact HC0_11.out); (case side5 => repeat (first | exact (Kd.C_below HR0_12.out HB.out) | (with_reducible refine Kd.C_alloc ?_ _) | (with_reducible refine Kd.C_drewN ?_ _) | (with_reducible refine Kd.C_drew ?_))); (case side6 => exact HC0_12.out); (case side7 => repeat (first | exact (Kd.C_below HR0_13.out HB.out) | (with_reducible refine Kd.C_alloc ?_ _) | (with_reducible refine Kd.C_drewN ?_ _) | (with_reducible refine Kd.C_drew ?_))); (case side8 => exact HC0_13.out); rintro e w7 ⟨rfl, hb⟩; refine ⟨_, rfl, ?_⟩; have n0_ := Aside0.mk (blk_below (g := gb240) (o := .cells #[.int .u8 a0_0, .int .u8 a0_1, .int .u32 a0_2, .int .u16 a0_3, .int .u16 a0_4, .int .u32 a0_5, .int .u32 a0_6, .int .u32 a0_7, .int .u16 a0_8, .int .u16 a0_9, .slice A0_10 l0_10.length c0_10, .slice A0_11 l0_11.length c0_11, .slice A0_12 l0_12.length c0_12, .slice A0_13 l0_13.length c0_13] 29 (0, 0)) (by (with_reducible repeat (first | refine blk_drewN ?_ _ | refine blk_drew ?_ | refine blk_alloc ?_ _)); exact BK240.out) hb); have n1_ := Aside0.mk (below_step (by repeat (first | (with_reducible first | exact HB.out | apply below_alloc | apply pw_below_drewN | apply below_drew1 | refine below_set ?_ GE240.out) | exact HB.out)) hb); clear BK240; clear HB; have BK240 := n0_; have HB := n1_; clear n0_ n1_; (try clear hb); (try clear hb2); (try clear hk); (try clear hi)))
      go_meet
      case rel => exact ⟨_, (true), (by first | rfl | (simp; done) | (simp [*]; done)), H', ⟨by first | omega | exact Nat.le_refl _⟩, ⟨by (with_reducible repeat (first | refine blk_drewN ?_ _ | refine blk_drew ?_ | refine blk_alloc ?_ _)); exact BK240.out⟩, ⟨by repeat (first | (with_reducible first | exact HB.out | apply below_alloc | apply pw_below_drewN | apply below_drew1 | refine below_set ?_ GE240.out) | exact HB.out)⟩⟩
    · replace c5 := Bool.eq_false_iff.mpr c5
      subst c5
      have H1 : (if a0_0 = 0 then (trunklineref12_Check.j0 k ((l0_13.length : Int) == 0) a0_0 a0_1 a0_2 a0_3 a0_4 a0_5 a0_6 a0_7 a0_8 a0_9 l0_10 l0_11 l0_12 l0_13) else (trunklineref12_Check.j0 k false a0_0 a0_1 a0_2 a0_3 a0_4 a0_5 a0_6 a0_7 a0_8 a0_9 l0_10 l0_11 l0_12 l0_13)) = some r := by rw [if_neg (show ¬ (false = true) by decide)] at H; exact H
      clear H
      have H := H1
      clear H1
      by_cases c8 : a0_0 = 0
      · rw [if_pos c8] at H
        have c8b0 : (a0_0 == 0) = true := beq_iff_eq.mpr c8
        have c8b1 : (a0_0 != 0) = false := bne_eq_false_iff_eq.mpr c8
        clear c8
        (first | rw [c8b0] | (simp only [i64_w, i32_w]; rw [c8b0]) | skip)
        have H' := Aside0.mk H
        clear H
        have hcz9_0 : w3.cell? ⟨gb240, 0, none⟩ = some (.int .u8 a0_0) := (blk_cell BK240.out 0).trans rfl
        have hcz9_1 : w3.cell? ⟨gb240, 1, none⟩ = some (.int .u8 a0_1) := (blk_cell BK240.out 1).trans rfl
        have hcz9_2 : w3.cell? ⟨gb240, 2, none⟩ = some (.int .u32 a0_2) := (blk_cell BK240.out 2).trans rfl
        have hcz9_3 : w3.cell? ⟨gb240, 3, none⟩ = some (.int .u16 a0_3) := (blk_cell BK240.out 3).trans rfl
        have hcz9_4 : w3.cell? ⟨gb240, 4, none⟩ = some (.int .u16 a0_4) := (blk_cell BK240.out 4).trans rfl
        have hcz9_5 : w3.cell? ⟨gb240, 5, none⟩ = some (.int .u32 a0_5) := (blk_cell BK240.out 5).trans rfl
        have hcz9_6 : w3.cell? ⟨gb240, 6, none⟩ = some (.int .u32 a0_6) := (blk_cell BK240.out 6).trans rfl
        have hcz9_7 : w3.cell? ⟨gb240, 7, none⟩ = some (.int .u32 a0_7) := (blk_cell BK240.out 7).trans rfl
        have hcz9_8 : w3.cell? ⟨gb240, 8, none⟩ = some (.int .u16 a0_8) := (blk_cell BK240.out 8).trans rfl
        have hcz9_9 : w3.cell? ⟨gb240, 9, none⟩ = some (.int .u16 a0_9) := (blk_cell BK240.out 9).trans rfl
        have hcz9_10 : w3.cell? ⟨gb240, 10, none⟩ = some (.slice A0_10 l0_10.length c0_10) := (blk_cell BK240.out 10).trans rfl
        have hcz9_11 : w3.cell? ⟨gb240, 11, none⟩ = some (.slice A0_11 l0_11.length c0_11) := (blk_cell BK240.out 11).trans rfl
        have hcz9_12 : w3.cell? ⟨gb240, 12, none⟩ = some (.slice A0_12 l0_12.length c0_12) := (blk_cell BK240.out 12).trans rfl
        have hcz9_13 : w3.cell? ⟨gb240, 13, none⟩ = some (.slice A0_13 l0_13.length c0_13) := (blk_cell BK240.out 13).trans rfl
        have hfz9_0 := blk_frozen BK240.out 0
        have hfz9_1 := blk_frozen BK240.out 1
        have hfz9_2 := blk_frozen BK240.out 2
        have hfz9_3 := blk_frozen BK240.out 3
        have hfz9_4 := blk_frozen BK240.out 4
        have hfz9_5 := blk_frozen BK240.out 5
        have hfz9_6 := blk_frozen BK240.out 6
        have hfz9_7 := blk_frozen BK240.out 7
        have hfz9_8 := blk_frozen BK240.out 8
        have hfz9_9 := blk_frozen BK240.out 9
        have hfz9_10 := blk_frozen BK240.out 10
        have hfz9_11 := blk_frozen BK240.out 11
        have hfz9_12 := blk_frozen BK240.out 12
        have hfz9_13 := blk_frozen BK240.out 13
        go_wp2_with (first | ((with_reducible refine gate_callee (f := 28) rfl ?_); refine goesL_ (some 5) rfl rfl Try.func28 (by kernel_rfl) rfl #[.agg #[.int .u8 a0_0, .int .u8 a0_1, .int .u32 a0_2, .int .u16 a0_3, .int .u16 a0_4, .int .u32 a0_5, .int .u32 a0_6, .int .u32 a0_7, .int .u16 a0_8, .int .u16 a0_9, .slice A0_10 l0_10.length c0_10, .slice A0_11 l0_11.length c0_11, .slice A0_12 l0_12.length c0_12, .slice A0_13 l0_13.length c0_13]] rfl (by (try simp only [List.map_toArray, List.map_cons, List.map_nil]); first | done | rfl | (simp only [List.length_drop, List.length_take]; rfl)) ?_; (with_reducible refine (trunklineref12_odd.calls a0_0 a0_1 a0_2 a0_3 a0_4 a0_5 a0_6 a0_7 a0_8 a0_9 _ _ l0_10 _ _ l0_11 _ _ l0_12 _ _ l0_13 false _ ?side1 ?side2 ?side3 ?side4 ?side5 ?side6 ?side7 ?side8 A4.out).mono ?_); (case side1 => repeat (first | exact (Kd.C_below HR0_10.out HB.out) | (with_reducible refine Kd.C_alloc ?_ _) | (with_reducible refine Kd.C_drewN ?_ _) | (with_reducible refine Kd.C_drew ?_))); (case side2 => exact HC0_10.out); (case side3 => repeat (first | exact (Kd.C_below HR0_11.out HB.out) | (with_reducible refine Kd.C_alloc ?_ _) | (with_reducible refine Kd.C_drewN ?_ _) | (with_reducible refine Kd.C_drew ?_))); (case side4 => exact HC0_11.out); (case side5 => repeat (first | exact (Kd.C_below HR0_12.out HB.out) | (with_reducible refine Kd.C_alloc ?_ _) | (with_reducible refine Kd.C_drewN ?_ _) | (with_reducible refine Kd.C_drew ?_))); (case side6 => exact HC0_12.out); (case side7 => repeat (first | exact (Kd.C_below HR0_13.out HB.out) | (with_reducible refine Kd.C_alloc ?_ _) | (with_reducible refine Kd.C_drewN ?_ _) | (with_reducible refine Kd.C_drew ?_))); (case side8 => exact HC0_13.out); rintro e w10 ⟨rfl, hb⟩; refine ⟨_, rfl, ?_⟩; have n0_ := Aside0.mk (blk_below (g := gb240) (o := .cells #[.int .u8 a0_0, .int .u8 a0_1, .int .u32 a0_2, .int .u16 a0_3, .int .u16 a0_4, .int .u32 a0_5, .int .u32 a0_6, .int .u32 a0_7, .int .u16 a0_8, .int .u16 a0_9, .slice A0_10 l0_10.length c0_10, .slice A0_11 l0_11.length c0_11, .slice A0_12 l0_12.length c0_12, .slice A0_13 l0_13.length c0_13] 29 (0, 0)) (by (with_reducible repeat (first | refine blk_drewN ?_ _ | refine blk_drew ?_ | refine blk_alloc ?_ _)); exact BK240.out) hb); have n1_ := Aside0.mk (below_step (by repeat (first | (with_reducible first | exact HB.out | apply below_alloc | apply pw_below_drewN | apply below_drew1 | refine below_set ?_ GE240.out) | exact HB.out)) hb); clear BK240; clear HB; have BK240 := n0_; have HB := n1_; clear n0_ n1_; (try clear hb); (try clear hb2); (try clear hk); (try clear hi); have hcz11_0 : w10.cell? ⟨gb240, 0, none⟩ = some (.int .u8 a0_0) := (blk_cell BK240.out 0).trans rfl; have hcz11_1 : w10.cell? ⟨gb240, 1, none⟩ = some (.int .u8 a0_1) := (blk_cell BK240.out 1).trans rfl; have hcz11_2 : w10.cell? ⟨gb240, 2, none⟩ = some (.int .u32 a0_2) := (blk_cell BK240.out 2).trans rfl; have hcz11_3 : w10.cell? ⟨gb240, 3, none⟩ = some (.int .u16 a0_3) := (blk_cell BK240.out 3).trans rfl; have hcz11_4 : w10.cell? ⟨gb240, 4, none⟩ = some (.int .u16 a0_4) := (blk_cell BK240.out 4).trans rfl; have hcz11_5 : w10.cell? ⟨gb240, 5, none⟩ = some (.int .u32 a0_5) := (blk_cell BK240.out 5).trans rfl; have hcz11_6 : w10.cell? ⟨gb240, 6, none⟩ = some (.int .u32 a0_6) := (blk_cell BK240.out 6).trans rfl; have hcz11_7 : w10.cell? ⟨gb240, 7, none⟩ = some (.int .u32 a0_7) := (blk_cell BK240.out 7).trans rfl; have hcz11_8 : w10.cell? ⟨gb240, 8, none⟩ = some (.int .u16 a0_8) := (blk_cell BK240.out 8).trans rfl; have hcz11_9 : w10.cell? ⟨gb240, 9, none⟩ = some (.int .u16 a0_9) := (blk_cell BK240.out 9).trans rfl; have hcz11_10 : w10.cell? ⟨gb240, 10, none⟩ = some (.slice A0_10 l0_10.length c0_10) := (blk_cell BK240.out 10).trans rfl; have hcz11_11 : w10.cell? ⟨gb240, 11, none⟩ = some (.slice A0_11 l0_11.length c0_11) := (blk_cell BK240.out 11).trans rfl; have hcz11_12 : w10.cell? ⟨gb240, 12, none⟩ = some (.slice A0_12 l0_12.length c0_12) := (blk_cell BK240.out 12).trans rfl; have hcz11_13 : w10.cell? ⟨gb240, 13, none⟩ = some (.slice A0_13 l0_13.length c0_13) := (blk_cell BK240.out 13).trans rfl; have hfz11_0 := blk_frozen BK240.out 0; have hfz11_1 := blk_frozen BK240.out 1; have hfz11_2 := blk_frozen BK240.out 2; have hfz11_3 := blk_frozen BK240.out 3; have hfz11_4 := blk_frozen BK240.out 4; have hfz11_5 := blk_frozen BK240.out 5; have hfz11_6 := blk_frozen BK240.out 6; have hfz11_7 := blk_frozen BK240.out 7; have hfz11_8 := blk_frozen BK240.out 8; have hfz11_9 := blk_frozen BK240.out 9; have hfz11_10 := blk_frozen BK240.out 10; have hfz11_11 := blk_frozen BK240.out 11; have hfz11_12 := blk_frozen BK240.out 12; have hfz11_13 := blk_frozen BK240.out 13))
        go_meet
        case rel => exact ⟨_, (((l0_13.length : Int) == 0)), (by first | rfl | (simp; done) | (simp [*]; done)), H', ⟨by first | omega | exact Nat.le_refl _⟩, ⟨by (with_reducible repeat (first | refine blk_drewN ?_ _ | refine blk_drew ?_ | refine blk_alloc ?_ _)); exact BK240.out⟩, ⟨by repeat (first | (with_reducible first | exact HB.out | apply below_alloc | apply pw_below_drewN | apply below_drew1 | refine below_set ?_ GE240.out) | exact HB.out)⟩⟩
      · rw [if_neg c8] at H
        have c8b0 : (a0_0 == 0) = false := beq_eq_false_iff_ne.mpr c8
        have c8b1 : (a0_0 != 0) = true := bne_iff_ne.mpr c8
        (first | rw [c8b0] | (simp only [i64_w, i32_w]; rw [c8b0]) | skip)
        have H' := Aside0.mk H
        clear H
        have hcz12_0 : w3.cell? ⟨gb240, 0, none⟩ = some (.int .u8 a0_0) := (blk_cell BK240.out 0).trans rfl
        have hcz12_1 : w3.cell? ⟨gb240, 1, none⟩ = some (.int .u8 a0_1) := (blk_cell BK240.out 1).trans rfl
        have hcz12_2 : w3.cell? ⟨gb240, 2, none⟩ = some (.int .u32 a0_2) := (blk_cell BK240.out 2).trans rfl
        have hcz12_3 : w3.cell? ⟨gb240, 3, none⟩ = some (.int .u16 a0_3) := (blk_cell BK240.out 3).trans rfl
        have hcz12_4 : w3.cell? ⟨gb240, 4, none⟩ = some (.int .u16 a0_4) := (blk_cell BK240.out 4).trans rfl
        have hcz12_5 : w3.cell? ⟨gb240, 5, none⟩ = some (.int .u32 a0_5) := (blk_cell BK240.out 5).trans rfl
        have hcz12_6 : w3.cell? ⟨gb240, 6, none⟩ = some (.int .u32 a0_6) := (blk_cell BK240.out 6).trans rfl
        have hcz12_7 : w3.cell? ⟨gb240, 7, none⟩ = some (.int .u32 a0_7) := (blk_cell BK240.out 7).trans rfl
        have hcz12_8 : w3.cell? ⟨gb240, 8, none⟩ = some (.int .u16 a0_8) := (blk_cell BK240.out 8).trans rfl
        have hcz12_9 : w3.cell? ⟨gb240, 9, none⟩ = some (.int .u16 a0_9) := (blk_cell BK240.out 9).trans rfl
        have hcz12_10 : w3.cell? ⟨gb240, 10, none⟩ = some (.slice A0_10 l0_10.length c0_10) := (blk_cell BK240.out 10).trans rfl
        have hcz12_11 : w3.cell? ⟨gb240, 11, none⟩ = some (.slice A0_11 l0_11.length c0_11) := (blk_cell BK240.out 11).trans rfl
        have hcz12_12 : w3.cell? ⟨gb240, 12, none⟩ = some (.slice A0_12 l0_12.length c0_12) := (blk_cell BK240.out 12).trans rfl
        have hcz12_13 : w3.cell? ⟨gb240, 13, none⟩ = some (.slice A0_13 l0_13.length c0_13) := (blk_cell BK240.out 13).trans rfl
        have hfz12_0 := blk_frozen BK240.out 0
        have hfz12_1 := blk_frozen BK240.out 1
        have hfz12_2 := blk_frozen BK240.out 2
        have hfz12_3 := blk_frozen BK240.out 3
        have hfz12_4 := blk_frozen BK240.out 4
        have hfz12_5 := blk_frozen BK240.out 5
        have hfz12_6 := blk_frozen BK240.out 6
        have hfz12_7 := blk_frozen BK240.out 7
        have hfz12_8 := blk_frozen BK240.out 8
        have hfz12_9 := blk_frozen BK240.out 9
        have hfz12_10 := blk_frozen BK240.out 10
        have hfz12_11 := blk_frozen BK240.out 11
        have hfz12_12 := blk_frozen BK240.out 12
        have hfz12_13 := blk_frozen BK240.out 13
        go_wp2_with (first | ((with_reducible refine gate_callee (f := 28) rfl ?_); refine goesL_ (some 5) rfl rfl Try.func28 (by kernel_rfl) rfl #[.agg #[.int .u8 a0_0, .int .u8 a0_1, .int .u32 a0_2, .int .u16 a0_3, .int .u16 a0_4, .int .u32 a0_5, .int .u32 a0_6, .int .u32 a0_7, .int .u16 a0_8, .int .u16 a0_9, .slice A0_10 l0_10.length c0_10, .slice A0_11 l0_11.length c0_11, .slice A0_12 l0_12.length c0_12, .slice A0_13 l0_13.length c0_13]] rfl (by (try simp only [List.map_toArray, List.map_cons, List.map_nil]); first | done | rfl | (simp only [List.length_drop, List.length_take]; rfl)) ?_; (with_reducible refine (trunklineref12_odd.calls a0_0 a0_1 a0_2 a0_3 a0_4 a0_5 a0_6 a0_7 a0_8 a0_9 _ _ l0_10 _ _ l0_11 _ _ l0_12 _ _ l0_13 false _ ?side1 ?side2 ?side3 ?side4 ?side5 ?side6 ?side7 ?side8 A4.out).mono ?_); (case side1 => repeat (first | exact (Kd.C_below HR0_10.out HB.out) | (with_reducible refine Kd.C_alloc ?_ _) | (with_reducible refine Kd.C_drewN ?_ _) | (with_reducible refine Kd.C_drew ?_))); (case side2 => exact HC0_10.out); (case side3 => repeat (first | exact (Kd.C_below HR0_11.out HB.out) | (with_reducible refine Kd.C_alloc ?_ _) | (with_reducible refine Kd.C_drewN ?_ _) | (with_reducible refine Kd.C_drew ?_))); (case side4 => exact HC0_11.out); (case side5 => repeat (first | exact (Kd.C_below HR0_12.out HB.out) | (with_reducible refine Kd.C_alloc ?_ _) | (with_reducible refine Kd.C_drewN ?_ _) | (with_reducible refine Kd.C_drew ?_))); (case side6 => exact HC0_12.out); (case side7 => repeat (first | exact (Kd.C_below HR0_13.out HB.out) | (with_reducible refine Kd.C_alloc ?_ _) | (with_reducible refine Kd.C_drewN ?_ _) | (with_reducible refine Kd.C_drew ?_))); (case side8 => exact HC0_13.out); rintro e w13 ⟨rfl, hb⟩; refine ⟨_, rfl, ?_⟩; have n0_ := Aside0.mk (blk_below (g := gb240) (o := .cells #[.int .u8 a0_0, .int .u8 a0_1, .int .u32 a0_2, .int .u16 a0_3, .int .u16 a0_4, .int .u32 a0_5, .int .u32 a0_6, .int .u32 a0_7, .int .u16 a0_8, .int .u16 a0_9, .slice A0_10 l0_10.length c0_10, .slice A0_11 l0_11.length c0_11, .slice A0_12 l0_12.length c0_12, .slice A0_13 l0_13.length c0_13] 29 (0, 0)) (by (with_reducible repeat (first | refine blk_drewN ?_ _ | refine blk_drew ?_ | refine blk_alloc ?_ _)); exact BK240.out) hb); have n1_ := Aside0.mk (below_step (by repeat (first | (with_reducible first | exact HB.out | apply below_alloc | apply pw_below_drewN | apply below_drew1 | refine below_set ?_ GE240.out) | exact HB.out)) hb); clear BK240; clear HB; have BK240 := n0_; have HB := n1_; clear n0_ n1_; (try clear hb); (try clear hb2); (try clear hk); (try clear hi); have hcz14_0 : w13.cell? ⟨gb240, 0, none⟩ = some (.int .u8 a0_0) := (blk_cell BK240.out 0).trans rfl; have hcz14_1 : w13.cell? ⟨gb240, 1, none⟩ = some (.int .u8 a0_1) := (blk_cell BK240.out 1).trans rfl; have hcz14_2 : w13.cell? ⟨gb240, 2, none⟩ = some (.int .u32 a0_2) := (blk_cell BK240.out 2).trans rfl; have hcz14_3 : w13.cell? ⟨gb240, 3, none⟩ = some (.int .u16 a0_3) := (blk_cell BK240.out 3).trans rfl; have hcz14_4 : w13.cell? ⟨gb240, 4, none⟩ = some (.int .u16 a0_4) := (blk_cell BK240.out 4).trans rfl; have hcz14_5 : w13.cell? ⟨gb240, 5, none⟩ = some (.int .u32 a0_5) := (blk_cell BK240.out 5).trans rfl; have hcz14_6 : w13.cell? ⟨gb240, 6, none⟩ = some (.int .u32 a0_6) := (blk_cell BK240.out 6).trans rfl; have hcz14_7 : w13.cell? ⟨gb240, 7, none⟩ = some (.int .u32 a0_7) := (blk_cell BK240.out 7).trans rfl; have hcz14_8 : w13.cell? ⟨gb240, 8, none⟩ = some (.int .u16 a0_8) := (blk_cell BK240.out 8).trans rfl; have hcz14_9 : w13.cell? ⟨gb240, 9, none⟩ = some (.int .u16 a0_9) := (blk_cell BK240.out 9).trans rfl; have hcz14_10 : w13.cell? ⟨gb240, 10, none⟩ = some (.slice A0_10 l0_10.length c0_10) := (blk_cell BK240.out 10).trans rfl; have hcz14_11 : w13.cell? ⟨gb240, 11, none⟩ = some (.slice A0_11 l0_11.length c0_11) := (blk_cell BK240.out 11).trans rfl; have hcz14_12 : w13.cell? ⟨gb240, 12, none⟩ = some (.slice A0_12 l0_12.length c0_12) := (blk_cell BK240.out 12).trans rfl; have hcz14_13 : w13.cell? ⟨gb240, 13, none⟩ = some (.slice A0_13 l0_13.length c0_13) := (blk_cell BK240.out 13).trans rfl; have hfz14_0 := blk_frozen BK240.out 0; have hfz14_1 := blk_frozen BK240.out 1; have hfz14_2 := blk_frozen BK240.out 2; have hfz14_3 := blk_frozen BK240.out 3; have hfz14_4 := blk_frozen BK240.out 4; have hfz14_5 := blk_frozen BK240.out 5; have hfz14_6 := blk_frozen BK240.out 6; have hfz14_7 := blk_frozen BK240.out 7; have hfz14_8 := blk_frozen BK240.out 8; have hfz14_9 := blk_frozen BK240.out 9; have hfz14_10 := blk_frozen BK240.out 10; have hfz14_11 := blk_frozen BK240.out 11; have hfz14_12 := blk_frozen BK240.out 12; have hfz14_13 := blk_frozen BK240.out 13))
        go_meet
        case rel => exact ⟨_, (false), (by first | rfl | (simp; done) | (simp [*]; done)), H', ⟨by first | omega | exact Nat.le_refl _⟩, ⟨by (with_reducible repeat (first | refine blk_drewN ?_ _ | refine blk_drew ?_ | refine blk_alloc ?_ _)); exact BK240.out⟩, ⟨by repeat (first | (with_reducible first | exact HB.out | apply below_alloc | apply pw_below_drewN | apply below_drew1 | refine below_set ?_ GE240.out) | exact HB.out)⟩⟩
  case rest =>
    clear HC2
    try clear c1
    try clear c2
    try clear p2
    try clear c5
    try clear c8
    try clear c8b0
    try clear c8b1
    try clear c13
    try clear hcz11_0
    try clear hcz11_1
    try clear hcz11_10
    try clear hcz11_11
    try clear hcz11_12
    try clear hcz11_13
    try clear hcz11_2
    try clear hcz11_3
    try clear hcz11_4
    try clear hcz11_5
    try clear hcz11_6
    try clear hcz11_7
    try clear hcz11_8
    try clear hcz11_9
    try clear hcz12_0
    try clear hcz12_1
    try clear hcz12_10
    try clear hcz12_11
    try clear hcz12_12
    try clear hcz12_13
    try clear hcz12_2
    try clear hcz12_3
    try clear hcz12_4
    try clear hcz12_5
    try clear hcz12_6
    try clear hcz12_7
    try clear hcz12_8
    try clear hcz12_9
    try clear hcz14_0
    try clear hcz14_1
    try clear hcz14_10
    try clear hcz14_11
    try clear hcz14_12
    try clear hcz14_13
    try clear hcz14_2
    try clear hcz14_3
    try clear hcz14_4
    try clear hcz14_5
    try clear hcz14_6
    try clear hcz14_7
    try clear hcz14_8
    try clear hcz14_9
    try clear hcz6_0
    try clear hcz6_1
    try clear hcz6_10
    try clear hcz6_11
    try clear hcz6_12
    try clear hcz6_13
    try clear hcz6_2
    try clear hcz6_3
    try clear hcz6_4
    try clear hcz6_5
    try clear hcz6_6
    try clear hcz6_7
    try clear hcz6_8
    try clear hcz6_9
    try clear hcz9_0
    try clear hcz9_1
    try clear hcz9_10
    try clear hcz9_11
    try clear hcz9_12
    try clear hcz9_13
    try clear hcz9_2
    try clear hcz9_3
    try clear hcz9_4
    try clear hcz9_5
    try clear hcz9_6
    try clear hcz9_7
    try clear hcz9_8
    try clear hcz9_9
    try clear hfz11_0
    try clear hfz11_1
    try clear hfz11_10
    try clear hfz11_11
    try clear hfz11_12
    try clear hfz11_13
    try clear hfz11_2
    try clear hfz11_3
    try clear hfz11_4
    try clear hfz11_5
    try clear hfz11_6
    try clear hfz11_7
    try clear hfz11_8
    try clear hfz11_9
    try clear hfz12_0
    try clear hfz12_1
    try clear hfz12_10
    try clear hfz12_11
    try clear hfz12_12
    try clear hfz12_13
    try clear hfz12_2
    try clear hfz12_3
    try clear hfz12_4
    try clear hfz12_5
    try clear hfz12_6
    try clear hfz12_7
    try clear hfz12_8
    try clear hfz12_9
    try clear hfz14_0
    try clear hfz14_1
    try clear hfz14_10
    try clear hfz14_11
    try clear hfz14_12
    try clear hfz14_13
    try clear hfz14_2
    try clear hfz14_3
    try clear hfz14_4
    try clear hfz14_5
    try clear hfz14_6
    try clear hfz14_7
    try clear hfz14_8
    try clear hfz14_9
    try clear hfz6_0
    try clear hfz6_1
    try clear hfz6_10
    try clear hfz6_11
    try clear hfz6_12
    try clear hfz6_13
    try clear hfz6_2
    try clear hfz6_3
    try clear hfz6_4
    try clear hfz6_5
    try clear hfz6_6
    try clear hfz6_7
    try clear hfz6_8
    try clear hfz6_9
    try clear hfz9_0
    try clear hfz9_1
    try clear hfz9_10
    try clear hfz9_11
    try clear hfz9_12
    try clear hfz9_13
    try clear hfz9_2
    try clear hfz9_3
    try clear hfz9_4
    try clear hfz9_5
    try clear hfz9_6
    try clear hfz9_7
    try clear hfz9_8
    try clear hfz9_9
    obtain ⟨kq, x16_1, rfl, HA, HJ1, BK240, HB⟩ := hcut
    cases kq with
    | zero => exact absurd HA.out (by simp [trunklineref12_Check.j0])
    | succ kj1 =>
      have H := HA.out
      clear HA
      simp only [trunklineref12_Check.j0] at H
      by_cases c15 : x16_1 = true
      · subst c15
        have H1 : (some 2) = some r := by rw [if_pos rfl] at H; exact H
        clear H
        have H := H1
        clear H1
        obtain rfl := Option.some.inj H
        go_wp2
        go_ret
        exact ⟨by first | rfl | (simp [errW_none, errW_some] <;> rfl) | (simp [*, errW_none, errW_some] <;> rfl), by repeat (first | (with_reducible first | exact HB.out | apply below_alloc | apply pw_below_drewN | apply below_drew1 | refine below_set ?_ GE240.out) | exact HB.out)⟩
      · replace c15 := Bool.eq_false_iff.mpr c15
        subst c15
        have H1 : (if (l0_12.length : Int) > 16 then (trunklineref12_Check.j1 kj1 true a0_0 a0_1 a0_2 a0_3 a0_4 a0_5 a0_6 a0_7 a0_8 a0_9 l0_10 l0_11 l0_12 l0_13) else (if (l0_10.length : Int) > 16 then (trunklineref12_Check.j1 kj1 true a0_0 a0_1 a0_2 a0_3 a0_4 a0_5 a0_6 a0_7 a0_8 a0_9 l0_10 l0_11 l0_12 l0_13) else (if (l0_11.length : Int) > 16 then (trunklineref12_Check.j1 kj1 true a0_0 a0_1 a0_2 a0_3 a0_4 a0_5 a0_6 a0_7 a0_8 a0_9 l0_10 l0_11 l0_12 l0_13) else (trunklineref12_Check.j1 kj1 (decide ((l0_13.length : Int) > 1480)) a0_0 a0_1 a0_2 a0_3 a0_4 a0_5 a0_6 a0_7 a0_8 a0_9 l0_10 l0_11 l0_12 l0_13)))) = some r := by rw [if_neg (show ¬ (false = true) by decide)] at H; exact H
        clear H
        have H := H1
        clear H1
        have HC16 := Aside0.mk H
        clear H
        go_upto_region 3 with (fail)
        go_cut [38] (fun v38 wc => ∃ (kq : Nat) (x38_15 : Bool), v38 = .bool x38_15 ∧ Aside0 (trunklineref12_Check.j1 kq x38_15 a0_0 a0_1 a0_2 a0_3 a0_4 a0_5 a0_6 a0_7 a0_8 a0_9 l0_10 l0_11 l0_12 l0_13 = some r) ∧ Aside0 (kq ≤ kj1) ∧ Aside0 (wc.heap[gb240]? = some (.cells #[.int .u8 a0_0, .int .u8 a0_1, .int .u32 a0_2, .int .u16 a0_3, .int .u16 a0_4, .int .u32 a0_5, .int .u32 a0_6, .int .u32 a0_7, .int .u16 a0_8, .int .u16 a0_9, (.slice A0_10 l0_10.length c0_10), (.slice A0_11 l0_11.length c0_11), (.slice A0_12 l0_12.length c0_12), (.slice A0_13 l0_13.length c0_13)] 29 (0, 0))) ∧ Aside0 (Below w.heap.size w wc))
        case first =>
          have H := HC16.out
          clear HC16
          by_cases c17 : (l0_12.length : Int) > 16
          · rw [if_pos c17] at H
            have c17b0 : decide (16 < (l0_12.length : Int)) = true := decide_eq_true c17
            have c17b1 : decide (16 < l0_12.length) = true := decide_eq_true (by omega)
            clear c17
            (first | rw [c17b0] | (simp only [i64_w, i32_w]; rw [c17b0]) | skip)
            have H' := Aside0.mk H
            clear H
            have hcz18_0 : wc.cell? ⟨gb240, 0, none⟩ = some (.int .u8 a0_0) := (blk_cell BK240.out 0).trans rfl
            have hcz18_1 : wc.cell? ⟨gb240, 1, none⟩ = some (.int .u8 a0_1) := (blk_cell BK240.out 1).trans rfl
            have hcz18_2 : wc.cell? ⟨gb240, 2, none⟩ = some (.int .u32 a0_2) := (blk_cell BK240.out 2).trans rfl
            have hcz18_3 : wc.cell? ⟨gb240, 3, none⟩ = some (.int .u16 a0_3) := (blk_cell BK240.out 3).trans rfl
            have hcz18_4 : wc.cell? ⟨gb240, 4, none⟩ = some (.int .u16 a0_4) := (blk_cell BK240.out 4).trans rfl
            have hcz18_5 : wc.cell? ⟨gb240, 5, none⟩ = some (.int .u32 a0_5) := (blk_cell BK240.out 5).trans rfl
            have hcz18_6 : wc.cell? ⟨gb240, 6, none⟩ = some (.int .u32 a0_6) := (blk_cell BK240.out 6).trans rfl
            have hcz18_7 : wc.cell? ⟨gb240, 7, none⟩ = some (.int .u32 a0_7) := (blk_cell BK240.out 7).trans rfl
            have hcz18_8 : wc.cell? ⟨gb240, 8, none⟩ = some (.int .u16 a0_8) := (blk_cell BK240.out 8).trans rfl
            have hcz18_9 : wc.cell? ⟨gb240, 9, none⟩ = some (.int .u16 a0_9) := (blk_cell BK240.out 9).trans rfl
            have hcz18_10 : wc.cell? ⟨gb240, 10, none⟩ = some (.slice A0_10 l0_10.length c0_10) := (blk_cell BK240.out 10).trans rfl
            have hcz18_11 : wc.cell? ⟨gb240, 11, none⟩ = some (.slice A0_11 l0_11.length c0_11) := (blk_cell BK240.out 11).trans rfl
            have hcz18_12 : wc.cell? ⟨gb240, 12, none⟩ = some (.slice A0_12 l0_12.length c0_12) := (blk_cell BK240.out 12).trans rfl
            have hcz18_13 : wc.cell? ⟨gb240, 13, none⟩ = some (.slice A0_13 l0_13.length c0_13) := (blk_cell BK240.out 13).trans rfl
            have hfz18_0 := blk_frozen BK240.out 0
            have hfz18_1 := blk_frozen BK240.out 1
            have hfz18_2 := blk_frozen BK240.out 2
            have hfz18_3 := blk_frozen BK240.out 3
            have hfz18_4 := blk_frozen BK240.out 4
            have hfz18_5 := blk_frozen BK240.out 5
            have hfz18_6 := blk_frozen BK240.out 6
            have hfz18_7 := blk_frozen BK240.out 7
            have hfz18_8 := blk_frozen BK240.out 8
            have hfz18_9 := blk_frozen BK240.out 9
            have hfz18_10 := blk_frozen BK240.out 10
            have hfz18_11 := blk_frozen BK240.out 11
            have hfz18_12 := blk_frozen BK240.out 12
            have hfz18_13 := blk_frozen BK240.out 13
            go_wp2
            go_meet
            case rel => exact ⟨_, (true), (by first | rfl | (simp; done) | (simp [*]; done)), H', ⟨by have := HJ1.out; first | omega | exact Nat.le_refl _⟩, ⟨by (with_reducible repeat (first | refine blk_drewN ?_ _ | refine blk_drew ?_ | refine blk_alloc ?_ _)); exact BK240.out⟩, ⟨by repeat (first | (with_reducible first | exact HB.out | apply below_alloc | apply pw_below_drewN | apply below_drew1 | refine below_set ?_ GE240.out) | exact HB.out)⟩⟩
          · rw [if_neg c17] at H
            have c17b0 : decide (16 < (l0_12.length : Int)) = false := decide_eq_false c17
            have c17b1 : decide (16 < l0_12.length) = false := decide_eq_false (by omega)
            clear c17
            (first | rw [c17b0] | (simp only [i64_w, i32_w]; rw [c17b0]) | skip)
            by_cases c19 : (l0_10.length : Int) > 16
            · rw [if_pos c19] at H
              have c19b0 : decide (16 < (l0_10.length : Int)) = true := decide_eq_true c19
              have c19b1 : decide (16 < l0_10.length) = true := decide_eq_true (by omega)
              clear c19
              have H' := Aside0.mk H
              clear H
              have hcz20_0 : wc.cell? ⟨gb240, 0, none⟩ = some (.int .u8 a0_0) := (blk_cell BK240.out 0).trans rfl
              have hcz20_1 : wc.cell? ⟨gb240, 1, none⟩ = some (.int .u8 a0_1) := (blk_cell BK240.out 1).trans rfl
              have hcz20_2 : wc.cell? ⟨gb240, 2, none⟩ = some (.int .u32 a0_2) := (blk_cell BK240.out 2).trans rfl
              have hcz20_3 : wc.cell? ⟨gb240, 3, none⟩ = some (.int .u16 a0_3) := (blk_cell BK240.out 3).trans rfl
              have hcz20_4 : wc.cell? ⟨gb240, 4, none⟩ = some (.int .u16 a0_4) := (blk_cell BK240.out 4).trans rfl
              have hcz20_5 : wc.cell? ⟨gb240, 5, none⟩ = some (.int .u32 a0_5) := (blk_cell BK240.out 5).trans rfl
              have hcz20_6 : wc.cell? ⟨gb240, 6, none⟩ = some (.int .u32 a0_6) := (blk_cell BK240.out 6).trans rfl
              have hcz20_7 : wc.cell? ⟨gb240, 7, none⟩ = some (.int .u32 a0_7) := (blk_cell BK240.out 7).trans rfl
              have hcz20_8 : wc.cell? ⟨gb240, 8, none⟩ = some (.int .u16 a0_8) := (blk_cell BK240.out 8).trans rfl
              have hcz20_9 : wc.cell? ⟨gb240, 9, none⟩ = some (.int .u16 a0_9) := (blk_cell BK240.out 9).trans rfl
              have hcz20_10 : wc.cell? ⟨gb240, 10, none⟩ = some (.slice A0_10 l0_10.length c0_10) := (blk_cell BK240.out 10).trans rfl
              have hcz20_11 : wc.cell? ⟨gb240, 11, none⟩ = some (.slice A0_11 l0_11.length c0_11) := (blk_cell BK240.out 11).trans rfl
              have hcz20_12 : wc.cell? ⟨gb240, 12, none⟩ = some (.slice A0_12 l0_12.length c0_12) := (blk_cell BK240.out 12).trans rfl
              have hcz20_13 : wc.cell? ⟨gb240, 13, none⟩ = some (.slice A0_13 l0_13.length c0_13) := (blk_cell BK240.out 13).trans rfl
              have hfz20_0 := blk_frozen BK240.out 0
              have hfz20_1 := blk_frozen BK240.out 1
              have hfz20_2 := blk_frozen BK240.out 2
              have hfz20_3 := blk_frozen BK240.out 3
              have hfz20_4 := blk_frozen BK240.out 4
              have hfz20_5 := blk_frozen BK240.out 5
              have hfz20_6 := blk_frozen BK240.out 6
              have hfz20_7 := blk_frozen BK240.out 7
              have hfz20_8 := blk_frozen BK240.out 8
              have hfz20_9 := blk_frozen BK240.out 9
              have hfz20_10 := blk_frozen BK240.out 10
              have hfz20_11 := blk_frozen BK240.out 11
              have hfz20_12 := blk_frozen BK240.out 12
              have hfz20_13 := blk_frozen BK240.out 13
              go_wp2
              go_meet
              case rel => exact ⟨_, (true), (by first | rfl | (simp; done) | (simp [*]; done)), H', ⟨by have := HJ1.out; first | omega | exact Nat.le_refl _⟩, ⟨by (with_reducible repeat (first | refine blk_drewN ?_ _ | refine blk_drew ?_ | refine blk_alloc ?_ _)); exact BK240.out⟩, ⟨by repeat (first | (with_reducible first | exact HB.out | apply below_alloc | apply pw_below_drewN | apply below_drew1 | refine below_set ?_ GE240.out) | exact HB.out)⟩⟩
            · rw [if_neg c19] at H
              have c19b0 : decide (16 < (l0_10.length : Int)) = false := decide_eq_false c19
              have c19b1 : decide (16 < l0_10.length) = false := decide_eq_false (by omega)
              clear c19
              by_cases c21 : (l0_11.length : Int) > 16
              · rw [if_pos c21] at H
                have c21b0 : decide (16 < (l0_11.length : Int)) = true := decide_eq_true c21
                have c21b1 : decide (16 < l0_11.length) = true := decide_eq_true (by omega)
                clear c21
                have H' := Aside0.mk H
                clear H
                have hcz22_0 : wc.cell? ⟨gb240, 0, none⟩ = some (.int .u8 a0_0) := (blk_cell BK240.out 0).trans rfl
                have hcz22_1 : wc.cell? ⟨gb240, 1, none⟩ = some (.int .u8 a0_1) := (blk_cell BK240.out 1).trans rfl
                have hcz22_2 : wc.cell? ⟨gb240, 2, none⟩ = some (.int .u32 a0_2) := (blk_cell BK240.out 2).trans rfl
                have hcz22_3 : wc.cell? ⟨gb240, 3, none⟩ = some (.int .u16 a0_3) := (blk_cell BK240.out 3).trans rfl
                have hcz22_4 : wc.cell? ⟨gb240, 4, none⟩ = some (.int .u16 a0_4) := (blk_cell BK240.out 4).trans rfl
                have hcz22_5 : wc.cell? ⟨gb240, 5, none⟩ = some (.int .u32 a0_5) := (blk_cell BK240.out 5).trans rfl
                have hcz22_6 : wc.cell? ⟨gb240, 6, none⟩ = some (.int .u32 a0_6) := (blk_cell BK240.out 6).trans rfl
                have hcz22_7 : wc.cell? ⟨gb240, 7, none⟩ = some (.int .u32 a0_7) := (blk_cell BK240.out 7).trans rfl
                have hcz22_8 : wc.cell? ⟨gb240, 8, none⟩ = some (.int .u16 a0_8) := (blk_cell BK240.out 8).trans rfl
                have hcz22_9 : wc.cell? ⟨gb240, 9, none⟩ = some (.int .u16 a0_9) := (blk_cell BK240.out 9).trans rfl
                have hcz22_10 : wc.cell? ⟨gb240, 10, none⟩ = some (.slice A0_10 l0_10.length c0_10) := (blk_cell BK240.out 10).trans rfl
                have hcz22_11 : wc.cell? ⟨gb240, 11, none⟩ = some (.slice A0_11 l0_11.length c0_11) := (blk_cell BK240.out 11).trans rfl
                have hcz22_12 : wc.cell? ⟨gb240, 12, none⟩ = some (.slice A0_12 l0_12.length c0_12) := (blk_cell BK240.out 12).trans rfl
                have hcz22_13 : wc.cell? ⟨gb240, 13, none⟩ = some (.slice A0_13 l0_13.length c0_13) := (blk_cell BK240.out 13).trans rfl
                have hfz22_0 := blk_frozen BK240.out 0
                have hfz22_1 := blk_frozen BK240.out 1
                have hfz22_2 := blk_frozen BK240.out 2
                have hfz22_3 := blk_frozen BK240.out 3
                have hfz22_4 := blk_frozen BK240.out 4
                have hfz22_5 := blk_frozen BK240.out 5
                have hfz22_6 := blk_frozen BK240.out 6
                have hfz22_7 := blk_frozen BK240.out 7
                have hfz22_8 := blk_frozen BK240.out 8
                have hfz22_9 := blk_frozen BK240.out 9
                have hfz22_10 := blk_frozen BK240.out 10
                have hfz22_11 := blk_frozen BK240.out 11
                have hfz22_12 := blk_frozen BK240.out 12
                have hfz22_13 := blk_frozen BK240.out 13
                go_wp2
                go_meet
                case rel => exact ⟨_, (true), (by first | rfl | (simp; done) | (simp [*]; done)), H', ⟨by have := HJ1.out; first | omega | exact Nat.le_refl _⟩, ⟨by (with_reducible repeat (first | refine blk_drewN ?_ _ | refine blk_drew ?_ | refine blk_alloc ?_ _)); exact BK240.out⟩, ⟨by repeat (first | (with_reducible first | exact HB.out | apply below_alloc | apply pw_below_drewN | apply below_drew1 | refine below_set ?_ GE240.out) | exact HB.out)⟩⟩
              · rw [if_neg c21] at H
                have c21b0 : decide (16 < (l0_11.length : Int)) = false := decide_eq_false c21
                have c21b1 : decide (16 < l0_11.length) = false := decide_eq_false (by omega)
                clear c21
                have H' := Aside0.mk H
                clear H
                have hcz23_0 : wc.cell? ⟨gb240, 0, none⟩ = some (.int .u8 a0_0) := (blk_cell BK240.out 0).trans rfl
                have hcz23_1 : wc.cell? ⟨gb240, 1, none⟩ = some (.int .u8 a0_1) := (blk_cell BK240.out 1).trans rfl
                have hcz23_2 : wc.cell? ⟨gb240, 2, none⟩ = some (.int .u32 a0_2) := (blk_cell BK240.out 2).trans rfl
                have hcz23_3 : wc.cell? ⟨gb240, 3, none⟩ = some (.int .u16 a0_3) := (blk_cell BK240.out 3).trans rfl
                have hcz23_4 : wc.cell? ⟨gb240, 4, none⟩ = some (.int .u16 a0_4) := (blk_cell BK240.out 4).trans rfl
                have hcz23_5 : wc.cell? ⟨gb240, 5, none⟩ = some (.int .u32 a0_5) := (blk_cell BK240.out 5).trans rfl
                have hcz23_6 : wc.cell? ⟨gb240, 6, none⟩ = some (.int .u32 a0_6) := (blk_cell BK240.out 6).trans rfl
                have hcz23_7 : wc.cell? ⟨gb240, 7, none⟩ = some (.int .u32 a0_7) := (blk_cell BK240.out 7).trans rfl
                have hcz23_8 : wc.cell? ⟨gb240, 8, none⟩ = some (.int .u16 a0_8) := (blk_cell BK240.out 8).trans rfl
                have hcz23_9 : wc.cell? ⟨gb240, 9, none⟩ = some (.int .u16 a0_9) := (blk_cell BK240.out 9).trans rfl
                have hcz23_10 : wc.cell? ⟨gb240, 10, none⟩ = some (.slice A0_10 l0_10.length c0_10) := (blk_cell BK240.out 10).trans rfl
                have hcz23_11 : wc.cell? ⟨gb240, 11, none⟩ = some (.slice A0_11 l0_11.length c0_11) := (blk_cell BK240.out 11).trans rfl
                have hcz23_12 : wc.cell? ⟨gb240, 12, none⟩ = some (.slice A0_12 l0_12.length c0_12) := (blk_cell BK240.out 12).trans rfl
                have hcz23_13 : wc.cell? ⟨gb240, 13, none⟩ = some (.slice A0_13 l0_13.length c0_13) := (blk_cell BK240.out 13).trans rfl
                have hfz23_0 := blk_frozen BK240.out 0
                have hfz23_1 := blk_frozen BK240.out 1
                have hfz23_2 := blk_frozen BK240.out 2
                have hfz23_3 := blk_frozen BK240.out 3
                have hfz23_4 := blk_frozen BK240.out 4
                have hfz23_5 := blk_frozen BK240.out 5
                have hfz23_6 := blk_frozen BK240.out 6
                have hfz23_7 := blk_frozen BK240.out 7
                have hfz23_8 := blk_frozen BK240.out 8
                have hfz23_9 := blk_frozen BK240.out 9
                have hfz23_10 := blk_frozen BK240.out 10
                have hfz23_11 := blk_frozen BK240.out 11
                have hfz23_12 := blk_frozen BK240.out 12
                have hfz23_13 := blk_frozen BK240.out 13
                go_wp2
                go_meet
                case rel => exact ⟨_, (decide ((l0_13.length : Int) > 1480)), (by first | rfl | (simp; done) | (simp [*]; done)), H', ⟨by have := HJ1.out; first | omega | exact Nat.le_refl _⟩, ⟨by (with_reducible repeat (first | refine blk_drewN ?_ _ | refine blk_drew ?_ | refine blk_alloc ?_ _)); exact BK240.out⟩, ⟨by repeat (first | (with_reducible first | exact HB.out | apply below_alloc | apply pw_below_drewN | apply below_drew1 | refine below_set ?_ GE240.out) | exact HB.out)⟩⟩
        case rest =>
          clear HC16
          try clear c1
          try clear c2
          try clear p2
          try clear c5
          try clear c8
          try clear c8b0
          try clear c8b1
          try clear c13
          try clear c15
          try clear c17
          try clear c17b0
          try clear c17b1
          try clear c19
          try clear c19b0
          try clear c19b1
          try clear c21
          try clear c21b0
          try clear c21b1
          try clear hcz11_0
          try clear hcz11_1
          try clear hcz11_10
          try clear hcz11_11
          try clear hcz11_12
          try clear hcz11_13
          try clear hcz11_2
          try clear hcz11_3
          try clear hcz11_4
          try clear hcz11_5
          try clear hcz11_6
          try clear hcz11_7
          try clear hcz11_8
          try clear hcz11_9
          try clear hcz12_0
          try clear hcz12_1
          try clear hcz12_10
          try clear hcz12_11
          try clear hcz12_12
          try clear hcz12_13
          try clear hcz12_2
          try clear hcz12_3
          try clear hcz12_4
          try clear hcz12_5
          try clear hcz12_6
          try clear hcz12_7
          try clear hcz12_8
          try clear hcz12_9
          try clear hcz14_0
          try clear hcz14_1
          try clear hcz14_10
          try clear hcz14_11
          try clear hcz14_12
          try clear hcz14_13
          try clear hcz14_2
          try clear hcz14_3
          try clear hcz14_4
          try clear hcz14_5
          try clear hcz14_6
          try clear hcz14_7
          try clear hcz14_8
          try clear hcz14_9
          try clear hcz18_0
          try clear hcz18_1
          try clear hcz18_10
          try clear hcz18_11
          try clear hcz18_12
          try clear hcz18_13
          try clear hcz18_2
          try clear hcz18_3
          try clear hcz18_4
          try clear hcz18_5
          try clear hcz18_6
          try clear hcz18_7
          try clear hcz18_8
          try clear hcz18_9
          try clear hcz20_0
          try clear hcz20_1
          try clear hcz20_10
          try clear hcz20_11
          try clear hcz20_12
          try clear hcz20_13
          try clear hcz20_2
          try clear hcz20_3
          try clear hcz20_4
          try clear hcz20_5
          try clear hcz20_6
          try clear hcz20_7
          try clear hcz20_8
          try clear hcz20_9
          try clear hcz22_0
          try clear hcz22_1
          try clear hcz22_10
          try clear hcz22_11
          try clear hcz22_12
          try clear hcz22_13
          try clear hcz22_2
          try clear hcz22_3
          try clear hcz22_4
          try clear hcz22_5
          try clear hcz22_6
          try clear hcz22_7
          try clear hcz22_8
          try clear hcz22_9
          try clear hcz23_0
          try clear hcz23_1
          try clear hcz23_10
          try clear hcz23_11
          try clear hcz23_12
          try clear hcz23_13
          try clear hcz23_2
          try clear hcz23_3
          try clear hcz23_4
          try clear hcz23_5
          try clear hcz23_6
          try clear hcz23_7
          try clear hcz23_8
          try clear hcz23_9
          try clear hcz6_0
          try clear hcz6_1
          try clear hcz6_10
          try clear hcz6_11
          try clear hcz6_12
          try clear hcz6_13
          try clear hcz6_2
          try clear hcz6_3
          try clear hcz6_4
          try clear hcz6_5
          try clear hcz6_6
          try clear hcz6_7
          try clear hcz6_8
          try clear hcz6_9
          try clear hcz9_0
          try clear hcz9_1
          try clear hcz9_10
          try clear hcz9_11
          try clear hcz9_12
          try clear hcz9_13
          try clear hcz9_2
          try clear hcz9_3
          try clear hcz9_4
          try clear hcz9_5
          try clear hcz9_6
          try clear hcz9_7
          try clear hcz9_8
          try clear hcz9_9
          try clear hfz11_0
          try clear hfz11_1
          try clear hfz11_10
          try clear hfz11_11
          try clear hfz11_12
          try clear hfz11_13
          try clear hfz11_2
          try clear hfz11_3
          try clear hfz11_4
          try clear hfz11_5
          try clear hfz11_6
          try clear hfz11_7
          try clear hfz11_8
          try clear hfz11_9
          try clear hfz12_0
          try clear hfz12_1
          try clear hfz12_10
          try clear hfz12_11
          try clear hfz12_12
          try clear hfz12_13
          try clear hfz12_2
          try clear hfz12_3
          try clear hfz12_4
          try clear hfz12_5
          try clear hfz12_6
          try clear hfz12_7
          try clear hfz12_8
          try clear hfz12_9
          try clear hfz14_0
          try clear hfz14_1
          try clear hfz14_10
          try clear hfz14_11
          try clear hfz14_12
          try clear hfz14_13
          try clear hfz14_2
          try clear hfz14_3
          try clear hfz14_4
          try clear hfz14_5
          try clear hfz14_6
          try clear hfz14_7
          try clear hfz14_8
          try clear hfz14_9
          try clear hfz18_0
          try clear hfz18_1
          try clear hfz18_10
          try clear hfz18_11
          try clear hfz18_12
          try clear hfz18_13
          try clear hfz18_2
          try clear hfz18_3
          try clear hfz18_4
          try clear hfz18_5
          try clear hfz18_6
          try clear hfz18_7
          try clear hfz18_8
          try clear hfz18_9
          try clear hfz20_0
          try clear hfz20_1
          try clear hfz20_10
          try clear hfz20_11
          try clear hfz20_12
          try clear hfz20_13
          try clear hfz20_2
          try clear hfz20_3
          try clear hfz20_4
          try clear hfz20_5
          try clear hfz20_6
          try clear hfz20_7
          try clear hfz20_8
          try clear hfz20_9
          try clear hfz22_0
          try clear hfz22_1
          try clear hfz22_10
          try clear hfz22_11
          try clear hfz22_12
          try clear hfz22_13
          try clear hfz22_2
          try clear hfz22_3
          try clear hfz22_4
          try clear hfz22_5
          try clear hfz22_6
          try clear hfz22_7
          try clear hfz22_8
          try clear hfz22_9
          try clear hfz23_0
          try clear hfz23_1
          try clear hfz23_10
          try clear hfz23_11
          try clear hfz23_12
          try clear hfz23_13
          try clear hfz23_2
          try clear hfz23_3
          try clear hfz23_4
          try clear hfz23_5
          try clear hfz23_6
          try clear hfz23_7
          try clear hfz23_8
          try clear hfz23_9
          try clear hfz6_0
          try clear hfz6_1
          try clear hfz6_10
          try clear hfz6_11
          try clear hfz6_12
          try clear hfz6_13
          try clear hfz6_2
          try clear hfz6_3
          try clear hfz6_4
          try clear hfz6_5
          try clear hfz6_6
          try clear hfz6_7
          try clear hfz6_8
          try clear hfz6_9
          try clear hfz9_0
          try clear hfz9_1
          try clear hfz9_10
          try clear hfz9_11
          try clear hfz9_12
          try clear hfz9_13
          try clear hfz9_2
          try clear hfz9_3
          try clear hfz9_4
          try clear hfz9_5
          try clear hfz9_6
          try clear hfz9_7
          try clear hfz9_8
          try clear hfz9_9
          try clear p2
          obtain ⟨kq, x38_15, rfl, HA, HJ15, BK240, HB⟩ := hcut
          cases kq with
          | zero => exact absurd HA.out (by simp [trunklineref12_Check.j1])
          | succ kj15 =>
            have H := HA.out
            clear HA
            simp only [trunklineref12_Check.j1] at H
            by_cases c24 : x38_15 = true
            · subst c24
              have H1 : (some 6) = some r := by rw [if_pos rfl] at H; exact H
              clear H
              have H := H1
              clear H1
              obtain rfl := Option.some.inj H
              go_wp2
              go_ret
              exact ⟨by first | rfl | (simp [errW_none, errW_some] <;> rfl) | (simp [*, errW_none, errW_some] <;> rfl), by repeat (first | (with_reducible first | exact HB.out | apply below_alloc | apply pw_below_drewN | apply below_drew1 | refine below_set ?_ GE240.out) | exact HB.out)⟩
            · replace c24 := Bool.eq_false_iff.mpr c24
              subst c24
              have H1 : (trunklineref12_Check.l0 kj15 0 a0_0 a0_1 a0_2 a0_3 a0_4 a0_5 a0_6 a0_7 a0_8 a0_9 l0_10 l0_11 l0_12 l0_13) = some r := by rw [if_neg (show ¬ (false = true) by decide)] at H; exact H
              clear H
              have H := H1
              clear H1
              have H' := Aside0.mk H
              clear H
              go_wp2
              go_loopg [3] kj15 (fun kq v3 w' => ∃ (x3_3 : Int), v3 = .int .i64 x3_3 ∧ Aside0 (trunklineref12_Check.l0 kq x3_3 a0_0 a0_1 a0_2 a0_3 a0_4 a0_5 a0_6 a0_7 a0_8 a0_9 l0_10 l0_11 l0_12 l0_13 = some r) ∧ Aside0 (kq ≤ kj15) ∧ Aside0 (w'.heap[gb240]? = some (.cells #[.int .u8 a0_0, .int .u8 a0_1, .int .u32 a0_2, .int .u16 a0_3, .int .u16 a0_4, .int .u32 a0_5, .int .u32 a0_6, .int .u32 a0_7, .int .u16 a0_8, .int .u16 a0_9, (.slice A0_10 l0_10.length c0_10), (.slice A0_11 l0_11.length c0_11), (.slice A0_12 l0_12.length c0_12), (.slice A0_13 l0_13.length c0_13)] 29 (0, 0))) ∧ Aside0 (Below w.heap.size w w'))
              case atStart => exact ⟨(0), (by first | rfl | (simp; done) | (simp [*]; done)), H', ⟨Nat.le_refl _⟩, ⟨by (with_reducible repeat (first | refine blk_drewN ?_ _ | refine blk_drew ?_ | refine blk_alloc ?_ _)); exact BK240.out⟩, ⟨by repeat (first | (with_reducible first | exact HB.out | apply below_alloc | apply pw_below_drewN | apply below_drew1 | refine below_set ?_ GE240.out) | exact HB.out)⟩⟩
              case round =>
                clear H'
                try clear c1
                try clear c2
                try clear p2
                try clear c5
                try clear c8
                try clear c8b0
                try clear c8b1
                try clear c13
                try clear c15
                try clear c17
                try clear c17b0
                try clear c17b1
                try clear c19
                try clear c19b0
                try clear c19b1
                try clear c21
                try clear c21b0
                try clear c21b1
                try clear c24
                try clear hcz11_0
                try clear hcz11_1
                try clear hcz11_10
                try clear hcz11_11
                try clear hcz11_12
                try clear hcz11_13
                try clear hcz11_2
                try clear hcz11_3
                try clear hcz11_4
                try clear hcz11_5
                try clear hcz11_6
                try clear hcz11_7
                try clear hcz11_8
                try clear hcz11_9
                try clear hcz12_0
                try clear hcz12_1
                try clear hcz12_10
                try clear hcz12_11
                try clear hcz12_12
                try clear hcz12_13
                try clear hcz12_2
                try clear hcz12_3
                try clear hcz12_4
                try clear hcz12_5
                try clear hcz12_6
                try clear hcz12_7
                try clear hcz12_8
                try clear hcz12_9
                try clear hcz14_0
                try clear hcz14_1
                try clear hcz14_10
                try clear hcz14_11
                try clear hcz14_12
                try clear hcz14_13
                try clear hcz14_2
                try clear hcz14_3
                try clear hcz14_4
                try clear hcz14_5
                try clear hcz14_6
                try clear hcz14_7
                try clear hcz14_8
                try clear hcz14_9
                try clear hcz18_0
                try clear hcz18_1
                try clear hcz18_10
                try clear hcz18_11
                try clear hcz18_12
                try clear hcz18_13
                try clear hcz18_2
                try clear hcz18_3
                try clear hcz18_4
                try clear hcz18_5
                try clear hcz18_6
                try clear hcz18_7
                try clear hcz18_8
                try clear hcz18_9
                try clear hcz20_0
                try clear hcz20_1
                try clear hcz20_10
                try clear hcz20_11
                try clear hcz20_12
                try clear hcz20_13
                try clear hcz20_2
                try clear hcz20_3
                try clear hcz20_4
                try clear hcz20_5
                try clear hcz20_6
                try clear hcz20_7
                try clear hcz20_8
                try clear hcz20_9
                try clear hcz22_0
                try clear hcz22_1
                try clear hcz22_10
                try clear hcz22_11
                try clear hcz22_12
                try clear hcz22_13
                try clear hcz22_2
                try clear hcz22_3
                try clear hcz22_4
                try clear hcz22_5
                try clear hcz22_6
                try clear hcz22_7
                try clear hcz22_8
                try clear hcz22_9
                try clear hcz23_0
                try clear hcz23_1
                try clear hcz23_10
                try clear hcz23_11
                try clear hcz23_12
                try clear hcz23_13
                try clear hcz23_2
                try clear hcz23_3
                try clear hcz23_4
                try clear hcz23_5
                try clear hcz23_6
                try clear hcz23_7
                try clear hcz23_8
                try clear hcz23_9
                try clear hcz6_0
                try clear hcz6_1
                try clear hcz6_10
                try clear hcz6_11
                try clear hcz6_12
                try clear hcz6_13
                try clear hcz6_2
                try clear hcz6_3
                try clear hcz6_4
                try clear hcz6_5
                try clear hcz6_6
                try clear hcz6_7
                try clear hcz6_8
                try clear hcz6_9
                try clear hcz9_0
                try clear hcz9_1
                try clear hcz9_10
                try clear hcz9_11
                try clear hcz9_12
                try clear hcz9_13
                try clear hcz9_2
                try clear hcz9_3
                try clear hcz9_4
                try clear hcz9_5
                try clear hcz9_6
                try clear hcz9_7
                try clear hcz9_8
                try clear hcz9_9
                try clear hfz11_0
                try clear hfz11_1
                try clear hfz11_10
                try clear hfz11_11
                try clear hfz11_12
                try clear hfz11_13
                try clear hfz11_2
                try clear hfz11_3
                try clear hfz11_4
                try clear hfz11_5
                try clear hfz11_6
                try clear hfz11_7
                try clear hfz11_8
                try clear hfz11_9
                try clear hfz12_0
                try clear hfz12_1
                try clear hfz12_10
                try clear hfz12_11
                try clear hfz12_12
                try clear hfz12_13
                try clear hfz12_2
                try clear hfz12_3
                try clear hfz12_4
                try clear hfz12_5
                try clear hfz12_6
                try clear hfz12_7
                try clear hfz12_8
                try clear hfz12_9
                try clear hfz14_0
                try clear hfz14_1
                try clear hfz14_10
                try clear hfz14_11
                try clear hfz14_12
                try clear hfz14_13
                try clear hfz14_2
                try clear hfz14_3
                try clear hfz14_4
                try clear hfz14_5
                try clear hfz14_6
                try clear hfz14_7
                try clear hfz14_8
                try clear hfz14_9
                try clear hfz18_0
                try clear hfz18_1
                try clear hfz18_10
                try clear hfz18_11
                try clear hfz18_12
                try clear hfz18_13
                try clear hfz18_2
                try clear hfz18_3
                try clear hfz18_4
                try clear hfz18_5
                try clear hfz18_6
                try clear hfz18_7
                try clear hfz18_8
                try clear hfz18_9
                try clear hfz20_0
                try clear hfz20_1
                try clear hfz20_10
                try clear hfz20_11
                try clear hfz20_12
                try clear hfz20_13
                try clear hfz20_2
                try clear hfz20_3
                try clear hfz20_4
                try clear hfz20_5
                try clear hfz20_6
                try clear hfz20_7
                try clear hfz20_8
                try clear hfz20_9
                try clear hfz22_0
                try clear hfz22_1
                try clear hfz22_10
                try clear hfz22_11
                try clear hfz22_12
                try clear hfz22_13
                try clear hfz22_2
                try clear hfz22_3
                try clear hfz22_4
                try clear hfz22_5
                try clear hfz22_6
                try clear hfz22_7
                try clear hfz22_8
                try clear hfz22_9
                try clear hfz23_0
                try clear hfz23_1
                try clear hfz23_10
                try clear hfz23_11
                try clear hfz23_12
                try clear hfz23_13
                try clear hfz23_2
                try clear hfz23_3
                try clear hfz23_4
                try clear hfz23_5
                try clear hfz23_6
                try clear hfz23_7
                try clear hfz23_8
                try clear hfz23_9
                try clear hfz6_0
                try clear hfz6_1
                try clear hfz6_10
                try clear hfz6_11
                try clear hfz6_12
                try clear hfz6_13
                try clear hfz6_2
                try clear hfz6_3
                try clear hfz6_4
                try clear hfz6_5
                try clear hfz6_6
                try clear hfz6_7
                try clear hfz6_8
                try clear hfz6_9
                try clear hfz9_0
                try clear hfz9_1
                try clear hfz9_10
                try clear hfz9_11
                try clear hfz9_12
                try clear hfz9_13
                try clear hfz9_2
                try clear hfz9_3
                try clear hfz9_4
                try clear hfz9_5
                try clear hfz9_6
                try clear hfz9_7
                try clear hfz9_8
                try clear hfz9_9
                try clear p2
                obtain ⟨x3_3, rfl, HA, HK3, BK240, HB⟩ := hrel
                cases gk with
                | zero => exact absurd HA.out (by simp [trunklineref12_Check.l0])
                | succ k3 =>
                  have H := HA.out
                  clear HA
                  simp only [trunklineref12_Check.l0] at H
                  by_cases c25 : x3_3 < (l0_12.length : Int)
                  · rw [if_pos c25] at H
                    have c25b0 : decide (x3_3 < (l0_12.length : Int)) = true := decide_eq_true c25
                    clear c25
                    by_cases c26 : 0 ≤ x3_3
                    · rw [if_pos c26] at H
                      have c26b0 : decide (0 ≤ x3_3) = true := decide_eq_true c26
                      clear c26
                      by_cases c27 : (((rd_T48 l0_12 x3_3).f1).length : Int) > 1480
                      · rw [if_pos c27] at H
                        have c27b0 : decide (1480 < (((rd_T48 l0_12 x3_3).f1).length : Int)) = true := decide_eq_true c27
                        have c27b1 : decide (1480 < ((rd_T48 l0_12 x3_3).f1).length) = true := decide_eq_true (by omega)
                        clear c27
                        obtain rfl := Option.some.inj H
                        have hcz28_0 : wr.cell? ⟨gb240, 0, none⟩ = some (.int .u8 a0_0) := (blk_cell BK240.out 0).trans rfl
                        have hcz28_1 : wr.cell? ⟨gb240, 1, none⟩ = some (.int .u8 a0_1) := (blk_cell BK240.out 1).trans rfl
                        have hcz28_2 : wr.cell? ⟨gb240, 2, none⟩ = some (.int .u32 a0_2) := (blk_cell BK240.out 2).trans rfl
                        have hcz28_3 : wr.cell? ⟨gb240, 3, none⟩ = some (.int .u16 a0_3) := (blk_cell BK240.out 3).trans rfl
                        have hcz28_4 : wr.cell? ⟨gb240, 4, none⟩ = some (.int .u16 a0_4) := (blk_cell BK240.out 4).trans rfl
                        have hcz28_5 : wr.cell? ⟨gb240, 5, none⟩ = some (.int .u32 a0_5) := (blk_cell BK240.out 5).trans rfl
                        have hcz28_6 : wr.cell? ⟨gb240, 6, none⟩ = some (.int .u32 a0_6) := (blk_cell BK240.out 6).trans rfl
                        have hcz28_7 : wr.cell? ⟨gb240, 7, none⟩ = some (.int .u32 a0_7) := (blk_cell BK240.out 7).trans rfl
                        have hcz28_8 : wr.cell? ⟨gb240, 8, none⟩ = some (.int .u16 a0_8) := (blk_cell BK240.out 8).trans rfl
                        have hcz28_9 : wr.cell? ⟨gb240, 9, none⟩ = some (.int .u16 a0_9) := (blk_cell BK240.out 9).trans rfl
                        have hcz28_10 : wr.cell? ⟨gb240, 10, none⟩ = some (.slice A0_10 l0_10.length c0_10) := (blk_cell BK240.out 10).trans rfl
                        have hcz28_11 : wr.cell? ⟨gb240, 11, none⟩ = some (.slice A0_11 l0_11.length c0_11) := (blk_cell BK240.out 11).trans rfl
                        have hcz28_12 : wr.cell? ⟨gb240, 12, none⟩ = some (.slice A0_12 l0_12.length c0_12) := (blk_cell BK240.out 12).trans rfl
                        have hcz28_13 : wr.cell? ⟨gb240, 13, none⟩ = some (.slice A0_13 l0_13.length c0_13) := (blk_cell BK240.out 13).trans rfl
                        have hfz28_0 := blk_frozen BK240.out 0
                        have hfz28_1 := blk_frozen BK240.out 1
                        have hfz28_2 := blk_frozen BK240.out 2
                        have hfz28_3 := blk_frozen BK240.out 3
                        have hfz28_4 := blk_frozen BK240.out 4
                        have hfz28_5 := blk_frozen BK240.out 5
                        have hfz28_6 := blk_frozen BK240.out 6
                        have hfz28_7 := blk_frozen BK240.out 7
                        have hfz28_8 := blk_frozen BK240.out 8
                        have hfz28_9 := blk_frozen BK240.out 9
                        have hfz28_10 := blk_frozen BK240.out 10
                        have hfz28_11 := blk_frozen BK240.out 11
                        have hfz28_12 := blk_frozen BK240.out 12
                        have hfz28_13 := blk_frozen BK240.out 13
                        have p242 : 0 ≤ (x3_3 : Int) := of_decide_eq_true (by first | (with_reducible assumption) | assumption)
                        have q242 : x3_3 < (l0_12.length : Int) := of_decide_eq_true (by first | (with_reducible assumption) | assumption)
                        obtain ⟨ad242, A242_1, c242_1, e242, hx242_0, hx242_1, hl242_1, hi242_1⟩ := at_T48 HR0_12.out x3_3 p242 q242
                        cases e242
                        replace hx242_0 := (HB.out.cell (World.block_lt_of_cell? w _ hx242_0)).trans hx242_0
                        replace hx242_1 := (HB.out.cell (World.block_lt_of_cell? w _ hx242_1)).trans hx242_1
                        have HR242_1 := Aside0.mk hi242_1
                        have HC242_1 := Aside0.mk hl242_1
                        clear hi242_1 hl242_1
                        replace p242 := eq_true p242
                        replace q242 := eq_true q242
                        go_wp2
                        go_ret
                        exact ⟨by first | rfl | (simp [errW_none, errW_some] <;> rfl) | (simp [*, errW_none, errW_some] <;> rfl), by repeat (first | (with_reducible first | exact HB.out | apply below_alloc | apply pw_below_drewN | apply below_drew1 | refine below_set ?_ GE240.out) | exact HB.out)⟩
                      · rw [if_neg c27] at H
                        have c27b0 : decide (1480 < (((rd_T48 l0_12 x3_3).f1).length : Int)) = false := decide_eq_false c27
                        have c27b1 : decide (1480 < ((rd_T48 l0_12 x3_3).f1).length) = false := decide_eq_false (by omega)
                        clear c27
                        have H' := Aside0.mk H
                        clear H
                        have hcz29_0 : wr.cell? ⟨gb240, 0, none⟩ = some (.int .u8 a0_0) := (blk_cell BK240.out 0).trans rfl
                        have hcz29_1 : wr.cell? ⟨gb240, 1, none⟩ = some (.int .u8 a0_1) := (blk_cell BK240.out 1).trans rfl
                        have hcz29_2 : wr.cell? ⟨gb240, 2, none⟩ = some (.int .u32 a0_2) := (blk_cell BK240.out 2).trans rfl
                        have hcz29_3 : wr.cell? ⟨gb240, 3, none⟩ = some (.int .u16 a0_3) := (blk_cell BK240.out 3).trans rfl
                        have hcz29_4 : wr.cell? ⟨gb240, 4, none⟩ = some (.int .u16 a0_4) := (blk_cell BK240.out 4).trans rfl
                        have hcz29_5 : wr.cell? ⟨gb240, 5, none⟩ = some (.int .u32 a0_5) := (blk_cell BK240.out 5).trans rfl
                        have hcz29_6 : wr.cell? ⟨gb240, 6, none⟩ = some (.int .u32 a0_6) := (blk_cell BK240.out 6).trans rfl
                        have hcz29_7 : wr.cell? ⟨gb240, 7, none⟩ = some (.int .u32 a0_7) := (blk_cell BK240.out 7).trans rfl
                        have hcz29_8 : wr.cell? ⟨gb240, 8, none⟩ = some (.int .u16 a0_8) := (blk_cell BK240.out 8).trans rfl
                        have hcz29_9 : wr.cell? ⟨gb240, 9, none⟩ = some (.int .u16 a0_9) := (blk_cell BK240.out 9).trans rfl
                        have hcz29_10 : wr.cell? ⟨gb240, 10, none⟩ = some (.slice A0_10 l0_10.length c0_10) := (blk_cell BK240.out 10).trans rfl
                        have hcz29_11 : wr.cell? ⟨gb240, 11, none⟩ = some (.slice A0_11 l0_11.length c0_11) := (blk_cell BK240.out 11).trans rfl
                        have hcz29_12 : wr.cell? ⟨gb240, 12, none⟩ = some (.slice A0_12 l0_12.length c0_12) := (blk_cell BK240.out 12).trans rfl
                        have hcz29_13 : wr.cell? ⟨gb240, 13, none⟩ = some (.slice A0_13 l0_13.length c0_13) := (blk_cell BK240.out 13).trans rfl
                        have hfz29_0 := blk_frozen BK240.out 0
                        have hfz29_1 := blk_frozen BK240.out 1
                        have hfz29_2 := blk_frozen BK240.out 2
                        have hfz29_3 := blk_frozen BK240.out 3
                        have hfz29_4 := blk_frozen BK240.out 4
                        have hfz29_5 := blk_frozen BK240.out 5
                        have hfz29_6 := blk_frozen BK240.out 6
                        have hfz29_7 := blk_frozen BK240.out 7
                        have hfz29_8 := blk_frozen BK240.out 8
                        have hfz29_9 := blk_frozen BK240.out 9
                        have hfz29_10 := blk_frozen BK240.out 10
                        have hfz29_11 := blk_frozen BK240.out 11
                        have hfz29_12 := blk_frozen BK240.out 12
                        have hfz29_13 := blk_frozen BK240.out 13
                        have p242 : 0 ≤ (x3_3 : Int) := of_decide_eq_true (by first | (with_reducible assumption) | assumption)
                        have q242 : x3_3 < (l0_12.length : Int) := of_decide_eq_true (by first | (with_reducible assumption) | assumption)
                        obtain ⟨ad242, A242_1, c242_1, e242, hx242_0, hx242_1, hl242_1, hi242_1⟩ := at_T48 HR0_12.out x3_3 p242 q242
                        cases e242
                        replace hx242_0 := (HB.out.cell (World.block_lt_of_cell? w _ hx242_0)).trans hx242_0
                        replace hx242_1 := (HB.out.cell (World.block_lt_of_cell? w _ hx242_1)).trans hx242_1
                        have HR242_1 := Aside0.mk hi242_1
                        have HC242_1 := Aside0.mk hl242_1
                        clear hi242_1 hl242_1
                        replace p242 := eq_true p242
                        replace q242 := eq_true q242
                        go_wp2
                        go_roundg k3
                        case measure => have := HJ1.out; have := HJ15.out; have := HK3.out; omega
                        case rel => exact ⟨(wrap64 (x3_3 + 1)), (by first | rfl | (simp; done) | (simp [*]; done)), H', ⟨by have := HJ1.out; have := HJ15.out; have := HK3.out; omega⟩, ⟨by (with_reducible repeat (first | refine blk_drewN ?_ _ | refine blk_drew ?_ | refine blk_alloc ?_ _)); exact BK240.out⟩, ⟨by repeat (first | (with_reducible first | exact HB.out | apply below_alloc | apply pw_below_drewN | apply below_drew1 | refine below_set ?_ GE240.out) | exact HB.out)⟩⟩
                    · rw [if_neg c26] at H
                      exact absurd H (by simp)
                  · rw [if_neg c25] at H
                    have c25b0 : decide (x3_3 < (l0_12.length : Int)) = false := decide_eq_false c25
                    clear c25
                    replace H := Option.bind_eq_some_iff.mp H
                    obtain ⟨t243, A300, H⟩ := H
                    replace H : (if (t243.length : Int) > 1468 then (some 6) else (some 0)) = some r := H
                    have A30 := Aside0.mk A300
                    clear A300
                    by_cases c31 : (t243.length : Int) > 1468
                    · rw [if_pos c31] at H
                      have c31b0 : decide (1468 < (t243.length : Int)) = true := decide_eq_true c31
                      have c31b1 : decide (1468 < t243.length) = true := decide_eq_true (by omega)
                      clear c31
                      obtain rfl := Option.some.inj H
                      have hcz32_0 : wr.cell? ⟨gb240, 0, none⟩ = some (.int .u8 a0_0) := (blk_cell BK240.out 0).trans rfl
                      have hcz32_1 : wr.cell? ⟨gb240, 1, none⟩ = some (.int .u8 a0_1) := (blk_cell BK240.out 1).trans rfl
                      have hcz32_2 : wr.cell? ⟨gb240, 2, none⟩ = some (.int .u32 a0_2) := (blk_cell BK240.out 2).trans rfl
                      have hcz32_3 : wr.cell? ⟨gb240, 3, none⟩ = some (.int .u16 a0_3) := (blk_cell BK240.out 3).trans rfl
                      have hcz32_4 : wr.cell? ⟨gb240, 4, none⟩ = some (.int .u16 a0_4) := (blk_cell BK240.out 4).trans rfl
                      have hcz32_5 : wr.cell? ⟨gb240, 5, none⟩ = some (.int .u32 a0_5) := (blk_cell BK240.out 5).trans rfl
                      have hcz32_6 : wr.cell? ⟨gb240, 6, none⟩ = some (.int .u32 a0_6) := (blk_cell BK240.out 6).trans rfl
                      have hcz32_7 : wr.cell? ⟨gb240, 7, none⟩ = some (.int .u32 a0_7) := (blk_cell BK240.out 7).trans rfl
                      have hcz32_8 : wr.cell? ⟨gb240, 8, none⟩ = some (.int .u16 a0_8) := (blk_cell BK240.out 8).trans rfl
                      have hcz32_9 : wr.cell? ⟨gb240, 9, none⟩ = some (.int .u16 a0_9) := (blk_cell BK240.out 9).trans rfl
                      have hcz32_10 : wr.cell? ⟨gb240, 10, none⟩ = some (.slice A0_10 l0_10.length c0_10) := (blk_cell BK240.out 10).trans rfl
                      have hcz32_11 : wr.cell? ⟨gb240, 11, none⟩ = some (.slice A0_11 l0_11.length c0_11) := (blk_cell BK240.out 11).trans rfl
                      have hcz32_12 : wr.cell? ⟨gb240, 12, none⟩ = some (.slice A0_12 l0_12.length c0_12) := (blk_cell BK240.out 12).trans rfl
                      have hcz32_13 : wr.cell? ⟨gb240, 13, none⟩ = some (.slice A0_13 l0_13.length c0_13) := (blk_cell BK240.out 13).trans rfl
                      have hfz32_0 := blk_frozen BK240.out 0
                      have hfz32_1 := blk_frozen BK240.out 1
                      have hfz32_2 := blk_frozen BK240.out 2
                      have hfz32_3 := blk_frozen BK240.out 3
                      have hfz32_4 := blk_frozen BK240.out 4
                      have hfz32_5 := blk_frozen BK240.out 5
                      have hfz32_6 := blk_frozen BK240.out 6
                      have hfz32_7 := blk_frozen BK240.out 7
                      have hfz32_8 := blk_frozen BK240.out 8
                      have hfz32_9 := blk_frozen BK240.out 9
                      have hfz32_10 := blk_frozen BK240.out 10
                      have hfz32_11 := blk_frozen BK240.out 11
                      have hfz32_12 := blk_frozen BK240.out 12
                      have hfz32_13 := blk_frozen BK240.out 13
                      go_wp2_with (first | ((with_reducible refine gate_callee (f := 29) rfl ?_); refine goesL_ (some 55) rfl rfl Try.func29 (by kernel_rfl) rfl #[.agg #[.int .u8 a0_0, .int .u8 a0_1, .int .u32 a0_2, .int .u16 a0_3, .int .u16 a0_4, .int .u32 a0_5, .int .u32 a0_6, .int .u32 a0_7, .int .u16 a0_8, .int .u16 a0_9, .slice A0_10 l0_10.length c0_10, .slice A0_11 l0_11.length c0_11, .slice A0_12 l0_12.length c0_12, .slice A0_13 l0_13.length c0_13]] rfl (by (try simp only [List.map_toArray, List.map_cons, List.map_nil]); first | done | rfl | (simp only [List.length_drop, List.length_take]; rfl)) ?_; (with_reducible refine (trunklineref12_Bytes.calls k3 a0_0 a0_1 a0_2 a0_3 a0_4 a0_5 a0_6 a0_7 a0_8 a0_9 _ _ l0_10 _ _ l0_11 _ _ l0_12 _ _ l0_13 t243 _ ?side1 ?side2 ?side3 ?side4 ?side5 ?side6 ?side7 ?side8 A30.out).mono ?_); (case side1 => repeat (first | exact (Kd.C_below HR0_10.out HB.out) | (with_reducible refine Kd.C_alloc ?_ _) | (with_reducible refine Kd.C_drewN ?_ _) | (with_reducible refine Kd.C_drew ?_))); (case side2 => exact HC0_10.out); (case side3 => repeat (first | exact (Kd.C_below HR0_11.out HB.out) | (with_reducible refine Kd.C_alloc ?_ _) | (with_reducible refine Kd.C_drewN ?_ _) | (with_reducible refine Kd.C_drew ?_))); (case side4 => exact HC0_11.out); (case side5 => repeat (first | exact (Kd.C_below HR0_12.out HB.out) | (with_reducible refine Kd.C_alloc ?_ _) | (with_reducible refine Kd.C_drewN ?_ _) | (with_reducible refine Kd.C_drew ?_))); (case side6 => exact HC0_12.out); (case side7 => repeat (first | exact (Kd.C_below HR0_13.out HB.out) | (with_reducible refine Kd.C_alloc ?_ _) | (with_reducible refine Kd.C_drewN ?_ _) | (with_reducible refine Kd.C_drew ?_))); (case side8 => exact HC0_13.out); rintro e w33 ⟨v244, rfl, ho0, hb⟩; refine ⟨_, rfl, ?_⟩; have n0_ := Aside0.mk (Kd.R_lower ho0 (below_size (by repeat (first | (with_reducible first | exact HB.out | apply below_alloc | apply pw_below_drewN | apply below_drew1 | refine below_set ?_ GE240.out) | exact HB.out)))); have n1_ := Aside0.mk (blk_below (g := gb240) (o := .cells #[.int .u8 a0_0, .int .u8 a0_1, .int .u32 a0_2, .int .u16 a0_3, .int .u16 a0_4, .int .u32 a0_5, .int .u32 a0_6, .int .u32 a0_7, .int .u16 a0_8, .int .u16 a0_9, .slice A0_10 l0_10.length c0_10, .slice A0_11 l0_11.length c0_11, .slice A0_12 l0_12.length c0_12, .slice A0_13 l0_13.length c0_13] 29 (0, 0)) (by (with_reducible repeat (first | refine blk_drewN ?_ _ | refine blk_drew ?_ | refine blk_alloc ?_ _)); exact BK240.out) hb); have n2_ := Aside0.mk (below_step (by repeat (first | (with_reducible first | exact HB.out | apply below_alloc | apply pw_below_drewN | apply below_drew1 | refine below_set ?_ GE240.out) | exact HB.out)) hb); clear BK240; clear HB; have HO245 := n0_; have BK240 := n1_; have HB := n2_; clear n0_ n1_ n2_; (try clear hb); (try clear hb2); (try clear hk); (try clear hi); (try clear ho0); obtain ⟨Ao34, co34, eo34⟩ := Kd.R_slice HO245.out; subst eo34))
                      go_ret
                      exact ⟨by first | rfl | (simp [errW_none, errW_some] <;> rfl) | (simp [*, errW_none, errW_some] <;> rfl), by repeat (first | (with_reducible first | exact HB.out | apply below_alloc | apply pw_below_drewN | apply below_drew1 | refine below_set ?_ GE240.out) | exact HB.out)⟩
                    · rw [if_neg c31] at H
                      have c31b0 : decide (1468 < (t243.length : Int)) = false := decide_eq_false c31
                      have c31b1 : decide (1468 < t243.length) = false := decide_eq_false (by omega)
                      clear c31
                      obtain rfl := Option.some.inj H
                      have hcz35_0 : wr.cell? ⟨gb240, 0, none⟩ = some (.int .u8 a0_0) := (blk_cell BK240.out 0).trans rfl
                      have hcz35_1 : wr.cell? ⟨gb240, 1, none⟩ = some (.int .u8 a0_1) := (blk_cell BK240.out 1).trans rfl
                      have hcz35_2 : wr.cell? ⟨gb240, 2, none⟩ = some (.int .u32 a0_2) := (blk_cell BK240.out 2).trans rfl
                      have hcz35_3 : wr.cell? ⟨gb240, 3, none⟩ = some (.int .u16 a0_3) := (blk_cell BK240.out 3).trans rfl
                      have hcz35_4 : wr.cell? ⟨gb240, 4, none⟩ = some (.int .u16 a0_4) := (blk_cell BK240.out 4).trans rfl
                      have hcz35_5 : wr.cell? ⟨gb240, 5, none⟩ = some (.int .u32 a0_5) := (blk_cell BK240.out 5).trans rfl
                      have hcz35_6 : wr.cell? ⟨gb240, 6, none⟩ = some (.int .u32 a0_6) := (blk_cell BK240.out 6).trans rfl
                      have hcz35_7 : wr.cell? ⟨gb240, 7, none⟩ = some (.int .u32 a0_7) := (blk_cell BK240.out 7).trans rfl
                      have hcz35_8 : wr.cell? ⟨gb240, 8, none⟩ = some (.int .u16 a0_8) := (blk_cell BK240.out 8).trans rfl
                      have hcz35_9 : wr.cell? ⟨gb240, 9, none⟩ = some (.int .u16 a0_9) := (blk_cell BK240.out 9).trans rfl
                      have hcz35_10 : wr.cell? ⟨gb240, 10, none⟩ = some (.slice A0_10 l0_10.length c0_10) := (blk_cell BK240.out 10).trans rfl
                      have hcz35_11 : wr.cell? ⟨gb240, 11, none⟩ = some (.slice A0_11 l0_11.length c0_11) := (blk_cell BK240.out 11).trans rfl
                      have hcz35_12 : wr.cell? ⟨gb240, 12, none⟩ = some (.slice A0_12 l0_12.length c0_12) := (blk_cell BK240.out 12).trans rfl
                      have hcz35_13 : wr.cell? ⟨gb240, 13, none⟩ = some (.slice A0_13 l0_13.length c0_13) := (blk_cell BK240.out 13).trans rfl
                      have hfz35_0 := blk_frozen BK240.out 0
                      have hfz35_1 := blk_frozen BK240.out 1
                      have hfz35_2 := blk_frozen BK240.out 2
                      have hfz35_3 := blk_frozen BK240.out 3
                      have hfz35_4 := blk_frozen BK240.out 4
                      have hfz35_5 := blk_frozen BK240.out 5
                      have hfz35_6 := blk_frozen BK240.out 6
                      have hfz35_7 := blk_frozen BK240.out 7
                      have hfz35_8 := blk_frozen BK240.out 8
                      have hfz35_9 := blk_frozen BK240.out 9
                      have hfz35_10 := blk_frozen BK240.out 10
                      have hfz35_11 := blk_frozen BK240.out 11
                      have hfz35_12 := blk_frozen BK240.out 12
                      have hfz35_13 := blk_frozen BK240.out 13
                      go_wp2_with (first | ((with_reducible refine gate_callee (f := 29) rfl ?_); refine goesL_ (some 55) rfl rfl Try.func29 (by kernel_rfl) rfl #[.agg #[.int .u8 a0_0, .int .u8 a0_1, .int .u32 a0_2, .int .u16 a0_3, .int .u16 a0_4, .int .u32 a0_5, .int .u32 a0_6, .int .u32 a0_7, .int .u16 a0_8, .int .u16 a0_9, .slice A0_10 l0_10.length c0_10, .slice A0_11 l0_11.length c0_11, .slice A0_12 l0_12.length c0_12, .slice A0_13 l0_13.length c0_13]] rfl (by (try simp only [List.map_toArray, List.map_cons, List.map_nil]); first | done | rfl | (simp only [List.length_drop, List.length_take]; rfl)) ?_; (with_reducible refine (trunklineref12_Bytes.calls k3 a0_0 a0_1 a0_2 a0_3 a0_4 a0_5 a0_6 a0_7 a0_8 a0_9 _ _ l0_10 _ _ l0_11 _ _ l0_12 _ _ l0_13 t243 _ ?side1 ?side2 ?side3 ?side4 ?side5 ?side6 ?side7 ?side8 A30.out).mono ?_); (case side1 => repeat (first | exact (Kd.C_below HR0_10.out HB.out) | (with_reducible refine Kd.C_alloc ?_ _) | (with_reducible refine Kd.C_drewN ?_ _) | (with_reducible refine Kd.C_drew ?_))); (case side2 => exact HC0_10.out); (case side3 => repeat (first | exact (Kd.C_below HR0_11.out HB.out) | (with_reducible refine Kd.C_alloc ?_ _) | (with_reducible refine Kd.C_drewN ?_ _) | (with_reducible refine Kd.C_drew ?_))); (case side4 => exact HC0_11.out); (case side5 => repeat (first | exact (Kd.C_below HR0_12.out HB.out) | (with_reducible refine Kd.C_alloc ?_ _) | (with_reducible refine Kd.C_drewN ?_ _) | (with_reducible refine Kd.C_drew ?_))); (case side6 => exact HC0_12.out); (case side7 => repeat (first | exact (Kd.C_below HR0_13.out HB.out) | (with_reducible refine Kd.C_alloc ?_ _) | (with_reducible refine Kd.C_drewN ?_ _) | (with_reducible refine Kd.C_drew ?_))); (case side8 => exact HC0_13.out); rintro e w36 ⟨v244, rfl, ho0, hb⟩; refine ⟨_, rfl, ?_⟩; have n0_ := Aside0.mk (Kd.R_lower ho0 (below_size (by repeat (first | (with_reducible first | exact HB.out | apply below_alloc | apply pw_below_drewN | apply below_drew1 | refine below_set ?_ GE240.out) | exact HB.out)))); have n1_ := Aside0.mk (blk_below (g := gb240) (o := .cells #[.int .u8 a0_0, .int .u8 a0_1, .int .u32 a0_2, .int .u16 a0_3, .int .u16 a0_4, .int .u32 a0_5, .int .u32 a0_6, .int .u32 a0_7, .int .u16 a0_8, .int .u16 a0_9, .slice A0_10 l0_10.length c0_10, .slice A0_11 l0_11.length c0_11, .slice A0_12 l0_12.length c0_12, .slice A0_13 l0_13.length c0_13] 29 (0, 0)) (by (with_reducible repeat (first | refine blk_drewN ?_ _ | refine blk_drew ?_ | refine blk_alloc ?_ _)); exact BK240.out) hb); have n2_ := Aside0.mk (below_step (by repeat (first | (with_reducible first | exact HB.out | apply below_alloc | apply pw_below_drewN | apply below_drew1 | refine below_set ?_ GE240.out) | exact HB.out)) hb); clear BK240; clear HB; have HO245 := n0_; have BK240 := n1_; have HB := n2_; clear n0_ n1_ n2_; (try clear hb); (try clear hb2); (try clear hk); (try clear hi); (try clear ho0); obtain ⟨Ao37, co37, eo37⟩ := Kd.R_slice HO245.out; subst eo37))
                      go_ret
                      exact ⟨by first | rfl | (simp [errW_none, errW_some] <;> rfl) | (simp [*, errW_none, errW_some] <;> rfl), by repeat (first | (with_reducible first | exact HB.out | apply below_alloc | apply pw_below_drewN | apply below_drew1 | refine below_set ?_ GE240.out) | exact HB.out)⟩

end Go.Proofs.Ytaahkggbjpdofaa.M
