-- Printed by this session's mp.py over the kit's print (turned in memory). Not trusted: Lean checks it.
import Derived.Test.YtdligcofjfdhbaaM0
import Derived.Test.YtdligcofjfdhbaaM9
import Derived.Test.YtdligcofjfdhbaaM36
namespace Go.Proofs.Ytdligcofjfdhbaa.M
open Go.RowKit Go.Proofs.YtdligcofjfdhbaaW.PrintWords Go.Proofs.YtdligcofjfdhbaaW.PrintLast Go.Proofs.YtdligcofjfdhbaaW.PrintMore
attribute [local go_sem] max2_int min2_int max_two min_two max_three min_three max_four min_four   -- for this text's walks alone
set_option linter.unusedVariables false
set_option linter.unusedSimpArgs false

/-! ### ip_Refuse: function 26 -/
def ip_Refuse.j0 : Nat → Int → Int → List Int → Bool → Int → Int → Int → Int → Int → Bool → Bool → Int → List Int → Option (Int × Int × Int × Int × Int × Bool × Bool × Int × List Int × Int)
  | 0, _, _, _, _, _, _, _, _, _, _, _, _, _ => none
  | k + 1, x1, x2, x8, x20, x570000, x570001, x570002, x570003, x570004, x570005, x570006, x570007, x570008 => if x20 = true then (some (0, 0, 0, 0, 0, false, false, 0, ([] : List Int), 2)) else (if x570007 = 0 then (if x570002 = 1 then (if (x570008.length : Int) = 0 then (some (0, 0, 0, 0, 0, false, false, 0, ([] : List Int), 11)) else (if 0 < (x570008.length : Int) then (if (rd x570008 0) = 0 then (if 0 ≤ (mn (x8.length : Int) 28) then (if (mn (x8.length : Int) 28) ≤ (x8.length : Int) then ((ip_back.f k x570000 x570001 x570002 x570003 x570004 x570005 x570006 x570007 x570008 0 3 ((x1) % 256) ((x2) % 4294967296) (x8.take ((mn (x8.length : Int) 28) : Int).toNat)).bind fun bt580 => (some (bt580.1, bt580.2.1, bt580.2.2.1, bt580.2.2.2.1, bt580.2.2.2.2.1, bt580.2.2.2.2.2.1, bt580.2.2.2.2.2.2.1, bt580.2.2.2.2.2.2.2.1, bt580.2.2.2.2.2.2.2.2, 0))) else (none)) else (none)) else (if (rd x570008 0) = 8 then (if 0 ≤ (mn (x8.length : Int) 28) then (if (mn (x8.length : Int) 28) ≤ (x8.length : Int) then ((ip_back.f k x570000 x570001 x570002 x570003 x570004 x570005 x570006 x570007 x570008 0 3 ((x1) % 256) ((x2) % 4294967296) (x8.take ((mn (x8.length : Int) 28) : Int).toNat)).bind fun bt596 => (some (bt596.1, bt596.2.1, bt596.2.2.1, bt596.2.2.2.1, bt596.2.2.2.2.1, bt596.2.2.2.2.2.1, bt596.2.2.2.2.2.2.1, bt596.2.2.2.2.2.2.2.1, bt596.2.2.2.2.2.2.2.2, 0))) else (none)) else (none)) else (some (0, 0, 0, 0, 0, false, false, 0, ([] : List Int), 11)))) else (none))) else (if 0 ≤ (mn (x8.length : Int) 28) then (if (mn (x8.length : Int) 28) ≤ (x8.length : Int) then ((ip_back.f k x570000 x570001 x570002 x570003 x570004 x570005 x570006 x570007 x570008 0 3 ((x1) % 256) ((x2) % 4294967296) (x8.take ((mn (x8.length : Int) 28) : Int).toNat)).bind fun bt611 => (some (bt611.1, bt611.2.1, bt611.2.2.1, bt611.2.2.2.1, bt611.2.2.2.2.1, bt611.2.2.2.2.2.1, bt611.2.2.2.2.2.2.1, bt611.2.2.2.2.2.2.2.1, bt611.2.2.2.2.2.2.2.2, 0))) else (none)) else (none))) else (some (0, 0, 0, 0, 0, false, false, 0, ([] : List Int), 11)))
def ip_Refuse.f (k : Nat) (a0_0 : Int) (a0_1 : Int) (a0_2 : Int) (a0_3 : Int) (a0_4 : Int) (a0_5 : Bool) (a0_6 : Bool) (a0_7 : Int) (l0_8 : List Int) (a1 : Int) (a2 : Int) : Option (Int × Int × Int × Int × Int × Bool × Bool × Int × List Int × Int) := (ip_Put.f k a0_0 a0_1 a0_2 a0_3 a0_4 a0_5 a0_6 a0_7 l0_8).bind fun bt571 => (if bt571.2 = 0 then (if a1 < 0 then (ip_Refuse.j0 k a1 a2 bt571.1 true a0_0 a0_1 a0_2 a0_3 a0_4 a0_5 a0_6 a0_7 l0_8) else (if a1 > 15 then (ip_Refuse.j0 k a1 a2 bt571.1 true a0_0 a0_1 a0_2 a0_3 a0_4 a0_5 a0_6 a0_7 l0_8) else (if a2 < 0 then (ip_Refuse.j0 k a1 a2 bt571.1 true a0_0 a0_1 a0_2 a0_3 a0_4 a0_5 a0_6 a0_7 l0_8) else (ip_Refuse.j0 k a1 a2 bt571.1 (decide (a2 > 65535)) a0_0 a0_1 a0_2 a0_3 a0_4 a0_5 a0_6 a0_7 l0_8)))) else (some (0, 0, 0, 0, 0, false, false, 0, ([] : List Int), bt571.2)))
theorem ip_Refuse.mono_l : ∀ k, (∀ y0 y1 y2 y3 y4 y5 y6 y7 y8 y9 y10 y11 y12, LeO (ip_Refuse.j0 k y0 y1 y2 y3 y4 y5 y6 y7 y8 y9 y10 y11 y12) (ip_Refuse.j0 (k + 1) y0 y1 y2 y3 y4 y5 y6 y7 y8 y9 y10 y11 y12))
  | 0 => fun _ _ _ _ _ _ _ _ _ _ _ _ _ r h => by simp [ip_Refuse.j0] at h
  | k + 1 => by
    have ih0 := ip_Refuse.mono_l k
    · intro y0 y1 y2 y3 y4 y5 y6 y7 y8 y9 y10 y11 y12
      unfold ip_Refuse.j0
      repeat' first
      | (with_reducible exact ih0 _ _ _ _ _ _ _ _ _ _ _ _ _)
      | (with_reducible exact ip_Put.mono _ _ _ _ _ _ _ _ _ _)
      | (with_reducible exact ip_back.mono _ _ _ _ _ _ _ _ _ _ _ _ _ _ _)
      | (with_reducible exact LeO.refl _)
      | (with_reducible exact LeO.none _)
      | (with_reducible refine LeO.ite ?_ ?_)
      | (with_reducible refine LeO.bind ?_ (fun _ => ?_))
      | exact ih0 _ _ _ _ _ _ _ _ _ _ _ _ _
      | exact ip_Put.mono _ _ _ _ _ _ _ _ _ _
      | exact ip_back.mono _ _ _ _ _ _ _ _ _ _ _ _ _ _ _
      | exact LeO.none _
      | refine LeO.ite ?_ ?_
      | refine LeO.bind ?_ (fun _ => ?_)
theorem ip_Refuse.mono : ∀ a0 a1 a2 a3 a4 a5 a6 a7 a8 a9 a10 k, LeO (ip_Refuse.f k a0 a1 a2 a3 a4 a5 a6 a7 a8 a9 a10) (ip_Refuse.f (k + 1) a0 a1 a2 a3 a4 a5 a6 a7 a8 a9 a10) := by
  intro a0 a1 a2 a3 a4 a5 a6 a7 a8 a9 a10 k
  have ih0 := ip_Refuse.mono_l k
  unfold ip_Refuse.f
  repeat' first
      | (with_reducible exact ih0 _ _ _ _ _ _ _ _ _ _ _ _ _)
      | (with_reducible exact ip_Put.mono _ _ _ _ _ _ _ _ _ _)
      | (with_reducible exact ip_back.mono _ _ _ _ _ _ _ _ _ _ _ _ _ _ _)
      | (with_reducible exact LeO.refl _)
      | (with_reducible exact LeO.none _)
      | (with_reducible refine LeO.ite ?_ ?_)
      | (with_reducible refine LeO.bind ?_ (fun _ => ?_))
      | exact ih0 _ _ _ _ _ _ _ _ _ _ _ _ _
      | exact ip_Put.mono _ _ _ _ _ _ _ _ _ _
      | exact ip_back.mono _ _ _ _ _ _ _ _ _ _ _ _ _ _ _
      | exact LeO.none _
      | refine LeO.ite ?_ ?_
      | refine LeO.bind ?_ (fun _ => ?_)
def ip_Refuse.T9 : Bool × List (List Nat × List Nat) := (true, [([], []), ([], []), ([1], [1]), ([], []), ([3], [3]), ([], []), ([], []), ([6], [6]), ([7], [7]), ([5, 8], [5, 8]), ([2, 4, 9], [2, 4, 9]), ([0, 10], [0, 10]), ([11, 11, 0, 1, 2, 3, 4, 5, 6, 7, 8, 9, 10, 11], [11]), ([12, 0, 1, 2, 3, 4, 5, 6, 7, 8, 9, 10, 11, 12], [])])
def ip_Refuse.B9 : List Nat := [0, 0, 2, 0, 8, 0, 0, 64, 192, 480, 1022, 2047, 4095, 8191]
theorem ip_Refuse.tab9 : rtab .any (opsOf Try.f26 9) = ip_Refuse.T9 := by kernel_rfl
theorem ip_Refuse.bits9 : waitsOk ip_Refuse.T9.2 ip_Refuse.B9 = true := by kernel_rfl
set_option maxHeartbeats 8000000 in
set_option maxRecDepth 100000 in
theorem ip_Refuse.calls (k : Nat) (a0_0 : Int) (a0_1 : Int) (a0_2 : Int) (a0_3 : Int) (a0_4 : Int) (a0_5 : Bool) (a0_6 : Bool) (a0_7 : Int) (A0_8 : Option Addr) (c0_8 : Nat) (l0_8 : List Int) (a1 : Int) (a2 : Int) (r1 : Int) (r2 : Int) (r3 : Int) (r4 : Int) (r5 : Int) (r6 : Bool) (r7 : Bool) (r8 : Int) (r9 : List Int) (r10 : Int) (w : World) (hr0_8 : Kd.C (Kd.int .u8) w A0_8 l0_8.length l0_8) (hc0_8 : l0_8.length ≤ c0_8) (h : ip_Refuse.f k a0_0 a0_1 a0_2 a0_3 a0_4 a0_5 a0_6 a0_7 l0_8 a1 a2 = some (r1, r2, r3, r4, r5, r6, r7, r8, r9, r10)) :
    Calls Try.prog 26 #[.agg #[.int .u32 a0_0, .int .u32 a0_1, .int .u8 a0_2, .int .u8 a0_3, .int .u16 a0_4, .bool a0_5, .bool a0_6, .int .i64 a0_7, .slice A0_8 l0_8.length c0_8], .int .i64 a1, .int .i64 a2] w fun e w' => ∃ v8_ : Value, e = .returned (.tuple #[.agg #[.int .u32 r1, .int .u32 r2, .int .u8 r3, .int .u8 r4, .int .u16 r5, .bool r6, .bool r7, .int .i64 r8, v8_], .int .i64 r10]) ∧ Kd.R (Kd.int .u8) 5 w' w.heap.size (fun _ => True) v8_ r9 ∧ Below w.heap.size w w' := by
  have hu26 := Try.underlying26
  have hu44 := Try.underlying44
  have HR0_8 := Aside0.mk hr0_8
  have HC0_8 := Aside0.mk hc0_8
  clear hr0_8 hc0_8
  have HB := Aside0.mk (Below.refl w.heap.size w)
  have H : ((ip_Put.f k a0_0 a0_1 a0_2 a0_3 a0_4 a0_5 a0_6 a0_7 l0_8).bind fun bt571 => (if bt571.2 = 0 then (if a1 < 0 then (ip_Refuse.j0 k a1 a2 bt571.1 true a0_0 a0_1 a0_2 a0_3 a0_4 a0_5 a0_6 a0_7 l0_8) else (if a1 > 15 then (ip_Refuse.j0 k a1 a2 bt571.1 true a0_0 a0_1 a0_2 a0_3 a0_4 a0_5 a0_6 a0_7 l0_8) else (if a2 < 0 then (ip_Refuse.j0 k a1 a2 bt571.1 true a0_0 a0_1 a0_2 a0_3 a0_4 a0_5 a0_6 a0_7 l0_8) else (ip_Refuse.j0 k a1 a2 bt571.1 (decide (a2 > 65535)) a0_0 a0_1 a0_2 a0_3 a0_4 a0_5 a0_6 a0_7 l0_8)))) else (some (0, 0, 0, 0, 0, false, false, 0, ([] : List Int), bt571.2)))) = some (r1, r2, r3, r4, r5, r6, r7, r8, r9, r10) := h
  clear h
  replace H := Option.bind_eq_some_iff.mp H
  obtain ⟨⟨t571, t574⟩, A40, H⟩ := H
  replace H : (if t574 = 0 then (if a1 < 0 then (ip_Refuse.j0 k a1 a2 t571 true a0_0 a0_1 a0_2 a0_3 a0_4 a0_5 a0_6 a0_7 l0_8) else (if a1 > 15 then (ip_Refuse.j0 k a1 a2 t571 true a0_0 a0_1 a0_2 a0_3 a0_4 a0_5 a0_6 a0_7 l0_8) else (if a2 < 0 then (ip_Refuse.j0 k a1 a2 t571 true a0_0 a0_1 a0_2 a0_3 a0_4 a0_5 a0_6 a0_7 l0_8) else (ip_Refuse.j0 k a1 a2 t571 (decide (a2 > 65535)) a0_0 a0_1 a0_2 a0_3 a0_4 a0_5 a0_6 a0_7 l0_8)))) else (some (0, 0, 0, 0, 0, false, false, 0, ([] : List Int), t574))) = some (r1, r2, r3, r4, r5, r6, r7, r8, r9, r10) := H
  have A4 := Aside0.mk A40
  clear A40
  by_cases c5 : t574 = 0
  · rw [if_pos c5] at H
    have c5b0 : (t574 == 0) = true := beq_iff_eq.mpr c5
    have c5b1 : (t574 != 0) = false := bne_eq_false_iff_eq.mpr c5
    clear c5
    have HC6 := Aside0.mk H
    clear H
    go_enter Try.func26, Try.ntmps26
    go_upto_region 4 with (first | ((with_reducible refine gate_dst (N := 3) rfl ?_); (try (refine gate_guard (by rfl) ?_; dsimp only)); refine box_event ?hg (N := 3) ?hd (cs := #[.int .u32 a0_0, .int .u32 a0_1, .int .u8 a0_2, .int .u8 a0_3, .int .u16 a0_4, .bool a0_5, .bool a0_6, .int .i64 a0_7, .slice A0_8 l0_8.length c0_8]) (t := 26) ?hr ?_; (case hd => rfl); (case hg => rfl); (case hr => first | (go_simp; done) | (go_simp; rfl)); intro gb569 hg w7 hbox hb; have n0_ := Aside0.mk (below_step (by repeat (first | (with_reducible first | exact HB.out | apply below_alloc | apply pw_below_drewN | apply below_drew1) | exact HB.out)) hb); have n1_ := Aside0.mk (hbox); have n2_ := Aside0.mk ((by rw [hg]; exact (below_size (by repeat (first | (with_reducible first | exact HB.out | apply below_alloc | apply pw_below_drewN | apply below_drew1) | exact HB.out))) : w.heap.size ≤ gb569)); have n3_ := Aside0.mk ((by rw [hg]; exact (below_size (by repeat (first | (with_reducible first | exact HB.out | apply below_alloc | apply pw_below_drewN | apply below_drew1) | exact HB.out))) : w.heap.size ≤ gb569)); clear HB; have HB := n0_; have BK569 := n1_; have GW569 := n2_; have GE569 := n3_; clear n0_ n1_ n2_ n3_; clear hb hbox hg) | ((with_reducible refine gate_dst (N := 6) rfl ?_); (try (refine gate_guard (by rfl) ?_; dsimp only)); refine box_event ?hg (N := 6) ?hd (cs := #[.int .u32 0, .int .u32 0, .int .u8 0, .int .u8 0, .int .u16 0, .bool false, .bool false, .int .i64 0, .slice none 0 0]) (t := 26) ?hr ?_; (case hd => rfl); (case hg => rfl); (case hr => first | (go_simp; done) | (go_simp; rfl)); intro gb570 hg w8 hbox hb; have n0_ := Aside0.mk (blk_below (g := gb569) (o := .cells #[.int .u32 a0_0, .int .u32 a0_1, .int .u8 a0_2, .int .u8 a0_3, .int .u16 a0_4, .bool a0_5, .bool a0_6, .int .i64 a0_7, .slice A0_8 l0_8.length c0_8] 26 (0, 0)) (by (with_reducible repeat (first | refine blk_drewN ?_ _ | refine blk_drew ?_ | refine blk_alloc ?_ _)); exact BK569.out) hb); have n1_ := Aside0.mk (below_step (by repeat (first | (with_reducible first | exact HB.out | apply below_alloc | apply pw_below_drewN | apply below_drew1 | refine below_set ?_ GE569.out) | exact HB.out)) hb); have n2_ := Aside0.mk (hbox); have n3_ := Aside0.mk ((by rw [hg]; exact (below_size (by repeat (first | (with_reducible first | exact HB.out | apply below_alloc | apply pw_below_drewN | apply below_drew1 | refine below_set ?_ GE569.out) | exact HB.out))) : w.heap.size ≤ gb570)); have n4_ := Aside0.mk ((by rw [hg]; exact (below_size (by repeat (first | (with_reducible first | exact HB.out | apply below_alloc | apply pw_below_drewN | apply below_drew1 | refine below_set ?_ GE569.out) | exact HB.out))) : w.heap.size ≤ gb570)); have n5_ := Aside0.mk ((by rw [hg]; exact Nat.ne_of_lt (blk_lt (g := gb569) (o := .cells #[.int .u32 a0_0, .int .u32 a0_1, .int .u8 a0_2, .int .u8 a0_3, .int .u16 a0_4, .bool a0_5, .bool a0_6, .int .i64 a0_7, .slice A0_8 l0_8.length c0_8] 26 (0, 0)) (by (with_reducible repeat (first | refine blk_drewN ?_ _ | refine blk_drew ?_ | refine blk_alloc ?_ _)); exact BK569.out)) : gb569 ≠ gb570)); have n6_ := Aside0.mk ((by rw [hg]; exact Nat.ne_of_gt (blk_lt (g := gb569) (o := .cells #[.int .u32 a0_0, .int .u32 a0_1, .int .u8 a0_2, .int .u8 a0_3, .int .u16 a0_4, .bool a0_5, .bool a0_6, .int .i64 a0_7, .slice A0_8 l0_8.length c0_8] 26 (0, 0)) (by (with_reducible repeat (first | refine blk_drewN ?_ _ | refine blk_drew ?_ | refine blk_alloc ?_ _)); exact BK569.out)) : gb570 ≠ gb569)); clear BK569; clear HB; have BK569 := n0_; have HB := n1_; have BK570 := n2_; have GW570 := n3_; have GE570 := n4_; have NB569_570 := n5_; have NB570_569 := n6_; clear n0_ n1_ n2_ n3_ n4_ n5_ n6_; clear hb hbox hg; have hnb9 := NB569_570.out; have hnc9 := NB570_569.out; obtain ⟨hcz10_0, hcz10_1, hcz10_2, hcz10_3, hcz10_4, hcz10_5, hcz10_6, hcz10_7, hcz10_8⟩ := blk9 BK569.out; obtain ⟨hfz10_0, hfz10_1, hfz10_2, hfz10_3, hfz10_4, hfz10_5, hfz10_6, hfz10_7, hfz10_8⟩ := frz9 BK569.out) | ((with_reducible refine gate_callee (f := 13) rfl ?_); refine goesL_ (some 12) rfl rfl Try.func13 (by kernel_rfl) rfl #[.agg #[.int .u32 a0_0, .int .u32 a0_1, .int .u8 a0_2, .int .u8 a0_3, .int .u16 a0_4, .bool a0_5, .bool a0_6, .int .i64 a0_7, .slice A0_8 l0_8.length c0_8]] rfl (by (try simp only [List.map_toArray, List.map_cons, List.map_nil]); first | done | rfl | (simp only [List.length_drop, List.length_take]; rfl)) ?_; (with_reducible refine (ip_Put.calls k a0_0 a0_1 a0_2 a0_3 a0_4 a0_5 a0_6 a0_7 _ _ l0_8 t571 t574 _ ?side1 ?side2 A4.out).mono ?_); (case side1 => repeat (first | exact (Kd.C_below HR0_8.out HB.out) | (with_reducible refine Kd.C_alloc ?_ _) | (with_reducible refine Kd.C_drewN ?_ _) | (with_reducible refine Kd.C_drew ?_))); (case side2 => exact HC0_8.out); rintro e w11 ⟨v572, rfl, ho0, hb⟩; refine ⟨_, rfl, ?_⟩; have n0_ := Aside0.mk (Kd.R_lower ho0 (below_size (by repeat (first | (with_reducible first | exact HB.out | apply below_alloc | apply pw_below_drewN | apply below_drew1 | refine below_set ?_ GE569.out | refine below_set ?_ GE570.out) | exact HB.out)))); have n1_ := Aside0.mk (blk_below (g := gb569) (o := .cells #[.int .u32 a0_0, .int .u32 a0_1, .int .u8 a0_2, .int .u8 a0_3, .int .u16 a0_4, .bool a0_5, .bool a0_6, .int .i64 a0_7, .slice A0_8 l0_8.length c0_8] 26 (0, 0)) (by (with_reducible repeat (first | refine blk_drewN ?_ _ | refine blk_drew ?_ | refine blk_alloc ?_ _)); exact BK569.out) hb); have n2_ := Aside0.mk (blk_below (g := gb570) (o := .cells #[.int .u32 0, .int .u32 0, .int .u8 0, .int .u8 0, .int .u16 0, .bool false, .bool false, .int .i64 0, .slice none 0 0] 26 (0, 0)) (by (with_reducible repeat (first | refine blk_drewN ?_ _ | refine blk_drew ?_ | refine blk_alloc ?_ _)); exact BK570.out) hb); have n3_ := Aside0.mk (below_step (by repeat (first | (with_reducible first | exact HB.out | apply below_alloc | apply pw_below_drewN | apply below_drew1 | refine below_set ?_ GE569.out | refine below_set ?_ GE570.out) | exact HB.out)) hb); clear BK569; clear BK570; clear HB; have HO573 := n0_; have BK569 := n1_; have BK570 := n2_; have HB := n3_; clear n0_ n1_ n2_ n3_; (try clear hb); (try clear hb2); (try clear hk); (try clear hi); (try clear ho0)))
    (try simp only [Act.put, List.setIfInBounds_toArray, List.set_cons_zero, List.set_cons_succ])
    go_cut [20] (fun v20 wc => ∃ (kq : Nat) (x20_5 : Bool), v20 = .bool x20_5 ∧ Aside0 (ip_Refuse.j0 kq a1 a2 t571 x20_5 a0_0 a0_1 a0_2 a0_3 a0_4 a0_5 a0_6 a0_7 l0_8 = some (r1, r2, r3, r4, r5, r6, r7, r8, r9, r10)) ∧ Aside0 (kq ≤ k) ∧ Aside0 (Kd.R (Kd.int .u8) 5 wc w.heap.size (fun _ => True) v572 t571) ∧ Aside0 (wc.heap[gb569]? = some (.cells #[.int .u32 a0_0, .int .u32 a0_1, .int .u8 a0_2, .int .u8 a0_3, .int .u16 a0_4, .bool a0_5, .bool a0_6, .int .i64 a0_7, (.slice A0_8 l0_8.length c0_8)] 26 (0, 0))) ∧ Aside0 (wc.heap[gb570]? = some (.cells #[.int .u32 0, .int .u32 0, .int .u8 0, .int .u8 0, .int .u16 0, .bool false, .bool false, .int .i64 0, (.slice none 0 0)] 26 (0, 0))) ∧ Aside0 (Below w.heap.size w wc))
    case first =>
      have H := HC6.out
      clear HC6
      by_cases c12 : a1 < 0
      · rw [if_pos c12] at H
        have c12b0 : decide (a1 < 0) = true := decide_eq_true c12
        clear c12
        (first | rw [c12b0] | (simp only [i64_w, i32_w]; rw [c12b0]) | skip)
        have H' := Aside0.mk H
        clear H
        go_wp2
        go_meet
        case rel => exact ⟨_, (true), (by first | rfl | (simp; done) | (simp [*]; done)), H', ⟨by first | omega | exact Nat.le_refl _⟩, ⟨by (with_reducible repeat (first | apply Kd.R_alloc | apply Kd.R_drewN | apply Kd.R_drew)); exact HO573.out⟩, ⟨by (with_reducible repeat (first | refine blk_drewN ?_ _ | refine blk_drew ?_ | refine blk_alloc ?_ _)); exact BK569.out⟩, ⟨by (with_reducible repeat (first | refine blk_drewN ?_ _ | refine blk_drew ?_ | refine blk_alloc ?_ _)); exact BK570.out⟩, ⟨by repeat (first | (with_reducible first | exact HB.out | apply below_alloc | apply pw_below_drewN | apply below_drew1 | refine below_set ?_ GE569.out | refine below_set ?_ GE570.out) | exact HB.out)⟩⟩
      · rw [if_neg c12] at H
        have c12b0 : decide (a1 < 0) = false := decide_eq_false c12
        clear c12
        (first | rw [c12b0] | (simp only [i64_w, i32_w]; rw [c12b0]) | skip)
        by_cases c13 : a1 > 15
        · rw [if_pos c13] at H
          have c13b0 : decide (15 < a1) = true := decide_eq_true c13
          clear c13
          have H' := Aside0.mk H
          clear H
          go_wp2
          go_meet
          case rel => exact ⟨_, (true), (by first | rfl | (simp; done) | (simp [*]; done)), H', ⟨by first | omega | exact Nat.le_refl _⟩, ⟨by (with_reducible repeat (first | apply Kd.R_alloc | apply Kd.R_drewN | apply Kd.R_drew)); exact HO573.out⟩, ⟨by (with_reducible repeat (first | refine blk_drewN ?_ _ | refine blk_drew ?_ | refine blk_alloc ?_ _)); exact BK569.out⟩, ⟨by (with_reducible repeat (first | refine blk_drewN ?_ _ | refine blk_drew ?_ | refine blk_alloc ?_ _)); exact BK570.out⟩, ⟨by repeat (first | (with_reducible first | exact HB.out | apply below_alloc | apply pw_below_drewN | apply below_drew1 | refine below_set ?_ GE569.out | refine below_set ?_ GE570.out) | exact HB.out)⟩⟩
        · rw [if_neg c13] at H
          have c13b0 : decide (15 < a1) = false := decide_eq_false c13
          clear c13
          by_cases c14 : a2 < 0
          · rw [if_pos c14] at H
            have c14b0 : decide (a2 < 0) = true := decide_eq_true c14
            clear c14
            have H' := Aside0.mk H
            clear H
            go_wp2
            go_meet
            case rel => exact ⟨_, (true), (by first | rfl | (simp; done) | (simp [*]; done)), H', ⟨by first | omega | exact Nat.le_refl _⟩, ⟨by (with_reducible repeat (first | apply Kd.R_alloc | apply Kd.R_drewN | apply Kd.R_drew)); exact HO573.out⟩, ⟨by (with_reducible repeat (first | refine blk_drewN ?_ _ | refine blk_drew ?_ | refine blk_alloc ?_ _)); exact BK569.out⟩, ⟨by (with_reducible repeat (first | refine blk_drewN ?_ _ | refine blk_drew ?_ | refine blk_alloc ?_ _)); exact BK570.out⟩, ⟨by repeat (first | (with_reducible first | exact HB.out | apply below_alloc | apply pw_below_drewN | apply below_drew1 | refine below_set ?_ GE569.out | refine below_set ?_ GE570.out) | exact HB.out)⟩⟩
          · rw [if_neg c14] at H
            have c14b0 : decide (a2 < 0) = false := decide_eq_false c14
            clear c14
            have H' := Aside0.mk H
            clear H
            go_wp2
            go_meet
            case rel => exact ⟨_, (decide (a2 > 65535)), (by first | rfl | (simp; done) | (simp [*]; done)), H', ⟨by first | omega | exact Nat.le_refl _⟩, ⟨by (with_reducible repeat (first | apply Kd.R_alloc | apply Kd.R_drewN | apply Kd.R_drew)); exact HO573.out⟩, ⟨by (with_reducible repeat (first | refine blk_drewN ?_ _ | refine blk_drew ?_ | refine blk_alloc ?_ _)); exact BK569.out⟩, ⟨by (with_reducible repeat (first | refine blk_drewN ?_ _ | refine blk_drew ?_ | refine blk_alloc ?_ _)); exact BK570.out⟩, ⟨by repeat (first | (with_reducible first | exact HB.out | apply below_alloc | apply pw_below_drewN | apply below_drew1 | refine below_set ?_ GE569.out | refine below_set ?_ GE570.out) | exact HB.out)⟩⟩
    case rest =>
      clear HC6
      try clear c1
      try clear c2
      try clear p2
      try clear c5
      try clear c5b0
      try clear c5b1
      try clear c9
      try clear c12
      try clear c12b0
      try clear c13
      try clear c13b0
      try clear c14
      try clear c14b0
      try clear hcz10_0
      try clear hcz10_1
      try clear hcz10_2
      try clear hcz10_3
      try clear hcz10_4
      try clear hcz10_5
      try clear hcz10_6
      try clear hcz10_7
      try clear hcz10_8
      try clear hfz10_0
      try clear hfz10_1
      try clear hfz10_2
      try clear hfz10_3
      try clear hfz10_4
      try clear hfz10_5
      try clear hfz10_6
      try clear hfz10_7
      try clear hfz10_8
      obtain ⟨kq, x20_5, rfl, HA, HJ5, HO_8, BK569, BK570, HB⟩ := hcut
      cases kq with
      | zero => exact absurd HA.out (by simp [ip_Refuse.j0])
      | succ kj5 =>
        have H := HA.out
        clear HA
        simp only [ip_Refuse.j0] at H
        by_cases c15 : x20_5 = true
        · subst c15
          have H1 : (some (0, 0, 0, 0, 0, false, false, 0, ([] : List Int), 2)) = some (r1, r2, r3, r4, r5, r6, r7, r8, r9, r10) := by rw [if_pos rfl] at H; exact H
          clear H
          have H := H1
          clear H1
          simp only [Option.some.injEq, Prod.mk.injEq] at H
          obtain ⟨rfl, rfl, rfl, rfl, rfl, rfl, rfl, rfl, rfl, rfl⟩ := H
          have hnb16 := NB570_569.out
          have hnc16 := NB569_570.out
          obtain ⟨hcz17_0, hcz17_1, hcz17_2, hcz17_3, hcz17_4, hcz17_5, hcz17_6, hcz17_7, hcz17_8⟩ := blk9 BK570.out
          obtain ⟨hfz17_0, hfz17_1, hfz17_2, hfz17_3, hfz17_4, hfz17_5, hfz17_6, hfz17_7, hfz17_8⟩ := frz9 BK570.out
          go_wp2
          refine bodyPost_ret (results_ct rfl _ _ gb570 26 #[.int .u32 0, .int .u32 0, .int .u8 0, .int .u8 0, .int .u16 0, .bool false, .bool false, .int .i64 0, .slice none 0 0] (0, 0) _ rfl (by (with_reducible repeat (first | refine blk_drewN ?_ _ | refine blk_drew ?_ | refine blk_alloc ?_ _)); refine blk_put (cs := #[.int .u32 0, .int .u32 0, .int .u8 0, .int .u8 0, .int .u16 0, .bool false, .bool false, .int .i64 0, .slice none 0 0]) ?_ 8 _ rfl; (with_reducible repeat (first | refine blk_drewN ?_ _ | refine blk_drew ?_ | refine blk_alloc ?_ _)); refine blk_put (cs := #[.int .u32 0, .int .u32 0, .int .u8 0, .int .u8 0, .int .u16 0, .bool false, .bool false, .int .i64 0, .slice none 0 0]) ?_ 7 _ rfl; (with_reducible repeat (first | refine blk_drewN ?_ _ | refine blk_drew ?_ | refine blk_alloc ?_ _)); refine blk_put (cs := #[.int .u32 0, .int .u32 0, .int .u8 0, .int .u8 0, .int .u16 0, .bool false, .bool false, .int .i64 0, .slice none 0 0]) ?_ 6 _ rfl; (with_reducible repeat (first | refine blk_drewN ?_ _ | refine blk_drew ?_ | refine blk_alloc ?_ _)); refine blk_put (cs := #[.int .u32 0, .int .u32 0, .int .u8 0, .int .u8 0, .int .u16 0, .bool false, .bool false, .int .i64 0, .slice none 0 0]) ?_ 5 _ rfl; (with_reducible repeat (first | refine blk_drewN ?_ _ | refine blk_drew ?_ | refine blk_alloc ?_ _)); refine blk_put (cs := #[.int .u32 0, .int .u32 0, .int .u8 0, .int .u8 0, .int .u16 0, .bool false, .bool false, .int .i64 0, .slice none 0 0]) ?_ 4 _ rfl; (with_reducible repeat (first | refine blk_drewN ?_ _ | refine blk_drew ?_ | refine blk_alloc ?_ _)); refine blk_put (cs := #[.int .u32 0, .int .u32 0, .int .u8 0, .int .u8 0, .int .u16 0, .bool false, .bool false, .int .i64 0, .slice none 0 0]) ?_ 3 _ rfl; (with_reducible repeat (first | refine blk_drewN ?_ _ | refine blk_drew ?_ | refine blk_alloc ?_ _)); refine blk_put (cs := #[.int .u32 0, .int .u32 0, .int .u8 0, .int .u8 0, .int .u16 0, .bool false, .bool false, .int .i64 0, .slice none 0 0]) ?_ 2 _ rfl; (with_reducible repeat (first | refine blk_drewN ?_ _ | refine blk_drew ?_ | refine blk_alloc ?_ _)); refine blk_put (cs := #[.int .u32 0, .int .u32 0, .int .u8 0, .int .u8 0, .int .u16 0, .bool false, .bool false, .int .i64 0, .slice none 0 0]) ?_ 1 _ rfl; (with_reducible repeat (first | refine blk_drewN ?_ _ | refine blk_drew ?_ | refine blk_alloc ?_ _)); refine blk_put (cs := #[.int .u32 0, .int .u32 0, .int .u8 0, .int .u8 0, .int .u16 0, .bool false, .bool false, .int .i64 0, .slice none 0 0]) ?_ 0 _ rfl; (with_reducible repeat (first | refine blk_drewN ?_ _ | refine blk_drew ?_ | refine blk_alloc ?_ _)); exact BK570.out) Try.underlying26 rfl (by kernel_rfl)) rfl ?_
          exact ⟨_, by first | rfl | (simp [errW_none, errW_some] <;> rfl) | (simp [*, errW_none, errW_some] <;> rfl), by first | exact Kd.R_nil _ _ _ _ _ | exact Kd.N_nil _ _ _ _ _ | exact Kd.V_nil _ _ _ _ _ | exact Kd.Q_nil _ _ _ _ _ | exact Kd.S_nil _ _ _ _ _, by repeat (first | (with_reducible first | exact HB.out | apply below_alloc | apply pw_below_drewN | apply below_drew1 | refine below_set ?_ GE569.out | refine below_set ?_ GE570.out) | exact HB.out)⟩
        · replace c15 := Bool.eq_false_iff.mpr c15
          subst c15
          have H1 : (if a0_7 = 0 then (if a0_2 = 1 then (if (l0_8.length : Int) = 0 then (some (0, 0, 0, 0, 0, false, false, 0, ([] : List Int), 11)) else (if 0 < (l0_8.length : Int) then (if (rd l0_8 0) = 0 then (if 0 ≤ (mn (t571.length : Int) 28) then (if (mn (t571.length : Int) 28) ≤ (t571.length : Int) then ((ip_back.f kj5 a0_0 a0_1 a0_2 a0_3 a0_4 a0_5 a0_6 a0_7 l0_8 0 3 ((a1) % 256) ((a2) % 4294967296) (t571.take ((mn (t571.length : Int) 28) : Int).toNat)).bind fun bt580 => (some (bt580.1, bt580.2.1, bt580.2.2.1, bt580.2.2.2.1, bt580.2.2.2.2.1, bt580.2.2.2.2.2.1, bt580.2.2.2.2.2.2.1, bt580.2.2.2.2.2.2.2.1, bt580.2.2.2.2.2.2.2.2, 0))) else (none)) else (none)) else (if (rd l0_8 0) = 8 then (if 0 ≤ (mn (t571.length : Int) 28) then (if (mn (t571.length : Int) 28) ≤ (t571.length : Int) then ((ip_back.f kj5 a0_0 a0_1 a0_2 a0_3 a0_4 a0_5 a0_6 a0_7 l0_8 0 3 ((a1) % 256) ((a2) % 4294967296) (t571.take ((mn (t571.length : Int) 28) : Int).toNat)).bind fun bt596 => (some (bt596.1, bt596.2.1, bt596.2.2.1, bt596.2.2.2.1, bt596.2.2.2.2.1, bt596.2.2.2.2.2.1, bt596.2.2.2.2.2.2.1, bt596.2.2.2.2.2.2.2.1, bt596.2.2.2.2.2.2.2.2, 0))) else (none)) else (none)) else (some (0, 0, 0, 0, 0, false, false, 0, ([] : List Int), 11)))) else (none))) else (if 0 ≤ (mn (t571.length : Int) 28) then (if (mn (t571.length : Int) 28) ≤ (t571.length : Int) then ((ip_back.f kj5 a0_0 a0_1 a0_2 a0_3 a0_4 a0_5 a0_6 a0_7 l0_8 0 3 ((a1) % 256) ((a2) % 4294967296) (t571.take ((mn (t571.length : Int) 28) : Int).toNat)).bind fun bt611 => (some (bt611.1, bt611.2.1, bt611.2.2.1, bt611.2.2.2.1, bt611.2.2.2.2.1, bt611.2.2.2.2.2.1, bt611.2.2.2.2.2.2.1, bt611.2.2.2.2.2.2.2.1, bt611.2.2.2.2.2.2.2.2, 0))) else (none)) else (none))) else (some (0, 0, 0, 0, 0, false, false, 0, ([] : List Int), 11))) = some (r1, r2, r3, r4, r5, r6, r7, r8, r9, r10) := by rw [if_neg (show ¬ (false = true) by decide)] at H; exact H
          clear H
          have H := H1
          clear H1
          by_cases c18 : a0_7 = 0
          · rw [if_pos c18] at H
            have c18b0 : (a0_7 == 0) = true := beq_iff_eq.mpr c18
            have c18b1 : (a0_7 != 0) = false := bne_eq_false_iff_eq.mpr c18
            clear c18
            by_cases c19 : a0_2 = 1
            · rw [if_pos c19] at H
              have c19b0 : (a0_2 == 1) = true := beq_iff_eq.mpr c19
              have c19b1 : (a0_2 != 1) = false := bne_eq_false_iff_eq.mpr c19
              clear c19
              by_cases c20 : (l0_8.length : Int) = 0
              · rw [if_pos c20] at H
                have c20b0 : ((l0_8.length : Int) == 0) = true := beq_iff_eq.mpr c20
                have c20b1 : ((l0_8.length : Int) != 0) = false := bne_eq_false_iff_eq.mpr c20
                clear c20
                simp only [Option.some.injEq, Prod.mk.injEq] at H
                obtain ⟨rfl, rfl, rfl, rfl, rfl, rfl, rfl, rfl, rfl, rfl⟩ := H
                have hnb21 := NB569_570.out
                have hnc21 := NB570_569.out
                obtain ⟨hcz22_0, hcz22_1, hcz22_2, hcz22_3, hcz22_4, hcz22_5, hcz22_6, hcz22_7, hcz22_8⟩ := blk9 BK569.out
                obtain ⟨hfz22_0, hfz22_1, hfz22_2, hfz22_3, hfz22_4, hfz22_5, hfz22_6, hfz22_7, hfz22_8⟩ := frz9 BK569.out
                obtain ⟨hcz23_0, hcz23_1, hcz23_2, hcz23_3, hcz23_4, hcz23_5, hcz23_6, hcz23_7, hcz23_8⟩ := blk9 BK570.out
                obtain ⟨hfz23_0, hfz23_1, hfz23_2, hfz23_3, hfz23_4, hfz23_5, hfz23_6, hfz23_7, hfz23_8⟩ := frz9 BK570.out
                go_wp2
                refine bodyPost_ret (results_ct rfl _ _ gb570 26 #[.int .u32 0, .int .u32 0, .int .u8 0, .int .u8 0, .int .u16 0, .bool false, .bool false, .int .i64 0, .slice none 0 0] (0, 0) _ rfl (by (with_reducible repeat (first | refine blk_drewN ?_ _ | refine blk_drew ?_ | refine blk_alloc ?_ _)); refine blk_put (cs := #[.int .u32 0, .int .u32 0, .int .u8 0, .int .u8 0, .int .u16 0, .bool false, .bool false, .int .i64 0, .slice none 0 0]) ?_ 8 _ rfl; (with_reducible repeat (first | refine blk_drewN ?_ _ | refine blk_drew ?_ | refine blk_alloc ?_ _)); refine blk_put (cs := #[.int .u32 0, .int .u32 0, .int .u8 0, .int .u8 0, .int .u16 0, .bool false, .bool false, .int .i64 0, .slice none 0 0]) ?_ 7 _ rfl; (with_reducible repeat (first | refine blk_drewN ?_ _ | refine blk_drew ?_ | refine blk_alloc ?_ _)); refine blk_put (cs := #[.int .u32 0, .int .u32 0, .int .u8 0, .int .u8 0, .int .u16 0, .bool false, .bool false, .int .i64 0, .slice none 0 0]) ?_ 6 _ rfl; (with_reducible repeat (first | refine blk_drewN ?_ _ | refine blk_drew ?_ | refine blk_alloc ?_ _)); refine blk_put (cs := #[.int .u32 0, .int .u32 0, .int .u8 0, .int .u8 0, .int .u16 0, .bool false, .bool false, .int .i64 0, .slice none 0 0]) ?_ 5 _ rfl; (with_reducible repeat (first | refine blk_drewN ?_ _ | refine blk_drew ?_ | refine blk_alloc ?_ _)); refine blk_put (cs := #[.int .u32 0, .int .u32 0, .int .u8 0, .int .u8 0, .int .u16 0, .bool false, .bool false, .int .i64 0, .slice none 0 0]) ?_ 4 _ rfl; (with_reducible repeat (first | refine blk_drewN ?_ _ | refine blk_drew ?_ | refine blk_alloc ?_ _)); refine blk_put (cs := #[.int .u32 0, .int .u32 0, .int .u8 0, .int .u8 0, .int .u16 0, .bool false, .bool false, .int .i64 0, .slice none 0 0]) ?_ 3 _ rfl; (with_reducible repeat (first | refine blk_drewN ?_ _ | refine blk_drew ?_ | refine blk_alloc ?_ _)); refine blk_put (cs := #[.int .u32 0, .int .u32 0, .int .u8 0, .int .u8 0, .int .u16 0, .bool false, .bool false, .int .i64 0, .slice none 0 0]) ?_ 2 _ rfl; (with_reducible repeat (first | refine blk_drewN ?_ _ | refine blk_drew ?_ | refine blk_alloc ?_ _)); refine blk_put (cs := #[.int .u32 0, .int .u32 0, .int .u8 0, .int .u8 0, .int .u16 0, .bool false, .bool false, .int .i64 0, .slice none 0 0]) ?_ 1 _ rfl; (with_reducible repeat (first | refine blk_drewN ?_ _ | refine blk_drew ?_ | refine blk_alloc ?_ _)); refine blk_put (cs := #[.int .u32 0, .int .u32 0, .int .u8 0, .int .u8 0, .int .u16 0, .bool false, .bool false, .int .i64 0, .slice none 0 0]) ?_ 0 _ rfl; (with_reducible repeat (first | refine blk_drewN ?_ _ | refine blk_drew ?_ | refine blk_alloc ?_ _)); exact BK570.out) Try.underlying26 rfl (by kernel_rfl)) rfl ?_
                exact ⟨_, by first | rfl | (simp [errW_none, errW_some] <;> rfl) | (simp [*, errW_none, errW_some] <;> rfl), by first | exact Kd.R_nil _ _ _ _ _ | exact Kd.N_nil _ _ _ _ _ | exact Kd.V_nil _ _ _ _ _ | exact Kd.Q_nil _ _ _ _ _ | exact Kd.S_nil _ _ _ _ _, by repeat (first | (with_reducible first | exact HB.out | apply below_alloc | apply pw_below_drewN | apply below_drew1 | refine below_set ?_ GE569.out | refine below_set ?_ GE570.out) | exact HB.out)⟩
              · rw [if_neg c20] at H
                have c20b0 : ((l0_8.length : Int) == 0) = false := beq_eq_false_iff_ne.mpr c20
                have c20b1 : ((l0_8.length : Int) != 0) = true := bne_iff_ne.mpr c20
                have c20b2 : ¬ (l0_8 = []) := fun h_ => c20 (by rw [h_]; rfl)
                by_cases c24 : 0 < (l0_8.length : Int)
                · rw [if_pos c24] at H
                  have c24b0 : decide (0 < (l0_8.length : Int)) = true := decide_eq_true c24
                  have c24b1 : decide (0 < l0_8.length) = true := decide_eq_true (by omega)
                  clear c24
                  by_cases c25 : (rd l0_8 0) = 0
                  · rw [if_pos c25] at H
                    have c25b0 : ((rd l0_8 0) == 0) = true := beq_iff_eq.mpr c25
                    have c25b1 : ((rd l0_8 0) != 0) = false := bne_eq_false_iff_eq.mpr c25
                    clear c25
                    obtain ⟨ji26, hji26⟩ : ∃ j_ : Int, (mn (t571.length : Int) 28) = j_ := ⟨_, rfl⟩
                    replace H : (if 0 ≤ (ji26) then (if (ji26) ≤ (t571.length : Int) then ((ip_back.f kj5 a0_0 a0_1 a0_2 a0_3 a0_4 a0_5 a0_6 a0_7 l0_8 0 3 ((a1) % 256) ((a2) % 4294967296) (t571.take ((ji26) : Int).toNat)).bind fun bt580 => (some (bt580.1, bt580.2.1, bt580.2.2.1, bt580.2.2.2.1, bt580.2.2.2.2.1, bt580.2.2.2.2.2.1, bt580.2.2.2.2.2.2.1, bt580.2.2.2.2.2.2.2.1, bt580.2.2.2.2.2.2.2.2, 0))) else (none)) else (none)) = some (r1, r2, r3, r4, r5, r6, r7, r8, r9, r10) := by first | (rw [hji26] at H; exact H) | (simp only [hji26] at H ⊢; exact H)
                    have hji26_ : (if 28 < (t571.length : Int) then 28 else (t571.length : Int)) = ji26 := hji26
                    by_cases c27 : 0 ≤ (ji26)
                    · rw [if_pos c27] at H
                      have c27b0 := eq_true c27
                      have c27b1 : decide (0 ≤ (ji26)) = true := decide_eq_true c27
                      clear c27
                      by_cases c28 : (ji26) ≤ (t571.length : Int)
                      · rw [if_pos c28] at H
                        have c28b0 := eq_true c28
                        have c28b1 : decide ((ji26) ≤ (t571.length : Int)) = true := decide_eq_true c28
                        clear c28
                        obtain ⟨y576, hy576⟩ : ∃ y_ : List Int, y_ = (t571.take ((ji26) : Int).toNat) := ⟨_, rfl⟩
                        replace H : ((ip_back.f kj5 a0_0 a0_1 a0_2 a0_3 a0_4 a0_5 a0_6 a0_7 l0_8 0 3 ((a1) % 256) ((a2) % 4294967296) y576).bind fun bt580 => (some (bt580.1, bt580.2.1, bt580.2.2.1, bt580.2.2.2.1, bt580.2.2.2.2.1, bt580.2.2.2.2.2.1, bt580.2.2.2.2.2.2.1, bt580.2.2.2.2.2.2.2.1, bt580.2.2.2.2.2.2.2.2, 0))) = some (r1, r2, r3, r4, r5, r6, r7, r8, r9, r10) := by first | (rw [hy576]; with_reducible exact H) | (have H2_ := (Option.bind_some _ _).symm.trans H; rw [hy576]; with_reducible exact H2_) | (have H2_ := (Option.bind_some _ _).symm.trans H; with_reducible exact H2_) | with_reducible exact H | (rw [hy576]; exact H) | exact H
                        have Ny576 := Aside0.mk hy576
                        clear hy576
                        replace H := Option.bind_eq_some_iff.mp H
                        obtain ⟨⟨t580, t581, t582, t583, t584, t585, t586, t587, t588⟩, A290, H⟩ := H
                        replace H : (some (t580, t581, t582, t583, t584, t585, t586, t587, t588, 0)) = some (r1, r2, r3, r4, r5, r6, r7, r8, r9, r10) := H
                        have A29 := Aside0.mk A290
                        clear A290
                        simp only [Option.some.injEq, Prod.mk.injEq] at H
                        obtain ⟨rfl, rfl, rfl, rfl, rfl, rfl, rfl, rfl, rfl, rfl⟩ := H
                        have hnb30 := NB569_570.out
                        have hnc30 := NB570_569.out
                        obtain ⟨hcz31_0, hcz31_1, hcz31_2, hcz31_3, hcz31_4, hcz31_5, hcz31_6, hcz31_7, hcz31_8⟩ := blk9 BK569.out
                        obtain ⟨hfz31_0, hfz31_1, hfz31_2, hfz31_3, hfz31_4, hfz31_5, hfz31_6, hfz31_7, hfz31_8⟩ := frz9 BK569.out
                        have p575 : 0 ≤ (0 : Int) := (by omega)
                        have q575 : 0 < (l0_8.length : Int) := of_decide_eq_true (by first | (with_reducible assumption) | assumption)
                        obtain ⟨ad575, e575, hx575_0⟩ := Kd.at_int HR0_8.out 0 p575 q575
                        cases e575
                        have qi575 : (0 < l0_8.length) = True := eq_true (by omega)
                        (try rw [show ((0 : Int)).toNat = 0 from rfl] at hx575_0)
                        (try rw [Addr.add_zero'] at hx575_0)
                        replace hx575_0 := (HB.out.cell (World.block_lt_of_cell? w _ hx575_0)).trans hx575_0
                        replace p575 := eq_true p575
                        replace q575 := eq_true q575
                        try go_wp2
                        have n0_ := Aside0.mk (Kd.R_drew HO_8.out)
                        have n1_ := Aside0.mk (blk_drew BK569.out)
                        have n2_ := Aside0.mk (blk_drew BK570.out)
                        have n3_ := Aside0.mk (below_drew1 HB.out)
                        clear HO_8
                        clear BK569
                        clear BK570
                        clear HB
                        have HO_8 := n0_
                        have BK569 := n1_
                        have BK570 := n2_
                        have HB := n3_
                        clear n0_ n1_ n2_ n3_
                        obtain ⟨Ao33, co33, eo33⟩ := Kd.R_slice HO_8.out
                        (first | subst eo33 | (injection eo33 with f1_ f2_ f3_; have f4_ := f1_.symm; have f5_ := f3_.symm; clear f1_ f2_ f3_; subst f4_; subst f5_))
                        have q34 : ((ji26) : Int) ≤ ((t571.length : Int) : Int) := of_decide_eq_true (by first | (with_reducible assumption) | assumption)
                        obtain ⟨i034, hi034, _, hsz34, _⟩ := info_parts info5
                        have hroom34 : t571.length ≤ co33 := (Kd.R_reads' HO_8.out).2.1
                        have hC34 : Kd.C (Kd.int .u8) _ Ao33 t571.length t571 := (Kd.R_reads' HO_8.out).2.2
                        have hcut34 := cut_to (P := Try.prog) 24 5 .i64 Try.underlying24 hi034 Ao33 t571.length co33 (ji26) (of_decide_eq_true (by first | (with_reducible assumption) | assumption)) q34 hroom34
                        have hr34 := Kd.C_take (m := ((ji26) : Int).toNat) hC34 (by omega)
                        have hy34 : y576.length = ((ji26) : Int).toNat := (by rw [Ny576.out, List.length_take]; omega)
                        rw [← Ny576.out] at hr34
                        rw [← hy34] at hcut34
                        have HR579 := Aside0.mk hr34
                        have HC579 := Aside0.mk (show y576.length ≤ co33 from by omega)
                        clear hr34 hC34 hroom34 hi034 hsz34
                        have KY34 := Aside0.mk hy34
                        clear hy34
                        have KL34 := Aside0.mk (show ((ji26) : Int).toNat ≤ t571.length from by omega)
                        replace q34 := eq_true q34
                        refine start_ (n := 14) (S := fun w' => w'.cell? ⟨gb569, 0, none⟩ = some (.int .u32 a0_0) ∧ w'.cell? ⟨gb569, 1, none⟩ = some (.int .u32 a0_1) ∧ w'.cell? ⟨gb569, 2, none⟩ = some (.int .u8 a0_2) ∧ w'.cell? ⟨gb569, 3, none⟩ = some (.int .u8 a0_3) ∧ w'.cell? ⟨gb569, 4, none⟩ = some (.int .u16 a0_4) ∧ w'.cell? ⟨gb569, 5, none⟩ = some (.bool a0_5) ∧ w'.cell? ⟨gb569, 6, none⟩ = some (.bool a0_6) ∧ w'.cell? ⟨gb569, 7, none⟩ = some (.int .i64 a0_7) ∧ w'.cell? ⟨gb569, 8, none⟩ = some (.slice (some ad575) l0_8.length c0_8)) (ds := []) #[false, false, false, false, false, false, false, false, false, false, false, false, false, false] (by kernel_rfl) rfl rfl ⟨(blk_cell BK569.out 0).trans rfl, (blk_cell BK569.out 1).trans rfl, (blk_cell BK569.out 2).trans rfl, (blk_cell BK569.out 3).trans rfl, (blk_cell BK569.out 4).trans rfl, (blk_cell BK569.out 5).trans rfl, (blk_cell BK569.out 6).trans rfl, (blk_cell BK569.out 7).trans rfl, (blk_cell BK569.out 8).trans rfl⟩ (fun hHeld => ?_); refine with_tabW ip_Refuse.tab9 ip_Refuse.bits9 (fun HT_ HW_ => ?_)
                        generalize wc.drew = w32 at HO_8 BK569 BK570 HB HR579 hHeld ⊢
                        refine pure_ (i := 1) (N := some 65) (v := ?_) (a' := ?_) #[false, true, false, false, false, false, false, false, false, false, false, false, false, false] rfl rfl (any_of HT_.out (by kernel_rfl)) (fun _ _ _ h => h) (Or.inl ⟨by rfl, ?_⟩) ?_ ?_
                        rotate_left
                        · intro w'
                          go_simp
                          with_reducible rfl
                        rotate_left
                        · simp only [Act.put, List.setIfInBounds_toArray, List.set_cons_zero, List.set_cons_succ, i64_w, i32_w]
                          rfl
                        refine pure_ (i := 2) (N := some 66) (v := ?_) (a' := ?_) #[false, true, true, false, false, false, false, false, false, false, false, false, false, false] rfl rfl (any_of HT_.out (by kernel_rfl)) (fun _ _ _ h => h) (Or.inl ⟨by rfl, ?_⟩) ?_ ?_
                        rotate_left
                        · intro w'
                          go_simp
                          with_reducible rfl
                        rotate_left
                        · simp only [Act.put, List.setIfInBounds_toArray, List.set_cons_zero, List.set_cons_succ, i64_w, i32_w]
                          rfl
                        refine pure_ (i := 3) (N := some 67) (v := ?_) (a' := ?_) #[false, true, true, true, false, false, false, false, false, false, false, false, false, false] rfl rfl (any_of HT_.out (by kernel_rfl)) (fun _ _ _ h => h) (Or.inl ⟨by rfl, ?_⟩) ?_ ?_
                        rotate_left
                        · intro w'
                          go_simp
                          with_reducible rfl
                        rotate_left
                        · simp only [Act.put, List.setIfInBounds_toArray, List.set_cons_zero, List.set_cons_succ, i64_w, i32_w]
                          rfl
                        refine pure_ (i := 4) (N := some 68) (v := ?_) (a' := ?_) #[false, true, true, true, true, false, false, false, false, false, false, false, false, false] rfl rfl (any_of HT_.out (by kernel_rfl)) (fun _ _ _ h => h) (Or.inl ⟨by rfl, ?_⟩) ?_ ?_
                        rotate_left
                        · intro w'
                          go_simp
                          with_reducible rfl
                        rotate_left
                        · simp only [Act.put, List.setIfInBounds_toArray, List.set_cons_zero, List.set_cons_succ, i64_w, i32_w]
                          rfl
                        refine pure_ (i := 5) (N := some 69) (v := ?_) (a' := ?_) #[false, true, true, true, true, true, false, false, false, false, false, false, false, false] rfl rfl (any_of HT_.out (by kernel_rfl)) (fun _ _ _ h => h) (Or.inl ⟨by rfl, ?_⟩) ?_ ?_
                        rotate_left
                        · intro w'
                          go_simp
                          with_reducible rfl
                        rotate_left
                        · simp only [Act.put, List.setIfInBounds_toArray, List.set_cons_zero, List.set_cons_succ, i64_w, i32_w]
                          rfl
                        refine pure_ (i := 6) (N := some 70) (v := ?_) (a' := ?_) #[false, true, true, true, true, true, true, false, false, false, false, false, false, false] rfl rfl (any_of HT_.out (by kernel_rfl)) (fun _ _ _ h => h) (Or.inl ⟨by rfl, ?_⟩) ?_ ?_
                        rotate_left
                        · intro w'
                          go_simp
                          with_reducible rfl
                        rotate_left
                        · simp only [Act.put, List.setIfInBounds_toArray, List.set_cons_zero, List.set_cons_succ, i64_w, i32_w]
                          rfl
                        refine pure_ (i := 7) (N := some 71) (v := ?_) (a' := ?_) #[false, true, true, true, true, true, true, true, false, false, false, false, false, false] rfl rfl (any_of HT_.out (by kernel_rfl)) (fun _ _ _ h => h) (Or.inl ⟨by rfl, ?_⟩) ?_ ?_
                        rotate_left
                        · intro w'
                          go_simp
                          with_reducible rfl
                        rotate_left
                        · simp only [Act.put, List.setIfInBounds_toArray, List.set_cons_zero, List.set_cons_succ, i64_w, i32_w]
                          rfl
                        refine pure_ (i := 8) (N := some 72) (v := ?_) (a' := ?_) #[false, true, true, true, true, true, true, true, true, false, false, false, false, false] rfl rfl (any_of HT_.out (by kernel_rfl)) (fun _ _ _ h => h) (Or.inl ⟨by rfl, ?_⟩) ?_ ?_
                        rotate_left
                        · intro w'
                          go_simp
                          with_reducible rfl
                        rotate_left
                        · simp only [Act.put, List.setIfInBounds_toArray, List.set_cons_zero, List.set_cons_succ, i64_w, i32_w]
                          rfl
                        refine pure_ (i := 9) (N := some 73) (v := ?_) (a' := ?_) #[false, true, true, true, true, true, true, true, true, true, false, false, false, false] rfl rfl (any_of HT_.out (by kernel_rfl)) (fun _ _ _ h => h) (Or.inl ⟨by rfl, ?_⟩) ?_ ?_
                        rotate_left
                        · intro w'
                          go_simp
                          with_reducible rfl
                        rotate_left
                        · simp only [Act.put, List.setIfInBounds_toArray, List.set_cons_zero, List.set_cons_succ, i64_w, i32_w]
                          rfl
                        refine pure_ (i := 10) (N := some 74) (v := ?_) (a' := ?_) #[false, true, true, true, true, true, true, true, true, true, true, false, false, false] rfl rfl (any_of HT_.out (by kernel_rfl)) (fun _ _ _ h => h) (Or.inl ⟨by rfl, ?_⟩) ?_ ?_
                        rotate_left
                        · intro w'
                          go_simp
                          with_reducible rfl
                        rotate_left
                        · simp only [Act.put, List.setIfInBounds_toArray, List.set_cons_zero, List.set_cons_succ, i64_w, i32_w]
                          rfl
                        refine take_ (i := 0) (N := some 64) (v := ?_) (a' := ?_) #[true, true, true, true, true, true, true, true, true, true, true, false, false, false] rfl rfl (take_ofW HT_.out HW_.out (by kernel_rfl)) (fun _ _ _ h => h) (Or.inl ⟨by rfl, ?_⟩) hHeld ?_ ?_
                        rotate_left
                        · rintro w' ⟨s0, s1, s2, s3, s4, s5, s6, s7, s8⟩
                          go_simp
                          with_reducible rfl
                        rotate_left
                        · simp only [Act.put, List.setIfInBounds_toArray, List.set_cons_zero, List.set_cons_succ, i64_w, i32_w]
                          rfl
                        refine one_ (i := 11) (N := some 75) #[true, true, true, true, true, true, true, true, true, true, true, true, false, false] rfl rfl (one_of HT_.out (by kernel_rfl)) (by decide) (fun K hK => ?_)
                        refine goes_ Try.func41 (by kernel_rfl) rfl #[.agg #[.int .u32 a0_0, .int .u32 a0_1, .int .u8 a0_2, .int .u8 a0_3, .int .u16 a0_4, .bool a0_5, .bool a0_6, .int .i64 a0_7, .slice (some ad575) l0_8.length c0_8], .int .u16 0, .agg #[.int .u8 3, .int .u8 ((a1) % 256), .int .u32 ((a2) % 4294967296), .slice Ao33 y576.length co33]] (by rfl) rfl rfl (by (try simp only [List.map_toArray, List.map_cons, List.map_nil]); first | done | rfl | (simp only [List.length_drop, List.length_take]; rfl)) ?_
                        with_reducible refine (ip_back.calls kj5 a0_0 a0_1 a0_2 a0_3 a0_4 a0_5 a0_6 a0_7 _ _ l0_8 0 3 ((a1) % 256) ((a2) % 4294967296) _ _ y576 t580 t581 t582 t583 t584 t585 t586 t587 t588 _ ?side1 ?side2 ?side3 ?side4 A29.out).mono ?_
                        (case side1 => repeat (first | exact (Kd.C_below HR0_8.out HB.out) | (with_reducible refine Kd.C_alloc ?_ _) | (with_reducible refine Kd.C_drewN ?_ _) | (with_reducible refine Kd.C_drew ?_)))
                        (case side2 => exact HC0_8.out)
                        (case side3 => repeat (first | exact (by repeat (first | (with_reducible exact HR579.out) | (with_reducible refine Kd.C_alloc ?_ _) | (with_reducible refine Kd.C_drewN ?_ _) | (with_reducible refine Kd.C_drew ?_) | exact HR579.out)) | (with_reducible refine Kd.C_alloc ?_ _) | (with_reducible refine Kd.C_drewN ?_ _) | (with_reducible refine Kd.C_drew ?_)))
                        (case side4 => exact HC579.out)
                        rintro e w35 ⟨v589, rfl, ho0, hb⟩
                        refine ⟨_, rfl, ?_⟩
                        have n0_ := Aside0.mk (Kd.R_elder' (by (with_reducible repeat (first | apply Kd.R_alloc | apply Kd.R_drewN | apply Kd.R_drew)); exact HO_8.out) (Kd.R_base ho0) hb)
                        have n1_ := Aside0.mk (Kd.R_lower (Kd.R_new' ho0 (Kd.R_lt (by (with_reducible repeat (first | apply Kd.R_alloc | apply Kd.R_drewN | apply Kd.R_drew)); exact HO_8.out))) (below_size (by repeat (first | (with_reducible first | exact HB.out | apply below_alloc | apply pw_below_drewN | apply below_drew1 | refine below_set ?_ GE569.out | refine below_set ?_ GE570.out) | exact HB.out))))
                        have n2_ := Aside0.mk (blk_below (g := gb569) (o := .cells #[.int .u32 a0_0, .int .u32 a0_1, .int .u8 a0_2, .int .u8 a0_3, .int .u16 a0_4, .bool a0_5, .bool a0_6, .int .i64 a0_7, .slice (some ad575) l0_8.length c0_8] 26 (0, 0)) (by (with_reducible repeat (first | refine blk_drewN ?_ _ | refine blk_drew ?_ | refine blk_alloc ?_ _)); exact BK569.out) hb)
                        have n3_ := Aside0.mk (blk_below (g := gb570) (o := .cells #[.int .u32 0, .int .u32 0, .int .u8 0, .int .u8 0, .int .u16 0, .bool false, .bool false, .int .i64 0, .slice none 0 0] 26 (0, 0)) (by (with_reducible repeat (first | refine blk_drewN ?_ _ | refine blk_drew ?_ | refine blk_alloc ?_ _)); exact BK570.out) hb)
                        have n4_ := Aside0.mk (Kd.C_below (by repeat (first | (with_reducible exact HR579.out) | (with_reducible refine Kd.C_alloc ?_ _) | (with_reducible refine Kd.C_drewN ?_ _) | (with_reducible refine Kd.C_drew ?_) | exact HR579.out)) hb)
                        have n5_ := Aside0.mk (below_step (by repeat (first | (with_reducible first | exact HB.out | apply below_alloc | apply pw_below_drewN | apply below_drew1 | refine below_set ?_ GE569.out | refine below_set ?_ GE570.out) | exact HB.out)) hb)
                        clear HO_8
                        clear BK569
                        clear BK570
                        clear HR579
                        clear HB
                        have HO_8 := n0_
                        have HO590 := n1_
                        have BK569 := n2_
                        have BK570 := n3_
                        have HR579 := n4_
                        have HB := n5_
                        clear n0_ n1_ n2_ n3_ n4_ n5_
                        (try clear hb)
                        (try clear hb2)
                        (try clear hk)
                        (try clear hi)
                        (try clear ho0)
                        obtain ⟨Ao44, co44, eo44⟩ := Kd.R_slice HO590.out
                        (first | subst eo44 | (injection eo44 with f1_ f2_ f3_; have f4_ := f1_.symm; have f5_ := f3_.symm; clear f1_ f2_ f3_; subst f4_; subst f5_))
                        refine hK.out _ _ ⟨(blk_cell BK569.out 0).trans rfl, (blk_cell BK569.out 1).trans rfl, (blk_cell BK569.out 2).trans rfl, (blk_cell BK569.out 3).trans rfl, (blk_cell BK569.out 4).trans rfl, (blk_cell BK569.out 5).trans rfl, (blk_cell BK569.out 6).trans rfl, (blk_cell BK569.out 7).trans rfl, (blk_cell BK569.out 8).trans rfl⟩ (fun hHeld => ?_)
                        clear hK K
                        refine norm_ (a' := ?_) ?_ ?_
                        rotate_left
                        · show Act.put _ (some 75) _ = _
                          simp only [Act.put, List.setIfInBounds_toArray, List.set_cons_zero, List.set_cons_succ, i64_w, i32_w]
                          rfl
                        refine one_ (i := 12) (N := none) #[true, true, true, true, true, true, true, true, true, true, true, true, true, false] rfl rfl (one_of HT_.out (by kernel_rfl)) (by decide) (fun K hK => ?_)
                        have hs36 : w35.cell? ⟨gb570, 0, none⟩ = some (.int .u32 0) := (blk_cell BK570.out 0).trans rfl
                        have hfs36 := blk_frozen BK570.out 0
                        have hns36_0 := NB569_570.out
                        have hms36_0 := NB570_569.out
                        have hs37 : w35.cell? ⟨gb570, 1, none⟩ = some (.int .u32 0) := (blk_cell BK570.out 1).trans rfl
                        have hfs37 := blk_frozen BK570.out 1
                        have hns37_0 := NB569_570.out
                        have hms37_0 := NB570_569.out
                        have hs38 : w35.cell? ⟨gb570, 2, none⟩ = some (.int .u8 0) := (blk_cell BK570.out 2).trans rfl
                        have hfs38 := blk_frozen BK570.out 2
                        have hns38_0 := NB569_570.out
                        have hms38_0 := NB570_569.out
                        have hs39 : w35.cell? ⟨gb570, 3, none⟩ = some (.int .u8 0) := (blk_cell BK570.out 3).trans rfl
                        have hfs39 := blk_frozen BK570.out 3
                        have hns39_0 := NB569_570.out
                        have hms39_0 := NB570_569.out
                        have hs40 : w35.cell? ⟨gb570, 4, none⟩ = some (.int .u16 0) := (blk_cell BK570.out 4).trans rfl
                        have hfs40 := blk_frozen BK570.out 4
                        have hns40_0 := NB569_570.out
                        have hms40_0 := NB570_569.out
                        have hs41 : w35.cell? ⟨gb570, 5, none⟩ = some (.bool false) := (blk_cell BK570.out 5).trans rfl
                        have hfs41 := blk_frozen BK570.out 5
                        have hns41_0 := NB569_570.out
                        have hms41_0 := NB570_569.out
                        have hs42 : w35.cell? ⟨gb570, 6, none⟩ = some (.bool false) := (blk_cell BK570.out 6).trans rfl
                        have hfs42 := blk_frozen BK570.out 6
                        have hns42_0 := NB569_570.out
                        have hms42_0 := NB570_569.out
                        have hs43 : w35.cell? ⟨gb570, 7, none⟩ = some (.int .i64 0) := (blk_cell BK570.out 7).trans rfl
                        have hfs43 := blk_frozen BK570.out 7
                        have hns43_0 := NB569_570.out
                        have hms43_0 := NB570_569.out
                        have hs45 : w35.cell? ⟨gb570, 8, none⟩ = some (.slice none 0 0) := (blk_cell BK570.out 8).trans rfl
                        have hfs45 := blk_frozen BK570.out 8
                        have hns45_0 := NB569_570.out
                        have hms45_0 := NB570_569.out
                        refine skip_ (w1 := ?_) (by rfl) rfl ?_ ?_
                        rotate_left
                        · go_simp
                          rfl
                        refine hK.out _ _ ⟨((cell_far (p := ⟨gb570, _, none⟩) NB569_570.out _).trans (((cell_far (p := ⟨gb570, _, none⟩) NB569_570.out _).trans (((cell_far (p := ⟨gb570, _, none⟩) NB569_570.out _).trans (((cell_far (p := ⟨gb570, _, none⟩) NB569_570.out _).trans (((cell_far (p := ⟨gb570, _, none⟩) NB569_570.out _).trans (((cell_far (p := ⟨gb570, _, none⟩) NB569_570.out _).trans (((cell_far (p := ⟨gb570, _, none⟩) NB569_570.out _).trans (((cell_far (p := ⟨gb570, _, none⟩) NB569_570.out _).trans (((cell_far (p := ⟨gb570, _, none⟩) NB569_570.out _).trans (hHeld.1)))))))))))))))))), ((cell_far (p := ⟨gb570, _, none⟩) NB569_570.out _).trans (((cell_far (p := ⟨gb570, _, none⟩) NB569_570.out _).trans (((cell_far (p := ⟨gb570, _, none⟩) NB569_570.out _).trans (((cell_far (p := ⟨gb570, _, none⟩) NB569_570.out _).trans (((cell_far (p := ⟨gb570, _, none⟩) NB569_570.out _).trans (((cell_far (p := ⟨gb570, _, none⟩) NB569_570.out _).trans (((cell_far (p := ⟨gb570, _, none⟩) NB569_570.out _).trans (((cell_far (p := ⟨gb570, _, none⟩) NB569_570.out _).trans (((cell_far (p := ⟨gb570, _, none⟩) NB569_570.out _).trans (hHeld.2.1)))))))))))))))))), ((cell_far (p := ⟨gb570, _, none⟩) NB569_570.out _).trans (((cell_far (p := ⟨gb570, _, none⟩) NB569_570.out _).trans (((cell_far (p := ⟨gb570, _, none⟩) NB569_570.out _).trans (((cell_far (p := ⟨gb570, _, none⟩) NB569_570.out _).trans (((cell_far (p := ⟨gb570, _, none⟩) NB569_570.out _).trans (((cell_far (p := ⟨gb570, _, none⟩) NB569_570.out _).trans (((cell_far (p := ⟨gb570, _, none⟩) NB569_570.out _).trans (((cell_far (p := ⟨gb570, _, none⟩) NB569_570.out _).trans (((cell_far (p := ⟨gb570, _, none⟩) NB569_570.out _).trans (hHeld.2.2.1)))))))))))))))))), ((cell_far (p := ⟨gb570, _, none⟩) NB569_570.out _).trans (((cell_far (p := ⟨gb570, _, none⟩) NB569_570.out _).trans (((cell_far (p := ⟨gb570, _, none⟩) NB569_570.out _).trans (((cell_far (p := ⟨gb570, _, none⟩) NB569_570.out _).trans (((cell_far (p := ⟨gb570, _, none⟩) NB569_570.out _).trans (((cell_far (p := ⟨gb570, _, none⟩) NB569_570.out _).trans (((cell_far (p := ⟨gb570, _, none⟩) NB569_570.out _).trans (((cell_far (p := ⟨gb570, _, none⟩) NB569_570.out _).trans (((cell_far (p := ⟨gb570, _, none⟩) NB569_570.out _).trans (hHeld.2.2.2.1)))))))))))))))))), ((cell_far (p := ⟨gb570, _, none⟩) NB569_570.out _).trans (((cell_far (p := ⟨gb570, _, none⟩) NB569_570.out _).trans (((cell_far (p := ⟨gb570, _, none⟩) NB569_570.out _).trans (((cell_far (p := ⟨gb570, _, none⟩) NB569_570.out _).trans (((cell_far (p := ⟨gb570, _, none⟩) NB569_570.out _).trans (((cell_far (p := ⟨gb570, _, none⟩) NB569_570.out _).trans (((cell_far (p := ⟨gb570, _, none⟩) NB569_570.out _).trans (((cell_far (p := ⟨gb570, _, none⟩) NB569_570.out _).trans (((cell_far (p := ⟨gb570, _, none⟩) NB569_570.out _).trans (hHeld.2.2.2.2.1)))))))))))))))))), ((cell_far (p := ⟨gb570, _, none⟩) NB569_570.out _).trans (((cell_far (p := ⟨gb570, _, none⟩) NB569_570.out _).trans (((cell_far (p := ⟨gb570, _, none⟩) NB569_570.out _).trans (((cell_far (p := ⟨gb570, _, none⟩) NB569_570.out _).trans (((cell_far (p := ⟨gb570, _, none⟩) NB569_570.out _).trans (((cell_far (p := ⟨gb570, _, none⟩) NB569_570.out _).trans (((cell_far (p := ⟨gb570, _, none⟩) NB569_570.out _).trans (((cell_far (p := ⟨gb570, _, none⟩) NB569_570.out _).trans (((cell_far (p := ⟨gb570, _, none⟩) NB569_570.out _).trans (hHeld.2.2.2.2.2.1)))))))))))))))))), ((cell_far (p := ⟨gb570, _, none⟩) NB569_570.out _).trans (((cell_far (p := ⟨gb570, _, none⟩) NB569_570.out _).trans (((cell_far (p := ⟨gb570, _, none⟩) NB569_570.out _).trans (((cell_far (p := ⟨gb570, _, none⟩) NB569_570.out _).trans (((cell_far (p := ⟨gb570, _, none⟩) NB569_570.out _).trans (((cell_far (p := ⟨gb570, _, none⟩) NB569_570.out _).trans (((cell_far (p := ⟨gb570, _, none⟩) NB569_570.out _).trans (((cell_far (p := ⟨gb570, _, none⟩) NB569_570.out _).trans (((cell_far (p := ⟨gb570, _, none⟩) NB569_570.out _).trans (hHeld.2.2.2.2.2.2.1)))))))))))))))))), ((cell_far (p := ⟨gb570, _, none⟩) NB569_570.out _).trans (((cell_far (p := ⟨gb570, _, none⟩) NB569_570.out _).trans (((cell_far (p := ⟨gb570, _, none⟩) NB569_570.out _).trans (((cell_far (p := ⟨gb570, _, none⟩) NB569_570.out _).trans (((cell_far (p := ⟨gb570, _, none⟩) NB569_570.out _).trans (((cell_far (p := ⟨gb570, _, none⟩) NB569_570.out _).trans (((cell_far (p := ⟨gb570, _, none⟩) NB569_570.out _).trans (((cell_far (p := ⟨gb570, _, none⟩) NB569_570.out _).trans (((cell_far (p := ⟨gb570, _, none⟩) NB569_570.out _).trans (hHeld.2.2.2.2.2.2.2.1)))))))))))))))))), ((cell_far (p := ⟨gb570, _, none⟩) NB569_570.out _).trans (((cell_far (p := ⟨gb570, _, none⟩) NB569_570.out _).trans (((cell_far (p := ⟨gb570, _, none⟩) NB569_570.out _).trans (((cell_far (p := ⟨gb570, _, none⟩) NB569_570.out _).trans (((cell_far (p := ⟨gb570, _, none⟩) NB569_570.out _).trans (((cell_far (p := ⟨gb570, _, none⟩) NB569_570.out _).trans (((cell_far (p := ⟨gb570, _, none⟩) NB569_570.out _).trans (((cell_far (p := ⟨gb570, _, none⟩) NB569_570.out _).trans (((cell_far (p := ⟨gb570, _, none⟩) NB569_570.out _).trans (hHeld.2.2.2.2.2.2.2.2))))))))))))))))))⟩ (fun hHeld => ?_)
                        clear hK K
                        refine pure_ (i := 13) (N := some 7) (v := ?_) (a' := ?_) #[true, true, true, true, true, true, true, true, true, true, true, true, true, true] rfl rfl (any_of HT_.out (by kernel_rfl)) (fun _ _ _ h => h) (Or.inl ⟨by rfl, ?_⟩) ?_ ?_
                        rotate_left
                        · intro w'
                          go_simp
                          with_reducible rfl
                        rotate_left
                        · simp only [Act.put, List.setIfInBounds_toArray, List.set_cons_zero, List.set_cons_succ, i64_w, i32_w]
                          rfl
                        refine done_ (done_of HT_.out (by kernel_rfl)) ?_
                        try go_wp2
                        refine bodyPost_ret (results_ct rfl _ _ gb570 26 #[.int .u32 t580, .int .u32 t581, .int .u8 t582, .int .u8 t583, .int .u16 t584, .bool t585, .bool t586, .int .i64 t587, .slice Ao44 t588.length co44] (0, 0) _ rfl (by (with_reducible repeat (first | refine blk_drewN ?_ _ | refine blk_drew ?_ | refine blk_alloc ?_ _)); refine blk_put (cs := #[.int .u32 t580, .int .u32 t581, .int .u8 t582, .int .u8 t583, .int .u16 t584, .bool t585, .bool t586, .int .i64 t587, .slice none 0 0]) ?_ 8 _ rfl; (with_reducible repeat (first | refine blk_drewN ?_ _ | refine blk_drew ?_ | refine blk_alloc ?_ _)); refine blk_put (cs := #[.int .u32 t580, .int .u32 t581, .int .u8 t582, .int .u8 t583, .int .u16 t584, .bool t585, .bool t586, .int .i64 0, .slice none 0 0]) ?_ 7 _ rfl; (with_reducible repeat (first | refine blk_drewN ?_ _ | refine blk_drew ?_ | refine blk_alloc ?_ _)); refine blk_put (cs := #[.int .u32 t580, .int .u32 t581, .int .u8 t582, .int .u8 t583, .int .u16 t584, .bool t585, .bool false, .int .i64 0, .slice none 0 0]) ?_ 6 _ rfl; (with_reducible repeat (first | refine blk_drewN ?_ _ | refine blk_drew ?_ | refine blk_alloc ?_ _)); refine blk_put (cs := #[.int .u32 t580, .int .u32 t581, .int .u8 t582, .int .u8 t583, .int .u16 t584, .bool false, .bool false, .int .i64 0, .slice none 0 0]) ?_ 5 _ rfl; (with_reducible repeat (first | refine blk_drewN ?_ _ | refine blk_drew ?_ | refine blk_alloc ?_ _)); refine blk_put (cs := #[.int .u32 t580, .int .u32 t581, .int .u8 t582, .int .u8 t583, .int .u16 0, .bool false, .bool false, .int .i64 0, .slice none 0 0]) ?_ 4 _ rfl; (with_reducible repeat (first | refine blk_drewN ?_ _ | refine blk_drew ?_ | refine blk_alloc ?_ _)); refine blk_put (cs := #[.int .u32 t580, .int .u32 t581, .int .u8 t582, .int .u8 0, .int .u16 0, .bool false, .bool false, .int .i64 0, .slice none 0 0]) ?_ 3 _ rfl; (with_reducible repeat (first | refine blk_drewN ?_ _ | refine blk_drew ?_ | refine blk_alloc ?_ _)); refine blk_put (cs := #[.int .u32 t580, .int .u32 t581, .int .u8 0, .int .u8 0, .int .u16 0, .bool false, .bool false, .int .i64 0, .slice none 0 0]) ?_ 2 _ rfl; (with_reducible repeat (first | refine blk_drewN ?_ _ | refine blk_drew ?_ | refine blk_alloc ?_ _)); refine blk_put (cs := #[.int .u32 t580, .int .u32 0, .int .u8 0, .int .u8 0, .int .u16 0, .bool false, .bool false, .int .i64 0, .slice none 0 0]) ?_ 1 _ rfl; (with_reducible repeat (first | refine blk_drewN ?_ _ | refine blk_drew ?_ | refine blk_alloc ?_ _)); refine blk_put (cs := #[.int .u32 0, .int .u32 0, .int .u8 0, .int .u8 0, .int .u16 0, .bool false, .bool false, .int .i64 0, .slice none 0 0]) ?_ 0 _ rfl; (with_reducible repeat (first | refine blk_drewN ?_ _ | refine blk_drew ?_ | refine blk_alloc ?_ _)); exact BK570.out) Try.underlying26 rfl (by kernel_rfl)) rfl ?_
                        exact ⟨_, by first | rfl | (simp [errW_none, errW_some] <;> rfl) | (simp only [← hji26]; first | rfl | (simp [errW_none, errW_some] <;> rfl)) | (simp [*, errW_none, errW_some] <;> rfl), by (with_reducible repeat (first | apply Kd.R_alloc | apply Kd.R_drewN | apply Kd.R_drew)); exact Kd.R_mono (Kd.R_far (p := ⟨gb570, 8, none⟩) (Kd.R_far (p := ⟨gb570, 7, none⟩) (Kd.R_far (p := ⟨gb570, 6, none⟩) (Kd.R_far (p := ⟨gb570, 5, none⟩) (Kd.R_far (p := ⟨gb570, 4, none⟩) (Kd.R_far (p := ⟨gb570, 3, none⟩) (Kd.R_far (p := ⟨gb570, 2, none⟩) (Kd.R_far (p := ⟨gb570, 1, none⟩) (Kd.R_far (p := ⟨gb570, 0, none⟩) (Kd.R_types HO590.out BK570.out (by decide)) (fun _ hk => hk.2) (.int .u32 t580)) (fun _ hk => hk.2) (.int .u32 t581)) (fun _ hk => hk.2) (.int .u8 t582)) (fun _ hk => hk.2) (.int .u8 t583)) (fun _ hk => hk.2) (.int .u16 t584)) (fun _ hk => hk.2) (.bool t585)) (fun _ hk => hk.2) (.bool t586)) (fun _ hk => hk.2) (.int .i64 t587)) (fun _ hk => hk.2) (.slice Ao44 t588.length co44)) (fun _ hk => trivial), by repeat (first | (with_reducible first | exact HB.out | apply below_alloc | apply pw_below_drewN | apply below_drew1 | refine below_set ?_ GE569.out | refine below_set ?_ GE570.out) | exact HB.out)⟩
                      · rw [if_neg c28] at H
                        exact absurd H (by simp)
                    · rw [if_neg c27] at H
                      exact absurd H (by simp)
                  · rw [if_neg c25] at H
                    have c25b0 : ((rd l0_8 0) == 0) = false := beq_eq_false_iff_ne.mpr c25
                    have c25b1 : ((rd l0_8 0) != 0) = true := bne_iff_ne.mpr c25
                    by_cases c46 : (rd l0_8 0) = 8
                    · rw [if_pos c46] at H
                      have c46b0 : ((rd l0_8 0) == 8) = true := beq_iff_eq.mpr c46
                      have c46b1 : ((rd l0_8 0) != 8) = false := bne_eq_false_iff_eq.mpr c46
                      clear c46
                      obtain ⟨ji47, hji47⟩ : ∃ j_ : Int, (mn (t571.length : Int) 28) = j_ := ⟨_, rfl⟩
                      replace H : (if 0 ≤ (ji47) then (if (ji47) ≤ (t571.length : Int) then ((ip_back.f kj5 a0_0 a0_1 a0_2 a0_3 a0_4 a0_5 a0_6 a0_7 l0_8 0 3 ((a1) % 256) ((a2) % 4294967296) (t571.take ((ji47) : Int).toNat)).bind fun bt596 => (some (bt596.1, bt596.2.1, bt596.2.2.1, bt596.2.2.2.1, bt596.2.2.2.2.1, bt596.2.2.2.2.2.1, bt596.2.2.2.2.2.2.1, bt596.2.2.2.2.2.2.2.1, bt596.2.2.2.2.2.2.2.2, 0))) else (none)) else (none)) = some (r1, r2, r3, r4, r5, r6, r7, r8, r9, r10) := by first | (rw [hji47] at H; exact H) | (simp only [hji47] at H ⊢; exact H)
                      have hji47_ : (if 28 < (t571.length : Int) then 28 else (t571.length : Int)) = ji47 := hji47
                      by_cases c48 : 0 ≤ (ji47)
                      · rw [if_pos c48] at H
                        have c48b0 := eq_true c48
                        have c48b1 : decide (0 ≤ (ji47)) = true := decide_eq_true c48
                        clear c48
                        by_cases c49 : (ji47) ≤ (t571.length : Int)
                        · rw [if_pos c49] at H
                          have c49b0 := eq_true c49
                          have c49b1 : decide ((ji47) ≤ (t571.length : Int)) = true := decide_eq_true c49
                          clear c49
                          obtain ⟨y592, hy592⟩ : ∃ y_ : List Int, y_ = (t571.take ((ji47) : Int).toNat) := ⟨_, rfl⟩
                          replace H : ((ip_back.f kj5 a0_0 a0_1 a0_2 a0_3 a0_4 a0_5 a0_6 a0_7 l0_8 0 3 ((a1) % 256) ((a2) % 4294967296) y592).bind fun bt596 => (some (bt596.1, bt596.2.1, bt596.2.2.1, bt596.2.2.2.1, bt596.2.2.2.2.1, bt596.2.2.2.2.2.1, bt596.2.2.2.2.2.2.1, bt596.2.2.2.2.2.2.2.1, bt596.2.2.2.2.2.2.2.2, 0))) = some (r1, r2, r3, r4, r5, r6, r7, r8, r9, r10) := by first | (rw [hy592]; with_reducible exact H) | (have H2_ := (Option.bind_some _ _).symm.trans H; rw [hy592]; with_reducible exact H2_) | (have H2_ := (Option.bind_some _ _).symm.trans H; with_reducible exact H2_) | with_reducible exact H | (rw [hy592]; exact H) | exact H
                          have Ny592 := Aside0.mk hy592
                          clear hy592
                          replace H := Option.bind_eq_some_iff.mp H
                          obtain ⟨⟨t596, t597, t598, t599, t600, t601, t602, t603, t604⟩, A500, H⟩ := H
                          replace H : (some (t596, t597, t598, t599, t600, t601, t602, t603, t604, 0)) = some (r1, r2, r3, r4, r5, r6, r7, r8, r9, r10) := H
                          have A50 := Aside0.mk A500
                          clear A500
                          simp only [Option.some.injEq, Prod.mk.injEq] at H
                          obtain ⟨rfl, rfl, rfl, rfl, rfl, rfl, rfl, rfl, rfl, rfl⟩ := H
                          have hnb51 := NB569_570.out
                          have hnc51 := NB570_569.out
                          obtain ⟨hcz52_0, hcz52_1, hcz52_2, hcz52_3, hcz52_4, hcz52_5, hcz52_6, hcz52_7, hcz52_8⟩ := blk9 BK569.out
                          obtain ⟨hfz52_0, hfz52_1, hfz52_2, hfz52_3, hfz52_4, hfz52_5, hfz52_6, hfz52_7, hfz52_8⟩ := frz9 BK569.out
                          have p575 : 0 ≤ (0 : Int) := (by omega)
                          have q575 : 0 < (l0_8.length : Int) := of_decide_eq_true (by first | (with_reducible assumption) | assumption)
                          obtain ⟨ad575, e575, hx575_0⟩ := Kd.at_int HR0_8.out 0 p575 q575
                          cases e575
                          have qi575 : (0 < l0_8.length) = True := eq_true (by omega)
                          (try rw [show ((0 : Int)).toNat = 0 from rfl] at hx575_0)
                          (try rw [Addr.add_zero'] at hx575_0)
                          replace hx575_0 := (HB.out.cell (World.block_lt_of_cell? w _ hx575_0)).trans hx575_0
                          replace p575 := eq_true p575
                          replace q575 := eq_true q575
                          have p591 : 0 ≤ (0 : Int) := (by omega)
                          have q591 : 0 < (l0_8.length : Int) := of_decide_eq_true (by first | (with_reducible assumption) | assumption)
                          obtain ⟨ad591, e591, hx591_0⟩ := Kd.at_int HR0_8.out 0 p591 q591
                          obtain rfl : ad575 = ad591 := (by injection e591)
                          have qi591 : (0 < l0_8.length) = True := eq_true (by omega)
                          (try rw [show ((0 : Int)).toNat = 0 from rfl] at hx591_0)
                          (try rw [Addr.add_zero'] at hx591_0)
                          replace hx591_0 := (HB.out.cell (World.block_lt_of_cell? w _ hx591_0)).trans hx591_0
                          replace p591 := eq_true p591
                          replace q591 := eq_true q591
                          try go_wp2
                          have n0_ := Aside0.mk (Kd.R_drew HO_8.out)
                          have n1_ := Aside0.mk (blk_drew BK569.out)
                          have n2_ := Aside0.mk (blk_drew BK570.out)
                          have n3_ := Aside0.mk (below_drew1 HB.out)
                          clear HO_8
                          clear BK569
                          clear BK570
                          clear HB
                          have HO_8 := n0_
                          have BK569 := n1_
                          have BK570 := n2_
                          have HB := n3_
                          clear n0_ n1_ n2_ n3_
                          obtain ⟨Ao54, co54, eo54⟩ := Kd.R_slice HO_8.out
                          (first | subst eo54 | (injection eo54 with f1_ f2_ f3_; have f4_ := f1_.symm; have f5_ := f3_.symm; clear f1_ f2_ f3_; subst f4_; subst f5_))
                          have q55 : ((ji47) : Int) ≤ ((t571.length : Int) : Int) := of_decide_eq_true (by first | (with_reducible assumption) | assumption)
                          obtain ⟨i055, hi055, _, hsz55, _⟩ := info_parts info5
                          have hroom55 : t571.length ≤ co54 := (Kd.R_reads' HO_8.out).2.1
                          have hC55 : Kd.C (Kd.int .u8) _ Ao54 t571.length t571 := (Kd.R_reads' HO_8.out).2.2
                          have hcut55 := cut_to (P := Try.prog) 24 5 .i64 Try.underlying24 hi055 Ao54 t571.length co54 (ji47) (of_decide_eq_true (by first | (with_reducible assumption) | assumption)) q55 hroom55
                          have hr55 := Kd.C_take (m := ((ji47) : Int).toNat) hC55 (by omega)
                          have hy55 : y592.length = ((ji47) : Int).toNat := (by rw [Ny592.out, List.length_take]; omega)
                          rw [← Ny592.out] at hr55
                          rw [← hy55] at hcut55
                          have HR595 := Aside0.mk hr55
                          have HC595 := Aside0.mk (show y592.length ≤ co54 from by omega)
                          clear hr55 hC55 hroom55 hi055 hsz55
                          have KY55 := Aside0.mk hy55
                          clear hy55
                          have KL55 := Aside0.mk (show ((ji47) : Int).toNat ≤ t571.length from by omega)
                          replace q55 := eq_true q55
                          refine start_ (n := 14) (S := fun w' => w'.cell? ⟨gb569, 0, none⟩ = some (.int .u32 a0_0) ∧ w'.cell? ⟨gb569, 1, none⟩ = some (.int .u32 a0_1) ∧ w'.cell? ⟨gb569, 2, none⟩ = some (.int .u8 a0_2) ∧ w'.cell? ⟨gb569, 3, none⟩ = some (.int .u8 a0_3) ∧ w'.cell? ⟨gb569, 4, none⟩ = some (.int .u16 a0_4) ∧ w'.cell? ⟨gb569, 5, none⟩ = some (.bool a0_5) ∧ w'.cell? ⟨gb569, 6, none⟩ = some (.bool a0_6) ∧ w'.cell? ⟨gb569, 7, none⟩ = some (.int .i64 a0_7) ∧ w'.cell? ⟨gb569, 8, none⟩ = some (.slice (some ad575) l0_8.length c0_8)) (ds := []) #[false, false, false, false, false, false, false, false, false, false, false, false, false, false] (by kernel_rfl) rfl rfl ⟨(blk_cell BK569.out 0).trans rfl, (blk_cell BK569.out 1).trans rfl, (blk_cell BK569.out 2).trans rfl, (blk_cell BK569.out 3).trans rfl, (blk_cell BK569.out 4).trans rfl, (blk_cell BK569.out 5).trans rfl, (blk_cell BK569.out 6).trans rfl, (blk_cell BK569.out 7).trans rfl, (blk_cell BK569.out 8).trans rfl⟩ (fun hHeld => ?_); refine with_tabW ip_Refuse.tab9 ip_Refuse.bits9 (fun HT_ HW_ => ?_)
                          generalize wc.drew = w53 at HO_8 BK569 BK570 HB HR595 hHeld ⊢
                          refine pure_ (i := 1) (N := some 65) (v := ?_) (a' := ?_) #[false, true, false, false, false, false, false, false, false, false, false, false, false, false] rfl rfl (any_of HT_.out (by kernel_rfl)) (fun _ _ _ h => h) (Or.inl ⟨by rfl, ?_⟩) ?_ ?_
                          rotate_left
                          · intro w'
                            go_simp
                            with_reducible rfl
                          rotate_left
                          · simp only [Act.put, List.setIfInBounds_toArray, List.set_cons_zero, List.set_cons_succ, i64_w, i32_w]
                            rfl
                          refine pure_ (i := 2) (N := some 66) (v := ?_) (a' := ?_) #[false, true, true, false, false, false, false, false, false, false, false, false, false, false] rfl rfl (any_of HT_.out (by kernel_rfl)) (fun _ _ _ h => h) (Or.inl ⟨by rfl, ?_⟩) ?_ ?_
                          rotate_left
                          · intro w'
                            go_simp
                            with_reducible rfl
                          rotate_left
                          · simp only [Act.put, List.setIfInBounds_toArray, List.set_cons_zero, List.set_cons_succ, i64_w, i32_w]
                            rfl
                          refine pure_ (i := 3) (N := some 67) (v := ?_) (a' := ?_) #[false, true, true, true, false, false, false, false, false, false, false, false, false, false] rfl rfl (any_of HT_.out (by kernel_rfl)) (fun _ _ _ h => h) (Or.inl ⟨by rfl, ?_⟩) ?_ ?_
                          rotate_left
                          · intro w'
                            go_simp
                            with_reducible rfl
                          rotate_left
                          · simp only [Act.put, List.setIfInBounds_toArray, List.set_cons_zero, List.set_cons_succ, i64_w, i32_w]
                            rfl
                          refine pure_ (i := 4) (N := some 68) (v := ?_) (a' := ?_) #[false, true, true, true, true, false, false, false, false, false, false, false, false, false] rfl rfl (any_of HT_.out (by kernel_rfl)) (fun _ _ _ h => h) (Or.inl ⟨by rfl, ?_⟩) ?_ ?_
                          rotate_left
                          · intro w'
                            go_simp
                            with_reducible rfl
                          rotate_left
                          · simp only [Act.put, List.setIfInBounds_toArray, List.set_cons_zero, List.set_cons_succ, i64_w, i32_w]
                            rfl
                          refine pure_ (i := 5) (N := some 69) (v := ?_) (a' := ?_) #[false, true, true, true, true, true, false, false, false, false, false, false, false, false] rfl rfl (any_of HT_.out (by kernel_rfl)) (fun _ _ _ h => h) (Or.inl ⟨by rfl, ?_⟩) ?_ ?_
                          rotate_left
                          · intro w'
                            go_simp
                            with_reducible rfl
                          rotate_left
                          · simp only [Act.put, List.setIfInBounds_toArray, List.set_cons_zero, List.set_cons_succ, i64_w, i32_w]
                            rfl
                          refine pure_ (i := 6) (N := some 70) (v := ?_) (a' := ?_) #[false, true, true, true, true, true, true, false, false, false, false, false, false, false] rfl rfl (any_of HT_.out (by kernel_rfl)) (fun _ _ _ h => h) (Or.inl ⟨by rfl, ?_⟩) ?_ ?_
                          rotate_left
                          · intro w'
                            go_simp
                            with_reducible rfl
                          rotate_left
                          · simp only [Act.put, List.setIfInBounds_toArray, List.set_cons_zero, List.set_cons_succ, i64_w, i32_w]
                            rfl
                          refine pure_ (i := 7) (N := some 71) (v := ?_) (a' := ?_) #[false, true, true, true, true, true, true, true, false, false, false, false, false, false] rfl rfl (any_of HT_.out (by kernel_rfl)) (fun _ _ _ h => h) (Or.inl ⟨by rfl, ?_⟩) ?_ ?_
                          rotate_left
                          · intro w'
                            go_simp
                            with_reducible rfl
                          rotate_left
                          · simp only [Act.put, List.setIfInBounds_toArray, List.set_cons_zero, List.set_cons_succ, i64_w, i32_w]
                            rfl
                          refine pure_ (i := 8) (N := some 72) (v := ?_) (a' := ?_) #[false, true, true, true, true, true, true, true, true, false, false, false, false, false] rfl rfl (any_of HT_.out (by kernel_rfl)) (fun _ _ _ h => h) (Or.inl ⟨by rfl, ?_⟩) ?_ ?_
                          rotate_left
                          · intro w'
                            go_simp
                            with_reducible rfl
                          rotate_left
                          · simp only [Act.put, List.setIfInBounds_toArray, List.set_cons_zero, List.set_cons_succ, i64_w, i32_w]
                            rfl
                          refine pure_ (i := 9) (N := some 73) (v := ?_) (a' := ?_) #[false, true, true, true, true, true, true, true, true, true, false, false, false, false] rfl rfl (any_of HT_.out (by kernel_rfl)) (fun _ _ _ h => h) (Or.inl ⟨by rfl, ?_⟩) ?_ ?_
                          rotate_left
                          · intro w'
                            go_simp
                            with_reducible rfl
                          rotate_left
                          · simp only [Act.put, List.setIfInBounds_toArray, List.set_cons_zero, List.set_cons_succ, i64_w, i32_w]
                            rfl
                          refine pure_ (i := 10) (N := some 74) (v := ?_) (a' := ?_) #[false, true, true, true, true, true, true, true, true, true, true, false, false, false] rfl rfl (any_of HT_.out (by kernel_rfl)) (fun _ _ _ h => h) (Or.inl ⟨by rfl, ?_⟩) ?_ ?_
                          rotate_left
                          · intro w'
                            go_simp
                            with_reducible rfl
                          rotate_left
                          · simp only [Act.put, List.setIfInBounds_toArray, List.set_cons_zero, List.set_cons_succ, i64_w, i32_w]
                            rfl
                          refine take_ (i := 0) (N := some 64) (v := ?_) (a' := ?_) #[true, true, true, true, true, true, true, true, true, true, true, false, false, false] rfl rfl (take_ofW HT_.out HW_.out (by kernel_rfl)) (fun _ _ _ h => h) (Or.inl ⟨by rfl, ?_⟩) hHeld ?_ ?_
                          rotate_left
                          · rintro w' ⟨s0, s1, s2, s3, s4, s5, s6, s7, s8⟩
                            go_simp
                            with_reducible rfl
                          rotate_left
                          · simp only [Act.put, List.setIfInBounds_toArray, List.set_cons_zero, List.set_cons_succ, i64_w, i32_w]
                            rfl
                          refine one_ (i := 11) (N := some 75) #[true, true, true, true, true, true, true, true, true, true, true, true, false, false] rfl rfl (one_of HT_.out (by kernel_rfl)) (by decide) (fun K hK => ?_)
                          refine goes_ Try.func41 (by kernel_rfl) rfl #[.agg #[.int .u32 a0_0, .int .u32 a0_1, .int .u8 a0_2, .int .u8 a0_3, .int .u16 a0_4, .bool a0_5, .bool a0_6, .int .i64 a0_7, .slice (some ad575) l0_8.length c0_8], .int .u16 0, .agg #[.int .u8 3, .int .u8 ((a1) % 256), .int .u32 ((a2) % 4294967296), .slice Ao54 y592.length co54]] (by rfl) rfl rfl (by (try simp only [List.map_toArray, List.map_cons, List.map_nil]); first | done | rfl | (simp only [List.length_drop, List.length_take]; rfl)) ?_
                          with_reducible refine (ip_back.calls kj5 a0_0 a0_1 a0_2 a0_3 a0_4 a0_5 a0_6 a0_7 _ _ l0_8 0 3 ((a1) % 256) ((a2) % 4294967296) _ _ y592 t596 t597 t598 t599 t600 t601 t602 t603 t604 _ ?side1 ?side2 ?side3 ?side4 A50.out).mono ?_
                          (case side1 => repeat (first | exact (Kd.C_below HR0_8.out HB.out) | (with_reducible refine Kd.C_alloc ?_ _) | (with_reducible refine Kd.C_drewN ?_ _) | (with_reducible refine Kd.C_drew ?_)))
                          (case side2 => exact HC0_8.out)
                          (case side3 => repeat (first | exact (by repeat (first | (with_reducible exact HR595.out) | (with_reducible refine Kd.C_alloc ?_ _) | (with_reducible refine Kd.C_drewN ?_ _) | (with_reducible refine Kd.C_drew ?_) | exact HR595.out)) | (with_reducible refine Kd.C_alloc ?_ _) | (with_reducible refine Kd.C_drewN ?_ _) | (with_reducible refine Kd.C_drew ?_)))
                          (case side4 => exact HC595.out)
                          rintro e w56 ⟨v605, rfl, ho0, hb⟩
                          refine ⟨_, rfl, ?_⟩
                          have n0_ := Aside0.mk (Kd.R_elder' (by (with_reducible repeat (first | apply Kd.R_alloc | apply Kd.R_drewN | apply Kd.R_drew)); exact HO_8.out) (Kd.R_base ho0) hb)
                          have n1_ := Aside0.mk (Kd.R_lower (Kd.R_new' ho0 (Kd.R_lt (by (with_reducible repeat (first | apply Kd.R_alloc | apply Kd.R_drewN | apply Kd.R_drew)); exact HO_8.out))) (below_size (by repeat (first | (with_reducible first | exact HB.out | apply below_alloc | apply pw_below_drewN | apply below_drew1 | refine below_set ?_ GE569.out | refine below_set ?_ GE570.out) | exact HB.out))))
                          have n2_ := Aside0.mk (blk_below (g := gb569) (o := .cells #[.int .u32 a0_0, .int .u32 a0_1, .int .u8 a0_2, .int .u8 a0_3, .int .u16 a0_4, .bool a0_5, .bool a0_6, .int .i64 a0_7, .slice (some ad575) l0_8.length c0_8] 26 (0, 0)) (by (with_reducible repeat (first | refine blk_drewN ?_ _ | refine blk_drew ?_ | refine blk_alloc ?_ _)); exact BK569.out) hb)
                          have n3_ := Aside0.mk (blk_below (g := gb570) (o := .cells #[.int .u32 0, .int .u32 0, .int .u8 0, .int .u8 0, .int .u16 0, .bool false, .bool false, .int .i64 0, .slice none 0 0] 26 (0, 0)) (by (with_reducible repeat (first | refine blk_drewN ?_ _ | refine blk_drew ?_ | refine blk_alloc ?_ _)); exact BK570.out) hb)
                          have n4_ := Aside0.mk (Kd.C_below (by repeat (first | (with_reducible exact HR595.out) | (with_reducible refine Kd.C_alloc ?_ _) | (with_reducible refine Kd.C_drewN ?_ _) | (with_reducible refine Kd.C_drew ?_) | exact HR595.out)) hb)
                          have n5_ := Aside0.mk (below_step (by repeat (first | (with_reducible first | exact HB.out | apply below_alloc | apply pw_below_drewN | apply below_drew1 | refine below_set ?_ GE569.out | refine below_set ?_ GE570.out) | exact HB.out)) hb)
                          clear HO_8
                          clear BK569
                          clear BK570
                          clear HR595
                          clear HB
                          have HO_8 := n0_
                          have HO606 := n1_
                          have BK569 := n2_
                          have BK570 := n3_
                          have HR595 := n4_
                          have HB := n5_
                          clear n0_ n1_ n2_ n3_ n4_ n5_
                          (try clear hb)
                          (try clear hb2)
                          (try clear hk)
                          (try clear hi)
                          (try clear ho0)
                          obtain ⟨Ao65, co65, eo65⟩ := Kd.R_slice HO606.out
                          (first | subst eo65 | (injection eo65 with f1_ f2_ f3_; have f4_ := f1_.symm; have f5_ := f3_.symm; clear f1_ f2_ f3_; subst f4_; subst f5_))
                          refine hK.out _ _ ⟨(blk_cell BK569.out 0).trans rfl, (blk_cell BK569.out 1).trans rfl, (blk_cell BK569.out 2).trans rfl, (blk_cell BK569.out 3).trans rfl, (blk_cell BK569.out 4).trans rfl, (blk_cell BK569.out 5).trans rfl, (blk_cell BK569.out 6).trans rfl, (blk_cell BK569.out 7).trans rfl, (blk_cell BK569.out 8).trans rfl⟩ (fun hHeld => ?_)
                          clear hK K
                          refine norm_ (a' := ?_) ?_ ?_
                          rotate_left
                          · show Act.put _ (some 75) _ = _
                            simp only [Act.put, List.setIfInBounds_toArray, List.set_cons_zero, List.set_cons_succ, i64_w, i32_w]
                            rfl
                          refine one_ (i := 12) (N := none) #[true, true, true, true, true, true, true, true, true, true, true, true, true, false] rfl rfl (one_of HT_.out (by kernel_rfl)) (by decide) (fun K hK => ?_)
                          have hs57 : w56.cell? ⟨gb570, 0, none⟩ = some (.int .u32 0) := (blk_cell BK570.out 0).trans rfl
                          have hfs57 := blk_frozen BK570.out 0
                          have hns57_0 := NB569_570.out
                          have hms57_0 := NB570_569.out
                          have hs58 : w56.cell? ⟨gb570, 1, none⟩ = some (.int .u32 0) := (blk_cell BK570.out 1).trans rfl
                          have hfs58 := blk_frozen BK570.out 1
                          have hns58_0 := NB569_570.out
                          have hms58_0 := NB570_569.out
                          have hs59 : w56.cell? ⟨gb570, 2, none⟩ = some (.int .u8 0) := (blk_cell BK570.out 2).trans rfl
                          have hfs59 := blk_frozen BK570.out 2
                          have hns59_0 := NB569_570.out
                          have hms59_0 := NB570_569.out
                          have hs60 : w56.cell? ⟨gb570, 3, none⟩ = some (.int .u8 0) := (blk_cell BK570.out 3).trans rfl
                          have hfs60 := blk_frozen BK570.out 3
                          have hns60_0 := NB569_570.out
                          have hms60_0 := NB570_569.out
                          have hs61 : w56.cell? ⟨gb570, 4, none⟩ = some (.int .u16 0) := (blk_cell BK570.out 4).trans rfl
                          have hfs61 := blk_frozen BK570.out 4
                          have hns61_0 := NB569_570.out
                          have hms61_0 := NB570_569.out
                          have hs62 : w56.cell? ⟨gb570, 5, none⟩ = some (.bool false) := (blk_cell BK570.out 5).trans rfl
                          have hfs62 := blk_frozen BK570.out 5
                          have hns62_0 := NB569_570.out
                          have hms62_0 := NB570_569.out
                          have hs63 : w56.cell? ⟨gb570, 6, none⟩ = some (.bool false) := (blk_cell BK570.out 6).trans rfl
                          have hfs63 := blk_frozen BK570.out 6
                          have hns63_0 := NB569_570.out
                          have hms63_0 := NB570_569.out
                          have hs64 : w56.cell? ⟨gb570, 7, none⟩ = some (.int .i64 0) := (blk_cell BK570.out 7).trans rfl
                          have hfs64 := blk_frozen BK570.out 7
                          have hns64_0 := NB569_570.out
                          have hms64_0 := NB570_569.out
                          have hs66 : w56.cell? ⟨gb570, 8, none⟩ = some (.slice none 0 0) := (blk_cell BK570.out 8).trans rfl
                          have hfs66 := blk_frozen BK570.out 8
                          have hns66_0 := NB569_570.out
                          have hms66_0 := NB570_569.out
                          refine skip_ (w1 := ?_) (by rfl) rfl ?_ ?_
                          rotate_left
                          · go_simp
                            rfl
                          refine hK.out _ _ ⟨((cell_far (p := ⟨gb570, _, none⟩) NB569_570.out _).trans (((cell_far (p := ⟨gb570, _, none⟩) NB569_570.out _).trans (((cell_far (p := ⟨gb570, _, none⟩) NB569_570.out _).trans (((cell_far (p := ⟨gb570, _, none⟩) NB569_570.out _).trans (((cell_far (p := ⟨gb570, _, none⟩) NB569_570.out _).trans (((cell_far (p := ⟨gb570, _, none⟩) NB569_570.out _).trans (((cell_far (p := ⟨gb570, _, none⟩) NB569_570.out _).trans (((cell_far (p := ⟨gb570, _, none⟩) NB569_570.out _).trans (((cell_far (p := ⟨gb570, _, none⟩) NB569_570.out _).trans (hHeld.1)))))))))))))))))), ((cell_far (p := ⟨gb570, _, none⟩) NB569_570.out _).trans (((cell_far (p := ⟨gb570, _, none⟩) NB569_570.out _).trans (((cell_far (p := ⟨gb570, _, none⟩) NB569_570.out _).trans (((cell_far (p := ⟨gb570, _, none⟩) NB569_570.out _).trans (((cell_far (p := ⟨gb570, _, none⟩) NB569_570.out _).trans (((cell_far (p := ⟨gb570, _, none⟩) NB569_570.out _).trans (((cell_far (p := ⟨gb570, _, none⟩) NB569_570.out _).trans (((cell_far (p := ⟨gb570, _, none⟩) NB569_570.out _).trans (((cell_far (p := ⟨gb570, _, none⟩) NB569_570.out _).trans (hHeld.2.1)))))))))))))))))), ((cell_far (p := ⟨gb570, _, none⟩) NB569_570.out _).trans (((cell_far (p := ⟨gb570, _, none⟩) NB569_570.out _).trans (((cell_far (p := ⟨gb570, _, none⟩) NB569_570.out _).trans (((cell_far (p := ⟨gb570, _, none⟩) NB569_570.out _).trans (((cell_far (p := ⟨gb570, _, none⟩) NB569_570.out _).trans (((cell_far (p := ⟨gb570, _, none⟩) NB569_570.out _).trans (((cell_far (p := ⟨gb570, _, none⟩) NB569_570.out _).trans (((cell_far (p := ⟨gb570, _, none⟩) NB569_570.out _).trans (((cell_far (p := ⟨gb570, _, none⟩) NB569_570.out _).trans (hHeld.2.2.1)))))))))))))))))), ((cell_far (p := ⟨gb570, _, none⟩) NB569_570.out _).trans (((cell_far (p := ⟨gb570, _, none⟩) NB569_570.out _).trans (((cell_far (p := ⟨gb570, _, none⟩) NB569_570.out _).trans (((cell_far (p := ⟨gb570, _, none⟩) NB569_570.out _).trans (((cell_far (p := ⟨gb570, _, none⟩) NB569_570.out _).trans (((cell_far (p := ⟨gb570, _, none⟩) NB569_570.out _).trans (((cell_far (p := ⟨gb570, _, none⟩) NB569_570.out _).trans (((cell_far (p := ⟨gb570, _, none⟩) NB569_570.out _).trans (((cell_far (p := ⟨gb570, _, none⟩) NB569_570.out _).trans (hHeld.2.2.2.1)))))))))))))))))), ((cell_far (p := ⟨gb570, _, none⟩) NB569_570.out _).trans (((cell_far (p := ⟨gb570, _, none⟩) NB569_570.out _).trans (((cell_far (p := ⟨gb570, _, none⟩) NB569_570.out _).trans (((cell_far (p := ⟨gb570, _, none⟩) NB569_570.out _).trans (((cell_far (p := ⟨gb570, _, none⟩) NB569_570.out _).trans (((cell_far (p := ⟨gb570, _, none⟩) NB569_570.out _).trans (((cell_far (p := ⟨gb570, _, none⟩) NB569_570.out _).trans (((cell_far (p := ⟨gb570, _, none⟩) NB569_570.out _).trans (((cell_far (p := ⟨gb570, _, none⟩) NB569_570.out _).trans (hHeld.2.2.2.2.1)))))))))))))))))), ((cell_far (p := ⟨gb570, _, none⟩) NB569_570.out _).trans (((cell_far (p := ⟨gb570, _, none⟩) NB569_570.out _).trans (((cell_far (p := ⟨gb570, _, none⟩) NB569_570.out _).trans (((cell_far (p := ⟨gb570, _, none⟩) NB569_570.out _).trans (((cell_far (p := ⟨gb570, _, none⟩) NB569_570.out _).trans (((cell_far (p := ⟨gb570, _, none⟩) NB569_570.out _).trans (((cell_far (p := ⟨gb570, _, none⟩) NB569_570.out _).trans (((cell_far (p := ⟨gb570, _, none⟩) NB569_570.out _).trans (((cell_far (p := ⟨gb570, _, none⟩) NB569_570.out _).trans (hHeld.2.2.2.2.2.1)))))))))))))))))), ((cell_far (p := ⟨gb570, _, none⟩) NB569_570.out _).trans (((cell_far (p := ⟨gb570, _, none⟩) NB569_570.out _).trans (((cell_far (p := ⟨gb570, _, none⟩) NB569_570.out _).trans (((cell_far (p := ⟨gb570, _, none⟩) NB569_570.out _).trans (((cell_far (p := ⟨gb570, _, none⟩) NB569_570.out _).trans (((cell_far (p := ⟨gb570, _, none⟩) NB569_570.out _).trans (((cell_far (p := ⟨gb570, _, none⟩) NB569_570.out _).trans (((cell_far (p := ⟨gb570, _, none⟩) NB569_570.out _).trans (((cell_far (p := ⟨gb570, _, none⟩) NB569_570.out _).trans (hHeld.2.2.2.2.2.2.1)))))))))))))))))), ((cell_far (p := ⟨gb570, _, none⟩) NB569_570.out _).trans (((cell_far (p := ⟨gb570, _, none⟩) NB569_570.out _).trans (((cell_far (p := ⟨gb570, _, none⟩) NB569_570.out _).trans (((cell_far (p := ⟨gb570, _, none⟩) NB569_570.out _).trans (((cell_far (p := ⟨gb570, _, none⟩) NB569_570.out _).trans (((cell_far (p := ⟨gb570, _, none⟩) NB569_570.out _).trans (((cell_far (p := ⟨gb570, _, none⟩) NB569_570.out _).trans (((cell_far (p := ⟨gb570, _, none⟩) NB569_570.out _).trans (((cell_far (p := ⟨gb570, _, none⟩) NB569_570.out _).trans (hHeld.2.2.2.2.2.2.2.1)))))))))))))))))), ((cell_far (p := ⟨gb570, _, none⟩) NB569_570.out _).trans (((cell_far (p := ⟨gb570, _, none⟩) NB569_570.out _).trans (((cell_far (p := ⟨gb570, _, none⟩) NB569_570.out _).trans (((cell_far (p := ⟨gb570, _, none⟩) NB569_570.out _).trans (((cell_far (p := ⟨gb570, _, none⟩) NB569_570.out _).trans (((cell_far (p := ⟨gb570, _, none⟩) NB569_570.out _).trans (((cell_far (p := ⟨gb570, _, none⟩) NB569_570.out _).trans (((cell_far (p := ⟨gb570, _, none⟩) NB569_570.out _).trans (((cell_far (p := ⟨gb570, _, none⟩) NB569_570.out _).trans (hHeld.2.2.2.2.2.2.2.2))))))))))))))))))⟩ (fun hHeld => ?_)
                          clear hK K
                          refine pure_ (i := 13) (N := some 7) (v := ?_) (a' := ?_) #[true, true, true, true, true, true, true, true, true, true, true, true, true, true] rfl rfl (any_of HT_.out (by kernel_rfl)) (fun _ _ _ h => h) (Or.inl ⟨by rfl, ?_⟩) ?_ ?_
                          rotate_left
                          · intro w'
                            go_simp
                            with_reducible rfl
                          rotate_left
                          · simp only [Act.put, List.setIfInBounds_toArray, List.set_cons_zero, List.set_cons_succ, i64_w, i32_w]
                            rfl
                          refine done_ (done_of HT_.out (by kernel_rfl)) ?_
                          try go_wp2
                          refine bodyPost_ret (results_ct rfl _ _ gb570 26 #[.int .u32 t596, .int .u32 t597, .int .u8 t598, .int .u8 t599, .int .u16 t600, .bool t601, .bool t602, .int .i64 t603, .slice Ao65 t604.length co65] (0, 0) _ rfl (by (with_reducible repeat (first | refine blk_drewN ?_ _ | refine blk_drew ?_ | refine blk_alloc ?_ _)); refine blk_put (cs := #[.int .u32 t596, .int .u32 t597, .int .u8 t598, .int .u8 t599, .int .u16 t600, .bool t601, .bool t602, .int .i64 t603, .slice none 0 0]) ?_ 8 _ rfl; (with_reducible repeat (first | refine blk_drewN ?_ _ | refine blk_drew ?_ | refine blk_alloc ?_ _)); refine blk_put (cs := #[.int .u32 t596, .int .u32 t597, .int .u8 t598, .int .u8 t599, .int .u16 t600, .bool t601, .bool t602, .int .i64 0, .slice none 0 0]) ?_ 7 _ rfl; (with_reducible repeat (first | refine blk_drewN ?_ _ | refine blk_drew ?_ | refine blk_alloc ?_ _)); refine blk_put (cs := #[.int .u32 t596, .int .u32 t597, .int .u8 t598, .int .u8 t599, .int .u16 t600, .bool t601, .bool false, .int .i64 0, .slice none 0 0]) ?_ 6 _ rfl; (with_reducible repeat (first | refine blk_drewN ?_ _ | refine blk_drew ?_ | refine blk_alloc ?_ _)); refine blk_put (cs := #[.int .u32 t596, .int .u32 t597, .int .u8 t598, .int .u8 t599, .int .u16 t600, .bool false, .bool false, .int .i64 0, .slice none 0 0]) ?_ 5 _ rfl; (with_reducible repeat (first | refine blk_drewN ?_ _ | refine blk_drew ?_ | refine blk_alloc ?_ _)); refine blk_put (cs := #[.int .u32 t596, .int .u32 t597, .int .u8 t598, .int .u8 t599, .int .u16 0, .bool false, .bool false, .int .i64 0, .slice none 0 0]) ?_ 4 _ rfl; (with_reducible repeat (first | refine blk_drewN ?_ _ | refine blk_drew ?_ | refine blk_alloc ?_ _)); refine blk_put (cs := #[.int .u32 t596, .int .u32 t597, .int .u8 t598, .int .u8 0, .int .u16 0, .bool false, .bool false, .int .i64 0, .slice none 0 0]) ?_ 3 _ rfl; (with_reducible repeat (first | refine blk_drewN ?_ _ | refine blk_drew ?_ | refine blk_alloc ?_ _)); refine blk_put (cs := #[.int .u32 t596, .int .u32 t597, .int .u8 0, .int .u8 0, .int .u16 0, .bool false, .bool false, .int .i64 0, .slice none 0 0]) ?_ 2 _ rfl; (with_reducible repeat (first | refine blk_drewN ?_ _ | refine blk_drew ?_ | refine blk_alloc ?_ _)); refine blk_put (cs := #[.int .u32 t596, .int .u32 0, .int .u8 0, .int .u8 0, .int .u16 0, .bool false, .bool false, .int .i64 0, .slice none 0 0]) ?_ 1 _ rfl; (with_reducible repeat (first | refine blk_drewN ?_ _ | refine blk_drew ?_ | refine blk_alloc ?_ _)); refine blk_put (cs := #[.int .u32 0, .int .u32 0, .int .u8 0, .int .u8 0, .int .u16 0, .bool false, .bool false, .int .i64 0, .slice none 0 0]) ?_ 0 _ rfl; (with_reducible repeat (first | refine blk_drewN ?_ _ | refine blk_drew ?_ | refine blk_alloc ?_ _)); exact BK570.out) Try.underlying26 rfl (by kernel_rfl)) rfl ?_
                          exact ⟨_, by first | rfl | (simp [errW_none, errW_some] <;> rfl) | (simp only [← hji47]; first | rfl | (simp [errW_none, errW_some] <;> rfl)) | (simp [*, errW_none, errW_some] <;> rfl), by (with_reducible repeat (first | apply Kd.R_alloc | apply Kd.R_drewN | apply Kd.R_drew)); exact Kd.R_mono (Kd.R_far (p := ⟨gb570, 8, none⟩) (Kd.R_far (p := ⟨gb570, 7, none⟩) (Kd.R_far (p := ⟨gb570, 6, none⟩) (Kd.R_far (p := ⟨gb570, 5, none⟩) (Kd.R_far (p := ⟨gb570, 4, none⟩) (Kd.R_far (p := ⟨gb570, 3, none⟩) (Kd.R_far (p := ⟨gb570, 2, none⟩) (Kd.R_far (p := ⟨gb570, 1, none⟩) (Kd.R_far (p := ⟨gb570, 0, none⟩) (Kd.R_types HO606.out BK570.out (by decide)) (fun _ hk => hk.2) (.int .u32 t596)) (fun _ hk => hk.2) (.int .u32 t597)) (fun _ hk => hk.2) (.int .u8 t598)) (fun _ hk => hk.2) (.int .u8 t599)) (fun _ hk => hk.2) (.int .u16 t600)) (fun _ hk => hk.2) (.bool t601)) (fun _ hk => hk.2) (.bool t602)) (fun _ hk => hk.2) (.int .i64 t603)) (fun _ hk => hk.2) (.slice Ao65 t604.length co65)) (fun _ hk => trivial), by repeat (first | (with_reducible first | exact HB.out | apply below_alloc | apply pw_below_drewN | apply below_drew1 | refine below_set ?_ GE569.out | refine below_set ?_ GE570.out) | exact HB.out)⟩
                        · rw [if_neg c49] at H
                          exact absurd H (by simp)
                      · rw [if_neg c48] at H
                        exact absurd H (by simp)
                    · rw [if_neg c46] at H
                      have c46b0 : ((rd l0_8 0) == 8) = false := beq_eq_false_iff_ne.mpr c46
                      have c46b1 : ((rd l0_8 0) != 8) = true := bne_iff_ne.mpr c46
                      simp only [Option.some.injEq, Prod.mk.injEq] at H
                      obtain ⟨rfl, rfl, rfl, rfl, rfl, rfl, rfl, rfl, rfl, rfl⟩ := H
                      have hnb67 := NB569_570.out
                      have hnc67 := NB570_569.out
                      obtain ⟨hcz68_0, hcz68_1, hcz68_2, hcz68_3, hcz68_4, hcz68_5, hcz68_6, hcz68_7, hcz68_8⟩ := blk9 BK569.out
                      obtain ⟨hfz68_0, hfz68_1, hfz68_2, hfz68_3, hfz68_4, hfz68_5, hfz68_6, hfz68_7, hfz68_8⟩ := frz9 BK569.out
                      have p575 : 0 ≤ (0 : Int) := (by omega)
                      have q575 : 0 < (l0_8.length : Int) := of_decide_eq_true (by first | (with_reducible assumption) | assumption)
                      obtain ⟨ad575, e575, hx575_0⟩ := Kd.at_int HR0_8.out 0 p575 q575
                      cases e575
                      have qi575 : (0 < l0_8.length) = True := eq_true (by omega)
                      (try rw [show ((0 : Int)).toNat = 0 from rfl] at hx575_0)
                      (try rw [Addr.add_zero'] at hx575_0)
                      replace hx575_0 := (HB.out.cell (World.block_lt_of_cell? w _ hx575_0)).trans hx575_0
                      replace p575 := eq_true p575
                      replace q575 := eq_true q575
                      have p591 : 0 ≤ (0 : Int) := (by omega)
                      have q591 : 0 < (l0_8.length : Int) := of_decide_eq_true (by first | (with_reducible assumption) | assumption)
                      obtain ⟨ad591, e591, hx591_0⟩ := Kd.at_int HR0_8.out 0 p591 q591
                      obtain rfl : ad575 = ad591 := (by injection e591)
                      have qi591 : (0 < l0_8.length) = True := eq_true (by omega)
                      (try rw [show ((0 : Int)).toNat = 0 from rfl] at hx591_0)
                      (try rw [Addr.add_zero'] at hx591_0)
                      replace hx591_0 := (HB.out.cell (World.block_lt_of_cell? w _ hx591_0)).trans hx591_0
                      replace p591 := eq_true p591
                      replace q591 := eq_true q591
                      obtain ⟨hcz69_0, hcz69_1, hcz69_2, hcz69_3, hcz69_4, hcz69_5, hcz69_6, hcz69_7, hcz69_8⟩ := blk9 BK570.out
                      obtain ⟨hfz69_0, hfz69_1, hfz69_2, hfz69_3, hfz69_4, hfz69_5, hfz69_6, hfz69_7, hfz69_8⟩ := frz9 BK570.out
                      go_wp2
                      refine bodyPost_ret (results_ct rfl _ _ gb570 26 #[.int .u32 0, .int .u32 0, .int .u8 0, .int .u8 0, .int .u16 0, .bool false, .bool false, .int .i64 0, .slice none 0 0] (0, 0) _ rfl (by (with_reducible repeat (first | refine blk_drewN ?_ _ | refine blk_drew ?_ | refine blk_alloc ?_ _)); refine blk_put (cs := #[.int .u32 0, .int .u32 0, .int .u8 0, .int .u8 0, .int .u16 0, .bool false, .bool false, .int .i64 0, .slice none 0 0]) ?_ 8 _ rfl; (with_reducible repeat (first | refine blk_drewN ?_ _ | refine blk_drew ?_ | refine blk_alloc ?_ _)); refine blk_put (cs := #[.int .u32 0, .int .u32 0, .int .u8 0, .int .u8 0, .int .u16 0, .bool false, .bool false, .int .i64 0, .slice none 0 0]) ?_ 7 _ rfl; (with_reducible repeat (first | refine blk_drewN ?_ _ | refine blk_drew ?_ | refine blk_alloc ?_ _)); refine blk_put (cs := #[.int .u32 0, .int .u32 0, .int .u8 0, .int .u8 0, .int .u16 0, .bool false, .bool false, .int .i64 0, .slice none 0 0]) ?_ 6 _ rfl; (with_reducible repeat (first | refine blk_drewN ?_ _ | refine blk_drew ?_ | refine blk_alloc ?_ _)); refine blk_put (cs := #[.int .u32 0, .int .u32 0, .int .u8 0, .int .u8 0, .int .u16 0, .bool false, .bool false, .int .i64 0, .slice none 0 0]) ?_ 5 _ rfl; (with_reducible repeat (first | refine blk_drewN ?_ _ | refine blk_drew ?_ | refine blk_alloc ?_ _)); refine blk_put (cs := #[.int .u32 0, .int .u32 0, .int .u8 0, .int .u8 0, .int .u16 0, .bool false, .bool false, .int .i64 0, .slice none 0 0]) ?_ 4 _ rfl; (with_reducible repeat (first | refine blk_drewN ?_ _ | refine blk_drew ?_ | refine blk_alloc ?_ _)); refine blk_put (cs := #[.int .u32 0, .int .u32 0, .int .u8 0, .int .u8 0, .int .u16 0, .bool false, .bool false, .int .i64 0, .slice none 0 0]) ?_ 3 _ rfl; (with_reducible repeat (first | refine blk_drewN ?_ _ | refine blk_drew ?_ | refine blk_alloc ?_ _)); refine blk_put (cs := #[.int .u32 0, .int .u32 0, .int .u8 0, .int .u8 0, .int .u16 0, .bool false, .bool false, .int .i64 0, .slice none 0 0]) ?_ 2 _ rfl; (with_reducible repeat (first | refine blk_drewN ?_ _ | refine blk_drew ?_ | refine blk_alloc ?_ _)); refine blk_put (cs := #[.int .u32 0, .int .u32 0, .int .u8 0, .int .u8 0, .int .u16 0, .bool false, .bool false, .int .i64 0, .slice none 0 0]) ?_ 1 _ rfl; (with_reducible repeat (first | refine blk_drewN ?_ _ | refine blk_drew ?_ | refine blk_alloc ?_ _)); refine blk_put (cs := #[.int .u32 0, .int .u32 0, .int .u8 0, .int .u8 0, .int .u16 0, .bool false, .bool false, .int .i64 0, .slice none 0 0]) ?_ 0 _ rfl; (with_reducible repeat (first | refine blk_drewN ?_ _ | refine blk_drew ?_ | refine blk_alloc ?_ _)); exact BK570.out) Try.underlying26 rfl (by kernel_rfl)) rfl ?_
                      exact ⟨_, by first | rfl | (simp [errW_none, errW_some] <;> rfl) | (simp [*, errW_none, errW_some] <;> rfl), by first | exact Kd.R_nil _ _ _ _ _ | exact Kd.N_nil _ _ _ _ _ | exact Kd.V_nil _ _ _ _ _ | exact Kd.Q_nil _ _ _ _ _ | exact Kd.S_nil _ _ _ _ _, by repeat (first | (with_reducible first | exact HB.out | apply below_alloc | apply pw_below_drewN | apply below_drew1 | refine below_set ?_ GE569.out | refine below_set ?_ GE570.out) | exact HB.out)⟩
                · rw [if_neg c24] at H
                  exact absurd H (by simp)
            · rw [if_neg c19] at H
              have c19b0 : (a0_2 == 1) = false := beq_eq_false_iff_ne.mpr c19
              have c19b1 : (a0_2 != 1) = true := bne_iff_ne.mpr c19
              obtain ⟨ji70, hji70⟩ : ∃ j_ : Int, (mn (t571.length : Int) 28) = j_ := ⟨_, rfl⟩
              replace H : (if 0 ≤ (ji70) then (if (ji70) ≤ (t571.length : Int) then ((ip_back.f kj5 a0_0 a0_1 a0_2 a0_3 a0_4 a0_5 a0_6 a0_7 l0_8 0 3 ((a1) % 256) ((a2) % 4294967296) (t571.take ((ji70) : Int).toNat)).bind fun bt611 => (some (bt611.1, bt611.2.1, bt611.2.2.1, bt611.2.2.2.1, bt611.2.2.2.2.1, bt611.2.2.2.2.2.1, bt611.2.2.2.2.2.2.1, bt611.2.2.2.2.2.2.2.1, bt611.2.2.2.2.2.2.2.2, 0))) else (none)) else (none)) = some (r1, r2, r3, r4, r5, r6, r7, r8, r9, r10) := by first | (rw [hji70] at H; exact H) | (simp only [hji70] at H ⊢; exact H)
              have hji70_ : (if 28 < (t571.length : Int) then 28 else (t571.length : Int)) = ji70 := hji70
              by_cases c71 : 0 ≤ (ji70)
              · rw [if_pos c71] at H
                have c71b0 := eq_true c71
                have c71b1 : decide (0 ≤ (ji70)) = true := decide_eq_true c71
                clear c71
                by_cases c72 : (ji70) ≤ (t571.length : Int)
                · rw [if_pos c72] at H
                  have c72b0 := eq_true c72
                  have c72b1 : decide ((ji70) ≤ (t571.length : Int)) = true := decide_eq_true c72
                  clear c72
                  obtain ⟨y607, hy607⟩ : ∃ y_ : List Int, y_ = (t571.take ((ji70) : Int).toNat) := ⟨_, rfl⟩
                  replace H : ((ip_back.f kj5 a0_0 a0_1 a0_2 a0_3 a0_4 a0_5 a0_6 a0_7 l0_8 0 3 ((a1) % 256) ((a2) % 4294967296) y607).bind fun bt611 => (some (bt611.1, bt611.2.1, bt611.2.2.1, bt611.2.2.2.1, bt611.2.2.2.2.1, bt611.2.2.2.2.2.1, bt611.2.2.2.2.2.2.1, bt611.2.2.2.2.2.2.2.1, bt611.2.2.2.2.2.2.2.2, 0))) = some (r1, r2, r3, r4, r5, r6, r7, r8, r9, r10) := by first | (rw [hy607]; with_reducible exact H) | (have H2_ := (Option.bind_some _ _).symm.trans H; rw [hy607]; with_reducible exact H2_) | (have H2_ := (Option.bind_some _ _).symm.trans H; with_reducible exact H2_) | with_reducible exact H | (rw [hy607]; exact H) | exact H
                  have Ny607 := Aside0.mk hy607
                  clear hy607
                  replace H := Option.bind_eq_some_iff.mp H
                  obtain ⟨⟨t611, t612, t613, t614, t615, t616, t617, t618, t619⟩, A730, H⟩ := H
                  replace H : (some (t611, t612, t613, t614, t615, t616, t617, t618, t619, 0)) = some (r1, r2, r3, r4, r5, r6, r7, r8, r9, r10) := H
                  have A73 := Aside0.mk A730
                  clear A730
                  simp only [Option.some.injEq, Prod.mk.injEq] at H
                  obtain ⟨rfl, rfl, rfl, rfl, rfl, rfl, rfl, rfl, rfl, rfl⟩ := H
                  have hnb74 := NB569_570.out
                  have hnc74 := NB570_569.out
                  obtain ⟨hcz75_0, hcz75_1, hcz75_2, hcz75_3, hcz75_4, hcz75_5, hcz75_6, hcz75_7, hcz75_8⟩ := blk9 BK569.out
                  obtain ⟨hfz75_0, hfz75_1, hfz75_2, hfz75_3, hfz75_4, hfz75_5, hfz75_6, hfz75_7, hfz75_8⟩ := frz9 BK569.out
                  try go_wp2
                  have n0_ := Aside0.mk (Kd.R_drew HO_8.out)
                  have n1_ := Aside0.mk (blk_drew BK569.out)
                  have n2_ := Aside0.mk (blk_drew BK570.out)
                  have n3_ := Aside0.mk (below_drew1 HB.out)
                  clear HO_8
                  clear BK569
                  clear BK570
                  clear HB
                  have HO_8 := n0_
                  have BK569 := n1_
                  have BK570 := n2_
                  have HB := n3_
                  clear n0_ n1_ n2_ n3_
                  obtain ⟨Ao77, co77, eo77⟩ := Kd.R_slice HO_8.out
                  (first | subst eo77 | (injection eo77 with f1_ f2_ f3_; have f4_ := f1_.symm; have f5_ := f3_.symm; clear f1_ f2_ f3_; subst f4_; subst f5_))
                  have q78 : ((ji70) : Int) ≤ ((t571.length : Int) : Int) := of_decide_eq_true (by first | (with_reducible assumption) | assumption)
                  obtain ⟨i078, hi078, _, hsz78, _⟩ := info_parts info5
                  have hroom78 : t571.length ≤ co77 := (Kd.R_reads' HO_8.out).2.1
                  have hC78 : Kd.C (Kd.int .u8) _ Ao77 t571.length t571 := (Kd.R_reads' HO_8.out).2.2
                  have hcut78 := cut_to (P := Try.prog) 24 5 .i64 Try.underlying24 hi078 Ao77 t571.length co77 (ji70) (of_decide_eq_true (by first | (with_reducible assumption) | assumption)) q78 hroom78
                  have hr78 := Kd.C_take (m := ((ji70) : Int).toNat) hC78 (by omega)
                  have hy78 : y607.length = ((ji70) : Int).toNat := (by rw [Ny607.out, List.length_take]; omega)
                  rw [← Ny607.out] at hr78
                  rw [← hy78] at hcut78
                  have HR610 := Aside0.mk hr78
                  have HC610 := Aside0.mk (show y607.length ≤ co77 from by omega)
                  clear hr78 hC78 hroom78 hi078 hsz78
                  have KY78 := Aside0.mk hy78
                  clear hy78
                  have KL78 := Aside0.mk (show ((ji70) : Int).toNat ≤ t571.length from by omega)
                  replace q78 := eq_true q78
                  refine start_ (n := 14) (S := fun w' => w'.cell? ⟨gb569, 0, none⟩ = some (.int .u32 a0_0) ∧ w'.cell? ⟨gb569, 1, none⟩ = some (.int .u32 a0_1) ∧ w'.cell? ⟨gb569, 2, none⟩ = some (.int .u8 a0_2) ∧ w'.cell? ⟨gb569, 3, none⟩ = some (.int .u8 a0_3) ∧ w'.cell? ⟨gb569, 4, none⟩ = some (.int .u16 a0_4) ∧ w'.cell? ⟨gb569, 5, none⟩ = some (.bool a0_5) ∧ w'.cell? ⟨gb569, 6, none⟩ = some (.bool a0_6) ∧ w'.cell? ⟨gb569, 7, none⟩ = some (.int .i64 a0_7) ∧ w'.cell? ⟨gb569, 8, none⟩ = some (.slice A0_8 l0_8.length c0_8)) (ds := []) #[false, false, false, false, false, false, false, false, false, false, false, false, false, false] (by kernel_rfl) rfl rfl ⟨(blk_cell BK569.out 0).trans rfl, (blk_cell BK569.out 1).trans rfl, (blk_cell BK569.out 2).trans rfl, (blk_cell BK569.out 3).trans rfl, (blk_cell BK569.out 4).trans rfl, (blk_cell BK569.out 5).trans rfl, (blk_cell BK569.out 6).trans rfl, (blk_cell BK569.out 7).trans rfl, (blk_cell BK569.out 8).trans rfl⟩ (fun hHeld => ?_); refine with_tabW ip_Refuse.tab9 ip_Refuse.bits9 (fun HT_ HW_ => ?_)
                  generalize wc.drew = w76 at HO_8 BK569 BK570 HB HR610 hHeld ⊢
                  refine pure_ (i := 1) (N := some 65) (v := ?_) (a' := ?_) #[false, true, false, false, false, false, false, false, false, false, false, false, false, false] rfl rfl (any_of HT_.out (by kernel_rfl)) (fun _ _ _ h => h) (Or.inl ⟨by rfl, ?_⟩) ?_ ?_
                  rotate_left
                  · intro w'
                    go_simp
                    with_reducible rfl
                  rotate_left
                  · simp only [Act.put, List.setIfInBounds_toArray, List.set_cons_zero, List.set_cons_succ, i64_w, i32_w]
                    rfl
                  refine pure_ (i := 2) (N := some 66) (v := ?_) (a' := ?_) #[false, true, true, false, false, false, false, false, false, false, false, false, false, false] rfl rfl (any_of HT_.out (by kernel_rfl)) (fun _ _ _ h => h) (Or.inl ⟨by rfl, ?_⟩) ?_ ?_
                  rotate_left
                  · intro w'
                    go_simp
                    with_reducible rfl
                  rotate_left
                  · simp only [Act.put, List.setIfInBounds_toArray, List.set_cons_zero, List.set_cons_succ, i64_w, i32_w]
                    rfl
                  refine pure_ (i := 3) (N := some 67) (v := ?_) (a' := ?_) #[false, true, true, true, false, false, false, false, false, false, false, false, false, false] rfl rfl (any_of HT_.out (by kernel_rfl)) (fun _ _ _ h => h) (Or.inl ⟨by rfl, ?_⟩) ?_ ?_
                  rotate_left
                  · intro w'
                    go_simp
                    with_reducible rfl
                  rotate_left
                  · simp only [Act.put, List.setIfInBounds_toArray, List.set_cons_zero, List.set_cons_succ, i64_w, i32_w]
                    rfl
                  refine pure_ (i := 4) (N := some 68) (v := ?_) (a' := ?_) #[false, true, true, true, true, false, false, false, false, false, false, false, false, false] rfl rfl (any_of HT_.out (by kernel_rfl)) (fun _ _ _ h => h) (Or.inl ⟨by rfl, ?_⟩) ?_ ?_
                  rotate_left
                  · intro w'
                    go_simp
                    with_reducible rfl
                  rotate_left
                  · simp only [Act.put, List.setIfInBounds_toArray, List.set_cons_zero, List.set_cons_succ, i64_w, i32_w]
                    rfl
                  refine pure_ (i := 5) (N := some 69) (v := ?_) (a' := ?_) #[false, true, true, true, true, true, false, false, false, false, false, false, false, false] rfl rfl (any_of HT_.out (by kernel_rfl)) (fun _ _ _ h => h) (Or.inl ⟨by rfl, ?_⟩) ?_ ?_
                  rotate_left
                  · intro w'
                    go_simp
                    with_reducible rfl
                  rotate_left
                  · simp only [Act.put, List.setIfInBounds_toArray, List.set_cons_zero, List.set_cons_succ, i64_w, i32_w]
                    rfl
                  refine pure_ (i := 6) (N := some 70) (v := ?_) (a' := ?_) #[false, true, true, true, true, true, true, false, false, false, false, false, false, false] rfl rfl (any_of HT_.out (by kernel_rfl)) (fun _ _ _ h => h) (Or.inl ⟨by rfl, ?_⟩) ?_ ?_
                  rotate_left
                  · intro w'
                    go_simp
                    with_reducible rfl
                  rotate_left
                  · simp only [Act.put, List.setIfInBounds_toArray, List.set_cons_zero, List.set_cons_succ, i64_w, i32_w]
                    rfl
                  refine pure_ (i := 7) (N := some 71) (v := ?_) (a' := ?_) #[false, true, true, true, true, true, true, true, false, false, false, false, false, false] rfl rfl (any_of HT_.out (by kernel_rfl)) (fun _ _ _ h => h) (Or.inl ⟨by rfl, ?_⟩) ?_ ?_
                  rotate_left
                  · intro w'
                    go_simp
                    with_reducible rfl
                  rotate_left
                  · simp only [Act.put, List.setIfInBounds_toArray, List.set_cons_zero, List.set_cons_succ, i64_w, i32_w]
                    rfl
                  refine pure_ (i := 8) (N := some 72) (v := ?_) (a' := ?_) #[false, true, true, true, true, true, true, true, true, false, false, false, false, false] rfl rfl (any_of HT_.out (by kernel_rfl)) (fun _ _ _ h => h) (Or.inl ⟨by rfl, ?_⟩) ?_ ?_
                  rotate_left
                  · intro w'
                    go_simp
                    with_reducible rfl
                  rotate_left
                  · simp only [Act.put, List.setIfInBounds_toArray, List.set_cons_zero, List.set_cons_succ, i64_w, i32_w]
                    rfl
                  refine pure_ (i := 9) (N := some 73) (v := ?_) (a' := ?_) #[false, true, true, true, true, true, true, true, true, true, false, false, false, false] rfl rfl (any_of HT_.out (by kernel_rfl)) (fun _ _ _ h => h) (Or.inl ⟨by rfl, ?_⟩) ?_ ?_
                  rotate_left
                  · intro w'
                    go_simp
                    with_reducible rfl
                  rotate_left
                  · simp only [Act.put, List.setIfInBounds_toArray, List.set_cons_zero, List.set_cons_succ, i64_w, i32_w]
                    rfl
                  refine pure_ (i := 10) (N := some 74) (v := ?_) (a' := ?_) #[false, true, true, true, true, true, true, true, true, true, true, false, false, false] rfl rfl (any_of HT_.out (by kernel_rfl)) (fun _ _ _ h => h) (Or.inl ⟨by rfl, ?_⟩) ?_ ?_
                  rotate_left
                  · intro w'
                    go_simp
                    with_reducible rfl
                  rotate_left
                  · simp only [Act.put, List.setIfInBounds_toArray, List.set_cons_zero, List.set_cons_succ, i64_w, i32_w]
                    rfl
                  refine take_ (i := 0) (N := some 64) (v := ?_) (a' := ?_) #[true, true, true, true, true, true, true, true, true, true, true, false, false, false] rfl rfl (take_ofW HT_.out HW_.out (by kernel_rfl)) (fun _ _ _ h => h) (Or.inl ⟨by rfl, ?_⟩) hHeld ?_ ?_
                  rotate_left
                  · rintro w' ⟨s0, s1, s2, s3, s4, s5, s6, s7, s8⟩
                    go_simp
                    with_reducible rfl
                  rotate_left
                  · simp only [Act.put, List.setIfInBounds_toArray, List.set_cons_zero, List.set_cons_succ, i64_w, i32_w]
                    rfl
                  refine one_ (i := 11) (N := some 75) #[true, true, true, true, true, true, true, true, true, true, true, true, false, false] rfl rfl (one_of HT_.out (by kernel_rfl)) (by decide) (fun K hK => ?_)
                  refine goes_ Try.func41 (by kernel_rfl) rfl #[.agg #[.int .u32 a0_0, .int .u32 a0_1, .int .u8 a0_2, .int .u8 a0_3, .int .u16 a0_4, .bool a0_5, .bool a0_6, .int .i64 a0_7, .slice A0_8 l0_8.length c0_8], .int .u16 0, .agg #[.int .u8 3, .int .u8 ((a1) % 256), .int .u32 ((a2) % 4294967296), .slice Ao77 y607.length co77]] (by rfl) rfl rfl (by (try simp only [List.map_toArray, List.map_cons, List.map_nil]); first | done | rfl | (simp only [List.length_drop, List.length_take]; rfl)) ?_
                  with_reducible refine (ip_back.calls kj5 a0_0 a0_1 a0_2 a0_3 a0_4 a0_5 a0_6 a0_7 _ _ l0_8 0 3 ((a1) % 256) ((a2) % 4294967296) _ _ y607 t611 t612 t613 t614 t615 t616 t617 t618 t619 _ ?side1 ?side2 ?side3 ?side4 A73.out).mono ?_
                  (case side1 => repeat (first | exact (Kd.C_below HR0_8.out HB.out) | (with_reducible refine Kd.C_alloc ?_ _) | (with_reducible refine Kd.C_drewN ?_ _) | (with_reducible refine Kd.C_drew ?_)))
                  (case side2 => exact HC0_8.out)
                  (case side3 => repeat (first | exact (by repeat (first | (with_reducible exact HR610.out) | (with_reducible refine Kd.C_alloc ?_ _) | (with_reducible refine Kd.C_drewN ?_ _) | (with_reducible refine Kd.C_drew ?_) | exact HR610.out)) | (with_reducible refine Kd.C_alloc ?_ _) | (with_reducible refine Kd.C_drewN ?_ _) | (with_reducible refine Kd.C_drew ?_)))
                  (case side4 => exact HC610.out)
                  rintro e w79 ⟨v620, rfl, ho0, hb⟩
                  refine ⟨_, rfl, ?_⟩
                  have n0_ := Aside0.mk (Kd.R_elder' (by (with_reducible repeat (first | apply Kd.R_alloc | apply Kd.R_drewN | apply Kd.R_drew)); exact HO_8.out) (Kd.R_base ho0) hb)
                  have n1_ := Aside0.mk (Kd.R_lower (Kd.R_new' ho0 (Kd.R_lt (by (with_reducible repeat (first | apply Kd.R_alloc | apply Kd.R_drewN | apply Kd.R_drew)); exact HO_8.out))) (below_size (by repeat (first | (with_reducible first | exact HB.out | apply below_alloc | apply pw_below_drewN | apply below_drew1 | refine below_set ?_ GE569.out | refine below_set ?_ GE570.out) | exact HB.out))))
                  have n2_ := Aside0.mk (blk_below (g := gb569) (o := .cells #[.int .u32 a0_0, .int .u32 a0_1, .int .u8 a0_2, .int .u8 a0_3, .int .u16 a0_4, .bool a0_5, .bool a0_6, .int .i64 a0_7, .slice A0_8 l0_8.length c0_8] 26 (0, 0)) (by (with_reducible repeat (first | refine blk_drewN ?_ _ | refine blk_drew ?_ | refine blk_alloc ?_ _)); exact BK569.out) hb)
                  have n3_ := Aside0.mk (blk_below (g := gb570) (o := .cells #[.int .u32 0, .int .u32 0, .int .u8 0, .int .u8 0, .int .u16 0, .bool false, .bool false, .int .i64 0, .slice none 0 0] 26 (0, 0)) (by (with_reducible repeat (first | refine blk_drewN ?_ _ | refine blk_drew ?_ | refine blk_alloc ?_ _)); exact BK570.out) hb)
                  have n4_ := Aside0.mk (Kd.C_below (by repeat (first | (with_reducible exact HR610.out) | (with_reducible refine Kd.C_alloc ?_ _) | (with_reducible refine Kd.C_drewN ?_ _) | (with_reducible refine Kd.C_drew ?_) | exact HR610.out)) hb)
                  have n5_ := Aside0.mk (below_step (by repeat (first | (with_reducible first | exact HB.out | apply below_alloc | apply pw_below_drewN | apply below_drew1 | refine below_set ?_ GE569.out | refine below_set ?_ GE570.out) | exact HB.out)) hb)
                  clear HO_8
                  clear BK569
                  clear BK570
                  clear HR610
                  clear HB
                  have HO_8 := n0_
                  have HO621 := n1_
                  have BK569 := n2_
                  have BK570 := n3_
                  have HR610 := n4_
                  have HB := n5_
                  clear n0_ n1_ n2_ n3_ n4_ n5_
                  (try clear hb)
                  (try clear hb2)
                  (try clear hk)
                  (try clear hi)
                  (try clear ho0)
                  obtain ⟨Ao88, co88, eo88⟩ := Kd.R_slice HO621.out
                  (first | subst eo88 | (injection eo88 with f1_ f2_ f3_; have f4_ := f1_.symm; have f5_ := f3_.symm; clear f1_ f2_ f3_; subst f4_; subst f5_))
                  refine hK.out _ _ ⟨(blk_cell BK569.out 0).trans rfl, (blk_cell BK569.out 1).trans rfl, (blk_cell BK569.out 2).trans rfl, (blk_cell BK569.out 3).trans rfl, (blk_cell BK569.out 4).trans rfl, (blk_cell BK569.out 5).trans rfl, (blk_cell BK569.out 6).trans rfl, (blk_cell BK569.out 7).trans rfl, (blk_cell BK569.out 8).trans rfl⟩ (fun hHeld => ?_)
                  clear hK K
                  refine norm_ (a' := ?_) ?_ ?_
                  rotate_left
                  · show Act.put _ (some 75) _ = _
                    simp only [Act.put, List.setIfInBounds_toArray, List.set_cons_zero, List.set_cons_succ, i64_w, i32_w]
                    rfl
                  refine one_ (i := 12) (N := none) #[true, true, true, true, true, true, true, true, true, true, true, true, true, false] rfl rfl (one_of HT_.out (by kernel_rfl)) (by decide) (fun K hK => ?_)
                  have hs80 : w79.cell? ⟨gb570, 0, none⟩ = some (.int .u32 0) := (blk_cell BK570.out 0).trans rfl
                  have hfs80 := blk_frozen BK570.out 0
                  have hns80_0 := NB569_570.out
                  have hms80_0 := NB570_569.out
                  have hs81 : w79.cell? ⟨gb570, 1, none⟩ = some (.int .u32 0) := (blk_cell BK570.out 1).trans rfl
                  have hfs81 := blk_frozen BK570.out 1
                  have hns81_0 := NB569_570.out
                  have hms81_0 := NB570_569.out
                  have hs82 : w79.cell? ⟨gb570, 2, none⟩ = some (.int .u8 0) := (blk_cell BK570.out 2).trans rfl
                  have hfs82 := blk_frozen BK570.out 2
                  have hns82_0 := NB569_570.out
                  have hms82_0 := NB570_569.out
                  have hs83 : w79.cell? ⟨gb570, 3, none⟩ = some (.int .u8 0) := (blk_cell BK570.out 3).trans rfl
                  have hfs83 := blk_frozen BK570.out 3
                  have hns83_0 := NB569_570.out
                  have hms83_0 := NB570_569.out
                  have hs84 : w79.cell? ⟨gb570, 4, none⟩ = some (.int .u16 0) := (blk_cell BK570.out 4).trans rfl
                  have hfs84 := blk_frozen BK570.out 4
                  have hns84_0 := NB569_570.out
                  have hms84_0 := NB570_569.out
                  have hs85 : w79.cell? ⟨gb570, 5, none⟩ = some (.bool false) := (blk_cell BK570.out 5).trans rfl
                  have hfs85 := blk_frozen BK570.out 5
                  have hns85_0 := NB569_570.out
                  have hms85_0 := NB570_569.out
                  have hs86 : w79.cell? ⟨gb570, 6, none⟩ = some (.bool false) := (blk_cell BK570.out 6).trans rfl
                  have hfs86 := blk_frozen BK570.out 6
                  have hns86_0 := NB569_570.out
                  have hms86_0 := NB570_569.out
                  have hs87 : w79.cell? ⟨gb570, 7, none⟩ = some (.int .i64 0) := (blk_cell BK570.out 7).trans rfl
                  have hfs87 := blk_frozen BK570.out 7
                  have hns87_0 := NB569_570.out
                  have hms87_0 := NB570_569.out
                  have hs89 : w79.cell? ⟨gb570, 8, none⟩ = some (.slice none 0 0) := (blk_cell BK570.out 8).trans rfl
                  have hfs89 := blk_frozen BK570.out 8
                  have hns89_0 := NB569_570.out
                  have hms89_0 := NB570_569.out
                  refine skip_ (w1 := ?_) (by rfl) rfl ?_ ?_
                  rotate_left
                  · go_simp
                    rfl
                  refine hK.out _ _ ⟨((cell_far (p := ⟨gb570, _, none⟩) NB569_570.out _).trans (((cell_far (p := ⟨gb570, _, none⟩) NB569_570.out _).trans (((cell_far (p := ⟨gb570, _, none⟩) NB569_570.out _).trans (((cell_far (p := ⟨gb570, _, none⟩) NB569_570.out _).trans (((cell_far (p := ⟨gb570, _, none⟩) NB569_570.out _).trans (((cell_far (p := ⟨gb570, _, none⟩) NB569_570.out _).trans (((cell_far (p := ⟨gb570, _, none⟩) NB569_570.out _).trans (((cell_far (p := ⟨gb570, _, none⟩) NB569_570.out _).trans (((cell_far (p := ⟨gb570, _, none⟩) NB569_570.out _).trans (hHeld.1)))))))))))))))))), ((cell_far (p := ⟨gb570, _, none⟩) NB569_570.out _).trans (((cell_far (p := ⟨gb570, _, none⟩) NB569_570.out _).trans (((cell_far (p := ⟨gb570, _, none⟩) NB569_570.out _).trans (((cell_far (p := ⟨gb570, _, none⟩) NB569_570.out _).trans (((cell_far (p := ⟨gb570, _, none⟩) NB569_570.out _).trans (((cell_far (p := ⟨gb570, _, none⟩) NB569_570.out _).trans (((cell_far (p := ⟨gb570, _, none⟩) NB569_570.out _).trans (((cell_far (p := ⟨gb570, _, none⟩) NB569_570.out _).trans (((cell_far (p := ⟨gb570, _, none⟩) NB569_570.out _).trans (hHeld.2.1)))))))))))))))))), ((cell_far (p := ⟨gb570, _, none⟩) NB569_570.out _).trans (((cell_far (p := ⟨gb570, _, none⟩) NB569_570.out _).trans (((cell_far (p := ⟨gb570, _, none⟩) NB569_570.out _).trans (((cell_far (p := ⟨gb570, _, none⟩) NB569_570.out _).trans (((cell_far (p := ⟨gb570, _, none⟩) NB569_570.out _).trans (((cell_far (p := ⟨gb570, _, none⟩) NB569_570.out _).trans (((cell_far (p := ⟨gb570, _, none⟩) NB569_570.out _).trans (((cell_far (p := ⟨gb570, _, none⟩) NB569_570.out _).trans (((cell_far (p := ⟨gb570, _, none⟩) NB569_570.out _).trans (hHeld.2.2.1)))))))))))))))))), ((cell_far (p := ⟨gb570, _, none⟩) NB569_570.out _).trans (((cell_far (p := ⟨gb570, _, none⟩) NB569_570.out _).trans (((cell_far (p := ⟨gb570, _, none⟩) NB569_570.out _).trans (((cell_far (p := ⟨gb570, _, none⟩) NB569_570.out _).trans (((cell_far (p := ⟨gb570, _, none⟩) NB569_570.out _).trans (((cell_far (p := ⟨gb570, _, none⟩) NB569_570.out _).trans (((cell_far (p := ⟨gb570, _, none⟩) NB569_570.out _).trans (((cell_far (p := ⟨gb570, _, none⟩) NB569_570.out _).trans (((cell_far (p := ⟨gb570, _, none⟩) NB569_570.out _).trans (hHeld.2.2.2.1)))))))))))))))))), ((cell_far (p := ⟨gb570, _, none⟩) NB569_570.out _).trans (((cell_far (p := ⟨gb570, _, none⟩) NB569_570.out _).trans (((cell_far (p := ⟨gb570, _, none⟩) NB569_570.out _).trans (((cell_far (p := ⟨gb570, _, none⟩) NB569_570.out _).trans (((cell_far (p := ⟨gb570, _, none⟩) NB569_570.out _).trans (((cell_far (p := ⟨gb570, _, none⟩) NB569_570.out _).trans (((cell_far (p := ⟨gb570, _, none⟩) NB569_570.out _).trans (((cell_far (p := ⟨gb570, _, none⟩) NB569_570.out _).trans (((cell_far (p := ⟨gb570, _, none⟩) NB569_570.out _).trans (hHeld.2.2.2.2.1)))))))))))))))))), ((cell_far (p := ⟨gb570, _, none⟩) NB569_570.out _).trans (((cell_far (p := ⟨gb570, _, none⟩) NB569_570.out _).trans (((cell_far (p := ⟨gb570, _, none⟩) NB569_570.out _).trans (((cell_far (p := ⟨gb570, _, none⟩) NB569_570.out _).trans (((cell_far (p := ⟨gb570, _, none⟩) NB569_570.out _).trans (((cell_far (p := ⟨gb570, _, none⟩) NB569_570.out _).trans (((cell_far (p := ⟨gb570, _, none⟩) NB569_570.out _).trans (((cell_far (p := ⟨gb570, _, none⟩) NB569_570.out _).trans (((cell_far (p := ⟨gb570, _, none⟩) NB569_570.out _).trans (hHeld.2.2.2.2.2.1)))))))))))))))))), ((cell_far (p := ⟨gb570, _, none⟩) NB569_570.out _).trans (((cell_far (p := ⟨gb570, _, none⟩) NB569_570.out _).trans (((cell_far (p := ⟨gb570, _, none⟩) NB569_570.out _).trans (((cell_far (p := ⟨gb570, _, none⟩) NB569_570.out _).trans (((cell_far (p := ⟨gb570, _, none⟩) NB569_570.out _).trans (((cell_far (p := ⟨gb570, _, none⟩) NB569_570.out _).trans (((cell_far (p := ⟨gb570, _, none⟩) NB569_570.out _).trans (((cell_far (p := ⟨gb570, _, none⟩) NB569_570.out _).trans (((cell_far (p := ⟨gb570, _, none⟩) NB569_570.out _).trans (hHeld.2.2.2.2.2.2.1)))))))))))))))))), ((cell_far (p := ⟨gb570, _, none⟩) NB569_570.out _).trans (((cell_far (p := ⟨gb570, _, none⟩) NB569_570.out _).trans (((cell_far (p := ⟨gb570, _, none⟩) NB569_570.out _).trans (((cell_far (p := ⟨gb570, _, none⟩) NB569_570.out _).trans (((cell_far (p := ⟨gb570, _, none⟩) NB569_570.out _).trans (((cell_far (p := ⟨gb570, _, none⟩) NB569_570.out _).trans (((cell_far (p := ⟨gb570, _, none⟩) NB569_570.out _).trans (((cell_far (p := ⟨gb570, _, none⟩) NB569_570.out _).trans (((cell_far (p := ⟨gb570, _, none⟩) NB569_570.out _).trans (hHeld.2.2.2.2.2.2.2.1)))))))))))))))))), ((cell_far (p := ⟨gb570, _, none⟩) NB569_570.out _).trans (((cell_far (p := ⟨gb570, _, none⟩) NB569_570.out _).trans (((cell_far (p := ⟨gb570, _, none⟩) NB569_570.out _).trans (((cell_far (p := ⟨gb570, _, none⟩) NB569_570.out _).trans (((cell_far (p := ⟨gb570, _, none⟩) NB569_570.out _).trans (((cell_far (p := ⟨gb570, _, none⟩) NB569_570.out _).trans (((cell_far (p := ⟨gb570, _, none⟩) NB569_570.out _).trans (((cell_far (p := ⟨gb570, _, none⟩) NB569_570.out _).trans (((cell_far (p := ⟨gb570, _, none⟩) NB569_570.out _).trans (hHeld.2.2.2.2.2.2.2.2))))))))))))))))))⟩ (fun hHeld => ?_)
                  clear hK K
                  refine pure_ (i := 13) (N := some 7) (v := ?_) (a' := ?_) #[true, true, true, true, true, true, true, true, true, true, true, true, true, true] rfl rfl (any_of HT_.out (by kernel_rfl)) (fun _ _ _ h => h) (Or.inl ⟨by rfl, ?_⟩) ?_ ?_
                  rotate_left
                  · intro w'
                    go_simp
                    with_reducible rfl
                  rotate_left
                  · simp only [Act.put, List.setIfInBounds_toArray, List.set_cons_zero, List.set_cons_succ, i64_w, i32_w]
                    rfl
                  refine done_ (done_of HT_.out (by kernel_rfl)) ?_
                  try go_wp2
                  refine bodyPost_ret (results_ct rfl _ _ gb570 26 #[.int .u32 t611, .int .u32 t612, .int .u8 t613, .int .u8 t614, .int .u16 t615, .bool t616, .bool t617, .int .i64 t618, .slice Ao88 t619.length co88] (0, 0) _ rfl (by (with_reducible repeat (first | refine blk_drewN ?_ _ | refine blk_drew ?_ | refine blk_alloc ?_ _)); refine blk_put (cs := #[.int .u32 t611, .int .u32 t612, .int .u8 t613, .int .u8 t614, .int .u16 t615, .bool t616, .bool t617, .int .i64 t618, .slice none 0 0]) ?_ 8 _ rfl; (with_reducible repeat (first | refine blk_drewN ?_ _ | refine blk_drew ?_ | refine blk_alloc ?_ _)); refine blk_put (cs := #[.int .u32 t611, .int .u32 t612, .int .u8 t613, .int .u8 t614, .int .u16 t615, .bool t616, .bool t617, .int .i64 0, .slice none 0 0]) ?_ 7 _ rfl; (with_reducible repeat (first | refine blk_drewN ?_ _ | refine blk_drew ?_ | refine blk_alloc ?_ _)); refine blk_put (cs := #[.int .u32 t611, .int .u32 t612, .int .u8 t613, .int .u8 t614, .int .u16 t615, .bool t616, .bool false, .int .i64 0, .slice none 0 0]) ?_ 6 _ rfl; (with_reducible repeat (first | refine blk_drewN ?_ _ | refine blk_drew ?_ | refine blk_alloc ?_ _)); refine blk_put (cs := #[.int .u32 t611, .int .u32 t612, .int .u8 t613, .int .u8 t614, .int .u16 t615, .bool false, .bool false, .int .i64 0, .slice none 0 0]) ?_ 5 _ rfl; (with_reducible repeat (first | refine blk_drewN ?_ _ | refine blk_drew ?_ | refine blk_alloc ?_ _)); refine blk_put (cs := #[.int .u32 t611, .int .u32 t612, .int .u8 t613, .int .u8 t614, .int .u16 0, .bool false, .bool false, .int .i64 0, .slice none 0 0]) ?_ 4 _ rfl; (with_reducible repeat (first | refine blk_drewN ?_ _ | refine blk_drew ?_ | refine blk_alloc ?_ _)); refine blk_put (cs := #[.int .u32 t611, .int .u32 t612, .int .u8 t613, .int .u8 0, .int .u16 0, .bool false, .bool false, .int .i64 0, .slice none 0 0]) ?_ 3 _ rfl; (with_reducible repeat (first | refine blk_drewN ?_ _ | refine blk_drew ?_ | refine blk_alloc ?_ _)); refine blk_put (cs := #[.int .u32 t611, .int .u32 t612, .int .u8 0, .int .u8 0, .int .u16 0, .bool false, .bool false, .int .i64 0, .slice none 0 0]) ?_ 2 _ rfl; (with_reducible repeat (first | refine blk_drewN ?_ _ | refine blk_drew ?_ | refine blk_alloc ?_ _)); refine blk_put (cs := #[.int .u32 t611, .int .u32 0, .int .u8 0, .int .u8 0, .int .u16 0, .bool false, .bool false, .int .i64 0, .slice none 0 0]) ?_ 1 _ rfl; (with_reducible repeat (first | refine blk_drewN ?_ _ | refine blk_drew ?_ | refine blk_alloc ?_ _)); refine blk_put (cs := #[.int .u32 0, .int .u32 0, .int .u8 0, .int .u8 0, .int .u16 0, .bool false, .bool false, .int .i64 0, .slice none 0 0]) ?_ 0 _ rfl; (with_reducible repeat (first | refine blk_drewN ?_ _ | refine blk_drew ?_ | refine blk_alloc ?_ _)); exact BK570.out) Try.underlying26 rfl (by kernel_rfl)) rfl ?_
                  exact ⟨_, by first | rfl | (simp [errW_none, errW_some] <;> rfl) | (simp only [← hji70]; first | rfl | (simp [errW_none, errW_some] <;> rfl)) | (simp [*, errW_none, errW_some] <;> rfl), by (with_reducible repeat (first | apply Kd.R_alloc | apply Kd.R_drewN | apply Kd.R_drew)); exact Kd.R_mono (Kd.R_far (p := ⟨gb570, 8, none⟩) (Kd.R_far (p := ⟨gb570, 7, none⟩) (Kd.R_far (p := ⟨gb570, 6, none⟩) (Kd.R_far (p := ⟨gb570, 5, none⟩) (Kd.R_far (p := ⟨gb570, 4, none⟩) (Kd.R_far (p := ⟨gb570, 3, none⟩) (Kd.R_far (p := ⟨gb570, 2, none⟩) (Kd.R_far (p := ⟨gb570, 1, none⟩) (Kd.R_far (p := ⟨gb570, 0, none⟩) (Kd.R_types HO621.out BK570.out (by decide)) (fun _ hk => hk.2) (.int .u32 t611)) (fun _ hk => hk.2) (.int .u32 t612)) (fun _ hk => hk.2) (.int .u8 t613)) (fun _ hk => hk.2) (.int .u8 t614)) (fun _ hk => hk.2) (.int .u16 t615)) (fun _ hk => hk.2) (.bool t616)) (fun _ hk => hk.2) (.bool t617)) (fun _ hk => hk.2) (.int .i64 t618)) (fun _ hk => hk.2) (.slice Ao88 t619.length co88)) (fun _ hk => trivial), by repeat (first | (with_reducible first | exact HB.out | apply below_alloc | apply pw_below_drewN | apply below_drew1 | refine below_set ?_ GE569.out | refine below_set ?_ GE570.out) | exact HB.out)⟩
                · rw [if_neg c72] at H
                  exact absurd H (by simp)
              · rw [if_neg c71] at H
                exact absurd H (by simp)
          · rw [if_neg c18] at H
            have c18b0 : (a0_7 == 0) = false := beq_eq_false_iff_ne.mpr c18
            have c18b1 : (a0_7 != 0) = true := bne_iff_ne.mpr c18
            simp only [Option.some.injEq, Prod.mk.injEq] at H
            obtain ⟨rfl, rfl, rfl, rfl, rfl, rfl, rfl, rfl, rfl, rfl⟩ := H
            have hnb90 := NB569_570.out
            have hnc90 := NB570_569.out
            obtain ⟨hcz91_0, hcz91_1, hcz91_2, hcz91_3, hcz91_4, hcz91_5, hcz91_6, hcz91_7, hcz91_8⟩ := blk9 BK569.out
            obtain ⟨hfz91_0, hfz91_1, hfz91_2, hfz91_3, hfz91_4, hfz91_5, hfz91_6, hfz91_7, hfz91_8⟩ := frz9 BK569.out
            obtain ⟨hcz92_0, hcz92_1, hcz92_2, hcz92_3, hcz92_4, hcz92_5, hcz92_6, hcz92_7, hcz92_8⟩ := blk9 BK570.out
            obtain ⟨hfz92_0, hfz92_1, hfz92_2, hfz92_3, hfz92_4, hfz92_5, hfz92_6, hfz92_7, hfz92_8⟩ := frz9 BK570.out
            go_wp2
            refine bodyPost_ret (results_ct rfl _ _ gb570 26 #[.int .u32 0, .int .u32 0, .int .u8 0, .int .u8 0, .int .u16 0, .bool false, .bool false, .int .i64 0, .slice none 0 0] (0, 0) _ rfl (by (with_reducible repeat (first | refine blk_drewN ?_ _ | refine blk_drew ?_ | refine blk_alloc ?_ _)); refine blk_put (cs := #[.int .u32 0, .int .u32 0, .int .u8 0, .int .u8 0, .int .u16 0, .bool false, .bool false, .int .i64 0, .slice none 0 0]) ?_ 8 _ rfl; (with_reducible repeat (first | refine blk_drewN ?_ _ | refine blk_drew ?_ | refine blk_alloc ?_ _)); refine blk_put (cs := #[.int .u32 0, .int .u32 0, .int .u8 0, .int .u8 0, .int .u16 0, .bool false, .bool false, .int .i64 0, .slice none 0 0]) ?_ 7 _ rfl; (with_reducible repeat (first | refine blk_drewN ?_ _ | refine blk_drew ?_ | refine blk_alloc ?_ _)); refine blk_put (cs := #[.int .u32 0, .int .u32 0, .int .u8 0, .int .u8 0, .int .u16 0, .bool false, .bool false, .int .i64 0, .slice none 0 0]) ?_ 6 _ rfl; (with_reducible repeat (first | refine blk_drewN ?_ _ | refine blk_drew ?_ | refine blk_alloc ?_ _)); refine blk_put (cs := #[.int .u32 0, .int .u32 0, .int .u8 0, .int .u8 0, .int .u16 0, .bool false, .bool false, .int .i64 0, .slice none 0 0]) ?_ 5 _ rfl; (with_reducible repeat (first | refine blk_drewN ?_ _ | refine blk_drew ?_ | refine blk_alloc ?_ _)); refine blk_put (cs := #[.int .u32 0, .int .u32 0, .int .u8 0, .int .u8 0, .int .u16 0, .bool false, .bool false, .int .i64 0, .slice none 0 0]) ?_ 4 _ rfl; (with_reducible repeat (first | refine blk_drewN ?_ _ | refine blk_drew ?_ | refine blk_alloc ?_ _)); refine blk_put (cs := #[.int .u32 0, .int .u32 0, .int .u8 0, .int .u8 0, .int .u16 0, .bool false, .bool false, .int .i64 0, .slice none 0 0]) ?_ 3 _ rfl; (with_reducible repeat (first | refine blk_drewN ?_ _ | refine blk_drew ?_ | refine blk_alloc ?_ _)); refine blk_put (cs := #[.int .u32 0, .int .u32 0, .int .u8 0, .int .u8 0, .int .u16 0, .bool false, .bool false, .int .i64 0, .slice none 0 0]) ?_ 2 _ rfl; (with_reducible repeat (first | refine blk_drewN ?_ _ | refine blk_drew ?_ | refine blk_alloc ?_ _)); refine blk_put (cs := #[.int .u32 0, .int .u32 0, .int .u8 0, .int .u8 0, .int .u16 0, .bool false, .bool false, .int .i64 0, .slice none 0 0]) ?_ 1 _ rfl; (with_reducible repeat (first | refine blk_drewN ?_ _ | refine blk_drew ?_ | refine blk_alloc ?_ _)); refine blk_put (cs := #[.int .u32 0, .int .u32 0, .int .u8 0, .int .u8 0, .int .u16 0, .bool false, .bool false, .int .i64 0, .slice none 0 0]) ?_ 0 _ rfl; (with_reducible repeat (first | refine blk_drewN ?_ _ | refine blk_drew ?_ | refine blk_alloc ?_ _)); exact BK570.out) Try.underlying26 rfl (by kernel_rfl)) rfl ?_
            exact ⟨_, by first | rfl | (simp [errW_none, errW_some] <;> rfl) | (simp [*, errW_none, errW_some] <;> rfl), by first | exact Kd.R_nil _ _ _ _ _ | exact Kd.N_nil _ _ _ _ _ | exact Kd.V_nil _ _ _ _ _ | exact Kd.Q_nil _ _ _ _ _ | exact Kd.S_nil _ _ _ _ _, by repeat (first | (with_reducible first | exact HB.out | apply below_alloc | apply pw_below_drewN | apply below_drew1 | refine below_set ?_ GE569.out | refine below_set ?_ GE570.out) | exact HB.out)⟩
  · rw [if_neg c5] at H
    have c5b0 : (t574 == 0) = false := beq_eq_false_iff_ne.mpr c5
    have c5b1 : (t574 != 0) = true := bne_iff_ne.mpr c5
    simp only [Option.some.injEq, Prod.mk.injEq] at H
    obtain ⟨rfl, rfl, rfl, rfl, rfl, rfl, rfl, rfl, rfl, rfl⟩ := H
    go_enter Try.func26, Try.ntmps26
    go_wp2_with (first | ((with_reducible refine gate_dst (N := 3) rfl ?_); (try (refine gate_guard (by rfl) ?_; dsimp only)); refine box_event ?hg (N := 3) ?hd (cs := #[.int .u32 a0_0, .int .u32 a0_1, .int .u8 a0_2, .int .u8 a0_3, .int .u16 a0_4, .bool a0_5, .bool a0_6, .int .i64 a0_7, .slice A0_8 l0_8.length c0_8]) (t := 26) ?hr ?_; (case hd => rfl); (case hg => rfl); (case hr => first | (go_simp; done) | (go_simp; rfl)); intro gb569 hg w93 hbox hb; have n0_ := Aside0.mk (below_step (by repeat (first | (with_reducible first | exact HB.out | apply below_alloc | apply pw_below_drewN | apply below_drew1) | exact HB.out)) hb); have n1_ := Aside0.mk (hbox); have n2_ := Aside0.mk ((by rw [hg]; exact (below_size (by repeat (first | (with_reducible first | exact HB.out | apply below_alloc | apply pw_below_drewN | apply below_drew1) | exact HB.out))) : w.heap.size ≤ gb569)); have n3_ := Aside0.mk ((by rw [hg]; exact (below_size (by repeat (first | (with_reducible first | exact HB.out | apply below_alloc | apply pw_below_drewN | apply below_drew1) | exact HB.out))) : w.heap.size ≤ gb569)); clear HB; have HB := n0_; have BK569 := n1_; have GW569 := n2_; have GE569 := n3_; clear n0_ n1_ n2_ n3_; clear hb hbox hg) | ((with_reducible refine gate_dst (N := 6) rfl ?_); (try (refine gate_guard (by rfl) ?_; dsimp only)); refine box_event ?hg (N := 6) ?hd (cs := #[.int .u32 0, .int .u32 0, .int .u8 0, .int .u8 0, .int .u16 0, .bool false, .bool false, .int .i64 0, .slice none 0 0]) (t := 26) ?hr ?_; (case hd => rfl); (case hg => rfl); (case hr => first | (go_simp; done) | (go_simp; rfl)); intro gb570 hg w94 hbox hb; have n0_ := Aside0.mk (blk_below (g := gb569) (o := .cells #[.int .u32 a0_0, .int .u32 a0_1, .int .u8 a0_2, .int .u8 a0_3, .int .u16 a0_4, .bool a0_5, .bool a0_6, .int .i64 a0_7, .slice A0_8 l0_8.length c0_8] 26 (0, 0)) (by (with_reducible repeat (first | refine blk_drewN ?_ _ | refine blk_drew ?_ | refine blk_alloc ?_ _)); exact BK569.out) hb); have n1_ := Aside0.mk (below_step (by repeat (first | (with_reducible first | exact HB.out | apply below_alloc | apply pw_below_drewN | apply below_drew1 | refine below_set ?_ GE569.out) | exact HB.out)) hb); have n2_ := Aside0.mk (hbox); have n3_ := Aside0.mk ((by rw [hg]; exact (below_size (by repeat (first | (with_reducible first | exact HB.out | apply below_alloc | apply pw_below_drewN | apply below_drew1 | refine below_set ?_ GE569.out) | exact HB.out))) : w.heap.size ≤ gb570)); have n4_ := Aside0.mk ((by rw [hg]; exact (below_size (by repeat (first | (with_reducible first | exact HB.out | apply below_alloc | apply pw_below_drewN | apply below_drew1 | refine below_set ?_ GE569.out) | exact HB.out))) : w.heap.size ≤ gb570)); have n5_ := Aside0.mk ((by rw [hg]; exact Nat.ne_of_lt (blk_lt (g := gb569) (o := .cells #[.int .u32 a0_0, .int .u32 a0_1, .int .u8 a0_2, .int .u8 a0_3, .int .u16 a0_4, .bool a0_5, .bool a0_6, .int .i64 a0_7, .slice A0_8 l0_8.length c0_8] 26 (0, 0)) (by (with_reducible repeat (first | refine blk_drewN ?_ _ | refine blk_drew ?_ | refine blk_alloc ?_ _)); exact BK569.out)) : gb569 ≠ gb570)); have n6_ := Aside0.mk ((by rw [hg]; exact Nat.ne_of_gt (blk_lt (g := gb569) (o := .cells #[.int .u32 a0_0, .int .u32 a0_1, .int .u8 a0_2, .int .u8 a0_3, .int .u16 a0_4, .bool a0_5, .bool a0_6, .int .i64 a0_7, .slice A0_8 l0_8.length c0_8] 26 (0, 0)) (by (with_reducible repeat (first | refine blk_drewN ?_ _ | refine blk_drew ?_ | refine blk_alloc ?_ _)); exact BK569.out)) : gb570 ≠ gb569)); clear BK569; clear HB; have BK569 := n0_; have HB := n1_; have BK570 := n2_; have GW570 := n3_; have GE570 := n4_; have NB569_570 := n5_; have NB570_569 := n6_; clear n0_ n1_ n2_ n3_ n4_ n5_ n6_; clear hb hbox hg; have hnb95 := NB569_570.out; have hnc95 := NB570_569.out; obtain ⟨hcz96_0, hcz96_1, hcz96_2, hcz96_3, hcz96_4, hcz96_5, hcz96_6, hcz96_7, hcz96_8⟩ := blk9 BK569.out; obtain ⟨hfz96_0, hfz96_1, hfz96_2, hfz96_3, hfz96_4, hfz96_5, hfz96_6, hfz96_7, hfz96_8⟩ := frz9 BK569.out) | ((with_reducible refine gate_callee (f := 13) rfl ?_); refine goesL_ (some 12) rfl rfl Try.func13 (by kernel_rfl) rfl #[.agg #[.int .u32 a0_0, .int .u32 a0_1, .int .u8 a0_2, .int .u8 a0_3, .int .u16 a0_4, .bool a0_5, .bool a0_6, .int .i64 a0_7, .slice A0_8 l0_8.length c0_8]] rfl (by (try simp only [List.map_toArray, List.map_cons, List.map_nil]); first | done | rfl | (simp only [List.length_drop, List.length_take]; rfl)) ?_; (with_reducible refine (ip_Put.calls k a0_0 a0_1 a0_2 a0_3 a0_4 a0_5 a0_6 a0_7 _ _ l0_8 t571 t574 _ ?side1 ?side2 A4.out).mono ?_); (case side1 => repeat (first | exact (Kd.C_below HR0_8.out HB.out) | (with_reducible refine Kd.C_alloc ?_ _) | (with_reducible refine Kd.C_drewN ?_ _) | (with_reducible refine Kd.C_drew ?_))); (case side2 => exact HC0_8.out); rintro e w97 ⟨v572, rfl, ho0, hb⟩; refine ⟨_, rfl, ?_⟩; have n0_ := Aside0.mk (Kd.R_lower ho0 (below_size (by repeat (first | (with_reducible first | exact HB.out | apply below_alloc | apply pw_below_drewN | apply below_drew1 | refine below_set ?_ GE569.out | refine below_set ?_ GE570.out) | exact HB.out)))); have n1_ := Aside0.mk (blk_below (g := gb569) (o := .cells #[.int .u32 a0_0, .int .u32 a0_1, .int .u8 a0_2, .int .u8 a0_3, .int .u16 a0_4, .bool a0_5, .bool a0_6, .int .i64 a0_7, .slice A0_8 l0_8.length c0_8] 26 (0, 0)) (by (with_reducible repeat (first | refine blk_drewN ?_ _ | refine blk_drew ?_ | refine blk_alloc ?_ _)); exact BK569.out) hb); have n2_ := Aside0.mk (blk_below (g := gb570) (o := .cells #[.int .u32 0, .int .u32 0, .int .u8 0, .int .u8 0, .int .u16 0, .bool false, .bool false, .int .i64 0, .slice none 0 0] 26 (0, 0)) (by (with_reducible repeat (first | refine blk_drewN ?_ _ | refine blk_drew ?_ | refine blk_alloc ?_ _)); exact BK570.out) hb); have n3_ := Aside0.mk (below_step (by repeat (first | (with_reducible first | exact HB.out | apply below_alloc | apply pw_below_drewN | apply below_drew1 | refine below_set ?_ GE569.out | refine below_set ?_ GE570.out) | exact HB.out)) hb); clear BK569; clear BK570; clear HB; have HO573 := n0_; have BK569 := n1_; have BK570 := n2_; have HB := n3_; clear n0_ n1_ n2_ n3_; (try clear hb); (try clear hb2); (try clear hk); (try clear hi); (try clear ho0); obtain ⟨hcz98_0, hcz98_1, hcz98_2, hcz98_3, hcz98_4, hcz98_5, hcz98_6, hcz98_7, hcz98_8⟩ := blk9 BK570.out; obtain ⟨hfz98_0, hfz98_1, hfz98_2, hfz98_3, hfz98_4, hfz98_5, hfz98_6, hfz98_7, hfz98_8⟩ := frz9 BK570.out))
    refine bodyPost_ret (results_ct rfl _ _ gb570 26 #[.int .u32 0, .int .u32 0, .int .u8 0, .int .u8 0, .int .u16 0, .bool false, .bool false, .int .i64 0, .slice none 0 0] (0, 0) _ rfl (by (with_reducible repeat (first | refine blk_drewN ?_ _ | refine blk_drew ?_ | refine blk_alloc ?_ _)); refine blk_put (cs := #[.int .u32 0, .int .u32 0, .int .u8 0, .int .u8 0, .int .u16 0, .bool false, .bool false, .int .i64 0, .slice none 0 0]) ?_ 8 _ rfl; (with_reducible repeat (first | refine blk_drewN ?_ _ | refine blk_drew ?_ | refine blk_alloc ?_ _)); refine blk_put (cs := #[.int .u32 0, .int .u32 0, .int .u8 0, .int .u8 0, .int .u16 0, .bool false, .bool false, .int .i64 0, .slice none 0 0]) ?_ 7 _ rfl; (with_reducible repeat (first | refine blk_drewN ?_ _ | refine blk_drew ?_ | refine blk_alloc ?_ _)); refine blk_put (cs := #[.int .u32 0, .int .u32 0, .int .u8 0, .int .u8 0, .int .u16 0, .bool false, .bool false, .int .i64 0, .slice none 0 0]) ?_ 6 _ rfl; (with_reducible repeat (first | refine blk_drewN ?_ _ | refine blk_drew ?_ | refine blk_alloc ?_ _)); refine blk_put (cs := #[.int .u32 0, .int .u32 0, .int .u8 0, .int .u8 0, .int .u16 0, .bool false, .bool false, .int .i64 0, .slice none 0 0]) ?_ 5 _ rfl; (with_reducible repeat (first | refine blk_drewN ?_ _ | refine blk_drew ?_ | refine blk_alloc ?_ _)); refine blk_put (cs := #[.int .u32 0, .int .u32 0, .int .u8 0, .int .u8 0, .int .u16 0, .bool false, .bool false, .int .i64 0, .slice none 0 0]) ?_ 4 _ rfl; (with_reducible repeat (first | refine blk_drewN ?_ _ | refine blk_drew ?_ | refine blk_alloc ?_ _)); refine blk_put (cs := #[.int .u32 0, .int .u32 0, .int .u8 0, .int .u8 0, .int .u16 0, .bool false, .bool false, .int .i64 0, .slice none 0 0]) ?_ 3 _ rfl; (with_reducible repeat (first | refine blk_drewN ?_ _ | refine blk_drew ?_ | refine blk_alloc ?_ _)); refine blk_put (cs := #[.int .u32 0, .int .u32 0, .int .u8 0, .int .u8 0, .int .u16 0, .bool false, .bool false, .int .i64 0, .slice none 0 0]) ?_ 2 _ rfl; (with_reducible repeat (first | refine blk_drewN ?_ _ | refine blk_drew ?_ | refine blk_alloc ?_ _)); refine blk_put (cs := #[.int .u32 0, .int .u32 0, .int .u8 0, .int .u8 0, .int .u16 0, .bool false, .bool false, .int .i64 0, .slice none 0 0]) ?_ 1 _ rfl; (with_reducible repeat (first | refine blk_drewN ?_ _ | refine blk_drew ?_ | refine blk_alloc ?_ _)); refine blk_put (cs := #[.int .u32 0, .int .u32 0, .int .u8 0, .int .u8 0, .int .u16 0, .bool false, .bool false, .int .i64 0, .slice none 0 0]) ?_ 0 _ rfl; (with_reducible repeat (first | refine blk_drewN ?_ _ | refine blk_drew ?_ | refine blk_alloc ?_ _)); exact BK570.out) Try.underlying26 rfl (by kernel_rfl)) rfl ?_
    exact ⟨_, by first | rfl | (simp [errW_none, errW_some] <;> rfl) | (simp [*, errW_none, errW_some] <;> rfl), by first | exact Kd.R_nil _ _ _ _ _ | exact Kd.N_nil _ _ _ _ _ | exact Kd.V_nil _ _ _ _ _ | exact Kd.Q_nil _ _ _ _ _ | exact Kd.S_nil _ _ _ _ _, by repeat (first | (with_reducible first | exact HB.out | apply below_alloc | apply pw_below_drewN | apply below_drew1 | refine below_set ?_ GE569.out | refine below_set ?_ GE570.out) | exact HB.out)⟩

end Go.Proofs.Ytdligcofjfdhbaa.M
