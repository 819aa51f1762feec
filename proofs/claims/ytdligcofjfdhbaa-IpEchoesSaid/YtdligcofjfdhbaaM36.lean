-- Printed by this session's mp.py over the kit's print (turned in memory). Not trusted: Lean checks it.
import Derived.Test.YtdligcofjfdhbaaM0
import Derived.Test.YtdligcofjfdhbaaM31
namespace Go.Proofs.Ytdligcofjfdhbaa.M
open Go.RowKit Go.Proofs.YtdligcofjfdhbaaW.PrintWords Go.Proofs.YtdligcofjfdhbaaW.PrintLast Go.Proofs.YtdligcofjfdhbaaW.PrintMore
attribute [local go_sem] max2_int min2_int max_two min_two max_three min_three max_four min_four   -- for this text's walks alone
set_option linter.unusedVariables false
set_option linter.unusedSimpArgs false

/-! ### ip_back: function 41 -/
def ip_back.f (k : Nat) (a0_0 : Int) (a0_1 : Int) (a0_2 : Int) (a0_3 : Int) (a0_4 : Int) (a0_5 : Bool) (a0_6 : Bool) (a0_7 : Int) (l0_8 : List Int) (a1 : Int) (a2_0 : Int) (a2_1 : Int) (a2_2 : Int) (l2_3 : List Int) : Option (Int × Int × Int × Int × Int × Bool × Bool × Int × List Int) := (ip_PutIcmp.f k a2_0 a2_1 a2_2 l2_3).bind fun t585 => (some (a0_1, a0_0, 1, 64, a1, false, false, 0, t585))
theorem ip_back.mono : ∀ a0 a1 a2 a3 a4 a5 a6 a7 a8 a9 a10 a11 a12 a13 k, LeO (ip_back.f k a0 a1 a2 a3 a4 a5 a6 a7 a8 a9 a10 a11 a12 a13) (ip_back.f (k + 1) a0 a1 a2 a3 a4 a5 a6 a7 a8 a9 a10 a11 a12 a13) := by
 intro a0 a1 a2 a3 a4 a5 a6 a7 a8 a9 a10 a11 a12 a13 k
 unfold ip_back.f
 repeat' first
   | (with_reducible exact ip_PutIcmp.mono _ _ _ _ _)
   | (with_reducible exact LeO.refl _)
   | (with_reducible exact LeO.none _)
   | (with_reducible refine LeO.ite ?_ ?_)
   | (with_reducible refine LeO.bind ?_ (fun _ => ?_))
   | exact ip_PutIcmp.mono _ _ _ _ _
   | exact LeO.none _
   | refine LeO.ite ?_ ?_
   | refine LeO.bind ?_ (fun _ => ?_)
def ip_back.T1 : Bool × List (List Nat × List Nat) := (true, [([], []), ([0], [0]), ([], []), ([2], [2]), ([], []), ([], []), ([5], [5]), ([1, 3, 4, 6], [1, 3, 4, 6]), ([7, 6, 0, 1, 2, 3, 4, 5, 6, 7], [7])])
def ip_back.B1 : List Nat := [0, 1, 0, 4, 0, 0, 32, 127, 255]
theorem ip_back.tab1 : rtab .any (opsOf Try.f41 1) = ip_back.T1 := by kernel_rfl
theorem ip_back.bits1 : waitsOk ip_back.T1.2 ip_back.B1 = true := by kernel_rfl
set_option maxHeartbeats 8000000 in
set_option maxRecDepth 100000 in
theorem ip_back.calls (k : Nat) (a0_0 : Int) (a0_1 : Int) (a0_2 : Int) (a0_3 : Int) (a0_4 : Int) (a0_5 : Bool) (a0_6 : Bool) (a0_7 : Int) (A0_8 : Option Addr) (c0_8 : Nat) (l0_8 : List Int) (a1 : Int) (a2_0 : Int) (a2_1 : Int) (a2_2 : Int) (A2_3 : Option Addr) (c2_3 : Nat) (l2_3 : List Int) (r1 : Int) (r2 : Int) (r3 : Int) (r4 : Int) (r5 : Int) (r6 : Bool) (r7 : Bool) (r8 : Int) (r9 : List Int) (w : World) (hr0_8 : Kd.C (Kd.int .u8) w A0_8 l0_8.length l0_8) (hc0_8 : l0_8.length ≤ c0_8) (hr2_3 : Kd.C (Kd.int .u8) w A2_3 l2_3.length l2_3) (hc2_3 : l2_3.length ≤ c2_3) (h : ip_back.f k a0_0 a0_1 a0_2 a0_3 a0_4 a0_5 a0_6 a0_7 l0_8 a1 a2_0 a2_1 a2_2 l2_3 = some (r1, r2, r3, r4, r5, r6, r7, r8, r9)) :
  Calls Try.prog 41 #[.agg #[.int .u32 a0_0, .int .u32 a0_1, .int .u8 a0_2, .int .u8 a0_3, .int .u16 a0_4, .bool a0_5, .bool a0_6, .int .i64 a0_7, .slice A0_8 l0_8.length c0_8], .int .u16 a1, .agg #[.int .u8 a2_0, .int .u8 a2_1, .int .u32 a2_2, .slice A2_3 l2_3.length c2_3]] w fun e w' => ∃ v8_ : Value, e = .returned (.agg #[.int .u32 r1, .int .u32 r2, .int .u8 r3, .int .u8 r4, .int .u16 r5, .bool r6, .bool r7, .int .i64 r8, v8_]) ∧ Kd.R (Kd.int .u8) 5 w' w.heap.size (fun _ => True) v8_ r9 ∧ Below w.heap.size w w' := by
 have hu26 := Try.underlying26
 have hu44 := Try.underlying44
 have HR0_8 := Aside0.mk hr0_8
 have HC0_8 := Aside0.mk hc0_8
 clear hr0_8 hc0_8
 have HR2_3 := Aside0.mk hr2_3
 have HC2_3 := Aside0.mk hc2_3
 clear hr2_3 hc2_3
 have HB := Aside0.mk (Below.refl w.heap.size w)
 have H : ((ip_PutIcmp.f k a2_0 a2_1 a2_2 l2_3).bind fun t585 => (some (a0_1, a0_0, 1, 64, a1, false, false, 0, t585))) = some (r1, r2, r3, r4, r5, r6, r7, r8, r9) := h
 clear h
 replace H := Option.bind_eq_some_iff.mp H
 obtain ⟨t585, A40, H⟩ := H
 replace H : (some (a0_1, a0_0, 1, 64, a1, false, false, 0, t585)) = some (r1, r2, r3, r4, r5, r6, r7, r8, r9) := H
 have A4 := Aside0.mk A40
 clear A40
 simp only [Option.some.injEq, Prod.mk.injEq] at H
 obtain ⟨rfl, rfl, rfl, rfl, rfl, rfl, rfl, rfl, rfl⟩ := H
 go_enter Try.func41, Try.ntmps41
 try go_wp2_with (first | ((with_reducible refine gate_dst (N := 3) rfl ?_); refine box_event ?hg (N := 3) ?hd (cs := #[.int .u32 a0_0, .int .u32 a0_1, .int .u8 a0_2, .int .u8 a0_3, .int .u16 a0_4, .bool a0_5, .bool a0_6, .int .i64 a0_7, .slice A0_8 l0_8.length c0_8]) (t := 26) ?hr ?_; (case hd => rfl); (case hg => rfl); (case hr => first | (go_simp; done) | (go_simp; rfl)); intro gb582 hg w5 hbox hb; have n0_ := Aside0.mk (below_step (by repeat (first | (with_reducible first | exact HB.out | apply below_alloc | apply pw_below_drewN | apply below_drew1) | exact HB.out)) hb); have n1_ := Aside0.mk (hbox); have n2_ := Aside0.mk ((by rw [hg]; exact (below_size (by repeat (first | (with_reducible first | exact HB.out | apply below_alloc | apply pw_below_drewN | apply below_drew1) | exact HB.out))) : w.heap.size ≤ gb582)); have n3_ := Aside0.mk ((by rw [hg]; exact (below_size (by repeat (first | (with_reducible first | exact HB.out | apply below_alloc | apply pw_below_drewN | apply below_drew1) | exact HB.out))) : w.heap.size ≤ gb582)); clear HB; have HB := n0_; have BK582 := n1_; have GW582 := n2_; have GE582 := n3_; clear n0_ n1_ n2_ n3_; clear hb hbox hg) | ((with_reducible refine gate_dst (N := 5) rfl ?_); refine box_event ?hg (N := 5) ?hd (cs := #[.int .u8 a2_0, .int .u8 a2_1, .int .u32 a2_2, .slice A2_3 l2_3.length c2_3]) (t := 44) ?hr ?_; (case hd => rfl); (case hg => rfl); (case hr => first | (go_simp; done) | (go_simp; rfl)); intro gb583 hg w6 hbox hb; have n0_ := Aside0.mk (blk_below (g := gb582) (o := .cells #[.int .u32 a0_0, .int .u32 a0_1, .int .u8 a0_2, .int .u8 a0_3, .int .u16 a0_4, .bool a0_5, .bool a0_6, .int .i64 a0_7, .slice A0_8 l0_8.length c0_8] 26 (0, 0)) (by (with_reducible repeat (first | refine blk_drewN ?_ _ | refine blk_drew ?_ | refine blk_alloc ?_ _)); exact BK582.out) hb); have n1_ := Aside0.mk (below_step (by repeat (first | (with_reducible first | exact HB.out | apply below_alloc | apply pw_below_drewN | apply below_drew1 | refine below_set ?_ GE582.out) | exact HB.out)) hb); have n2_ := Aside0.mk (hbox); have n3_ := Aside0.mk ((by rw [hg]; exact (below_size (by repeat (first | (with_reducible first | exact HB.out | apply below_alloc | apply pw_below_drewN | apply below_drew1 | refine below_set ?_ GE582.out) | exact HB.out))) : w.heap.size ≤ gb583)); have n4_ := Aside0.mk ((by rw [hg]; exact (below_size (by repeat (first | (with_reducible first | exact HB.out | apply below_alloc | apply pw_below_drewN | apply below_drew1 | refine below_set ?_ GE582.out) | exact HB.out))) : w.heap.size ≤ gb583)); have n5_ := Aside0.mk ((by rw [hg]; exact Nat.ne_of_lt (blk_lt (g := gb582) (o := .cells #[.int .u32 a0_0, .int .u32 a0_1, .int .u8 a0_2, .int .u8 a0_3, .int .u16 a0_4, .bool a0_5, .bool a0_6, .int .i64 a0_7, .slice A0_8 l0_8.length c0_8] 26 (0, 0)) (by (with_reducible repeat (first | refine blk_drewN ?_ _ | refine blk_drew ?_ | refine blk_alloc ?_ _)); exact BK582.out)) : gb582 ≠ gb583)); have n6_ := Aside0.mk ((by rw [hg]; exact Nat.ne_of_gt (blk_lt (g := gb582) (o := .cells #[.int .u32 a0_0, .int .u32 a0_1, .int .u8 a0_2, .int .u8 a0_3, .int .u16 a0_4, .bool a0_5, .bool a0_6, .int .i64 a0_7, .slice A0_8 l0_8.length c0_8] 26 (0, 0)) (by (with_reducible repeat (first | refine blk_drewN ?_ _ | refine blk_drew ?_ | refine blk_alloc ?_ _)); exact BK582.out)) : gb583 ≠ gb582)); clear BK582; clear HB; have BK582 := n0_; have HB := n1_; have BK583 := n2_; have GW583 := n3_; have GE583 := n4_; have NB582_583 := n5_; have NB583_582 := n6_; clear n0_ n1_ n2_ n3_ n4_ n5_ n6_; clear hb hbox hg) | ((with_reducible refine gate_dst (N := 6) rfl ?_); refine box_event ?hg (N := 6) ?hd (cs := #[.int .u32 0, .int .u32 0, .int .u8 0, .int .u8 0, .int .u16 0, .bool false, .bool false, .int .i64 0, .slice none 0 0]) (t := 26) ?hr ?_; (case hd => rfl); (case hg => rfl); (case hr => first | (go_simp; done) | (go_simp; rfl)); intro gb584 hg w7 hbox hb; have n0_ := Aside0.mk (blk_below (g := gb582) (o := .cells #[.int .u32 a0_0, .int .u32 a0_1, .int .u8 a0_2, .int .u8 a0_3, .int .u16 a0_4, .bool a0_5, .bool a0_6, .int .i64 a0_7, .slice A0_8 l0_8.length c0_8] 26 (0, 0)) (by (with_reducible repeat (first | refine blk_drewN ?_ _ | refine blk_drew ?_ | refine blk_alloc ?_ _)); exact BK582.out) hb); have n1_ := Aside0.mk (blk_below (g := gb583) (o := .cells #[.int .u8 a2_0, .int .u8 a2_1, .int .u32 a2_2, .slice A2_3 l2_3.length c2_3] 44 (0, 0)) (by (with_reducible repeat (first | refine blk_drewN ?_ _ | refine blk_drew ?_ | refine blk_alloc ?_ _)); exact BK583.out) hb); have n2_ := Aside0.mk (below_step (by repeat (first | (with_reducible first | exact HB.out | apply below_alloc | apply pw_below_drewN | apply below_drew1 | refine below_set ?_ GE582.out | refine below_set ?_ GE583.out) | exact HB.out)) hb); have n3_ := Aside0.mk (hbox); have n4_ := Aside0.mk ((by rw [hg]; exact (below_size (by repeat (first | (with_reducible first | exact HB.out | apply below_alloc | apply pw_below_drewN | apply below_drew1 | refine below_set ?_ GE582.out | refine below_set ?_ GE583.out) | exact HB.out))) : w.heap.size ≤ gb584)); have n5_ := Aside0.mk ((by rw [hg]; exact (below_size (by repeat (first | (with_reducible first | exact HB.out | apply below_alloc | apply pw_below_drewN | apply below_drew1 | refine below_set ?_ GE582.out | refine below_set ?_ GE583.out) | exact HB.out))) : w.heap.size ≤ gb584)); have n6_ := Aside0.mk ((by rw [hg]; exact Nat.ne_of_lt (blk_lt (g := gb582) (o := .cells #[.int .u32 a0_0, .int .u32 a0_1, .int .u8 a0_2, .int .u8 a0_3, .int .u16 a0_4, .bool a0_5, .bool a0_6, .int .i64 a0_7, .slice A0_8 l0_8.length c0_8] 26 (0, 0)) (by (with_reducible repeat (first | refine blk_drewN ?_ _ | refine blk_drew ?_ | refine blk_alloc ?_ _)); exact BK582.out)) : gb582 ≠ gb584)); have n7_ := Aside0.mk ((by rw [hg]; exact Nat.ne_of_gt (blk_lt (g := gb582) (o := .cells #[.int .u32 a0_0, .int .u32 a0_1, .int .u8 a0_2, .int .u8 a0_3, .int .u16 a0_4, .bool a0_5, .bool a0_6, .int .i64 a0_7, .slice A0_8 l0_8.length c0_8] 26 (0, 0)) (by (with_reducible repeat (first | refine blk_drewN ?_ _ | refine blk_drew ?_ | refine blk_alloc ?_ _)); exact BK582.out)) : gb584 ≠ gb582)); have n8_ := Aside0.mk ((by rw [hg]; exact Nat.ne_of_lt (blk_lt (g := gb583) (o := .cells #[.int .u8 a2_0, .int .u8 a2_1, .int .u32 a2_2, .slice A2_3 l2_3.length c2_3] 44 (0, 0)) (by (with_reducible repeat (first | refine blk_drewN ?_ _ | refine blk_drew ?_ | refine blk_alloc ?_ _)); exact BK583.out)) : gb583 ≠ gb584)); have n9_ := Aside0.mk ((by rw [hg]; exact Nat.ne_of_gt (blk_lt (g := gb583) (o := .cells #[.int .u8 a2_0, .int .u8 a2_1, .int .u32 a2_2, .slice A2_3 l2_3.length c2_3] 44 (0, 0)) (by (with_reducible repeat (first | refine blk_drewN ?_ _ | refine blk_drew ?_ | refine blk_alloc ?_ _)); exact BK583.out)) : gb584 ≠ gb583)); clear BK582; clear BK583; clear HB; have BK582 := n0_; have BK583 := n1_; have HB := n2_; have BK584 := n3_; have GW584 := n4_; have GE584 := n5_; have NB582_584 := n6_; have NB584_582 := n7_; have NB583_584 := n8_; have NB584_583 := n9_; clear n0_ n1_ n2_ n3_ n4_ n5_ n6_ n7_ n8_ n9_; clear hb hbox hg))
 have n0_ := Aside0.mk (blk_drew BK582.out)
 have n1_ := Aside0.mk (blk_drew BK583.out)
 have n2_ := Aside0.mk (blk_drew BK584.out)
 have n3_ := Aside0.mk (below_drew1 HB.out)
 clear BK582
 clear BK583
 clear BK584
 clear HB
 have BK582 := n0_
 have BK583 := n1_
 have BK584 := n2_
 have HB := n3_
 clear n0_ n1_ n2_ n3_
 refine start_ (n := 9) (S := fun w' => w'.cell? ⟨gb582, 0, none⟩ = some (.int .u32 a0_0) ∧ w'.cell? ⟨gb582, 1, none⟩ = some (.int .u32 a0_1) ∧ w'.cell? ⟨gb582, 2, none⟩ = some (.int .u8 a0_2) ∧ w'.cell? ⟨gb582, 3, none⟩ = some (.int .u8 a0_3) ∧ w'.cell? ⟨gb582, 4, none⟩ = some (.int .u16 a0_4) ∧ w'.cell? ⟨gb582, 5, none⟩ = some (.bool a0_5) ∧ w'.cell? ⟨gb582, 6, none⟩ = some (.bool a0_6) ∧ w'.cell? ⟨gb582, 7, none⟩ = some (.int .i64 a0_7) ∧ w'.cell? ⟨gb582, 8, none⟩ = some (.slice A0_8 l0_8.length c0_8) ∧ w'.cell? ⟨gb583, 0, none⟩ = some (.int .u8 a2_0) ∧ w'.cell? ⟨gb583, 1, none⟩ = some (.int .u8 a2_1) ∧ w'.cell? ⟨gb583, 2, none⟩ = some (.int .u32 a2_2) ∧ w'.cell? ⟨gb583, 3, none⟩ = some (.slice A2_3 l2_3.length c2_3)) (ds := []) #[false, false, false, false, false, false, false, false, false] (by kernel_rfl) rfl rfl ⟨(blk_cell BK582.out 0).trans rfl, (blk_cell BK582.out 1).trans rfl, (blk_cell BK582.out 2).trans rfl, (blk_cell BK582.out 3).trans rfl, (blk_cell BK582.out 4).trans rfl, (blk_cell BK582.out 5).trans rfl, (blk_cell BK582.out 6).trans rfl, (blk_cell BK582.out 7).trans rfl, (blk_cell BK582.out 8).trans rfl, (blk_cell BK583.out 0).trans rfl, (blk_cell BK583.out 1).trans rfl, (blk_cell BK583.out 2).trans rfl, (blk_cell BK583.out 3).trans rfl⟩ (fun hHeld => ?_); refine with_tabW ip_back.tab1 ip_back.bits1 (fun HT_ HW_ => ?_)
 generalize w7.drew = w8 at BK582 BK583 BK584 HB hHeld ⊢
 refine pure_ (i := 0) (N := some 7) (v := ?_) (a' := ?_) #[true, false, false, false, false, false, false, false, false] rfl rfl (any_of HT_.out (by kernel_rfl)) (fun _ _ _ h => h) (Or.inl ⟨by rfl, ?_⟩) ?_ ?_
 rotate_left
 ·intro w'
  go_simp
  with_reducible rfl
 rotate_left
 ·simp only [Act.put, List.setIfInBounds_toArray, List.set_cons_zero, List.set_cons_succ, i64_w, i32_w]
  rfl
 refine pure_ (i := 2) (N := some 9) (v := ?_) (a' := ?_) #[true, false, true, false, false, false, false, false, false] rfl rfl (any_of HT_.out (by kernel_rfl)) (fun _ _ _ h => h) (Or.inl ⟨by rfl, ?_⟩) ?_ ?_
 rotate_left
 ·intro w'
  go_simp
  with_reducible rfl
 rotate_left
 ·simp only [Act.put, List.setIfInBounds_toArray, List.set_cons_zero, List.set_cons_succ, i64_w, i32_w]
  rfl
 refine pure_ (i := 4) (N := some 11) (v := ?_) (a' := ?_) #[true, false, true, false, true, false, false, false, false] rfl rfl (any_of HT_.out (by kernel_rfl)) (fun _ _ _ h => h) (Or.inl ⟨by rfl, ?_⟩) ?_ ?_
 rotate_left
 ·intro w'
  go_simp
  with_reducible rfl
 rotate_left
 ·simp only [Act.put, List.setIfInBounds_toArray, List.set_cons_zero, List.set_cons_succ, i64_w, i32_w]
  rfl
 refine take_ (i := 1) (N := some 8) (v := ?_) (a' := ?_) #[true, true, true, false, true, false, false, false, false] rfl rfl (take_ofW HT_.out HW_.out (by kernel_rfl)) (fun _ _ _ h => h) (Or.inl ⟨by rfl, ?_⟩) hHeld ?_ ?_
 rotate_left
 ·rintro w' ⟨s0, s1, s2, s3, s4, s5, s6, s7, s8, s9, s10, s11, s12⟩
  go_simp
  with_reducible rfl
 rotate_left
 ·simp only [Act.put, List.setIfInBounds_toArray, List.set_cons_zero, List.set_cons_succ, i64_w, i32_w]
  rfl
 refine take_ (i := 3) (N := some 10) (v := ?_) (a' := ?_) #[true, true, true, true, true, false, false, false, false] rfl rfl (take_ofW HT_.out HW_.out (by kernel_rfl)) (fun _ _ _ h => h) (Or.inl ⟨by rfl, ?_⟩) hHeld ?_ ?_
 rotate_left
 ·rintro w' ⟨s0, s1, s2, s3, s4, s5, s6, s7, s8, s9, s10, s11, s12⟩
  go_simp
  with_reducible rfl
 rotate_left
 ·simp only [Act.put, List.setIfInBounds_toArray, List.set_cons_zero, List.set_cons_succ, i64_w, i32_w]
  rfl
 refine take_ (i := 5) (N := some 12) (v := ?_) (a' := ?_) #[true, true, true, true, true, true, false, false, false] rfl rfl (take_ofW HT_.out HW_.out (by kernel_rfl)) (fun _ _ _ h => h) (Or.inl ⟨by rfl, ?_⟩) hHeld ?_ ?_
 rotate_left
 ·rintro w' ⟨s0, s1, s2, s3, s4, s5, s6, s7, s8, s9, s10, s11, s12⟩
  go_simp
  with_reducible rfl
 rotate_left
 ·simp only [Act.put, List.setIfInBounds_toArray, List.set_cons_zero, List.set_cons_succ, i64_w, i32_w]
  rfl
 refine one_ (i := 6) (N := some 13) #[true, true, true, true, true, true, true, false, false] rfl rfl (one_of HT_.out (by kernel_rfl)) (by decide) (fun K hK => ?_)
 refine goes_ Try.func22 (by kernel_rfl) rfl #[.agg #[.int .u8 a2_0, .int .u8 a2_1, .int .u32 a2_2, .slice A2_3 l2_3.length c2_3]] (by rfl) rfl rfl (by (try simp only [List.map_toArray, List.map_cons, List.map_nil]); first | done | rfl | (simp only [List.length_drop, List.length_take]; rfl)) ?_
 with_reducible refine (ip_PutIcmp.calls k a2_0 a2_1 a2_2 _ _ l2_3 t585 _ ?side1 ?side2 A4.out).mono ?_
 (case side1 => repeat (first | exact (Kd.C_below HR2_3.out HB.out) | (with_reducible refine Kd.C_alloc ?_ _) | (with_reducible refine Kd.C_drewN ?_ _) | (with_reducible refine Kd.C_drew ?_)))
 (case side2 => exact HC2_3.out)
 rintro e w9 ⟨v586, rfl, ho0, hb⟩
 refine ⟨_, rfl, ?_⟩
 have n0_ := Aside0.mk (Kd.R_lower ho0 (below_size (by repeat (first | (with_reducible first | exact HB.out | apply below_alloc | apply pw_below_drewN | apply below_drew1 | refine below_set ?_ GE582.out | refine below_set ?_ GE583.out | refine below_set ?_ GE584.out) | exact HB.out))))
 have n1_ := Aside0.mk (blk_below (g := gb582) (o := .cells #[.int .u32 a0_0, .int .u32 a0_1, .int .u8 a0_2, .int .u8 a0_3, .int .u16 a0_4, .bool a0_5, .bool a0_6, .int .i64 a0_7, .slice A0_8 l0_8.length c0_8] 26 (0, 0)) (by (with_reducible repeat (first | refine blk_drewN ?_ _ | refine blk_drew ?_ | refine blk_alloc ?_ _)); exact BK582.out) hb)
 have n2_ := Aside0.mk (blk_below (g := gb583) (o := .cells #[.int .u8 a2_0, .int .u8 a2_1, .int .u32 a2_2, .slice A2_3 l2_3.length c2_3] 44 (0, 0)) (by (with_reducible repeat (first | refine blk_drewN ?_ _ | refine blk_drew ?_ | refine blk_alloc ?_ _)); exact BK583.out) hb)
 have n3_ := Aside0.mk (blk_below (g := gb584) (o := .cells #[.int .u32 0, .int .u32 0, .int .u8 0, .int .u8 0, .int .u16 0, .bool false, .bool false, .int .i64 0, .slice none 0 0] 26 (0, 0)) (by (with_reducible repeat (first | refine blk_drewN ?_ _ | refine blk_drew ?_ | refine blk_alloc ?_ _)); exact BK584.out) hb)
 have n4_ := Aside0.mk (below_step (by repeat (first | (with_reducible first | exact HB.out | apply below_alloc | apply pw_below_drewN | apply below_drew1 | refine below_set ?_ GE582.out | refine below_set ?_ GE583.out | refine below_set ?_ GE584.out) | exact HB.out)) hb)
 clear BK582
 clear BK583
 clear BK584
 clear HB
 have HO587 := n0_
 have BK582 := n1_
 have BK583 := n2_
 have BK584 := n3_
 have HB := n4_
 clear n0_ n1_ n2_ n3_ n4_
 (try clear hb)
 (try clear hb2)
 (try clear hk)
 (try clear hi)
 (try clear ho0)
 obtain ⟨Ao10, co10, eo10⟩ := Kd.R_slice HO587.out
 (first | subst eo10 | (injection eo10 with f1_ f2_ f3_; have f4_ := f1_.symm; have f5_ := f3_.symm; clear f1_ f2_ f3_; subst f4_; subst f5_))
 refine hK.out _ _ ⟨(blk_cell BK582.out 0).trans rfl, (blk_cell BK582.out 1).trans rfl, (blk_cell BK582.out 2).trans rfl, (blk_cell BK582.out 3).trans rfl, (blk_cell BK582.out 4).trans rfl, (blk_cell BK582.out 5).trans rfl, (blk_cell BK582.out 6).trans rfl, (blk_cell BK582.out 7).trans rfl, (blk_cell BK582.out 8).trans rfl, (blk_cell BK583.out 0).trans rfl, (blk_cell BK583.out 1).trans rfl, (blk_cell BK583.out 2).trans rfl, (blk_cell BK583.out 3).trans rfl⟩ (fun hHeld => ?_)
 clear hK K
 refine norm_ (a' := ?_) ?_ ?_
 rotate_left
 ·show Act.put _ (some 13) _ = _
  simp only [Act.put, List.setIfInBounds_toArray, List.set_cons_zero, List.set_cons_succ, i64_w, i32_w]
  rfl
 refine pure_ (i := 7) (N := some 14) (v := ?_) (a' := ?_) #[true, true, true, true, true, true, true, true, false] rfl rfl (any_of HT_.out (by kernel_rfl)) (fun _ _ _ h => h) (Or.inl ⟨by rfl, ?_⟩) ?_ ?_
 rotate_left
 ·intro w'
  go_simp
  with_reducible rfl
 rotate_left
 ·simp only [Act.put, List.setIfInBounds_toArray, List.set_cons_zero, List.set_cons_succ, i64_w, i32_w]
  rfl
 refine one_ (i := 8) (N := none) #[true, true, true, true, true, true, true, true, true] rfl rfl (one_of HT_.out (by kernel_rfl)) (by decide) (fun K hK => ?_)
 have hs11 : w9.cell? ⟨gb584, 0, none⟩ = some (.int .u32 0) := (blk_cell BK584.out 0).trans rfl
 have hfs11 := blk_frozen BK584.out 0
 have hns11_0 := NB582_584.out
 have hns11_1 := NB583_584.out
 have hms11_0 := NB584_582.out
 have hms11_1 := NB584_583.out
 have hs12 : w9.cell? ⟨gb584, 1, none⟩ = some (.int .u32 0) := (blk_cell BK584.out 1).trans rfl
 have hfs12 := blk_frozen BK584.out 1
 have hns12_0 := NB582_584.out
 have hns12_1 := NB583_584.out
 have hms12_0 := NB584_582.out
 have hms12_1 := NB584_583.out
 have hs13 : w9.cell? ⟨gb584, 2, none⟩ = some (.int .u8 0) := (blk_cell BK584.out 2).trans rfl
 have hfs13 := blk_frozen BK584.out 2
 have hns13_0 := NB582_584.out
 have hns13_1 := NB583_584.out
 have hms13_0 := NB584_582.out
 have hms13_1 := NB584_583.out
 have hs14 : w9.cell? ⟨gb584, 3, none⟩ = some (.int .u8 0) := (blk_cell BK584.out 3).trans rfl
 have hfs14 := blk_frozen BK584.out 3
 have hns14_0 := NB582_584.out
 have hns14_1 := NB583_584.out
 have hms14_0 := NB584_582.out
 have hms14_1 := NB584_583.out
 have hs15 : w9.cell? ⟨gb584, 4, none⟩ = some (.int .u16 0) := (blk_cell BK584.out 4).trans rfl
 have hfs15 := blk_frozen BK584.out 4
 have hns15_0 := NB582_584.out
 have hns15_1 := NB583_584.out
 have hms15_0 := NB584_582.out
 have hms15_1 := NB584_583.out
 have hs16 : w9.cell? ⟨gb584, 5, none⟩ = some (.bool false) := (blk_cell BK584.out 5).trans rfl
 have hfs16 := blk_frozen BK584.out 5
 have hns16_0 := NB582_584.out
 have hns16_1 := NB583_584.out
 have hms16_0 := NB584_582.out
 have hms16_1 := NB584_583.out
 have hs17 : w9.cell? ⟨gb584, 6, none⟩ = some (.bool false) := (blk_cell BK584.out 6).trans rfl
 have hfs17 := blk_frozen BK584.out 6
 have hns17_0 := NB582_584.out
 have hns17_1 := NB583_584.out
 have hms17_0 := NB584_582.out
 have hms17_1 := NB584_583.out
 have hs18 : w9.cell? ⟨gb584, 7, none⟩ = some (.int .i64 0) := (blk_cell BK584.out 7).trans rfl
 have hfs18 := blk_frozen BK584.out 7
 have hns18_0 := NB582_584.out
 have hns18_1 := NB583_584.out
 have hms18_0 := NB584_582.out
 have hms18_1 := NB584_583.out
 have hs19 : w9.cell? ⟨gb584, 8, none⟩ = some (.slice none 0 0) := (blk_cell BK584.out 8).trans rfl
 have hfs19 := blk_frozen BK584.out 8
 have hns19_0 := NB582_584.out
 have hns19_1 := NB583_584.out
 have hms19_0 := NB584_582.out
 have hms19_1 := NB584_583.out
 refine skip_ (w1 := ?_) (by rfl) rfl ?_ ?_
 rotate_left
 ·go_simp
  rfl
 refine hK.out _ _ ⟨((cell_far (p := ⟨gb584, _, none⟩) NB582_584.out _).trans (((cell_far (p := ⟨gb584, _, none⟩) NB582_584.out _).trans (((cell_far (p := ⟨gb584, _, none⟩) NB582_584.out _).trans (((cell_far (p := ⟨gb584, _, none⟩) NB582_584.out _).trans (((cell_far (p := ⟨gb584, _, none⟩) NB582_584.out _).trans (((cell_far (p := ⟨gb584, _, none⟩) NB582_584.out _).trans (((cell_far (p := ⟨gb584, _, none⟩) NB582_584.out _).trans (((cell_far (p := ⟨gb584, _, none⟩) NB582_584.out _).trans (((cell_far (p := ⟨gb584, _, none⟩) NB582_584.out _).trans (hHeld.1)))))))))))))))))), ((cell_far (p := ⟨gb584, _, none⟩) NB582_584.out _).trans (((cell_far (p := ⟨gb584, _, none⟩) NB582_584.out _).trans (((cell_far (p := ⟨gb584, _, none⟩) NB582_584.out _).trans (((cell_far (p := ⟨gb584, _, none⟩) NB582_584.out _).trans (((cell_far (p := ⟨gb584, _, none⟩) NB582_584.out _).trans (((cell_far (p := ⟨gb584, _, none⟩) NB582_584.out _).trans (((cell_far (p := ⟨gb584, _, none⟩) NB582_584.out _).trans (((cell_far (p := ⟨gb584, _, none⟩) NB582_584.out _).trans (((cell_far (p := ⟨gb584, _, none⟩) NB582_584.out _).trans (hHeld.2.1)))))))))))))))))), ((cell_far (p := ⟨gb584, _, none⟩) NB582_584.out _).trans (((cell_far (p := ⟨gb584, _, none⟩) NB582_584.out _).trans (((cell_far (p := ⟨gb584, _, none⟩) NB582_584.out _).trans (((cell_far (p := ⟨gb584, _, none⟩) NB582_584.out _).trans (((cell_far (p := ⟨gb584, _, none⟩) NB582_584.out _).trans (((cell_far (p := ⟨gb584, _, none⟩) NB582_584.out _).trans (((cell_far (p := ⟨gb584, _, none⟩) NB582_584.out _).trans (((cell_far (p := ⟨gb584, _, none⟩) NB582_584.out _).trans (((cell_far (p := ⟨gb584, _, none⟩) NB582_584.out _).trans (hHeld.2.2.1)))))))))))))))))), ((cell_far (p := ⟨gb584, _, none⟩) NB582_584.out _).trans (((cell_far (p := ⟨gb584, _, none⟩) NB582_584.out _).trans (((cell_far (p := ⟨gb584, _, none⟩) NB582_584.out _).trans (((cell_far (p := ⟨gb584, _, none⟩) NB582_584.out _).trans (((cell_far (p := ⟨gb584, _, none⟩) NB582_584.out _).trans (((cell_far (p := ⟨gb584, _, none⟩) NB582_584.out _).trans (((cell_far (p := ⟨gb584, _, none⟩) NB582_584.out _).trans (((cell_far (p := ⟨gb584, _, none⟩) NB582_584.out _).trans (((cell_far (p := ⟨gb584, _, none⟩) NB582_584.out _).trans (hHeld.2.2.2.1)))))))))))))))))), ((cell_far (p := ⟨gb584, _, none⟩) NB582_584.out _).trans (((cell_far (p := ⟨gb584, _, none⟩) NB582_584.out _).trans (((cell_far (p := ⟨gb584, _, none⟩) NB582_584.out _).trans (((cell_far (p := ⟨gb584, _, none⟩) NB582_584.out _).trans (((cell_far (p := ⟨gb584, _, none⟩) NB582_584.out _).trans (((cell_far (p := ⟨gb584, _, none⟩) NB582_584.out _).trans (((cell_far (p := ⟨gb584, _, none⟩) NB582_584.out _).trans (((cell_far (p := ⟨gb584, _, none⟩) NB582_584.out _).trans (((cell_far (p := ⟨gb584, _, none⟩) NB582_584.out _).trans (hHeld.2.2.2.2.1)))))))))))))))))), ((cell_far (p := ⟨gb584, _, none⟩) NB582_584.out _).trans (((cell_far (p := ⟨gb584, _, none⟩) NB582_584.out _).trans (((cell_far (p := ⟨gb584, _, none⟩) NB582_584.out _).trans (((cell_far (p := ⟨gb584, _, none⟩) NB582_584.out _).trans (((cell_far (p := ⟨gb584, _, none⟩) NB582_584.out _).trans (((cell_far (p := ⟨gb584, _, none⟩) NB582_584.out _).trans (((cell_far (p := ⟨gb584, _, none⟩) NB582_584.out _).trans (((cell_far (p := ⟨gb584, _, none⟩) NB582_584.out _).trans (((cell_far (p := ⟨gb584, _, none⟩) NB582_584.out _).trans (hHeld.2.2.2.2.2.1)))))))))))))))))), ((cell_far (p := ⟨gb584, _, none⟩) NB582_584.out _).trans (((cell_far (p := ⟨gb584, _, none⟩) NB582_584.out _).trans (((cell_far (p := ⟨gb584, _, none⟩) NB582_584.out _).trans (((cell_far (p := ⟨gb584, _, none⟩) NB582_584.out _).trans (((cell_far (p := ⟨gb584, _, none⟩) NB582_584.out _).trans (((cell_far (p := ⟨gb584, _, none⟩) NB582_584.out _).trans (((cell_far (p := ⟨gb584, _, none⟩) NB582_584.out _).trans (((cell_far (p := ⟨gb584, _, none⟩) NB582_584.out _).trans (((cell_far (p := ⟨gb584, _, none⟩) NB582_584.out _).trans (hHeld.2.2.2.2.2.2.1)))))))))))))))))), ((cell_far (p := ⟨gb584, _, none⟩) NB582_584.out _).trans (((cell_far (p := ⟨gb584, _, none⟩) NB582_584.out _).trans (((cell_far (p := ⟨gb584, _, none⟩) NB582_584.out _).trans (((cell_far (p := ⟨gb584, _, none⟩) NB582_584.out _).trans (((cell_far (p := ⟨gb584, _, none⟩) NB582_584.out _).trans (((cell_far (p := ⟨gb584, _, none⟩) NB582_584.out _).trans (((cell_far (p := ⟨gb584, _, none⟩) NB582_584.out _).trans (((cell_far (p := ⟨gb584, _, none⟩) NB582_584.out _).trans (((cell_far (p := ⟨gb584, _, none⟩) NB582_584.out _).trans (hHeld.2.2.2.2.2.2.2.1)))))))))))))))))), ((cell_far (p := ⟨gb584, _, none⟩) NB582_584.out _).trans (((cell_far (p := ⟨gb584, _, none⟩) NB582_584.out _).trans (((cell_far (p := ⟨gb584, _, none⟩) NB582_584.out _).trans (((cell_far (p := ⟨gb584, _, none⟩) NB582_584.out _).trans (((cell_far (p := ⟨gb584, _, none⟩) NB582_584.out _).trans (((cell_far (p := ⟨gb584, _, none⟩) NB582_584.out _).trans (((cell_far (p := ⟨gb584, _, none⟩) NB582_584.out _).trans (((cell_far (p := ⟨gb584, _, none⟩) NB582_584.out _).trans (((cell_far (p := ⟨gb584, _, none⟩) NB582_584.out _).trans (hHeld.2.2.2.2.2.2.2.2.1)))))))))))))))))), ((cell_far (p := ⟨gb584, _, none⟩) NB583_584.out _).trans (((cell_far (p := ⟨gb584, _, none⟩) NB583_584.out _).trans (((cell_far (p := ⟨gb584, _, none⟩) NB583_584.out _).trans (((cell_far (p := ⟨gb584, _, none⟩) NB583_584.out _).trans (((cell_far (p := ⟨gb584, _, none⟩) NB583_584.out _).trans (((cell_far (p := ⟨gb584, _, none⟩) NB583_584.out _).trans (((cell_far (p := ⟨gb584, _, none⟩) NB583_584.out _).trans (((cell_far (p := ⟨gb584, _, none⟩) NB583_584.out _).trans (((cell_far (p := ⟨gb584, _, none⟩) NB583_584.out _).trans (hHeld.2.2.2.2.2.2.2.2.2.1)))))))))))))))))), ((cell_far (p := ⟨gb584, _, none⟩) NB583_584.out _).trans (((cell_far (p := ⟨gb584, _, none⟩) NB583_584.out _).trans (((cell_far (p := ⟨gb584, _, none⟩) NB583_584.out _).trans (((cell_far (p := ⟨gb584, _, none⟩) NB583_584.out _).trans (((cell_far (p := ⟨gb584, _, none⟩) NB583_584.out _).trans (((cell_far (p := ⟨gb584, _, none⟩) NB583_584.out _).trans (((cell_far (p := ⟨gb584, _, none⟩) NB583_584.out _).trans (((cell_far (p := ⟨gb584, _, none⟩) NB583_584.out _).trans (((cell_far (p := ⟨gb584, _, none⟩) NB583_584.out _).trans (hHeld.2.2.2.2.2.2.2.2.2.2.1)))))))))))))))))), ((cell_far (p := ⟨gb584, _, none⟩) NB583_584.out _).trans (((cell_far (p := ⟨gb584, _, none⟩) NB583_584.out _).trans (((cell_far (p := ⟨gb584, _, none⟩) NB583_584.out _).trans (((cell_far (p := ⟨gb584, _, none⟩) NB583_584.out _).trans (((cell_far (p := ⟨gb584, _, none⟩) NB583_584.out _).trans (((cell_far (p := ⟨gb584, _, none⟩) NB583_584.out _).trans (((cell_far (p := ⟨gb584, _, none⟩) NB583_584.out _).trans (((cell_far (p := ⟨gb584, _, none⟩) NB583_584.out _).trans (((cell_far (p := ⟨gb584, _, none⟩) NB583_584.out _).trans (hHeld.2.2.2.2.2.2.2.2.2.2.2.1)))))))))))))))))), ((cell_far (p := ⟨gb584, _, none⟩) NB583_584.out _).trans (((cell_far (p := ⟨gb584, _, none⟩) NB583_584.out _).trans (((cell_far (p := ⟨gb584, _, none⟩) NB583_584.out _).trans (((cell_far (p := ⟨gb584, _, none⟩) NB583_584.out _).trans (((cell_far (p := ⟨gb584, _, none⟩) NB583_584.out _).trans (((cell_far (p := ⟨gb584, _, none⟩) NB583_584.out _).trans (((cell_far (p := ⟨gb584, _, none⟩) NB583_584.out _).trans (((cell_far (p := ⟨gb584, _, none⟩) NB583_584.out _).trans (((cell_far (p := ⟨gb584, _, none⟩) NB583_584.out _).trans (hHeld.2.2.2.2.2.2.2.2.2.2.2.2))))))))))))))))))⟩ (fun hHeld => ?_)
 clear hK K
 refine done_ (done_of HT_.out (by kernel_rfl)) ?_
 try go_wp2
 refine bodyPost_ret (results_cell_row rfl _ _ gb584 26 #[.int .u32 a0_1, .int .u32 a0_0, .int .u8 1, .int .u8 64, .int .u16 a1, .bool false, .bool false, .int .i64 0, .slice Ao10 t585.length co10] (0, 0) _ rfl (by (with_reducible repeat (first | refine blk_drewN ?_ _ | refine blk_drew ?_ | refine blk_alloc ?_ _)); refine blk_put (cs := #[.int .u32 a0_1, .int .u32 a0_0, .int .u8 1, .int .u8 64, .int .u16 a1, .bool false, .bool false, .int .i64 0, .slice none 0 0]) ?_ 8 _ rfl; (with_reducible repeat (first | refine blk_drewN ?_ _ | refine blk_drew ?_ | refine blk_alloc ?_ _)); refine blk_put (cs := #[.int .u32 a0_1, .int .u32 a0_0, .int .u8 1, .int .u8 64, .int .u16 a1, .bool false, .bool false, .int .i64 0, .slice none 0 0]) ?_ 7 _ rfl; (with_reducible repeat (first | refine blk_drewN ?_ _ | refine blk_drew ?_ | refine blk_alloc ?_ _)); refine blk_put (cs := #[.int .u32 a0_1, .int .u32 a0_0, .int .u8 1, .int .u8 64, .int .u16 a1, .bool false, .bool false, .int .i64 0, .slice none 0 0]) ?_ 6 _ rfl; (with_reducible repeat (first | refine blk_drewN ?_ _ | refine blk_drew ?_ | refine blk_alloc ?_ _)); refine blk_put (cs := #[.int .u32 a0_1, .int .u32 a0_0, .int .u8 1, .int .u8 64, .int .u16 a1, .bool false, .bool false, .int .i64 0, .slice none 0 0]) ?_ 5 _ rfl; (with_reducible repeat (first | refine blk_drewN ?_ _ | refine blk_drew ?_ | refine blk_alloc ?_ _)); refine blk_put (cs := #[.int .u32 a0_1, .int .u32 a0_0, .int .u8 1, .int .u8 64, .int .u16 0, .bool false, .bool false, .int .i64 0, .slice none 0 0]) ?_ 4 _ rfl; (with_reducible repeat (first | refine blk_drewN ?_ _ | refine blk_drew ?_ | refine blk_alloc ?_ _)); refine blk_put (cs := #[.int .u32 a0_1, .int .u32 a0_0, .int .u8 1, .int .u8 0, .int .u16 0, .bool false, .bool false, .int .i64 0, .slice none 0 0]) ?_ 3 _ rfl; (with_reducible repeat (first | refine blk_drewN ?_ _ | refine blk_drew ?_ | refine blk_alloc ?_ _)); refine blk_put (cs := #[.int .u32 a0_1, .int .u32 a0_0, .int .u8 0, .int .u8 0, .int .u16 0, .bool false, .bool false, .int .i64 0, .slice none 0 0]) ?_ 2 _ rfl; (with_reducible repeat (first | refine blk_drewN ?_ _ | refine blk_drew ?_ | refine blk_alloc ?_ _)); refine blk_put (cs := #[.int .u32 a0_1, .int .u32 0, .int .u8 0, .int .u8 0, .int .u16 0, .bool false, .bool false, .int .i64 0, .slice none 0 0]) ?_ 1 _ rfl; (with_reducible repeat (first | refine blk_drewN ?_ _ | refine blk_drew ?_ | refine blk_alloc ?_ _)); refine blk_put (cs := #[.int .u32 0, .int .u32 0, .int .u8 0, .int .u8 0, .int .u16 0, .bool false, .bool false, .int .i64 0, .slice none 0 0]) ?_ 0 _ rfl; (with_reducible repeat (first | refine blk_drewN ?_ _ | refine blk_drew ?_ | refine blk_alloc ?_ _)); exact BK584.out) Try.underlying26 rfl (by kernel_rfl)) rfl ?_
 exact ⟨_, by first | rfl | (simp [errW_none, errW_some] <;> rfl) | (simp [*, errW_none, errW_some] <;> rfl), by (with_reducible repeat (first | apply Kd.R_alloc | apply Kd.R_drewN | apply Kd.R_drew)); exact Kd.R_mono (Kd.R_far (p := ⟨gb584, 8, none⟩) (Kd.R_far (p := ⟨gb584, 7, none⟩) (Kd.R_far (p := ⟨gb584, 6, none⟩) (Kd.R_far (p := ⟨gb584, 5, none⟩) (Kd.R_far (p := ⟨gb584, 4, none⟩) (Kd.R_far (p := ⟨gb584, 3, none⟩) (Kd.R_far (p := ⟨gb584, 2, none⟩) (Kd.R_far (p := ⟨gb584, 1, none⟩) (Kd.R_far (p := ⟨gb584, 0, none⟩) (Kd.R_types HO587.out BK584.out (by decide)) (fun _ hk => hk.2) (.int .u32 a0_1)) (fun _ hk => hk.2) (.int .u32 a0_0)) (fun _ hk => hk.2) (.int .u8 1)) (fun _ hk => hk.2) (.int .u8 64)) (fun _ hk => hk.2) (.int .u16 a1)) (fun _ hk => hk.2) (.bool false)) (fun _ hk => hk.2) (.bool false)) (fun _ hk => hk.2) (.int .i64 0)) (fun _ hk => hk.2) (.slice Ao10 t585.length co10)) (fun _ hk => trivial), by repeat (first | (with_reducible first | exact HB.out | apply below_alloc | apply pw_below_drewN | apply below_drew1 | refine below_set ?_ GE582.out | refine below_set ?_ GE583.out | refine below_set ?_ GE584.out) | exact HB.out)⟩

end Go.Proofs.Ytdligcofjfdhbaa.M
