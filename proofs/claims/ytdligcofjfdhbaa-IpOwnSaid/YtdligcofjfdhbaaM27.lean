-- Printed by this session's mp.py over the kit's print (turned in memory). Not trusted: Lean checks it.
import Derived.Test.YtdligcofjfdhbaaM0
import Derived.Test.YtdligcofjfdhbaaM22
namespace Go.Proofs.Ytdligcofjfdhbaa.M
open Go.RowKit Go.Proofs.YtdligcofjfdhbaaW.PrintWords Go.Proofs.YtdligcofjfdhbaaW.PrintLast Go.Proofs.YtdligcofjfdhbaaW.PrintMore
attribute [local go_sem] max2_int min2_int max_two min_two max_three min_three max_four min_four   -- for this text's walks alone
set_option linter.unusedVariables false
set_option linter.unusedSimpArgs false

/-! ### trunklinelaw10_same: function 21 -/
def trunklinelaw10_same.l0 : Nat → List (S26) → List (S26) → Int → Option (Bool)
 | 0, _, _, _ => none
 | k + 1, x0, x1, x5 => if x5 < (x0.length : Int) then (if 0 ≤ x5 then (if x5 < (x1.length : Int) then ((trunklineref10_Same.f ((rd_T26 x0 x5).f0) ((rd_T26 x0 x5).f1) ((rd_T26 x0 x5).f2) ((rd_T26 x0 x5).f3) ((rd_T26 x0 x5).f4) ((rd_T26 x0 x5).f5) ((rd_T26 x0 x5).f6) ((rd_T26 x0 x5).f7) ((rd_T26 x0 x5).f8) ((rd_T26 x1 x5).f0) ((rd_T26 x1 x5).f1) ((rd_T26 x1 x5).f2) ((rd_T26 x1 x5).f3) ((rd_T26 x1 x5).f4) ((rd_T26 x1 x5).f5) ((rd_T26 x1 x5).f6) ((rd_T26 x1 x5).f7) ((rd_T26 x1 x5).f8)).bind fun t407 => (if t407 = true then (trunklinelaw10_same.l0 k x0 x1 (wrap64 (x5 + 1))) else (some false))) else (none)) else (none)) else (some true)
def trunklinelaw10_same.f (k : Nat) (l0 : List (S26)) (l1 : List (S26)) : Option (Bool) := if (l0.length : Int) = (l1.length : Int) then (trunklinelaw10_same.l0 k l0 l1 0) else (some false)
theorem trunklinelaw10_same.mono_l : ∀ k, (∀ y0 y1 y2, LeO (trunklinelaw10_same.l0 k y0 y1 y2) (trunklinelaw10_same.l0 (k + 1) y0 y1 y2))
 | 0 => fun _ _ _ r h => by simp [trunklinelaw10_same.l0] at h
 | k + 1 => by
  have ih0 := trunklinelaw10_same.mono_l k
  ·intro y0 y1 y2
   unfold trunklinelaw10_same.l0
   repeat' first
   | (with_reducible exact ih0 _ _ _)
   | (with_reducible exact LeO.refl _)
   | (with_reducible exact LeO.none _)
   | (with_reducible refine LeO.ite ?_ ?_)
   | (with_reducible refine LeO.bind ?_ (fun _ => ?_))
   | exact ih0 _ _ _
   | exact LeO.none _
   | refine LeO.ite ?_ ?_
   | refine LeO.bind ?_ (fun _ => ?_)
theorem trunklinelaw10_same.mono : ∀ a0 a1 k, LeO (trunklinelaw10_same.f k a0 a1) (trunklinelaw10_same.f (k + 1) a0 a1) := by
 intro a0 a1 k
 have ih0 := trunklinelaw10_same.mono_l k
 unfold trunklinelaw10_same.f
 repeat' first
   | (with_reducible exact ih0 _ _ _)
   | (with_reducible exact LeO.refl _)
   | (with_reducible exact LeO.none _)
   | (with_reducible refine LeO.ite ?_ ?_)
   | (with_reducible refine LeO.bind ?_ (fun _ => ?_))
   | exact ih0 _ _ _
   | exact LeO.none _
   | refine LeO.ite ?_ ?_
   | refine LeO.bind ?_ (fun _ => ?_)
def trunklinelaw10_same.T6 : Bool × List (List Nat × List Nat) := (true, [([], []), ([], []), ([0, 1], [0, 1]), ([2], [2]), ([], []), ([], []), ([4, 5], [4, 5]), ([6], [6]), ([3, 7], [3, 7]), ([8], [8])])
def trunklinelaw10_same.B6 : List Nat := [0, 0, 3, 7, 0, 0, 48, 112, 255, 511]
theorem trunklinelaw10_same.tab6 : rtab .any (opsOf Try.f21 6) = trunklinelaw10_same.T6 := by kernel_rfl
theorem trunklinelaw10_same.bits6 : waitsOk trunklinelaw10_same.T6.2 trunklinelaw10_same.B6 = true := by kernel_rfl
set_option maxHeartbeats 8000000 in
set_option maxRecDepth 100000 in
theorem trunklinelaw10_same.calls (k : Nat) (A0 : Option Addr) (c0 : Nat) (l0 : List (S26)) (A1 : Option Addr) (c1 : Nat) (l1 : List (S26)) (r : Bool) (w : World) (hr0 : Kd.C k26 w A0 l0.length l0) (hc0 : l0.length ≤ c0) (hr1 : Kd.C k26 w A1 l1.length l1) (hc1 : l1.length ≤ c1) (h : trunklinelaw10_same.f k l0 l1 = some r) :
  Calls Try.prog 21 #[.slice A0 l0.length c0, .slice A1 l1.length c1] w fun e w' => e = .returned (.bool r) ∧ Below w.heap.size w w' := by
 have hu26 := Try.underlying26
 have HR0 := Aside0.mk hr0
 have HC0 := Aside0.mk hc0
 clear hr0 hc0
 have HR1 := Aside0.mk hr1
 have HC1 := Aside0.mk hc1
 clear hr1 hc1
 have HB := Aside0.mk (Below.refl w.heap.size w)
 have H : (if (l0.length : Int) = (l1.length : Int) then (trunklinelaw10_same.l0 k l0 l1 0) else (some false)) = some r := h
 clear h
 by_cases c3 : (l0.length : Int) = (l1.length : Int)
 ·rw [if_pos c3] at H
  have c3b0 : ((l0.length : Int) == (l1.length : Int)) = true := beq_iff_eq.mpr c3
  have c3b1 : ((l0.length : Int) != (l1.length : Int)) = false := bne_eq_false_iff_eq.mpr c3
  have c3b2 : (l0.length == l1.length) = true := by first | simpa using c3 | (simp at c3 ⊢; omega)
  clear c3
  have H' := Aside0.mk H
  clear H
  go_enter Try.func21, Try.ntmps21
  go_wp2
  go_loopg [5] k (fun kq v5 w' => ∃ (x5_1 : Int), v5 = .int .i64 x5_1 ∧ Aside0 (trunklinelaw10_same.l0 kq l0 l1 x5_1 = some r) ∧ Aside0 (kq ≤ k) ∧ Aside0 (Below w.heap.size w w'))
  case atStart => exact ⟨(0), (by first | rfl | (simp; done) | (simp [*]; done)), H', ⟨Nat.le_refl _⟩, ⟨by repeat (first | (with_reducible first | exact HB.out | apply below_alloc | apply pw_below_drewN | apply below_drew1) | exact HB.out)⟩⟩
  case round =>
   clear H'
   try clear c1
   try clear c2
   try clear p2
   try clear c3
   try clear c3b0
   try clear c3b1
   try clear c3b2
   obtain ⟨x5_1, rfl, HA, HK1, HB⟩ := hrel
   cases gk with
   | zero => exact absurd HA.out (by simp [trunklinelaw10_same.l0])
   | succ k1 =>
    have H := HA.out
    clear HA
    simp only [trunklinelaw10_same.l0] at H
    by_cases c4 : x5_1 < (l0.length : Int)
    ·rw [if_pos c4] at H
     have c4b0 : decide (x5_1 < (l0.length : Int)) = true := decide_eq_true c4
     clear c4
     by_cases c5 : 0 ≤ x5_1
     ·rw [if_pos c5] at H
      have c5b0 : decide (0 ≤ x5_1) = true := decide_eq_true c5
      clear c5
      by_cases c6 : x5_1 < (l1.length : Int)
      ·rw [if_pos c6] at H
       have c6b0 : decide (x5_1 < (l1.length : Int)) = true := decide_eq_true c6
       clear c6
       replace H := Option.bind_eq_some_iff.mp H
       obtain ⟨t407, A70, H⟩ := H
       replace H : (if t407 = true then (trunklinelaw10_same.l0 k1 l0 l1 (wrap64 (x5_1 + 1))) else (some false)) = some r := H
       have A7 := Aside0.mk A70
       clear A70
       by_cases c8 : t407 = true
       case' neg =>
        replace c8 := Bool.eq_false_iff.mpr c8
        subst c8
        have H1 : (some false) = some r := by rw [if_neg (show ¬ (false = true) by decide)] at H; exact H
        clear H
        have H := H1
        clear H1
        obtain rfl := Option.some.inj H
        try go_wp2
        have n0_ := Aside0.mk (below_drew1 HB.out)
        clear HB
        have HB := n0_
        clear n0_
        have p405 : 0 ≤ (x5_1 : Int) := of_decide_eq_true (by first | (with_reducible assumption) | assumption)
        have q405 : x5_1 < (l0.length : Int) := of_decide_eq_true (by first | (with_reducible assumption) | assumption)
        obtain ⟨ad405, A405_8, c405_8, e405, hx405_0, hx405_1, hx405_2, hx405_3, hx405_4, hx405_5, hx405_6, hx405_7, hx405_8, hl405_8, hi405_8⟩ := at_T26 HR0.out x5_1 p405 q405
        have hw405_8 := hx405_8
        have hw405_7 := hx405_7
        have hw405_6 := hx405_6
        have hw405_5 := hx405_5
        have hw405_4 := hx405_4
        have hw405_3 := hx405_3
        have hw405_2 := hx405_2
        have hw405_1 := hx405_1
        have hw405_0 := hx405_0
        cases e405
        replace hx405_0 := (HB.out.cell (World.block_lt_of_cell? w _ hx405_0)).trans hx405_0
        replace hx405_1 := (HB.out.cell (World.block_lt_of_cell? w _ hx405_1)).trans hx405_1
        replace hx405_2 := (HB.out.cell (World.block_lt_of_cell? w _ hx405_2)).trans hx405_2
        replace hx405_3 := (HB.out.cell (World.block_lt_of_cell? w _ hx405_3)).trans hx405_3
        replace hx405_4 := (HB.out.cell (World.block_lt_of_cell? w _ hx405_4)).trans hx405_4
        replace hx405_5 := (HB.out.cell (World.block_lt_of_cell? w _ hx405_5)).trans hx405_5
        replace hx405_6 := (HB.out.cell (World.block_lt_of_cell? w _ hx405_6)).trans hx405_6
        replace hx405_7 := (HB.out.cell (World.block_lt_of_cell? w _ hx405_7)).trans hx405_7
        replace hx405_8 := (HB.out.cell (World.block_lt_of_cell? w _ hx405_8)).trans hx405_8
        have HR405_8 := Aside0.mk hi405_8
        have HC405_8 := Aside0.mk hl405_8
        clear hi405_8 hl405_8
        replace p405 := eq_true p405
        replace q405 := eq_true q405
        have p406 : 0 ≤ (x5_1 : Int) := of_decide_eq_true (by first | (with_reducible assumption) | assumption)
        have q406 : x5_1 < (l1.length : Int) := of_decide_eq_true (by first | (with_reducible assumption) | assumption)
        obtain ⟨ad406, A406_8, c406_8, e406, hx406_0, hx406_1, hx406_2, hx406_3, hx406_4, hx406_5, hx406_6, hx406_7, hx406_8, hl406_8, hi406_8⟩ := at_T26 HR1.out x5_1 p406 q406
        have hw406_8 := hx406_8
        have hw406_7 := hx406_7
        have hw406_6 := hx406_6
        have hw406_5 := hx406_5
        have hw406_4 := hx406_4
        have hw406_3 := hx406_3
        have hw406_2 := hx406_2
        have hw406_1 := hx406_1
        have hw406_0 := hx406_0
        cases e406
        replace hx406_0 := (HB.out.cell (World.block_lt_of_cell? w _ hx406_0)).trans hx406_0
        replace hx406_1 := (HB.out.cell (World.block_lt_of_cell? w _ hx406_1)).trans hx406_1
        replace hx406_2 := (HB.out.cell (World.block_lt_of_cell? w _ hx406_2)).trans hx406_2
        replace hx406_3 := (HB.out.cell (World.block_lt_of_cell? w _ hx406_3)).trans hx406_3
        replace hx406_4 := (HB.out.cell (World.block_lt_of_cell? w _ hx406_4)).trans hx406_4
        replace hx406_5 := (HB.out.cell (World.block_lt_of_cell? w _ hx406_5)).trans hx406_5
        replace hx406_6 := (HB.out.cell (World.block_lt_of_cell? w _ hx406_6)).trans hx406_6
        replace hx406_7 := (HB.out.cell (World.block_lt_of_cell? w _ hx406_7)).trans hx406_7
        replace hx406_8 := (HB.out.cell (World.block_lt_of_cell? w _ hx406_8)).trans hx406_8
        have HR406_8 := Aside0.mk hi406_8
        have HC406_8 := Aside0.mk hl406_8
        clear hi406_8 hl406_8
        replace p406 := eq_true p406
        replace q406 := eq_true q406
       case' pos =>
        subst c8
        have H1 : (trunklinelaw10_same.l0 k1 l0 l1 (wrap64 (x5_1 + 1))) = some r := by rw [if_pos rfl] at H; exact H
        clear H
        have H := H1
        clear H1
        have H' := Aside0.mk H
        clear H
        try go_wp2
        have n0_ := Aside0.mk (below_drew1 HB.out)
        clear HB
        have HB := n0_
        clear n0_
        have p405 : 0 ≤ (x5_1 : Int) := of_decide_eq_true (by first | (with_reducible assumption) | assumption)
        have q405 : x5_1 < (l0.length : Int) := of_decide_eq_true (by first | (with_reducible assumption) | assumption)
        obtain ⟨ad405, A405_8, c405_8, e405, hx405_0, hx405_1, hx405_2, hx405_3, hx405_4, hx405_5, hx405_6, hx405_7, hx405_8, hl405_8, hi405_8⟩ := at_T26 HR0.out x5_1 p405 q405
        have hw405_8 := hx405_8
        have hw405_7 := hx405_7
        have hw405_6 := hx405_6
        have hw405_5 := hx405_5
        have hw405_4 := hx405_4
        have hw405_3 := hx405_3
        have hw405_2 := hx405_2
        have hw405_1 := hx405_1
        have hw405_0 := hx405_0
        cases e405
        replace hx405_0 := (HB.out.cell (World.block_lt_of_cell? w _ hx405_0)).trans hx405_0
        replace hx405_1 := (HB.out.cell (World.block_lt_of_cell? w _ hx405_1)).trans hx405_1
        replace hx405_2 := (HB.out.cell (World.block_lt_of_cell? w _ hx405_2)).trans hx405_2
        replace hx405_3 := (HB.out.cell (World.block_lt_of_cell? w _ hx405_3)).trans hx405_3
        replace hx405_4 := (HB.out.cell (World.block_lt_of_cell? w _ hx405_4)).trans hx405_4
        replace hx405_5 := (HB.out.cell (World.block_lt_of_cell? w _ hx405_5)).trans hx405_5
        replace hx405_6 := (HB.out.cell (World.block_lt_of_cell? w _ hx405_6)).trans hx405_6
        replace hx405_7 := (HB.out.cell (World.block_lt_of_cell? w _ hx405_7)).trans hx405_7
        replace hx405_8 := (HB.out.cell (World.block_lt_of_cell? w _ hx405_8)).trans hx405_8
        have HR405_8 := Aside0.mk hi405_8
        have HC405_8 := Aside0.mk hl405_8
        clear hi405_8 hl405_8
        replace p405 := eq_true p405
        replace q405 := eq_true q405
        have p406 : 0 ≤ (x5_1 : Int) := of_decide_eq_true (by first | (with_reducible assumption) | assumption)
        have q406 : x5_1 < (l1.length : Int) := of_decide_eq_true (by first | (with_reducible assumption) | assumption)
        obtain ⟨ad406, A406_8, c406_8, e406, hx406_0, hx406_1, hx406_2, hx406_3, hx406_4, hx406_5, hx406_6, hx406_7, hx406_8, hl406_8, hi406_8⟩ := at_T26 HR1.out x5_1 p406 q406
        have hw406_8 := hx406_8
        have hw406_7 := hx406_7
        have hw406_6 := hx406_6
        have hw406_5 := hx406_5
        have hw406_4 := hx406_4
        have hw406_3 := hx406_3
        have hw406_2 := hx406_2
        have hw406_1 := hx406_1
        have hw406_0 := hx406_0
        cases e406
        replace hx406_0 := (HB.out.cell (World.block_lt_of_cell? w _ hx406_0)).trans hx406_0
        replace hx406_1 := (HB.out.cell (World.block_lt_of_cell? w _ hx406_1)).trans hx406_1
        replace hx406_2 := (HB.out.cell (World.block_lt_of_cell? w _ hx406_2)).trans hx406_2
        replace hx406_3 := (HB.out.cell (World.block_lt_of_cell? w _ hx406_3)).trans hx406_3
        replace hx406_4 := (HB.out.cell (World.block_lt_of_cell? w _ hx406_4)).trans hx406_4
        replace hx406_5 := (HB.out.cell (World.block_lt_of_cell? w _ hx406_5)).trans hx406_5
        replace hx406_6 := (HB.out.cell (World.block_lt_of_cell? w _ hx406_6)).trans hx406_6
        replace hx406_7 := (HB.out.cell (World.block_lt_of_cell? w _ hx406_7)).trans hx406_7
        replace hx406_8 := (HB.out.cell (World.block_lt_of_cell? w _ hx406_8)).trans hx406_8
        have HR406_8 := Aside0.mk hi406_8
        have HC406_8 := Aside0.mk hl406_8
        clear hi406_8 hl406_8
        replace p406 := eq_true p406
        replace q406 := eq_true q406
       all_goals
        refine start_ (n := 10) (S := fun w' => w'.cell? (ad405.add ((x5_1).toNat * 9)) = some (.int .u32 ((rd_T26 l0 x5_1).f0)) ∧ w'.cell? ⟨(ad405.add ((x5_1).toNat * 9)).block, (ad405.add ((x5_1).toNat * 9)).off + 1, none⟩ = some (.int .u32 ((rd_T26 l0 x5_1).f1)) ∧ w'.cell? ⟨(ad405.add ((x5_1).toNat * 9)).block, (ad405.add ((x5_1).toNat * 9)).off + 2, none⟩ = some (.int .u8 ((rd_T26 l0 x5_1).f2)) ∧ w'.cell? ⟨(ad405.add ((x5_1).toNat * 9)).block, (ad405.add ((x5_1).toNat * 9)).off + 3, none⟩ = some (.int .u8 ((rd_T26 l0 x5_1).f3)) ∧ w'.cell? ⟨(ad405.add ((x5_1).toNat * 9)).block, (ad405.add ((x5_1).toNat * 9)).off + 4, none⟩ = some (.int .u16 ((rd_T26 l0 x5_1).f4)) ∧ w'.cell? ⟨(ad405.add ((x5_1).toNat * 9)).block, (ad405.add ((x5_1).toNat * 9)).off + 5, none⟩ = some (.bool ((rd_T26 l0 x5_1).f5)) ∧ w'.cell? ⟨(ad405.add ((x5_1).toNat * 9)).block, (ad405.add ((x5_1).toNat * 9)).off + 6, none⟩ = some (.bool ((rd_T26 l0 x5_1).f6)) ∧ w'.cell? ⟨(ad405.add ((x5_1).toNat * 9)).block, (ad405.add ((x5_1).toNat * 9)).off + 7, none⟩ = some (.int .i64 ((rd_T26 l0 x5_1).f7)) ∧ w'.cell? ⟨(ad405.add ((x5_1).toNat * 9)).block, (ad405.add ((x5_1).toNat * 9)).off + 8, none⟩ = some (.slice A405_8 ((rd_T26 l0 x5_1).f8).length c405_8) ∧ w'.cell? (ad406.add ((x5_1).toNat * 9)) = some (.int .u32 ((rd_T26 l1 x5_1).f0)) ∧ w'.cell? ⟨(ad406.add ((x5_1).toNat * 9)).block, (ad406.add ((x5_1).toNat * 9)).off + 1, none⟩ = some (.int .u32 ((rd_T26 l1 x5_1).f1)) ∧ w'.cell? ⟨(ad406.add ((x5_1).toNat * 9)).block, (ad406.add ((x5_1).toNat * 9)).off + 2, none⟩ = some (.int .u8 ((rd_T26 l1 x5_1).f2)) ∧ w'.cell? ⟨(ad406.add ((x5_1).toNat * 9)).block, (ad406.add ((x5_1).toNat * 9)).off + 3, none⟩ = some (.int .u8 ((rd_T26 l1 x5_1).f3)) ∧ w'.cell? ⟨(ad406.add ((x5_1).toNat * 9)).block, (ad406.add ((x5_1).toNat * 9)).off + 4, none⟩ = some (.int .u16 ((rd_T26 l1 x5_1).f4)) ∧ w'.cell? ⟨(ad406.add ((x5_1).toNat * 9)).block, (ad406.add ((x5_1).toNat * 9)).off + 5, none⟩ = some (.bool ((rd_T26 l1 x5_1).f5)) ∧ w'.cell? ⟨(ad406.add ((x5_1).toNat * 9)).block, (ad406.add ((x5_1).toNat * 9)).off + 6, none⟩ = some (.bool ((rd_T26 l1 x5_1).f6)) ∧ w'.cell? ⟨(ad406.add ((x5_1).toNat * 9)).block, (ad406.add ((x5_1).toNat * 9)).off + 7, none⟩ = some (.int .i64 ((rd_T26 l1 x5_1).f7)) ∧ w'.cell? ⟨(ad406.add ((x5_1).toNat * 9)).block, (ad406.add ((x5_1).toNat * 9)).off + 8, none⟩ = some (.slice A406_8 ((rd_T26 l1 x5_1).f8).length c406_8)) (ds := []) #[false, false, false, false, false, false, false, false, false, false] (by kernel_rfl) rfl rfl ⟨((HB.out.cell (World.block_lt_of_cell? w _ hw405_0)).trans hw405_0), ((HB.out.cell (World.block_lt_of_cell? w _ hw405_1)).trans hw405_1), ((HB.out.cell (World.block_lt_of_cell? w _ hw405_2)).trans hw405_2), ((HB.out.cell (World.block_lt_of_cell? w _ hw405_3)).trans hw405_3), ((HB.out.cell (World.block_lt_of_cell? w _ hw405_4)).trans hw405_4), ((HB.out.cell (World.block_lt_of_cell? w _ hw405_5)).trans hw405_5), ((HB.out.cell (World.block_lt_of_cell? w _ hw405_6)).trans hw405_6), ((HB.out.cell (World.block_lt_of_cell? w _ hw405_7)).trans hw405_7), ((HB.out.cell (World.block_lt_of_cell? w _ hw405_8)).trans hw405_8), ((HB.out.cell (World.block_lt_of_cell? w _ hw406_0)).trans hw406_0), ((HB.out.cell (World.block_lt_of_cell? w _ hw406_1)).trans hw406_1), ((HB.out.cell (World.block_lt_of_cell? w _ hw406_2)).trans hw406_2), ((HB.out.cell (World.block_lt_of_cell? w _ hw406_3)).trans hw406_3), ((HB.out.cell (World.block_lt_of_cell? w _ hw406_4)).trans hw406_4), ((HB.out.cell (World.block_lt_of_cell? w _ hw406_5)).trans hw406_5), ((HB.out.cell (World.block_lt_of_cell? w _ hw406_6)).trans hw406_6), ((HB.out.cell (World.block_lt_of_cell? w _ hw406_7)).trans hw406_7), ((HB.out.cell (World.block_lt_of_cell? w _ hw406_8)).trans hw406_8)⟩ (fun hHeld => ?_); refine with_tabW trunklinelaw10_same.tab6 trunklinelaw10_same.bits6 (fun HT_ HW_ => ?_)
       ·generalize wr.drew = w9 at HB HR405_8 HR406_8 hx405_0 hx405_1 hx405_2 hx405_3 hx405_4 hx405_5 hx405_6 hx405_7 hx405_8 hx406_0 hx406_1 hx406_2 hx406_3 hx406_4 hx406_5 hx406_6 hx406_7 hx406_8 hHeld ⊢
        refine pure_ (i := 0) (N := some 17) (v := ?_) (a' := ?_) #[true, false, false, false, false, false, false, false, false, false] rfl rfl (any_of HT_.out (by kernel_rfl)) (fun _ _ _ h => h) (Or.inl ⟨by rfl, ?_⟩) ?_ ?_
        rotate_left
        ·intro w'
         go_simp
         with_reducible rfl
        rotate_left
        ·simp only [Act.put, List.setIfInBounds_toArray, List.set_cons_zero, List.set_cons_succ, i64_w, i32_w]
         rfl
        refine pure_ (i := 1) (N := some 18) (v := ?_) (a' := ?_) #[true, true, false, false, false, false, false, false, false, false] rfl rfl (any_of HT_.out (by kernel_rfl)) (fun _ _ _ h => h) (Or.inl ⟨by rfl, ?_⟩) ?_ ?_
        rotate_left
        ·intro w'
         go_simp
         with_reducible rfl
        rotate_left
        ·simp only [Act.put, List.setIfInBounds_toArray, List.set_cons_zero, List.set_cons_succ, i64_w, i32_w]
         rfl
        refine pure_ (i := 2) (N := some 19) (v := ?_) (a' := ?_) #[true, true, true, false, false, false, false, false, false, false] rfl rfl (any_of HT_.out (by kernel_rfl)) (fun _ _ _ h => h) (Or.inl ⟨by rfl, ?_⟩) ?_ ?_
        rotate_left
        ·intro w'
         go_simp
         with_reducible rfl
        rotate_left
        ·simp only [Act.put, List.setIfInBounds_toArray, List.set_cons_zero, List.set_cons_succ, i64_w, i32_w]
         rfl
        refine pure_ (i := 4) (N := some 21) (v := ?_) (a' := ?_) #[true, true, true, false, true, false, false, false, false, false] rfl rfl (any_of HT_.out (by kernel_rfl)) (fun _ _ _ h => h) (Or.inl ⟨by rfl, ?_⟩) ?_ ?_
        rotate_left
        ·intro w'
         go_simp
         with_reducible rfl
        rotate_left
        ·simp only [Act.put, List.setIfInBounds_toArray, List.set_cons_zero, List.set_cons_succ, i64_w, i32_w]
         rfl
        refine pure_ (i := 5) (N := some 22) (v := ?_) (a' := ?_) #[true, true, true, false, true, true, false, false, false, false] rfl rfl (any_of HT_.out (by kernel_rfl)) (fun _ _ _ h => h) (Or.inl ⟨by rfl, ?_⟩) ?_ ?_
        rotate_left
        ·intro w'
         go_simp
         with_reducible rfl
        rotate_left
        ·simp only [Act.put, List.setIfInBounds_toArray, List.set_cons_zero, List.set_cons_succ, i64_w, i32_w]
         rfl
        refine pure_ (i := 6) (N := some 23) (v := ?_) (a' := ?_) #[true, true, true, false, true, true, true, false, false, false] rfl rfl (any_of HT_.out (by kernel_rfl)) (fun _ _ _ h => h) (Or.inl ⟨by rfl, ?_⟩) ?_ ?_
        rotate_left
        ·intro w'
         go_simp
         with_reducible rfl
        rotate_left
        ·simp only [Act.put, List.setIfInBounds_toArray, List.set_cons_zero, List.set_cons_succ, i64_w, i32_w]
         rfl
        refine take_ (i := 3) (N := some 20) (v := ?_) (a' := ?_) #[true, true, true, true, true, true, true, false, false, false] rfl rfl (take_ofW HT_.out HW_.out (by kernel_rfl)) (fun _ _ _ h => h) (Or.inl ⟨by rfl, ?_⟩) hHeld ?_ ?_
        rotate_left
        ·rintro w' ⟨s0, s1, s2, s3, s4, s5, s6, s7, s8, s9, s10, s11, s12, s13, s14, s15, s16, s17⟩
         go_simp
         with_reducible rfl
        rotate_left
        ·simp only [Act.put, List.setIfInBounds_toArray, List.set_cons_zero, List.set_cons_succ, i64_w, i32_w]
         rfl
        refine take_ (i := 7) (N := some 24) (v := ?_) (a' := ?_) #[true, true, true, true, true, true, true, true, false, false] rfl rfl (take_ofW HT_.out HW_.out (by kernel_rfl)) (fun _ _ _ h => h) (Or.inl ⟨by rfl, ?_⟩) hHeld ?_ ?_
        rotate_left
        ·rintro w' ⟨s0, s1, s2, s3, s4, s5, s6, s7, s8, s9, s10, s11, s12, s13, s14, s15, s16, s17⟩
         go_simp
         with_reducible rfl
        rotate_left
        ·simp only [Act.put, List.setIfInBounds_toArray, List.set_cons_zero, List.set_cons_succ, i64_w, i32_w]
         rfl
        refine one_ (i := 8) (N := some 25) #[true, true, true, true, true, true, true, true, true, false] rfl rfl (one_of HT_.out (by kernel_rfl)) (by decide) (fun K hK => ?_)
        refine goes_ Try.func18 (by kernel_rfl) rfl #[.agg #[.int .u32 ((rd_T26 l0 x5_1).f0), .int .u32 ((rd_T26 l0 x5_1).f1), .int .u8 ((rd_T26 l0 x5_1).f2), .int .u8 ((rd_T26 l0 x5_1).f3), .int .u16 ((rd_T26 l0 x5_1).f4), .bool ((rd_T26 l0 x5_1).f5), .bool ((rd_T26 l0 x5_1).f6), .int .i64 ((rd_T26 l0 x5_1).f7), .slice A405_8 ((rd_T26 l0 x5_1).f8).length c405_8], .agg #[.int .u32 ((rd_T26 l1 x5_1).f0), .int .u32 ((rd_T26 l1 x5_1).f1), .int .u8 ((rd_T26 l1 x5_1).f2), .int .u8 ((rd_T26 l1 x5_1).f3), .int .u16 ((rd_T26 l1 x5_1).f4), .bool ((rd_T26 l1 x5_1).f5), .bool ((rd_T26 l1 x5_1).f6), .int .i64 ((rd_T26 l1 x5_1).f7), .slice A406_8 ((rd_T26 l1 x5_1).f8).length c406_8]] (by rfl) rfl rfl (by (try simp only [List.map_toArray, List.map_cons, List.map_nil]); first | done | rfl | (simp only [List.length_drop, List.length_take]; rfl)) ?_
        with_reducible refine (trunklineref10_Same.calls ((rd_T26 l0 x5_1).f0) ((rd_T26 l0 x5_1).f1) ((rd_T26 l0 x5_1).f2) ((rd_T26 l0 x5_1).f3) ((rd_T26 l0 x5_1).f4) ((rd_T26 l0 x5_1).f5) ((rd_T26 l0 x5_1).f6) ((rd_T26 l0 x5_1).f7) _ _ ((rd_T26 l0 x5_1).f8) ((rd_T26 l1 x5_1).f0) ((rd_T26 l1 x5_1).f1) ((rd_T26 l1 x5_1).f2) ((rd_T26 l1 x5_1).f3) ((rd_T26 l1 x5_1).f4) ((rd_T26 l1 x5_1).f5) ((rd_T26 l1 x5_1).f6) ((rd_T26 l1 x5_1).f7) _ _ ((rd_T26 l1 x5_1).f8) true _ ?side1 ?side2 ?side3 ?side4 A7.out).mono ?_
        (case side1 => repeat (first | exact (Kd.C_below HR405_8.out HB.out) | (with_reducible refine Kd.C_alloc ?_ _) | (with_reducible refine Kd.C_drewN ?_ _) | (with_reducible refine Kd.C_drew ?_)))
        (case side2 => exact HC405_8.out)
        (case side3 => repeat (first | exact (Kd.C_below HR406_8.out HB.out) | (with_reducible refine Kd.C_alloc ?_ _) | (with_reducible refine Kd.C_drewN ?_ _) | (with_reducible refine Kd.C_drew ?_)))
        (case side4 => exact HC406_8.out)
        rintro e w10 ⟨rfl, hb⟩
        refine ⟨_, rfl, ?_⟩
        have n0_ := Aside0.mk (below_step (by repeat (first | (with_reducible first | exact HB.out | apply below_alloc | apply pw_below_drewN | apply below_drew1) | exact HB.out)) hb)
        clear HB
        have HB := n0_
        clear n0_
        (try clear hb)
        (try clear hb2)
        (try clear hk)
        (try clear hi)
        refine hK.out _ _ ⟨((HB.out.cell (World.block_lt_of_cell? w _ hw405_0)).trans hw405_0), ((HB.out.cell (World.block_lt_of_cell? w _ hw405_1)).trans hw405_1), ((HB.out.cell (World.block_lt_of_cell? w _ hw405_2)).trans hw405_2), ((HB.out.cell (World.block_lt_of_cell? w _ hw405_3)).trans hw405_3), ((HB.out.cell (World.block_lt_of_cell? w _ hw405_4)).trans hw405_4), ((HB.out.cell (World.block_lt_of_cell? w _ hw405_5)).trans hw405_5), ((HB.out.cell (World.block_lt_of_cell? w _ hw405_6)).trans hw405_6), ((HB.out.cell (World.block_lt_of_cell? w _ hw405_7)).trans hw405_7), ((HB.out.cell (World.block_lt_of_cell? w _ hw405_8)).trans hw405_8), ((HB.out.cell (World.block_lt_of_cell? w _ hw406_0)).trans hw406_0), ((HB.out.cell (World.block_lt_of_cell? w _ hw406_1)).trans hw406_1), ((HB.out.cell (World.block_lt_of_cell? w _ hw406_2)).trans hw406_2), ((HB.out.cell (World.block_lt_of_cell? w _ hw406_3)).trans hw406_3), ((HB.out.cell (World.block_lt_of_cell? w _ hw406_4)).trans hw406_4), ((HB.out.cell (World.block_lt_of_cell? w _ hw406_5)).trans hw406_5), ((HB.out.cell (World.block_lt_of_cell? w _ hw406_6)).trans hw406_6), ((HB.out.cell (World.block_lt_of_cell? w _ hw406_7)).trans hw406_7), ((HB.out.cell (World.block_lt_of_cell? w _ hw406_8)).trans hw406_8)⟩ (fun hHeld => ?_)
        clear hK K
        refine norm_ (a' := ?_) ?_ ?_
        rotate_left
        ·show Act.put _ (some 25) _ = _
         simp only [Act.put, List.setIfInBounds_toArray, List.set_cons_zero, List.set_cons_succ, i64_w, i32_w]
         rfl
        refine pure_ (i := 9) (N := some 26) (v := ?_) (a' := ?_) #[true, true, true, true, true, true, true, true, true, true] rfl rfl (any_of HT_.out (by kernel_rfl)) (fun _ _ _ h => h) (Or.inl ⟨by rfl, ?_⟩) ?_ ?_
        rotate_left
        ·intro w'
         go_simp
         with_reducible rfl
        rotate_left
        ·simp only [Act.put, List.setIfInBounds_toArray, List.set_cons_zero, List.set_cons_succ, i64_w, i32_w]
         rfl
        refine done_ (done_of HT_.out (by kernel_rfl)) ?_
        try go_wp2
        go_roundg k1
        case measure => have := HK1.out; omega
        case rel => exact ⟨(wrap64 (x5_1 + 1)), (by first | rfl | (simp; done) | (simp [*]; done)), H', ⟨by have := HK1.out; omega⟩, ⟨by repeat (first | (with_reducible first | exact HB.out | apply below_alloc | apply pw_below_drewN | apply below_drew1) | exact HB.out)⟩⟩
       ·generalize wr.drew = w11 at HB HR405_8 HR406_8 hx405_0 hx405_1 hx405_2 hx405_3 hx405_4 hx405_5 hx405_6 hx405_7 hx405_8 hx406_0 hx406_1 hx406_2 hx406_3 hx406_4 hx406_5 hx406_6 hx406_7 hx406_8 hHeld ⊢
        refine pure_ (i := 0) (N := some 17) (v := ?_) (a' := ?_) #[true, false, false, false, false, false, false, false, false, false] rfl rfl (any_of HT_.out (by kernel_rfl)) (fun _ _ _ h => h) (Or.inl ⟨by rfl, ?_⟩) ?_ ?_
        rotate_left
        ·intro w'
         go_simp
         with_reducible rfl
        rotate_left
        ·simp only [Act.put, List.setIfInBounds_toArray, List.set_cons_zero, List.set_cons_succ, i64_w, i32_w]
         rfl
        refine pure_ (i := 1) (N := some 18) (v := ?_) (a' := ?_) #[true, true, false, false, false, false, false, false, false, false] rfl rfl (any_of HT_.out (by kernel_rfl)) (fun _ _ _ h => h) (Or.inl ⟨by rfl, ?_⟩) ?_ ?_
        rotate_left
        ·intro w'
         go_simp
         with_reducible rfl
        rotate_left
        ·simp only [Act.put, List.setIfInBounds_toArray, List.set_cons_zero, List.set_cons_succ, i64_w, i32_w]
         rfl
        refine pure_ (i := 2) (N := some 19) (v := ?_) (a' := ?_) #[true, true, true, false, false, false, false, false, false, false] rfl rfl (any_of HT_.out (by kernel_rfl)) (fun _ _ _ h => h) (Or.inl ⟨by rfl, ?_⟩) ?_ ?_
        rotate_left
        ·intro w'
         go_simp
         with_reducible rfl
        rotate_left
        ·simp only [Act.put, List.setIfInBounds_toArray, List.set_cons_zero, List.set_cons_succ, i64_w, i32_w]
         rfl
        refine pure_ (i := 4) (N := some 21) (v := ?_) (a' := ?_) #[true, true, true, false, true, false, false, false, false, false] rfl rfl (any_of HT_.out (by kernel_rfl)) (fun _ _ _ h => h) (Or.inl ⟨by rfl, ?_⟩) ?_ ?_
        rotate_left
        ·intro w'
         go_simp
         with_reducible rfl
        rotate_left
        ·simp only [Act.put, List.setIfInBounds_toArray, List.set_cons_zero, List.set_cons_succ, i64_w, i32_w]
         rfl
        refine pure_ (i := 5) (N := some 22) (v := ?_) (a' := ?_) #[true, true, true, false, true, true, false, false, false, false] rfl rfl (any_of HT_.out (by kernel_rfl)) (fun _ _ _ h => h) (Or.inl ⟨by rfl, ?_⟩) ?_ ?_
        rotate_left
        ·intro w'
         go_simp
         with_reducible rfl
        rotate_left
        ·simp only [Act.put, List.setIfInBounds_toArray, List.set_cons_zero, List.set_cons_succ, i64_w, i32_w]
         rfl
        refine pure_ (i := 6) (N := some 23) (v := ?_) (a' := ?_) #[true, true, true, false, true, true, true, false, false, false] rfl rfl (any_of HT_.out (by kernel_rfl)) (fun _ _ _ h => h) (Or.inl ⟨by rfl, ?_⟩) ?_ ?_
        rotate_left
        ·intro w'
         go_simp
         with_reducible rfl
        rotate_left
        ·simp only [Act.put, List.setIfInBounds_toArray, List.set_cons_zero, List.set_cons_succ, i64_w, i32_w]
         rfl
        refine take_ (i := 3) (N := some 20) (v := ?_) (a' := ?_) #[true, true, true, true, true, true, true, false, false, false] rfl rfl (take_ofW HT_.out HW_.out (by kernel_rfl)) (fun _ _ _ h => h) (Or.inl ⟨by rfl, ?_⟩) hHeld ?_ ?_
        rotate_left
        ·rintro w' ⟨s0, s1, s2, s3, s4, s5, s6, s7, s8, s9, s10, s11, s12, s13, s14, s15, s16, s17⟩
         go_simp
         with_reducible rfl
        rotate_left
        ·simp only [Act.put, List.setIfInBounds_toArray, List.set_cons_zero, List.set_cons_succ, i64_w, i32_w]
         rfl
        refine take_ (i := 7) (N := some 24) (v := ?_) (a' := ?_) #[true, true, true, true, true, true, true, true, false, false] rfl rfl (take_ofW HT_.out HW_.out (by kernel_rfl)) (fun _ _ _ h => h) (Or.inl ⟨by rfl, ?_⟩) hHeld ?_ ?_
        rotate_left
        ·rintro w' ⟨s0, s1, s2, s3, s4, s5, s6, s7, s8, s9, s10, s11, s12, s13, s14, s15, s16, s17⟩
         go_simp
         with_reducible rfl
        rotate_left
        ·simp only [Act.put, List.setIfInBounds_toArray, List.set_cons_zero, List.set_cons_succ, i64_w, i32_w]
         rfl
        refine one_ (i := 8) (N := some 25) #[true, true, true, true, true, true, true, true, true, false] rfl rfl (one_of HT_.out (by kernel_rfl)) (by decide) (fun K hK => ?_)
        refine goes_ Try.func18 (by kernel_rfl) rfl #[.agg #[.int .u32 ((rd_T26 l0 x5_1).f0), .int .u32 ((rd_T26 l0 x5_1).f1), .int .u8 ((rd_T26 l0 x5_1).f2), .int .u8 ((rd_T26 l0 x5_1).f3), .int .u16 ((rd_T26 l0 x5_1).f4), .bool ((rd_T26 l0 x5_1).f5), .bool ((rd_T26 l0 x5_1).f6), .int .i64 ((rd_T26 l0 x5_1).f7), .slice A405_8 ((rd_T26 l0 x5_1).f8).length c405_8], .agg #[.int .u32 ((rd_T26 l1 x5_1).f0), .int .u32 ((rd_T26 l1 x5_1).f1), .int .u8 ((rd_T26 l1 x5_1).f2), .int .u8 ((rd_T26 l1 x5_1).f3), .int .u16 ((rd_T26 l1 x5_1).f4), .bool ((rd_T26 l1 x5_1).f5), .bool ((rd_T26 l1 x5_1).f6), .int .i64 ((rd_T26 l1 x5_1).f7), .slice A406_8 ((rd_T26 l1 x5_1).f8).length c406_8]] (by rfl) rfl rfl (by (try simp only [List.map_toArray, List.map_cons, List.map_nil]); first | done | rfl | (simp only [List.length_drop, List.length_take]; rfl)) ?_
        with_reducible refine (trunklineref10_Same.calls ((rd_T26 l0 x5_1).f0) ((rd_T26 l0 x5_1).f1) ((rd_T26 l0 x5_1).f2) ((rd_T26 l0 x5_1).f3) ((rd_T26 l0 x5_1).f4) ((rd_T26 l0 x5_1).f5) ((rd_T26 l0 x5_1).f6) ((rd_T26 l0 x5_1).f7) _ _ ((rd_T26 l0 x5_1).f8) ((rd_T26 l1 x5_1).f0) ((rd_T26 l1 x5_1).f1) ((rd_T26 l1 x5_1).f2) ((rd_T26 l1 x5_1).f3) ((rd_T26 l1 x5_1).f4) ((rd_T26 l1 x5_1).f5) ((rd_T26 l1 x5_1).f6) ((rd_T26 l1 x5_1).f7) _ _ ((rd_T26 l1 x5_1).f8) false _ ?side1 ?side2 ?side3 ?side4 A7.out).mono ?_
        (case side1 => repeat (first | exact (Kd.C_below HR405_8.out HB.out) | (with_reducible refine Kd.C_alloc ?_ _) | (with_reducible refine Kd.C_drewN ?_ _) | (with_reducible refine Kd.C_drew ?_)))
        (case side2 => exact HC405_8.out)
        (case side3 => repeat (first | exact (Kd.C_below HR406_8.out HB.out) | (with_reducible refine Kd.C_alloc ?_ _) | (with_reducible refine Kd.C_drewN ?_ _) | (with_reducible refine Kd.C_drew ?_)))
        (case side4 => exact HC406_8.out)
        rintro e w12 ⟨rfl, hb⟩
        refine ⟨_, rfl, ?_⟩
        have n0_ := Aside0.mk (below_step (by repeat (first | (with_reducible first | exact HB.out | apply below_alloc | apply pw_below_drewN | apply below_drew1) | exact HB.out)) hb)
        clear HB
        have HB := n0_
        clear n0_
        (try clear hb)
        (try clear hb2)
        (try clear hk)
        (try clear hi)
        refine hK.out _ _ ⟨((HB.out.cell (World.block_lt_of_cell? w _ hw405_0)).trans hw405_0), ((HB.out.cell (World.block_lt_of_cell? w _ hw405_1)).trans hw405_1), ((HB.out.cell (World.block_lt_of_cell? w _ hw405_2)).trans hw405_2), ((HB.out.cell (World.block_lt_of_cell? w _ hw405_3)).trans hw405_3), ((HB.out.cell (World.block_lt_of_cell? w _ hw405_4)).trans hw405_4), ((HB.out.cell (World.block_lt_of_cell? w _ hw405_5)).trans hw405_5), ((HB.out.cell (World.block_lt_of_cell? w _ hw405_6)).trans hw405_6), ((HB.out.cell (World.block_lt_of_cell? w _ hw405_7)).trans hw405_7), ((HB.out.cell (World.block_lt_of_cell? w _ hw405_8)).trans hw405_8), ((HB.out.cell (World.block_lt_of_cell? w _ hw406_0)).trans hw406_0), ((HB.out.cell (World.block_lt_of_cell? w _ hw406_1)).trans hw406_1), ((HB.out.cell (World.block_lt_of_cell? w _ hw406_2)).trans hw406_2), ((HB.out.cell (World.block_lt_of_cell? w _ hw406_3)).trans hw406_3), ((HB.out.cell (World.block_lt_of_cell? w _ hw406_4)).trans hw406_4), ((HB.out.cell (World.block_lt_of_cell? w _ hw406_5)).trans hw406_5), ((HB.out.cell (World.block_lt_of_cell? w _ hw406_6)).trans hw406_6), ((HB.out.cell (World.block_lt_of_cell? w _ hw406_7)).trans hw406_7), ((HB.out.cell (World.block_lt_of_cell? w _ hw406_8)).trans hw406_8)⟩ (fun hHeld => ?_)
        clear hK K
        refine norm_ (a' := ?_) ?_ ?_
        rotate_left
        ·show Act.put _ (some 25) _ = _
         simp only [Act.put, List.setIfInBounds_toArray, List.set_cons_zero, List.set_cons_succ, i64_w, i32_w]
         rfl
        refine pure_ (i := 9) (N := some 26) (v := ?_) (a' := ?_) #[true, true, true, true, true, true, true, true, true, true] rfl rfl (any_of HT_.out (by kernel_rfl)) (fun _ _ _ h => h) (Or.inl ⟨by rfl, ?_⟩) ?_ ?_
        rotate_left
        ·intro w'
         go_simp
         with_reducible rfl
        rotate_left
        ·simp only [Act.put, List.setIfInBounds_toArray, List.set_cons_zero, List.set_cons_succ, i64_w, i32_w]
         rfl
        refine done_ (done_of HT_.out (by kernel_rfl)) ?_
        try go_wp2
        go_ret
        exact ⟨by first | rfl | (simp [errW_none, errW_some] <;> rfl) | (simp [*, errW_none, errW_some] <;> rfl), by repeat (first | (with_reducible first | exact HB.out | apply below_alloc | apply pw_below_drewN | apply below_drew1) | exact HB.out)⟩
      ·rw [if_neg c6] at H
       exact absurd H (by simp)
     ·rw [if_neg c5] at H
      exact absurd H (by simp)
    ·rw [if_neg c4] at H
     have c4b0 : decide (x5_1 < (l0.length : Int)) = false := decide_eq_false c4
     clear c4
     obtain rfl := Option.some.inj H
     go_wp2
     go_ret
     exact ⟨by first | rfl | (simp [errW_none, errW_some] <;> rfl) | (simp [*, errW_none, errW_some] <;> rfl), by repeat (first | (with_reducible first | exact HB.out | apply below_alloc | apply pw_below_drewN | apply below_drew1) | exact HB.out)⟩
 ·rw [if_neg c3] at H
  have c3b0 : ((l0.length : Int) == (l1.length : Int)) = false := beq_eq_false_iff_ne.mpr c3
  have c3b1 : ((l0.length : Int) != (l1.length : Int)) = true := bne_iff_ne.mpr c3
  have c3b2 : (l0.length == l1.length) = false := by first | simpa using c3 | (simp at c3 ⊢; omega)
  obtain rfl := Option.some.inj H
  go_enter Try.func21, Try.ntmps21
  go_wp2
  go_ret
  exact ⟨by first | rfl | (simp [errW_none, errW_some] <;> rfl) | (simp [*, errW_none, errW_some] <;> rfl), by repeat (first | (with_reducible first | exact HB.out | apply below_alloc | apply pw_below_drewN | apply below_drew1) | exact HB.out)⟩

end Go.Proofs.Ytdligcofjfdhbaa.M
