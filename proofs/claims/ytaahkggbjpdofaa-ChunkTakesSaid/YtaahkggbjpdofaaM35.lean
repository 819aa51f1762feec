-- Printed by this session's mp.py over the kit's print (turned in memory). Not trusted: Lean checks it.
import Derived.Test.YtaahkggbjpdofaaM0
import Derived.Test.YtaahkggbjpdofaaM33
import Derived.Test.YtaahkggbjpdofaaHReadF
import Derived.Test.YtaahkggbjpdofaaM20
import Derived.WalkSpells
import Derived.LoopN
import Derived.Deep.RegionWith
import Derived.Deep.RegionLaw
section
namespace Go.Proofs.Ytaahkggbjpdofaa.M
open Go.RowKit Go.Proofs.YtaahkggbjpdofaaW.PrintWords Go.Proofs.YtaahkggbjpdofaaW.PrintLast Go.Proofs.YtaahkggbjpdofaaW.PrintMore
attribute [local go_sem] max2_int min2_int max_two min_two max_three min_three max_four min_four   -- for this text's walks alone
set_option linter.unusedVariables false
set_option linter.unusedSimpArgs false

/-! ### trunklineref12_isBare: function 61 -/
def trunklineref12_isBare.f (a0 : Int) : Option (Bool) := if a0 = 8 then (some true) else (if a0 = 11 then (some true) else (some (a0 == 14)))
set_option maxHeartbeats 8000000 in
set_option maxRecDepth 100000 in
theorem trunklineref12_isBare.calls (a0 : Int) (r : Bool) (w : World) (h : trunklineref12_isBare.f a0 = some r) :
  Calls Try.prog 61 #[.int .u8 a0] w fun e w' => e = .returned (.bool r) ∧ Drawn0 w w' := by
 have H : (if a0 = 8 then (some true) else (if a0 = 11 then (some true) else (some (a0 == 14)))) = some r := h
 clear h
 by_cases c2 : a0 = 8
 ·rw [if_pos c2] at H
  have c2b0 : (a0 == 8) = true := beq_iff_eq.mpr c2
  have c2b1 : (a0 != 8) = false := bne_eq_false_iff_eq.mpr c2
  clear c2
  obtain rfl := Option.some.inj H
  go_enter Try.func61, Try.ntmps61
  go_wp2
  go_ret
  exact ⟨by first | rfl | (simp; done) | (simp [*]; done), by repeat (first | exact Drawn0.refl _ | apply Drawn0.step)⟩
 ·rw [if_neg c2] at H
  have c2b0 : (a0 == 8) = false := beq_eq_false_iff_ne.mpr c2
  have c2b1 : (a0 != 8) = true := bne_iff_ne.mpr c2
  by_cases c3 : a0 = 11
  ·rw [if_pos c3] at H
   have c3b0 : (a0 == 11) = true := beq_iff_eq.mpr c3
   have c3b1 : (a0 != 11) = false := bne_eq_false_iff_eq.mpr c3
   clear c3
   obtain rfl := Option.some.inj H
   go_enter Try.func61, Try.ntmps61
   go_wp2
   go_ret
   exact ⟨by first | rfl | (simp; done) | (simp [*]; done), by repeat (first | exact Drawn0.refl _ | apply Drawn0.step)⟩
  ·rw [if_neg c3] at H
   have c3b0 : (a0 == 11) = false := beq_eq_false_iff_ne.mpr c3
   have c3b1 : (a0 != 11) = true := bne_iff_ne.mpr c3
   obtain rfl := Option.some.inj H
   go_enter Try.func61, Try.ntmps61
   go_wp2
   go_ret
   exact ⟨by first | rfl | (simp; done) | (simp [*]; done), by repeat (first | exact Drawn0.refl _ | apply Drawn0.step)⟩

end Go.Proofs.Ytaahkggbjpdofaa.M
end
section
namespace Go.Proofs.Ytaahkggbjpdofaa.M
open Go.RowKit Go.Proofs.YtaahkggbjpdofaaW.PrintWords Go.Proofs.YtaahkggbjpdofaaW.PrintLast Go.Proofs.YtaahkggbjpdofaaW.PrintMore
attribute [local go_sem] max2_int min2_int max_two min_two max_three min_three max_four min_four   -- for this text's walks alone
set_option linter.unusedVariables false
set_option linter.unusedSimpArgs false

/-! ### trunklineref12_least: function 60 -/
def trunklineref12_least.j0 : Nat → Int → Bool → Option (Int)
 | 0, _, _ => none
 | k + 1, x3, x6 => if x6 = true then (some 16) else (if x3 = 3 then (some 12) else (if x3 = 7 then (some 4) else (some 0)))
def trunklineref12_least.f (k : Nat) (a0 : Int) : Option (Int) := if a0 = 0 then (some 13) else (if a0 = 1 then (trunklineref12_least.j0 k a0 (a0 == 1)) else (trunklineref12_least.j0 k a0 (a0 == 2)))
set_option maxHeartbeats 8000000 in
set_option maxRecDepth 100000 in
theorem trunklineref12_least.calls (k : Nat) (a0 : Int) (r : Int) (w : World) (h : trunklineref12_least.f k a0 = some r) :
  Calls Try.prog 60 #[.int .u8 a0] w fun e w' => e = .returned (.int .i64 r) ∧ Drawn0 w w' := by
 have H : (if a0 = 0 then (some 13) else (if a0 = 1 then (trunklineref12_least.j0 k a0 (a0 == 1)) else (trunklineref12_least.j0 k a0 (a0 == 2)))) = some r := h
 clear h
 by_cases c2 : a0 = 0
 ·rw [if_pos c2] at H
  have c2b0 : (a0 == 0) = true := beq_iff_eq.mpr c2
  have c2b1 : (a0 != 0) = false := bne_eq_false_iff_eq.mpr c2
  clear c2
  obtain rfl := Option.some.inj H
  go_enter Try.func60, Try.ntmps60
  go_wp2
  go_ret
  exact ⟨by first | rfl | (simp; done) | (simp [*]; done), by repeat (first | exact Drawn0.refl _ | apply Drawn0.step)⟩
 ·rw [if_neg c2] at H
  have c2b0 : (a0 == 0) = false := beq_eq_false_iff_ne.mpr c2
  have c2b1 : (a0 != 0) = true := bne_iff_ne.mpr c2
  have HC3 := Aside0.mk H
  clear H
  go_enter Try.func60, Try.ntmps60
  go_upto_if 6 with (fail)
  go_cut [6] (fun v6 wc => ∃ (kq : Nat) (x6_2 : Bool), v6 = .bool x6_2 ∧ Aside0 (trunklineref12_least.j0 kq a0 x6_2 = some r) ∧ Aside0 (kq ≤ k) ∧ Drawn0 w wc)
  case first =>
   have H := HC3.out
   clear HC3
   by_cases c4 : a0 = 1
   ·rw [if_pos c4] at H
    have c4b0 : (a0 == 1) = true := beq_iff_eq.mpr c4
    have c4b1 : (a0 != 1) = false := bne_eq_false_iff_eq.mpr c4
    clear c4
    (first | rw [c4b0] | (simp only [i64_w, i32_w]; rw [c4b0]) | skip)
    have H' := Aside0.mk H
    clear H
    go_wp2
    go_meet
    case rel => exact ⟨_, ((a0 == 1)), (by first | rfl | (simp; done) | (simp [*]; done)), H', ⟨by first | omega | exact Nat.le_refl _⟩, by repeat (first | exact Drawn0.refl _ | apply Drawn0.step)⟩
   ·rw [if_neg c4] at H
    have c4b0 : (a0 == 1) = false := beq_eq_false_iff_ne.mpr c4
    have c4b1 : (a0 != 1) = true := bne_iff_ne.mpr c4
    (first | rw [c4b0] | (simp only [i64_w, i32_w]; rw [c4b0]) | skip)
    have H' := Aside0.mk H
    clear H
    go_wp2
    go_meet
    case rel => exact ⟨_, ((a0 == 2)), (by first | rfl | (simp; done) | (simp [*]; done)), H', ⟨by first | omega | exact Nat.le_refl _⟩, by repeat (first | exact Drawn0.refl _ | apply Drawn0.step)⟩
  case rest =>
   clear HC3
   try clear c2
   try clear c2b0
   try clear c2b1
   try clear p2
   try clear c4
   try clear c4b0
   try clear c4b1
   obtain ⟨kq, x6_2, rfl, HA, HJ2, ⟨mc2, rfl⟩⟩ := hcut
   cases kq with
   | zero => exact absurd HA.out (by simp [trunklineref12_least.j0])
   | succ kj2 =>
    have H := HA.out
    clear HA
    simp only [trunklineref12_least.j0] at H
    by_cases c5 : x6_2 = true
    ·subst c5
     have H1 : (some 16) = some r := by rw [if_pos rfl] at H; exact H
     clear H
     have H := H1
     clear H1
     obtain rfl := Option.some.inj H
     go_wp2
     go_ret
     exact ⟨by first | rfl | (simp; done) | (simp [*]; done), by repeat (first | exact Drawn0.refl _ | apply Drawn0.step)⟩
    ·replace c5 := Bool.eq_false_iff.mpr c5
     subst c5
     have H1 : (if a0 = 3 then (some 12) else (if a0 = 7 then (some 4) else (some 0))) = some r := by rw [if_neg (show ¬ (false = true) by decide)] at H; exact H
     clear H
     have H := H1
     clear H1
     by_cases c6 : a0 = 3
     ·rw [if_pos c6] at H
      have c6b0 : (a0 == 3) = true := beq_iff_eq.mpr c6
      have c6b1 : (a0 != 3) = false := bne_eq_false_iff_eq.mpr c6
      clear c6
      obtain rfl := Option.some.inj H
      go_wp2
      go_ret
      exact ⟨by first | rfl | (simp; done) | (simp [*]; done), by repeat (first | exact Drawn0.refl _ | apply Drawn0.step)⟩
     ·rw [if_neg c6] at H
      have c6b0 : (a0 == 3) = false := beq_eq_false_iff_ne.mpr c6
      have c6b1 : (a0 != 3) = true := bne_iff_ne.mpr c6
      by_cases c7 : a0 = 7
      ·rw [if_pos c7] at H
       have c7b0 : (a0 == 7) = true := beq_iff_eq.mpr c7
       have c7b1 : (a0 != 7) = false := bne_eq_false_iff_eq.mpr c7
       clear c7
       obtain rfl := Option.some.inj H
       go_wp2
       go_ret
       exact ⟨by first | rfl | (simp; done) | (simp [*]; done), by repeat (first | exact Drawn0.refl _ | apply Drawn0.step)⟩
      ·rw [if_neg c7] at H
       have c7b0 : (a0 == 7) = false := beq_eq_false_iff_ne.mpr c7
       have c7b1 : (a0 != 7) = true := bne_iff_ne.mpr c7
       obtain rfl := Option.some.inj H
       go_wp2
       go_ret
       exact ⟨by first | rfl | (simp; done) | (simp [*]; done), by repeat (first | exact Drawn0.refl _ | apply Drawn0.step)⟩

end Go.Proofs.Ytaahkggbjpdofaa.M
end
section
/- The document's One: a chunk of its kind, its flags and its value: each class of kinds as the program's reader (oneV). -/
namespace Go.Proofs.Ytaahkggbjpdofaa.M
open Go.RowKit Go.Proofs.YtaahkggbjpdofaaW.PrintWords Go.Proofs.YtaahkggbjpdofaaW.PrintLast Go.Proofs.YtaahkggbjpdofaaW.PrintMore
open Go.Proofs.Ytaahkggbjpdofaa.Pure
set_option linter.unusedVariables false
set_option linter.unusedSimpArgs false
theorem oneC14 {w : World} {g t : Nat} {v0 v1 v2 v3 v4 v5 v6 v7 v8 v9 v10 v11 v12 v13 : Value} (h : w.heap[g]? = some (.cells #[v0, v1, v2, v3, v4, v5, v6, v7, v8, v9, v10, v11, v12, v13] t (0, 0))) : (w.cell? ⟨g, 0, none⟩ = some v0 ∧ w.cell? ⟨g, 1, none⟩ = some v1 ∧ w.cell? ⟨g, 2, none⟩ = some v2 ∧ w.cell? ⟨g, 3, none⟩ = some v3 ∧ w.cell? ⟨g, 4, none⟩ = some v4 ∧ w.cell? ⟨g, 5, none⟩ = some v5 ∧ w.cell? ⟨g, 6, none⟩ = some v6 ∧ w.cell? ⟨g, 7, none⟩ = some v7 ∧ w.cell? ⟨g, 8, none⟩ = some v8 ∧ w.cell? ⟨g, 9, none⟩ = some v9 ∧ w.cell? ⟨g, 10, none⟩ = some v10 ∧ w.cell? ⟨g, 11, none⟩ = some v11 ∧ w.cell? ⟨g, 12, none⟩ = some v12 ∧ w.cell? ⟨g, 13, none⟩ = some v13) ∧ (w.frozen? ⟨g, 0, none⟩ = false ∧ w.frozen? ⟨g, 1, none⟩ = false ∧ w.frozen? ⟨g, 2, none⟩ = false ∧ w.frozen? ⟨g, 3, none⟩ = false ∧ w.frozen? ⟨g, 4, none⟩ = false ∧ w.frozen? ⟨g, 5, none⟩ = false ∧ w.frozen? ⟨g, 6, none⟩ = false ∧ w.frozen? ⟨g, 7, none⟩ = false ∧ w.frozen? ⟨g, 8, none⟩ = false ∧ w.frozen? ⟨g, 9, none⟩ = false ∧ w.frozen? ⟨g, 10, none⟩ = false ∧ w.frozen? ⟨g, 11, none⟩ = false ∧ w.frozen? ⟨g, 12, none⟩ = false ∧ w.frozen? ⟨g, 13, none⟩ = false) :=
  ⟨⟨(blk_cell h 0).trans rfl, (blk_cell h 1).trans rfl, (blk_cell h 2).trans rfl, (blk_cell h 3).trans rfl, (blk_cell h 4).trans rfl, (blk_cell h 5).trans rfl, (blk_cell h 6).trans rfl, (blk_cell h 7).trans rfl, (blk_cell h 8).trans rfl, (blk_cell h 9).trans rfl, (blk_cell h 10).trans rfl, (blk_cell h 11).trans rfl, (blk_cell h 12).trans rfl, (blk_cell h 13).trans rfl⟩, ⟨blk_frozen h 0, blk_frozen h 1, blk_frozen h 2, blk_frozen h 3, blk_frozen h 4, blk_frozen h 5, blk_frozen h 6, blk_frozen h 7, blk_frozen h 8, blk_frozen h 9, blk_frozen h 10, blk_frozen h 11, blk_frozen h 12, blk_frozen h 13⟩⟩
/-- Where One stands: the chunk's block, the result's, and what was ahead. -/
structure OneAt (w W : World) (p6 p8 : Nat) (cs : Array Value) : Prop where
  b8 : W.heap[p8]? = some (.cells cs 29 (0, 0))
  b6 : W.heap[p6]? = some (.cells #[.int .u8 0, .int .u8 0, .int .u32 0, .int .u16 0, .int .u16 0, .int .u32 0, .int .u32 0, .int .u32 0, .int .u16 0, .int .u16 0, .slice none 0 0, .slice none 0 0, .slice none 0 0, .slice none 0 0] 29 (0, 0))
  bel : Below w.heap.size w W
  ge6 : w.heap.size ≤ p6
  ge8 : w.heap.size ≤ p8
  ne : p6 ≠ p8
theorem OneAt.put {w W : World} {p6 p8 : Nat} {cs cs' : Array Value} (h : OneAt w W p6 p8 cs) (i : Nat) (u : Value) (e : cs.setIfInBounds i u = cs') : OneAt w (W.setCell ⟨p8, i, none⟩ u) p6 p8 cs' :=
  ⟨blk_put h.b8 i u e, blk_far (p := ⟨p8, i, none⟩) h.b6 h.ne u, below_set h.bel h.ge8, h.ge6, h.ge8, h.ne⟩
theorem OneAt.next {w W W' : World} {p6 p8 : Nat} {cs : Array Value} (h : OneAt w W p6 p8 cs) (hb : Below W.heap.size W W') : OneAt w W' p6 p8 cs :=
  ⟨blk_below h.b8 hb, blk_below h.b6 hb, below_step h.bel hb, h.ge6, h.ge8, h.ne⟩
theorem OneAt.alloc {w W : World} {p6 p8 : Nat} {cs : Array Value} (h : OneAt w W p6 p8 cs) (o : Obj) : OneAt w (W.alloc o) p6 p8 cs :=
  ⟨blk_alloc h.b8 o, blk_alloc h.b6 o, below_alloc h.bel o, h.ge6, h.ge8, h.ne⟩
theorem OneAt.grown {w W W' : World} {p6 p8 : Nat} {cs : Array Value} {row : Option Nat} (h : OneAt w W p6 p8 cs) (hg : W.grownBy W' row) (hB : Below w.heap.size w W') (h6 : some p6 ≠ row) (h8 : some p8 ≠ row) : OneAt w W' p6 p8 cs :=
  ⟨blk_grown h.b8 hg h8, blk_grown h.b6 hg h6, hB, h.ge6, h.ge8, h.ne⟩
theorem OneAt.start {w W : World} {p6 p8 : Nat} {c0 c1 c2 c3 c4 c5 c6 c7 c8 c9 c10 c11 c12 c13 v0 v1 v2 v3 v4 v5 v6 v7 v8 v9 v10 v11 v12 v13 : Value} (h8 : W.heap[p8]? = some (.cells #[c0, c1, c2, c3, c4, c5, c6, c7, c8, c9, c10, c11, c12, c13] 29 (0, 0))) (h6 : W.heap[p6]? = some (.cells #[.int .u8 0, .int .u8 0, .int .u32 0, .int .u16 0, .int .u16 0, .int .u32 0, .int .u32 0, .int .u32 0, .int .u16 0, .int .u16 0, .slice none 0 0, .slice none 0 0, .slice none 0 0, .slice none 0 0] 29 (0, 0))) (hb : Below w.heap.size w W) (g6 : w.heap.size ≤ p6) (g8 : w.heap.size ≤ p8) (ne : p6 ≠ p8) : OneAt w (((((((((((((((W).setCell ⟨p8, 0, none⟩ v0).setCell ⟨p8, 1, none⟩ v1).setCell ⟨p8, 2, none⟩ v2).setCell ⟨p8, 3, none⟩ v3).setCell ⟨p8, 4, none⟩ v4).setCell ⟨p8, 5, none⟩ v5).setCell ⟨p8, 6, none⟩ v6).setCell ⟨p8, 7, none⟩ v7).setCell ⟨p8, 8, none⟩ v8).setCell ⟨p8, 9, none⟩ v9).setCell ⟨p8, 10, none⟩ v10).setCell ⟨p8, 11, none⟩ v11).setCell ⟨p8, 12, none⟩ v12).setCell ⟨p8, 13, none⟩ v13) p6 p8 #[v0, v1, v2, v3, v4, v5, v6, v7, v8, v9, v10, v11, v12, v13] := by
  refine OneAt.put (cs := #[v0, v1, v2, v3, v4, v5, v6, v7, v8, v9, v10, v11, v12, c13]) ?_ 13 _ rfl
  refine OneAt.put (cs := #[v0, v1, v2, v3, v4, v5, v6, v7, v8, v9, v10, v11, c12, c13]) ?_ 12 _ rfl
  refine OneAt.put (cs := #[v0, v1, v2, v3, v4, v5, v6, v7, v8, v9, v10, c11, c12, c13]) ?_ 11 _ rfl
  refine OneAt.put (cs := #[v0, v1, v2, v3, v4, v5, v6, v7, v8, v9, c10, c11, c12, c13]) ?_ 10 _ rfl
  refine OneAt.put (cs := #[v0, v1, v2, v3, v4, v5, v6, v7, v8, c9, c10, c11, c12, c13]) ?_ 9 _ rfl
  refine OneAt.put (cs := #[v0, v1, v2, v3, v4, v5, v6, v7, c8, c9, c10, c11, c12, c13]) ?_ 8 _ rfl
  refine OneAt.put (cs := #[v0, v1, v2, v3, v4, v5, v6, c7, c8, c9, c10, c11, c12, c13]) ?_ 7 _ rfl
  refine OneAt.put (cs := #[v0, v1, v2, v3, v4, v5, c6, c7, c8, c9, c10, c11, c12, c13]) ?_ 6 _ rfl
  refine OneAt.put (cs := #[v0, v1, v2, v3, v4, c5, c6, c7, c8, c9, c10, c11, c12, c13]) ?_ 5 _ rfl
  refine OneAt.put (cs := #[v0, v1, v2, v3, c4, c5, c6, c7, c8, c9, c10, c11, c12, c13]) ?_ 4 _ rfl
  refine OneAt.put (cs := #[v0, v1, v2, c3, c4, c5, c6, c7, c8, c9, c10, c11, c12, c13]) ?_ 3 _ rfl
  refine OneAt.put (cs := #[v0, v1, c2, c3, c4, c5, c6, c7, c8, c9, c10, c11, c12, c13]) ?_ 2 _ rfl
  refine OneAt.put (cs := #[v0, c1, c2, c3, c4, c5, c6, c7, c8, c9, c10, c11, c12, c13]) ?_ 1 _ rfl
  refine OneAt.put (cs := #[c0, c1, c2, c3, c4, c5, c6, c7, c8, c9, c10, c11, c12, c13]) ?_ 0 _ rfl
  exact ⟨h8, h6, hb, g6, g8, ne⟩
/-- The chunk stored into the result's block. -/
theorem OneAt.put6 {w W : World} {p6 p8 : Nat} {cs : Array Value} {v0 v1 v2 v3 v4 v5 v6 v7 v8 v9 v10 v11 v12 v13 : Value} (h : OneAt w W p6 p8 cs) : (((((((((((((((W).setCell ⟨p6, 0, none⟩ v0).setCell ⟨p6, 1, none⟩ v1).setCell ⟨p6, 2, none⟩ v2).setCell ⟨p6, 3, none⟩ v3).setCell ⟨p6, 4, none⟩ v4).setCell ⟨p6, 5, none⟩ v5).setCell ⟨p6, 6, none⟩ v6).setCell ⟨p6, 7, none⟩ v7).setCell ⟨p6, 8, none⟩ v8).setCell ⟨p6, 9, none⟩ v9).setCell ⟨p6, 10, none⟩ v10).setCell ⟨p6, 11, none⟩ v11).setCell ⟨p6, 12, none⟩ v12).setCell ⟨p6, 13, none⟩ v13).heap[p6]? = some (.cells #[v0, v1, v2, v3, v4, v5, v6, v7, v8, v9, v10, v11, v12, v13] 29 (0, 0)) ∧ Below w.heap.size w (((((((((((((((W).setCell ⟨p6, 0, none⟩ v0).setCell ⟨p6, 1, none⟩ v1).setCell ⟨p6, 2, none⟩ v2).setCell ⟨p6, 3, none⟩ v3).setCell ⟨p6, 4, none⟩ v4).setCell ⟨p6, 5, none⟩ v5).setCell ⟨p6, 6, none⟩ v6).setCell ⟨p6, 7, none⟩ v7).setCell ⟨p6, 8, none⟩ v8).setCell ⟨p6, 9, none⟩ v9).setCell ⟨p6, 10, none⟩ v10).setCell ⟨p6, 11, none⟩ v11).setCell ⟨p6, 12, none⟩ v12).setCell ⟨p6, 13, none⟩ v13) := by
  have h6 := h.b6
  refine ⟨?_, ?_⟩
  · refine blk_put (cs := #[v0, v1, v2, v3, v4, v5, v6, v7, v8, v9, v10, v11, v12, .slice none 0 0]) ?_ 13 _ rfl
    refine blk_put (cs := #[v0, v1, v2, v3, v4, v5, v6, v7, v8, v9, v10, v11, .slice none 0 0, .slice none 0 0]) ?_ 12 _ rfl
    refine blk_put (cs := #[v0, v1, v2, v3, v4, v5, v6, v7, v8, v9, v10, .slice none 0 0, .slice none 0 0, .slice none 0 0]) ?_ 11 _ rfl
    refine blk_put (cs := #[v0, v1, v2, v3, v4, v5, v6, v7, v8, v9, .slice none 0 0, .slice none 0 0, .slice none 0 0, .slice none 0 0]) ?_ 10 _ rfl
    refine blk_put (cs := #[v0, v1, v2, v3, v4, v5, v6, v7, v8, .int .u16 0, .slice none 0 0, .slice none 0 0, .slice none 0 0, .slice none 0 0]) ?_ 9 _ rfl
    refine blk_put (cs := #[v0, v1, v2, v3, v4, v5, v6, v7, .int .u16 0, .int .u16 0, .slice none 0 0, .slice none 0 0, .slice none 0 0, .slice none 0 0]) ?_ 8 _ rfl
    refine blk_put (cs := #[v0, v1, v2, v3, v4, v5, v6, .int .u32 0, .int .u16 0, .int .u16 0, .slice none 0 0, .slice none 0 0, .slice none 0 0, .slice none 0 0]) ?_ 7 _ rfl
    refine blk_put (cs := #[v0, v1, v2, v3, v4, v5, .int .u32 0, .int .u32 0, .int .u16 0, .int .u16 0, .slice none 0 0, .slice none 0 0, .slice none 0 0, .slice none 0 0]) ?_ 6 _ rfl
    refine blk_put (cs := #[v0, v1, v2, v3, v4, .int .u32 0, .int .u32 0, .int .u32 0, .int .u16 0, .int .u16 0, .slice none 0 0, .slice none 0 0, .slice none 0 0, .slice none 0 0]) ?_ 5 _ rfl
    refine blk_put (cs := #[v0, v1, v2, v3, .int .u16 0, .int .u32 0, .int .u32 0, .int .u32 0, .int .u16 0, .int .u16 0, .slice none 0 0, .slice none 0 0, .slice none 0 0, .slice none 0 0]) ?_ 4 _ rfl
    refine blk_put (cs := #[v0, v1, v2, .int .u16 0, .int .u16 0, .int .u32 0, .int .u32 0, .int .u32 0, .int .u16 0, .int .u16 0, .slice none 0 0, .slice none 0 0, .slice none 0 0, .slice none 0 0]) ?_ 3 _ rfl
    refine blk_put (cs := #[v0, v1, .int .u32 0, .int .u16 0, .int .u16 0, .int .u32 0, .int .u32 0, .int .u32 0, .int .u16 0, .int .u16 0, .slice none 0 0, .slice none 0 0, .slice none 0 0, .slice none 0 0]) ?_ 2 _ rfl
    refine blk_put (cs := #[v0, .int .u8 0, .int .u32 0, .int .u16 0, .int .u16 0, .int .u32 0, .int .u32 0, .int .u32 0, .int .u16 0, .int .u16 0, .slice none 0 0, .slice none 0 0, .slice none 0 0, .slice none 0 0]) ?_ 1 _ rfl
    refine blk_put (cs := #[.int .u8 0, .int .u8 0, .int .u32 0, .int .u16 0, .int .u16 0, .int .u32 0, .int .u32 0, .int .u32 0, .int .u16 0, .int .u16 0, .slice none 0 0, .slice none 0 0, .slice none 0 0, .slice none 0 0]) ?_ 0 _ rfl
    exact h6
  · refine below_set ?_ h.ge6
    refine below_set ?_ h.ge6
    refine below_set ?_ h.ge6
    refine below_set ?_ h.ge6
    refine below_set ?_ h.ge6
    refine below_set ?_ h.ge6
    refine below_set ?_ h.ge6
    refine below_set ?_ h.ge6
    refine below_set ?_ h.ge6
    refine below_set ?_ h.ge6
    refine below_set ?_ h.ge6
    refine below_set ?_ h.ge6
    refine below_set ?_ h.ge6
    refine below_set ?_ h.ge6
    exact h.bel
theorem R_set6 {α : Type} {d : Kd α} {e base : Nat} {w : World} {v : Value} {xs : List α} {p6 p8 : Nat} {v0 v1 v2 v3 v4 v5 v6 v7 v8 v9 v10 v11 v12 v13 : Value} (h : d.R e w base (fun k => k ≠ p6 ∧ k ≠ p8) v xs) : d.R e (((((((((((((((w).setCell ⟨p6, 0, none⟩ v0).setCell ⟨p6, 1, none⟩ v1).setCell ⟨p6, 2, none⟩ v2).setCell ⟨p6, 3, none⟩ v3).setCell ⟨p6, 4, none⟩ v4).setCell ⟨p6, 5, none⟩ v5).setCell ⟨p6, 6, none⟩ v6).setCell ⟨p6, 7, none⟩ v7).setCell ⟨p6, 8, none⟩ v8).setCell ⟨p6, 9, none⟩ v9).setCell ⟨p6, 10, none⟩ v10).setCell ⟨p6, 11, none⟩ v11).setCell ⟨p6, 12, none⟩ v12).setCell ⟨p6, 13, none⟩ v13) base (fun _ => True) v xs := by
  refine Kd.R_mono (ok := fun k => k ≠ p6 ∧ k ≠ p8) ?_ (fun _ _ => trivial)
  refine Kd.R_far (p := ⟨p6, 13, none⟩) ?_ (fun _ hk => hk.1) _
  refine Kd.R_far (p := ⟨p6, 12, none⟩) ?_ (fun _ hk => hk.1) _
  refine Kd.R_far (p := ⟨p6, 11, none⟩) ?_ (fun _ hk => hk.1) _
  refine Kd.R_far (p := ⟨p6, 10, none⟩) ?_ (fun _ hk => hk.1) _
  refine Kd.R_far (p := ⟨p6, 9, none⟩) ?_ (fun _ hk => hk.1) _
  refine Kd.R_far (p := ⟨p6, 8, none⟩) ?_ (fun _ hk => hk.1) _
  refine Kd.R_far (p := ⟨p6, 7, none⟩) ?_ (fun _ hk => hk.1) _
  refine Kd.R_far (p := ⟨p6, 6, none⟩) ?_ (fun _ hk => hk.1) _
  refine Kd.R_far (p := ⟨p6, 5, none⟩) ?_ (fun _ hk => hk.1) _
  refine Kd.R_far (p := ⟨p6, 4, none⟩) ?_ (fun _ hk => hk.1) _
  refine Kd.R_far (p := ⟨p6, 3, none⟩) ?_ (fun _ hk => hk.1) _
  refine Kd.R_far (p := ⟨p6, 2, none⟩) ?_ (fun _ hk => hk.1) _
  refine Kd.R_far (p := ⟨p6, 1, none⟩) ?_ (fun _ hk => hk.1) _
  refine Kd.R_far (p := ⟨p6, 0, none⟩) ?_ (fun _ hk => hk.1) _
  exact h
/-- What stands in the result's block at first: nothing. -/
theorem OneAt.cells6 {w W : World} {p6 p8 : Nat} {cs : Array Value} (h : OneAt w W p6 p8 cs) : (W.cell? ⟨p6, 0, none⟩ = some (.int .u8 0) ∧ W.cell? ⟨p6, 1, none⟩ = some (.int .u8 0) ∧ W.cell? ⟨p6, 2, none⟩ = some (.int .u32 0) ∧ W.cell? ⟨p6, 3, none⟩ = some (.int .u16 0) ∧ W.cell? ⟨p6, 4, none⟩ = some (.int .u16 0) ∧ W.cell? ⟨p6, 5, none⟩ = some (.int .u32 0) ∧ W.cell? ⟨p6, 6, none⟩ = some (.int .u32 0) ∧ W.cell? ⟨p6, 7, none⟩ = some (.int .u32 0) ∧ W.cell? ⟨p6, 8, none⟩ = some (.int .u16 0) ∧ W.cell? ⟨p6, 9, none⟩ = some (.int .u16 0) ∧ W.cell? ⟨p6, 10, none⟩ = some (.slice none 0 0) ∧ W.cell? ⟨p6, 11, none⟩ = some (.slice none 0 0) ∧ W.cell? ⟨p6, 12, none⟩ = some (.slice none 0 0) ∧ W.cell? ⟨p6, 13, none⟩ = some (.slice none 0 0)) ∧ (W.frozen? ⟨p6, 0, none⟩ = false ∧ W.frozen? ⟨p6, 1, none⟩ = false ∧ W.frozen? ⟨p6, 2, none⟩ = false ∧ W.frozen? ⟨p6, 3, none⟩ = false ∧ W.frozen? ⟨p6, 4, none⟩ = false ∧ W.frozen? ⟨p6, 5, none⟩ = false ∧ W.frozen? ⟨p6, 6, none⟩ = false ∧ W.frozen? ⟨p6, 7, none⟩ = false ∧ W.frozen? ⟨p6, 8, none⟩ = false ∧ W.frozen? ⟨p6, 9, none⟩ = false ∧ W.frozen? ⟨p6, 10, none⟩ = false ∧ W.frozen? ⟨p6, 11, none⟩ = false ∧ W.frozen? ⟨p6, 12, none⟩ = false ∧ W.frozen? ⟨p6, 13, none⟩ = false) := oneC14 h.b6
/-- A literal without elements, as the walk makes it; what is known of its block is given. -/
theorem lit1 (W : World) (base : Nat) (ok : Nat → Prop) (hok : ok W.heap.size) (hb : base ≤ W.heap.size) : Kd.R (Kd.int .u8) 5 (W.alloc (.cells #[] 5)) base ok (.slice (some ⟨W.heap.size, 0, none⟩) 0 0) [] := by
  refine ⟨fun k hk => ?_, [], ?_, Reps.none _ _⟩
  · have : W.heap.size = k := by simpa [Value.ownBlock] using hk
    subst this; exact hok
  · have h2 := World.ownsRow_lit (base := base) (e := 5) (size := (Kd.int .u8).sz) W #[] 0 hb (by decide) (by decide)
    simpa using h2
theorem lit2 (W : World) (base : Nat) (ok : Nat → Prop) (n : Nat) (hn : n = W.heap.size) (hok : ok W.heap.size) (hb : base ≤ W.heap.size) : Kd.R (Kd.int .u8) 5 (W.alloc (.cells #[] 5)) base ok (.slice (some ⟨n, 0, none⟩) 0 0) [] := by
  subst hn
  exact lit1 W base ok hok hb
theorem szs (W : World) (p : Addr) (v : Value) : W.heap.size = (W.setCell p v).heap.size := by simp
theorem keepO {W w1 : World} {B : Nat} {ok ok2 : Nat → Prop} {v10 v11 : Value} {out : List S101} {dps : List Int} (h : Kd.R k101 101 W B ok v10 out) (hd : Kd.R (Kd.int .u32) 22 W B ok2 v11 dps) (hg : W.grownBy w1 v11.ownBlock) : Kd.R k101 101 w1 B ok v10 out := by
  refine Kd.R_mono (ok := fun k => ok k ∧ some k ≠ v11.ownBlock) (Kd.R_step (Kd.R_mono (Kd.R_bound h) (fun k hk => ⟨hk.1, fun he => ?_⟩)) (fun k hk hlt => hg.block k hlt hk.2)) (fun k hk => hk.1)
  obtain ⟨q, hq, cells, hc⟩ := hk.2.2.2
  obtain ⟨inner, ho⟩ := Kd.R_own hd
  obtain ⟨cells', hc'⟩ := own_typed ho k he.symm
  rw [hc] at hc'
  injection hc' with h1
  injection h1 with _ h2
  exact apart_bd q hq h2
theorem OneAt.drew {w W : World} {p6 p8 : Nat} {cs : Array Value} (h : OneAt w W p6 p8 cs) : OneAt w W.drew p6 p8 cs := h.next (Below.refl _ _).drew
theorem at_a (p : Int) (i : Nat) (h : p = 12 + 4 * (i : Int)) : 12 + 4 * i = p.toNat := by omega
theorem at_b (p : Int) (i : Nat) (h : p = 14 + 4 * (i : Int)) : 12 + (4 * i + 2) = p.toNat := by omega
theorem at_c (p n : Int) (j : Nat) (hn : 0 ≤ n) (h : p = 12 + 4 * n + 4 * (j : Int)) : 12 + 4 * n.toNat + 4 * j = p.toNat := by omega
theorem sub_s (a i : Nat) (h : i < a) : a - i = (a - (i + 1)) + 1 := by omega
theorem add_s {i g a : Nat} (h : i + (g + 1) = a) : i + 1 + g = a := by omega
theorem ne_lit (p n : Nat) (h : p < n) : some p ≠ (Value.slice (some ⟨n, 0, none⟩) 0 0).ownBlock := by
  intro e
  have : p = n := by simpa [Value.ownBlock] using e
  omega
theorem wp_cutw {P : Program} {c : Code} {Q : Exit → Act → World → Prop} {a : Act} {w : World} (R : World → Prop) (h : R w) (k : ∀ w', R w' → c.wp P Q a w') : c.wp P Q a w := k w h
/-- A chunk that is told: its numbers as they are, its rows anew. -/
def ChunkAt (w' : World) (base : Nat) (c : S29) (a : Value) : Prop := ∃ v10 v11 v12 v13 : Value, a = .agg #[.int .u8 c.f0, .int .u8 c.f1, .int .u32 c.f2, .int .u16 c.f3, .int .u16 c.f4, .int .u32 c.f5, .int .u32 c.f6, .int .u32 c.f7, .int .u16 c.f8, .int .u16 c.f9, v10, v11, v12, v13] ∧ Kd.R k101 101 w' base (fun _ => True) v10 c.f10 ∧ Kd.R (Kd.int .u32) 22 w' base (fun _ => True) v11 c.f11 ∧ Kd.R k48 48 w' base (fun _ => True) v12 c.f12 ∧ Kd.R (Kd.int .u8) 5 w' base (fun _ => True) v13 c.f13
/-- What One tells. -/
def ROneOut (w w' : World) (x : Ending) : Except Int S29 → Prop
  | .ok c => ∃ a, x = .returned (.tuple #[a, .int .i64 0]) ∧ ChunkAt w' w.heap.size c a
  | .error e => ∃ x0 x1 x2 x3 x4 x5 x6 x7 x8 x9 : Int, x = .returned (.tuple #[.agg #[.int .u8 x0, .int .u8 x1, .int .u32 x2, .int .u16 x3, .int .u16 x4, .int .u32 x5, .int .u32 x6, .int .u32 x7, .int .u16 x8, .int .u16 x9, .slice none 0 0, .slice none 0 0, .slice none 0 0, .slice none 0 0], .int .i64 e])
set_option maxHeartbeats 4000000 in
set_option maxRecDepth 100000 in
theorem rone_bare (t fl : Int) (A0 : Option Addr) (c0 : Nat) (l : List Int) (w : World) (hr0 : Kd.C (Kd.int .u8) w A0 l.length l) (hc0 : l.length ≤ c0) (hb : Bytes l) (hl : l.length ≤ 65536) (ht : t = 8 ∨ t = 11 ∨ t = 14) :
    Calls Try.prog 43 #[.int .u8 t, .int .u8 fl, .slice A0 l.length c0] w fun x w' => Below w.heap.size w w' ∧ ROneOut w w' x (bareV t fl l) := by
  have HR := Aside0.mk hr0
  have HC := Aside0.mk hc0
  have HBY := Aside0.mk hb
  have HL := Aside0.mk hl
  clear hr0 hc0 hb hl
  have hu29 := Try.underlying29
  have HLE := Aside0.mk (show trunklineref12_least.f 3 t = some 0 by rcases ht with rfl | rfl | rfl <;> rfl)
  have HBA := Aside0.mk (show trunklineref12_isBare.f t = some true by rcases ht with rfl | rfl | rfl <;> rfl)
  have HPA := Aside0.mk (show trunklineref12_hasParams.f t = some false by rcases ht with rfl | rfl | rfl <;> rfl)
  have HDA := Aside0.mk (show trunklineref12_hasData.f t = some false by rcases ht with rfl | rfl | rfl <;> rfl)
  have ht0 : (t == 0) = false := by rcases ht with rfl | rfl | rfl <;> rfl
  have ht1 : (t == 1) = false := by rcases ht with rfl | rfl | rfl <;> rfl
  have ht2 : (t == 2) = false := by rcases ht with rfl | rfl | rfl <;> rfl
  have ht3 : (t == 3) = false := by rcases ht with rfl | rfl | rfl <;> rfl
  have ht7 : (t == 7) = false := by rcases ht with rfl | rfl | rfl <;> rfl
  have hlt : decide ((l.length : Int) < 0) = false := decide_eq_false (by omega)
  clear ht
  go_enter Try.func43, Try.ntmps43
  go_upto_region 2 with (first | ((with_reducible refine gate_dst (N := 6) rfl ?_); (try (refine gate_guard (by rfl) ?_; dsimp only)); refine box_event ?hg (N := 6) ?hd (cs := #[.int .u8 0, .int .u8 0, .int .u32 0, .int .u16 0, .int .u16 0, .int .u32 0, .int .u32 0, .int .u32 0, .int .u16 0, .int .u16 0, .slice none 0 0, .slice none 0 0, .slice none 0 0, .slice none 0 0]) (t := 29) ?hr ?_; (case hd => rfl); (case hg => rfl); (case hr => first | (go_simp; done) | (go_simp; rfl)); intro p6 hg w1_ hbox hb; have HWB := Aside0.mk hb; have HW6 := Aside0.mk hbox; have GE6 := Aside0.mk (show w.heap.size ≤ p6 by rw [hg]; exact Nat.le_refl _); clear hg hbox hb) | ((with_reducible refine gate_dst (N := 8) rfl ?_); (try (refine gate_guard (by rfl) ?_; dsimp only)); refine box_event ?hg (N := 8) ?hd (cs := #[.int .u8 0, .int .u8 0, .int .u32 0, .int .u16 0, .int .u16 0, .int .u32 0, .int .u32 0, .int .u32 0, .int .u16 0, .int .u16 0, .slice none 0 0, .slice none 0 0, .slice none 0 0, .slice none 0 0]) (t := 29) ?hr ?_; (case hd => rfl); (case hg => rfl); (case hr => first | (go_simp; done) | (go_simp; rfl)); intro p8 hg w2_ hbox hb; have nb_ := Aside0.mk (below_step HWB.out hb); have n6_ := Aside0.mk (blk_below HW6.out hb); have HW8 := Aside0.mk hbox; have GE8 := Aside0.mk (show w.heap.size ≤ p8 by rw [hg]; exact HWB.out.size); have NE68 := Aside0.mk (show p6 ≠ p8 by rw [hg]; exact Nat.ne_of_lt (blk_lt HW6.out)); clear HWB HW6; have HWB := nb_; have HW6 := n6_; clear nb_ n6_ hg hbox hb; obtain ⟨⟨hz0, hz1, hz2, hz3, hz4, hz5, hz6, hz7, hz8, hz9, hz10, hz11, hz12, hz13⟩, ⟨hy0, hy1, hy2, hy3, hy4, hy5, hy6, hy7, hy8, hy9, hy10, hy11, hy12, hy13⟩⟩ := oneC14 HW8.out))
  refine wp_cutw (fun W => OneAt w W p6 p8 #[.int .u8 t, .int .u8 fl, .int .u32 0, .int .u16 0, .int .u16 0, .int .u32 0, .int .u32 0, .int .u32 0, .int .u16 0, .int .u16 0, .slice none 0 0, .slice none 0 0, .slice none 0 0, .slice none 0 0]) (OneAt.start HW8.out HW6.out HWB.out GE6.out GE8.out NE68.out) ?_
  rintro W0 ha_
  clear HW8 HW6 HWB GE6 GE8 NE68 hz0 hy0 hz1 hy1 hz2 hy2 hz3 hy3 hz4 hy4 hz5 hy5 hz6 hy6 hz7 hy7 hz8 hy8 hz9 hy9 hz10 hy10 hz11 hy11 hz12 hy12 hz13 hy13
  have HA := Aside0.mk ha_
  clear ha_
  by_cases he : l.length = 0
  · obtain rfl : l = [] := List.eq_nil_of_length_eq_zero he
    have HE := Aside0.mk he
    clear he
    go_upto_region 41 with (first | (go_at_call 60; (with_reducible refine (trunklineref12_least.calls 3 t 0 _ HLE.out).mono ?_); rintro e w3_ ⟨rfl, hd⟩; have hb := hd.below; have na_ := Aside0.mk (show OneAt w w3_ p6 p8 #[.int .u8 t, .int .u8 fl, .int .u32 0, .int .u16 0, .int .u16 0, .int .u32 0, .int .u32 0, .int .u32 0, .int .u16 0, .int .u16 0, .slice none 0 0, .slice none 0 0, .slice none 0 0, .slice none 0 0] from OneAt.next HA.out hb); clear HA; have HA := na_; clear na_; clear hd hb) | (go_at_call 61; (with_reducible refine (trunklineref12_isBare.calls t true _ HBA.out).mono ?_); rintro e w4_ ⟨rfl, hd⟩; have hb := hd.below; have na_ := Aside0.mk (show OneAt w w4_ p6 p8 #[.int .u8 t, .int .u8 fl, .int .u32 0, .int .u16 0, .int .u16 0, .int .u32 0, .int .u32 0, .int .u32 0, .int .u16 0, .int .u16 0, .slice none 0 0, .slice none 0 0, .slice none 0 0, .slice none 0 0] from OneAt.next HA.out hb); clear HA; have HA := na_; clear na_; clear hd hb) | (go_at_call 45; (with_reducible refine (trunklineref12_hasParams.calls t false _ HPA.out).mono ?_); rintro e w5_ ⟨rfl, hd⟩; have hb := hd.below; have na_ := Aside0.mk (show OneAt w w5_ p6 p8 #[.int .u8 t, .int .u8 fl, .int .u32 0, .int .u16 0, .int .u16 0, .int .u32 0, .int .u32 0, .int .u32 0, .int .u16 0, .int .u16 0, .slice none 0 0, .slice none 0 0, .slice none 0 0, .slice none 0 0] from OneAt.next HA.out hb); clear HA; have HA := na_; clear na_; clear hd hb) | (go_at_call 46; (with_reducible refine (trunklineref12_hasData.calls t false _ HDA.out).mono ?_); rintro e w6_ ⟨rfl, hd⟩; have hb := hd.below; have na_ := Aside0.mk (show OneAt w w6_ p6 p8 #[.int .u8 t, .int .u8 fl, .int .u32 0, .int .u16 0, .int .u16 0, .int .u32 0, .int .u32 0, .int .u32 0, .int .u16 0, .int .u16 0, .slice none 0 0, .slice none 0 0, .slice none 0 0, .slice none 0 0] from OneAt.next HA.out hb); clear HA; have HA := na_; clear na_; clear hd hb))
    obtain ⟨⟨hz0, hz1, hz2, hz3, hz4, hz5, hz6, hz7, hz8, hz9, hz10, hz11, hz12, hz13⟩, ⟨hy0, hy1, hy2, hy3, hy4, hy5, hy6, hy7, hy8, hy9, hy10, hy11, hy12, hy13⟩⟩ := oneC14 HA.out.b8
    obtain ⟨⟨gz0, gz1, gz2, gz3, gz4, gz5, gz6, gz7, gz8, gz9, gz10, gz11, gz12, gz13⟩, ⟨gy0, gy1, gy2, gy3, gy4, gy5, gy6, gy7, gy8, gy9, gy10, gy11, gy12, gy13⟩⟩ := HA.out.cells6
    have hne := HA.out.ne
    have hne' := HA.out.ne.symm
    go_wp2
    refine bodyPost_ret (results_ct rfl _ _ p6 29 #[.int .u8 t, .int .u8 fl, .int .u32 0, .int .u16 0, .int .u16 0, .int .u32 0, .int .u32 0, .int .u32 0, .int .u16 0, .int .u16 0, .slice none 0 0, .slice none 0 0, .slice none 0 0, .slice none 0 0] (0, 0) _ rfl HA.out.put6.1 Try.underlying29 rfl (by kernel_rfl)) rfl ⟨HA.out.put6.2, ?_⟩
    unfold bareV
    rw [if_pos HE.out]
    exact ⟨_, rfl, _, _, _, _, rfl, Kd.R_nil _ _ _ _ _, Kd.R_nil _ _ _ _ _, Kd.R_nil _ _ _ _ _, Kd.R_nil _ _ _ _ _⟩
  · have hgt : decide ((l.length : Int) > 0) = true := decide_eq_true (by omega)
    have hgt' : decide ((0 : Int) < (l.length : Int)) = true := decide_eq_true (by omega)
    have hn0 : (l = []) = False := eq_false (fun h => he (by rw [h]; rfl))
    have hn1 : (0 < l.length) = True := eq_true (by omega)
    have HE := Aside0.mk he
    clear he
    go_upto_region 4 with (first | (go_at_call 60; (with_reducible refine (trunklineref12_least.calls 3 t 0 _ HLE.out).mono ?_); rintro e w3_ ⟨rfl, hd⟩; have hb := hd.below; have na_ := Aside0.mk (show OneAt w w3_ p6 p8 #[.int .u8 t, .int .u8 fl, .int .u32 0, .int .u16 0, .int .u16 0, .int .u32 0, .int .u32 0, .int .u32 0, .int .u16 0, .int .u16 0, .slice none 0 0, .slice none 0 0, .slice none 0 0, .slice none 0 0] from OneAt.next HA.out hb); clear HA; have HA := na_; clear na_; clear hd hb) | (go_at_call 61; (with_reducible refine (trunklineref12_isBare.calls t true _ HBA.out).mono ?_); rintro e w4_ ⟨rfl, hd⟩; have hb := hd.below; have na_ := Aside0.mk (show OneAt w w4_ p6 p8 #[.int .u8 t, .int .u8 fl, .int .u32 0, .int .u16 0, .int .u16 0, .int .u32 0, .int .u32 0, .int .u32 0, .int .u16 0, .int .u16 0, .slice none 0 0, .slice none 0 0, .slice none 0 0, .slice none 0 0] from OneAt.next HA.out hb); clear HA; have HA := na_; clear na_; clear hd hb))
    obtain ⟨⟨hz0, hz1, hz2, hz3, hz4, hz5, hz6, hz7, hz8, hz9, hz10, hz11, hz12, hz13⟩, ⟨hy0, hy1, hy2, hy3, hy4, hy5, hy6, hy7, hy8, hy9, hy10, hy11, hy12, hy13⟩⟩ := oneC14 HA.out.b8
    obtain ⟨⟨gz0, gz1, gz2, gz3, gz4, gz5, gz6, gz7, gz8, gz9, gz10, gz11, gz12, gz13⟩, ⟨gy0, gy1, gy2, gy3, gy4, gy5, gy6, gy7, gy8, gy9, gy10, gy11, gy12, gy13⟩⟩ := HA.out.cells6
    have hne := HA.out.ne
    have hne' := HA.out.ne.symm
    go_wp2
    refine bodyPost_ret (results_ct rfl _ _ p6 29 #[.int .u8 t, .int .u8 fl, .int .u32 0, .int .u16 0, .int .u16 0, .int .u32 0, .int .u32 0, .int .u32 0, .int .u16 0, .int .u16 0, .slice none 0 0, .slice none 0 0, .slice none 0 0, .slice none 0 0] (0, 0) _ rfl HA.out.put6.1 Try.underlying29 rfl (by kernel_rfl)) rfl ⟨HA.out.put6.2, ?_⟩
    unfold bareV
    rw [if_neg HE.out]
    exact ⟨_, _, _, _, _, _, _, _, _, _, rfl⟩
set_option maxHeartbeats 4000000 in
set_option maxRecDepth 100000 in
theorem rone_raw (t fl : Int) (A0 : Option Addr) (c0 : Nat) (l : List Int) (w : World) (hr0 : Kd.C (Kd.int .u8) w A0 l.length l) (hc0 : l.length ≤ c0) (hb : Bytes l) (hl : l.length ≤ 65536) (ht : t = 10 ∨ t = 12 ∨ t = 13 ∨ 14 < t) :
    Calls Try.prog 43 #[.int .u8 t, .int .u8 fl, .slice A0 l.length c0] w fun x w' => Below w.heap.size w w' ∧ ROneOut w w' x (rawV t fl l) := by
  have HR := Aside0.mk hr0
  have HC := Aside0.mk hc0
  have HBY := Aside0.mk hb
  have HL := Aside0.mk hl
  clear hr0 hc0 hb hl
  have hu29 := Try.underlying29
  have HLE := Aside0.mk (show trunklineref12_least.f 3 t = some 0 by (rcases ht with rfl | rfl | rfl | h <;> first | rfl | ((have e2 : (t == 2) = false := beq_eq_false_iff_ne.mpr (by omega); simp only [trunklineref12_least.f, trunklineref12_least.j0, trunklineref12_isBare.f, trunklineref12_hasParams.f, trunklineref12_hasData.f, e2]; repeat (rw [if_neg (by first | omega | decide)])); try first | rfl | (congr 1; first | exact decide_eq_true (by omega) | exact beq_eq_false_iff_ne.mpr (by omega)))))
  have HBA := Aside0.mk (show trunklineref12_isBare.f t = some false by (rcases ht with rfl | rfl | rfl | h <;> first | rfl | ((have e2 : (t == 2) = false := beq_eq_false_iff_ne.mpr (by omega); simp only [trunklineref12_least.f, trunklineref12_least.j0, trunklineref12_isBare.f, trunklineref12_hasParams.f, trunklineref12_hasData.f, e2]; repeat (rw [if_neg (by first | omega | decide)])); try first | rfl | (congr 1; first | exact decide_eq_true (by omega) | exact beq_eq_false_iff_ne.mpr (by omega)))))
  have HPA := Aside0.mk (show trunklineref12_hasParams.f t = some false by (rcases ht with rfl | rfl | rfl | h <;> first | rfl | ((have e2 : (t == 2) = false := beq_eq_false_iff_ne.mpr (by omega); simp only [trunklineref12_least.f, trunklineref12_least.j0, trunklineref12_isBare.f, trunklineref12_hasParams.f, trunklineref12_hasData.f, e2]; repeat (rw [if_neg (by first | omega | decide)])); try first | rfl | (congr 1; first | exact decide_eq_true (by omega) | exact beq_eq_false_iff_ne.mpr (by omega)))))
  have HDA := Aside0.mk (show trunklineref12_hasData.f t = some true by (rcases ht with rfl | rfl | rfl | h <;> first | rfl | ((have e2 : (t == 2) = false := beq_eq_false_iff_ne.mpr (by omega); simp only [trunklineref12_least.f, trunklineref12_least.j0, trunklineref12_isBare.f, trunklineref12_hasParams.f, trunklineref12_hasData.f, e2]; repeat (rw [if_neg (by first | omega | decide)])); try first | rfl | (congr 1; first | exact decide_eq_true (by omega) | exact beq_eq_false_iff_ne.mpr (by omega)))))
  have ht0 : (t == 0) = false := beq_eq_false_iff_ne.mpr (by omega)
  have ht1 : (t == 1) = false := beq_eq_false_iff_ne.mpr (by omega)
  have ht2 : (t == 2) = false := beq_eq_false_iff_ne.mpr (by omega)
  have ht3 : (t == 3) = false := beq_eq_false_iff_ne.mpr (by omega)
  have ht7 : (t == 7) = false := beq_eq_false_iff_ne.mpr (by omega)
  clear ht
  go_enter Try.func43, Try.ntmps43
  go_upto_region 2 with (first | ((with_reducible refine gate_dst (N := 6) rfl ?_); (try (refine gate_guard (by rfl) ?_; dsimp only)); refine box_event ?hg (N := 6) ?hd (cs := #[.int .u8 0, .int .u8 0, .int .u32 0, .int .u16 0, .int .u16 0, .int .u32 0, .int .u32 0, .int .u32 0, .int .u16 0, .int .u16 0, .slice none 0 0, .slice none 0 0, .slice none 0 0, .slice none 0 0]) (t := 29) ?hr ?_; (case hd => rfl); (case hg => rfl); (case hr => first | (go_simp; done) | (go_simp; rfl)); intro p6 hg w1_ hbox hb; have HWB := Aside0.mk hb; have HW6 := Aside0.mk hbox; have GE6 := Aside0.mk (show w.heap.size ≤ p6 by rw [hg]; exact Nat.le_refl _); clear hg hbox hb) | ((with_reducible refine gate_dst (N := 8) rfl ?_); (try (refine gate_guard (by rfl) ?_; dsimp only)); refine box_event ?hg (N := 8) ?hd (cs := #[.int .u8 0, .int .u8 0, .int .u32 0, .int .u16 0, .int .u16 0, .int .u32 0, .int .u32 0, .int .u32 0, .int .u16 0, .int .u16 0, .slice none 0 0, .slice none 0 0, .slice none 0 0, .slice none 0 0]) (t := 29) ?hr ?_; (case hd => rfl); (case hg => rfl); (case hr => first | (go_simp; done) | (go_simp; rfl)); intro p8 hg w2_ hbox hb; have nb_ := Aside0.mk (below_step HWB.out hb); have n6_ := Aside0.mk (blk_below HW6.out hb); have HW8 := Aside0.mk hbox; have GE8 := Aside0.mk (show w.heap.size ≤ p8 by rw [hg]; exact HWB.out.size); have NE68 := Aside0.mk (show p6 ≠ p8 by rw [hg]; exact Nat.ne_of_lt (blk_lt HW6.out)); clear HWB HW6; have HWB := nb_; have HW6 := n6_; clear nb_ n6_ hg hbox hb; obtain ⟨⟨hz0, hz1, hz2, hz3, hz4, hz5, hz6, hz7, hz8, hz9, hz10, hz11, hz12, hz13⟩, ⟨hy0, hy1, hy2, hy3, hy4, hy5, hy6, hy7, hy8, hy9, hy10, hy11, hy12, hy13⟩⟩ := oneC14 HW8.out))
  refine wp_cutw (fun W => OneAt w W p6 p8 #[.int .u8 t, .int .u8 fl, .int .u32 0, .int .u16 0, .int .u16 0, .int .u32 0, .int .u32 0, .int .u32 0, .int .u16 0, .int .u16 0, .slice none 0 0, .slice none 0 0, .slice none 0 0, .slice none 0 0]) (OneAt.start HW8.out HW6.out HWB.out GE6.out GE8.out NE68.out) ?_
  rintro W0 ha_
  clear HW8 HW6 HWB GE6 GE8 NE68 hz0 hy0 hz1 hy1 hz2 hy2 hz3 hy3 hz4 hy4 hz5 hy5 hz6 hy6 hz7 hy7 hz8 hy8 hz9 hy9 hz10 hy10 hz11 hy11 hz12 hy12 hz13 hy13
  have HA := Aside0.mk ha_
  clear ha_
  go_upto_region 41 with (first | (go_at_call 60; (with_reducible refine (trunklineref12_least.calls 3 t 0 _ HLE.out).mono ?_); rintro e w3_ ⟨rfl, hd⟩; have hb := hd.below; have na_ := Aside0.mk (show OneAt w w3_ p6 p8 #[.int .u8 t, .int .u8 fl, .int .u32 0, .int .u16 0, .int .u16 0, .int .u32 0, .int .u32 0, .int .u32 0, .int .u16 0, .int .u16 0, .slice none 0 0, .slice none 0 0, .slice none 0 0, .slice none 0 0] from OneAt.next HA.out hb); clear HA; have HA := na_; clear na_; clear hd hb) | (go_at_call 61; (with_reducible refine (trunklineref12_isBare.calls t false _ HBA.out).mono ?_); rintro e w4_ ⟨rfl, hd⟩; have hb := hd.below; have na_ := Aside0.mk (show OneAt w w4_ p6 p8 #[.int .u8 t, .int .u8 fl, .int .u32 0, .int .u16 0, .int .u16 0, .int .u32 0, .int .u32 0, .int .u32 0, .int .u16 0, .int .u16 0, .slice none 0 0, .slice none 0 0, .slice none 0 0, .slice none 0 0] from OneAt.next HA.out hb); clear HA; have HA := na_; clear na_; clear hd hb) | (go_at_call 45; (with_reducible refine (trunklineref12_hasParams.calls t false _ HPA.out).mono ?_); rintro e w5_ ⟨rfl, hd⟩; have hb := hd.below; have na_ := Aside0.mk (show OneAt w w5_ p6 p8 #[.int .u8 t, .int .u8 fl, .int .u32 0, .int .u16 0, .int .u16 0, .int .u32 0, .int .u32 0, .int .u32 0, .int .u16 0, .int .u16 0, .slice none 0 0, .slice none 0 0, .slice none 0 0, .slice none 0 0] from OneAt.next HA.out hb); clear HA; have HA := na_; clear na_; clear hd hb) | (go_at_call 46; (with_reducible refine (trunklineref12_hasData.calls t true _ HDA.out).mono ?_); rintro e w6_ ⟨rfl, hd⟩; have hb := hd.below; have na_ := Aside0.mk (show OneAt w w6_ p6 p8 #[.int .u8 t, .int .u8 fl, .int .u32 0, .int .u16 0, .int .u16 0, .int .u32 0, .int .u32 0, .int .u32 0, .int .u16 0, .int .u16 0, .slice none 0 0, .slice none 0 0, .slice none 0 0, .slice none 0 0] from OneAt.next HA.out hb); clear HA; have HA := na_; clear na_; clear hd hb) | (refine Kd.R_append_rows (Kd.int .u8) (w0 := w) w.heap.size rfl (.tmp 185) (.tmp 186) 27 5 (.int .u8 0) 1 rfl Try.underlying27 info5 rfl (by decide) (by omega) (.slice (some ⟨w6_.heap.size, 0, none⟩) 0 0) [] l _ _ _ (fun k => k ≠ p6 ∧ k ≠ p8) (fun _ => False) rfl rfl ?aO ?aR (fun _ _ h => h) (fun _ h => h.elim) ?aF ?aB ?aS ?aL ?_; (case aO => exact lit2 (w6_) w.heap.size _ _ (rfl) ⟨Nat.ne_of_gt (blk_lt HA.out.b6), Nat.ne_of_gt (blk_lt HA.out.b8)⟩ HA.out.bel.size); (case aR => exact Kd.C_below HR.out (OneAt.alloc HA.out (.cells #[] 5)).bel); (case aF => exact fun k hk => ⟨fun e_ => Nat.not_lt.mpr hk (by rw [e_]; exact blk_lt (OneAt.alloc HA.out (.cells #[] 5)).b6), fun e_ => Nat.not_lt.mpr hk (by rw [e_]; exact blk_lt (OneAt.alloc HA.out (.cells #[] 5)).b8)⟩); (case aB => exact (OneAt.alloc HA.out (.cells #[] 5)).bel); (case aS => exact (OneAt.alloc HA.out (.cells #[] 5)).bel.size); (case aL => have := HL.out; (try have := HYS.out); simp only [List.length_nil]; omega); intro v_ w7_ ho hb hg hat; rw [List.nil_append] at ho; obtain ⟨A13, c13, e_⟩ := Kd.R_slice ho; subst e_; have na_ := Aside0.mk (show OneAt w w7_ p6 p8 #[.int .u8 t, .int .u8 fl, .int .u32 0, .int .u16 0, .int .u16 0, .int .u32 0, .int .u32 0, .int .u32 0, .int .u16 0, .int .u16 0, .slice none 0 0, .slice none 0 0, .slice none 0 0, .slice none 0 0] from OneAt.grown (OneAt.alloc HA.out (.cells #[] 5)) hg hb (ne_lit _ _ (blk_lt HA.out.b6)) (ne_lit _ _ (blk_lt HA.out.b8))); have HO13 := Aside0.mk ho; clear HA; have HA := na_; clear na_ ho hb hg hat; have hc13 : w7_.cell? ⟨p8, 13, none⟩ = some (.slice none 0 0) := (blk_cell HA.out.b8 13).trans rfl; have hf13 := blk_frozen HA.out.b8 13))
  refine wp_cutw (fun W => OneAt w W p6 p8 #[.int .u8 t, .int .u8 fl, .int .u32 0, .int .u16 0, .int .u16 0, .int .u32 0, .int .u32 0, .int .u32 0, .int .u16 0, .int .u16 0, .slice none 0 0, .slice none 0 0, .slice none 0 0, .slice A13 l.length c13] ∧ Kd.R (Kd.int .u8) 5 W w.heap.size (fun k => k ≠ p6 ∧ k ≠ p8) (.slice A13 l.length c13) l) ⟨(OneAt.put HA.out 13 (.slice A13 l.length c13) rfl), (Kd.R_far (p := ⟨p8, 13, none⟩) HO13.out (fun _ hk => hk.2) (.slice A13 l.length c13))⟩ ?_
  rintro W1 ⟨ha_, hr0_⟩
  clear HA HO13
  have HA := Aside0.mk ha_
  have HO13 := Aside0.mk hr0_
  clear ha_ hr0_
  obtain ⟨⟨hz0, hz1, hz2, hz3, hz4, hz5, hz6, hz7, hz8, hz9, hz10, hz11, hz12, hz13⟩, ⟨hy0, hy1, hy2, hy3, hy4, hy5, hy6, hy7, hy8, hy9, hy10, hy11, hy12, hy13⟩⟩ := oneC14 HA.out.b8
  obtain ⟨⟨gz0, gz1, gz2, gz3, gz4, gz5, gz6, gz7, gz8, gz9, gz10, gz11, gz12, gz13⟩, ⟨gy0, gy1, gy2, gy3, gy4, gy5, gy6, gy7, gy8, gy9, gy10, gy11, gy12, gy13⟩⟩ := HA.out.cells6
  have hne := HA.out.ne
  have hne' := HA.out.ne.symm
  go_wp2
  refine bodyPost_ret (results_ct rfl _ _ p6 29 #[.int .u8 t, .int .u8 fl, .int .u32 0, .int .u16 0, .int .u16 0, .int .u32 0, .int .u32 0, .int .u32 0, .int .u16 0, .int .u16 0, .slice none 0 0, .slice none 0 0, .slice none 0 0, .slice A13 l.length c13] (0, 0) _ rfl HA.out.put6.1 Try.underlying29 rfl (by kernel_rfl)) rfl ⟨HA.out.put6.2, ?_⟩
  unfold rawV
  exact ⟨_, rfl, _, _, _, _, rfl, Kd.R_nil _ _ _ _ _, Kd.R_nil _ _ _ _ _, Kd.R_nil _ _ _ _ _, R_set6 HO13.out⟩
set_option maxHeartbeats 4000000 in
set_option maxRecDepth 100000 in
theorem rone_params (t fl : Int) (A0 : Option Addr) (c0 : Nat) (l : List Int) (w : World) (hr0 : Kd.C (Kd.int .u8) w A0 l.length l) (hc0 : l.length ≤ c0) (hb : Bytes l) (hl : l.length ≤ 65536) (ht : t = 4 ∨ t = 5 ∨ t = 6 ∨ t = 9) :
    Calls Try.prog 43 #[.int .u8 t, .int .u8 fl, .slice A0 l.length c0] w fun x w' => Below w.heap.size w w' ∧ ROneOut w w' x (pmV t fl l) := by
  have HR := Aside0.mk hr0
  have HC := Aside0.mk hc0
  have HBY := Aside0.mk hb
  have HL := Aside0.mk hl
  clear hr0 hc0 hb hl
  have hu29 := Try.underlying29
  have HLE := Aside0.mk (show trunklineref12_least.f 3 t = some 0 by rcases ht with rfl | rfl | rfl | rfl <;> rfl)
  have HBA := Aside0.mk (show trunklineref12_isBare.f t = some false by rcases ht with rfl | rfl | rfl | rfl <;> rfl)
  have HPA := Aside0.mk (show trunklineref12_hasParams.f t = some true by rcases ht with rfl | rfl | rfl | rfl <;> rfl)
  have ht0 : (t == 0) = false := by rcases ht with rfl | rfl | rfl | rfl <;> rfl
  have ht1 : (t == 1) = false := by rcases ht with rfl | rfl | rfl | rfl <;> rfl
  have ht2 : (t == 2) = false := by rcases ht with rfl | rfl | rfl | rfl <;> rfl
  have ht3 : (t == 3) = false := by rcases ht with rfl | rfl | rfl | rfl <;> rfl
  have ht7 : (t == 7) = false := by rcases ht with rfl | rfl | rfl | rfl <;> rfl
  clear ht
  go_enter Try.func43, Try.ntmps43
  go_upto_region 2 with (first | ((with_reducible refine gate_dst (N := 6) rfl ?_); (try (refine gate_guard (by rfl) ?_; dsimp only)); refine box_event ?hg (N := 6) ?hd (cs := #[.int .u8 0, .int .u8 0, .int .u32 0, .int .u16 0, .int .u16 0, .int .u32 0, .int .u32 0, .int .u32 0, .int .u16 0, .int .u16 0, .slice none 0 0, .slice none 0 0, .slice none 0 0, .slice none 0 0]) (t := 29) ?hr ?_; (case hd => rfl); (case hg => rfl); (case hr => first | (go_simp; done) | (go_simp; rfl)); intro p6 hg w1_ hbox hb; have HWB := Aside0.mk hb; have HW6 := Aside0.mk hbox; have GE6 := Aside0.mk (show w.heap.size ≤ p6 by rw [hg]; exact Nat.le_refl _); clear hg hbox hb) | ((with_reducible refine gate_dst (N := 8) rfl ?_); (try (refine gate_guard (by rfl) ?_; dsimp only)); refine box_event ?hg (N := 8) ?hd (cs := #[.int .u8 0, .int .u8 0, .int .u32 0, .int .u16 0, .int .u16 0, .int .u32 0, .int .u32 0, .int .u32 0, .int .u16 0, .int .u16 0, .slice none 0 0, .slice none 0 0, .slice none 0 0, .slice none 0 0]) (t := 29) ?hr ?_; (case hd => rfl); (case hg => rfl); (case hr => first | (go_simp; done) | (go_simp; rfl)); intro p8 hg w2_ hbox hb; have nb_ := Aside0.mk (below_step HWB.out hb); have n6_ := Aside0.mk (blk_below HW6.out hb); have HW8 := Aside0.mk hbox; have GE8 := Aside0.mk (show w.heap.size ≤ p8 by rw [hg]; exact HWB.out.size); have NE68 := Aside0.mk (show p6 ≠ p8 by rw [hg]; exact Nat.ne_of_lt (blk_lt HW6.out)); clear HWB HW6; have HWB := nb_; have HW6 := n6_; clear nb_ n6_ hg hbox hb; obtain ⟨⟨hz0, hz1, hz2, hz3, hz4, hz5, hz6, hz7, hz8, hz9, hz10, hz11, hz12, hz13⟩, ⟨hy0, hy1, hy2, hy3, hy4, hy5, hy6, hy7, hy8, hy9, hy10, hy11, hy12, hy13⟩⟩ := oneC14 HW8.out))
  refine wp_cutw (fun W => OneAt w W p6 p8 #[.int .u8 t, .int .u8 fl, .int .u32 0, .int .u16 0, .int .u16 0, .int .u32 0, .int .u32 0, .int .u32 0, .int .u16 0, .int .u16 0, .slice none 0 0, .slice none 0 0, .slice none 0 0, .slice none 0 0]) (OneAt.start HW8.out HW6.out HWB.out GE6.out GE8.out NE68.out) ?_
  rintro W0 ha_
  clear HW8 HW6 HWB GE6 GE8 NE68 hz0 hy0 hz1 hy1 hz2 hy2 hz3 hy3 hz4 hy4 hz5 hy5 hz6 hy6 hz7 hy7 hz8 hy8 hz9 hy9 hz10 hy10 hz11 hy11 hz12 hy12 hz13 hy13
  have HA := Aside0.mk ha_
  clear ha_
  cases hsp : parsV (l.length + 1) l [] with
  | ok ps =>
    have HSP := Aside0.mk hsp
    clear hsp
    go_upto_region 41 with (first | (go_at_call 60; (with_reducible refine (trunklineref12_least.calls 3 t 0 _ HLE.out).mono ?_); rintro e w3_ ⟨rfl, hd⟩; have hb := hd.below; have na_ := Aside0.mk (show OneAt w w3_ p6 p8 #[.int .u8 t, .int .u8 fl, .int .u32 0, .int .u16 0, .int .u16 0, .int .u32 0, .int .u32 0, .int .u32 0, .int .u16 0, .int .u16 0, .slice none 0 0, .slice none 0 0, .slice none 0 0, .slice none 0 0] from OneAt.next HA.out hb); clear HA; have HA := na_; clear na_; clear hd hb) | (go_at_call 61; (with_reducible refine (trunklineref12_isBare.calls t false _ HBA.out).mono ?_); rintro e w4_ ⟨rfl, hd⟩; have hb := hd.below; have na_ := Aside0.mk (show OneAt w w4_ p6 p8 #[.int .u8 t, .int .u8 fl, .int .u32 0, .int .u16 0, .int .u16 0, .int .u32 0, .int .u32 0, .int .u32 0, .int .u16 0, .int .u16 0, .slice none 0 0, .slice none 0 0, .slice none 0 0, .slice none 0 0] from OneAt.next HA.out hb); clear HA; have HA := na_; clear na_; clear hd hb) | (go_at_call 45; (with_reducible refine (trunklineref12_hasParams.calls t true _ HPA.out).mono ?_); rintro e w5_ ⟨rfl, hd⟩; have hb := hd.below; have na_ := Aside0.mk (show OneAt w w5_ p6 p8 #[.int .u8 t, .int .u8 fl, .int .u32 0, .int .u16 0, .int .u16 0, .int .u32 0, .int .u32 0, .int .u32 0, .int .u16 0, .int .u16 0, .slice none 0 0, .slice none 0 0, .slice none 0 0, .slice none 0 0] from OneAt.next HA.out hb); clear HA; have HA := na_; clear na_; clear hd hb) | (go_at_call 62; (with_reducible refine (rparams_calls A0 c0 l _ ?c1_ HC.out HBY.out HL.out).mono ?_); (case c1_ => exact Kd.C_below HR.out HA.out.bel); rintro x_ w6_ ⟨hb, hout⟩; rw [HSP.out] at hout; obtain ⟨v12_, rfl, hv⟩ := hout; obtain ⟨A12, c12, e_⟩ := Kd.R_slice hv; subst e_; have HO12 := Aside0.mk (Kd.R_lower (Kd.R_mono (ok' := fun k => k ≠ p6 ∧ k ≠ p8) (Kd.R_bound hv) (fun k hk => ⟨fun e_ => Nat.not_lt.mpr hk.2.1 (by rw [e_]; exact blk_lt HA.out.b6), fun e_ => Nat.not_lt.mpr hk.2.1 (by rw [e_]; exact blk_lt HA.out.b8)⟩)) HA.out.bel.size); clear hv; have na_ := Aside0.mk (show OneAt w w6_ p6 p8 #[.int .u8 t, .int .u8 fl, .int .u32 0, .int .u16 0, .int .u16 0, .int .u32 0, .int .u32 0, .int .u32 0, .int .u16 0, .int .u16 0, .slice none 0 0, .slice none 0 0, .slice none 0 0, .slice none 0 0] from OneAt.next HA.out hb); clear HA; have HA := na_; clear na_; have hc12 : w6_.cell? ⟨p8, 12, none⟩ = some (.slice none 0 0) := (blk_cell HA.out.b8 12).trans rfl; have hf12 := blk_frozen HA.out.b8 12; clear hb))
    refine wp_cutw (fun W => OneAt w W p6 p8 #[.int .u8 t, .int .u8 fl, .int .u32 0, .int .u16 0, .int .u16 0, .int .u32 0, .int .u32 0, .int .u32 0, .int .u16 0, .int .u16 0, .slice none 0 0, .slice none 0 0, .slice A12 ps.length c12, .slice none 0 0] ∧ Kd.R k48 48 W w.heap.size (fun k => k ≠ p6 ∧ k ≠ p8) (.slice A12 ps.length c12) ps) ⟨(OneAt.put HA.out 12 (.slice A12 ps.length c12) rfl), (Kd.R_far (p := ⟨p8, 12, none⟩) HO12.out (fun _ hk => hk.2) (.slice A12 ps.length c12))⟩ ?_
    rintro W1 ⟨ha_, hr0_⟩
    clear HA HO12
    have HA := Aside0.mk ha_
    have HO12 := Aside0.mk hr0_
    clear ha_ hr0_
    obtain ⟨⟨hz0, hz1, hz2, hz3, hz4, hz5, hz6, hz7, hz8, hz9, hz10, hz11, hz12, hz13⟩, ⟨hy0, hy1, hy2, hy3, hy4, hy5, hy6, hy7, hy8, hy9, hy10, hy11, hy12, hy13⟩⟩ := oneC14 HA.out.b8
    obtain ⟨⟨gz0, gz1, gz2, gz3, gz4, gz5, gz6, gz7, gz8, gz9, gz10, gz11, gz12, gz13⟩, ⟨gy0, gy1, gy2, gy3, gy4, gy5, gy6, gy7, gy8, gy9, gy10, gy11, gy12, gy13⟩⟩ := HA.out.cells6
    have hne := HA.out.ne
    have hne' := HA.out.ne.symm
    go_wp2
    refine bodyPost_ret (results_ct rfl _ _ p6 29 #[.int .u8 t, .int .u8 fl, .int .u32 0, .int .u16 0, .int .u16 0, .int .u32 0, .int .u32 0, .int .u32 0, .int .u16 0, .int .u16 0, .slice none 0 0, .slice none 0 0, .slice A12 ps.length c12, .slice none 0 0] (0, 0) _ rfl HA.out.put6.1 Try.underlying29 rfl (by kernel_rfl)) rfl ⟨HA.out.put6.2, ?_⟩
    unfold pmV
    rw [HSP.out]
    exact ⟨_, rfl, _, _, _, _, rfl, Kd.R_nil _ _ _ _ _, Kd.R_nil _ _ _ _ _, R_set6 HO12.out, Kd.R_nil _ _ _ _ _⟩
  | error pe =>
    have HSP := Aside0.mk hsp
    clear hsp
    go_upto_region 41 with (first | (go_at_call 60; (with_reducible refine (trunklineref12_least.calls 3 t 0 _ HLE.out).mono ?_); rintro e w3_ ⟨rfl, hd⟩; have hb := hd.below; have na_ := Aside0.mk (show OneAt w w3_ p6 p8 #[.int .u8 t, .int .u8 fl, .int .u32 0, .int .u16 0, .int .u16 0, .int .u32 0, .int .u32 0, .int .u32 0, .int .u16 0, .int .u16 0, .slice none 0 0, .slice none 0 0, .slice none 0 0, .slice none 0 0] from OneAt.next HA.out hb); clear HA; have HA := na_; clear na_; clear hd hb) | (go_at_call 61; (with_reducible refine (trunklineref12_isBare.calls t false _ HBA.out).mono ?_); rintro e w4_ ⟨rfl, hd⟩; have hb := hd.below; have na_ := Aside0.mk (show OneAt w w4_ p6 p8 #[.int .u8 t, .int .u8 fl, .int .u32 0, .int .u16 0, .int .u16 0, .int .u32 0, .int .u32 0, .int .u32 0, .int .u16 0, .int .u16 0, .slice none 0 0, .slice none 0 0, .slice none 0 0, .slice none 0 0] from OneAt.next HA.out hb); clear HA; have HA := na_; clear na_; clear hd hb) | (go_at_call 45; (with_reducible refine (trunklineref12_hasParams.calls t true _ HPA.out).mono ?_); rintro e w5_ ⟨rfl, hd⟩; have hb := hd.below; have na_ := Aside0.mk (show OneAt w w5_ p6 p8 #[.int .u8 t, .int .u8 fl, .int .u32 0, .int .u16 0, .int .u16 0, .int .u32 0, .int .u32 0, .int .u32 0, .int .u16 0, .int .u16 0, .slice none 0 0, .slice none 0 0, .slice none 0 0, .slice none 0 0] from OneAt.next HA.out hb); clear HA; have HA := na_; clear na_; clear hd hb) | (go_at_call 62; (with_reducible refine (rparams_calls A0 c0 l _ ?c1_ HC.out HBY.out HL.out).mono ?_); (case c1_ => exact Kd.C_below HR.out HA.out.bel); rintro x_ w6_ ⟨hb, hout⟩; rw [HSP.out] at hout; have hx_ : x_ = .returned (.tuple #[.slice none 0 0, .int .i64 pe]) := hout; subst hx_; clear hout; have na_ := Aside0.mk (show OneAt w w6_ p6 p8 #[.int .u8 t, .int .u8 fl, .int .u32 0, .int .u16 0, .int .u16 0, .int .u32 0, .int .u32 0, .int .u32 0, .int .u16 0, .int .u16 0, .slice none 0 0, .slice none 0 0, .slice none 0 0, .slice none 0 0] from OneAt.next HA.out hb); clear HA; have HA := na_; clear na_; have hc12 : w6_.cell? ⟨p8, 12, none⟩ = some (.slice none 0 0) := (blk_cell HA.out.b8 12).trans rfl; have hf12 := blk_frozen HA.out.b8 12; clear hb))
    refine wp_cutw (fun W => OneAt w W p6 p8 #[.int .u8 t, .int .u8 fl, .int .u32 0, .int .u16 0, .int .u16 0, .int .u32 0, .int .u32 0, .int .u32 0, .int .u16 0, .int .u16 0, .slice none 0 0, .slice none 0 0, .slice none 0 0, .slice none 0 0]) (OneAt.put HA.out 12 (.slice none 0 0) rfl) ?_
    rintro W1 ha_
    clear HA
    have HA := Aside0.mk ha_
    clear ha_
    obtain ⟨⟨hz0, hz1, hz2, hz3, hz4, hz5, hz6, hz7, hz8, hz9, hz10, hz11, hz12, hz13⟩, ⟨hy0, hy1, hy2, hy3, hy4, hy5, hy6, hy7, hy8, hy9, hy10, hy11, hy12, hy13⟩⟩ := oneC14 HA.out.b8
    obtain ⟨⟨gz0, gz1, gz2, gz3, gz4, gz5, gz6, gz7, gz8, gz9, gz10, gz11, gz12, gz13⟩, ⟨gy0, gy1, gy2, gy3, gy4, gy5, gy6, gy7, gy8, gy9, gy10, gy11, gy12, gy13⟩⟩ := HA.out.cells6
    have hne := HA.out.ne
    have hne' := HA.out.ne.symm
    go_wp2
    refine bodyPost_ret (results_ct rfl _ _ p6 29 #[.int .u8 t, .int .u8 fl, .int .u32 0, .int .u16 0, .int .u16 0, .int .u32 0, .int .u32 0, .int .u32 0, .int .u16 0, .int .u16 0, .slice none 0 0, .slice none 0 0, .slice none 0 0, .slice none 0 0] (0, 0) _ rfl HA.out.put6.1 Try.underlying29 rfl (by kernel_rfl)) rfl ⟨HA.out.put6.2, ?_⟩
    unfold pmV
    rw [HSP.out]
    exact ⟨_, _, _, _, _, _, _, _, _, _, rfl⟩
set_option maxHeartbeats 4000000 in
set_option maxRecDepth 100000 in
theorem rone_number (t fl : Int) (A0 : Option Addr) (c0 : Nat) (l : List Int) (w : World) (hr0 : Kd.C (Kd.int .u8) w A0 l.length l) (hc0 : l.length ≤ c0) (hb : Bytes l) (hl : l.length ≤ 65536) (ht : t = 7) :
    Calls Try.prog 43 #[.int .u8 t, .int .u8 fl, .slice A0 l.length c0] w fun x w' => Below w.heap.size w w' ∧ ROneOut w w' x (numberV t fl l) := by
  have HR := Aside0.mk hr0
  have HC := Aside0.mk hc0
  have HBY := Aside0.mk hb
  have HL := Aside0.mk hl
  clear hr0 hc0 hb hl
  have hu29 := Try.underlying29
  subst ht
  have HLE := Aside0.mk (show trunklineref12_least.f 3 7 = some 4 by rfl)
  have HBA := Aside0.mk (show trunklineref12_isBare.f 7 = some false by rfl)
  go_enter Try.func43, Try.ntmps43
  go_upto_region 2 with (first | ((with_reducible refine gate_dst (N := 6) rfl ?_); (try (refine gate_guard (by rfl) ?_; dsimp only)); refine box_event ?hg (N := 6) ?hd (cs := #[.int .u8 0, .int .u8 0, .int .u32 0, .int .u16 0, .int .u16 0, .int .u32 0, .int .u32 0, .int .u32 0, .int .u16 0, .int .u16 0, .slice none 0 0, .slice none 0 0, .slice none 0 0, .slice none 0 0]) (t := 29) ?hr ?_; (case hd => rfl); (case hg => rfl); (case hr => first | (go_simp; done) | (go_simp; rfl)); intro p6 hg w1_ hbox hb; have HWB := Aside0.mk hb; have HW6 := Aside0.mk hbox; have GE6 := Aside0.mk (show w.heap.size ≤ p6 by rw [hg]; exact Nat.le_refl _); clear hg hbox hb) | ((with_reducible refine gate_dst (N := 8) rfl ?_); (try (refine gate_guard (by rfl) ?_; dsimp only)); refine box_event ?hg (N := 8) ?hd (cs := #[.int .u8 0, .int .u8 0, .int .u32 0, .int .u16 0, .int .u16 0, .int .u32 0, .int .u32 0, .int .u32 0, .int .u16 0, .int .u16 0, .slice none 0 0, .slice none 0 0, .slice none 0 0, .slice none 0 0]) (t := 29) ?hr ?_; (case hd => rfl); (case hg => rfl); (case hr => first | (go_simp; done) | (go_simp; rfl)); intro p8 hg w2_ hbox hb; have nb_ := Aside0.mk (below_step HWB.out hb); have n6_ := Aside0.mk (blk_below HW6.out hb); have HW8 := Aside0.mk hbox; have GE8 := Aside0.mk (show w.heap.size ≤ p8 by rw [hg]; exact HWB.out.size); have NE68 := Aside0.mk (show p6 ≠ p8 by rw [hg]; exact Nat.ne_of_lt (blk_lt HW6.out)); clear HWB HW6; have HWB := nb_; have HW6 := n6_; clear nb_ n6_ hg hbox hb; obtain ⟨⟨hz0, hz1, hz2, hz3, hz4, hz5, hz6, hz7, hz8, hz9, hz10, hz11, hz12, hz13⟩, ⟨hy0, hy1, hy2, hy3, hy4, hy5, hy6, hy7, hy8, hy9, hy10, hy11, hy12, hy13⟩⟩ := oneC14 HW8.out))
  refine wp_cutw (fun W => OneAt w W p6 p8 #[.int .u8 7, .int .u8 fl, .int .u32 0, .int .u16 0, .int .u16 0, .int .u32 0, .int .u32 0, .int .u32 0, .int .u16 0, .int .u16 0, .slice none 0 0, .slice none 0 0, .slice none 0 0, .slice none 0 0]) (OneAt.start HW8.out HW6.out HWB.out GE6.out GE8.out NE68.out) ?_
  rintro W0 ha_
  clear HW8 HW6 HWB GE6 GE8 NE68 hz0 hy0 hz1 hy1 hz2 hy2 hz3 hy3 hz4 hy4 hz5 hy5 hz6 hy6 hz7 hy7 hz8 hy8 hz9 hy9 hz10 hy10 hz11 hy11 hz12 hy12 hz13 hy13
  have HA := Aside0.mk ha_
  clear ha_
  by_cases h4 : l.length < 4
  · have HE := Aside0.mk (show ¬ l.length = 4 by omega)
    have hdlt4 : decide ((l.length : Int) < 4) = true := decide_eq_true (by omega)
    have hDlt4 : decide (l.length < 4) = true := decide_eq_true (by omega)
    have hqlt4 : (l.length < 4) = True := eq_true (by omega)
    clear h4
    go_upto_region 4 with (first | (go_at_call 60; (with_reducible refine (trunklineref12_least.calls 3 7 4 _ HLE.out).mono ?_); rintro e w3_ ⟨rfl, hd⟩; have hb := hd.below; have na_ := Aside0.mk (show OneAt w w3_ p6 p8 #[.int .u8 7, .int .u8 fl, .int .u32 0, .int .u16 0, .int .u16 0, .int .u32 0, .int .u32 0, .int .u32 0, .int .u16 0, .int .u16 0, .slice none 0 0, .slice none 0 0, .slice none 0 0, .slice none 0 0] from OneAt.next HA.out hb); clear HA; have HA := na_; clear na_; clear hd hb))
    obtain ⟨⟨hz0, hz1, hz2, hz3, hz4, hz5, hz6, hz7, hz8, hz9, hz10, hz11, hz12, hz13⟩, ⟨hy0, hy1, hy2, hy3, hy4, hy5, hy6, hy7, hy8, hy9, hy10, hy11, hy12, hy13⟩⟩ := oneC14 HA.out.b8
    obtain ⟨⟨gz0, gz1, gz2, gz3, gz4, gz5, gz6, gz7, gz8, gz9, gz10, gz11, gz12, gz13⟩, ⟨gy0, gy1, gy2, gy3, gy4, gy5, gy6, gy7, gy8, gy9, gy10, gy11, gy12, gy13⟩⟩ := HA.out.cells6
    have hne := HA.out.ne
    have hne' := HA.out.ne.symm
    go_wp2
    refine bodyPost_ret (results_ct rfl _ _ p6 29 #[.int .u8 7, .int .u8 fl, .int .u32 0, .int .u16 0, .int .u16 0, .int .u32 0, .int .u32 0, .int .u32 0, .int .u16 0, .int .u16 0, .slice none 0 0, .slice none 0 0, .slice none 0 0, .slice none 0 0] (0, 0) _ rfl HA.out.put6.1 Try.underlying29 rfl (by kernel_rfl)) rfl ⟨HA.out.put6.2, ?_⟩
    unfold numberV
    rw [if_neg HE.out]
    exact ⟨_, _, _, _, _, _, _, _, _, _, rfl⟩
  by_cases h5 : 4 < l.length
  · have HE := Aside0.mk (show ¬ l.length = 4 by omega)
    have hdlt4 : decide ((l.length : Int) < 4) = false := decide_eq_false (by omega)
    have hDlt4 : decide (l.length < 4) = false := decide_eq_false (by omega)
    have hqlt4 : (l.length < 4) = False := eq_false (by omega)
    have hdgt4 : decide ((l.length : Int) > 4) = true := decide_eq_true (by omega)
    have hDgt4 : decide (l.length > 4) = true := decide_eq_true (by omega)
    have hEgt4 : decide ((4 : Int) < (l.length : Int)) = true := decide_eq_true (by omega)
    have hFgt4 : decide (4 < l.length) = true := decide_eq_true (by omega)
    have hqgt4 : (4 < l.length) = True := eq_true (by omega)
    clear h4 h5
    go_upto_region 4 with (first | (go_at_call 60; (with_reducible refine (trunklineref12_least.calls 3 7 4 _ HLE.out).mono ?_); rintro e w3_ ⟨rfl, hd⟩; have hb := hd.below; have na_ := Aside0.mk (show OneAt w w3_ p6 p8 #[.int .u8 7, .int .u8 fl, .int .u32 0, .int .u16 0, .int .u16 0, .int .u32 0, .int .u32 0, .int .u32 0, .int .u16 0, .int .u16 0, .slice none 0 0, .slice none 0 0, .slice none 0 0, .slice none 0 0] from OneAt.next HA.out hb); clear HA; have HA := na_; clear na_; clear hd hb) | (go_at_call 61; (with_reducible refine (trunklineref12_isBare.calls 7 false _ HBA.out).mono ?_); rintro e w4_ ⟨rfl, hd⟩; have hb := hd.below; have na_ := Aside0.mk (show OneAt w w4_ p6 p8 #[.int .u8 7, .int .u8 fl, .int .u32 0, .int .u16 0, .int .u16 0, .int .u32 0, .int .u32 0, .int .u32 0, .int .u16 0, .int .u16 0, .slice none 0 0, .slice none 0 0, .slice none 0 0, .slice none 0 0] from OneAt.next HA.out hb); clear HA; have HA := na_; clear na_; clear hd hb))
    obtain ⟨⟨hz0, hz1, hz2, hz3, hz4, hz5, hz6, hz7, hz8, hz9, hz10, hz11, hz12, hz13⟩, ⟨hy0, hy1, hy2, hy3, hy4, hy5, hy6, hy7, hy8, hy9, hy10, hy11, hy12, hy13⟩⟩ := oneC14 HA.out.b8
    obtain ⟨⟨gz0, gz1, gz2, gz3, gz4, gz5, gz6, gz7, gz8, gz9, gz10, gz11, gz12, gz13⟩, ⟨gy0, gy1, gy2, gy3, gy4, gy5, gy6, gy7, gy8, gy9, gy10, gy11, gy12, gy13⟩⟩ := HA.out.cells6
    have hne := HA.out.ne
    have hne' := HA.out.ne.symm
    go_wp2
    refine bodyPost_ret (results_ct rfl _ _ p6 29 #[.int .u8 7, .int .u8 fl, .int .u32 0, .int .u16 0, .int .u16 0, .int .u32 0, .int .u32 0, .int .u32 0, .int .u16 0, .int .u16 0, .slice none 0 0, .slice none 0 0, .slice none 0 0, .slice none 0 0] (0, 0) _ rfl HA.out.put6.1 Try.underlying29 rfl (by kernel_rfl)) rfl ⟨HA.out.put6.2, ?_⟩
    unfold numberV
    rw [if_neg HE.out]
    exact ⟨_, _, _, _, _, _, _, _, _, _, rfl⟩
  have hdlt4 : decide ((l.length : Int) < 4) = false := decide_eq_false (by omega)
  have hDlt4 : decide (l.length < 4) = false := decide_eq_false (by omega)
  have hqlt4 : (l.length < 4) = False := eq_false (by omega)
  have hdgt4 : decide ((l.length : Int) > 4) = false := decide_eq_false (by omega)
  have hDgt4 : decide (l.length > 4) = false := decide_eq_false (by omega)
  have hEgt4 : decide ((4 : Int) < (l.length : Int)) = false := decide_eq_false (by omega)
  have hFgt4 : decide (4 < l.length) = false := decide_eq_false (by omega)
  have hqgt4 : (4 < l.length) = False := eq_false (by omega)
  have HE := Aside0.mk (show l.length = 4 by omega)
  obtain ⟨r0, hr0⟩ : ∃ r, r = numN (l.drop (0 : Int).toNat) 4 := ⟨_, rfl⟩
  have HNr0 := Aside0.mk hr0
  have HA0 := Aside0.mk (show (0 : Int) + 4 ≤ (l.length : Int) by omega)
  clear h4 h5 hr0
  go_upto_region 41 with (first | (go_at_call 60; (with_reducible refine (trunklineref12_least.calls 3 7 4 _ HLE.out).mono ?_); rintro e w3_ ⟨rfl, hd⟩; have hb := hd.below; have na_ := Aside0.mk (show OneAt w w3_ p6 p8 #[.int .u8 7, .int .u8 fl, .int .u32 0, .int .u16 0, .int .u16 0, .int .u32 0, .int .u32 0, .int .u32 0, .int .u16 0, .int .u16 0, .slice none 0 0, .slice none 0 0, .slice none 0 0, .slice none 0 0] from OneAt.next HA.out hb); clear HA; have HA := na_; clear na_; clear hd hb) | (go_at_call 61; (with_reducible refine (trunklineref12_isBare.calls 7 false _ HBA.out).mono ?_); rintro e w4_ ⟨rfl, hd⟩; have hb := hd.below; have na_ := Aside0.mk (show OneAt w w4_ p6 p8 #[.int .u8 7, .int .u8 fl, .int .u32 0, .int .u16 0, .int .u16 0, .int .u32 0, .int .u32 0, .int .u32 0, .int .u16 0, .int .u16 0, .slice none 0 0, .slice none 0 0, .slice none 0 0, .slice none 0 0] from OneAt.next HA.out hb); clear HA; have HA := na_; clear na_; clear hd hb) | (go_at_call 42; (with_reducible refine (rnum4 A0 c0 l 0 r0 _ ?c1_ HC.out HBY.out (by decide) HA0.out HL.out HNr0.out).mono ?_); (case c1_ => exact Kd.C_below HR.out HA.out.bel); rintro e w5_ ⟨rfl, hb⟩; have na_ := Aside0.mk (show OneAt w w5_ p6 p8 #[.int .u8 7, .int .u8 fl, .int .u32 0, .int .u16 0, .int .u16 0, .int .u32 0, .int .u32 0, .int .u32 0, .int .u16 0, .int .u16 0, .slice none 0 0, .slice none 0 0, .slice none 0 0, .slice none 0 0] from OneAt.next HA.out hb); clear HA; have HA := na_; clear na_; have hc2 : w5_.cell? ⟨p8, 2, none⟩ = some (.int .u32 0) := (blk_cell HA.out.b8 2).trans rfl; have hf2 := blk_frozen HA.out.b8 2; clear hb))
  refine wp_cutw (fun W => OneAt w W p6 p8 #[.int .u8 7, .int .u8 fl, .int .u32 r0, .int .u16 0, .int .u16 0, .int .u32 0, .int .u32 0, .int .u32 0, .int .u16 0, .int .u16 0, .slice none 0 0, .slice none 0 0, .slice none 0 0, .slice none 0 0]) (OneAt.put HA.out 2 (.int .u32 r0) rfl) ?_
  rintro W1 ha_
  clear HA
  have HA := Aside0.mk ha_
  clear ha_
  obtain ⟨⟨hz0, hz1, hz2, hz3, hz4, hz5, hz6, hz7, hz8, hz9, hz10, hz11, hz12, hz13⟩, ⟨hy0, hy1, hy2, hy3, hy4, hy5, hy6, hy7, hy8, hy9, hy10, hy11, hy12, hy13⟩⟩ := oneC14 HA.out.b8
  obtain ⟨⟨gz0, gz1, gz2, gz3, gz4, gz5, gz6, gz7, gz8, gz9, gz10, gz11, gz12, gz13⟩, ⟨gy0, gy1, gy2, gy3, gy4, gy5, gy6, gy7, gy8, gy9, gy10, gy11, gy12, gy13⟩⟩ := HA.out.cells6
  have hne := HA.out.ne
  have hne' := HA.out.ne.symm
  go_wp2
  refine bodyPost_ret (results_ct rfl _ _ p6 29 #[.int .u8 7, .int .u8 fl, .int .u32 r0, .int .u16 0, .int .u16 0, .int .u32 0, .int .u32 0, .int .u32 0, .int .u16 0, .int .u16 0, .slice none 0 0, .slice none 0 0, .slice none 0 0, .slice none 0 0] (0, 0) _ rfl HA.out.put6.1 Try.underlying29 rfl (by kernel_rfl)) rfl ⟨HA.out.put6.2, ?_⟩
  unfold numberV
  rw [if_pos HE.out, show numN l 4 = r0 from HNr0.out.symm]
  exact ⟨_, rfl, _, _, _, _, rfl, Kd.R_nil _ _ _ _ _, Kd.R_nil _ _ _ _ _, Kd.R_nil _ _ _ _ _, Kd.R_nil _ _ _ _ _⟩
set_option maxHeartbeats 4000000 in
set_option maxRecDepth 100000 in
theorem rone_data (t fl : Int) (A0 : Option Addr) (c0 : Nat) (l : List Int) (w : World) (hr0 : Kd.C (Kd.int .u8) w A0 l.length l) (hc0 : l.length ≤ c0) (hb : Bytes l) (hl : l.length ≤ 65536) (ht : t = 0) :
    Calls Try.prog 43 #[.int .u8 t, .int .u8 fl, .slice A0 l.length c0] w fun x w' => Below w.heap.size w w' ∧ ROneOut w w' x (dataV t fl l) := by
  have HR := Aside0.mk hr0
  have HC := Aside0.mk hc0
  have HBY := Aside0.mk hb
  have HL := Aside0.mk hl
  clear hr0 hc0 hb hl
  have hu29 := Try.underlying29
  subst ht
  have HLE := Aside0.mk (show trunklineref12_least.f 3 0 = some 13 by rfl)
  have HBA := Aside0.mk (show trunklineref12_isBare.f 0 = some false by rfl)
  go_enter Try.func43, Try.ntmps43
  go_upto_region 2 with (first | ((with_reducible refine gate_dst (N := 6) rfl ?_); (try (refine gate_guard (by rfl) ?_; dsimp only)); refine box_event ?hg (N := 6) ?hd (cs := #[.int .u8 0, .int .u8 0, .int .u32 0, .int .u16 0, .int .u16 0, .int .u32 0, .int .u32 0, .int .u32 0, .int .u16 0, .int .u16 0, .slice none 0 0, .slice none 0 0, .slice none 0 0, .slice none 0 0]) (t := 29) ?hr ?_; (case hd => rfl); (case hg => rfl); (case hr => first | (go_simp; done) | (go_simp; rfl)); intro p6 hg w1_ hbox hb; have HWB := Aside0.mk hb; have HW6 := Aside0.mk hbox; have GE6 := Aside0.mk (show w.heap.size ≤ p6 by rw [hg]; exact Nat.le_refl _); clear hg hbox hb) | ((with_reducible refine gate_dst (N := 8) rfl ?_); (try (refine gate_guard (by rfl) ?_; dsimp only)); refine box_event ?hg (N := 8) ?hd (cs := #[.int .u8 0, .int .u8 0, .int .u32 0, .int .u16 0, .int .u16 0, .int .u32 0, .int .u32 0, .int .u32 0, .int .u16 0, .int .u16 0, .slice none 0 0, .slice none 0 0, .slice none 0 0, .slice none 0 0]) (t := 29) ?hr ?_; (case hd => rfl); (case hg => rfl); (case hr => first | (go_simp; done) | (go_simp; rfl)); intro p8 hg w2_ hbox hb; have nb_ := Aside0.mk (below_step HWB.out hb); have n6_ := Aside0.mk (blk_below HW6.out hb); have HW8 := Aside0.mk hbox; have GE8 := Aside0.mk (show w.heap.size ≤ p8 by rw [hg]; exact HWB.out.size); have NE68 := Aside0.mk (show p6 ≠ p8 by rw [hg]; exact Nat.ne_of_lt (blk_lt HW6.out)); clear HWB HW6; have HWB := nb_; have HW6 := n6_; clear nb_ n6_ hg hbox hb; obtain ⟨⟨hz0, hz1, hz2, hz3, hz4, hz5, hz6, hz7, hz8, hz9, hz10, hz11, hz12, hz13⟩, ⟨hy0, hy1, hy2, hy3, hy4, hy5, hy6, hy7, hy8, hy9, hy10, hy11, hy12, hy13⟩⟩ := oneC14 HW8.out))
  refine wp_cutw (fun W => OneAt w W p6 p8 #[.int .u8 0, .int .u8 fl, .int .u32 0, .int .u16 0, .int .u16 0, .int .u32 0, .int .u32 0, .int .u32 0, .int .u16 0, .int .u16 0, .slice none 0 0, .slice none 0 0, .slice none 0 0, .slice none 0 0]) (OneAt.start HW8.out HW6.out HWB.out GE6.out GE8.out NE68.out) ?_
  rintro W0 ha_
  clear HW8 HW6 HWB GE6 GE8 NE68 hz0 hy0 hz1 hy1 hz2 hy2 hz3 hy3 hz4 hy4 hz5 hy5 hz6 hy6 hz7 hy7 hz8 hy8 hz9 hy9 hz10 hy10 hz11 hy11 hz12 hy12 hz13 hy13
  have HA := Aside0.mk ha_
  clear ha_
  by_cases h4 : l.length < 13
  · have HE := Aside0.mk h4
    have hdlt13 : decide ((l.length : Int) < 13) = true := decide_eq_true (by omega)
    have hDlt13 : decide (l.length < 13) = true := decide_eq_true (by omega)
    have hqlt13 : (l.length < 13) = True := eq_true (by omega)
    clear h4
    go_upto_region 4 with (first | (go_at_call 60; (with_reducible refine (trunklineref12_least.calls 3 0 13 _ HLE.out).mono ?_); rintro e w3_ ⟨rfl, hd⟩; have hb := hd.below; have na_ := Aside0.mk (show OneAt w w3_ p6 p8 #[.int .u8 0, .int .u8 fl, .int .u32 0, .int .u16 0, .int .u16 0, .int .u32 0, .int .u32 0, .int .u32 0, .int .u16 0, .int .u16 0, .slice none 0 0, .slice none 0 0, .slice none 0 0, .slice none 0 0] from OneAt.next HA.out hb); clear HA; have HA := na_; clear na_; clear hd hb))
    obtain ⟨⟨hz0, hz1, hz2, hz3, hz4, hz5, hz6, hz7, hz8, hz9, hz10, hz11, hz12, hz13⟩, ⟨hy0, hy1, hy2, hy3, hy4, hy5, hy6, hy7, hy8, hy9, hy10, hy11, hy12, hy13⟩⟩ := oneC14 HA.out.b8
    obtain ⟨⟨gz0, gz1, gz2, gz3, gz4, gz5, gz6, gz7, gz8, gz9, gz10, gz11, gz12, gz13⟩, ⟨gy0, gy1, gy2, gy3, gy4, gy5, gy6, gy7, gy8, gy9, gy10, gy11, gy12, gy13⟩⟩ := HA.out.cells6
    have hne := HA.out.ne
    have hne' := HA.out.ne.symm
    go_wp2
    refine bodyPost_ret (results_ct rfl _ _ p6 29 #[.int .u8 0, .int .u8 fl, .int .u32 0, .int .u16 0, .int .u16 0, .int .u32 0, .int .u32 0, .int .u32 0, .int .u16 0, .int .u16 0, .slice none 0 0, .slice none 0 0, .slice none 0 0, .slice none 0 0] (0, 0) _ rfl HA.out.put6.1 Try.underlying29 rfl (by kernel_rfl)) rfl ⟨HA.out.put6.2, ?_⟩
    unfold dataV
    rw [if_pos HE.out]
    exact ⟨_, _, _, _, _, _, _, _, _, _, rfl⟩
  have hdlt13 : decide ((l.length : Int) < 13) = false := decide_eq_false (by omega)
  have hDlt13 : decide (l.length < 13) = false := decide_eq_false (by omega)
  have hqlt13 : (l.length < 13) = False := eq_false (by omega)
  obtain ⟨r0, hr0⟩ : ∃ r, r = numN (l.drop (0 : Int).toNat) 4 := ⟨_, rfl⟩
  have HNr0 := Aside0.mk hr0
  have HA0 := Aside0.mk (show (0 : Int) + 4 ≤ (l.length : Int) by omega)
  obtain ⟨r1, hr1⟩ : ∃ r, r = numN (l.drop (4 : Int).toNat) 2 := ⟨_, rfl⟩
  have HNr1 := Aside0.mk hr1
  have HA4 := Aside0.mk (show (4 : Int) + 2 ≤ (l.length : Int) by omega)
  have hwr1 : IntKind.u16.wrap r1 = r1 := u16w (by rw [hr1]; exact num2_range (HBY.out.drop _))
  have hmr1 : r1 % 65536 = r1 := by have := num2_range (HBY.out.drop (4 : Int).toNat); rw [← hr1] at this; omega
  obtain ⟨r2, hr2⟩ : ∃ r, r = numN (l.drop (6 : Int).toNat) 2 := ⟨_, rfl⟩
  have HNr2 := Aside0.mk hr2
  have HA6 := Aside0.mk (show (6 : Int) + 2 ≤ (l.length : Int) by omega)
  have hwr2 : IntKind.u16.wrap r2 = r2 := u16w (by rw [hr2]; exact num2_range (HBY.out.drop _))
  have hmr2 : r2 % 65536 = r2 := by have := num2_range (HBY.out.drop (6 : Int).toNat); rw [← hr2] at this; omega
  obtain ⟨r3, hr3⟩ : ∃ r, r = numN (l.drop (8 : Int).toNat) 4 := ⟨_, rfl⟩
  have HNr3 := Aside0.mk hr3
  have HA8 := Aside0.mk (show (8 : Int) + 4 ≤ (l.length : Int) by omega)
  obtain ⟨y, hy⟩ : ∃ y, y = l.drop 12 := ⟨_, rfl⟩
  have HYL := Aside0.mk (show y.length = l.length - (12 : Int).toNat by rw [hy, List.length_drop]; rfl)
  obtain ⟨i0, hi0, _, hsz, _⟩ := info_parts info5
  have hcut := cut_from (P := Try.prog) 27 5 .i64 Try.underlying27 hi0 1 hsz A0 l.length c0 12 (by decide) (by omega)
  obtain ⟨A2, hA2⟩ : ∃ A1, A1 = (if c0 = (12 : Int).toNat then A0 else A0.map (·.add ((12 : Int).toNat * 1))) := ⟨_, rfl⟩
  obtain ⟨c2, hc2⟩ : ∃ c1, c1 = c0 - (12 : Int).toNat := ⟨_, rfl⟩
  rw [← HYL.out, ← hA2, ← hc2] at hcut
  have HCM := Aside0.mk (show ∀ W, Below w.heap.size w W → Kd.C (Kd.int .u8) W A2 y.length y by
    intro W hW
    have h := Kd.C_drop (m := 12) (c := c0) (Kd.C_below HR.out hW) (by omega) HC.out
    rw [hA2, hy]; exact h)
  have HCC := Aside0.mk (show y.length ≤ c2 by rw [hc2, HYL.out]; have := HC.out; omega)
  have HY := Aside0.mk hy
  clear hy hi0 hsz hA2 hc2
  have HYS := Aside0.mk (show y.length ≤ 65536 by rw [HYL.out]; have := HL.out; omega)
  have HSP := Aside0.mk (show dataV 0 fl l = .ok ⟨0, fl, r0, r1, r2, r3, 0, 0, 0, 0, [], [], [], y⟩ by
    unfold dataV
    rw [if_neg h4]
    simp only [List.drop_drop]
    rw [hr0, hr1, hr2, hr3, HY.out]
    rfl)
  clear h4 hr0 hr1 hr2 hr3
  go_upto_region 41 with (first | (go_at_call 60; (with_reducible refine (trunklineref12_least.calls 3 0 13 _ HLE.out).mono ?_); rintro e w3_ ⟨rfl, hd⟩; have hb := hd.below; have na_ := Aside0.mk (show OneAt w w3_ p6 p8 #[.int .u8 0, .int .u8 fl, .int .u32 0, .int .u16 0, .int .u16 0, .int .u32 0, .int .u32 0, .int .u32 0, .int .u16 0, .int .u16 0, .slice none 0 0, .slice none 0 0, .slice none 0 0, .slice none 0 0] from OneAt.next HA.out hb); clear HA; have HA := na_; clear na_; clear hd hb) | (go_at_call 61; (with_reducible refine (trunklineref12_isBare.calls 0 false _ HBA.out).mono ?_); rintro e w4_ ⟨rfl, hd⟩; have hb := hd.below; have na_ := Aside0.mk (show OneAt w w4_ p6 p8 #[.int .u8 0, .int .u8 fl, .int .u32 0, .int .u16 0, .int .u16 0, .int .u32 0, .int .u32 0, .int .u32 0, .int .u16 0, .int .u16 0, .slice none 0 0, .slice none 0 0, .slice none 0 0, .slice none 0 0] from OneAt.next HA.out hb); clear HA; have HA := na_; clear na_; clear hd hb) | (go_at_call 42; (with_reducible refine (rnum4 A0 c0 l 0 r0 _ ?c1_ HC.out HBY.out (by decide) HA0.out HL.out HNr0.out).mono ?_); (case c1_ => exact Kd.C_below HR.out HA.out.bel); rintro e w5_ ⟨rfl, hb⟩; have na_ := Aside0.mk (show OneAt w w5_ p6 p8 #[.int .u8 0, .int .u8 fl, .int .u32 0, .int .u16 0, .int .u16 0, .int .u32 0, .int .u32 0, .int .u32 0, .int .u16 0, .int .u16 0, .slice none 0 0, .slice none 0 0, .slice none 0 0, .slice none 0 0] from OneAt.next HA.out hb); clear HA; have HA := na_; clear na_; have hc2 : w5_.cell? ⟨p8, 2, none⟩ = some (.int .u32 0) := (blk_cell HA.out.b8 2).trans rfl; have hf2 := blk_frozen HA.out.b8 2; clear hb) | (go_at_call 42; (with_reducible refine (rnum2 A0 c0 l 4 r1 _ ?c1_ HC.out HBY.out (by decide) HA4.out HL.out HNr1.out).mono ?_); (case c1_ => exact Kd.C_below HR.out (OneAt.put HA.out 2 (.int .u32 r0) rfl).bel); rintro e w6_ ⟨rfl, hb⟩; have na_ := Aside0.mk (show OneAt w w6_ p6 p8 #[.int .u8 0, .int .u8 fl, .int .u32 r0, .int .u16 0, .int .u16 0, .int .u32 0, .int .u32 0, .int .u32 0, .int .u16 0, .int .u16 0, .slice none 0 0, .slice none 0 0, .slice none 0 0, .slice none 0 0] from OneAt.next (OneAt.put HA.out 2 (.int .u32 r0) rfl) hb); clear HA; have HA := na_; clear na_; have hc3 : w6_.cell? ⟨p8, 3, none⟩ = some (.int .u16 0) := (blk_cell HA.out.b8 3).trans rfl; have hf3 := blk_frozen HA.out.b8 3; clear hb) | (go_at_call 42; (with_reducible refine (rnum2 A0 c0 l 6 r2 _ ?c1_ HC.out HBY.out (by decide) HA6.out HL.out HNr2.out).mono ?_); (case c1_ => exact Kd.C_below HR.out (OneAt.put HA.out 3 (.int .u16 r1) rfl).bel); rintro e w7_ ⟨rfl, hb⟩; have na_ := Aside0.mk (show OneAt w w7_ p6 p8 #[.int .u8 0, .int .u8 fl, .int .u32 r0, .int .u16 r1, .int .u16 0, .int .u32 0, .int .u32 0, .int .u32 0, .int .u16 0, .int .u16 0, .slice none 0 0, .slice none 0 0, .slice none 0 0, .slice none 0 0] from OneAt.next (OneAt.put HA.out 3 (.int .u16 r1) rfl) hb); clear HA; have HA := na_; clear na_; have hc4 : w7_.cell? ⟨p8, 4, none⟩ = some (.int .u16 0) := (blk_cell HA.out.b8 4).trans rfl; have hf4 := blk_frozen HA.out.b8 4; clear hb) | (go_at_call 42; (with_reducible refine (rnum4 A0 c0 l 8 r3 _ ?c1_ HC.out HBY.out (by decide) HA8.out HL.out HNr3.out).mono ?_); (case c1_ => exact Kd.C_below HR.out (OneAt.put HA.out 4 (.int .u16 r2) rfl).bel); rintro e w8_ ⟨rfl, hb⟩; have na_ := Aside0.mk (show OneAt w w8_ p6 p8 #[.int .u8 0, .int .u8 fl, .int .u32 r0, .int .u16 r1, .int .u16 r2, .int .u32 0, .int .u32 0, .int .u32 0, .int .u16 0, .int .u16 0, .slice none 0 0, .slice none 0 0, .slice none 0 0, .slice none 0 0] from OneAt.next (OneAt.put HA.out 4 (.int .u16 r2) rfl) hb); clear HA; have HA := na_; clear na_; have hc5 : w8_.cell? ⟨p8, 5, none⟩ = some (.int .u32 0) := (blk_cell HA.out.b8 5).trans rfl; have hf5 := blk_frozen HA.out.b8 5; clear hb) | (refine Kd.R_append_rows (Kd.int .u8) (w0 := w) w.heap.size rfl (.tmp 58) (.tmp 60) 27 5 (.int .u8 0) 1 rfl Try.underlying27 info5 rfl (by decide) (by omega) (.slice (some ⟨w8_.heap.size, 0, none⟩) 0 0) [] y _ _ _ (fun k => k ≠ p6 ∧ k ≠ p8) (fun _ => False) rfl rfl ?aO ?aR (fun _ _ h => h) (fun _ h => h.elim) ?aF ?aB ?aS ?aL ?_; (case aO => exact lit2 ((w8_).setCell ⟨p8, 5, none⟩ (.int .u32 r3)) w.heap.size _ _ (szs _ _ _) ⟨Nat.ne_of_gt (blk_lt (OneAt.put HA.out 5 (.int .u32 r3) rfl).b6), Nat.ne_of_gt (blk_lt (OneAt.put HA.out 5 (.int .u32 r3) rfl).b8)⟩ (OneAt.put HA.out 5 (.int .u32 r3) rfl).bel.size); (case aR => exact HCM.out _ (OneAt.alloc (OneAt.put HA.out 5 (.int .u32 r3) rfl) (.cells #[] 5)).bel); (case aF => exact fun k hk => ⟨fun e_ => Nat.not_lt.mpr hk (by rw [e_]; exact blk_lt (OneAt.alloc (OneAt.put HA.out 5 (.int .u32 r3) rfl) (.cells #[] 5)).b6), fun e_ => Nat.not_lt.mpr hk (by rw [e_]; exact blk_lt (OneAt.alloc (OneAt.put HA.out 5 (.int .u32 r3) rfl) (.cells #[] 5)).b8)⟩); (case aB => exact (OneAt.alloc (OneAt.put HA.out 5 (.int .u32 r3) rfl) (.cells #[] 5)).bel); (case aS => exact (OneAt.alloc (OneAt.put HA.out 5 (.int .u32 r3) rfl) (.cells #[] 5)).bel.size); (case aL => have := HL.out; (try have := HYS.out); simp only [List.length_nil]; omega); intro v_ w9_ ho hb hg hat; rw [List.nil_append] at ho; obtain ⟨A13, c13, e_⟩ := Kd.R_slice ho; subst e_; have na_ := Aside0.mk (show OneAt w w9_ p6 p8 #[.int .u8 0, .int .u8 fl, .int .u32 r0, .int .u16 r1, .int .u16 r2, .int .u32 r3, .int .u32 0, .int .u32 0, .int .u16 0, .int .u16 0, .slice none 0 0, .slice none 0 0, .slice none 0 0, .slice none 0 0] from OneAt.grown (OneAt.alloc (OneAt.put HA.out 5 (.int .u32 r3) rfl) (.cells #[] 5)) hg hb (ne_lit _ _ (Nat.lt_of_lt_of_eq (blk_lt (OneAt.put HA.out 5 (.int .u32 r3) rfl).b6) (szs _ _ _).symm)) (ne_lit _ _ (Nat.lt_of_lt_of_eq (blk_lt (OneAt.put HA.out 5 (.int .u32 r3) rfl).b8) (szs _ _ _).symm))); have HO13 := Aside0.mk ho; clear HA; have HA := na_; clear na_ ho hb hg hat; have hc13 : w9_.cell? ⟨p8, 13, none⟩ = some (.slice none 0 0) := (blk_cell HA.out.b8 13).trans rfl; have hf13 := blk_frozen HA.out.b8 13))
  refine wp_cutw (fun W => OneAt w W p6 p8 #[.int .u8 0, .int .u8 fl, .int .u32 r0, .int .u16 r1, .int .u16 r2, .int .u32 r3, .int .u32 0, .int .u32 0, .int .u16 0, .int .u16 0, .slice none 0 0, .slice none 0 0, .slice none 0 0, .slice A13 y.length c13] ∧ Kd.R (Kd.int .u8) 5 W w.heap.size (fun k => k ≠ p6 ∧ k ≠ p8) (.slice A13 y.length c13) y) ⟨(OneAt.put HA.out 13 (.slice A13 y.length c13) rfl), (Kd.R_far (p := ⟨p8, 13, none⟩) HO13.out (fun _ hk => hk.2) (.slice A13 y.length c13))⟩ ?_
  rintro W1 ⟨ha_, hr0_⟩
  clear HA HO13
  have HA := Aside0.mk ha_
  have HO13 := Aside0.mk hr0_
  clear ha_ hr0_
  obtain ⟨⟨hz0, hz1, hz2, hz3, hz4, hz5, hz6, hz7, hz8, hz9, hz10, hz11, hz12, hz13⟩, ⟨hy0, hy1, hy2, hy3, hy4, hy5, hy6, hy7, hy8, hy9, hy10, hy11, hy12, hy13⟩⟩ := oneC14 HA.out.b8
  obtain ⟨⟨gz0, gz1, gz2, gz3, gz4, gz5, gz6, gz7, gz8, gz9, gz10, gz11, gz12, gz13⟩, ⟨gy0, gy1, gy2, gy3, gy4, gy5, gy6, gy7, gy8, gy9, gy10, gy11, gy12, gy13⟩⟩ := HA.out.cells6
  have hne := HA.out.ne
  have hne' := HA.out.ne.symm
  go_wp2
  refine bodyPost_ret (results_ct rfl _ _ p6 29 #[.int .u8 0, .int .u8 fl, .int .u32 r0, .int .u16 r1, .int .u16 r2, .int .u32 r3, .int .u32 0, .int .u32 0, .int .u16 0, .int .u16 0, .slice none 0 0, .slice none 0 0, .slice none 0 0, .slice A13 y.length c13] (0, 0) _ rfl HA.out.put6.1 Try.underlying29 rfl (by kernel_rfl)) rfl ⟨HA.out.put6.2, ?_⟩
  rw [HSP.out]
  exact ⟨_, rfl, _, _, _, _, rfl, Kd.R_nil _ _ _ _ _, Kd.R_nil _ _ _ _ _, Kd.R_nil _ _ _ _ _, R_set6 HO13.out⟩
end Go.Proofs.Ytaahkggbjpdofaa.M
end
