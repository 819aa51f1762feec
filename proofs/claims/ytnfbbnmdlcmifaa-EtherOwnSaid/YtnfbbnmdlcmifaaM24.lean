-- Printed by this session's mp.py over the kit's print (turned in memory). Not trusted: Lean checks it.
import Derived.Test.YtnfbbnmdlcmifaaM0
import Derived.Test.YtnfbbnmdlcmifaaM5
import Derived.Test.YtnfbbnmdlcmifaaM8
import Derived.Test.YtnfbbnmdlcmifaaM10
import Derived.Test.YtnfbbnmdlcmifaaHTake
namespace Go.Proofs.Ytnfbbnmdlcmifaa.M
open Go.RowKit Go.Proofs.YtnfbbnmdlcmifaaW.PrintWords Go.Proofs.YtnfbbnmdlcmifaaW.PrintLast Go.Proofs.YtnfbbnmdlcmifaaW.PrintMore
attribute [local go_sem] max2_int min2_int max_two min_two max_three min_three max_four min_four   -- for this text's walks alone
set_option linter.unusedVariables false
set_option linter.unusedSimpArgs false

/-! ### trunklinelaw08_EtherOwn: function 9 -/
mutual
def trunklinelaw08_EtherOwn.l0 : Nat → ByteArray → List Int → Int → Int → Int → Int → List Int → Option (Bool)
  | 0, _, _, _, _, _, _, _ => none
  | k + 1, x3, x4, x6, x351000, x351001, x351002, x351003 => if x6 < (x4.length : Int) then (if 0 ≤ x6 then (trunklinelaw08_EtherOwn.l0 k x3 (x4.set (x6 : Int).toNat (Go.bits .xor .u8 (rd x4 x6) 90)) (wrap64 (x6 + 1)) x351000 x351001 x351002 x351003) else (none)) else ((trunklineref08_Put.f k x351000 x351001 x351002 x351003).bind fun bt357 => ((ether_Take.f k bt357.1).bind fun bt361 => (trunklinelaw08_EtherOwn.l1 k x3 bt357.1 0 x351000 x351001 x351002 x351003 bt361.1 bt361.2.1 bt361.2.2.1 bt361.2.2.2.1)))
def trunklinelaw08_EtherOwn.l1 : Nat → ByteArray → List Int → Int → Int → Int → Int → List Int → Int → Int → Int → List Int → Option (Bool)
  | 0, _, _, _, _, _, _, _, _, _, _, _ => none
  | k + 1, x3, x7, x11, x351000, x351001, x351002, x351003, x369000, x369001, x369002, x369003 => if x11 < (x369003.length : Int) then (if 0 ≤ x11 then (trunklinelaw08_EtherOwn.l1 k x3 x7 (wrap64 (x11 + 1)) x351000 x351001 x351002 x351003 x369000 x369001 x369002 (x369003.set (x11 : Int).toNat (Go.bits .xor .u8 (rd x369003 x11) 90))) else (none)) else ((trunklineref08_Put.f k x351000 x351001 x351002 x351003).bind fun bt371 => ((trunklinelaw08_live.f k).bind fun t375 => (if t375 = true then (if (strOfNums x351003).toList = x3.toList then (some ((strOfNums x7).toList == (strOfNums bt371.1).toList)) else (some false)) else (some false))))
end
def trunklinelaw08_EtherOwn.f (k : Nat) (a0_0 : Int) (a0_1 : Int) (a0_2 : Int) (l0_3 : List Int) : Option (Bool) := (ether_Put.f k a0_0 a0_1 a0_2 l0_3).bind fun bt351 => (trunklinelaw08_EtherOwn.l0 k (strOfNums l0_3) bt351.1 0 a0_0 a0_1 a0_2 l0_3)
theorem trunklinelaw08_EtherOwn.mono_l : ∀ k, (∀ y0 y1 y2 y3 y4 y5 y6, LeO (trunklinelaw08_EtherOwn.l0 k y0 y1 y2 y3 y4 y5 y6) (trunklinelaw08_EtherOwn.l0 (k + 1) y0 y1 y2 y3 y4 y5 y6)) ∧ (∀ y0 y1 y2 y3 y4 y5 y6 y7 y8 y9 y10, LeO (trunklinelaw08_EtherOwn.l1 k y0 y1 y2 y3 y4 y5 y6 y7 y8 y9 y10) (trunklinelaw08_EtherOwn.l1 (k + 1) y0 y1 y2 y3 y4 y5 y6 y7 y8 y9 y10))
  | 0 => ⟨fun _ _ _ _ _ _ _ r h => by simp [trunklinelaw08_EtherOwn.l0] at h, fun _ _ _ _ _ _ _ _ _ _ _ r h => by simp [trunklinelaw08_EtherOwn.l1] at h⟩
  | k + 1 => by
    obtain ⟨ih0, ih1⟩ := trunklinelaw08_EtherOwn.mono_l k
    refine ⟨?_, ?_⟩
    · intro y0 y1 y2 y3 y4 y5 y6
      unfold trunklinelaw08_EtherOwn.l0
      repeat' first
      | (with_reducible exact ih0 _ _ _ _ _ _ _)
      | (with_reducible exact ih1 _ _ _ _ _ _ _ _ _ _ _)
      | (with_reducible exact ether_Put.mono _ _ _ _ _)
      | (with_reducible exact ether_Take.mono _ _)
      | (with_reducible exact trunklinelaw08_live.mono _)
      | (with_reducible exact trunklineref08_Put.mono _ _ _ _ _)
      | (with_reducible exact LeO.refl _)
      | (with_reducible exact LeO.none _)
      | (with_reducible refine LeO.ite ?_ ?_)
      | (with_reducible refine LeO.bind ?_ (fun _ => ?_))
      | exact ih0 _ _ _ _ _ _ _
      | exact ih1 _ _ _ _ _ _ _ _ _ _ _
      | exact ether_Put.mono _ _ _ _ _
      | exact ether_Take.mono _ _
      | exact trunklinelaw08_live.mono _
      | exact trunklineref08_Put.mono _ _ _ _ _
      | exact LeO.none _
      | refine LeO.ite ?_ ?_
      | refine LeO.bind ?_ (fun _ => ?_)
    · intro y0 y1 y2 y3 y4 y5 y6 y7 y8 y9 y10
      unfold trunklinelaw08_EtherOwn.l1
      repeat' first
      | (with_reducible exact ih0 _ _ _ _ _ _ _)
      | (with_reducible exact ih1 _ _ _ _ _ _ _ _ _ _ _)
      | (with_reducible exact ether_Put.mono _ _ _ _ _)
      | (with_reducible exact ether_Take.mono _ _)
      | (with_reducible exact trunklinelaw08_live.mono _)
      | (with_reducible exact trunklineref08_Put.mono _ _ _ _ _)
      | (with_reducible exact LeO.refl _)
      | (with_reducible exact LeO.none _)
      | (with_reducible refine LeO.ite ?_ ?_)
      | (with_reducible refine LeO.bind ?_ (fun _ => ?_))
      | exact ih0 _ _ _ _ _ _ _
      | exact ih1 _ _ _ _ _ _ _ _ _ _ _
      | exact ether_Put.mono _ _ _ _ _
      | exact ether_Take.mono _ _
      | exact trunklinelaw08_live.mono _
      | exact trunklineref08_Put.mono _ _ _ _ _
      | exact LeO.none _
      | refine LeO.ite ?_ ?_
      | refine LeO.bind ?_ (fun _ => ?_)
theorem trunklinelaw08_EtherOwn.mono : ∀ a0 a1 a2 a3 k, LeO (trunklinelaw08_EtherOwn.f k a0 a1 a2 a3) (trunklinelaw08_EtherOwn.f (k + 1) a0 a1 a2 a3) := by
  intro a0 a1 a2 a3 k
  obtain ⟨ih0, ih1⟩ := trunklinelaw08_EtherOwn.mono_l k
  unfold trunklinelaw08_EtherOwn.f
  repeat' first
      | (with_reducible exact ih0 _ _ _ _ _ _ _)
      | (with_reducible exact ih1 _ _ _ _ _ _ _ _ _ _ _)
      | (with_reducible exact ether_Put.mono _ _ _ _ _)
      | (with_reducible exact ether_Take.mono _ _)
      | (with_reducible exact trunklinelaw08_live.mono _)
      | (with_reducible exact trunklineref08_Put.mono _ _ _ _ _)
      | (with_reducible exact LeO.refl _)
      | (with_reducible exact LeO.none _)
      | (with_reducible refine LeO.ite ?_ ?_)
      | (with_reducible refine LeO.bind ?_ (fun _ => ?_))
      | exact ih0 _ _ _ _ _ _ _
      | exact ih1 _ _ _ _ _ _ _ _ _ _ _
      | exact ether_Put.mono _ _ _ _ _
      | exact ether_Take.mono _ _
      | exact trunklinelaw08_live.mono _
      | exact trunklineref08_Put.mono _ _ _ _ _
      | exact LeO.none _
      | refine LeO.ite ?_ ?_
      | refine LeO.bind ?_ (fun _ => ?_)
set_option maxHeartbeats 8000000 in
set_option maxRecDepth 100000 in
theorem trunklinelaw08_EtherOwn.calls (k : Nat) (a0_0 : Int) (a0_1 : Int) (a0_2 : Int) (A0_3 : Option Addr) (c0_3 : Nat) (l0_3 : List Int) (r : Bool) (w : World) (hr0_3 : Kd.C (Kd.int .u8) w A0_3 l0_3.length l0_3) (hc0_3 : l0_3.length ≤ c0_3) (h : trunklinelaw08_EtherOwn.f k a0_0 a0_1 a0_2 l0_3 = some r) :
    Calls Try.prog 9 #[.agg #[.int .u64 a0_0, .int .u64 a0_1, .int .u16 a0_2, .slice A0_3 l0_3.length c0_3]] w fun e w' => e = .returned (.bool r) ∧ Below w.heap.size w w' := by
  have hu26 := Try.underlying26
  have HR0_3 := Aside0.mk hr0_3
  have HC0_3 := Aside0.mk hc0_3
  clear hr0_3 hc0_3
  have HB := Aside0.mk (Below.refl w.heap.size w)
  have H : ((ether_Put.f k a0_0 a0_1 a0_2 l0_3).bind fun bt351 => (trunklinelaw08_EtherOwn.l0 k (strOfNums l0_3) bt351.1 0 a0_0 a0_1 a0_2 l0_3)) = some r := h
  clear h
  replace H := Option.bind_eq_some_iff.mp H
  obtain ⟨⟨t351, t354⟩, A20, H⟩ := H
  replace H : (trunklinelaw08_EtherOwn.l0 k (strOfNums l0_3) t351 0 a0_0 a0_1 a0_2 l0_3) = some r := H
  have A2 := Aside0.mk A20
  clear A20
  have H' := Aside0.mk H
  clear H
  go_enter Try.func9, Try.ntmps9
  go_wp2_with (first | ((with_reducible refine gate_dst (N := 1) rfl ?_); refine box_event ?hg (N := 1) ?hd (cs := #[.int .u64 a0_0, .int .u64 a0_1, .int .u16 a0_2, .slice A0_3 l0_3.length c0_3]) (t := 26) ?hr ?_; (case hd => rfl); (case hg => rfl); (case hr => first | (go_simp; done) | (go_simp; rfl)); intro gb350 hg w3 hbox hb; have n0_ := Aside0.mk (below_step (by repeat (first | (with_reducible first | exact HB.out | apply below_alloc | apply pw_below_drewN | apply below_drew1) | exact HB.out)) hb); have n1_ := Aside0.mk (hbox); have n2_ := Aside0.mk ((by rw [hg]; exact (below_size (by repeat (first | (with_reducible first | exact HB.out | apply below_alloc | apply pw_below_drewN | apply below_drew1) | exact HB.out))) : w.heap.size ≤ gb350)); have n3_ := Aside0.mk ((by rw [hg]; exact (below_size (by repeat (first | (with_reducible first | exact HB.out | apply below_alloc | apply pw_below_drewN | apply below_drew1) | exact HB.out))) : w.heap.size ≤ gb350)); clear HB; have HB := n0_; have BK350 := n1_; have GW350 := n2_; have GE350 := n3_; clear n0_ n1_ n2_ n3_; clear hb hbox hg; have hcz4_0 : w3.cell? ⟨gb350, 0, none⟩ = some (.int .u64 a0_0) := (blk_cell BK350.out 0).trans rfl; have hcz4_1 : w3.cell? ⟨gb350, 1, none⟩ = some (.int .u64 a0_1) := (blk_cell BK350.out 1).trans rfl; have hcz4_2 : w3.cell? ⟨gb350, 2, none⟩ = some (.int .u16 a0_2) := (blk_cell BK350.out 2).trans rfl; have hcz4_3 : w3.cell? ⟨gb350, 3, none⟩ = some (.slice A0_3 l0_3.length c0_3) := (blk_cell BK350.out 3).trans rfl; have hfz4_0 := blk_frozen BK350.out 0; have hfz4_1 := blk_frozen BK350.out 1; have hfz4_2 := blk_frozen BK350.out 2; have hfz4_3 := blk_frozen BK350.out 3; have hcv5 := Kd.C_string (P := Try.prog) (A := A0_3) (c := c0_3) Try.underlying24 Try.underlying5 Try.underlying9 (Kd.C_below HR0_3.out HB.out)) | ((with_reducible refine gate_callee (f := 10) rfl ?_); refine goesL_ (some 19) rfl rfl Try.func10 (by kernel_rfl) rfl #[.agg #[.int .u64 a0_0, .int .u64 a0_1, .int .u16 a0_2, .slice A0_3 l0_3.length c0_3]] rfl (by (try simp only [List.map_toArray, List.map_cons, List.map_nil]); first | done | rfl | (simp only [List.length_drop, List.length_take]; rfl)) ?_; (with_reducible refine (ether_Put.calls k a0_0 a0_1 a0_2 _ _ l0_3 t351 t354 _ ?side1 ?side2 A2.out).mono ?_); (case side1 => repeat (first | exact (Kd.C_below HR0_3.out HB.out) | (with_reducible refine Kd.C_alloc ?_ _) | (with_reducible refine Kd.C_drewN ?_ _) | (with_reducible refine Kd.C_drew ?_))); (case side2 => exact HC0_3.out); rintro e w6 ⟨v352, rfl, ho0, hb⟩; refine ⟨_, rfl, ?_⟩; have n0_ := Aside0.mk (Kd.R_lower ho0 (below_size (by repeat (first | (with_reducible first | exact HB.out | apply below_alloc | apply pw_below_drewN | apply below_drew1 | refine below_set ?_ GE350.out) | exact HB.out)))); have n1_ := Aside0.mk (blk_below (g := gb350) (o := .cells #[.int .u64 a0_0, .int .u64 a0_1, .int .u16 a0_2, .slice A0_3 l0_3.length c0_3] 26 (0, 0)) (by (with_reducible repeat (first | refine blk_drewN ?_ _ | refine blk_drew ?_ | refine blk_alloc ?_ _)); exact BK350.out) hb); have n2_ := Aside0.mk (below_step (by repeat (first | (with_reducible first | exact HB.out | apply below_alloc | apply pw_below_drewN | apply below_drew1 | refine below_set ?_ GE350.out) | exact HB.out)) hb); clear BK350; clear HB; have HO353 := n0_; have BK350 := n1_; have HB := n2_; clear n0_ n1_ n2_; (try clear hb); (try clear hb2); (try clear hk); (try clear hi); (try clear ho0)))
  go_loopg [6] k (fun kq v6 w' => ∃ (x4_1 : List Int) (x6_1 : Int), v6 = .int .i64 x6_1 ∧ Aside0 (trunklinelaw08_EtherOwn.l0 kq (strOfNums l0_3) x4_1 x6_1 a0_0 a0_1 a0_2 l0_3 = some r) ∧ Aside0 (kq ≤ k) ∧ Aside0 (Kd.R (Kd.int .u8) 5 w' w.heap.size (fun _ => True) v352 x4_1) ∧ Aside0 (w'.heap[gb350]? = some (.cells #[.int .u64 a0_0, .int .u64 a0_1, .int .u16 a0_2, (.slice A0_3 l0_3.length c0_3)] 26 (0, 0))) ∧ Aside0 (Below w.heap.size w w'))
  case atStart => exact ⟨(t351), (0), (by first | rfl | (simp; done) | (simp [*]; done)), H', ⟨Nat.le_refl _⟩, ⟨by (with_reducible repeat (first | apply Kd.R_alloc | apply Kd.R_drewN | apply Kd.R_drew)); exact HO353.out⟩, ⟨by (with_reducible repeat (first | refine blk_drewN ?_ _ | refine blk_drew ?_ | refine blk_alloc ?_ _)); exact BK350.out⟩, ⟨by repeat (first | (with_reducible first | exact HB.out | apply below_alloc | apply pw_below_drewN | apply below_drew1 | refine below_set ?_ GE350.out) | exact HB.out)⟩⟩
  case round =>
    clear H'
    try clear c1
    try clear p2
    try clear hcv5
    try clear hcz4_0
    try clear hcz4_1
    try clear hcz4_2
    try clear hcz4_3
    try clear hfz4_0
    try clear hfz4_1
    try clear hfz4_2
    try clear hfz4_3
    obtain ⟨x4_1, x6_1, rfl, HA, HK1, HO_4, BK350, HB⟩ := hrel
    cases gk with
    | zero => exact absurd HA.out (by simp [trunklinelaw08_EtherOwn.l0])
    | succ k1 =>
      have H := HA.out
      clear HA
      simp only [trunklinelaw08_EtherOwn.l0] at H
      by_cases c7 : x6_1 < (x4_1.length : Int)
      · rw [if_pos c7] at H
        have c7b0 : decide (x6_1 < (x4_1.length : Int)) = true := decide_eq_true c7
        clear c7
        by_cases c8 : 0 ≤ x6_1
        · rw [if_pos c8] at H
          have c8b0 : decide (0 ≤ x6_1) = true := decide_eq_true c8
          clear c8
          obtain ⟨y356, hy356⟩ : ∃ y_ : List Int, y_ = (x4_1.set (x6_1 : Int).toNat (Go.bits .xor .u8 (rd x4_1 x6_1) 90)) := ⟨_, rfl⟩
          replace H : (trunklinelaw08_EtherOwn.l0 k1 (strOfNums l0_3) y356 (wrap64 (x6_1 + 1)) a0_0 a0_1 a0_2 l0_3) = some r := by first | (rw [hy356]; with_reducible exact H) | (have H2_ := (Option.bind_some _ _).symm.trans H; rw [hy356]; with_reducible exact H2_) | (have H2_ := (Option.bind_some _ _).symm.trans H; with_reducible exact H2_) | with_reducible exact H | (rw [hy356]; exact H) | exact H
          have Ny356 := Aside0.mk hy356
          clear hy356
          have H' := Aside0.mk H
          clear H
          obtain ⟨Ao10, co10, eo10⟩ := Kd.R_slice HO_4.out
          subst eo10
          have p355 : 0 ≤ (x6_1 : Int) := of_decide_eq_true (by first | (with_reducible assumption) | assumption)
          have q355 : x6_1 < (x4_1.length : Int) := of_decide_eq_true (by first | (with_reducible assumption) | assumption)
          obtain ⟨ad355, e355, hx355_0⟩ := Kd.at_int (Kd.R_reads' HO_4.out).2.2 x6_1 p355 q355
          cases e355
          replace p355 := eq_true p355
          replace q355 := eq_true q355
          have p9 : 0 ≤ (x6_1 : Int) := of_decide_eq_true (by first | (with_reducible assumption) | assumption)
          have q9 : (x6_1 : Int) < ((x4_1.length : Int) : Int) := of_decide_eq_true (by first | (with_reducible assumption) | assumption)
          obtain ⟨go9, co9, eo9, gb9, gl9, cl9, HG9⟩ := Kd.R_form HO_4.out (by omega)
          (first | cases eo9 | (injection eo9 with ea_ en_ ec_; (first | subst ea_ | (injection ea_ with ea_; subst ea_)); subst ec_; clear en_))
          have GB9 := Aside0.mk gb9
          have GG9 := Aside0.mk HG9
          clear gb9 gl9 HG9
          (first | simp only [add_plain] at hx355_0 | skip)
          obtain ⟨hx9_0, hf9_0⟩ := Kd.R_celln 0 HO_4.out (x6_1 : Int) p9 q9
          replace p9 := eq_true p9
          replace q9 := eq_true q9
          have HP11 := Kd.R_putg HO_4.out (x6_1 : Int) (Go.bits .xor .u8 (rd x4_1 x6_1) 90)
          go_wp2_with (first | ((with_reducible refine gate_store (t := 5) (p := 33) rfl ?_); refine store_event (t := 5) (p := 33) (v := ?vo_w12) (w1 := (wr.setCell ⟨go9, (x6_1 : Int).toNat, none⟩ (.int .u8 (Go.bits .xor .u8 (rd x4_1 x6_1) 90)))) ?hg ?ho ?hn ?hr ?_; (case ho => rfl); (case hg => rfl); (case hn => rfl); (case hr => first | (go_simp; done) | (go_simp; rfl)); intro w12 hw; have hg : wr.grownBy w12 (some go9) := (by rw [hw]; exact HP11.2); have hp_ : Kd.R (Kd.int .u8) 5 w12 w.heap.size (fun _ => True) (.slice (some ⟨go9, 0, none⟩) x4_1.length co10) y356 := (by rw [hw, Ny356.out]; exact HP11.1); clear HP11; have n0_ := Aside0.mk (hp_); have n1_ := Aside0.mk (blk_grown (g := gb350) (o := .cells #[.int .u64 a0_0, .int .u64 a0_1, .int .u16 a0_2, .slice A0_3 l0_3.length c0_3] 26 (0, 0)) (by (with_reducible repeat (first | refine blk_drewN ?_ _ | refine blk_drew ?_ | refine blk_alloc ?_ _)); exact BK350.out) hg (Kd.R_ne HO_4.out BK350.out (by decide))); have n2_ := Aside0.mk ((by rw [hw]; exact below_set (HB.out) GB9.out : Below w.heap.size w w12)); clear HO_4; clear BK350; clear HB; have HO_4 := n0_; have BK350 := n1_; have HB := n2_; clear n0_ n1_ n2_; clear hg hw hp_))
          go_roundg k1
          case measure => have := HK1.out; omega
          case rel => exact ⟨(y356), (wrap64 (x6_1 + 1)), (by first | rfl | (simp; done) | (simp [*]; done)), H', ⟨by have := HK1.out; omega⟩, ⟨by (with_reducible repeat (first | apply Kd.R_alloc | apply Kd.R_drewN | apply Kd.R_drew)); exact HO_4.out⟩, ⟨by (with_reducible repeat (first | refine blk_drewN ?_ _ | refine blk_drew ?_ | refine blk_alloc ?_ _)); exact BK350.out⟩, ⟨by repeat (first | (with_reducible first | exact HB.out | apply below_alloc | apply pw_below_drewN | apply below_drew1 | refine below_set ?_ GE350.out) | exact HB.out)⟩⟩
        · rw [if_neg c8] at H
          exact absurd H (by simp)
      · rw [if_neg c7] at H
        have c7b0 : decide (x6_1 < (x4_1.length : Int)) = false := decide_eq_false c7
        clear c7
        replace H := Option.bind_eq_some_iff.mp H
        obtain ⟨⟨t357, t360⟩, A130, H⟩ := H
        replace H : ((ether_Take.f k1 t357).bind fun bt361 => (trunklinelaw08_EtherOwn.l1 k1 (strOfNums l0_3) t357 0 a0_0 a0_1 a0_2 l0_3 bt361.1 bt361.2.1 bt361.2.2.1 bt361.2.2.2.1)) = some r := H
        have A13 := Aside0.mk A130
        clear A130
        replace H := Option.bind_eq_some_iff.mp H
        obtain ⟨⟨t361, t362, t363, t364, t367⟩, A140, H⟩ := H
        replace H : (trunklinelaw08_EtherOwn.l1 k1 (strOfNums l0_3) t357 0 a0_0 a0_1 a0_2 l0_3 t361 t362 t363 t364) = some r := H
        have A14 := Aside0.mk A140
        clear A140
        have H' := Aside0.mk H
        clear H
        obtain ⟨Ao15, co15, eo15⟩ := Kd.R_slice HO_4.out
        subst eo15
        have hcz16_0 : wr.cell? ⟨gb350, 0, none⟩ = some (.int .u64 a0_0) := (blk_cell BK350.out 0).trans rfl
        have hcz16_1 : wr.cell? ⟨gb350, 1, none⟩ = some (.int .u64 a0_1) := (blk_cell BK350.out 1).trans rfl
        have hcz16_2 : wr.cell? ⟨gb350, 2, none⟩ = some (.int .u16 a0_2) := (blk_cell BK350.out 2).trans rfl
        have hcz16_3 : wr.cell? ⟨gb350, 3, none⟩ = some (.slice A0_3 l0_3.length c0_3) := (blk_cell BK350.out 3).trans rfl
        have hfz16_0 := blk_frozen BK350.out 0
        have hfz16_1 := blk_frozen BK350.out 1
        have hfz16_2 := blk_frozen BK350.out 2
        have hfz16_3 := blk_frozen BK350.out 3
        go_wp2_with (first | ((with_reducible refine gate_callee (f := 11) rfl ?_); refine goesL_ (some 36) rfl rfl Try.func11 (by kernel_rfl) rfl #[.agg #[.int .u64 a0_0, .int .u64 a0_1, .int .u16 a0_2, .slice A0_3 l0_3.length c0_3]] rfl (by (try simp only [List.map_toArray, List.map_cons, List.map_nil]); first | done | rfl | (simp only [List.length_drop, List.length_take]; rfl)) ?_; (with_reducible refine (trunklineref08_Put.calls k1 a0_0 a0_1 a0_2 _ _ l0_3 t357 t360 _ ?side1 ?side2 A13.out).mono ?_); (case side1 => repeat (first | exact (Kd.C_below HR0_3.out HB.out) | (with_reducible refine Kd.C_alloc ?_ _) | (with_reducible refine Kd.C_drewN ?_ _) | (with_reducible refine Kd.C_drew ?_))); (case side2 => exact HC0_3.out); rintro e w17 ⟨v358, rfl, ho0, hb⟩; refine ⟨_, rfl, ?_⟩; have n0_ := Aside0.mk (Kd.R_elder' (by (with_reducible repeat (first | apply Kd.R_alloc | apply Kd.R_drewN | apply Kd.R_drew)); exact HO_4.out) (Kd.R_base ho0) hb); have n1_ := Aside0.mk (Kd.R_lower (Kd.R_new' ho0 (Kd.R_lt (by (with_reducible repeat (first | apply Kd.R_alloc | apply Kd.R_drewN | apply Kd.R_drew)); exact HO_4.out))) (below_size (by repeat (first | (with_reducible first | exact HB.out | apply below_alloc | apply pw_below_drewN | apply below_drew1 | refine below_set ?_ GE350.out) | exact HB.out)))); have n2_ := Aside0.mk (blk_below (g := gb350) (o := .cells #[.int .u64 a0_0, .int .u64 a0_1, .int .u16 a0_2, .slice A0_3 l0_3.length c0_3] 26 (0, 0)) (by (with_reducible repeat (first | refine blk_drewN ?_ _ | refine blk_drew ?_ | refine blk_alloc ?_ _)); exact BK350.out) hb); have n3_ := Aside0.mk (below_step (by repeat (first | (with_reducible first | exact HB.out | apply below_alloc | apply pw_below_drewN | apply below_drew1 | refine below_set ?_ GE350.out) | exact HB.out)) hb); clear HO_4; clear BK350; clear HB; have HO_4 := n0_; have HO359 := n1_; have BK350 := n2_; have HB := n3_; clear n0_ n1_ n2_ n3_; (try clear hb); (try clear hb2); (try clear hk); (try clear hi); (try clear ho0); obtain ⟨Ao18, co18, eo18⟩ := Kd.R_slice HO359.out; subst eo18) | ((with_reducible refine gate_callee (f := 18) rfl ?_); refine goesL_ (some 41) rfl rfl Try.func18 (by kernel_rfl) rfl #[.slice Ao18 t357.length co18] rfl (by (try simp only [List.map_toArray, List.map_cons, List.map_nil]); first | done | rfl | (simp only [List.length_drop, List.length_take]; rfl)) ?_; (with_reducible refine (ether_Take.calls k1 _ _ t357 t361 t362 t363 t364 t367 _ ?side1 ?side2 A14.out).mono ?_); (case side1 => repeat (first | exact (Kd.R_reads' HO359.out).2.2 | (with_reducible refine Kd.C_alloc ?_ _) | (with_reducible refine Kd.C_drewN ?_ _) | (with_reducible refine Kd.C_drew ?_))); (case side2 => exact (Kd.R_reads' HO359.out).2.1); rintro e w19 ⟨v365, rfl, ho0, hb⟩; refine ⟨_, rfl, ?_⟩; have n0_ := Aside0.mk (Kd.R_elder' (by (with_reducible repeat (first | apply Kd.R_alloc | apply Kd.R_drewN | apply Kd.R_drew)); exact HO_4.out) (Kd.R_base ho0) hb); have n1_ := Aside0.mk (Kd.R_elder' (by (with_reducible repeat (first | apply Kd.R_alloc | apply Kd.R_drewN | apply Kd.R_drew)); exact HO359.out) (Kd.R_base ho0) hb); have n2_ := Aside0.mk (Kd.R_lower (Kd.R_new' (Kd.R_new' ho0 (Kd.R_lt (by (with_reducible repeat (first | apply Kd.R_alloc | apply Kd.R_drewN | apply Kd.R_drew)); exact HO_4.out))) (Kd.R_lt (by (with_reducible repeat (first | apply Kd.R_alloc | apply Kd.R_drewN | apply Kd.R_drew)); exact HO359.out))) (below_size (by repeat (first | (with_reducible first | exact HB.out | apply below_alloc | apply pw_below_drewN | apply below_drew1 | refine below_set ?_ GE350.out) | exact HB.out)))); have n3_ := Aside0.mk (blk_below (g := gb350) (o := .cells #[.int .u64 a0_0, .int .u64 a0_1, .int .u16 a0_2, .slice A0_3 l0_3.length c0_3] 26 (0, 0)) (by (with_reducible repeat (first | refine blk_drewN ?_ _ | refine blk_drew ?_ | refine blk_alloc ?_ _)); exact BK350.out) hb); have n4_ := Aside0.mk (below_step (by repeat (first | (with_reducible first | exact HB.out | apply below_alloc | apply pw_below_drewN | apply below_drew1 | refine below_set ?_ GE350.out) | exact HB.out)) hb); clear HO_4; clear HO359; clear BK350; clear HB; have HO_4 := n0_; have HO359 := n1_; have HO366 := n2_; have BK350 := n3_; have HB := n4_; clear n0_ n1_ n2_ n3_ n4_; (try clear hb); (try clear hb2); (try clear hk); (try clear hi); (try clear ho0)) | ((with_reducible refine gate_dst (N := 9) rfl ?_); refine box_event ?hg (N := 9) ?hd (cs := #[.int .u64 0, .int .u64 0, .int .u16 0, .slice none 0 0]) (t := 26) ?hr ?_; (case hd => rfl); (case hg => rfl); (case hr => first | (go_simp; done) | (go_simp; rfl)); intro gb368 hg w20 hbox hb; have n0_ := Aside0.mk (Kd.R_below (by (with_reducible repeat (first | apply Kd.R_alloc | apply Kd.R_drewN | apply Kd.R_drew)); exact HO_4.out) hb); have n1_ := Aside0.mk (Kd.R_below (by (with_reducible repeat (first | apply Kd.R_alloc | apply Kd.R_drewN | apply Kd.R_drew)); exact HO359.out) hb); have n2_ := Aside0.mk (Kd.R_below (by (with_reducible repeat (first | apply Kd.R_alloc | apply Kd.R_drewN | apply Kd.R_drew)); exact HO366.out) hb); have n3_ := Aside0.mk (blk_below (g := gb350) (o := .cells #[.int .u64 a0_0, .int .u64 a0_1, .int .u16 a0_2, .slice A0_3 l0_3.length c0_3] 26 (0, 0)) (by (with_reducible repeat (first | refine blk_drewN ?_ _ | refine blk_drew ?_ | refine blk_alloc ?_ _)); exact BK350.out) hb); have n4_ := Aside0.mk (below_step (by repeat (first | (with_reducible first | exact HB.out | apply below_alloc | apply pw_below_drewN | apply below_drew1 | refine below_set ?_ GE350.out) | exact HB.out)) hb); have n5_ := Aside0.mk (hbox); have n6_ := Aside0.mk ((by rw [hg]; exact (below_size (by repeat (first | (with_reducible first | exact HB.out | apply below_alloc | apply pw_below_drewN | apply below_drew1 | refine below_set ?_ GE350.out) | exact HB.out))) : w.heap.size ≤ gb368)); have n7_ := Aside0.mk ((by rw [hg]; exact (below_size (by repeat (first | (with_reducible first | exact HB.out | apply below_alloc | apply pw_below_drewN | apply below_drew1 | refine below_set ?_ GE350.out) | exact HB.out))) : w.heap.size ≤ gb368)); have n8_ := Aside0.mk ((by rw [hg]; exact Nat.ne_of_lt (blk_lt (g := gb350) (o := .cells #[.int .u64 a0_0, .int .u64 a0_1, .int .u16 a0_2, .slice A0_3 l0_3.length c0_3] 26 (0, 0)) (by (with_reducible repeat (first | refine blk_drewN ?_ _ | refine blk_drew ?_ | refine blk_alloc ?_ _)); exact BK350.out)) : gb350 ≠ gb368)); have n9_ := Aside0.mk ((by rw [hg]; exact Nat.ne_of_gt (blk_lt (g := gb350) (o := .cells #[.int .u64 a0_0, .int .u64 a0_1, .int .u16 a0_2, .slice A0_3 l0_3.length c0_3] 26 (0, 0)) (by (with_reducible repeat (first | refine blk_drewN ?_ _ | refine blk_drew ?_ | refine blk_alloc ?_ _)); exact BK350.out)) : gb368 ≠ gb350)); clear HO_4; clear HO359; clear HO366; clear BK350; clear HB; have HO_4 := n0_; have HO359 := n1_; have HO366 := n2_; have BK350 := n3_; have HB := n4_; have BK368 := n5_; have GW368 := n6_; have GE368 := n7_; have NB350_368 := n8_; have NB368_350 := n9_; clear n0_ n1_ n2_ n3_ n4_ n5_ n6_ n7_ n8_ n9_; clear hb hbox hg; have hnb21 := NB368_350.out; have hnc21 := NB350_368.out; have hcz22_0 : w20.cell? ⟨gb368, 0, none⟩ = some (.int .u64 0) := (blk_cell BK368.out 0).trans rfl; have hcz22_1 : w20.cell? ⟨gb368, 1, none⟩ = some (.int .u64 0) := (blk_cell BK368.out 1).trans rfl; have hcz22_2 : w20.cell? ⟨gb368, 2, none⟩ = some (.int .u16 0) := (blk_cell BK368.out 2).trans rfl; have hcz22_3 : w20.cell? ⟨gb368, 3, none⟩ = some (.slice none 0 0) := (blk_cell BK368.out 3).trans rfl; have hfz22_0 := blk_frozen BK368.out 0; have hfz22_1 := blk_frozen BK368.out 1; have hfz22_2 := blk_frozen BK368.out 2; have hfz22_3 := blk_frozen BK368.out 3; obtain ⟨Ao23, co23, eo23⟩ := Kd.R_slice HO366.out; subst eo23))
        go_loopg [11] k1 (fun kq v11 w' => ∃ (x7_2 : List Int) (x11_2 : Int) (x369003_2 : List Int) (u369003 : Value), v11 = .int .i64 x11_2 ∧ Aside0 (trunklinelaw08_EtherOwn.l1 kq (strOfNums l0_3) x7_2 x11_2 a0_0 a0_1 a0_2 l0_3 t361 t362 t363 x369003_2 = some r) ∧ Aside0 (kq ≤ k1) ∧ Aside0 (Kd.R (Kd.int .u8) 5 w' w.heap.size (fun k_ => some k_ ≠ (u369003 : Value).ownBlock) (.slice Ao18 t357.length co18) x7_2) ∧ Aside0 (Kd.R (Kd.int .u8) 5 w' w.heap.size (fun k_ => some k_ ≠ ((.slice Ao18 t357.length co18) : Value).ownBlock) u369003 x369003_2) ∧ Aside0 (w'.heap[gb350]? = some (.cells #[.int .u64 a0_0, .int .u64 a0_1, .int .u16 a0_2, (.slice A0_3 l0_3.length c0_3)] 26 (0, 0))) ∧ Aside0 (w'.heap[gb368]? = some (.cells #[.int .u64 t361, .int .u64 t362, .int .u16 t363, u369003] 26 (0, 0))) ∧ Aside0 (Below w.heap.size w w'))
        case atStart => exact ⟨(t357), (0), (t364), (.slice Ao23 t364.length co23), (by first | rfl | (simp; done) | (simp [*]; done)), H', ⟨Nat.le_refl _⟩, ⟨by (with_reducible repeat (first | apply Kd.R_alloc | apply Kd.R_drewN | apply Kd.R_drew)); exact Kd.R_mono (Kd.R_far (p := ⟨gb368, 3, none⟩) (Kd.R_far (p := ⟨gb368, 2, none⟩) (Kd.R_far (p := ⟨gb368, 1, none⟩) (Kd.R_far (p := ⟨gb368, 0, none⟩) (Kd.R_types HO359.out BK368.out (by decide)) (fun _ hk => hk.2) (.int .u64 t361)) (fun _ hk => hk.2) (.int .u64 t362)) (fun _ hk => hk.2) (.int .u16 t363)) (fun _ hk => hk.2) (.slice Ao23 t364.length co23)) (fun _ hk => hk.1.2)⟩, ⟨by (with_reducible repeat (first | apply Kd.R_alloc | apply Kd.R_drewN | apply Kd.R_drew)); exact Kd.R_mono (Kd.R_far (p := ⟨gb368, 3, none⟩) (Kd.R_far (p := ⟨gb368, 2, none⟩) (Kd.R_far (p := ⟨gb368, 1, none⟩) (Kd.R_far (p := ⟨gb368, 0, none⟩) (Kd.R_types HO366.out BK368.out (by decide)) (fun _ hk => hk.2) (.int .u64 t361)) (fun _ hk => hk.2) (.int .u64 t362)) (fun _ hk => hk.2) (.int .u16 t363)) (fun _ hk => hk.2) (.slice Ao23 t364.length co23)) (fun _ hk => hk.1.2)⟩, ⟨by (with_reducible repeat (first | refine blk_drewN ?_ _ | refine blk_drew ?_ | refine blk_alloc ?_ _)); refine blk_far ?_ NB350_368.out _; (with_reducible repeat (first | refine blk_drewN ?_ _ | refine blk_drew ?_ | refine blk_alloc ?_ _)); refine blk_far ?_ NB350_368.out _; (with_reducible repeat (first | refine blk_drewN ?_ _ | refine blk_drew ?_ | refine blk_alloc ?_ _)); refine blk_far ?_ NB350_368.out _; (with_reducible repeat (first | refine blk_drewN ?_ _ | refine blk_drew ?_ | refine blk_alloc ?_ _)); refine blk_far ?_ NB350_368.out _; (with_reducible repeat (first | refine blk_drewN ?_ _ | refine blk_drew ?_ | refine blk_alloc ?_ _)); exact BK350.out⟩, ⟨by (with_reducible repeat (first | refine blk_drewN ?_ _ | refine blk_drew ?_ | refine blk_alloc ?_ _)); refine blk_put (cs := #[.int .u64 t361, .int .u64 t362, .int .u16 t363, .slice none 0 0]) ?_ 3 _ rfl; (with_reducible repeat (first | refine blk_drewN ?_ _ | refine blk_drew ?_ | refine blk_alloc ?_ _)); refine blk_put (cs := #[.int .u64 t361, .int .u64 t362, .int .u16 0, .slice none 0 0]) ?_ 2 _ rfl; (with_reducible repeat (first | refine blk_drewN ?_ _ | refine blk_drew ?_ | refine blk_alloc ?_ _)); refine blk_put (cs := #[.int .u64 t361, .int .u64 0, .int .u16 0, .slice none 0 0]) ?_ 1 _ rfl; (with_reducible repeat (first | refine blk_drewN ?_ _ | refine blk_drew ?_ | refine blk_alloc ?_ _)); refine blk_put (cs := #[.int .u64 0, .int .u64 0, .int .u16 0, .slice none 0 0]) ?_ 0 _ rfl; (with_reducible repeat (first | refine blk_drewN ?_ _ | refine blk_drew ?_ | refine blk_alloc ?_ _)); exact BK368.out⟩, ⟨by repeat (first | (with_reducible first | exact HB.out | apply below_alloc | apply pw_below_drewN | apply below_drew1 | refine below_set ?_ GE350.out | refine below_set ?_ GE368.out) | exact HB.out)⟩⟩
        case round =>
          clear H'
          try clear c1
          try clear c2
          try clear p2
          try clear p3
          try clear q3
          try clear hx3
          try clear hcv5
          try clear p6
          try clear c7
          try clear c7b0
          try clear c8
          try clear c8b0
          try clear c9
          try clear p9
          try clear q9
          try clear hx9
          try clear hf9
          try clear c10
          try clear c11
          try clear c18
          try clear c21
          try clear hcz16_0
          try clear hcz16_1
          try clear hcz16_2
          try clear hcz16_3
          try clear hcz22_0
          try clear hcz22_1
          try clear hcz22_2
          try clear hcz22_3
          try clear hcz4_0
          try clear hcz4_1
          try clear hcz4_2
          try clear hcz4_3
          try clear hfz16_0
          try clear hfz16_1
          try clear hfz16_2
          try clear hfz16_3
          try clear hfz22_0
          try clear hfz22_1
          try clear hfz22_2
          try clear hfz22_3
          try clear hfz4_0
          try clear hfz4_1
          try clear hfz4_2
          try clear hfz4_3
          try clear hx355_0
          try clear hx9_0
          try clear p2
          try clear p355
          try clear p9
          try clear q355
          try clear q9
          obtain ⟨x7_2, x11_2, x369003_2, u369003, rfl, HA, HK2, HO_7, HO_369003, BK350, BK368, HB⟩ := hrel
          have hl7_2 := (Kd.R_reads' HO_7.out).1
          rw [hl7_2] at HO_7
          (try simp only [hl7_2])
          (try simp only [hl7_2] at BK350)
          (try simp only [hl7_2] at BK368)
          (try simp only [hl7_2] at HO_369003)
          cases gk with
          | zero => exact absurd HA.out (by simp [trunklinelaw08_EtherOwn.l1])
          | succ k2 =>
            have H := HA.out
            clear HA
            simp only [trunklinelaw08_EtherOwn.l1] at H
            by_cases c24 : x11_2 < (x369003_2.length : Int)
            · rw [if_pos c24] at H
              have c24b0 : decide (x11_2 < (x369003_2.length : Int)) = true := decide_eq_true c24
              (try (have c24b0z := c24b0; simp only [hl7_2] at c24b0z))
              clear c24
              by_cases c25 : 0 ≤ x11_2
              · rw [if_pos c25] at H
                have c25b0 : decide (0 ≤ x11_2) = true := decide_eq_true c25
                (try (have c25b0z := c25b0; simp only [hl7_2] at c25b0z))
                clear c25
                obtain ⟨y370, hy370⟩ : ∃ y_ : List Int, y_ = (x369003_2.set (x11_2 : Int).toNat (Go.bits .xor .u8 (rd x369003_2 x11_2) 90)) := ⟨_, rfl⟩
                replace H : (trunklinelaw08_EtherOwn.l1 k2 (strOfNums l0_3) x7_2 (wrap64 (x11_2 + 1)) a0_0 a0_1 a0_2 l0_3 t361 t362 t363 y370) = some r := by first | (rw [hy370]; with_reducible exact H) | (have H2_ := (Option.bind_some _ _).symm.trans H; rw [hy370]; with_reducible exact H2_) | (have H2_ := (Option.bind_some _ _).symm.trans H; with_reducible exact H2_) | with_reducible exact H | (rw [hy370]; exact H) | exact H
                have Ny370 := Aside0.mk hy370
                clear hy370
                have H' := Aside0.mk H
                clear H
                have hnb27 := NB368_350.out
                have hnc27 := NB350_368.out
                have hcz28_0 : wr.cell? ⟨gb368, 0, none⟩ = some (.int .u64 t361) := (blk_cell BK368.out 0).trans rfl
                have hcz28_1 : wr.cell? ⟨gb368, 1, none⟩ = some (.int .u64 t362) := (blk_cell BK368.out 1).trans rfl
                have hcz28_2 : wr.cell? ⟨gb368, 2, none⟩ = some (.int .u16 t363) := (blk_cell BK368.out 2).trans rfl
                have hcz28_3 : wr.cell? ⟨gb368, 3, none⟩ = some (u369003) := (blk_cell BK368.out 3).trans rfl
                have hfz28_0 := blk_frozen BK368.out 0
                have hfz28_1 := blk_frozen BK368.out 1
                have hfz28_2 := blk_frozen BK368.out 2
                have hfz28_3 := blk_frozen BK368.out 3
                obtain ⟨Ao29, co29, eo29⟩ := Kd.R_slice HO_369003.out
                subst eo29
                have p369 : 0 ≤ (x11_2 : Int) := of_decide_eq_true (by first | (with_reducible assumption) | assumption)
                have q369 : x11_2 < (x369003_2.length : Int) := of_decide_eq_true (by first | (with_reducible assumption) | assumption)
                obtain ⟨ad369, e369, hx369_0⟩ := Kd.at_int (Kd.R_reads' HO_369003.out).2.2 x11_2 p369 q369
                cases e369
                replace p369 := eq_true p369
                replace q369 := eq_true q369
                have p26 : 0 ≤ (x11_2 : Int) := of_decide_eq_true (by first | (with_reducible assumption) | assumption)
                have q26 : (x11_2 : Int) < ((x369003_2.length : Int) : Int) := of_decide_eq_true (by first | (with_reducible assumption) | assumption)
                obtain ⟨go26, co26, eo26, gb26, gl26, cl26, HG26⟩ := Kd.R_form HO_369003.out (by omega)
                (first | cases eo26 | (injection eo26 with ea_ en_ ec_; (first | subst ea_ | (injection ea_ with ea_; subst ea_)); subst ec_; clear en_))
                have GB26 := Aside0.mk gb26
                have GG26 := Aside0.mk HG26
                clear gb26 gl26 HG26
                (first | simp only [add_plain] at hx369_0 | skip)
                obtain ⟨hx26_0, hf26_0⟩ := Kd.R_celln 0 HO_369003.out (x11_2 : Int) p26 q26
                replace p26 := eq_true p26
                replace q26 := eq_true q26
                have HP30 := Kd.R_putg HO_369003.out (x11_2 : Int) (Go.bits .xor .u8 (rd x369003_2 x11_2) 90)
                go_wp2_with (first | ((with_reducible refine gate_store (t := 5) (p := 57) rfl ?_); refine store_event (t := 5) (p := 57) (v := ?vo_w31) (w1 := (wr.setCell ⟨go26, (x11_2 : Int).toNat, none⟩ (.int .u8 (Go.bits .xor .u8 (rd x369003_2 x11_2) 90)))) ?hg ?ho ?hn ?hr ?_; (case ho => rfl); (case hg => rfl); (case hn => rfl); (case hr => first | (go_simp; done) | (go_simp; rfl)); intro w31 hw; have hg : wr.grownBy w31 (some go26) := (by rw [hw]; exact HP30.2); have hp_ : Kd.R (Kd.int .u8) 5 w31 w.heap.size (fun k_ => some k_ ≠ (.slice Ao18 x7_2.length co18 : Value).ownBlock) (.slice (some ⟨go26, 0, none⟩) x369003_2.length co29) y370 := (by rw [hw, Ny370.out]; exact HP30.1); clear HP30; have n0_ := Aside0.mk (Kd.R_after (v := (.slice (some ⟨go26, 0, none⟩) x369003_2.length co29)) (v1 := (.slice (some ⟨go26, 0, none⟩) x369003_2.length co29)) (ok := (fun _ => True)) (by (with_reducible repeat (first | apply Kd.R_alloc | apply Kd.R_drewN | apply Kd.R_drew)); exact Kd.R_mono HO_7.out (fun _ hk => ⟨trivial, hk⟩)) hg (.inl rfl)); have n1_ := Aside0.mk (hp_); have n2_ := Aside0.mk (blk_grown (g := gb350) (o := .cells #[.int .u64 a0_0, .int .u64 a0_1, .int .u16 a0_2, .slice A0_3 l0_3.length c0_3] 26 (0, 0)) (by (with_reducible repeat (first | refine blk_drewN ?_ _ | refine blk_drew ?_ | refine blk_alloc ?_ _)); exact BK350.out) hg (Kd.R_ne HO_369003.out BK350.out (by decide))); have n3_ := Aside0.mk (blk_grown (g := gb368) (o := .cells #[.int .u64 t361, .int .u64 t362, .int .u16 t363, .slice (some ⟨go26, 0, none⟩) x369003_2.length co29] 26 (0, 0)) (by (with_reducible repeat (first | refine blk_drewN ?_ _ | refine blk_drew ?_ | refine blk_alloc ?_ _)); exact BK368.out) hg (Kd.R_ne HO_369003.out BK368.out (by decide))); have n4_ := Aside0.mk ((by rw [hw]; exact below_set (HB.out) GB26.out : Below w.heap.size w w31)); clear HO_7; clear HO_369003; clear BK350; clear BK368; clear HB; have HO_7 := n0_; have HO_369003 := n1_; have BK350 := n2_; have BK368 := n3_; have HB := n4_; clear n0_ n1_ n2_ n3_ n4_; clear hg hw hp_))
                (try simp only [← hl7_2])
                go_roundg k2
                case measure => have := HK1.out; have := HK2.out; omega
                case rel => exact ⟨(x7_2), (wrap64 (x11_2 + 1)), (y370), (.slice (some ⟨go26, 0, none⟩) x369003_2.length co29), (by first | rfl | (simp; done) | (simp [*]; done)), H', ⟨by have := HK1.out; have := HK2.out; omega⟩, ⟨by (try simp only [hl7_2]); (with_reducible repeat (first | apply Kd.R_alloc | apply Kd.R_drewN | apply Kd.R_drew)); exact Kd.R_mono HO_7.out (fun _ hk => hk.2)⟩, ⟨by (try simp only [hl7_2]); (with_reducible repeat (first | apply Kd.R_alloc | apply Kd.R_drewN | apply Kd.R_drew)); exact HO_369003.out⟩, ⟨by (try simp only [hl7_2]); (with_reducible repeat (first | refine blk_drewN ?_ _ | refine blk_drew ?_ | refine blk_alloc ?_ _)); exact BK350.out⟩, ⟨by (try simp only [hl7_2]); (with_reducible repeat (first | refine blk_drewN ?_ _ | refine blk_drew ?_ | refine blk_alloc ?_ _)); exact BK368.out⟩, ⟨by repeat (first | (with_reducible first | exact HB.out | apply below_alloc | apply pw_below_drewN | apply below_drew1 | refine below_set ?_ GE350.out | refine below_set ?_ GE368.out) | exact HB.out)⟩⟩
              · rw [if_neg c25] at H
                exact absurd H (by simp)
            · rw [if_neg c24] at H
              have c24b0 : decide (x11_2 < (x369003_2.length : Int)) = false := decide_eq_false c24
              (try (have c24b0z := c24b0; simp only [hl7_2] at c24b0z))
              clear c24
              replace H := Option.bind_eq_some_iff.mp H
              obtain ⟨⟨t371, t374⟩, A320, H⟩ := H
              replace H : ((trunklinelaw08_live.f k2).bind fun t375 => (if t375 = true then (if (strOfNums l0_3).toList = (strOfNums l0_3).toList then (some ((strOfNums x7_2).toList == (strOfNums t371).toList)) else (some false)) else (some false))) = some r := by first | exact H | (simp only [if_true, eq_self] at H ⊢; exact H)
              have A32 := Aside0.mk A320
              clear A320
              replace H := Option.bind_eq_some_iff.mp H
              obtain ⟨t375, A330, H⟩ := H
              replace H : (if t375 = true then (if (strOfNums l0_3).toList = (strOfNums l0_3).toList then (some ((strOfNums x7_2).toList == (strOfNums t371).toList)) else (some false)) else (some false)) = some r := by first | exact H | (simp only [if_true, eq_self] at H ⊢; exact H)
              have A33 := Aside0.mk A330
              clear A330
              by_cases c34 : t375 = true
              · subst c34
                have H1 : (if (strOfNums l0_3).toList = (strOfNums l0_3).toList then (some ((strOfNums x7_2).toList == (strOfNums t371).toList)) else (some false)) = some r := by rw [if_pos rfl] at H; exact H
                clear H
                have H := H1
                clear H1
                by_cases c35 : (strOfNums l0_3).toList = (strOfNums l0_3).toList
                · rw [if_pos c35] at H
                  have c35b0 : ((strOfNums l0_3).toList == (strOfNums l0_3).toList) = true := beq_iff_eq.mpr c35
                  (try (have c35b0z := c35b0; simp only [hl7_2] at c35b0z))
                  have c35b1 : ((strOfNums l0_3).toList != (strOfNums l0_3).toList) = false := bne_eq_false_iff_eq.mpr c35
                  (try (have c35b1z := c35b1; simp only [hl7_2] at c35b1z))
                  clear c35
                  obtain rfl := Option.some.inj H
                  have hnb36 := NB368_350.out
                  have hnc36 := NB350_368.out
                  have hcz37_0 : wr.cell? ⟨gb368, 0, none⟩ = some (.int .u64 t361) := (blk_cell BK368.out 0).trans rfl
                  have hcz37_1 : wr.cell? ⟨gb368, 1, none⟩ = some (.int .u64 t362) := (blk_cell BK368.out 1).trans rfl
                  have hcz37_2 : wr.cell? ⟨gb368, 2, none⟩ = some (.int .u16 t363) := (blk_cell BK368.out 2).trans rfl
                  have hcz37_3 : wr.cell? ⟨gb368, 3, none⟩ = some (u369003) := (blk_cell BK368.out 3).trans rfl
                  have hfz37_0 := blk_frozen BK368.out 0
                  have hfz37_1 := blk_frozen BK368.out 1
                  have hfz37_2 := blk_frozen BK368.out 2
                  have hfz37_3 := blk_frozen BK368.out 3
                  obtain ⟨Ao38, co38, eo38⟩ := Kd.R_slice HO_369003.out
                  subst eo38
                  have hcz39_0 : wr.cell? ⟨gb350, 0, none⟩ = some (.int .u64 a0_0) := (blk_cell BK350.out 0).trans rfl
                  have hcz39_1 : wr.cell? ⟨gb350, 1, none⟩ = some (.int .u64 a0_1) := (blk_cell BK350.out 1).trans rfl
                  have hcz39_2 : wr.cell? ⟨gb350, 2, none⟩ = some (.int .u16 a0_2) := (blk_cell BK350.out 2).trans rfl
                  have hcz39_3 : wr.cell? ⟨gb350, 3, none⟩ = some (.slice A0_3 l0_3.length c0_3) := (blk_cell BK350.out 3).trans rfl
                  have hfz39_0 := blk_frozen BK350.out 0
                  have hfz39_1 := blk_frozen BK350.out 1
                  have hfz39_2 := blk_frozen BK350.out 2
                  have hfz39_3 := blk_frozen BK350.out 3
                  go_wp2_with (first | ((with_reducible refine gate_callee (f := 11) rfl ?_); refine goesL_ (some 60) rfl rfl Try.func11 (by kernel_rfl) rfl #[.agg #[.int .u64 a0_0, .int .u64 a0_1, .int .u16 a0_2, .slice A0_3 l0_3.length c0_3]] rfl (by (try simp only [List.map_toArray, List.map_cons, List.map_nil]); first | done | rfl | (simp only [List.length_drop, List.length_take]; rfl)) ?_; (with_reducible refine (trunklineref08_Put.calls k2 a0_0 a0_1 a0_2 _ _ l0_3 t371 t374 _ ?side1 ?side2 A32.out).mono ?_); (case side1 => repeat (first | exact (Kd.C_below HR0_3.out HB.out) | (with_reducible refine Kd.C_alloc ?_ _) | (with_reducible refine Kd.C_drewN ?_ _) | (with_reducible refine Kd.C_drew ?_))); (case side2 => exact HC0_3.out); rintro e w40 ⟨v372, rfl, ho0, hb⟩; refine ⟨_, rfl, ?_⟩; have n0_ := Aside0.mk (Kd.R_elder' (by (with_reducible repeat (first | apply Kd.R_alloc | apply Kd.R_drewN | apply Kd.R_drew)); exact HO_7.out) (Kd.R_base ho0) hb); have n1_ := Aside0.mk (Kd.R_elder' (by (with_reducible repeat (first | apply Kd.R_alloc | apply Kd.R_drewN | apply Kd.R_drew)); exact HO_369003.out) (Kd.R_base ho0) hb); have n2_ := Aside0.mk (Kd.R_lower (Kd.R_new' (Kd.R_new' ho0 (Kd.R_lt (by (with_reducible repeat (first | apply Kd.R_alloc | apply Kd.R_drewN | apply Kd.R_drew)); exact HO_7.out))) (Kd.R_lt (by (with_reducible repeat (first | apply Kd.R_alloc | apply Kd.R_drewN | apply Kd.R_drew)); exact HO_369003.out))) (below_size (by repeat (first | (with_reducible first | exact HB.out | apply below_alloc | apply pw_below_drewN | apply below_drew1 | refine below_set ?_ GE350.out | refine below_set ?_ GE368.out) | exact HB.out)))); have n3_ := Aside0.mk (blk_below (g := gb350) (o := .cells #[.int .u64 a0_0, .int .u64 a0_1, .int .u16 a0_2, .slice A0_3 l0_3.length c0_3] 26 (0, 0)) (by (with_reducible repeat (first | refine blk_drewN ?_ _ | refine blk_drew ?_ | refine blk_alloc ?_ _)); exact BK350.out) hb); have n4_ := Aside0.mk (blk_below (g := gb368) (o := .cells #[.int .u64 t361, .int .u64 t362, .int .u16 t363, .slice Ao38 x369003_2.length co38] 26 (0, 0)) (by (with_reducible repeat (first | refine blk_drewN ?_ _ | refine blk_drew ?_ | refine blk_alloc ?_ _)); exact BK368.out) hb); have n5_ := Aside0.mk (below_step (by repeat (first | (with_reducible first | exact HB.out | apply below_alloc | apply pw_below_drewN | apply below_drew1 | refine below_set ?_ GE350.out | refine below_set ?_ GE368.out) | exact HB.out)) hb); clear HO_7; clear HO_369003; clear BK350; clear BK368; clear HB; have HO_7 := n0_; have HO_369003 := n1_; have HO373 := n2_; have BK350 := n3_; have BK368 := n4_; have HB := n5_; clear n0_ n1_ n2_ n3_ n4_ n5_; (try clear hb); (try clear hb2); (try clear hk); (try clear hi); (try clear ho0)) | ((with_reducible refine gate_callee (f := 12) rfl ?_); refine goesL_ (some 63) rfl rfl Try.func12 (by kernel_rfl) rfl #[] rfl (by (try simp only [List.map_toArray, List.map_cons, List.map_nil]); first | done | rfl | (simp only [List.length_drop, List.length_take]; rfl)) ?_; (with_reducible refine (trunklinelaw08_live.calls k2  true _ A33.out).mono ?_); rintro e w41 ⟨rfl, hb⟩; refine ⟨_, rfl, ?_⟩; have n0_ := Aside0.mk (Kd.R_below (by (with_reducible repeat (first | apply Kd.R_alloc | apply Kd.R_drewN | apply Kd.R_drew)); exact HO_7.out) hb); have n1_ := Aside0.mk (Kd.R_below (by (with_reducible repeat (first | apply Kd.R_alloc | apply Kd.R_drewN | apply Kd.R_drew)); exact HO_369003.out) hb); have n2_ := Aside0.mk (Kd.R_below (by (with_reducible repeat (first | apply Kd.R_alloc | apply Kd.R_drewN | apply Kd.R_drew)); exact HO373.out) hb); have n3_ := Aside0.mk (blk_below (g := gb350) (o := .cells #[.int .u64 a0_0, .int .u64 a0_1, .int .u16 a0_2, .slice A0_3 l0_3.length c0_3] 26 (0, 0)) (by (with_reducible repeat (first | refine blk_drewN ?_ _ | refine blk_drew ?_ | refine blk_alloc ?_ _)); exact BK350.out) hb); have n4_ := Aside0.mk (blk_below (g := gb368) (o := .cells #[.int .u64 t361, .int .u64 t362, .int .u16 t363, .slice Ao38 x369003_2.length co38] 26 (0, 0)) (by (with_reducible repeat (first | refine blk_drewN ?_ _ | refine blk_drew ?_ | refine blk_alloc ?_ _)); exact BK368.out) hb); have n5_ := Aside0.mk (below_step (by repeat (first | (with_reducible first | exact HB.out | apply below_alloc | apply pw_below_drewN | apply below_drew1 | refine below_set ?_ GE350.out | refine below_set ?_ GE368.out) | exact HB.out)) hb); clear HO_7; clear HO_369003; clear HO373; clear BK350; clear BK368; clear HB; have HO_7 := n0_; have HO_369003 := n1_; have HO373 := n2_; have BK350 := n3_; have BK368 := n4_; have HB := n5_; clear n0_ n1_ n2_ n3_ n4_ n5_; (try clear hb); (try clear hb2); (try clear hk); (try clear hi); have hcz42_0 : w41.cell? ⟨gb350, 0, none⟩ = some (.int .u64 a0_0) := (blk_cell BK350.out 0).trans rfl; have hcz42_1 : w41.cell? ⟨gb350, 1, none⟩ = some (.int .u64 a0_1) := (blk_cell BK350.out 1).trans rfl; have hcz42_2 : w41.cell? ⟨gb350, 2, none⟩ = some (.int .u16 a0_2) := (blk_cell BK350.out 2).trans rfl; have hcz42_3 : w41.cell? ⟨gb350, 3, none⟩ = some (.slice A0_3 l0_3.length c0_3) := (blk_cell BK350.out 3).trans rfl; have hfz42_0 := blk_frozen BK350.out 0; have hfz42_1 := blk_frozen BK350.out 1; have hfz42_2 := blk_frozen BK350.out 2; have hfz42_3 := blk_frozen BK350.out 3; have hcv43 := Kd.C_string (P := Try.prog) (A := A0_3) (c := c0_3) Try.underlying24 Try.underlying5 Try.underlying9 (Kd.C_below HR0_3.out HB.out); have hcv44 := own_string (P := Try.prog) Try.underlying24 Try.underlying5 Try.underlying9 (Kd.own_of_R HO_7.out); have hcv45 := own_string (P := Try.prog) Try.underlying24 Try.underlying5 Try.underlying9 (Kd.own_of_R HO373.out)))
                  go_ret
                  exact ⟨by first | rfl | (simp [errW_none, errW_some] <;> rfl) | (simp [*, errW_none, errW_some] <;> rfl), by repeat (first | (with_reducible first | exact HB.out | apply below_alloc | apply pw_below_drewN | apply below_drew1 | refine below_set ?_ GE350.out | refine below_set ?_ GE368.out) | exact HB.out)⟩
                · rw [if_neg c35] at H
                  exact absurd rfl c35
              · replace c34 := Bool.eq_false_iff.mpr c34
                subst c34
                have H1 : (some false) = some r := by rw [if_neg (show ¬ (false = true) by decide)] at H; exact H
                clear H
                have H := H1
                clear H1
                obtain rfl := Option.some.inj H
                have hnb54 := NB368_350.out
                have hnc54 := NB350_368.out
                have hcz55_0 : wr.cell? ⟨gb368, 0, none⟩ = some (.int .u64 t361) := (blk_cell BK368.out 0).trans rfl
                have hcz55_1 : wr.cell? ⟨gb368, 1, none⟩ = some (.int .u64 t362) := (blk_cell BK368.out 1).trans rfl
                have hcz55_2 : wr.cell? ⟨gb368, 2, none⟩ = some (.int .u16 t363) := (blk_cell BK368.out 2).trans rfl
                have hcz55_3 : wr.cell? ⟨gb368, 3, none⟩ = some (u369003) := (blk_cell BK368.out 3).trans rfl
                have hfz55_0 := blk_frozen BK368.out 0
                have hfz55_1 := blk_frozen BK368.out 1
                have hfz55_2 := blk_frozen BK368.out 2
                have hfz55_3 := blk_frozen BK368.out 3
                obtain ⟨Ao56, co56, eo56⟩ := Kd.R_slice HO_369003.out
                subst eo56
                have hcz57_0 : wr.cell? ⟨gb350, 0, none⟩ = some (.int .u64 a0_0) := (blk_cell BK350.out 0).trans rfl
                have hcz57_1 : wr.cell? ⟨gb350, 1, none⟩ = some (.int .u64 a0_1) := (blk_cell BK350.out 1).trans rfl
                have hcz57_2 : wr.cell? ⟨gb350, 2, none⟩ = some (.int .u16 a0_2) := (blk_cell BK350.out 2).trans rfl
                have hcz57_3 : wr.cell? ⟨gb350, 3, none⟩ = some (.slice A0_3 l0_3.length c0_3) := (blk_cell BK350.out 3).trans rfl
                have hfz57_0 := blk_frozen BK350.out 0
                have hfz57_1 := blk_frozen BK350.out 1
                have hfz57_2 := blk_frozen BK350.out 2
                have hfz57_3 := blk_frozen BK350.out 3
                go_wp2_with (first | ((with_reducible refine gate_callee (f := 11) rfl ?_); refine goesL_ (some 60) rfl rfl Try.func11 (by kernel_rfl) rfl #[.agg #[.int .u64 a0_0, .int .u64 a0_1, .int .u16 a0_2, .slice A0_3 l0_3.length c0_3]] rfl (by (try simp only [List.map_toArray, List.map_cons, List.map_nil]); first | done | rfl | (simp only [List.length_drop, List.length_take]; rfl)) ?_; (with_reducible refine (trunklineref08_Put.calls k2 a0_0 a0_1 a0_2 _ _ l0_3 t371 t374 _ ?side1 ?side2 A32.out).mono ?_); (case side1 => repeat (first | exact (Kd.C_below HR0_3.out HB.out) | (with_reducible refine Kd.C_alloc ?_ _) | (with_reducible refine Kd.C_drewN ?_ _) | (with_reducible refine Kd.C_drew ?_))); (case side2 => exact HC0_3.out); rintro e w58 ⟨v372, rfl, ho0, hb⟩; refine ⟨_, rfl, ?_⟩; have n0_ := Aside0.mk (Kd.R_elder' (by (with_reducible repeat (first | apply Kd.R_alloc | apply Kd.R_drewN | apply Kd.R_drew)); exact HO_7.out) (Kd.R_base ho0) hb); have n1_ := Aside0.mk (Kd.R_elder' (by (with_reducible repeat (first | apply Kd.R_alloc | apply Kd.R_drewN | apply Kd.R_drew)); exact HO_369003.out) (Kd.R_base ho0) hb); have n2_ := Aside0.mk (Kd.R_lower (Kd.R_new' (Kd.R_new' ho0 (Kd.R_lt (by (with_reducible repeat (first | apply Kd.R_alloc | apply Kd.R_drewN | apply Kd.R_drew)); exact HO_7.out))) (Kd.R_lt (by (with_reducible repeat (first | apply Kd.R_alloc | apply Kd.R_drewN | apply Kd.R_drew)); exact HO_369003.out))) (below_size (by repeat (first | (with_reducible first | exact HB.out | apply below_alloc | apply pw_below_drewN | apply below_drew1 | refine below_set ?_ GE350.out | refine below_set ?_ GE368.out) | exact HB.out)))); have n3_ := Aside0.mk (blk_below (g := gb350) (o := .cells #[.int .u64 a0_0, .int .u64 a0_1, .int .u16 a0_2, .slice A0_3 l0_3.length c0_3] 26 (0, 0)) (by (with_reducible repeat (first | refine blk_drewN ?_ _ | refine blk_drew ?_ | refine blk_alloc ?_ _)); exact BK350.out) hb); have n4_ := Aside0.mk (blk_below (g := gb368) (o := .cells #[.int .u64 t361, .int .u64 t362, .int .u16 t363, .slice Ao56 x369003_2.length co56] 26 (0, 0)) (by (with_reducible repeat (first | refine blk_drewN ?_ _ | refine blk_drew ?_ | refine blk_alloc ?_ _)); exact BK368.out) hb); have n5_ := Aside0.mk (below_step (by repeat (first | (with_reducible first | exact HB.out | apply below_alloc | apply pw_below_drewN | apply below_drew1 | refine below_set ?_ GE350.out | refine below_set ?_ GE368.out) | exact HB.out)) hb); clear HO_7; clear HO_369003; clear BK350; clear BK368; clear HB; have HO_7 := n0_; have HO_369003 := n1_; have HO373 := n2_; have BK350 := n3_; have BK368 := n4_; have HB := n5_; clear n0_ n1_ n2_ n3_ n4_ n5_; (try clear hb); (try clear hb2); (try clear hk); (try clear hi); (try clear ho0)) | ((with_reducible refine gate_callee (f := 12) rfl ?_); refine goesL_ (some 63) rfl rfl Try.func12 (by kernel_rfl) rfl #[] rfl (by (try simp only [List.map_toArray, List.map_cons, List.map_nil]); first | done | rfl | (simp only [List.length_drop, List.length_take]; rfl)) ?_; (with_reducible refine (trunklinelaw08_live.calls k2  false _ A33.out).mono ?_); rintro e w59 ⟨rfl, hb⟩; refine ⟨_, rfl, ?_⟩; have n0_ := Aside0.mk (Kd.R_below (by (with_reducible repeat (first | apply Kd.R_alloc | apply Kd.R_drewN | apply Kd.R_drew)); exact HO_7.out) hb); have n1_ := Aside0.mk (Kd.R_below (by (with_reducible repeat (first | apply Kd.R_alloc | apply Kd.R_drewN | apply Kd.R_drew)); exact HO_369003.out) hb); have n2_ := Aside0.mk (Kd.R_below (by (with_reducible repeat (first | apply Kd.R_alloc | apply Kd.R_drewN | apply Kd.R_drew)); exact HO373.out) hb); have n3_ := Aside0.mk (blk_below (g := gb350) (o := .cells #[.int .u64 a0_0, .int .u64 a0_1, .int .u16 a0_2, .slice A0_3 l0_3.length c0_3] 26 (0, 0)) (by (with_reducible repeat (first | refine blk_drewN ?_ _ | refine blk_drew ?_ | refine blk_alloc ?_ _)); exact BK350.out) hb); have n4_ := Aside0.mk (blk_below (g := gb368) (o := .cells #[.int .u64 t361, .int .u64 t362, .int .u16 t363, .slice Ao56 x369003_2.length co56] 26 (0, 0)) (by (with_reducible repeat (first | refine blk_drewN ?_ _ | refine blk_drew ?_ | refine blk_alloc ?_ _)); exact BK368.out) hb); have n5_ := Aside0.mk (below_step (by repeat (first | (with_reducible first | exact HB.out | apply below_alloc | apply pw_below_drewN | apply below_drew1 | refine below_set ?_ GE350.out | refine below_set ?_ GE368.out) | exact HB.out)) hb); clear HO_7; clear HO_369003; clear HO373; clear BK350; clear BK368; clear HB; have HO_7 := n0_; have HO_369003 := n1_; have HO373 := n2_; have BK350 := n3_; have BK368 := n4_; have HB := n5_; clear n0_ n1_ n2_ n3_ n4_ n5_; (try clear hb); (try clear hb2); (try clear hk); (try clear hi)))
                go_ret
                exact ⟨by first | rfl | (simp [errW_none, errW_some] <;> rfl) | (simp [*, errW_none, errW_some] <;> rfl), by repeat (first | (with_reducible first | exact HB.out | apply below_alloc | apply pw_below_drewN | apply below_drew1 | refine below_set ?_ GE350.out | refine below_set ?_ GE368.out) | exact HB.out)⟩

/-- THE ONE PURE STATEMENT of trunklinelaw08_EtherOwn: yours. -/
def trunklinelaw08_EtherOwn.Pure : Prop := ∀ (a0_0 : Int) (a0_1 : Int) (a0_2 : Int) (l0_3 : List Int), (Lit.int .u64 a0_0).wf = true → (Lit.int .u64 a0_1).wf = true → (Lit.int .u16 a0_2).wf = true → l0_3.length ≤ maxLen → l0_3.length * 1 ≤ 140737488351232 → (∀ y ∈ l0_3, (Lit.int .u8 y).wf = true) → ∃ k, trunklinelaw08_EtherOwn.f k a0_0 a0_1 a0_2 l0_3 = some true

end Go.Proofs.Ytnfbbnmdlcmifaa.M
