-- Printed by this session's mp.py over the kit's print (turned in memory). Not trusted: Lean checks it.
import Derived.Test.YtdligcofjfdhbaaM0
import Derived.Test.YtdligcofjfdhbaaM9
import Derived.Test.YtdligcofjfdhbaaM15
import Derived.Test.YtdligcofjfdhbaaM16
import Derived.Test.YtdligcofjfdhbaaM17
import Derived.Test.YtdligcofjfdhbaaHIpTake
namespace Go.Proofs.Ytdligcofjfdhbaa.M
open Go.RowKit Go.Proofs.YtdligcofjfdhbaaW.PrintWords Go.Proofs.YtdligcofjfdhbaaW.PrintLast Go.Proofs.YtdligcofjfdhbaaW.PrintMore
attribute [local go_sem] max2_int min2_int max_two min_two max_three min_three max_four min_four   -- for this text's walks alone
set_option linter.unusedVariables false
set_option linter.unusedSimpArgs false

/-! ### trunklinelaw10_IpOwn: function 9 -/
mutual
def trunklinelaw10_IpOwn.l0 : Nat → Int → ByteArray → List Int → Int → Int → Int → Int → Int → Int → Bool → Bool → Int → List Int → Option (Bool)
 | 0, _, _, _, _, _, _, _, _, _, _, _, _, _ => none
 | k + 1, x1, x5, x6, x8, x444000, x444001, x444002, x444003, x444004, x444005, x444006, x444007, x444008 => if x8 < (x6.length : Int) then (if 0 ≤ x8 then (trunklinelaw10_IpOwn.l0 k x1 x5 (x6.set (x8 : Int).toNat (Go.bits .xor .u8 (rd x6 x8) 33)) (wrap64 (x8 + 1)) x444000 x444001 x444002 x444003 x444004 x444005 x444006 x444007 x444008) else (none)) else ((trunklineref10_Put.f k x444000 x444001 x444002 x444003 x444004 x444005 x444006 x444007 x444008).bind fun bt450 => ((ip_Take.f k bt450.1).bind fun bt454 => (trunklinelaw10_IpOwn.l1 k x1 x5 bt450.1 (strOfNums bt450.1) 0 x444000 x444001 x444002 x444003 x444004 x444005 x444006 x444007 x444008 bt454.1 bt454.2.1 bt454.2.2.1 bt454.2.2.2.1 bt454.2.2.2.2.1 bt454.2.2.2.2.2.1 bt454.2.2.2.2.2.2.1 bt454.2.2.2.2.2.2.2.1 bt454.2.2.2.2.2.2.2.2.1)))
def trunklinelaw10_IpOwn.l1 : Nat → Int → ByteArray → List Int → ByteArray → Int → Int → Int → Int → Int → Int → Bool → Bool → Int → List Int → Int → Int → Int → Int → Int → Bool → Bool → Int → List Int → Option (Bool)
 | 0, _, _, _, _, _, _, _, _, _, _, _, _, _, _, _, _, _, _, _, _, _, _, _ => none
 | k + 1, x1, x5, x9, x11, x14, x444000, x444001, x444002, x444003, x444004, x444005, x444006, x444007, x444008, x467000, x467001, x467002, x467003, x467004, x467005, x467006, x467007, x467008 => if x14 < (x467008.length : Int) then (if 0 ≤ x14 then (trunklinelaw10_IpOwn.l1 k x1 x5 x9 x11 (wrap64 (x14 + 1)) x444000 x444001 x444002 x444003 x444004 x444005 x444006 x444007 x444008 x467000 x467001 x467002 x467003 x467004 x467005 x467006 x467007 (x467008.set (x14 : Int).toNat (Go.bits .xor .u8 (rd x467008 x14) 33))) else (none)) else ((ip_Split.f k x444000 x444001 x444002 x444003 x444004 x444005 x444006 x444007 x444008 x1).bind fun bt469 => (trunklinelaw10_IpOwn.l2 k x5 x9 x11 bt469.1 0 x444000 x444001 x444002 x444003 x444004 x444005 x444006 x444007 x444008))
def trunklinelaw10_IpOwn.l2 : Nat → ByteArray → List Int → ByteArray → List (S26) → Int → Int → Int → Int → Int → Int → Bool → Bool → Int → List Int → Option (Bool)
 | 0, _, _, _, _, _, _, _, _, _, _, _, _, _, _ => none
 | k + 1, x5, x9, x11, x15, x17, x444000, x444001, x444002, x444003, x444004, x444005, x444006, x444007, x444008 => if x17 < (x15.length : Int) then (trunklinelaw10_IpOwn.l3 k x5 x9 x11 x15 x17 0 x444000 x444001 x444002 x444003 x444004 x444005 x444006 x444007 x444008) else ((trunklinelaw10_live.f k).bind fun t473 => (if t473 = true then (if (strOfNums x444008).toList = x5.toList then (some ((strOfNums x9).toList == x11.toList)) else (some false)) else (some false)))
def trunklinelaw10_IpOwn.l3 : Nat → ByteArray → List Int → ByteArray → List (S26) → Int → Int → Int → Int → Int → Int → Int → Bool → Bool → Int → List Int → Option (Bool)
 | 0, _, _, _, _, _, _, _, _, _, _, _, _, _, _, _ => none
 | k + 1, x5, x9, x11, x15, x17, x18, x444000, x444001, x444002, x444003, x444004, x444005, x444006, x444007, x444008 => if 0 ≤ x17 then (if x17 < (x15.length : Int) then (if x18 < (((rd_T26 x15 x17).f8).length : Int) then (if 0 ≤ x18 then (trunklinelaw10_IpOwn.l3 k x5 x9 x11 (x15.set (x17 : Int).toNat (⟨(rd_T26 x15 x17).f0, (rd_T26 x15 x17).f1, (rd_T26 x15 x17).f2, (rd_T26 x15 x17).f3, (rd_T26 x15 x17).f4, (rd_T26 x15 x17).f5, (rd_T26 x15 x17).f6, (rd_T26 x15 x17).f7, (((rd_T26 x15 x17).f8).set (x18 : Int).toNat (Go.bits .xor .u8 (rd ((rd_T26 x15 x17).f8) x18) 33))⟩ : S26)) x17 (wrap64 (x18 + 1)) x444000 x444001 x444002 x444003 x444004 x444005 x444006 x444007 x444008) else (none)) else (trunklinelaw10_IpOwn.l2 k x5 x9 x11 x15 (wrap64 (x17 + 1)) x444000 x444001 x444002 x444003 x444004 x444005 x444006 x444007 x444008)) else (none)) else (none)
end
def trunklinelaw10_IpOwn.f (k : Nat) (a0_0 : Int) (a0_1 : Int) (a0_2 : Int) (a0_3 : Int) (a0_4 : Int) (a0_5 : Bool) (a0_6 : Bool) (a0_7 : Int) (l0_8 : List Int) (a1 : Int) : Option (Bool) := (ip_Put.f k a0_0 a0_1 a0_2 a0_3 a0_4 a0_5 a0_6 a0_7 l0_8).bind fun bt444 => (trunklinelaw10_IpOwn.l0 k a1 (strOfNums l0_8) bt444.1 0 a0_0 a0_1 a0_2 a0_3 a0_4 a0_5 a0_6 a0_7 l0_8)
theorem trunklinelaw10_IpOwn.mono_l : ∀ k, (∀ y0 y1 y2 y3 y4 y5 y6 y7 y8 y9 y10 y11 y12, LeO (trunklinelaw10_IpOwn.l0 k y0 y1 y2 y3 y4 y5 y6 y7 y8 y9 y10 y11 y12) (trunklinelaw10_IpOwn.l0 (k + 1) y0 y1 y2 y3 y4 y5 y6 y7 y8 y9 y10 y11 y12)) ∧ (∀ y0 y1 y2 y3 y4 y5 y6 y7 y8 y9 y10 y11 y12 y13 y14 y15 y16 y17 y18 y19 y20 y21 y22, LeO (trunklinelaw10_IpOwn.l1 k y0 y1 y2 y3 y4 y5 y6 y7 y8 y9 y10 y11 y12 y13 y14 y15 y16 y17 y18 y19 y20 y21 y22) (trunklinelaw10_IpOwn.l1 (k + 1) y0 y1 y2 y3 y4 y5 y6 y7 y8 y9 y10 y11 y12 y13 y14 y15 y16 y17 y18 y19 y20 y21 y22)) ∧ (∀ y0 y1 y2 y3 y4 y5 y6 y7 y8 y9 y10 y11 y12 y13, LeO (trunklinelaw10_IpOwn.l2 k y0 y1 y2 y3 y4 y5 y6 y7 y8 y9 y10 y11 y12 y13) (trunklinelaw10_IpOwn.l2 (k + 1) y0 y1 y2 y3 y4 y5 y6 y7 y8 y9 y10 y11 y12 y13)) ∧ (∀ y0 y1 y2 y3 y4 y5 y6 y7 y8 y9 y10 y11 y12 y13 y14, LeO (trunklinelaw10_IpOwn.l3 k y0 y1 y2 y3 y4 y5 y6 y7 y8 y9 y10 y11 y12 y13 y14) (trunklinelaw10_IpOwn.l3 (k + 1) y0 y1 y2 y3 y4 y5 y6 y7 y8 y9 y10 y11 y12 y13 y14))
 | 0 => ⟨fun _ _ _ _ _ _ _ _ _ _ _ _ _ r h => by simp [trunklinelaw10_IpOwn.l0] at h, fun _ _ _ _ _ _ _ _ _ _ _ _ _ _ _ _ _ _ _ _ _ _ _ r h => by simp [trunklinelaw10_IpOwn.l1] at h, fun _ _ _ _ _ _ _ _ _ _ _ _ _ _ r h => by simp [trunklinelaw10_IpOwn.l2] at h, fun _ _ _ _ _ _ _ _ _ _ _ _ _ _ _ r h => by simp [trunklinelaw10_IpOwn.l3] at h⟩
 | k + 1 => by
  obtain ⟨ih0, ih1, ih2, ih3⟩ := trunklinelaw10_IpOwn.mono_l k
  refine ⟨?_, ?_, ?_, ?_⟩
  ·intro y0 y1 y2 y3 y4 y5 y6 y7 y8 y9 y10 y11 y12
   unfold trunklinelaw10_IpOwn.l0
   repeat' first
   | (with_reducible exact ih0 _ _ _ _ _ _ _ _ _ _ _ _ _)
   | (with_reducible exact ih1 _ _ _ _ _ _ _ _ _ _ _ _ _ _ _ _ _ _ _ _ _ _ _)
   | (with_reducible exact ih2 _ _ _ _ _ _ _ _ _ _ _ _ _ _)
   | (with_reducible exact ih3 _ _ _ _ _ _ _ _ _ _ _ _ _ _ _)
   | (with_reducible exact ip_Put.mono _ _ _ _ _ _ _ _ _ _)
   | (with_reducible exact ip_Split.mono _ _ _ _ _ _ _ _ _ _ _)
   | (with_reducible exact ip_Take.mono _ _)
   | (with_reducible exact trunklinelaw10_live.mono _)
   | (with_reducible exact trunklineref10_Put.mono _ _ _ _ _ _ _ _ _ _)
   | (with_reducible exact LeO.refl _)
   | (with_reducible exact LeO.none _)
   | (with_reducible refine LeO.ite ?_ ?_)
   | (with_reducible refine LeO.bind ?_ (fun _ => ?_))
   | exact ih0 _ _ _ _ _ _ _ _ _ _ _ _ _
   | exact ih1 _ _ _ _ _ _ _ _ _ _ _ _ _ _ _ _ _ _ _ _ _ _ _
   | exact ih2 _ _ _ _ _ _ _ _ _ _ _ _ _ _
   | exact ih3 _ _ _ _ _ _ _ _ _ _ _ _ _ _ _
   | exact ip_Put.mono _ _ _ _ _ _ _ _ _ _
   | exact ip_Split.mono _ _ _ _ _ _ _ _ _ _ _
   | exact ip_Take.mono _ _
   | exact trunklinelaw10_live.mono _
   | exact trunklineref10_Put.mono _ _ _ _ _ _ _ _ _ _
   | exact LeO.none _
   | refine LeO.ite ?_ ?_
   | refine LeO.bind ?_ (fun _ => ?_)
  ·intro y0 y1 y2 y3 y4 y5 y6 y7 y8 y9 y10 y11 y12 y13 y14 y15 y16 y17 y18 y19 y20 y21 y22
   unfold trunklinelaw10_IpOwn.l1
   repeat' first
   | (with_reducible exact ih0 _ _ _ _ _ _ _ _ _ _ _ _ _)
   | (with_reducible exact ih1 _ _ _ _ _ _ _ _ _ _ _ _ _ _ _ _ _ _ _ _ _ _ _)
   | (with_reducible exact ih2 _ _ _ _ _ _ _ _ _ _ _ _ _ _)
   | (with_reducible exact ih3 _ _ _ _ _ _ _ _ _ _ _ _ _ _ _)
   | (with_reducible exact ip_Put.mono _ _ _ _ _ _ _ _ _ _)
   | (with_reducible exact ip_Split.mono _ _ _ _ _ _ _ _ _ _ _)
   | (with_reducible exact ip_Take.mono _ _)
   | (with_reducible exact trunklinelaw10_live.mono _)
   | (with_reducible exact trunklineref10_Put.mono _ _ _ _ _ _ _ _ _ _)
   | (with_reducible exact LeO.refl _)
   | (with_reducible exact LeO.none _)
   | (with_reducible refine LeO.ite ?_ ?_)
   | (with_reducible refine LeO.bind ?_ (fun _ => ?_))
   | exact ih0 _ _ _ _ _ _ _ _ _ _ _ _ _
   | exact ih1 _ _ _ _ _ _ _ _ _ _ _ _ _ _ _ _ _ _ _ _ _ _ _
   | exact ih2 _ _ _ _ _ _ _ _ _ _ _ _ _ _
   | exact ih3 _ _ _ _ _ _ _ _ _ _ _ _ _ _ _
   | exact ip_Put.mono _ _ _ _ _ _ _ _ _ _
   | exact ip_Split.mono _ _ _ _ _ _ _ _ _ _ _
   | exact ip_Take.mono _ _
   | exact trunklinelaw10_live.mono _
   | exact trunklineref10_Put.mono _ _ _ _ _ _ _ _ _ _
   | exact LeO.none _
   | refine LeO.ite ?_ ?_
   | refine LeO.bind ?_ (fun _ => ?_)
  ·intro y0 y1 y2 y3 y4 y5 y6 y7 y8 y9 y10 y11 y12 y13
   unfold trunklinelaw10_IpOwn.l2
   repeat' first
   | (with_reducible exact ih0 _ _ _ _ _ _ _ _ _ _ _ _ _)
   | (with_reducible exact ih1 _ _ _ _ _ _ _ _ _ _ _ _ _ _ _ _ _ _ _ _ _ _ _)
   | (with_reducible exact ih2 _ _ _ _ _ _ _ _ _ _ _ _ _ _)
   | (with_reducible exact ih3 _ _ _ _ _ _ _ _ _ _ _ _ _ _ _)
   | (with_reducible exact ip_Put.mono _ _ _ _ _ _ _ _ _ _)
   | (with_reducible exact ip_Split.mono _ _ _ _ _ _ _ _ _ _ _)
   | (with_reducible exact ip_Take.mono _ _)
   | (with_reducible exact trunklinelaw10_live.mono _)
   | (with_reducible exact trunklineref10_Put.mono _ _ _ _ _ _ _ _ _ _)
   | (with_reducible exact LeO.refl _)
   | (with_reducible exact LeO.none _)
   | (with_reducible refine LeO.ite ?_ ?_)
   | (with_reducible refine LeO.bind ?_ (fun _ => ?_))
   | exact ih0 _ _ _ _ _ _ _ _ _ _ _ _ _
   | exact ih1 _ _ _ _ _ _ _ _ _ _ _ _ _ _ _ _ _ _ _ _ _ _ _
   | exact ih2 _ _ _ _ _ _ _ _ _ _ _ _ _ _
   | exact ih3 _ _ _ _ _ _ _ _ _ _ _ _ _ _ _
   | exact ip_Put.mono _ _ _ _ _ _ _ _ _ _
   | exact ip_Split.mono _ _ _ _ _ _ _ _ _ _ _
   | exact ip_Take.mono _ _
   | exact trunklinelaw10_live.mono _
   | exact trunklineref10_Put.mono _ _ _ _ _ _ _ _ _ _
   | exact LeO.none _
   | refine LeO.ite ?_ ?_
   | refine LeO.bind ?_ (fun _ => ?_)
  ·intro y0 y1 y2 y3 y4 y5 y6 y7 y8 y9 y10 y11 y12 y13 y14
   unfold trunklinelaw10_IpOwn.l3
   repeat' first
   | (with_reducible exact ih0 _ _ _ _ _ _ _ _ _ _ _ _ _)
   | (with_reducible exact ih1 _ _ _ _ _ _ _ _ _ _ _ _ _ _ _ _ _ _ _ _ _ _ _)
   | (with_reducible exact ih2 _ _ _ _ _ _ _ _ _ _ _ _ _ _)
   | (with_reducible exact ih3 _ _ _ _ _ _ _ _ _ _ _ _ _ _ _)
   | (with_reducible exact ip_Put.mono _ _ _ _ _ _ _ _ _ _)
   | (with_reducible exact ip_Split.mono _ _ _ _ _ _ _ _ _ _ _)
   | (with_reducible exact ip_Take.mono _ _)
   | (with_reducible exact trunklinelaw10_live.mono _)
   | (with_reducible exact trunklineref10_Put.mono _ _ _ _ _ _ _ _ _ _)
   | (with_reducible exact LeO.refl _)
   | (with_reducible exact LeO.none _)
   | (with_reducible refine LeO.ite ?_ ?_)
   | (with_reducible refine LeO.bind ?_ (fun _ => ?_))
   | exact ih0 _ _ _ _ _ _ _ _ _ _ _ _ _
   | exact ih1 _ _ _ _ _ _ _ _ _ _ _ _ _ _ _ _ _ _ _ _ _ _ _
   | exact ih2 _ _ _ _ _ _ _ _ _ _ _ _ _ _
   | exact ih3 _ _ _ _ _ _ _ _ _ _ _ _ _ _ _
   | exact ip_Put.mono _ _ _ _ _ _ _ _ _ _
   | exact ip_Split.mono _ _ _ _ _ _ _ _ _ _ _
   | exact ip_Take.mono _ _
   | exact trunklinelaw10_live.mono _
   | exact trunklineref10_Put.mono _ _ _ _ _ _ _ _ _ _
   | exact LeO.none _
   | refine LeO.ite ?_ ?_
   | refine LeO.bind ?_ (fun _ => ?_)
theorem trunklinelaw10_IpOwn.mono : ∀ a0 a1 a2 a3 a4 a5 a6 a7 a8 a9 k, LeO (trunklinelaw10_IpOwn.f k a0 a1 a2 a3 a4 a5 a6 a7 a8 a9) (trunklinelaw10_IpOwn.f (k + 1) a0 a1 a2 a3 a4 a5 a6 a7 a8 a9) := by
 intro a0 a1 a2 a3 a4 a5 a6 a7 a8 a9 k
 obtain ⟨ih0, ih1, ih2, ih3⟩ := trunklinelaw10_IpOwn.mono_l k
 unfold trunklinelaw10_IpOwn.f
 repeat' first
   | (with_reducible exact ih0 _ _ _ _ _ _ _ _ _ _ _ _ _)
   | (with_reducible exact ih1 _ _ _ _ _ _ _ _ _ _ _ _ _ _ _ _ _ _ _ _ _ _ _)
   | (with_reducible exact ih2 _ _ _ _ _ _ _ _ _ _ _ _ _ _)
   | (with_reducible exact ih3 _ _ _ _ _ _ _ _ _ _ _ _ _ _ _)
   | (with_reducible exact ip_Put.mono _ _ _ _ _ _ _ _ _ _)
   | (with_reducible exact ip_Split.mono _ _ _ _ _ _ _ _ _ _ _)
   | (with_reducible exact ip_Take.mono _ _)
   | (with_reducible exact trunklinelaw10_live.mono _)
   | (with_reducible exact trunklineref10_Put.mono _ _ _ _ _ _ _ _ _ _)
   | (with_reducible exact LeO.refl _)
   | (with_reducible exact LeO.none _)
   | (with_reducible refine LeO.ite ?_ ?_)
   | (with_reducible refine LeO.bind ?_ (fun _ => ?_))
   | exact ih0 _ _ _ _ _ _ _ _ _ _ _ _ _
   | exact ih1 _ _ _ _ _ _ _ _ _ _ _ _ _ _ _ _ _ _ _ _ _ _ _
   | exact ih2 _ _ _ _ _ _ _ _ _ _ _ _ _ _
   | exact ih3 _ _ _ _ _ _ _ _ _ _ _ _ _ _ _
   | exact ip_Put.mono _ _ _ _ _ _ _ _ _ _
   | exact ip_Split.mono _ _ _ _ _ _ _ _ _ _ _
   | exact ip_Take.mono _ _
   | exact trunklinelaw10_live.mono _
   | exact trunklineref10_Put.mono _ _ _ _ _ _ _ _ _ _
   | exact LeO.none _
   | refine LeO.ite ?_ ?_
   | refine LeO.bind ?_ (fun _ => ?_)
set_option maxHeartbeats 8000000 in
set_option maxRecDepth 100000 in
theorem trunklinelaw10_IpOwn.calls (k : Nat) (a0_0 : Int) (a0_1 : Int) (a0_2 : Int) (a0_3 : Int) (a0_4 : Int) (a0_5 : Bool) (a0_6 : Bool) (a0_7 : Int) (A0_8 : Option Addr) (c0_8 : Nat) (l0_8 : List Int) (a1 : Int) (r : Bool) (w : World) (hr0_8 : Kd.C (Kd.int .u8) w A0_8 l0_8.length l0_8) (hc0_8 : l0_8.length ≤ c0_8) (hr_ : r = true) (h : trunklinelaw10_IpOwn.f k a0_0 a0_1 a0_2 a0_3 a0_4 a0_5 a0_6 a0_7 l0_8 a1 = some r) :
  Calls Try.prog 9 #[.agg #[.int .u32 a0_0, .int .u32 a0_1, .int .u8 a0_2, .int .u8 a0_3, .int .u16 a0_4, .bool a0_5, .bool a0_6, .int .i64 a0_7, .slice A0_8 l0_8.length c0_8], .int .i64 a1] w fun e w' => e = .returned (.bool r) ∧ Below w.heap.size w w' := by
 have HRT := Aside0.mk hr_
 clear hr_
 have hu26 := Try.underlying26
 have HR0_8 := Aside0.mk hr0_8
 have HC0_8 := Aside0.mk hc0_8
 clear hr0_8 hc0_8
 have HB := Aside0.mk (Below.refl w.heap.size w)
 have H : ((ip_Put.f k a0_0 a0_1 a0_2 a0_3 a0_4 a0_5 a0_6 a0_7 l0_8).bind fun bt444 => (trunklinelaw10_IpOwn.l0 k a1 (strOfNums l0_8) bt444.1 0 a0_0 a0_1 a0_2 a0_3 a0_4 a0_5 a0_6 a0_7 l0_8)) = some r := h
 clear h
 replace H := Option.bind_eq_some_iff.mp H
 obtain ⟨⟨t444, t447⟩, A30, H⟩ := H
 replace H : (trunklinelaw10_IpOwn.l0 k a1 (strOfNums l0_8) t444 0 a0_0 a0_1 a0_2 a0_3 a0_4 a0_5 a0_6 a0_7 l0_8) = some r := H
 have A3 := Aside0.mk A30
 clear A30
 have H' := Aside0.mk H
 clear H
 go_enter Try.func9, Try.ntmps9
 go_wp2_with (first | ((with_reducible refine gate_dst (N := 2) rfl ?_); refine box_event ?hg (N := 2) ?hd (cs := #[.int .u32 a0_0, .int .u32 a0_1, .int .u8 a0_2, .int .u8 a0_3, .int .u16 a0_4, .bool a0_5, .bool a0_6, .int .i64 a0_7, .slice A0_8 l0_8.length c0_8]) (t := 26) ?hr ?_; (case hd => rfl); (case hg => rfl); (case hr => first | (go_simp; done) | (go_simp; rfl)); intro gb443 hg w4 hbox hb; have n0_ := Aside0.mk (below_step (by repeat (first | (with_reducible first | exact HB.out | apply below_alloc | apply pw_below_drewN | apply below_drew1) | exact HB.out)) hb); have n1_ := Aside0.mk (hbox); have n2_ := Aside0.mk ((by rw [hg]; exact (below_size (by repeat (first | (with_reducible first | exact HB.out | apply below_alloc | apply pw_below_drewN | apply below_drew1) | exact HB.out))) : w.heap.size ≤ gb443)); have n3_ := Aside0.mk ((by rw [hg]; exact (below_size (by repeat (first | (with_reducible first | exact HB.out | apply below_alloc | apply pw_below_drewN | apply below_drew1) | exact HB.out))) : w.heap.size ≤ gb443)); clear HB; have HB := n0_; have BK443 := n1_; have GW443 := n2_; have GE443 := n3_; clear n0_ n1_ n2_ n3_; clear hb hbox hg; obtain ⟨hcz5_0, hcz5_1, hcz5_2, hcz5_3, hcz5_4, hcz5_5, hcz5_6, hcz5_7, hcz5_8⟩ := blk9 BK443.out; obtain ⟨hfz5_0, hfz5_1, hfz5_2, hfz5_3, hfz5_4, hfz5_5, hfz5_6, hfz5_7, hfz5_8⟩ := frz9 BK443.out; have hcv6 := Kd.C_string (P := Try.prog) (A := A0_8) (c := c0_8) Try.underlying24 Try.underlying5 Try.underlying9 (Kd.C_below HR0_8.out HB.out)) | ((with_reducible refine gate_callee (f := 13) rfl ?_); refine goesL_ (some 24) rfl rfl Try.func13 (by kernel_rfl) rfl #[.agg #[.int .u32 a0_0, .int .u32 a0_1, .int .u8 a0_2, .int .u8 a0_3, .int .u16 a0_4, .bool a0_5, .bool a0_6, .int .i64 a0_7, .slice A0_8 l0_8.length c0_8]] rfl (by (try simp only [List.map_toArray, List.map_cons, List.map_nil]); first | done | rfl | (simp only [List.length_drop, List.length_take]; rfl)) ?_; (with_reducible refine (ip_Put.calls k a0_0 a0_1 a0_2 a0_3 a0_4 a0_5 a0_6 a0_7 _ _ l0_8 t444 t447 _ ?side1 ?side2 A3.out).mono ?_); (case side1 => repeat (first | exact (Kd.C_below HR0_8.out HB.out) | (with_reducible refine Kd.C_alloc ?_ _) | (with_reducible refine Kd.C_drewN ?_ _) | (with_reducible refine Kd.C_drew ?_))); (case side2 => exact HC0_8.out); rintro e w7 ⟨v445, rfl, ho0, hb⟩; refine ⟨_, rfl, ?_⟩; have n0_ := Aside0.mk (Kd.R_lower ho0 (below_size (by repeat (first | (with_reducible first | exact HB.out | apply below_alloc | apply pw_below_drewN | apply below_drew1 | refine below_set ?_ GE443.out) | exact HB.out)))); have n1_ := Aside0.mk (blk_below (g := gb443) (o := .cells #[.int .u32 a0_0, .int .u32 a0_1, .int .u8 a0_2, .int .u8 a0_3, .int .u16 a0_4, .bool a0_5, .bool a0_6, .int .i64 a0_7, .slice A0_8 l0_8.length c0_8] 26 (0, 0)) (by (with_reducible repeat (first | refine blk_drewN ?_ _ | refine blk_drew ?_ | refine blk_alloc ?_ _)); exact BK443.out) hb); have n2_ := Aside0.mk (below_step (by repeat (first | (with_reducible first | exact HB.out | apply below_alloc | apply pw_below_drewN | apply below_drew1 | refine below_set ?_ GE443.out) | exact HB.out)) hb); clear BK443; clear HB; have HO446 := n0_; have BK443 := n1_; have HB := n2_; clear n0_ n1_ n2_; (try clear hb); (try clear hb2); (try clear hk); (try clear hi); (try clear ho0)))
 go_loopg [8] k (fun kq v8 w' => ∃ (x6_1 : List Int) (x8_1 : Int), v8 = .int .i64 x8_1 ∧ Aside0 (trunklinelaw10_IpOwn.l0 kq a1 (strOfNums l0_8) x6_1 x8_1 a0_0 a0_1 a0_2 a0_3 a0_4 a0_5 a0_6 a0_7 l0_8 = some r) ∧ Aside0 (kq ≤ k) ∧ Aside0 (Kd.R (Kd.int .u8) 5 w' w.heap.size (fun _ => True) v445 x6_1) ∧ Aside0 (w'.heap[gb443]? = some (.cells #[.int .u32 a0_0, .int .u32 a0_1, .int .u8 a0_2, .int .u8 a0_3, .int .u16 a0_4, .bool a0_5, .bool a0_6, .int .i64 a0_7, (.slice A0_8 l0_8.length c0_8)] 26 (0, 0))) ∧ Aside0 (Below w.heap.size w w'))
 case atStart => exact ⟨(t444), (0), (by first | rfl | (simp; done) | (simp [*]; done)), H', ⟨Nat.le_refl _⟩, ⟨by (with_reducible repeat (first | apply Kd.R_alloc | apply Kd.R_drewN | apply Kd.R_drew)); exact HO446.out⟩, ⟨by (with_reducible repeat (first | refine blk_drewN ?_ _ | refine blk_drew ?_ | refine blk_alloc ?_ _)); exact BK443.out⟩, ⟨by repeat (first | (with_reducible first | exact HB.out | apply below_alloc | apply pw_below_drewN | apply below_drew1 | refine below_set ?_ GE443.out) | exact HB.out)⟩⟩
 case round =>
  clear H'
  try clear c1
  try clear p2
  try clear hcv6
  try clear hcz5_0
  try clear hcz5_1
  try clear hcz5_2
  try clear hcz5_3
  try clear hcz5_4
  try clear hcz5_5
  try clear hcz5_6
  try clear hcz5_7
  try clear hcz5_8
  try clear hfz5_0
  try clear hfz5_1
  try clear hfz5_2
  try clear hfz5_3
  try clear hfz5_4
  try clear hfz5_5
  try clear hfz5_6
  try clear hfz5_7
  try clear hfz5_8
  obtain ⟨x6_1, x8_1, rfl, HA, HK1, HO_6, BK443, HB⟩ := hrel
  cases gk with
  | zero => exact absurd HA.out (by simp [trunklinelaw10_IpOwn.l0])
  | succ k1 =>
   have H := HA.out
   clear HA
   simp only [trunklinelaw10_IpOwn.l0] at H
   by_cases c8 : x8_1 < (x6_1.length : Int)
   ·rw [if_pos c8] at H
    have c8b0 : decide (x8_1 < (x6_1.length : Int)) = true := decide_eq_true c8
    clear c8
    by_cases c9 : 0 ≤ x8_1
    ·rw [if_pos c9] at H
     have c9b0 : decide (0 ≤ x8_1) = true := decide_eq_true c9
     clear c9
     obtain ⟨y449, hy449⟩ : ∃ y_ : List Int, y_ = (x6_1.set (x8_1 : Int).toNat (Go.bits .xor .u8 (rd x6_1 x8_1) 33)) := ⟨_, rfl⟩
     replace H : (trunklinelaw10_IpOwn.l0 k1 a1 (strOfNums l0_8) y449 (wrap64 (x8_1 + 1)) a0_0 a0_1 a0_2 a0_3 a0_4 a0_5 a0_6 a0_7 l0_8) = some r := by first | (rw [hy449]; with_reducible exact H) | (have H2_ := (Option.bind_some _ _).symm.trans H; rw [hy449]; with_reducible exact H2_) | (have H2_ := (Option.bind_some _ _).symm.trans H; with_reducible exact H2_) | with_reducible exact H | (rw [hy449]; exact H) | exact H
     have Ny449 := Aside0.mk hy449
     clear hy449
     have H' := Aside0.mk H
     clear H
     obtain ⟨Ao11, co11, eo11⟩ := Kd.R_slice HO_6.out
     subst eo11
     have p448 : 0 ≤ (x8_1 : Int) := of_decide_eq_true (by first | (with_reducible assumption) | assumption)
     have q448 : x8_1 < (x6_1.length : Int) := of_decide_eq_true (by first | (with_reducible assumption) | assumption)
     obtain ⟨ad448, e448, hx448_0⟩ := Kd.at_int (Kd.R_reads' HO_6.out).2.2 x8_1 p448 q448
     cases e448
     replace p448 := eq_true p448
     replace q448 := eq_true q448
     have p10 : 0 ≤ (x8_1 : Int) := of_decide_eq_true (by first | (with_reducible assumption) | assumption)
     have q10 : (x8_1 : Int) < ((x6_1.length : Int) : Int) := of_decide_eq_true (by first | (with_reducible assumption) | assumption)
     obtain ⟨go10, co10, eo10, gb10, gl10, cl10, HG10⟩ := Kd.R_form HO_6.out (by omega)
     (first | cases eo10 | (injection eo10 with ea_ en_ ec_; (first | subst ea_ | (injection ea_ with ea_; subst ea_)); subst ec_; clear en_))
     have GB10 := Aside0.mk gb10
     have GG10 := Aside0.mk HG10
     clear gb10 gl10 HG10
     (first | simp only [add_plain] at hx448_0 | skip)
     obtain ⟨hx10_0, hf10_0⟩ := Kd.R_celln 0 HO_6.out (x8_1 : Int) p10 q10
     replace p10 := eq_true p10
     replace q10 := eq_true q10
     have HP12 := Kd.R_putg HO_6.out (x8_1 : Int) (Go.bits .xor .u8 (rd x6_1 x8_1) 33)
     go_wp2_with (first | ((with_reducible refine gate_store (t := 5) (p := 38) rfl ?_); refine store_event (t := 5) (p := 38) (v := ?vo_w13) (w1 := (wr.setCell ⟨go10, (x8_1 : Int).toNat, none⟩ (.int .u8 (Go.bits .xor .u8 (rd x6_1 x8_1) 33)))) ?hg ?ho ?hn ?hr ?_; (case ho => rfl); (case hg => rfl); (case hn => rfl); (case hr => first | (go_simp; done) | (go_simp; rfl)); intro w13 hw; have hg : wr.grownBy w13 (some go10) := (by rw [hw]; exact HP12.2); have hp_ : Kd.R (Kd.int .u8) 5 w13 w.heap.size (fun _ => True) (.slice (some ⟨go10, 0, none⟩) x6_1.length co11) y449 := (by rw [hw, Ny449.out]; exact HP12.1); clear HP12; have n0_ := Aside0.mk (hp_); have n1_ := Aside0.mk (blk_grown (g := gb443) (o := .cells #[.int .u32 a0_0, .int .u32 a0_1, .int .u8 a0_2, .int .u8 a0_3, .int .u16 a0_4, .bool a0_5, .bool a0_6, .int .i64 a0_7, .slice A0_8 l0_8.length c0_8] 26 (0, 0)) (by (with_reducible repeat (first | refine blk_drewN ?_ _ | refine blk_drew ?_ | refine blk_alloc ?_ _)); exact BK443.out) hg (Kd.R_ne HO_6.out BK443.out (by decide))); have n2_ := Aside0.mk ((by rw [hw]; exact below_set (HB.out) GB10.out : Below w.heap.size w w13)); clear HO_6; clear BK443; clear HB; have HO_6 := n0_; have BK443 := n1_; have HB := n2_; clear n0_ n1_ n2_; clear hg hw hp_))
     go_roundg k1
     case measure => have := HK1.out; omega
     case rel => exact ⟨(y449), (wrap64 (x8_1 + 1)), (by first | rfl | (simp; done) | (simp [*]; done)), H', ⟨by have := HK1.out; omega⟩, ⟨by (with_reducible repeat (first | apply Kd.R_alloc | apply Kd.R_drewN | apply Kd.R_drew)); exact HO_6.out⟩, ⟨by (with_reducible repeat (first | refine blk_drewN ?_ _ | refine blk_drew ?_ | refine blk_alloc ?_ _)); exact BK443.out⟩, ⟨by repeat (first | (with_reducible first | exact HB.out | apply below_alloc | apply pw_below_drewN | apply below_drew1 | refine below_set ?_ GE443.out) | exact HB.out)⟩⟩
    ·rw [if_neg c9] at H
     exact absurd H (by simp)
   ·rw [if_neg c8] at H
    have c8b0 : decide (x8_1 < (x6_1.length : Int)) = false := decide_eq_false c8
    clear c8
    replace H := Option.bind_eq_some_iff.mp H
    obtain ⟨⟨t450, t453⟩, A140, H⟩ := H
    replace H : ((ip_Take.f k1 t450).bind fun bt454 => (trunklinelaw10_IpOwn.l1 k1 a1 (strOfNums l0_8) t450 (strOfNums t450) 0 a0_0 a0_1 a0_2 a0_3 a0_4 a0_5 a0_6 a0_7 l0_8 bt454.1 bt454.2.1 bt454.2.2.1 bt454.2.2.2.1 bt454.2.2.2.2.1 bt454.2.2.2.2.2.1 bt454.2.2.2.2.2.2.1 bt454.2.2.2.2.2.2.2.1 bt454.2.2.2.2.2.2.2.2.1)) = some r := H
    have A14 := Aside0.mk A140
    clear A140
    replace H := Option.bind_eq_some_iff.mp H
    obtain ⟨⟨t454, t455, t456, t457, t458, t459, t460, t461, t462, t465⟩, A150, H⟩ := H
    replace H : (trunklinelaw10_IpOwn.l1 k1 a1 (strOfNums l0_8) t450 (strOfNums t450) 0 a0_0 a0_1 a0_2 a0_3 a0_4 a0_5 a0_6 a0_7 l0_8 t454 t455 t456 t457 t458 t459 t460 t461 t462) = some r := H
    have A15 := Aside0.mk A150
    clear A150
    have H' := Aside0.mk H
    clear H
    obtain ⟨Ao16, co16, eo16⟩ := Kd.R_slice HO_6.out
    subst eo16
    obtain ⟨hcz17_0, hcz17_1, hcz17_2, hcz17_3, hcz17_4, hcz17_5, hcz17_6, hcz17_7, hcz17_8⟩ := blk9 BK443.out
    obtain ⟨hfz17_0, hfz17_1, hfz17_2, hfz17_3, hfz17_4, hfz17_5, hfz17_6, hfz17_7, hfz17_8⟩ := frz9 BK443.out
    go_wp2_with (first | ((with_reducible refine gate_callee (f := 14) rfl ?_); refine goesL_ (some 41) rfl rfl Try.func14 (by kernel_rfl) rfl #[.agg #[.int .u32 a0_0, .int .u32 a0_1, .int .u8 a0_2, .int .u8 a0_3, .int .u16 a0_4, .bool a0_5, .bool a0_6, .int .i64 a0_7, .slice A0_8 l0_8.length c0_8]] rfl (by (try simp only [List.map_toArray, List.map_cons, List.map_nil]); first | done | rfl | (simp only [List.length_drop, List.length_take]; rfl)) ?_; (with_reducible refine (trunklineref10_Put.calls k1 a0_0 a0_1 a0_2 a0_3 a0_4 a0_5 a0_6 a0_7 _ _ l0_8 t450 t453 _ ?side1 ?side2 A14.out).mono ?_); (case side1 => repeat (first | exact (Kd.C_below HR0_8.out HB.out) | (with_reducible refine Kd.C_alloc ?_ _) | (with_reducible refine Kd.C_drewN ?_ _) | (with_reducible refine Kd.C_drew ?_))); (case side2 => exact HC0_8.out); rintro e w18 ⟨v451, rfl, ho0, hb⟩; refine ⟨_, rfl, ?_⟩; have n0_ := Aside0.mk (Kd.R_elder' (by (with_reducible repeat (first | apply Kd.R_alloc | apply Kd.R_drewN | apply Kd.R_drew)); exact HO_6.out) (Kd.R_base ho0) hb); have n1_ := Aside0.mk (Kd.R_lower (Kd.R_new' ho0 (Kd.R_lt (by (with_reducible repeat (first | apply Kd.R_alloc | apply Kd.R_drewN | apply Kd.R_drew)); exact HO_6.out))) (below_size (by repeat (first | (with_reducible first | exact HB.out | apply below_alloc | apply pw_below_drewN | apply below_drew1 | refine below_set ?_ GE443.out) | exact HB.out)))); have n2_ := Aside0.mk (blk_below (g := gb443) (o := .cells #[.int .u32 a0_0, .int .u32 a0_1, .int .u8 a0_2, .int .u8 a0_3, .int .u16 a0_4, .bool a0_5, .bool a0_6, .int .i64 a0_7, .slice A0_8 l0_8.length c0_8] 26 (0, 0)) (by (with_reducible repeat (first | refine blk_drewN ?_ _ | refine blk_drew ?_ | refine blk_alloc ?_ _)); exact BK443.out) hb); have n3_ := Aside0.mk (below_step (by repeat (first | (with_reducible first | exact HB.out | apply below_alloc | apply pw_below_drewN | apply below_drew1 | refine below_set ?_ GE443.out) | exact HB.out)) hb); clear HO_6; clear BK443; clear HB; have HO_6 := n0_; have HO452 := n1_; have BK443 := n2_; have HB := n3_; clear n0_ n1_ n2_ n3_; (try clear hb); (try clear hb2); (try clear hk); (try clear hi); (try clear ho0); have hcv19 := own_string (P := Try.prog) Try.underlying24 Try.underlying5 Try.underlying9 (Kd.own_of_R HO452.out); obtain ⟨Ao20, co20, eo20⟩ := Kd.R_slice HO452.out; subst eo20) | ((with_reducible refine gate_callee (f := 16) rfl ?_); refine goesL_ (some 48) rfl rfl Try.func16 (by kernel_rfl) rfl #[.slice Ao20 t450.length co20] rfl (by (try simp only [List.map_toArray, List.map_cons, List.map_nil]); first | done | rfl | (simp only [List.length_drop, List.length_take]; rfl)) ?_; (with_reducible refine (ip_Take.calls k1 _ _ t450 t454 t455 t456 t457 t458 t459 t460 t461 t462 t465 _ ?side1 ?side2 A15.out).mono ?_); (case side1 => repeat (first | exact (Kd.R_reads' HO452.out).2.2 | (with_reducible refine Kd.C_alloc ?_ _) | (with_reducible refine Kd.C_drewN ?_ _) | (with_reducible refine Kd.C_drew ?_))); (case side2 => exact (Kd.R_reads' HO452.out).2.1); rintro e w21 ⟨v463, rfl, ho0, hb⟩; refine ⟨_, rfl, ?_⟩; have n0_ := Aside0.mk (Kd.R_elder' (by (with_reducible repeat (first | apply Kd.R_alloc | apply Kd.R_drewN | apply Kd.R_drew)); exact HO_6.out) (Kd.R_base ho0) hb); have n1_ := Aside0.mk (Kd.R_elder' (by (with_reducible repeat (first | apply Kd.R_alloc | apply Kd.R_drewN | apply Kd.R_drew)); exact HO452.out) (Kd.R_base ho0) hb); have n2_ := Aside0.mk (Kd.R_lower (Kd.R_new' (Kd.R_new' ho0 (Kd.R_lt (by (with_reducible repeat (first | apply Kd.R_alloc | apply Kd.R_drewN | apply Kd.R_drew)); exact HO_6.out))) (Kd.R_lt (by (with_reducible repeat (first | apply Kd.R_alloc | apply Kd.R_drewN | apply Kd.R_drew)); exact HO452.out))) (below_size (by repeat (first | (with_reducible first | exact HB.out | apply below_alloc | apply pw_below_drewN | apply below_drew1 | refine below_set ?_ GE443.out) | exact HB.out)))); have n3_ := Aside0.mk (blk_below (g := gb443) (o := .cells #[.int .u32 a0_0, .int .u32 a0_1, .int .u8 a0_2, .int .u8 a0_3, .int .u16 a0_4, .bool a0_5, .bool a0_6, .int .i64 a0_7, .slice A0_8 l0_8.length c0_8] 26 (0, 0)) (by (with_reducible repeat (first | refine blk_drewN ?_ _ | refine blk_drew ?_ | refine blk_alloc ?_ _)); exact BK443.out) hb); have n4_ := Aside0.mk (below_step (by repeat (first | (with_reducible first | exact HB.out | apply below_alloc | apply pw_below_drewN | apply below_drew1 | refine below_set ?_ GE443.out) | exact HB.out)) hb); clear HO_6; clear HO452; clear BK443; clear HB; have HO_6 := n0_; have HO452 := n1_; have HO464 := n2_; have BK443 := n3_; have HB := n4_; clear n0_ n1_ n2_ n3_ n4_; (try clear hb); (try clear hb2); (try clear hk); (try clear hi); (try clear ho0)) | ((with_reducible refine gate_dst (N := 12) rfl ?_); refine box_event ?hg (N := 12) ?hd (cs := #[.int .u32 0, .int .u32 0, .int .u8 0, .int .u8 0, .int .u16 0, .bool false, .bool false, .int .i64 0, .slice none 0 0]) (t := 26) ?hr ?_; (case hd => rfl); (case hg => rfl); (case hr => first | (go_simp; done) | (go_simp; rfl)); intro gb466 hg w22 hbox hb; have n0_ := Aside0.mk (Kd.R_below (by (with_reducible repeat (first | apply Kd.R_alloc | apply Kd.R_drewN | apply Kd.R_drew)); exact HO_6.out) hb); have n1_ := Aside0.mk (Kd.R_below (by (with_reducible repeat (first | apply Kd.R_alloc | apply Kd.R_drewN | apply Kd.R_drew)); exact HO452.out) hb); have n2_ := Aside0.mk (Kd.R_below (by (with_reducible repeat (first | apply Kd.R_alloc | apply Kd.R_drewN | apply Kd.R_drew)); exact HO464.out) hb); have n3_ := Aside0.mk (blk_below (g := gb443) (o := .cells #[.int .u32 a0_0, .int .u32 a0_1, .int .u8 a0_2, .int .u8 a0_3, .int .u16 a0_4, .bool a0_5, .bool a0_6, .int .i64 a0_7, .slice A0_8 l0_8.length c0_8] 26 (0, 0)) (by (with_reducible repeat (first | refine blk_drewN ?_ _ | refine blk_drew ?_ | refine blk_alloc ?_ _)); exact BK443.out) hb); have n4_ := Aside0.mk (below_step (by repeat (first | (with_reducible first | exact HB.out | apply below_alloc | apply pw_below_drewN | apply below_drew1 | refine below_set ?_ GE443.out) | exact HB.out)) hb); have n5_ := Aside0.mk (hbox); have n6_ := Aside0.mk ((by rw [hg]; exact (below_size (by repeat (first | (with_reducible first | exact HB.out | apply below_alloc | apply pw_below_drewN | apply below_drew1 | refine below_set ?_ GE443.out) | exact HB.out))) : w.heap.size ≤ gb466)); have n7_ := Aside0.mk ((by rw [hg]; exact (below_size (by repeat (first | (with_reducible first | exact HB.out | apply below_alloc | apply pw_below_drewN | apply below_drew1 | refine below_set ?_ GE443.out) | exact HB.out))) : w.heap.size ≤ gb466)); have n8_ := Aside0.mk ((by rw [hg]; exact Nat.ne_of_lt (blk_lt (g := gb443) (o := .cells #[.int .u32 a0_0, .int .u32 a0_1, .int .u8 a0_2, .int .u8 a0_3, .int .u16 a0_4, .bool a0_5, .bool a0_6, .int .i64 a0_7, .slice A0_8 l0_8.length c0_8] 26 (0, 0)) (by (with_reducible repeat (first | refine blk_drewN ?_ _ | refine blk_drew ?_ | refine blk_alloc ?_ _)); exact BK443.out)) : gb443 ≠ gb466)); have n9_ := Aside0.mk ((by rw [hg]; exact Nat.ne_of_gt (blk_lt (g := gb443) (o := .cells #[.int .u32 a0_0, .int .u32 a0_1, .int .u8 a0_2, .int .u8 a0_3, .int .u16 a0_4, .bool a0_5, .bool a0_6, .int .i64 a0_7, .slice A0_8 l0_8.length c0_8] 26 (0, 0)) (by (with_reducible repeat (first | refine blk_drewN ?_ _ | refine blk_drew ?_ | refine blk_alloc ?_ _)); exact BK443.out)) : gb466 ≠ gb443)); clear HO_6; clear HO452; clear HO464; clear BK443; clear HB; have HO_6 := n0_; have HO452 := n1_; have HO464 := n2_; have BK443 := n3_; have HB := n4_; have BK466 := n5_; have GW466 := n6_; have GE466 := n7_; have NB443_466 := n8_; have NB466_443 := n9_; clear n0_ n1_ n2_ n3_ n4_ n5_ n6_ n7_ n8_ n9_; clear hb hbox hg; have hnb23 := NB466_443.out; have hnc23 := NB443_466.out; obtain ⟨hcz24_0, hcz24_1, hcz24_2, hcz24_3, hcz24_4, hcz24_5, hcz24_6, hcz24_7, hcz24_8⟩ := blk9 BK466.out; obtain ⟨hfz24_0, hfz24_1, hfz24_2, hfz24_3, hfz24_4, hfz24_5, hfz24_6, hfz24_7, hfz24_8⟩ := frz9 BK466.out; obtain ⟨Ao25, co25, eo25⟩ := Kd.R_slice HO464.out; subst eo25))
    go_loopg [14] k1 (fun kq v14 w' => ∃ (x9_2 : List Int) (x14_2 : Int) (x467008_2 : List Int) (u467008 : Value), v14 = .int .i64 x14_2 ∧ Aside0 (trunklinelaw10_IpOwn.l1 kq a1 (strOfNums l0_8) x9_2 (strOfNums t450) x14_2 a0_0 a0_1 a0_2 a0_3 a0_4 a0_5 a0_6 a0_7 l0_8 t454 t455 t456 t457 t458 t459 t460 t461 x467008_2 = some r) ∧ Aside0 (kq ≤ k1) ∧ Aside0 (Kd.R (Kd.int .u8) 5 w' w.heap.size (fun k_ => some k_ ≠ (u467008 : Value).ownBlock) (.slice Ao20 t450.length co20) x9_2) ∧ Aside0 (Kd.R (Kd.int .u8) 5 w' w.heap.size (fun k_ => some k_ ≠ ((.slice Ao20 t450.length co20) : Value).ownBlock) u467008 x467008_2) ∧ Aside0 (w'.heap[gb443]? = some (.cells #[.int .u32 a0_0, .int .u32 a0_1, .int .u8 a0_2, .int .u8 a0_3, .int .u16 a0_4, .bool a0_5, .bool a0_6, .int .i64 a0_7, (.slice A0_8 l0_8.length c0_8)] 26 (0, 0))) ∧ Aside0 (w'.heap[gb466]? = some (.cells #[.int .u32 t454, .int .u32 t455, .int .u8 t456, .int .u8 t457, .int .u16 t458, .bool t459, .bool t460, .int .i64 t461, u467008] 26 (0, 0))) ∧ Aside0 (Below w.heap.size w w'))
    case atStart => exact ⟨(t450), (0), (t462), (.slice Ao25 t462.length co25), (by first | rfl | (simp; done) | (simp [*]; done)), H', ⟨Nat.le_refl _⟩, ⟨by (with_reducible repeat (first | apply Kd.R_alloc | apply Kd.R_drewN | apply Kd.R_drew)); exact Kd.R_mono (Kd.R_far (p := ⟨gb466, 8, none⟩) (Kd.R_far (p := ⟨gb466, 7, none⟩) (Kd.R_far (p := ⟨gb466, 6, none⟩) (Kd.R_far (p := ⟨gb466, 5, none⟩) (Kd.R_far (p := ⟨gb466, 4, none⟩) (Kd.R_far (p := ⟨gb466, 3, none⟩) (Kd.R_far (p := ⟨gb466, 2, none⟩) (Kd.R_far (p := ⟨gb466, 1, none⟩) (Kd.R_far (p := ⟨gb466, 0, none⟩) (Kd.R_types HO452.out BK466.out (by decide)) (fun _ hk => hk.2) (.int .u32 t454)) (fun _ hk => hk.2) (.int .u32 t455)) (fun _ hk => hk.2) (.int .u8 t456)) (fun _ hk => hk.2) (.int .u8 t457)) (fun _ hk => hk.2) (.int .u16 t458)) (fun _ hk => hk.2) (.bool t459)) (fun _ hk => hk.2) (.bool t460)) (fun _ hk => hk.2) (.int .i64 t461)) (fun _ hk => hk.2) (.slice Ao25 t462.length co25)) (fun _ hk => hk.1.2)⟩, ⟨by (with_reducible repeat (first | apply Kd.R_alloc | apply Kd.R_drewN | apply Kd.R_drew)); exact Kd.R_mono (Kd.R_far (p := ⟨gb466, 8, none⟩) (Kd.R_far (p := ⟨gb466, 7, none⟩) (Kd.R_far (p := ⟨gb466, 6, none⟩) (Kd.R_far (p := ⟨gb466, 5, none⟩) (Kd.R_far (p := ⟨gb466, 4, none⟩) (Kd.R_far (p := ⟨gb466, 3, none⟩) (Kd.R_far (p := ⟨gb466, 2, none⟩) (Kd.R_far (p := ⟨gb466, 1, none⟩) (Kd.R_far (p := ⟨gb466, 0, none⟩) (Kd.R_types HO464.out BK466.out (by decide)) (fun _ hk => hk.2) (.int .u32 t454)) (fun _ hk => hk.2) (.int .u32 t455)) (fun _ hk => hk.2) (.int .u8 t456)) (fun _ hk => hk.2) (.int .u8 t457)) (fun _ hk => hk.2) (.int .u16 t458)) (fun _ hk => hk.2) (.bool t459)) (fun _ hk => hk.2) (.bool t460)) (fun _ hk => hk.2) (.int .i64 t461)) (fun _ hk => hk.2) (.slice Ao25 t462.length co25)) (fun _ hk => hk.1.2)⟩, ⟨by (with_reducible repeat (first | refine blk_drewN ?_ _ | refine blk_drew ?_ | refine blk_alloc ?_ _)); refine blk_far ?_ NB443_466.out _; (with_reducible repeat (first | refine blk_drewN ?_ _ | refine blk_drew ?_ | refine blk_alloc ?_ _)); refine blk_far ?_ NB443_466.out _; (with_reducible repeat (first | refine blk_drewN ?_ _ | refine blk_drew ?_ | refine blk_alloc ?_ _)); refine blk_far ?_ NB443_466.out _; (with_reducible repeat (first | refine blk_drewN ?_ _ | refine blk_drew ?_ | refine blk_alloc ?_ _)); refine blk_far ?_ NB443_466.out _; (with_reducible repeat (first | refine blk_drewN ?_ _ | refine blk_drew ?_ | refine blk_alloc ?_ _)); refine blk_far ?_ NB443_466.out _; (with_reducible repeat (first | refine blk_drewN ?_ _ | refine blk_drew ?_ | refine blk_alloc ?_ _)); refine blk_far ?_ NB443_466.out _; (with_reducible repeat (first | refine blk_drewN ?_ _ | refine blk_drew ?_ | refine blk_alloc ?_ _)); refine blk_far ?_ NB443_466.out _; (with_reducible repeat (first | refine blk_drewN ?_ _ | refine blk_drew ?_ | refine blk_alloc ?_ _)); refine blk_far ?_ NB443_466.out _; (with_reducible repeat (first | refine blk_drewN ?_ _ | refine blk_drew ?_ | refine blk_alloc ?_ _)); refine blk_far ?_ NB443_466.out _; (with_reducible repeat (first | refine blk_drewN ?_ _ | refine blk_drew ?_ | refine blk_alloc ?_ _)); exact BK443.out⟩, ⟨by (with_reducible repeat (first | refine blk_drewN ?_ _ | refine blk_drew ?_ | refine blk_alloc ?_ _)); refine blk_put (cs := #[.int .u32 t454, .int .u32 t455, .int .u8 t456, .int .u8 t457, .int .u16 t458, .bool t459, .bool t460, .int .i64 t461, .slice none 0 0]) ?_ 8 _ rfl; (with_reducible repeat (first | refine blk_drewN ?_ _ | refine blk_drew ?_ | refine blk_alloc ?_ _)); refine blk_put (cs := #[.int .u32 t454, .int .u32 t455, .int .u8 t456, .int .u8 t457, .int .u16 t458, .bool t459, .bool t460, .int .i64 0, .slice none 0 0]) ?_ 7 _ rfl; (with_reducible repeat (first | refine blk_drewN ?_ _ | refine blk_drew ?_ | refine blk_alloc ?_ _)); refine blk_put (cs := #[.int .u32 t454, .int .u32 t455, .int .u8 t456, .int .u8 t457, .int .u16 t458, .bool t459, .bool false, .int .i64 0, .slice none 0 0]) ?_ 6 _ rfl; (with_reducible repeat (first | refine blk_drewN ?_ _ | refine blk_drew ?_ | refine blk_alloc ?_ _)); refine blk_put (cs := #[.int .u32 t454, .int .u32 t455, .int .u8 t456, .int .u8 t457, .int .u16 t458, .bool false, .bool false, .int .i64 0, .slice none 0 0]) ?_ 5 _ rfl; (with_reducible repeat (first | refine blk_drewN ?_ _ | refine blk_drew ?_ | refine blk_alloc ?_ _)); refine blk_put (cs := #[.int .u32 t454, .int .u32 t455, .int .u8 t456, .int .u8 t457, .int .u16 0, .bool false, .bool false, .int .i64 0, .slice none 0 0]) ?_ 4 _ rfl; (with_reducible repeat (first | refine blk_drewN ?_ _ | refine blk_drew ?_ | refine blk_alloc ?_ _)); refine blk_put (cs := #[.int .u32 t454, .int .u32 t455, .int .u8 t456, .int .u8 0, .int .u16 0, .bool false, .bool false, .int .i64 0, .slice none 0 0]) ?_ 3 _ rfl; (with_reducible repeat (first | refine blk_drewN ?_ _ | refine blk_drew ?_ | refine blk_alloc ?_ _)); refine blk_put (cs := #[.int .u32 t454, .int .u32 t455, .int .u8 0, .int .u8 0, .int .u16 0, .bool false, .bool false, .int .i64 0, .slice none 0 0]) ?_ 2 _ rfl; (with_reducible repeat (first | refine blk_drewN ?_ _ | refine blk_drew ?_ | refine blk_alloc ?_ _)); refine blk_put (cs := #[.int .u32 t454, .int .u32 0, .int .u8 0, .int .u8 0, .int .u16 0, .bool false, .bool false, .int .i64 0, .slice none 0 0]) ?_ 1 _ rfl; (with_reducible repeat (first | refine blk_drewN ?_ _ | refine blk_drew ?_ | refine blk_alloc ?_ _)); refine blk_put (cs := #[.int .u32 0, .int .u32 0, .int .u8 0, .int .u8 0, .int .u16 0, .bool false, .bool false, .int .i64 0, .slice none 0 0]) ?_ 0 _ rfl; (with_reducible repeat (first | refine blk_drewN ?_ _ | refine blk_drew ?_ | refine blk_alloc ?_ _)); exact BK466.out⟩, ⟨by repeat (first | (with_reducible first | exact HB.out | apply below_alloc | apply pw_below_drewN | apply below_drew1 | refine below_set ?_ GE443.out | refine below_set ?_ GE466.out) | exact HB.out)⟩⟩
    case round =>
     clear H'
     try clear c1
     try clear p1
     try clear q1
     try clear hx1
     try clear hcv1
     try clear c2
     try clear p2
     try clear p4
     try clear q4
     try clear hx4
     try clear p6
     try clear hcv6
     try clear c8
     try clear c8b0
     try clear c9
     try clear c9b0
     try clear p10
     try clear q10
     try clear hx10
     try clear hf10
     try clear c13
     try clear c14
     try clear c16
     try clear hcv19
     try clear c23
     try clear hcz17_0
     try clear hcz17_1
     try clear hcz17_2
     try clear hcz17_3
     try clear hcz17_4
     try clear hcz17_5
     try clear hcz17_6
     try clear hcz17_7
     try clear hcz17_8
     try clear hcz24_0
     try clear hcz24_1
     try clear hcz24_2
     try clear hcz24_3
     try clear hcz24_4
     try clear hcz24_5
     try clear hcz24_6
     try clear hcz24_7
     try clear hcz24_8
     try clear hcz5_0
     try clear hcz5_1
     try clear hcz5_2
     try clear hcz5_3
     try clear hcz5_4
     try clear hcz5_5
     try clear hcz5_6
     try clear hcz5_7
     try clear hcz5_8
     try clear hfz17_0
     try clear hfz17_1
     try clear hfz17_2
     try clear hfz17_3
     try clear hfz17_4
     try clear hfz17_5
     try clear hfz17_6
     try clear hfz17_7
     try clear hfz17_8
     try clear hfz24_0
     try clear hfz24_1
     try clear hfz24_2
     try clear hfz24_3
     try clear hfz24_4
     try clear hfz24_5
     try clear hfz24_6
     try clear hfz24_7
     try clear hfz24_8
     try clear hfz5_0
     try clear hfz5_1
     try clear hfz5_2
     try clear hfz5_3
     try clear hfz5_4
     try clear hfz5_5
     try clear hfz5_6
     try clear hfz5_7
     try clear hfz5_8
     try clear hx10_0
     try clear hx448_0
     try clear p10
     try clear p2
     try clear p448
     try clear q10
     try clear q448
     obtain ⟨x9_2, x14_2, x467008_2, u467008, rfl, HA, HK2, HO_9, HO_467008, BK443, BK466, HB⟩ := hrel
     have hl9_2 := (Kd.R_reads' HO_9.out).1
     rw [hl9_2] at HO_9
     (try simp only [hl9_2])
     (try simp only [hl9_2] at BK443)
     (try simp only [hl9_2] at BK466)
     (try simp only [hl9_2] at HO_467008)
     cases gk with
     | zero => exact absurd HA.out (by simp [trunklinelaw10_IpOwn.l1])
     | succ k2 =>
      have H := HA.out
      clear HA
      simp only [trunklinelaw10_IpOwn.l1] at H
      by_cases c26 : x14_2 < (x467008_2.length : Int)
      ·rw [if_pos c26] at H
       have c26b0 : decide (x14_2 < (x467008_2.length : Int)) = true := decide_eq_true c26
       (try (have c26b0z := c26b0; simp only [hl9_2] at c26b0z))
       clear c26
       by_cases c27 : 0 ≤ x14_2
       ·rw [if_pos c27] at H
        have c27b0 : decide (0 ≤ x14_2) = true := decide_eq_true c27
        (try (have c27b0z := c27b0; simp only [hl9_2] at c27b0z))
        clear c27
        obtain ⟨y468, hy468⟩ : ∃ y_ : List Int, y_ = (x467008_2.set (x14_2 : Int).toNat (Go.bits .xor .u8 (rd x467008_2 x14_2) 33)) := ⟨_, rfl⟩
        replace H : (trunklinelaw10_IpOwn.l1 k2 a1 (strOfNums l0_8) x9_2 (strOfNums t450) (wrap64 (x14_2 + 1)) a0_0 a0_1 a0_2 a0_3 a0_4 a0_5 a0_6 a0_7 l0_8 t454 t455 t456 t457 t458 t459 t460 t461 y468) = some r := by first | (rw [hy468]; with_reducible exact H) | (have H2_ := (Option.bind_some _ _).symm.trans H; rw [hy468]; with_reducible exact H2_) | (have H2_ := (Option.bind_some _ _).symm.trans H; with_reducible exact H2_) | with_reducible exact H | (rw [hy468]; exact H) | exact H
        have Ny468 := Aside0.mk hy468
        clear hy468
        have H' := Aside0.mk H
        clear H
        have hnb29 := NB466_443.out
        have hnc29 := NB443_466.out
        obtain ⟨hcz30_0, hcz30_1, hcz30_2, hcz30_3, hcz30_4, hcz30_5, hcz30_6, hcz30_7, hcz30_8⟩ := blk9 BK466.out
        obtain ⟨hfz30_0, hfz30_1, hfz30_2, hfz30_3, hfz30_4, hfz30_5, hfz30_6, hfz30_7, hfz30_8⟩ := frz9 BK466.out
        obtain ⟨Ao31, co31, eo31⟩ := Kd.R_slice HO_467008.out
        subst eo31
        have p467 : 0 ≤ (x14_2 : Int) := of_decide_eq_true (by first | (with_reducible assumption) | assumption)
        have q467 : x14_2 < (x467008_2.length : Int) := of_decide_eq_true (by first | (with_reducible assumption) | assumption)
        obtain ⟨ad467, e467, hx467_0⟩ := Kd.at_int (Kd.R_reads' HO_467008.out).2.2 x14_2 p467 q467
        cases e467
        replace p467 := eq_true p467
        replace q467 := eq_true q467
        have p28 : 0 ≤ (x14_2 : Int) := of_decide_eq_true (by first | (with_reducible assumption) | assumption)
        have q28 : (x14_2 : Int) < ((x467008_2.length : Int) : Int) := of_decide_eq_true (by first | (with_reducible assumption) | assumption)
        obtain ⟨go28, co28, eo28, gb28, gl28, cl28, HG28⟩ := Kd.R_form HO_467008.out (by omega)
        (first | cases eo28 | (injection eo28 with ea_ en_ ec_; (first | subst ea_ | (injection ea_ with ea_; subst ea_)); subst ec_; clear en_))
        have GB28 := Aside0.mk gb28
        have GG28 := Aside0.mk HG28
        clear gb28 gl28 HG28
        (first | simp only [add_plain] at hx467_0 | skip)
        obtain ⟨hx28_0, hf28_0⟩ := Kd.R_celln 0 HO_467008.out (x14_2 : Int) p28 q28
        replace p28 := eq_true p28
        replace q28 := eq_true q28
        have HP32 := Kd.R_putg HO_467008.out (x14_2 : Int) (Go.bits .xor .u8 (rd x467008_2 x14_2) 33)
        go_wp2_with (first | ((with_reducible refine gate_store (t := 5) (p := 64) rfl ?_); refine store_event (t := 5) (p := 64) (v := ?vo_w33) (w1 := (wr.setCell ⟨go28, (x14_2 : Int).toNat, none⟩ (.int .u8 (Go.bits .xor .u8 (rd x467008_2 x14_2) 33)))) ?hg ?ho ?hn ?hr ?_; (case ho => rfl); (case hg => rfl); (case hn => rfl); (case hr => first | (go_simp; done) | (go_simp; rfl)); intro w33 hw; have hg : wr.grownBy w33 (some go28) := (by rw [hw]; exact HP32.2); have hp_ : Kd.R (Kd.int .u8) 5 w33 w.heap.size (fun k_ => some k_ ≠ (.slice Ao20 x9_2.length co20 : Value).ownBlock) (.slice (some ⟨go28, 0, none⟩) x467008_2.length co31) y468 := (by rw [hw, Ny468.out]; exact HP32.1); clear HP32; have n0_ := Aside0.mk (Kd.R_after (v := (.slice (some ⟨go28, 0, none⟩) x467008_2.length co31)) (v1 := (.slice (some ⟨go28, 0, none⟩) x467008_2.length co31)) (ok := (fun _ => True)) (by (with_reducible repeat (first | apply Kd.R_alloc | apply Kd.R_drewN | apply Kd.R_drew)); exact Kd.R_mono HO_9.out (fun _ hk => ⟨trivial, hk⟩)) hg (.inl rfl)); have n1_ := Aside0.mk (hp_); have n2_ := Aside0.mk (blk_grown (g := gb443) (o := .cells #[.int .u32 a0_0, .int .u32 a0_1, .int .u8 a0_2, .int .u8 a0_3, .int .u16 a0_4, .bool a0_5, .bool a0_6, .int .i64 a0_7, .slice A0_8 l0_8.length c0_8] 26 (0, 0)) (by (with_reducible repeat (first | refine blk_drewN ?_ _ | refine blk_drew ?_ | refine blk_alloc ?_ _)); exact BK443.out) hg (Kd.R_ne HO_467008.out BK443.out (by decide))); have n3_ := Aside0.mk (blk_grown (g := gb466) (o := .cells #[.int .u32 t454, .int .u32 t455, .int .u8 t456, .int .u8 t457, .int .u16 t458, .bool t459, .bool t460, .int .i64 t461, .slice (some ⟨go28, 0, none⟩) x467008_2.length co31] 26 (0, 0)) (by (with_reducible repeat (first | refine blk_drewN ?_ _ | refine blk_drew ?_ | refine blk_alloc ?_ _)); exact BK466.out) hg (Kd.R_ne HO_467008.out BK466.out (by decide))); have n4_ := Aside0.mk ((by rw [hw]; exact below_set (HB.out) GB28.out : Below w.heap.size w w33)); clear HO_9; clear HO_467008; clear BK443; clear BK466; clear HB; have HO_9 := n0_; have HO_467008 := n1_; have BK443 := n2_; have BK466 := n3_; have HB := n4_; clear n0_ n1_ n2_ n3_ n4_; clear hg hw hp_))
        (try simp only [← hl9_2])
        go_roundg k2
        case measure => have := HK1.out; have := HK2.out; omega
        case rel => exact ⟨(x9_2), (wrap64 (x14_2 + 1)), (y468), (.slice (some ⟨go28, 0, none⟩) x467008_2.length co31), (by first | rfl | (simp; done) | (simp [*]; done)), H', ⟨by have := HK1.out; have := HK2.out; omega⟩, ⟨by (try simp only [hl9_2]); (with_reducible repeat (first | apply Kd.R_alloc | apply Kd.R_drewN | apply Kd.R_drew)); exact Kd.R_mono HO_9.out (fun _ hk => hk.2)⟩, ⟨by (try simp only [hl9_2]); (with_reducible repeat (first | apply Kd.R_alloc | apply Kd.R_drewN | apply Kd.R_drew)); exact HO_467008.out⟩, ⟨by (try simp only [hl9_2]); (with_reducible repeat (first | refine blk_drewN ?_ _ | refine blk_drew ?_ | refine blk_alloc ?_ _)); exact BK443.out⟩, ⟨by (try simp only [hl9_2]); (with_reducible repeat (first | refine blk_drewN ?_ _ | refine blk_drew ?_ | refine blk_alloc ?_ _)); exact BK466.out⟩, ⟨by repeat (first | (with_reducible first | exact HB.out | apply below_alloc | apply pw_below_drewN | apply below_drew1 | refine below_set ?_ GE443.out | refine below_set ?_ GE466.out) | exact HB.out)⟩⟩
       ·rw [if_neg c27] at H
        exact absurd H (by simp)
      ·rw [if_neg c26] at H
       have c26b0 : decide (x14_2 < (x467008_2.length : Int)) = false := decide_eq_false c26
       (try (have c26b0z := c26b0; simp only [hl9_2] at c26b0z))
       clear c26
       replace H := Option.bind_eq_some_iff.mp H
       obtain ⟨⟨t469, t472⟩, A340, H⟩ := H
       replace H : (trunklinelaw10_IpOwn.l2 k2 (strOfNums l0_8) x9_2 (strOfNums t450) t469 0 a0_0 a0_1 a0_2 a0_3 a0_4 a0_5 a0_6 a0_7 l0_8) = some r := H
       have A34 := Aside0.mk A340
       clear A340
       have H' := Aside0.mk H
       clear H
       have hnb35 := NB466_443.out
       have hnc35 := NB443_466.out
       obtain ⟨hcz36_0, hcz36_1, hcz36_2, hcz36_3, hcz36_4, hcz36_5, hcz36_6, hcz36_7, hcz36_8⟩ := blk9 BK466.out
       obtain ⟨hfz36_0, hfz36_1, hfz36_2, hfz36_3, hfz36_4, hfz36_5, hfz36_6, hfz36_7, hfz36_8⟩ := frz9 BK466.out
       obtain ⟨Ao37, co37, eo37⟩ := Kd.R_slice HO_467008.out
       subst eo37
       obtain ⟨hcz38_0, hcz38_1, hcz38_2, hcz38_3, hcz38_4, hcz38_5, hcz38_6, hcz38_7, hcz38_8⟩ := blk9 BK443.out
       obtain ⟨hfz38_0, hfz38_1, hfz38_2, hfz38_3, hfz38_4, hfz38_5, hfz38_6, hfz38_7, hfz38_8⟩ := frz9 BK443.out
       go_wp2_with (first | ((with_reducible refine gate_callee (f := 19) rfl ?_); refine goesL_ (some 68) rfl rfl Try.func19 (by kernel_rfl) rfl #[.agg #[.int .u32 a0_0, .int .u32 a0_1, .int .u8 a0_2, .int .u8 a0_3, .int .u16 a0_4, .bool a0_5, .bool a0_6, .int .i64 a0_7, .slice A0_8 l0_8.length c0_8], .int .i64 a1] rfl (by (try simp only [List.map_toArray, List.map_cons, List.map_nil]); first | done | rfl | (simp only [List.length_drop, List.length_take]; rfl)) ?_; (with_reducible refine (ip_Split.calls k2 a0_0 a0_1 a0_2 a0_3 a0_4 a0_5 a0_6 a0_7 (fun k_ => k_ < w.heap.size) _ _ l0_8 a1 t469 t472 _ ?side1 A34.out).mono ?_); (case side1 => exact Kd.V_mk HC0_8.out (Kd.F_below (Kd.C_F (Kd.heap_int .u8) HR0_8.out) (by repeat (first | (with_reducible first | exact HB.out | apply below_alloc | apply pw_below_drewN | apply below_drew1 | refine below_set ?_ GE443.out | refine below_set ?_ GE466.out) | exact HB.out)))); rintro e w39 ⟨v470, rfl, ho0, hb⟩; refine ⟨_, rfl, ?_⟩; have n0_ := Aside0.mk (Kd.R_below (by (with_reducible repeat (first | apply Kd.R_alloc | apply Kd.R_drewN | apply Kd.R_drew)); exact HO_9.out) hb); have n1_ := Aside0.mk (Kd.R_below (by (with_reducible repeat (first | apply Kd.R_alloc | apply Kd.R_drewN | apply Kd.R_drew)); exact HO_467008.out) hb); have n2_ := Aside0.mk (Kd.S_lower (Kd.S_newB (Kd.S_newB (Kd.S_new' (Kd.S_new' (Kd.S_mono (ok' := fun k_ => True) ho0 (fun _ hk_ => trivial)) (Kd.R_lt (by (with_reducible repeat (first | apply Kd.R_alloc | apply Kd.R_drewN | apply Kd.R_drew)); exact HO_9.out))) (Kd.R_lt (by (with_reducible repeat (first | apply Kd.R_alloc | apply Kd.R_drewN | apply Kd.R_drew)); exact HO_467008.out))) (g := gb443) (o := .cells #[.int .u32 a0_0, .int .u32 a0_1, .int .u8 a0_2, .int .u8 a0_3, .int .u16 a0_4, .bool a0_5, .bool a0_6, .int .i64 a0_7, .slice A0_8 l0_8.length c0_8] 26 (0, 0)) (by (with_reducible repeat (first | refine blk_drewN ?_ _ | refine blk_drew ?_ | refine blk_alloc ?_ _)); exact BK443.out)) (g := gb466) (o := .cells #[.int .u32 t454, .int .u32 t455, .int .u8 t456, .int .u8 t457, .int .u16 t458, .bool t459, .bool t460, .int .i64 t461, .slice Ao37 x467008_2.length co37] 26 (0, 0)) (by (with_reducible repeat (first | refine blk_drewN ?_ _ | refine blk_drew ?_ | refine blk_alloc ?_ _)); exact BK466.out)) (below_size (by repeat (first | (with_reducible first | exact HB.out | apply below_alloc | apply pw_below_drewN | apply below_drew1 | refine below_set ?_ GE443.out | refine below_set ?_ GE466.out) | exact HB.out)))); have n3_ := Aside0.mk (blk_below (g := gb443) (o := .cells #[.int .u32 a0_0, .int .u32 a0_1, .int .u8 a0_2, .int .u8 a0_3, .int .u16 a0_4, .bool a0_5, .bool a0_6, .int .i64 a0_7, .slice A0_8 l0_8.length c0_8] 26 (0, 0)) (by (with_reducible repeat (first | refine blk_drewN ?_ _ | refine blk_drew ?_ | refine blk_alloc ?_ _)); exact BK443.out) hb); have n4_ := Aside0.mk (blk_below (g := gb466) (o := .cells #[.int .u32 t454, .int .u32 t455, .int .u8 t456, .int .u8 t457, .int .u16 t458, .bool t459, .bool t460, .int .i64 t461, .slice Ao37 x467008_2.length co37] 26 (0, 0)) (by (with_reducible repeat (first | refine blk_drewN ?_ _ | refine blk_drew ?_ | refine blk_alloc ?_ _)); exact BK466.out) hb); have n5_ := Aside0.mk (below_step (by repeat (first | (with_reducible first | exact HB.out | apply below_alloc | apply pw_below_drewN | apply below_drew1 | refine below_set ?_ GE443.out | refine below_set ?_ GE466.out) | exact HB.out)) hb); clear HO_9; clear HO_467008; clear BK443; clear BK466; clear HB; have HO_9 := n0_; have HO_467008 := n1_; have HO471 := n2_; have BK443 := n3_; have BK466 := n4_; have HB := n5_; clear n0_ n1_ n2_ n3_ n4_ n5_; (try clear hb); (try clear hb2); (try clear hk); (try clear hi); (try clear ho0)))
       go_loopg [17] k2 (fun kq v17 w' => ∃ (x9_3 : List Int) (x15_3 : List (S26)) (x17_3 : Int) (x467008_3 : List Int) (u467008 : Value), v17 = .int .i64 x17_3 ∧ Aside0 (trunklinelaw10_IpOwn.l2 kq (strOfNums l0_8) x9_3 (strOfNums t450) x15_3 x17_3 a0_0 a0_1 a0_2 a0_3 a0_4 a0_5 a0_6 a0_7 l0_8 = some r) ∧ Aside0 (kq ≤ k2) ∧ Aside0 (Kd.R (Kd.int .u8) 5 w' w.heap.size (fun k_ => some k_ ≠ (u467008 : Value).ownBlock) (.slice Ao20 x9_2.length co20) x9_3) ∧ Aside0 (Kd.S k26 26 w' w.heap.size (fun k_ => some k_ ≠ ((.slice Ao20 x9_2.length co20) : Value).ownBlock ∧ some k_ ≠ (u467008 : Value).ownBlock ∧ k_ ≠ gb443 ∧ k_ ≠ gb466) v470 x15_3) ∧ Aside0 (Kd.R (Kd.int .u8) 5 w' w.heap.size (fun k_ => some k_ ≠ ((.slice Ao20 x9_2.length co20) : Value).ownBlock) u467008 x467008_3) ∧ Aside0 (w'.heap[gb443]? = some (.cells #[.int .u32 a0_0, .int .u32 a0_1, .int .u8 a0_2, .int .u8 a0_3, .int .u16 a0_4, .bool a0_5, .bool a0_6, .int .i64 a0_7, (.slice A0_8 l0_8.length c0_8)] 26 (0, 0))) ∧ Aside0 (w'.heap[gb466]? = some (.cells #[.int .u32 t454, .int .u32 t455, .int .u8 t456, .int .u8 t457, .int .u16 t458, .bool t459, .bool t460, .int .i64 t461, u467008] 26 (0, 0))) ∧ Aside0 (Below w.heap.size w w'))
       case atStart => exact ⟨(x9_2), (t469), (0), (x467008_2), (.slice Ao37 x467008_2.length co37), (by first | rfl | (simp; done) | (simp [*]; done)), H', ⟨Nat.le_refl _⟩, ⟨by (try simp only [hl9_2]); (with_reducible repeat (first | apply Kd.R_alloc | apply Kd.R_drewN | apply Kd.R_drew)); exact HO_9.out⟩, ⟨by (try simp only [hl9_2]); (with_reducible repeat (first | apply Kd.S_alloc | apply Kd.S_drewN | apply Kd.S_drew)); exact Kd.S_mono HO471.out (fun _ hk => ⟨hk.1.1.1.2, ⟨hk.1.1.2, ⟨hk.1.2, hk.2⟩⟩⟩)⟩, ⟨by (try simp only [hl9_2]); (with_reducible repeat (first | apply Kd.R_alloc | apply Kd.R_drewN | apply Kd.R_drew)); exact HO_467008.out⟩, ⟨by (try simp only [hl9_2]); (with_reducible repeat (first | refine blk_drewN ?_ _ | refine blk_drew ?_ | refine blk_alloc ?_ _)); exact BK443.out⟩, ⟨by (try simp only [hl9_2]); (with_reducible repeat (first | refine blk_drewN ?_ _ | refine blk_drew ?_ | refine blk_alloc ?_ _)); exact BK466.out⟩, ⟨by repeat (first | (with_reducible first | exact HB.out | apply below_alloc | apply pw_below_drewN | apply below_drew1 | refine below_set ?_ GE443.out | refine below_set ?_ GE466.out) | exact HB.out)⟩⟩
       case round =>
        clear H'
        try clear c1
        try clear p1
        try clear q1
        try clear hx1
        try clear hcv1
        try clear c2
        try clear p2
        try clear q2
        try clear hx2
        try clear hf2
        try clear c3
        try clear p4
        try clear q4
        try clear hx4
        try clear p6
        try clear hcv6
        try clear c8
        try clear c8b0
        try clear c9
        try clear c9b0
        try clear p10
        try clear q10
        try clear hx10
        try clear hf10
        try clear c13
        try clear c14
        try clear c16
        try clear c19
        try clear hcv19
        try clear c23
        try clear c26
        try clear c26b0
        try clear c27
        try clear c27b0
        try clear p28
        try clear q28
        try clear hx28
        try clear hf28
        try clear c29
        try clear c35
        try clear hcz17_0
        try clear hcz17_1
        try clear hcz17_2
        try clear hcz17_3
        try clear hcz17_4
        try clear hcz17_5
        try clear hcz17_6
        try clear hcz17_7
        try clear hcz17_8
        try clear hcz24_0
        try clear hcz24_1
        try clear hcz24_2
        try clear hcz24_3
        try clear hcz24_4
        try clear hcz24_5
        try clear hcz24_6
        try clear hcz24_7
        try clear hcz24_8
        try clear hcz30_0
        try clear hcz30_1
        try clear hcz30_2
        try clear hcz30_3
        try clear hcz30_4
        try clear hcz30_5
        try clear hcz30_6
        try clear hcz30_7
        try clear hcz30_8
        try clear hcz36_0
        try clear hcz36_1
        try clear hcz36_2
        try clear hcz36_3
        try clear hcz36_4
        try clear hcz36_5
        try clear hcz36_6
        try clear hcz36_7
        try clear hcz36_8
        try clear hcz38_0
        try clear hcz38_1
        try clear hcz38_2
        try clear hcz38_3
        try clear hcz38_4
        try clear hcz38_5
        try clear hcz38_6
        try clear hcz38_7
        try clear hcz38_8
        try clear hcz5_0
        try clear hcz5_1
        try clear hcz5_2
        try clear hcz5_3
        try clear hcz5_4
        try clear hcz5_5
        try clear hcz5_6
        try clear hcz5_7
        try clear hcz5_8
        try clear hfz17_0
        try clear hfz17_1
        try clear hfz17_2
        try clear hfz17_3
        try clear hfz17_4
        try clear hfz17_5
        try clear hfz17_6
        try clear hfz17_7
        try clear hfz17_8
        try clear hfz24_0
        try clear hfz24_1
        try clear hfz24_2
        try clear hfz24_3
        try clear hfz24_4
        try clear hfz24_5
        try clear hfz24_6
        try clear hfz24_7
        try clear hfz24_8
        try clear hfz30_0
        try clear hfz30_1
        try clear hfz30_2
        try clear hfz30_3
        try clear hfz30_4
        try clear hfz30_5
        try clear hfz30_6
        try clear hfz30_7
        try clear hfz30_8
        try clear hfz36_0
        try clear hfz36_1
        try clear hfz36_2
        try clear hfz36_3
        try clear hfz36_4
        try clear hfz36_5
        try clear hfz36_6
        try clear hfz36_7
        try clear hfz36_8
        try clear hfz38_0
        try clear hfz38_1
        try clear hfz38_2
        try clear hfz38_3
        try clear hfz38_4
        try clear hfz38_5
        try clear hfz38_6
        try clear hfz38_7
        try clear hfz38_8
        try clear hfz5_0
        try clear hfz5_1
        try clear hfz5_2
        try clear hfz5_3
        try clear hfz5_4
        try clear hfz5_5
        try clear hfz5_6
        try clear hfz5_7
        try clear hfz5_8
        try clear hx10_0
        try clear hx28_0
        try clear hx448_0
        try clear hx467_0
        try clear p1
        try clear p10
        try clear p2
        try clear p28
        try clear p4
        try clear p448
        try clear p467
        try clear p6
        try clear q1
        try clear q10
        try clear q28
        try clear q4
        try clear q448
        try clear q467
        obtain ⟨x9_3, x15_3, x17_3, x467008_3, u467008, rfl, HA, HK3, HO_9, HO_15, HO_467008, BK443, BK466, HB⟩ := hrel
        have hl9_3 := (Kd.R_reads' HO_9.out).1
        rw [hl9_3] at HO_9
        (try simp only [hl9_3])
        (try simp only [hl9_3] at BK443)
        (try simp only [hl9_3] at BK466)
        (try simp only [hl9_3] at HO_15)
        (try simp only [hl9_3] at HO_467008)
        cases gk with
        | zero => exact absurd HA.out (by simp [trunklinelaw10_IpOwn.l2])
        | succ k3 =>
         have H := HA.out
         clear HA
         simp only [trunklinelaw10_IpOwn.l2] at H
         by_cases c40 : x17_3 < (x15_3.length : Int)
         ·rw [if_pos c40] at H
          have c40b0 : decide (x17_3 < (x15_3.length : Int)) = true := decide_eq_true c40
          (try (have c40b0z := c40b0; simp only [hl9_2, hl9_3] at c40b0z))
          clear c40
          have H' := Aside0.mk H
          clear H
          obtain ⟨Ao41, co41, eo41⟩ := Kd.S_slice HO_15.out
          subst eo41
          go_wp2
          go_loopg [18] k3 (fun kq v18 w' => ∃ (x9_4 : List Int) (x15_4 : List (S26)) (x18_4 : Int) (x467008_4 : List Int) (u467008 : Value), v18 = .int .i64 x18_4 ∧ Aside0 (trunklinelaw10_IpOwn.l3 kq (strOfNums l0_8) x9_4 (strOfNums t450) x15_4 x17_3 x18_4 a0_0 a0_1 a0_2 a0_3 a0_4 a0_5 a0_6 a0_7 l0_8 = some r) ∧ Aside0 (kq ≤ k3) ∧ Aside0 (Kd.R (Kd.int .u8) 5 w' w.heap.size (fun k_ => some k_ ≠ (u467008 : Value).ownBlock) (.slice Ao20 x9_3.length co20) x9_4) ∧ Aside0 (Kd.S k26 26 w' w.heap.size (fun k_ => some k_ ≠ ((.slice Ao20 x9_3.length co20) : Value).ownBlock ∧ some k_ ≠ (u467008 : Value).ownBlock ∧ k_ ≠ gb443 ∧ k_ ≠ gb466) (.slice Ao41 x15_3.length co41) x15_4) ∧ Aside0 (Kd.R (Kd.int .u8) 5 w' w.heap.size (fun k_ => some k_ ≠ ((.slice Ao20 x9_3.length co20) : Value).ownBlock) u467008 x467008_4) ∧ Aside0 (w'.heap[gb443]? = some (.cells #[.int .u32 a0_0, .int .u32 a0_1, .int .u8 a0_2, .int .u8 a0_3, .int .u16 a0_4, .bool a0_5, .bool a0_6, .int .i64 a0_7, (.slice A0_8 l0_8.length c0_8)] 26 (0, 0))) ∧ Aside0 (w'.heap[gb466]? = some (.cells #[.int .u32 t454, .int .u32 t455, .int .u8 t456, .int .u8 t457, .int .u16 t458, .bool t459, .bool t460, .int .i64 t461, u467008] 26 (0, 0))) ∧ Aside0 (Below w.heap.size w w'))
          case atStart => exact ⟨(x9_3), (x15_3), (0), (x467008_3), (u467008), (by first | rfl | (simp; done) | (simp [*]; done)), H', ⟨Nat.le_refl _⟩, ⟨by (try simp only [hl9_2]); (try simp only [hl9_3]); (with_reducible repeat (first | apply Kd.R_alloc | apply Kd.R_drewN | apply Kd.R_drew)); exact HO_9.out⟩, ⟨by (try simp only [hl9_2]); (try simp only [hl9_3]); (with_reducible repeat (first | apply Kd.S_alloc | apply Kd.S_drewN | apply Kd.S_drew)); exact HO_15.out⟩, ⟨by (try simp only [hl9_2]); (try simp only [hl9_3]); (with_reducible repeat (first | apply Kd.R_alloc | apply Kd.R_drewN | apply Kd.R_drew)); exact HO_467008.out⟩, ⟨by (try simp only [hl9_2]); (try simp only [hl9_3]); (with_reducible repeat (first | refine blk_drewN ?_ _ | refine blk_drew ?_ | refine blk_alloc ?_ _)); exact BK443.out⟩, ⟨by (try simp only [hl9_2]); (try simp only [hl9_3]); (with_reducible repeat (first | refine blk_drewN ?_ _ | refine blk_drew ?_ | refine blk_alloc ?_ _)); exact BK466.out⟩, ⟨by repeat (first | (with_reducible first | exact HB.out | apply below_alloc | apply pw_below_drewN | apply below_drew1 | refine below_set ?_ GE443.out | refine below_set ?_ GE466.out) | exact HB.out)⟩⟩
          case round =>
           clear H'
           try clear c1
           try clear p1
           try clear q1
           try clear hx1
           try clear hcv1
           try clear c2
           try clear p2
           try clear q2
           try clear hx2
           try clear hf2
           try clear c3
           try clear c4
           try clear p4
           try clear q4
           try clear hx4
           try clear p6
           try clear hcv6
           try clear c8
           try clear c8b0
           try clear c9
           try clear c9b0
           try clear p10
           try clear q10
           try clear hx10
           try clear hf10
           try clear c13
           try clear c14
           try clear c16
           try clear c19
           try clear hcv19
           try clear c23
           try clear c26
           try clear c26b0
           try clear c27
           try clear c27b0
           try clear p28
           try clear q28
           try clear hx28
           try clear hf28
           try clear c29
           try clear c35
           try clear c40
           try clear c40b0
           try clear hcz17_0
           try clear hcz17_1
           try clear hcz17_2
           try clear hcz17_3
           try clear hcz17_4
           try clear hcz17_5
           try clear hcz17_6
           try clear hcz17_7
           try clear hcz17_8
           try clear hcz24_0
           try clear hcz24_1
           try clear hcz24_2
           try clear hcz24_3
           try clear hcz24_4
           try clear hcz24_5
           try clear hcz24_6
           try clear hcz24_7
           try clear hcz24_8
           try clear hcz30_0
           try clear hcz30_1
           try clear hcz30_2
           try clear hcz30_3
           try clear hcz30_4
           try clear hcz30_5
           try clear hcz30_6
           try clear hcz30_7
           try clear hcz30_8
           try clear hcz36_0
           try clear hcz36_1
           try clear hcz36_2
           try clear hcz36_3
           try clear hcz36_4
           try clear hcz36_5
           try clear hcz36_6
           try clear hcz36_7
           try clear hcz36_8
           try clear hcz38_0
           try clear hcz38_1
           try clear hcz38_2
           try clear hcz38_3
           try clear hcz38_4
           try clear hcz38_5
           try clear hcz38_6
           try clear hcz38_7
           try clear hcz38_8
           try clear hcz5_0
           try clear hcz5_1
           try clear hcz5_2
           try clear hcz5_3
           try clear hcz5_4
           try clear hcz5_5
           try clear hcz5_6
           try clear hcz5_7
           try clear hcz5_8
           try clear hfz17_0
           try clear hfz17_1
           try clear hfz17_2
           try clear hfz17_3
           try clear hfz17_4
           try clear hfz17_5
           try clear hfz17_6
           try clear hfz17_7
           try clear hfz17_8
           try clear hfz24_0
           try clear hfz24_1
           try clear hfz24_2
           try clear hfz24_3
           try clear hfz24_4
           try clear hfz24_5
           try clear hfz24_6
           try clear hfz24_7
           try clear hfz24_8
           try clear hfz30_0
           try clear hfz30_1
           try clear hfz30_2
           try clear hfz30_3
           try clear hfz30_4
           try clear hfz30_5
           try clear hfz30_6
           try clear hfz30_7
           try clear hfz30_8
           try clear hfz36_0
           try clear hfz36_1
           try clear hfz36_2
           try clear hfz36_3
           try clear hfz36_4
           try clear hfz36_5
           try clear hfz36_6
           try clear hfz36_7
           try clear hfz36_8
           try clear hfz38_0
           try clear hfz38_1
           try clear hfz38_2
           try clear hfz38_3
           try clear hfz38_4
           try clear hfz38_5
           try clear hfz38_6
           try clear hfz38_7
           try clear hfz38_8
           try clear hfz5_0
           try clear hfz5_1
           try clear hfz5_2
           try clear hfz5_3
           try clear hfz5_4
           try clear hfz5_5
           try clear hfz5_6
           try clear hfz5_7
           try clear hfz5_8
           try clear hx10_0
           try clear hx28_0
           try clear hx448_0
           try clear hx467_0
           try clear p1
           try clear p10
           try clear p2
           try clear p28
           try clear p4
           try clear p448
           try clear p467
           try clear p6
           try clear q1
           try clear q10
           try clear q2
           try clear q28
           try clear q4
           try clear q448
           try clear q467
           obtain ⟨x9_4, x15_4, x18_4, x467008_4, u467008, rfl, HA, HK4, HO_9, HO_15, HO_467008, BK443, BK466, HB⟩ := hrel
           have hl9_4 := (Kd.R_reads' HO_9.out).1
           rw [hl9_4] at HO_9
           (try simp only [hl9_4])
           (try simp only [hl9_4] at BK443)
           (try simp only [hl9_4] at BK466)
           (try simp only [hl9_4] at HO_15)
           (try simp only [hl9_4] at HO_467008)
           have hl15_4 := (Kd.S_reads' HO_15.out).1
           rw [hl15_4] at HO_15
           (try simp only [hl15_4])
           (try simp only [hl15_4] at BK443)
           (try simp only [hl15_4] at BK466)
           (try simp only [hl15_4] at HO_9)
           (try simp only [hl15_4] at HO_467008)
           cases gk with
           | zero => exact absurd HA.out (by simp [trunklinelaw10_IpOwn.l3])
           | succ k4 =>
            have H := HA.out
            clear HA
            simp only [trunklinelaw10_IpOwn.l3] at H
            by_cases c42 : 0 ≤ x17_3
            ·rw [if_pos c42] at H
             have c42b0 : decide (0 ≤ x17_3) = true := decide_eq_true c42
             (try (have c42b0z := c42b0; simp only [hl9_2, hl9_3, hl9_4, hl15_4] at c42b0z))
             clear c42
             by_cases c43 : x17_3 < (x15_4.length : Int)
             ·rw [if_pos c43] at H
              have c43b0 : decide (x17_3 < (x15_4.length : Int)) = true := decide_eq_true c43
              (try (have c43b0z := c43b0; simp only [hl9_2, hl9_3, hl9_4, hl15_4] at c43b0z))
              clear c43
              by_cases c44 : x18_4 < (((rd_T26 x15_4 x17_3).f8).length : Int)
              ·rw [if_pos c44] at H
               have c44b0 : decide (x18_4 < (((rd_T26 x15_4 x17_3).f8).length : Int)) = true := decide_eq_true c44
               (try (have c44b0z := c44b0; simp only [hl9_2, hl9_3, hl9_4, hl15_4] at c44b0z))
               clear c44
               by_cases c45 : 0 ≤ x18_4
               ·rw [if_pos c45] at H
                have c45b0 : decide (0 ≤ x18_4) = true := decide_eq_true c45
                (try (have c45b0z := c45b0; simp only [hl9_2, hl9_3, hl9_4, hl15_4] at c45b0z))
                clear c45
                obtain ⟨y477, hy477⟩ : ∃ y_ : List Int, y_ = (((rd_T26 x15_4 x17_3).f8).set (x18_4 : Int).toNat (Go.bits .xor .u8 (rd ((rd_T26 x15_4 x17_3).f8) x18_4) 33)) := ⟨_, rfl⟩
                replace H : (trunklinelaw10_IpOwn.l3 k4 (strOfNums l0_8) x9_4 (strOfNums t450) (x15_4.set (x17_3 : Int).toNat (⟨(rd_T26 x15_4 x17_3).f0, (rd_T26 x15_4 x17_3).f1, (rd_T26 x15_4 x17_3).f2, (rd_T26 x15_4 x17_3).f3, (rd_T26 x15_4 x17_3).f4, (rd_T26 x15_4 x17_3).f5, (rd_T26 x15_4 x17_3).f6, (rd_T26 x15_4 x17_3).f7, y477⟩ : S26)) x17_3 (wrap64 (x18_4 + 1)) a0_0 a0_1 a0_2 a0_3 a0_4 a0_5 a0_6 a0_7 l0_8) = some r := by first | (rw [hy477]; with_reducible exact H) | (have H2_ := (Option.bind_some _ _).symm.trans H; rw [hy477]; with_reducible exact H2_) | (have H2_ := (Option.bind_some _ _).symm.trans H; with_reducible exact H2_) | with_reducible exact H | (rw [hy477]; exact H) | exact H
                have Ny477 := Aside0.mk hy477
                clear hy477
                obtain ⟨y479, hy479⟩ : ∃ y_ : List (S26), y_ = (x15_4.set (x17_3 : Int).toNat (⟨(rd_T26 x15_4 x17_3).f0, (rd_T26 x15_4 x17_3).f1, (rd_T26 x15_4 x17_3).f2, (rd_T26 x15_4 x17_3).f3, (rd_T26 x15_4 x17_3).f4, (rd_T26 x15_4 x17_3).f5, (rd_T26 x15_4 x17_3).f6, (rd_T26 x15_4 x17_3).f7, y477⟩ : S26)) := ⟨_, rfl⟩
                replace H : (trunklinelaw10_IpOwn.l3 k4 (strOfNums l0_8) x9_4 (strOfNums t450) y479 x17_3 (wrap64 (x18_4 + 1)) a0_0 a0_1 a0_2 a0_3 a0_4 a0_5 a0_6 a0_7 l0_8) = some r := by first | (rw [hy479]; with_reducible exact H) | (have H2_ := (Option.bind_some _ _).symm.trans H; rw [hy479]; with_reducible exact H2_) | (have H2_ := (Option.bind_some _ _).symm.trans H; with_reducible exact H2_) | with_reducible exact H | (rw [hy479]; exact H) | exact H
                have Ny479 := Aside0.mk hy479
                clear hy479
                have H' := Aside0.mk H
                clear H
                have p474 : 0 ≤ (x17_3 : Int) := of_decide_eq_true (by first | (with_reducible assumption) | assumption)
                have q474 : x17_3 < (x15_4.length : Int) := of_decide_eq_true (by first | (with_reducible assumption) | assumption)
                obtain ⟨ad474, A474_8, c474_8, e474, hx474_0, hx474_1, hx474_2, hx474_3, hx474_4, hx474_5, hx474_6, hx474_7, hx474_8, hl474_8, hi474_8⟩ := at_T26 (Kd.S_reads' HO_15.out).2.2 x17_3 p474 q474
                cases e474
                obtain ⟨ce474, hce474, hMe474, hcc474⟩ := Kd.S_get HO_15.out z26 x17_3 p474 (by first | exact q474 | exact of_decide_eq_true (by first | (with_reducible assumption) | assumption) | (have e_ := (Kd.S_reads' HO_15.out).1; omega))
                obtain ⟨ve474_8, rfl, ge474_8⟩ := k26_openM hMe474
                have hv474_8 := hcc474 8 _ rfl
                rw [add_field _ _ 8 (by omega)] at hv474_8
                replace hv474_8 := Option.some.inj (hv474_8.symm.trans hx474_8)
                rw [hv474_8] at ge474_8
                have HL474_8 := Aside0.mk (show Kd.R (Kd.int .u8) 5 _ _ _ _ ((rd_T26 x15_4 x17_3).f8) from ge474_8)
                clear hv474_8 ge474_8
                have HX474_8 := Aside0.mk hx474_8
                clear hcc474 hce474
                have HR474_8 := Aside0.mk hi474_8
                have HC474_8 := Aside0.mk hl474_8
                clear hi474_8 hl474_8
                replace p474 := eq_true p474
                replace q474 := eq_true q474
                have p475 : 0 ≤ (x17_3 : Int) := of_decide_eq_true (by first | (with_reducible assumption) | assumption)
                have q475 : x17_3 < (x15_4.length : Int) := of_decide_eq_true (by first | (with_reducible assumption) | assumption)
                obtain ⟨ad475, A475_8, c475_8, e475, hx475_0, hx475_1, hx475_2, hx475_3, hx475_4, hx475_5, hx475_6, hx475_7, hx475_8, hl475_8, hi475_8⟩ := at_T26 (Kd.S_reads' HO_15.out).2.2 x17_3 p475 q475
                obtain rfl : ad474 = ad475 := (by injection e475)
                obtain ⟨ce475, hce475, hMe475, hcc475⟩ := Kd.S_get HO_15.out z26 x17_3 p475 (by first | exact q475 | exact of_decide_eq_true (by first | (with_reducible assumption) | assumption) | (have e_ := (Kd.S_reads' HO_15.out).1; omega))
                obtain ⟨ve475_8, rfl, ge475_8⟩ := k26_openM hMe475
                have hv475_8 := hcc475 8 _ rfl
                rw [add_field _ _ 8 (by omega)] at hv475_8
                replace hv475_8 := Option.some.inj (hv475_8.symm.trans hx475_8)
                rw [hv475_8] at ge475_8
                have HL475_8 := Aside0.mk (show Kd.R (Kd.int .u8) 5 _ _ _ _ ((rd_T26 x15_4 x17_3).f8) from ge475_8)
                clear hv475_8 ge475_8
                have HX475_8 := Aside0.mk hx475_8
                clear hcc475 hce475
                have HR475_8 := Aside0.mk hi475_8
                have HC475_8 := Aside0.mk hl475_8
                clear hi475_8 hl475_8
                replace p475 := eq_true p475
                replace q475 := eq_true q475
                have ea_ := Option.some.inj (hx474_8.symm.trans hx475_8)
                injection ea_ with ea_ en_ ec_
                subst ea_
                subst ec_
                clear en_
                have p476 : 0 ≤ (x18_4 : Int) := of_decide_eq_true (by first | (with_reducible assumption) | assumption)
                have q476 : x18_4 < (((rd_T26 x15_4 x17_3).f8).length : Int) := of_decide_eq_true (by first | (with_reducible assumption) | assumption)
                obtain ⟨ad476, e476, hx476_0⟩ := Kd.at_int (by repeat (first | (with_reducible exact HR475_8.out) | (with_reducible refine Kd.C_alloc ?_ _) | (with_reducible refine Kd.C_drewN ?_ _) | (with_reducible refine Kd.C_drew ?_) | exact HR475_8.out)) x18_4 p476 q476
                cases e476
                replace p476 := eq_true p476
                replace q476 := eq_true q476
                have p46 : 0 ≤ (x18_4 : Int) := of_decide_eq_true (by first | (with_reducible assumption) | assumption)
                have q46 : (x18_4 : Int) < ((((rd_T26 x15_4 x17_3).f8).length : Int) : Int) := of_decide_eq_true (by first | (with_reducible assumption) | assumption)
                obtain ⟨go46, co46, eo46, gb46, gl46, cl46, HG46⟩ := Kd.R_form HL475_8.out (by omega)
                (first | cases eo46 | (injection eo46 with ea_ en_ ec_; (first | subst ea_ | (injection ea_ with ea_; subst ea_)); subst ec_; clear en_))
                have GB46 := Aside0.mk gb46
                have GG46 := Aside0.mk HG46
                clear gb46 gl46 HG46
                (first | simp only [add_plain] at hx476_0 | skip)
                obtain ⟨hx46_0, hf46_0⟩ := Kd.R_celln 0 HL475_8.out (x18_4 : Int) p46 q46
                replace p46 := eq_true p46
                replace q46 := eq_true q46
                have hq47 : (x17_3 : Int) < (x15_4.length : Int) := (by have h_ : (x17_3 : Int) < ((x15_4.length : Int) : Int) := of_decide_eq_true (by first | (with_reducible assumption) | assumption); first | exact h_ | (have e_ := (Kd.S_reads' HO_15.out).1; omega) | simpa only [List.length_set, List.length_set] using h_)
                obtain ⟨oki47, ce47, hcl47, hM47, hcc47, hok47, hbk47⟩ := Kd.S_borrow HO_15.out z26 (x17_3 : Int) (of_decide_eq_true (by first | (with_reducible assumption) | assumption)) hq47
                obtain ⟨ve47_8, rfl, ge47_8⟩ := k26_openM hM47
                have hv47 := hcc47 8 _ rfl
                rw [add_field _ _ 8 (by omega)] at hv47
                replace hv47 := Option.some.inj (hv47.symm.trans HX475_8.out)
                subst hv47
                clear hcc47 hcl47
                replace ge47_8 := (show Kd.R (Kd.int .u8) 5 _ _ _ _ ((rd_T26 x15_4 x17_3).f8) from ge47_8)
                have HP47 := Kd.R_putg ge47_8 (x18_4 : Int) (Go.bits .xor .u8 (rd ((rd_T26 x15_4 x17_3).f8) x18_4) 33)
                go_wp2_with (first | ((with_reducible refine gate_store (t := 5) (p := 96) rfl ?_); refine store_event (t := 5) (p := 96) (v := ?vo_w48) (w1 := (wr.setCell ⟨go46, (x18_4 : Int).toNat, none⟩ (.int .u8 (Go.bits .xor .u8 (rd ((rd_T26 x15_4 x17_3).f8) x18_4) 33)))) ?hg ?ho ?hn ?hr ?_; (case ho => rfl); (case hg => rfl); (case hn => rfl); (case hr => first | (go_simp; done) | (go_simp; rfl)); intro w48 hw; have hg : wr.grownBy w48 (some go46) := (by rw [hw]; exact HP47.2); have hz_ : Kd.R (Kd.int .u8) 5 w48 w.heap.size oki47 (.slice (some ⟨go46, 0, none⟩) ((rd_T26 x15_4 x17_3).f8).length c474_8) y477 := (by rw [hw, Ny477.out]; exact HP47.1); have hp_ : Kd.S k26 26 w48 w.heap.size (fun k_ => some k_ ≠ (.slice Ao20 x9_4.length co20 : Value).ownBlock ∧ some k_ ≠ (u467008 : Value).ownBlock ∧ k_ ≠ gb443 ∧ k_ ≠ gb466) (.slice (some ad474) x15_4.length co41) y479 := (by rw [Ny479.out]; exact hbk47 hg (fun k_ e_ => by injection e_ with e_; subst e_; exact ge47_8.1 _ rfl) (k26_mkM _ _ _ (⟨(rd_T26 x15_4 x17_3).f0, (rd_T26 x15_4 x17_3).f1, (rd_T26 x15_4 x17_3).f2, (rd_T26 x15_4 x17_3).f3, (rd_T26 x15_4 x17_3).f4, (rd_T26 x15_4 x17_3).f5, (rd_T26 x15_4 x17_3).f6, (rd_T26 x15_4 x17_3).f7, y477⟩ : S26) hz_)); have hm_ := Kd.R_mono hz_ hok47; clear HP47 hbk47; have n0_ := Aside0.mk (Kd.R_grown1 (by (with_reducible repeat (first | apply Kd.R_alloc | apply Kd.R_drewN | apply Kd.R_drew)); exact HO_9.out) rfl hg ((HL475_8.out.1 _ rfl).1.1)); have n1_ := Aside0.mk (hp_); have n2_ := Aside0.mk (Kd.R_grown1 (by (with_reducible repeat (first | apply Kd.R_alloc | apply Kd.R_drewN | apply Kd.R_drew)); exact HO_467008.out) rfl hg ((HL475_8.out.1 _ rfl).1.2.1)); have n3_ := Aside0.mk (blk_grown (g := gb443) (o := .cells #[.int .u32 a0_0, .int .u32 a0_1, .int .u8 a0_2, .int .u8 a0_3, .int .u16 a0_4, .bool a0_5, .bool a0_6, .int .i64 a0_7, .slice A0_8 l0_8.length c0_8] 26 (0, 0)) (by (with_reducible repeat (first | refine blk_drewN ?_ _ | refine blk_drew ?_ | refine blk_alloc ?_ _)); exact BK443.out) hg (Kd.R_ne HL475_8.out BK443.out (by decide))); have n4_ := Aside0.mk (blk_grown (g := gb466) (o := .cells #[.int .u32 t454, .int .u32 t455, .int .u8 t456, .int .u8 t457, .int .u16 t458, .bool t459, .bool t460, .int .i64 t461, u467008] 26 (0, 0)) (by (with_reducible repeat (first | refine blk_drewN ?_ _ | refine blk_drew ?_ | refine blk_alloc ?_ _)); exact BK466.out) hg (Kd.R_ne HL475_8.out BK466.out (by decide))); have n5_ := Aside0.mk ((by rw [hw]; exact below_set (HB.out) GB46.out : Below w.heap.size w w48)); have n6_ := Aside0.mk (hm_); have n7_ := Aside0.mk ((Kd.R_reads' hm_).2.1); clear HO_9; clear HO_15; clear HO_467008; clear BK443; clear BK466; clear HB; clear HL474_8; clear HL475_8; have HO_9 := n0_; have HO_15 := n1_; have HO_467008 := n2_; have BK443 := n3_; have BK466 := n4_; have HB := n5_; have HL480 := n6_; have HC478 := n7_; clear n0_ n1_ n2_ n3_ n4_ n5_ n6_ n7_; clear hg hw hp_ hz_ hm_ hok47))
                (try simp only [← hl9_4, ← hl15_4])
                go_roundg k4
                case measure => have := HK1.out; have := HK2.out; have := HK3.out; have := HK4.out; omega
                case rel => exact ⟨(x9_4), (y479), (wrap64 (x18_4 + 1)), (x467008_4), (u467008), (by first | rfl | (simp; done) | (simp [*]; done)), H', ⟨by have := HK1.out; have := HK2.out; have := HK3.out; have := HK4.out; omega⟩, ⟨by (try simp only [hl9_2]); (try simp only [hl9_3]); (try simp only [hl9_4]); (try simp only [hl15_4]); (with_reducible repeat (first | apply Kd.R_alloc | apply Kd.R_drewN | apply Kd.R_drew)); exact HO_9.out⟩, ⟨by (try simp only [hl9_2]); (try simp only [hl9_3]); (try simp only [hl9_4]); (try simp only [hl15_4]); (with_reducible repeat (first | apply Kd.S_alloc | apply Kd.S_drewN | apply Kd.S_drew)); exact HO_15.out⟩, ⟨by (try simp only [hl9_2]); (try simp only [hl9_3]); (try simp only [hl9_4]); (try simp only [hl15_4]); (with_reducible repeat (first | apply Kd.R_alloc | apply Kd.R_drewN | apply Kd.R_drew)); exact HO_467008.out⟩, ⟨by (try simp only [hl9_2]); (try simp only [hl9_3]); (try simp only [hl9_4]); (try simp only [hl15_4]); (with_reducible repeat (first | refine blk_drewN ?_ _ | refine blk_drew ?_ | refine blk_alloc ?_ _)); exact BK443.out⟩, ⟨by (try simp only [hl9_2]); (try simp only [hl9_3]); (try simp only [hl9_4]); (try simp only [hl15_4]); (with_reducible repeat (first | refine blk_drewN ?_ _ | refine blk_drew ?_ | refine blk_alloc ?_ _)); exact BK466.out⟩, ⟨by repeat (first | (with_reducible first | exact HB.out | apply below_alloc | apply pw_below_drewN | apply below_drew1 | refine below_set ?_ GE443.out | refine below_set ?_ GE466.out) | exact HB.out)⟩⟩
               ·rw [if_neg c45] at H
                exact absurd H (by simp)
              ·rw [if_neg c44] at H
               have c44b0 : decide (x18_4 < (((rd_T26 x15_4 x17_3).f8).length : Int)) = false := decide_eq_false c44
               (try (have c44b0z := c44b0; simp only [hl9_2, hl9_3, hl9_4, hl15_4] at c44b0z))
               clear c44
               have H' := Aside0.mk H
               clear H
               have p474 : 0 ≤ (x17_3 : Int) := of_decide_eq_true (by first | (with_reducible assumption) | assumption)
               have q474 : x17_3 < (x15_4.length : Int) := of_decide_eq_true (by first | (with_reducible assumption) | assumption)
               obtain ⟨ad474, A474_8, c474_8, e474, hx474_0, hx474_1, hx474_2, hx474_3, hx474_4, hx474_5, hx474_6, hx474_7, hx474_8, hl474_8, hi474_8⟩ := at_T26 (Kd.S_reads' HO_15.out).2.2 x17_3 p474 q474
               cases e474
               obtain ⟨ce474, hce474, hMe474, hcc474⟩ := Kd.S_get HO_15.out z26 x17_3 p474 (by first | exact q474 | exact of_decide_eq_true (by first | (with_reducible assumption) | assumption) | (have e_ := (Kd.S_reads' HO_15.out).1; omega))
               obtain ⟨ve474_8, rfl, ge474_8⟩ := k26_openM hMe474
               have hv474_8 := hcc474 8 _ rfl
               rw [add_field _ _ 8 (by omega)] at hv474_8
               replace hv474_8 := Option.some.inj (hv474_8.symm.trans hx474_8)
               rw [hv474_8] at ge474_8
               have HL474_8 := Aside0.mk (show Kd.R (Kd.int .u8) 5 _ _ _ _ ((rd_T26 x15_4 x17_3).f8) from ge474_8)
               clear hv474_8 ge474_8
               have HX474_8 := Aside0.mk hx474_8
               clear hcc474 hce474
               have HR474_8 := Aside0.mk hi474_8
               have HC474_8 := Aside0.mk hl474_8
               clear hi474_8 hl474_8
               replace p474 := eq_true p474
               replace q474 := eq_true q474
               go_wp2
               (try simp only [← hl9_3, ← hl9_4, ← hl15_4])
               go_roundg k4
               case measure => have := HK1.out; have := HK2.out; have := HK3.out; have := HK4.out; omega
               case rel => exact ⟨(x9_4), (x15_4), (wrap64 (x17_3 + 1)), (x467008_4), (u467008), (by first | rfl | (simp; done) | (simp [*]; done)), H', ⟨by have := HK1.out; have := HK2.out; have := HK3.out; have := HK4.out; omega⟩, ⟨by (try simp only [hl9_2]); (try simp only [hl9_3]); (try simp only [hl9_4]); (try simp only [hl15_4]); (with_reducible repeat (first | apply Kd.R_alloc | apply Kd.R_drewN | apply Kd.R_drew)); exact HO_9.out⟩, ⟨by (try simp only [hl9_2]); (try simp only [hl9_3]); (try simp only [hl9_4]); (try simp only [hl15_4]); (with_reducible repeat (first | apply Kd.S_alloc | apply Kd.S_drewN | apply Kd.S_drew)); exact HO_15.out⟩, ⟨by (try simp only [hl9_2]); (try simp only [hl9_3]); (try simp only [hl9_4]); (try simp only [hl15_4]); (with_reducible repeat (first | apply Kd.R_alloc | apply Kd.R_drewN | apply Kd.R_drew)); exact HO_467008.out⟩, ⟨by (try simp only [hl9_2]); (try simp only [hl9_3]); (try simp only [hl9_4]); (try simp only [hl15_4]); (with_reducible repeat (first | refine blk_drewN ?_ _ | refine blk_drew ?_ | refine blk_alloc ?_ _)); exact BK443.out⟩, ⟨by (try simp only [hl9_2]); (try simp only [hl9_3]); (try simp only [hl9_4]); (try simp only [hl15_4]); (with_reducible repeat (first | refine blk_drewN ?_ _ | refine blk_drew ?_ | refine blk_alloc ?_ _)); exact BK466.out⟩, ⟨by repeat (first | (with_reducible first | exact HB.out | apply below_alloc | apply pw_below_drewN | apply below_drew1 | refine below_set ?_ GE443.out | refine below_set ?_ GE466.out) | exact HB.out)⟩⟩
             ·rw [if_neg c43] at H
              exact absurd H (by simp)
            ·rw [if_neg c42] at H
             exact absurd H (by simp)
         ·rw [if_neg c40] at H
          have c40b0 : decide (x17_3 < (x15_3.length : Int)) = false := decide_eq_false c40
          (try (have c40b0z := c40b0; simp only [hl9_2, hl9_3] at c40b0z))
          clear c40
          replace H := Option.bind_eq_some_iff.mp H
          obtain ⟨t473, A490, H⟩ := H
          replace H : (if t473 = true then (if (strOfNums l0_8).toList = (strOfNums l0_8).toList then (some ((strOfNums x9_3).toList == (strOfNums t450).toList)) else (some false)) else (some false)) = some r := by first | exact H | (simp only [if_true, eq_self] at H ⊢; exact H)
          have A49 := Aside0.mk A490
          clear A490
          by_cases c50 : t473 = true
          ·subst c50
           have H1 : (if (strOfNums l0_8).toList = (strOfNums l0_8).toList then (some ((strOfNums x9_3).toList == (strOfNums t450).toList)) else (some false)) = some r := by rw [if_pos rfl] at H; exact H
           clear H
           have H := H1
           clear H1
           by_cases c51 : (strOfNums l0_8).toList = (strOfNums l0_8).toList
           ·rw [if_pos c51] at H
            have c51b0 : ((strOfNums l0_8).toList == (strOfNums l0_8).toList) = true := beq_iff_eq.mpr c51
            (try (have c51b0z := c51b0; simp only [hl9_2, hl9_3] at c51b0z))
            have c51b1 : ((strOfNums l0_8).toList != (strOfNums l0_8).toList) = false := bne_eq_false_iff_eq.mpr c51
            (try (have c51b1z := c51b1; simp only [hl9_2, hl9_3] at c51b1z))
            clear c51
            obtain rfl := Option.some.inj H
            obtain ⟨Ao52, co52, eo52⟩ := Kd.S_slice HO_15.out
            subst eo52
            go_wp2_with (first | ((with_reducible refine gate_callee (f := 15) rfl ?_); refine goesL_ (some 97) rfl rfl Try.func15 (by kernel_rfl) rfl #[] rfl (by (try simp only [List.map_toArray, List.map_cons, List.map_nil]); first | done | rfl | (simp only [List.length_drop, List.length_take]; rfl)) ?_; (with_reducible refine (trunklinelaw10_live.calls k3  true _ (by first | rfl | exact HRT.out) A49.out).mono ?_); rintro e w53 ⟨rfl, hb⟩; refine ⟨_, rfl, ?_⟩; have n0_ := Aside0.mk (Kd.R_below (by (with_reducible repeat (first | apply Kd.R_alloc | apply Kd.R_drewN | apply Kd.R_drew)); exact HO_9.out) hb); have n1_ := Aside0.mk (Kd.S_below (by (with_reducible repeat (first | apply Kd.S_alloc | apply Kd.S_drewN | apply Kd.S_drew)); exact HO_15.out) hb); have n2_ := Aside0.mk (Kd.R_below (by (with_reducible repeat (first | apply Kd.R_alloc | apply Kd.R_drewN | apply Kd.R_drew)); exact HO_467008.out) hb); have n3_ := Aside0.mk (blk_below (g := gb443) (o := .cells #[.int .u32 a0_0, .int .u32 a0_1, .int .u8 a0_2, .int .u8 a0_3, .int .u16 a0_4, .bool a0_5, .bool a0_6, .int .i64 a0_7, .slice A0_8 l0_8.length c0_8] 26 (0, 0)) (by (with_reducible repeat (first | refine blk_drewN ?_ _ | refine blk_drew ?_ | refine blk_alloc ?_ _)); exact BK443.out) hb); have n4_ := Aside0.mk (blk_below (g := gb466) (o := .cells #[.int .u32 t454, .int .u32 t455, .int .u8 t456, .int .u8 t457, .int .u16 t458, .bool t459, .bool t460, .int .i64 t461, u467008] 26 (0, 0)) (by (with_reducible repeat (first | refine blk_drewN ?_ _ | refine blk_drew ?_ | refine blk_alloc ?_ _)); exact BK466.out) hb); have n5_ := Aside0.mk (below_step (by repeat (first | (with_reducible first | exact HB.out | apply below_alloc | apply pw_below_drewN | apply below_drew1 | refine below_set ?_ GE443.out | refine below_set ?_ GE466.out) | exact HB.out)) hb); clear HO_9; clear HO_15; clear HO_467008; clear BK443; clear BK466; clear HB; have HO_9 := n0_; have HO_15 := n1_; have HO_467008 := n2_; have BK443 := n3_; have BK466 := n4_; have HB := n5_; clear n0_ n1_ n2_ n3_ n4_ n5_; (try clear hb); (try clear hb2); (try clear hk); (try clear hi); have hnb54 := NB443_466.out; have hnc54 := NB466_443.out; obtain ⟨hcz55_0, hcz55_1, hcz55_2, hcz55_3, hcz55_4, hcz55_5, hcz55_6, hcz55_7, hcz55_8⟩ := blk9 BK443.out; obtain ⟨hfz55_0, hfz55_1, hfz55_2, hfz55_3, hfz55_4, hfz55_5, hfz55_6, hfz55_7, hfz55_8⟩ := frz9 BK443.out; have hcv56 := Kd.C_string (P := Try.prog) (A := A0_8) (c := c0_8) Try.underlying24 Try.underlying5 Try.underlying9 (Kd.C_below HR0_8.out HB.out); have hcv57 := own_string (P := Try.prog) Try.underlying24 Try.underlying5 Try.underlying9 (Kd.own_of_R HO_9.out)))
            go_ret
            exact ⟨by first | rfl | (simp [errW_none, errW_some] <;> rfl) | (simp [*, errW_none, errW_some] <;> rfl), by repeat (first | (with_reducible first | exact HB.out | apply below_alloc | apply pw_below_drewN | apply below_drew1 | refine below_set ?_ GE443.out | refine below_set ?_ GE466.out) | exact HB.out)⟩
           ·rw [if_neg c51] at H
            exact absurd rfl c51
          ·replace c50 := Bool.eq_false_iff.mpr c50
           subst c50
           have H1 : (some false) = some r := by rw [if_neg (show ¬ (false = true) by decide)] at H; exact H
           clear H
           have H := H1
           clear H1
           rw [HRT.out] at H
           exact absurd H (by simp)

/-- THE ONE PURE STATEMENT of trunklinelaw10_IpOwn: yours. -/
def trunklinelaw10_IpOwn.Pure : Prop := ∀ (a0_0 : Int) (a0_1 : Int) (a0_2 : Int) (a0_3 : Int) (a0_4 : Int) (a0_5 : Bool) (a0_6 : Bool) (a0_7 : Int) (l0_8 : List Int) (a1 : Int), (Lit.int .u32 a0_0).wf = true → (Lit.int .u32 a0_1).wf = true → (Lit.int .u8 a0_2).wf = true → (Lit.int .u8 a0_3).wf = true → (Lit.int .u16 a0_4).wf = true → (Lit.int .i64 a0_7).wf = true → l0_8.length ≤ maxLen → l0_8.length * 1 ≤ 140737488351232 → (∀ y ∈ l0_8, (Lit.int .u8 y).wf = true) → (Lit.int .i64 a1).wf = true → ∃ k, trunklinelaw10_IpOwn.f k a0_0 a0_1 a0_2 a0_3 a0_4 a0_5 a0_6 a0_7 l0_8 a1 = some true

end Go.Proofs.Ytdligcofjfdhbaa.M
