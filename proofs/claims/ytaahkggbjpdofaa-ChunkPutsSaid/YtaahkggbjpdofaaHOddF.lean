import Derived.Test.YtaahkggbjpdofaaM21
import Derived.Test.YtaahkggbjpdofaaHOrd
import Derived.WalkSpells
section
/- The document's odd, told: has a chunk a field that its kind has not? -/
namespace Go.Proofs.Ytaahkggbjpdofaa.M
open Go.RowKit Go.Proofs.YtaahkggbjpdofaaW.PrintWords Go.Proofs.YtaahkggbjpdofaaW.PrintLast Go.Proofs.YtaahkggbjpdofaaW.PrintMore
set_option linter.unusedVariables false
/-- Has a chunk a field that its kind has not? -/
def oddB (t a1 a2 a3 a4 a5 a6 a7 a8 a9 : Int) (l10 : List S101) (l11 : List Int) (l12 : List S48) (l13 : List Int) : Prop :=
  (t ≠ 0 ∧ (a3 ≠ 0 ∨ a4 ≠ 0 ∨ a5 ≠ 0)) ∨ (t ≠ 0 ∧ t ≠ 1 ∧ t ≠ 2 ∧ t ≠ 3 ∧ t ≠ 7 ∧ a2 ≠ 0) ∨ (t ≠ 1 ∧ t ≠ 2 ∧ (a6 ≠ 0 ∨ a8 ≠ 0 ∨ a9 ≠ 0)) ∨ (t ≠ 1 ∧ t ≠ 2 ∧ t ≠ 3 ∧ a7 ≠ 0) ∨ (t ≠ 3 ∧ (0 < l10.length ∨ 0 < l11.length)) ∨ (¬(t = 1 ∨ t = 2 ∨ t = 4 ∨ t = 5 ∨ t = 6 ∨ t = 9) ∧ 0 < l12.length) ∨ (t ≠ 0 ∧ ¬(t = 10 ∨ t = 12 ∨ t = 13 ∨ 14 < t) ∧ 0 < l13.length)
instance (t a1 a2 a3 a4 a5 a6 a7 a8 a9 : Int) (l10 : List S101) (l11 : List Int) (l12 : List S48) (l13 : List Int) : Decidable (oddB t a1 a2 a3 a4 a5 a6 a7 a8 a9 l10 l11 l12 l13) := by unfold oddB; infer_instance
def trunklineref12_odd.f (t a1 a2 a3 a4 a5 a6 a7 a8 a9 : Int) (l10 : List S101) (l11 : List Int) (l12 : List S48) (l13 : List Int) : Option Bool := some (decide (oddB t a1 a2 a3 a4 a5 a6 a7 a8 a9 l10 l11 l12 l13))
end Go.Proofs.Ytaahkggbjpdofaa.M
end
section
/- The document's odd (has a chunk a field that its kind has not?): its one region of 124 guarded operations, op by op (HOrd). -/
namespace Go.Proofs.Ytaahkggbjpdofaa.M
open Go.RowKit Go.Proofs.YtaahkggbjpdofaaW.PrintWords Go.Proofs.YtaahkggbjpdofaaW.PrintLast Go.Proofs.YtaahkggbjpdofaaW.PrintMore
set_option linter.unusedVariables false
set_option linter.unusedSimpArgs false
attribute [local irreducible] wpList
set_option maxHeartbeats 4000000 in
set_option maxRecDepth 100000 in
theorem trunklineref12_odd.calls (a0_0 : Int) (a0_1 : Int) (a0_2 : Int) (a0_3 : Int) (a0_4 : Int) (a0_5 : Int) (a0_6 : Int) (a0_7 : Int) (a0_8 : Int) (a0_9 : Int) (A0_10 : Option Addr) (c0_10 : Nat) (l0_10 : List (S101)) (A0_11 : Option Addr) (c0_11 : Nat) (l0_11 : List Int) (A0_12 : Option Addr) (c0_12 : Nat) (l0_12 : List (S48)) (A0_13 : Option Addr) (c0_13 : Nat) (l0_13 : List Int) (r : Bool) (w : World) (hr0_10 : Kd.C k101 w A0_10 l0_10.length l0_10) (hc0_10 : l0_10.length ≤ c0_10) (hr0_11 : Kd.C (Kd.int .u32) w A0_11 l0_11.length l0_11) (hc0_11 : l0_11.length ≤ c0_11) (hr0_12 : Kd.C k48 w A0_12 l0_12.length l0_12) (hc0_12 : l0_12.length ≤ c0_12) (hr0_13 : Kd.C (Kd.int .u8) w A0_13 l0_13.length l0_13) (hc0_13 : l0_13.length ≤ c0_13) (h : trunklineref12_odd.f a0_0 a0_1 a0_2 a0_3 a0_4 a0_5 a0_6 a0_7 a0_8 a0_9 l0_10 l0_11 l0_12 l0_13 = some r) :
    Calls Try.prog 28 #[.agg #[.int .u8 a0_0, .int .u8 a0_1, .int .u32 a0_2, .int .u16 a0_3, .int .u16 a0_4, .int .u32 a0_5, .int .u32 a0_6, .int .u32 a0_7, .int .u16 a0_8, .int .u16 a0_9, .slice A0_10 l0_10.length c0_10, .slice A0_11 l0_11.length c0_11, .slice A0_12 l0_12.length c0_12, .slice A0_13 l0_13.length c0_13]] w fun e w' => e = .returned (.bool r) ∧ Below w.heap.size w w' := by
  clear hr0_10 hc0_10 hr0_11 hc0_11 hr0_12 hc0_12 hr0_13 hc0_13
  obtain ⟨dt, HD⟩ : ∃ b, trunklineref12_hasData.f a0_0 = some b := by unfold trunklineref12_hasData.f; repeat (first | exact ⟨_, rfl⟩ | split)
  obtain ⟨pm, HP⟩ : ∃ b, trunklineref12_hasParams.f a0_0 = some b := by unfold trunklineref12_hasParams.f; repeat (first | exact ⟨_, rfl⟩ | split)
  have HDA := Aside0.mk HD
  have HPA := Aside0.mk HP
  have HRA := Aside0.mk h
  clear HD HP h
  go_enter Try.func28, Try.ntmps28
  go_step
  go_step
  go_step
  ((with_reducible refine gate_dst (N := 1) rfl ?_); refine box_event ?hg (N := 1) ?hd (cs := #[.int .u8 a0_0, .int .u8 a0_1, .int .u32 a0_2, .int .u16 a0_3, .int .u16 a0_4, .int .u32 a0_5, .int .u32 a0_6, .int .u32 a0_7, .int .u16 a0_8, .int .u16 a0_9, .slice A0_10 l0_10.length c0_10, .slice A0_11 l0_11.length c0_11, .slice A0_12 l0_12.length c0_12, .slice A0_13 l0_13.length c0_13]) (t := 29) ?hr ?_; (case hd => rfl); (case hg => rfl); (case hr => first | (go_simp; done) | (go_simp; rfl)); intro p1 hg0 w1 hbox0 hb0; have HB1 := Aside0.mk hb0; have hc0 : w1.cell? ⟨p1, 0, none⟩ = some (.int .u8 a0_0) := blk_cell hbox0 0; have HBX := Aside0.mk hbox0; clear hg0 hbox0 hb0)
  iterate 20 go_step
  with_reducible refine enter_ordered 6 123 130 ?hok ?hle ?hs ?hd ?_
  (case hok => kernel_rfl)
  (case hle => rfl)
  (case hs => rfl)
  (case hd => rfl)
  have hc2 : w1.cell? ⟨p1, 2, none⟩ = some (.int .u32 a0_2) := blk_cell HBX.out 2
  have hc3 : w1.cell? ⟨p1, 3, none⟩ = some (.int .u16 a0_3) := blk_cell HBX.out 3
  have hc4 : w1.cell? ⟨p1, 4, none⟩ = some (.int .u16 a0_4) := blk_cell HBX.out 4
  have hc5 : w1.cell? ⟨p1, 5, none⟩ = some (.int .u32 a0_5) := blk_cell HBX.out 5
  have hc6 : w1.cell? ⟨p1, 6, none⟩ = some (.int .u32 a0_6) := blk_cell HBX.out 6
  have hc7 : w1.cell? ⟨p1, 7, none⟩ = some (.int .u32 a0_7) := blk_cell HBX.out 7
  have hc8 : w1.cell? ⟨p1, 8, none⟩ = some (.int .u16 a0_8) := blk_cell HBX.out 8
  have hc9 : w1.cell? ⟨p1, 9, none⟩ = some (.int .u16 a0_9) := blk_cell HBX.out 9
  have hc10 : w1.cell? ⟨p1, 10, none⟩ = some (.slice A0_10 l0_10.length c0_10) := blk_cell HBX.out 10
  have hc11 : w1.cell? ⟨p1, 11, none⟩ = some (.slice A0_11 l0_11.length c0_11) := blk_cell HBX.out 11
  have hc12 : w1.cell? ⟨p1, 12, none⟩ = some (.slice A0_12 l0_12.length c0_12) := blk_cell HBX.out 12
  have hc13 : w1.cell? ⟨p1, 13, none⟩ = some (.slice A0_13 l0_13.length c0_13) := blk_cell HBX.out 13
  intro ops T a D A hT
  have h1 : T 1 = .k (.pointer (some ⟨p1, 0, none⟩)) := hT 1
  have h3 : T 3 = .k (.int .u8 a0_0) := hT 3
  clear hT
  obtain ⟨T, A⟩ := cut3 (i := 1) (j := 3) (d := 1) A h1 h3 h1
  refine r_t (e := true) D A rfl rfl rfl rfl rfl rfl fun a A => ?_
  refine r_move D A rfl rfl rfl rfl fun a A => ?_
  refine r_f (e := (true && ((a0_0 != 0) == true))) D A rfl hc3 rfl (.inr ⟨rfl, rfl⟩) rfl rfl rfl rfl rfl rfl rfl fun a A => ?_
  refine r_move D A rfl rfl rfl rfl fun a A => ?_
  refine r_f (e := ((true && ((a0_0 != 0) == true)) && ((a0_3 != 0) == false))) D A rfl hc4 rfl (.inr ⟨rfl, rfl⟩) rfl rfl rfl rfl rfl rfl rfl fun a A => ?_
  refine r_or D A rfl rfl rfl rfl rfl rfl fun a A => ?_
  refine r_move D A rfl rfl rfl rfl fun a A => ?_
  refine r_f (e := ((true && ((a0_0 != 0) == true)) && (((a0_3 != 0) || (a0_4 != 0)) == false))) D A rfl hc5 rfl (.inl ⟨rfl, rfl⟩) rfl rfl rfl rfl rfl rfl rfl fun a A => ?_
  refine r_or D A rfl rfl rfl rfl rfl rfl fun a A => ?_
  refine r_and D A rfl rfl rfl rfl rfl rfl fun a A => ?_
  refine r_move D A rfl rfl rfl rfl fun a A => ?_
  obtain ⟨x23, q23⟩ : ∃ b, (b : Bool) = ((a0_0 != 0) && (((a0_3 != 0) || (a0_4 != 0)) || (a0_5 != 0))) := ⟨_, rfl⟩
  obtain ⟨T, A⟩ := cut3 (i := 1) (j := 3) (d := 23) (s := .c true x23) A rfl rfl (by rw [q23]; rfl)
  refine r_t (e := (true && (x23 == false))) D A rfl rfl rfl rfl rfl rfl fun a A => ?_
  refine r_move D A rfl rfl rfl rfl fun a A => ?_
  refine r_t (e := ((true && (x23 == false)) && ((a0_0 != 0) == true))) D A rfl rfl rfl rfl rfl rfl fun a A => ?_
  refine r_and D A rfl rfl rfl rfl rfl rfl fun a A => ?_
  refine r_move D A rfl rfl rfl rfl fun a A => ?_
  refine r_t (e := ((true && (x23 == false)) && (((a0_0 != 0) && (a0_0 != 1)) == true))) D A rfl rfl rfl rfl rfl rfl fun a A => ?_
  refine r_and D A rfl rfl rfl rfl rfl rfl fun a A => ?_
  refine r_move D A rfl rfl rfl rfl fun a A => ?_
  refine r_t (e := ((true && (x23 == false)) && ((((a0_0 != 0) && (a0_0 != 1)) && (a0_0 != 2)) == true))) D A rfl rfl rfl rfl rfl rfl fun a A => ?_
  refine r_and D A rfl rfl rfl rfl rfl rfl fun a A => ?_
  refine r_move D A rfl rfl rfl rfl fun a A => ?_
  refine r_t (e := ((true && (x23 == false)) && (((((a0_0 != 0) && (a0_0 != 1)) && (a0_0 != 2)) && (a0_0 != 3)) == true))) D A rfl rfl rfl rfl rfl rfl fun a A => ?_
  refine r_and D A rfl rfl rfl rfl rfl rfl fun a A => ?_
  refine r_move D A rfl rfl rfl rfl fun a A => ?_
  refine r_f (e := ((true && (x23 == false)) && ((((((a0_0 != 0) && (a0_0 != 1)) && (a0_0 != 2)) && (a0_0 != 3)) && (a0_0 != 7)) == true))) D A rfl hc2 rfl (.inl ⟨rfl, rfl⟩) rfl rfl rfl rfl rfl rfl rfl fun a A => ?_
  refine r_and D A rfl rfl rfl rfl rfl rfl fun a A => ?_
  refine r_or D A rfl rfl rfl rfl rfl rfl fun a A => ?_
  refine r_move D A rfl rfl rfl rfl fun a A => ?_
  obtain ⟨x48, q48⟩ : ∃ b, (b : Bool) = (x23 || ((((((a0_0 != 0) && (a0_0 != 1)) && (a0_0 != 2)) && (a0_0 != 3)) && (a0_0 != 7)) && (a0_2 != 0))) := ⟨_, rfl⟩
  obtain ⟨T, A⟩ := cut3 (i := 1) (j := 3) (d := 48) (s := .c true x48) A rfl rfl (by rw [q48]; rfl)
  refine r_t (e := (true && (x48 == false))) D A rfl rfl rfl rfl rfl rfl fun a A => ?_
  refine r_move D A rfl rfl rfl rfl fun a A => ?_
  refine r_t (e := ((true && (x48 == false)) && ((a0_0 != 1) == true))) D A rfl rfl rfl rfl rfl rfl fun a A => ?_
  refine r_and D A rfl rfl rfl rfl rfl rfl fun a A => ?_
  refine r_move D A rfl rfl rfl rfl fun a A => ?_
  refine r_f (e := ((true && (x48 == false)) && (((a0_0 != 1) && (a0_0 != 2)) == true))) D A rfl hc6 rfl (.inl ⟨rfl, rfl⟩) rfl rfl rfl rfl rfl rfl rfl fun a A => ?_
  refine r_move D A rfl rfl rfl rfl fun a A => ?_
  refine r_f (e := (((true && (x48 == false)) && (((a0_0 != 1) && (a0_0 != 2)) == true)) && ((a0_6 != 0) == false))) D A rfl hc8 rfl (.inr ⟨rfl, rfl⟩) rfl rfl rfl rfl rfl rfl rfl fun a A => ?_
  refine r_or D A rfl rfl rfl rfl rfl rfl fun a A => ?_
  refine r_move D A rfl rfl rfl rfl fun a A => ?_
  refine r_f (e := (((true && (x48 == false)) && (((a0_0 != 1) && (a0_0 != 2)) == true)) && (((a0_6 != 0) || (a0_8 != 0)) == false))) D A rfl hc9 rfl (.inr ⟨rfl, rfl⟩) rfl rfl rfl rfl rfl rfl rfl fun a A => ?_
  refine r_or D A rfl rfl rfl rfl rfl rfl fun a A => ?_
  refine r_and D A rfl rfl rfl rfl rfl rfl fun a A => ?_
  refine r_or D A rfl rfl rfl rfl rfl rfl fun a A => ?_
  refine r_move D A rfl rfl rfl rfl fun a A => ?_
  obtain ⟨x71, q71⟩ : ∃ b, (b : Bool) = (x48 || (((a0_0 != 1) && (a0_0 != 2)) && (((a0_6 != 0) || (a0_8 != 0)) || (a0_9 != 0)))) := ⟨_, rfl⟩
  obtain ⟨T, A⟩ := cut3 (i := 1) (j := 3) (d := 71) (s := .c true x71) A rfl rfl (by rw [q71]; rfl)
  refine r_t (e := (true && (x71 == false))) D A rfl rfl rfl rfl rfl rfl fun a A => ?_
  refine r_move D A rfl rfl rfl rfl fun a A => ?_
  refine r_t (e := ((true && (x71 == false)) && ((a0_0 != 1) == true))) D A rfl rfl rfl rfl rfl rfl fun a A => ?_
  refine r_and D A rfl rfl rfl rfl rfl rfl fun a A => ?_
  refine r_move D A rfl rfl rfl rfl fun a A => ?_
  refine r_t (e := ((true && (x71 == false)) && (((a0_0 != 1) && (a0_0 != 2)) == true))) D A rfl rfl rfl rfl rfl rfl fun a A => ?_
  refine r_and D A rfl rfl rfl rfl rfl rfl fun a A => ?_
  refine r_move D A rfl rfl rfl rfl fun a A => ?_
  refine r_f (e := ((true && (x71 == false)) && ((((a0_0 != 1) && (a0_0 != 2)) && (a0_0 != 3)) == true))) D A rfl hc7 rfl (.inl ⟨rfl, rfl⟩) rfl rfl rfl rfl rfl rfl rfl fun a A => ?_
  refine r_and D A rfl rfl rfl rfl rfl rfl fun a A => ?_
  refine r_or D A rfl rfl rfl rfl rfl rfl fun a A => ?_
  refine r_move D A rfl rfl rfl rfl fun a A => ?_
  obtain ⟨x88, q88⟩ : ∃ b, (b : Bool) = (x71 || ((((a0_0 != 1) && (a0_0 != 2)) && (a0_0 != 3)) && (a0_7 != 0))) := ⟨_, rfl⟩
  obtain ⟨T, A⟩ := cut3 (i := 1) (j := 3) (d := 88) (s := .c true x88) A rfl rfl (by rw [q88]; rfl)
  refine r_t (e := (true && (x88 == false))) D A rfl rfl rfl rfl rfl rfl fun a A => ?_
  refine r_move D A rfl rfl rfl rfl fun a A => ?_
  refine r_l (e := ((true && (x88 == false)) && ((a0_0 != 3) == true))) D A rfl hc10 rfl (.inl rfl) rfl rfl rfl rfl rfl rfl rfl rfl rfl fun a A => ?_
  refine r_move D A rfl rfl rfl rfl fun a A => ?_
  refine r_l (e := (((true && (x88 == false)) && ((a0_0 != 3) == true)) && ((decide ((l0_10.length : Int) > 0)) == false))) D A rfl hc11 rfl (.inr (.inl rfl)) rfl rfl rfl rfl rfl rfl rfl rfl rfl fun a A => ?_
  refine r_or D A rfl rfl rfl rfl rfl rfl fun a A => ?_
  refine r_and D A rfl rfl rfl rfl rfl rfl fun a A => ?_
  refine r_or D A rfl rfl rfl rfl rfl rfl fun a A => ?_
  refine r_move D A rfl rfl rfl rfl fun a A => ?_
  obtain ⟨x104, q104⟩ : ∃ b, (b : Bool) = (x88 || ((a0_0 != 3) && ((decide ((l0_10.length : Int) > 0)) || (decide ((l0_11.length : Int) > 0))))) := ⟨_, rfl⟩
  obtain ⟨T, A⟩ := cut3 (i := 1) (j := 3) (d := 104) (s := .c true x104) A rfl rfl (by rw [q104]; rfl)
  refine r_q (e := (true && (x104 == false))) D A rfl (.inl rfl) (fun w => trunklineref12_hasParams.calls _ _ w HPA.out) rfl rfl rfl rfl rfl fun a m1 A => ?_
  replace hc12 : (w1.drewN m1).cell? _ = _ := hc12
  replace hc13 : (w1.drewN m1).cell? _ = _ := hc13
  refine r_not D A rfl rfl rfl rfl fun a A => ?_
  refine r_move D A rfl rfl rfl rfl fun a A => ?_
  refine r_l (e := ((true && (x104 == false)) && ((!pm) == true))) D A rfl hc12 rfl (.inr (.inr (.inl rfl))) rfl rfl rfl rfl rfl rfl rfl rfl rfl fun a A => ?_
  refine r_and D A rfl rfl rfl rfl rfl rfl fun a A => ?_
  refine r_or D A rfl rfl rfl rfl rfl rfl fun a A => ?_
  refine r_move D A rfl rfl rfl rfl fun a A => ?_
  obtain ⟨x115, q115⟩ : ∃ b, (b : Bool) = (x104 || ((!pm) && (decide ((l0_12.length : Int) > 0)))) := ⟨_, rfl⟩
  obtain ⟨T, A⟩ := cut3 (i := 1) (j := 3) (d := 115) (s := .c true x115) A rfl rfl (by rw [q115]; rfl)
  refine r_t (e := (true && (x115 == false))) D A rfl rfl rfl rfl rfl rfl fun a A => ?_
  refine r_move D A rfl rfl rfl rfl fun a A => ?_
  refine r_q (e := ((true && (x115 == false)) && ((a0_0 != 0) == true))) D A rfl (.inr rfl) (fun w => trunklineref12_hasData.calls _ _ w HDA.out) rfl rfl rfl rfl rfl fun a m2 A => ?_
  refine r_not D A rfl rfl rfl rfl fun a A => ?_
  refine r_and D A rfl rfl rfl rfl rfl rfl fun a A => ?_
  refine r_move D A rfl rfl rfl rfl fun a A => ?_
  refine r_l (e := ((true && (x115 == false)) && (((a0_0 != 0) && (!dt)) == true))) D A rfl (show ((w1.drewN m1).drewN m2).cell? _ = _ from hc13) rfl (.inr (.inr (.inr rfl))) rfl rfl rfl rfl rfl rfl rfl rfl rfl fun a A => ?_
  refine r_and D A rfl rfl rfl rfl rfl rfl fun a A => ?_
  refine r_or D A rfl rfl rfl rfl rfl rfl fun a A => ?_
  refine r_asg D A rfl rfl rfl rfl fun a A => ?_
  obtain ⟨x2, q2⟩ : ∃ b, (b : Bool) = (x115 || (((a0_0 != 0) && (!dt)) && (decide ((l0_13.length : Int) > 0)))) := ⟨_, rfl⟩
  obtain ⟨T, A⟩ := cut3 (i := 1) (j := 3) (d := 2) (s := .c true x2) A rfl rfl (by rw [q2]; rfl)
  refine wpList_nil ?_
  show Code.wp Try.prog Code.ret _ a ((w1.drewN m1).drewN m2)
  go_step
  refine bodyPost_ret (results_tmp rfl _ _ _) A.df ?_
  have hv : a.tmps.getD 2 undef = .bool x2 := A.val 2
  refine ⟨?_, below_step HB1.out (pw_below_drewN (pw_below_drewN (Below.refl w1.heap.size w1) m1) m2)⟩
  rw [hv]
  have hr : some (decide (oddB a0_0 a0_1 a0_2 a0_3 a0_4 a0_5 a0_6 a0_7 a0_8 a0_9 l0_10 l0_11 l0_12 l0_13)) = some r := HRA.out
  injection hr with hr
  rw [← hr]
  have hd : (dt = true) ↔ (a0_0 = 10 ∨ a0_0 = 12 ∨ a0_0 = 13 ∨ 14 < a0_0) := by
    have h := HDA.out
    unfold trunklineref12_hasData.f at h
    repeat' split at h
    all_goals (injection h with h; subst h; first | (simp only [decide_eq_true_eq]; omega) | (simp only [reduceCtorEq, true_iff, false_iff, eq_self]; omega) | (simp; omega) | omega)
  have hp : (pm = true) ↔ (a0_0 = 1 ∨ a0_0 = 2 ∨ a0_0 = 4 ∨ a0_0 = 5 ∨ a0_0 = 6 ∨ a0_0 = 9) := by
    have h := HPA.out
    unfold trunklineref12_hasParams.f at h
    repeat' split at h
    all_goals (injection h with h; subst h; first | (simp only [decide_eq_true_eq]; omega) | (simp only [reduceCtorEq, true_iff, false_iff, eq_self]; omega) | (simp; omega) | omega)
  have hx : x2 = decide (oddB a0_0 a0_1 a0_2 a0_3 a0_4 a0_5 a0_6 a0_7 a0_8 a0_9 l0_10 l0_11 l0_12 l0_13) := by
    rw [Bool.eq_iff_iff, decide_eq_true_iff, q2, q115, q104, q88, q71, q48, q23]
    clear q2 q115 q104 q88 q71 q48 q23 hv A
    unfold oddB
    cases dt <;> cases pm <;> simp only [reduceCtorEq, eq_self, true_iff, false_iff] at hd hp <;> simp only [Bool.or_eq_true, Bool.and_eq_true, bne_iff_ne, ne_eq, decide_eq_true_eq, Bool.not_true, Bool.not_false, reduceCtorEq, and_true, true_and, and_false, false_and, or_false] <;> omega
  rw [hx]
end Go.Proofs.Ytaahkggbjpdofaa.M
end
