/- Are two chunks alike (all fields but kind and flags; rows by their length): one ordered region, op by op (HOrd). -/
import Derived.Test.YtaahkggbjpdofaaHOrd
import Derived.WalkSpells
namespace Go.Proofs.Ytaahkggbjpdofaa.M
open Go.RowKit Go.Proofs.YtaahkggbjpdofaaW.PrintWords Go.Proofs.YtaahkggbjpdofaaW.PrintLast Go.Proofs.YtaahkggbjpdofaaW.PrintMore
set_option linter.unusedVariables false
set_option linter.unusedSimpArgs false
attribute [local irreducible] wpList
def chunk_alike.f (a0_0 : Int) (a0_1 : Int) (a0_2 : Int) (a0_3 : Int) (a0_4 : Int) (a0_5 : Int) (a0_6 : Int) (a0_7 : Int) (a0_8 : Int) (a0_9 : Int) (l0_10 : List (S101)) (l0_11 : List Int) (l0_12 : List (S48)) (l0_13 : List Int) (a1_0 : Int) (a1_1 : Int) (a1_2 : Int) (a1_3 : Int) (a1_4 : Int) (a1_5 : Int) (a1_6 : Int) (a1_7 : Int) (a1_8 : Int) (a1_9 : Int) (l1_10 : List (S101)) (l1_11 : List Int) (l1_12 : List (S48)) (l1_13 : List Int) : Option (Bool) := if a0_2 = a1_2 then (if a0_3 = a1_3 then (if a0_4 = a1_4 then (if a0_5 = a1_5 then (if a0_6 = a1_6 then (if a0_7 = a1_7 then (if a0_8 = a1_8 then (if a0_9 = a1_9 then (if (l0_10.length : Int) = (l1_10.length : Int) then (if (l0_11.length : Int) = (l1_11.length : Int) then (if (l0_12.length : Int) = (l1_12.length : Int) then (some ((l0_13.length : Int) == (l1_13.length : Int))) else (some false)) else (some false)) else (some false)) else (some false)) else (some false)) else (some false)) else (some false)) else (some false)) else (some false)) else (some false)) else (some false)
set_option maxHeartbeats 4000000 in
set_option maxRecDepth 100000 in
theorem chunk_alike.calls (a0_0 : Int) (a0_1 : Int) (a0_2 : Int) (a0_3 : Int) (a0_4 : Int) (a0_5 : Int) (a0_6 : Int) (a0_7 : Int) (a0_8 : Int) (a0_9 : Int) (A0_10 : Option Addr) (c0_10 : Nat) (l0_10 : List (S101)) (A0_11 : Option Addr) (c0_11 : Nat) (l0_11 : List Int) (A0_12 : Option Addr) (c0_12 : Nat) (l0_12 : List (S48)) (A0_13 : Option Addr) (c0_13 : Nat) (l0_13 : List Int) (a1_0 : Int) (a1_1 : Int) (a1_2 : Int) (a1_3 : Int) (a1_4 : Int) (a1_5 : Int) (a1_6 : Int) (a1_7 : Int) (a1_8 : Int) (a1_9 : Int) (A1_10 : Option Addr) (c1_10 : Nat) (l1_10 : List (S101)) (A1_11 : Option Addr) (c1_11 : Nat) (l1_11 : List Int) (A1_12 : Option Addr) (c1_12 : Nat) (l1_12 : List (S48)) (A1_13 : Option Addr) (c1_13 : Nat) (l1_13 : List Int) (r : Bool) (w : World) (hr0_10 : Kd.C k101 w A0_10 l0_10.length l0_10) (hc0_10 : l0_10.length ≤ c0_10) (hr0_11 : Kd.C (Kd.int .u32) w A0_11 l0_11.length l0_11) (hc0_11 : l0_11.length ≤ c0_11) (hr0_12 : Kd.C k48 w A0_12 l0_12.length l0_12) (hc0_12 : l0_12.length ≤ c0_12) (hr0_13 : Kd.C (Kd.int .u8) w A0_13 l0_13.length l0_13) (hc0_13 : l0_13.length ≤ c0_13) (hr1_10 : Kd.C k101 w A1_10 l1_10.length l1_10) (hc1_10 : l1_10.length ≤ c1_10) (hr1_11 : Kd.C (Kd.int .u32) w A1_11 l1_11.length l1_11) (hc1_11 : l1_11.length ≤ c1_11) (hr1_12 : Kd.C k48 w A1_12 l1_12.length l1_12) (hc1_12 : l1_12.length ≤ c1_12) (hr1_13 : Kd.C (Kd.int .u8) w A1_13 l1_13.length l1_13) (hc1_13 : l1_13.length ≤ c1_13) (h : chunk_alike.f a0_0 a0_1 a0_2 a0_3 a0_4 a0_5 a0_6 a0_7 a0_8 a0_9 l0_10 l0_11 l0_12 l0_13 a1_0 a1_1 a1_2 a1_3 a1_4 a1_5 a1_6 a1_7 a1_8 a1_9 l1_10 l1_11 l1_12 l1_13 = some r) :
    Calls Try.prog 26 #[.agg #[.int .u8 a0_0, .int .u8 a0_1, .int .u32 a0_2, .int .u16 a0_3, .int .u16 a0_4, .int .u32 a0_5, .int .u32 a0_6, .int .u32 a0_7, .int .u16 a0_8, .int .u16 a0_9, .slice A0_10 l0_10.length c0_10, .slice A0_11 l0_11.length c0_11, .slice A0_12 l0_12.length c0_12, .slice A0_13 l0_13.length c0_13], .agg #[.int .u8 a1_0, .int .u8 a1_1, .int .u32 a1_2, .int .u16 a1_3, .int .u16 a1_4, .int .u32 a1_5, .int .u32 a1_6, .int .u32 a1_7, .int .u16 a1_8, .int .u16 a1_9, .slice A1_10 l1_10.length c1_10, .slice A1_11 l1_11.length c1_11, .slice A1_12 l1_12.length c1_12, .slice A1_13 l1_13.length c1_13]] w fun e w' => e = .returned (.bool r) ∧ Below w.heap.size w w' := by
  clear hr0_10 hc0_10 hr0_11 hc0_11 hr0_12 hc0_12 hr0_13 hc0_13 hr1_10 hc1_10 hr1_11 hc1_11 hr1_12 hc1_12 hr1_13 hc1_13
  have HRA := Aside0.mk h
  clear h
  go_enter Try.func26, Try.ntmps26
  iterate 3 go_step
  ((with_reducible refine gate_dst (N := 2) rfl ?_); refine box_event ?hg (N := 2) ?hd (cs := #[.int .u8 a0_0, .int .u8 a0_1, .int .u32 a0_2, .int .u16 a0_3, .int .u16 a0_4, .int .u32 a0_5, .int .u32 a0_6, .int .u32 a0_7, .int .u16 a0_8, .int .u16 a0_9, .slice A0_10 l0_10.length c0_10, .slice A0_11 l0_11.length c0_11, .slice A0_12 l0_12.length c0_12, .slice A0_13 l0_13.length c0_13]) (t := 29) ?hr ?_; (case hd => rfl); (case hg => rfl); (case hr => first | (go_simp; done) | (go_simp; rfl)); intro p1 hgp1 w1 hboxp1 hbp1; have HBp1 := Aside0.mk hbp1; have HBXp1 := Aside0.mk hboxp1; have HGp1 := Aside0.mk hgp1; clear hgp1 hboxp1 hbp1)
  ((with_reducible refine gate_dst (N := 3) rfl ?_); refine box_event ?hg (N := 3) ?hd (cs := #[.int .u8 a1_0, .int .u8 a1_1, .int .u32 a1_2, .int .u16 a1_3, .int .u16 a1_4, .int .u32 a1_5, .int .u32 a1_6, .int .u32 a1_7, .int .u16 a1_8, .int .u16 a1_9, .slice A1_10 l1_10.length c1_10, .slice A1_11 l1_11.length c1_11, .slice A1_12 l1_12.length c1_12, .slice A1_13 l1_13.length c1_13]) (t := 29) ?hr ?_; (case hd => rfl); (case hg => rfl); (case hr => first | (go_simp; done) | (go_simp; rfl)); intro p2 hgp2 w2 hboxp2 hbp2; have HBp2 := Aside0.mk hbp2; have HBXp2 := Aside0.mk hboxp2; have HGp2 := Aside0.mk hgp2; clear hgp2 hboxp2 hbp2)
  iterate 6 go_step
  have BX1 := blk_below HBXp1.out HBp2.out
  have ha2 : w2.cell? ⟨p1, 2, none⟩ = some (.int .u32 a0_2) := blk_cell BX1 2
  have hb2 : w2.cell? ⟨p2, 2, none⟩ = some (.int .u32 a1_2) := blk_cell HBXp2.out 2
  have ha3 : w2.cell? ⟨p1, 3, none⟩ = some (.int .u16 a0_3) := blk_cell BX1 3
  have hb3 : w2.cell? ⟨p2, 3, none⟩ = some (.int .u16 a1_3) := blk_cell HBXp2.out 3
  have ha4 : w2.cell? ⟨p1, 4, none⟩ = some (.int .u16 a0_4) := blk_cell BX1 4
  have hb4 : w2.cell? ⟨p2, 4, none⟩ = some (.int .u16 a1_4) := blk_cell HBXp2.out 4
  have ha5 : w2.cell? ⟨p1, 5, none⟩ = some (.int .u32 a0_5) := blk_cell BX1 5
  have hb5 : w2.cell? ⟨p2, 5, none⟩ = some (.int .u32 a1_5) := blk_cell HBXp2.out 5
  have ha6 : w2.cell? ⟨p1, 6, none⟩ = some (.int .u32 a0_6) := blk_cell BX1 6
  have hb6 : w2.cell? ⟨p2, 6, none⟩ = some (.int .u32 a1_6) := blk_cell HBXp2.out 6
  have ha7 : w2.cell? ⟨p1, 7, none⟩ = some (.int .u32 a0_7) := blk_cell BX1 7
  have hb7 : w2.cell? ⟨p2, 7, none⟩ = some (.int .u32 a1_7) := blk_cell HBXp2.out 7
  have ha8 : w2.cell? ⟨p1, 8, none⟩ = some (.int .u16 a0_8) := blk_cell BX1 8
  have hb8 : w2.cell? ⟨p2, 8, none⟩ = some (.int .u16 a1_8) := blk_cell HBXp2.out 8
  have ha9 : w2.cell? ⟨p1, 9, none⟩ = some (.int .u16 a0_9) := blk_cell BX1 9
  have hb9 : w2.cell? ⟨p2, 9, none⟩ = some (.int .u16 a1_9) := blk_cell HBXp2.out 9
  have ha10 : w2.cell? ⟨p1, 10, none⟩ = some (.slice A0_10 l0_10.length c0_10) := blk_cell BX1 10
  have hb10 : w2.cell? ⟨p2, 10, none⟩ = some (.slice A1_10 l1_10.length c1_10) := blk_cell HBXp2.out 10
  have ha11 : w2.cell? ⟨p1, 11, none⟩ = some (.slice A0_11 l0_11.length c0_11) := blk_cell BX1 11
  have hb11 : w2.cell? ⟨p2, 11, none⟩ = some (.slice A1_11 l1_11.length c1_11) := blk_cell HBXp2.out 11
  have ha12 : w2.cell? ⟨p1, 12, none⟩ = some (.slice A0_12 l0_12.length c0_12) := blk_cell BX1 12
  have hb12 : w2.cell? ⟨p2, 12, none⟩ = some (.slice A1_12 l1_12.length c1_12) := blk_cell HBXp2.out 12
  have ha13 : w2.cell? ⟨p1, 13, none⟩ = some (.slice A0_13 l0_13.length c0_13) := blk_cell BX1 13
  have hb13 : w2.cell? ⟨p2, 13, none⟩ = some (.slice A1_13 l1_13.length c1_13) := blk_cell HBXp2.out 13
  with_reducible refine enter_ordered 5 90 95 ?hok ?hle ?hs ?hd ?_
  (case hok => kernel_rfl)
  (case hle => rfl)
  (case hs => rfl)
  (case hd => rfl)
  intro ops T a D A hT
  have h1 : T 2 = .k (.pointer (some ⟨p1, 0, none⟩)) := hT 2
  have h3 : T 3 = .k (.pointer (some ⟨p2, 0, none⟩)) := hT 3
  clear hT
  obtain ⟨T, A⟩ := cut3 (d := 2) A h1 h3 h1
  refine r_ef (e := true) D A rfl rfl ha2 hb2 rfl (.inl ⟨rfl, rfl⟩) rfl ⟨rfl, rfl, rfl, rfl⟩ (fun _ => rfl) (fun _ _ => rfl) (fun _ _ _ => rfl) (fun _ _ _ _ => rfl) rfl rfl rfl rfl rfl rfl fun a _ A => ?_
  refine r_move D A rfl rfl rfl rfl fun a A => ?_
  obtain ⟨x1, q1⟩ : ∃ b, (b : Bool) = (a0_2 == a1_2) := ⟨_, rfl⟩
  obtain ⟨T, A⟩ := cut3 (i := 2) (j := 3) (d := 10) (s := .c true x1) A rfl rfl (by rw [q1]; rfl)
  refine r_ef (e := (true && (x1 == true))) D A rfl rfl ha3 hb3 rfl (.inr ⟨rfl, rfl⟩) rfl ⟨rfl, rfl, rfl, rfl⟩ (fun _ => rfl) (fun _ _ => rfl) (fun _ _ _ => rfl) (fun _ _ _ _ => rfl) rfl rfl rfl rfl rfl rfl fun a _ A => ?_
  refine r_and D A rfl rfl rfl rfl rfl rfl fun a A => ?_
  refine r_move D A rfl rfl rfl rfl fun a A => ?_
  obtain ⟨x2, q2⟩ : ∃ b, (b : Bool) = (x1 && (a0_3 == a1_3)) := ⟨_, rfl⟩
  obtain ⟨T, A⟩ := cut3 (i := 2) (j := 3) (d := 17) (s := .c true x2) A rfl rfl (by rw [q2]; rfl)
  refine r_ef (e := (true && (x2 == true))) D A rfl rfl ha4 hb4 rfl (.inr ⟨rfl, rfl⟩) rfl ⟨rfl, rfl, rfl, rfl⟩ (fun _ => rfl) (fun _ _ => rfl) (fun _ _ _ => rfl) (fun _ _ _ _ => rfl) rfl rfl rfl rfl rfl rfl fun a _ A => ?_
  refine r_and D A rfl rfl rfl rfl rfl rfl fun a A => ?_
  refine r_move D A rfl rfl rfl rfl fun a A => ?_
  obtain ⟨x3, q3⟩ : ∃ b, (b : Bool) = (x2 && (a0_4 == a1_4)) := ⟨_, rfl⟩
  obtain ⟨T, A⟩ := cut3 (i := 2) (j := 3) (d := 24) (s := .c true x3) A rfl rfl (by rw [q3]; rfl)
  refine r_ef (e := (true && (x3 == true))) D A rfl rfl ha5 hb5 rfl (.inl ⟨rfl, rfl⟩) rfl ⟨rfl, rfl, rfl, rfl⟩ (fun _ => rfl) (fun _ _ => rfl) (fun _ _ _ => rfl) (fun _ _ _ _ => rfl) rfl rfl rfl rfl rfl rfl fun a _ A => ?_
  refine r_and D A rfl rfl rfl rfl rfl rfl fun a A => ?_
  refine r_move D A rfl rfl rfl rfl fun a A => ?_
  obtain ⟨x4, q4⟩ : ∃ b, (b : Bool) = (x3 && (a0_5 == a1_5)) := ⟨_, rfl⟩
  obtain ⟨T, A⟩ := cut3 (i := 2) (j := 3) (d := 31) (s := .c true x4) A rfl rfl (by rw [q4]; rfl)
  refine r_ef (e := (true && (x4 == true))) D A rfl rfl ha6 hb6 rfl (.inl ⟨rfl, rfl⟩) rfl ⟨rfl, rfl, rfl, rfl⟩ (fun _ => rfl) (fun _ _ => rfl) (fun _ _ _ => rfl) (fun _ _ _ _ => rfl) rfl rfl rfl rfl rfl rfl fun a _ A => ?_
  refine r_and D A rfl rfl rfl rfl rfl rfl fun a A => ?_
  refine r_move D A rfl rfl rfl rfl fun a A => ?_
  obtain ⟨x5, q5⟩ : ∃ b, (b : Bool) = (x4 && (a0_6 == a1_6)) := ⟨_, rfl⟩
  obtain ⟨T, A⟩ := cut3 (i := 2) (j := 3) (d := 38) (s := .c true x5) A rfl rfl (by rw [q5]; rfl)
  refine r_ef (e := (true && (x5 == true))) D A rfl rfl ha7 hb7 rfl (.inl ⟨rfl, rfl⟩) rfl ⟨rfl, rfl, rfl, rfl⟩ (fun _ => rfl) (fun _ _ => rfl) (fun _ _ _ => rfl) (fun _ _ _ _ => rfl) rfl rfl rfl rfl rfl rfl fun a _ A => ?_
  refine r_and D A rfl rfl rfl rfl rfl rfl fun a A => ?_
  refine r_move D A rfl rfl rfl rfl fun a A => ?_
  obtain ⟨x6, q6⟩ : ∃ b, (b : Bool) = (x5 && (a0_7 == a1_7)) := ⟨_, rfl⟩
  obtain ⟨T, A⟩ := cut3 (i := 2) (j := 3) (d := 45) (s := .c true x6) A rfl rfl (by rw [q6]; rfl)
  refine r_ef (e := (true && (x6 == true))) D A rfl rfl ha8 hb8 rfl (.inr ⟨rfl, rfl⟩) rfl ⟨rfl, rfl, rfl, rfl⟩ (fun _ => rfl) (fun _ _ => rfl) (fun _ _ _ => rfl) (fun _ _ _ _ => rfl) rfl rfl rfl rfl rfl rfl fun a _ A => ?_
  refine r_and D A rfl rfl rfl rfl rfl rfl fun a A => ?_
  refine r_move D A rfl rfl rfl rfl fun a A => ?_
  obtain ⟨x7, q7⟩ : ∃ b, (b : Bool) = (x6 && (a0_8 == a1_8)) := ⟨_, rfl⟩
  obtain ⟨T, A⟩ := cut3 (i := 2) (j := 3) (d := 52) (s := .c true x7) A rfl rfl (by rw [q7]; rfl)
  refine r_ef (e := (true && (x7 == true))) D A rfl rfl ha9 hb9 rfl (.inr ⟨rfl, rfl⟩) rfl ⟨rfl, rfl, rfl, rfl⟩ (fun _ => rfl) (fun _ _ => rfl) (fun _ _ _ => rfl) (fun _ _ _ _ => rfl) rfl rfl rfl rfl rfl rfl fun a _ A => ?_
  refine r_and D A rfl rfl rfl rfl rfl rfl fun a A => ?_
  refine r_move D A rfl rfl rfl rfl fun a A => ?_
  obtain ⟨x8, q8⟩ : ∃ b, (b : Bool) = (x7 && (a0_9 == a1_9)) := ⟨_, rfl⟩
  obtain ⟨T, A⟩ := cut3 (i := 2) (j := 3) (d := 59) (s := .c true x8) A rfl rfl (by rw [q8]; rfl)
  refine r_el (e := (true && (x8 == true))) D A rfl rfl ha10 hb10 rfl (.inl rfl) rfl ⟨rfl, rfl, rfl, rfl, rfl, rfl⟩ (fun _ => rfl) (fun _ _ => rfl) (fun _ _ _ => rfl) (fun _ _ _ _ => rfl) (fun _ _ _ _ _ => rfl) (fun _ _ _ _ _ _ => rfl) rfl rfl rfl rfl rfl rfl rfl rfl fun a _ A => ?_
  refine r_and D A rfl rfl rfl rfl rfl rfl fun a A => ?_
  refine r_move D A rfl rfl rfl rfl fun a A => ?_
  obtain ⟨x9, q9⟩ : ∃ b, (b : Bool) = (x8 && ((l0_10.length : Int) == (l1_10.length : Int))) := ⟨_, rfl⟩
  obtain ⟨T, A⟩ := cut3 (i := 2) (j := 3) (d := 68) (s := .c true x9) A rfl rfl (by rw [q9]; rfl)
  refine r_el (e := (true && (x9 == true))) D A rfl rfl ha11 hb11 rfl (.inr (.inl rfl)) rfl ⟨rfl, rfl, rfl, rfl, rfl, rfl⟩ (fun _ => rfl) (fun _ _ => rfl) (fun _ _ _ => rfl) (fun _ _ _ _ => rfl) (fun _ _ _ _ _ => rfl) (fun _ _ _ _ _ _ => rfl) rfl rfl rfl rfl rfl rfl rfl rfl fun a _ A => ?_
  refine r_and D A rfl rfl rfl rfl rfl rfl fun a A => ?_
  refine r_move D A rfl rfl rfl rfl fun a A => ?_
  obtain ⟨x10, q10⟩ : ∃ b, (b : Bool) = (x9 && ((l0_11.length : Int) == (l1_11.length : Int))) := ⟨_, rfl⟩
  obtain ⟨T, A⟩ := cut3 (i := 2) (j := 3) (d := 77) (s := .c true x10) A rfl rfl (by rw [q10]; rfl)
  refine r_el (e := (true && (x10 == true))) D A rfl rfl ha12 hb12 rfl (.inr (.inr (.inl rfl))) rfl ⟨rfl, rfl, rfl, rfl, rfl, rfl⟩ (fun _ => rfl) (fun _ _ => rfl) (fun _ _ _ => rfl) (fun _ _ _ _ => rfl) (fun _ _ _ _ _ => rfl) (fun _ _ _ _ _ _ => rfl) rfl rfl rfl rfl rfl rfl rfl rfl fun a _ A => ?_
  refine r_and D A rfl rfl rfl rfl rfl rfl fun a A => ?_
  refine r_move D A rfl rfl rfl rfl fun a A => ?_
  obtain ⟨x11, q11⟩ : ∃ b, (b : Bool) = (x10 && ((l0_12.length : Int) == (l1_12.length : Int))) := ⟨_, rfl⟩
  obtain ⟨T, A⟩ := cut3 (i := 2) (j := 3) (d := 86) (s := .c true x11) A rfl rfl (by rw [q11]; rfl)
  refine r_el (e := (true && (x11 == true))) D A rfl rfl ha13 hb13 rfl (.inr (.inr (.inr rfl))) rfl ⟨rfl, rfl, rfl, rfl, rfl, rfl⟩ (fun _ => rfl) (fun _ _ => rfl) (fun _ _ _ => rfl) (fun _ _ _ _ => rfl) (fun _ _ _ _ _ => rfl) (fun _ _ _ _ _ _ => rfl) rfl rfl rfl rfl rfl rfl rfl rfl fun a _ A => ?_
  refine r_and D A rfl rfl rfl rfl rfl rfl fun a A => ?_
  refine r_asg D A rfl rfl rfl rfl fun a A => ?_
  refine wpList_nil ?_
  show Code.wp Try.prog Code.ret _ a w2
  go_step
  refine bodyPost_ret (results_tmp rfl _ _ _) A.df ?_
  have hv : a.tmps.getD 4 undef = .bool (x11 && ((l0_13.length : Int) == (l1_13.length : Int))) := A.val 4
  refine ⟨?_, below_step HBp1.out HBp2.out⟩
  rw [hv]
  have hr : some (x11 && ((l0_13.length : Int) == (l1_13.length : Int))) = some r := by
    rw [← HRA.out]
    unfold chunk_alike.f
    rw [q11, q10, q9, q8, q7, q6, q5, q4, q3, q2, q1]
    clear q11 q10 q9 q8 q7 q6 q5 q4 q3 q2 q1 hv A
    repeat' split
    all_goals (congr 1; simp_all)
  injection hr with hr
  rw [hr]
end Go.Proofs.Ytaahkggbjpdofaa.M
