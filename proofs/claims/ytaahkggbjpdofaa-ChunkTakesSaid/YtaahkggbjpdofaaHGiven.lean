/- chunk.Check and chunk.bytes in the printed form, for every chunk. -/
import Derived.Test.YtaahkggbjpdofaaHCkG
import Derived.Test.YtaahkggbjpdofaaHCk53
import Derived.Test.YtaahkggbjpdofaaHAlike
namespace Go.Proofs.Ytaahkggbjpdofaa.M
open Go.RowKit Go.Proofs.YtaahkggbjpdofaaW.PrintWords Go.Proofs.YtaahkggbjpdofaaW.PrintLast Go.Proofs.YtaahkggbjpdofaaW.PrintMore
set_option linter.unusedVariables false
set_option linter.unusedSimpArgs false
theorem kind_80 : Kind 80 93 := ⟨as_80_53, ml_80, na_80, fun _ _ => by kernel_rfl⟩
theorem kind_81 : Kind 81 97 := ⟨as_81_53, ml_81, na_81, fun _ _ => by kernel_rfl⟩
theorem kind_82 : Kind 82 99 := ⟨as_82_53, ml_82, na_82, fun _ _ => by kernel_rfl⟩
theorem kind_83 : Kind 83 101 := ⟨as_83_53, ml_83, na_83, fun _ _ => by kernel_rfl⟩
theorem kind_84 : Kind 84 103 := ⟨as_84_53, ml_84, na_84, fun _ _ => by kernel_rfl⟩
theorem kind_85 : Kind 85 105 := ⟨as_85_53, ml_85, na_85, fun _ _ => by kernel_rfl⟩
theorem ofT_cases (t : Int) : ofT t = 53 ∨ ofT t = 80 ∨ ofT t = 81 ∨ ofT t = 82 ∨ ofT t = 83 ∨ ofT t = 84 ∨ ofT t = 85 := by
  unfold ofT
  repeat' split
  all_goals simp
/-- Has a chunk nothing but what its kind has? -/
def chunk_likes.f (t a1 a2 a3 a4 a5 a6 a7 a8 a9 : Int) (l10 : List S101) (l11 : List Int) (l12 : List S48) (l13 : List Int) : Option Bool :=
  if ofT t = 53 then chunk_alike.f t a1 a2 a3 a4 a5 a6 a7 a8 a9 l10 l11 l12 l13 t a1 a2 a3 a4 a5 0 0 0 0 [] [] [] l13 else if ofT t = 80 then chunk_alike.f t a1 a2 a3 a4 a5 a6 a7 a8 a9 l10 l11 l12 l13 t a1 a2 0 0 0 a6 a7 a8 a9 [] [] l12 [] else if ofT t = 81 then chunk_alike.f t a1 a2 a3 a4 a5 a6 a7 a8 a9 l10 l11 l12 l13 t a1 a2 0 0 0 0 a7 0 0 l10 l11 [] [] else if ofT t = 82 then chunk_alike.f t a1 a2 a3 a4 a5 a6 a7 a8 a9 l10 l11 l12 l13 t a1 0 0 0 0 0 0 0 0 [] [] l12 [] else if ofT t = 83 then chunk_alike.f t a1 a2 a3 a4 a5 a6 a7 a8 a9 l10 l11 l12 l13 t a1 a2 0 0 0 0 0 0 0 [] [] [] [] else if ofT t = 84 then chunk_alike.f t a1 a2 a3 a4 a5 a6 a7 a8 a9 l10 l11 l12 l13 t a1 0 0 0 0 0 0 0 0 [] [] [] [] else chunk_alike.f t a1 a2 a3 a4 a5 a6 a7 a8 a9 l10 l11 l12 l13 t a1 0 0 0 0 0 0 0 0 [] [] [] l13
def chunk_Check.f (k : Nat) (t a1 a2 a3 a4 a5 a6 a7 a8 a9 : Int) (l10 : List S101) (l11 : List Int) (l12 : List S48) (l13 : List Int) : Option Int :=
  (chunk_likes.f t a1 a2 a3 a4 a5 a6 a7 a8 a9 l10 l11 l12 l13).bind fun b => if b = false then some 2 else if ofT t = 53 ∧ l13.length = 0 then some 2 else if 16 < l12.length then some 6 else if 16 < l10.length then some 6 else if 16 < l11.length then some 6 else if 1480 < l13.length then some 6 else if (l12.any fun p => decide (1480 < p.f1.length)) = true then some 6 else (chunk_value.f k t a1 a2 a3 a4 a5 a6 a7 a8 a9 l10 l11 l12 l13 [0, 0, 0, 0]).bind fun b => if 1468 < b.length then some 6 else some 0
def chunk_bytes.f (k : Nat) (t a1 a2 a3 a4 a5 a6 a7 a8 a9 : Int) (l10 : List S101) (l11 : List Int) (l12 : List S48) (l13 : List Int) : Option (List Int) :=
  (chunk_value.f k t a1 a2 a3 a4 a5 a6 a7 a8 a9 l10 l11 l12 l13 [t, a1, 0, 0]).bind fun r => (octet_Set.f k r 2 (IntKind.u64.wrap (r.length : Int)) 2).bind fun q => some q.1
theorem value_53 (k : Nat) (t a1 a2 a3 a4 a5 a6 a7 a8 a9 : Int) (l10 : List S101) (l11 : List Int) (l12 : List S48) (l13 : List Int) (l0 : List Int) (hT : ofT t = 53) : chunk_value.f k t a1 a2 a3 a4 a5 a6 a7 a8 a9 l10 l11 l12 l13 l0 = chunk_data.f k a2 a3 a4 a5 l13 l0 := by
  unfold chunk_value.f
  simp [hT]
theorem likes_53 (t a1 a2 a3 a4 a5 a6 a7 a8 a9 : Int) (l10 : List S101) (l11 : List Int) (l12 : List S48) (l13 : List Int) (hT : ofT t = 53) : chunk_likes.f t a1 a2 a3 a4 a5 a6 a7 a8 a9 l10 l11 l12 l13 = chunk_alike.f t a1 a2 a3 a4 a5 a6 a7 a8 a9 l10 l11 l12 l13 t a1 a2 a3 a4 a5 0 0 0 0 [] [] [] l13 := by
  unfold chunk_likes.f
  simp [hT]
theorem value_80 (k : Nat) (t a1 a2 a3 a4 a5 a6 a7 a8 a9 : Int) (l10 : List S101) (l11 : List Int) (l12 : List S48) (l13 : List Int) (l0 : List Int) (hT : ofT t = 80) : chunk_value.f k t a1 a2 a3 a4 a5 a6 a7 a8 a9 l10 l11 l12 l13 l0 = chunk_first.f k a2 a6 a7 a8 a9 l12 l0 := by
  unfold chunk_value.f
  simp [hT]
theorem likes_80 (t a1 a2 a3 a4 a5 a6 a7 a8 a9 : Int) (l10 : List S101) (l11 : List Int) (l12 : List S48) (l13 : List Int) (hT : ofT t = 80) : chunk_likes.f t a1 a2 a3 a4 a5 a6 a7 a8 a9 l10 l11 l12 l13 = chunk_alike.f t a1 a2 a3 a4 a5 a6 a7 a8 a9 l10 l11 l12 l13 t a1 a2 0 0 0 a6 a7 a8 a9 [] [] l12 [] := by
  unfold chunk_likes.f
  simp [hT]
theorem value_81 (k : Nat) (t a1 a2 a3 a4 a5 a6 a7 a8 a9 : Int) (l10 : List S101) (l11 : List Int) (l12 : List S48) (l13 : List Int) (l0 : List Int) (hT : ofT t = 81) : chunk_value.f k t a1 a2 a3 a4 a5 a6 a7 a8 a9 l10 l11 l12 l13 l0 = chunk_sack.f k a2 a7 l10 l11 l0 := by
  unfold chunk_value.f
  simp [hT]
theorem likes_81 (t a1 a2 a3 a4 a5 a6 a7 a8 a9 : Int) (l10 : List S101) (l11 : List Int) (l12 : List S48) (l13 : List Int) (hT : ofT t = 81) : chunk_likes.f t a1 a2 a3 a4 a5 a6 a7 a8 a9 l10 l11 l12 l13 = chunk_alike.f t a1 a2 a3 a4 a5 a6 a7 a8 a9 l10 l11 l12 l13 t a1 a2 0 0 0 0 a7 0 0 l10 l11 [] [] := by
  unfold chunk_likes.f
  simp [hT]
theorem value_82 (k : Nat) (t a1 a2 a3 a4 a5 a6 a7 a8 a9 : Int) (l10 : List S101) (l11 : List Int) (l12 : List S48) (l13 : List Int) (l0 : List Int) (hT : ofT t = 82) : chunk_value.f k t a1 a2 a3 a4 a5 a6 a7 a8 a9 l10 l11 l12 l13 l0 = chunk_layParams.f k l0 l12 := by
  unfold chunk_value.f
  simp [hT]
theorem likes_82 (t a1 a2 a3 a4 a5 a6 a7 a8 a9 : Int) (l10 : List S101) (l11 : List Int) (l12 : List S48) (l13 : List Int) (hT : ofT t = 82) : chunk_likes.f t a1 a2 a3 a4 a5 a6 a7 a8 a9 l10 l11 l12 l13 = chunk_alike.f t a1 a2 a3 a4 a5 a6 a7 a8 a9 l10 l11 l12 l13 t a1 0 0 0 0 0 0 0 0 [] [] l12 [] := by
  unfold chunk_likes.f
  simp [hT]
theorem value_83 (k : Nat) (t a1 a2 a3 a4 a5 a6 a7 a8 a9 : Int) (l10 : List S101) (l11 : List Int) (l12 : List S48) (l13 : List Int) (l0 : List Int) (hT : ofT t = 83) : chunk_value.f k t a1 a2 a3 a4 a5 a6 a7 a8 a9 l10 l11 l12 l13 l0 = chunk_lay.f k l0 4 [wrap64 a2] := by
  unfold chunk_value.f
  simp [hT]
theorem likes_83 (t a1 a2 a3 a4 a5 a6 a7 a8 a9 : Int) (l10 : List S101) (l11 : List Int) (l12 : List S48) (l13 : List Int) (hT : ofT t = 83) : chunk_likes.f t a1 a2 a3 a4 a5 a6 a7 a8 a9 l10 l11 l12 l13 = chunk_alike.f t a1 a2 a3 a4 a5 a6 a7 a8 a9 l10 l11 l12 l13 t a1 a2 0 0 0 0 0 0 0 [] [] [] [] := by
  unfold chunk_likes.f
  simp [hT]
theorem value_84 (k : Nat) (t a1 a2 a3 a4 a5 a6 a7 a8 a9 : Int) (l10 : List S101) (l11 : List Int) (l12 : List S48) (l13 : List Int) (l0 : List Int) (hT : ofT t = 84) : chunk_value.f k t a1 a2 a3 a4 a5 a6 a7 a8 a9 l10 l11 l12 l13 l0 = some l0 := by
  unfold chunk_value.f
  simp [hT]
theorem likes_84 (t a1 a2 a3 a4 a5 a6 a7 a8 a9 : Int) (l10 : List S101) (l11 : List Int) (l12 : List S48) (l13 : List Int) (hT : ofT t = 84) : chunk_likes.f t a1 a2 a3 a4 a5 a6 a7 a8 a9 l10 l11 l12 l13 = chunk_alike.f t a1 a2 a3 a4 a5 a6 a7 a8 a9 l10 l11 l12 l13 t a1 0 0 0 0 0 0 0 0 [] [] [] [] := by
  unfold chunk_likes.f
  simp [hT]
theorem value_85 (k : Nat) (t a1 a2 a3 a4 a5 a6 a7 a8 a9 : Int) (l10 : List S101) (l11 : List Int) (l12 : List S48) (l13 : List Int) (l0 : List Int) (hT : ofT t = 85) : chunk_value.f k t a1 a2 a3 a4 a5 a6 a7 a8 a9 l10 l11 l12 l13 l0 = (if l0.length + l13.length < 140737488355328 then some (l0 ++ l13) else none) := by
  unfold chunk_value.f
  simp [hT]
theorem likes_85 (t a1 a2 a3 a4 a5 a6 a7 a8 a9 : Int) (l10 : List S101) (l11 : List Int) (l12 : List S48) (l13 : List Int) (hT : ofT t = 85) : chunk_likes.f t a1 a2 a3 a4 a5 a6 a7 a8 a9 l10 l11 l12 l13 = chunk_alike.f t a1 a2 a3 a4 a5 a6 a7 a8 a9 l10 l11 l12 l13 t a1 0 0 0 0 0 0 0 0 [] [] [] l13 := by
  unfold chunk_likes.f
  simp [hT]
theorem chunk_value.mono : ∀ b0 b1 b2 b3 b4 b5 b6 b7 b8 b9 b10 b11 b12 b13 l0 k, LeO (chunk_value.f k b0 b1 b2 b3 b4 b5 b6 b7 b8 b9 b10 b11 b12 b13 l0) (chunk_value.f (k + 1) b0 b1 b2 b3 b4 b5 b6 b7 b8 b9 b10 b11 b12 b13 l0) := by
  intro b0 b1 b2 b3 b4 b5 b6 b7 b8 b9 b10 b11 b12 b13 l0 k
  unfold chunk_value.f
  refine LeO.ite ?_ (LeO.ite ?_ (LeO.ite ?_ (LeO.ite (chunk_layParams.mono _ _ _) (LeO.ite (chunk_lay.mono _ _ _ _) (LeO.refl _)))))
  · unfold chunk_data.f
    exact LeO.bind (chunk_lay.mono _ _ _ _) (fun _ => LeO.bind (chunk_lay.mono _ _ _ _) (fun _ => LeO.bind (chunk_lay.mono _ _ _ _) (fun _ => LeO.refl _)))
  · unfold chunk_first.f
    exact LeO.bind (chunk_lay.mono _ _ _ _) (fun _ => LeO.bind (chunk_lay.mono _ _ _ _) (fun _ => LeO.bind (chunk_lay.mono _ _ _ _) (fun _ => chunk_layParams.mono _ _ _)))
  · unfold chunk_sack.f
    exact LeO.bind (chunk_lay.mono _ _ _ _) (fun _ => LeO.bind (chunk_lay.mono _ _ _ _) (fun _ => LeO.bind (chunk_sackB.mono_l _ _ _ _) (fun _ => chunk_sackD.mono_l _ _ _ _)))
theorem chunk_Check.mono : ∀ b0 b1 b2 b3 b4 b5 b6 b7 b8 b9 b10 b11 b12 b13 k, LeO (chunk_Check.f k b0 b1 b2 b3 b4 b5 b6 b7 b8 b9 b10 b11 b12 b13) (chunk_Check.f (k + 1) b0 b1 b2 b3 b4 b5 b6 b7 b8 b9 b10 b11 b12 b13) := by
  intro b0 b1 b2 b3 b4 b5 b6 b7 b8 b9 b10 b11 b12 b13 k
  unfold chunk_Check.f
  exact LeO.bind (LeO.refl _) (fun _ => LeO.ite (LeO.refl _) (LeO.ite (LeO.refl _) (LeO.ite (LeO.refl _) (LeO.ite (LeO.refl _) (LeO.ite (LeO.refl _) (LeO.ite (LeO.refl _) (LeO.ite (LeO.refl _) (LeO.bind (chunk_value.mono _ _ _ _ _ _ _ _ _ _ _ _ _ _ _ _) (fun _ => LeO.refl _)))))))))
theorem chunk_bytes.mono : ∀ b0 b1 b2 b3 b4 b5 b6 b7 b8 b9 b10 b11 b12 b13 k, LeO (chunk_bytes.f k b0 b1 b2 b3 b4 b5 b6 b7 b8 b9 b10 b11 b12 b13) (chunk_bytes.f (k + 1) b0 b1 b2 b3 b4 b5 b6 b7 b8 b9 b10 b11 b12 b13) := by
  intro b0 b1 b2 b3 b4 b5 b6 b7 b8 b9 b10 b11 b12 b13 k
  unfold chunk_bytes.f
  exact LeO.bind (chunk_value.mono _ _ _ _ _ _ _ _ _ _ _ _ _ _ _ _) (fun _ => LeO.bind (octet_Set.mono _ _ _ _ _) (fun _ => LeO.refl _))
set_option maxRecDepth 100000 in
theorem chunk_Check.calls (k : Nat) (a0_0 : Int) (a0_1 : Int) (a0_2 : Int) (a0_3 : Int) (a0_4 : Int) (a0_5 : Int) (a0_6 : Int) (a0_7 : Int) (a0_8 : Int) (a0_9 : Int) (A0_10 : Option Addr) (c0_10 : Nat) (l0_10 : List (S101)) (A0_11 : Option Addr) (c0_11 : Nat) (l0_11 : List Int) (A0_12 : Option Addr) (c0_12 : Nat) (l0_12 : List (S48)) (A0_13 : Option Addr) (c0_13 : Nat) (l0_13 : List Int) (r : Int) (w : World) (hr0_10 : Kd.C k101 w A0_10 l0_10.length l0_10) (hc0_10 : l0_10.length ≤ c0_10) (hr0_11 : Kd.C (Kd.int .u32) w A0_11 l0_11.length l0_11) (hc0_11 : l0_11.length ≤ c0_11) (hr0_12 : Kd.C k48 w A0_12 l0_12.length l0_12) (hc0_12 : l0_12.length ≤ c0_12) (hr0_13 : Kd.C (Kd.int .u8) w A0_13 l0_13.length l0_13) (hc0_13 : l0_13.length ≤ c0_13) (h : chunk_Check.f k a0_0 a0_1 a0_2 a0_3 a0_4 a0_5 a0_6 a0_7 a0_8 a0_9 l0_10 l0_11 l0_12 l0_13 = some r) :
    Calls Try.prog 12 #[.agg #[.int .u8 a0_0, .int .u8 a0_1, .int .u32 a0_2, .int .u16 a0_3, .int .u16 a0_4, .int .u32 a0_5, .int .u32 a0_6, .int .u32 a0_7, .int .u16 a0_8, .int .u16 a0_9, .slice A0_10 l0_10.length c0_10, .slice A0_11 l0_11.length c0_11, .slice A0_12 l0_12.length c0_12, .slice A0_13 l0_13.length c0_13]] w fun e w' => e = .returned (.int .i64 r) ∧ Below w.heap.size w w' := by
  unfold chunk_Check.f at h
  obtain ⟨b, hb, h⟩ := Option.bind_eq_some_iff.mp h
  rcases ofT_cases a0_0 with hT | hT | hT | hT | hT | hT | hT
  · rw [likes_53 _ _ _ _ _ _ _ _ _ _ _ _ _ _ hT] at hb
    cases b with
    | false =>
      rw [if_pos rfl] at h
      obtain rfl := Option.some.inj h
      exact checkbad_53 k a0_0 a0_1 a0_2 a0_3 a0_4 a0_5 a0_6 a0_7 a0_8 a0_9 A0_10 A0_11 A0_12 A0_13 c0_10 c0_11 c0_12 c0_13 l0_10 l0_11 l0_12 l0_13 w hr0_10 hc0_10 hr0_11 hc0_11 hr0_12 hc0_12 hr0_13 hc0_13 hT hb
    | true =>
      rw [if_neg (by decide)] at h
      by_cases hz : l0_13.length = 0
      · rw [if_pos ⟨hT, hz⟩] at h
        obtain rfl := Option.some.inj h
        exact checknone_53 k a0_0 a0_1 a0_2 a0_3 a0_4 a0_5 a0_6 a0_7 a0_8 a0_9 A0_10 A0_11 A0_12 A0_13 c0_10 c0_11 c0_12 c0_13 l0_10 l0_11 l0_12 l0_13 w hr0_10 hc0_10 hr0_11 hc0_11 hr0_12 hc0_12 hr0_13 hc0_13 hT hb hz
      · rw [if_neg (fun hh => hz hh.2), value_53 _ _ _ _ _ _ _ _ _ _ _ _ _ _ _ _ hT] at h
        exact check_53 k a0_0 a0_1 a0_2 a0_3 a0_4 a0_5 a0_6 a0_7 a0_8 a0_9 A0_10 A0_11 A0_12 A0_13 c0_10 c0_11 c0_12 c0_13 l0_10 l0_11 l0_12 l0_13 w hr0_10 hc0_10 hr0_11 hc0_11 hr0_12 hc0_12 hr0_13 hc0_13 hT hb hz r h
  · rw [likes_80 _ _ _ _ _ _ _ _ _ _ _ _ _ _ hT] at hb
    cases b with
    | false =>
      rw [if_pos rfl] at h
      obtain rfl := Option.some.inj h
      exact checkbad_G 80 _ _ a0_0 a0_1 a0_2 a0_3 a0_4 a0_5 a0_6 a0_7 a0_8 a0_9 A0_10 A0_11 A0_12 A0_13 c0_10 c0_11 c0_12 c0_13 l0_10 l0_11 l0_12 l0_13 w hr0_10 hc0_10 hr0_11 hc0_11 hr0_12 hc0_12 hr0_13 hc0_13 kind_80 hT (fun w => plain_80 a0_0 a0_1 a0_2 a0_3 a0_4 a0_5 a0_6 a0_7 a0_8 a0_9 A0_10 A0_11 A0_12 A0_13 l0_10.length l0_11.length l0_12.length l0_13.length c0_10 c0_11 c0_12 c0_13 w hT) (fun w' hb' => chunk_alike.calls a0_0 a0_1 a0_2 a0_3 a0_4 a0_5 a0_6 a0_7 a0_8 a0_9 A0_10 c0_10 l0_10 A0_11 c0_11 l0_11 A0_12 c0_12 l0_12 A0_13 c0_13 l0_13 a0_0 a0_1 a0_2 0 0 0 a0_6 a0_7 a0_8 a0_9 none 0 [] none 0 [] A0_12 c0_12 l0_12 none 0 [] false w' (Kd.C_below hr0_10 hb') hc0_10 (Kd.C_below hr0_11 hb') hc0_11 (Kd.C_below hr0_12 hb') hc0_12 (Kd.C_below hr0_13 hb') hc0_13 ((Kd.R_reads' (Kd.R_nil k101 101 w' 0 (fun _ => True))).2.2) (Nat.le_refl 0) ((Kd.R_reads' (Kd.R_nil (Kd.int .u32) 22 w' 0 (fun _ => True))).2.2) (Nat.le_refl 0) (Kd.C_below hr0_12 hb') hc0_12 ((Kd.R_reads' (Kd.R_nil (Kd.int .u8) 5 w' 0 (fun _ => True))).2.2) (Nat.le_refl 0) hb)
    | true =>
      rw [if_neg (by decide)] at h
      rw [if_neg (fun hh => by rw [hT] at hh; exact absurd hh.1 (by decide)), value_80 _ _ _ _ _ _ _ _ _ _ _ _ _ _ _ _ hT] at h
      exact check_G 80 _ _ _ a0_0 a0_1 a0_2 a0_3 a0_4 a0_5 a0_6 a0_7 a0_8 a0_9 A0_10 A0_11 A0_12 A0_13 c0_10 c0_11 c0_12 c0_13 l0_10 l0_11 l0_12 l0_13 w hr0_10 hc0_10 hr0_11 hc0_11 hr0_12 hc0_12 hr0_13 hc0_13 kind_80 hT (fun w => plain_80 a0_0 a0_1 a0_2 a0_3 a0_4 a0_5 a0_6 a0_7 a0_8 a0_9 A0_10 A0_11 A0_12 A0_13 l0_10.length l0_11.length l0_12.length l0_13.length c0_10 c0_11 c0_12 c0_13 w hT) (fun w' hb' => chunk_alike.calls a0_0 a0_1 a0_2 a0_3 a0_4 a0_5 a0_6 a0_7 a0_8 a0_9 A0_10 c0_10 l0_10 A0_11 c0_11 l0_11 A0_12 c0_12 l0_12 A0_13 c0_13 l0_13 a0_0 a0_1 a0_2 0 0 0 a0_6 a0_7 a0_8 a0_9 none 0 [] none 0 [] A0_12 c0_12 l0_12 none 0 [] true w' (Kd.C_below hr0_10 hb') hc0_10 (Kd.C_below hr0_11 hb') hc0_11 (Kd.C_below hr0_12 hb') hc0_12 (Kd.C_below hr0_13 hb') hc0_13 ((Kd.R_reads' (Kd.R_nil k101 101 w' 0 (fun _ => True))).2.2) (Nat.le_refl 0) ((Kd.R_reads' (Kd.R_nil (Kd.int .u32) 22 w' 0 (fun _ => True))).2.2) (Nat.le_refl 0) (Kd.C_below hr0_12 hb') hc0_12 ((Kd.R_reads' (Kd.R_nil (Kd.int .u8) 5 w' 0 (fun _ => True))).2.2) (Nat.le_refl 0) hb) (fun b hv => (fun g w0 W hb' hx hW hh => lay80W k g a0_0 a0_1 a0_2 a0_3 a0_4 a0_5 a0_6 a0_7 a0_8 a0_9 A0_10 A0_11 A0_12 A0_13 c0_10 c0_11 c0_12 c0_13 l0_10 l0_11 l0_12 l0_13 b 0 0 0 0 w0 W hx hW hh (Kd.C_below hr0_10 hb') hc0_10 (Kd.C_below hr0_11 hb') hc0_11 (Kd.C_below hr0_12 hb') hc0_12 (Kd.C_below hr0_13 hb') hc0_13 hv)) r h
  · rw [likes_81 _ _ _ _ _ _ _ _ _ _ _ _ _ _ hT] at hb
    cases b with
    | false =>
      rw [if_pos rfl] at h
      obtain rfl := Option.some.inj h
      exact checkbad_G 81 _ _ a0_0 a0_1 a0_2 a0_3 a0_4 a0_5 a0_6 a0_7 a0_8 a0_9 A0_10 A0_11 A0_12 A0_13 c0_10 c0_11 c0_12 c0_13 l0_10 l0_11 l0_12 l0_13 w hr0_10 hc0_10 hr0_11 hc0_11 hr0_12 hc0_12 hr0_13 hc0_13 kind_81 hT (fun w => plain_81 a0_0 a0_1 a0_2 a0_3 a0_4 a0_5 a0_6 a0_7 a0_8 a0_9 A0_10 A0_11 A0_12 A0_13 l0_10.length l0_11.length l0_12.length l0_13.length c0_10 c0_11 c0_12 c0_13 w hT) (fun w' hb' => chunk_alike.calls a0_0 a0_1 a0_2 a0_3 a0_4 a0_5 a0_6 a0_7 a0_8 a0_9 A0_10 c0_10 l0_10 A0_11 c0_11 l0_11 A0_12 c0_12 l0_12 A0_13 c0_13 l0_13 a0_0 a0_1 a0_2 0 0 0 0 a0_7 0 0 A0_10 c0_10 l0_10 A0_11 c0_11 l0_11 none 0 [] none 0 [] false w' (Kd.C_below hr0_10 hb') hc0_10 (Kd.C_below hr0_11 hb') hc0_11 (Kd.C_below hr0_12 hb') hc0_12 (Kd.C_below hr0_13 hb') hc0_13 (Kd.C_below hr0_10 hb') hc0_10 (Kd.C_below hr0_11 hb') hc0_11 ((Kd.R_reads' (Kd.R_nil k48 48 w' 0 (fun _ => True))).2.2) (Nat.le_refl 0) ((Kd.R_reads' (Kd.R_nil (Kd.int .u8) 5 w' 0 (fun _ => True))).2.2) (Nat.le_refl 0) hb)
    | true =>
      rw [if_neg (by decide)] at h
      rw [if_neg (fun hh => by rw [hT] at hh; exact absurd hh.1 (by decide)), value_81 _ _ _ _ _ _ _ _ _ _ _ _ _ _ _ _ hT] at h
      exact check_G 81 _ _ _ a0_0 a0_1 a0_2 a0_3 a0_4 a0_5 a0_6 a0_7 a0_8 a0_9 A0_10 A0_11 A0_12 A0_13 c0_10 c0_11 c0_12 c0_13 l0_10 l0_11 l0_12 l0_13 w hr0_10 hc0_10 hr0_11 hc0_11 hr0_12 hc0_12 hr0_13 hc0_13 kind_81 hT (fun w => plain_81 a0_0 a0_1 a0_2 a0_3 a0_4 a0_5 a0_6 a0_7 a0_8 a0_9 A0_10 A0_11 A0_12 A0_13 l0_10.length l0_11.length l0_12.length l0_13.length c0_10 c0_11 c0_12 c0_13 w hT) (fun w' hb' => chunk_alike.calls a0_0 a0_1 a0_2 a0_3 a0_4 a0_5 a0_6 a0_7 a0_8 a0_9 A0_10 c0_10 l0_10 A0_11 c0_11 l0_11 A0_12 c0_12 l0_12 A0_13 c0_13 l0_13 a0_0 a0_1 a0_2 0 0 0 0 a0_7 0 0 A0_10 c0_10 l0_10 A0_11 c0_11 l0_11 none 0 [] none 0 [] true w' (Kd.C_below hr0_10 hb') hc0_10 (Kd.C_below hr0_11 hb') hc0_11 (Kd.C_below hr0_12 hb') hc0_12 (Kd.C_below hr0_13 hb') hc0_13 (Kd.C_below hr0_10 hb') hc0_10 (Kd.C_below hr0_11 hb') hc0_11 ((Kd.R_reads' (Kd.R_nil k48 48 w' 0 (fun _ => True))).2.2) (Nat.le_refl 0) ((Kd.R_reads' (Kd.R_nil (Kd.int .u8) 5 w' 0 (fun _ => True))).2.2) (Nat.le_refl 0) hb) (fun b hv => (fun g w0 W hb' hx hW hh => lay81W k g a0_0 a0_1 a0_2 a0_3 a0_4 a0_5 a0_6 a0_7 a0_8 a0_9 A0_10 A0_11 A0_12 A0_13 c0_10 c0_11 c0_12 c0_13 l0_10 l0_11 l0_12 l0_13 b 0 0 0 0 w0 W hx hW hh (Kd.C_below hr0_10 hb') hc0_10 (Kd.C_below hr0_11 hb') hc0_11 (Kd.C_below hr0_12 hb') hc0_12 (Kd.C_below hr0_13 hb') hc0_13 hv)) r h
  · rw [likes_82 _ _ _ _ _ _ _ _ _ _ _ _ _ _ hT] at hb
    cases b with
    | false =>
      rw [if_pos rfl] at h
      obtain rfl := Option.some.inj h
      exact checkbad_G 82 _ _ a0_0 a0_1 a0_2 a0_3 a0_4 a0_5 a0_6 a0_7 a0_8 a0_9 A0_10 A0_11 A0_12 A0_13 c0_10 c0_11 c0_12 c0_13 l0_10 l0_11 l0_12 l0_13 w hr0_10 hc0_10 hr0_11 hc0_11 hr0_12 hc0_12 hr0_13 hc0_13 kind_82 hT (fun w => plain_82 a0_0 a0_1 a0_2 a0_3 a0_4 a0_5 a0_6 a0_7 a0_8 a0_9 A0_10 A0_11 A0_12 A0_13 l0_10.length l0_11.length l0_12.length l0_13.length c0_10 c0_11 c0_12 c0_13 w hT) (fun w' hb' => chunk_alike.calls a0_0 a0_1 a0_2 a0_3 a0_4 a0_5 a0_6 a0_7 a0_8 a0_9 A0_10 c0_10 l0_10 A0_11 c0_11 l0_11 A0_12 c0_12 l0_12 A0_13 c0_13 l0_13 a0_0 a0_1 0 0 0 0 0 0 0 0 none 0 [] none 0 [] A0_12 c0_12 l0_12 none 0 [] false w' (Kd.C_below hr0_10 hb') hc0_10 (Kd.C_below hr0_11 hb') hc0_11 (Kd.C_below hr0_12 hb') hc0_12 (Kd.C_below hr0_13 hb') hc0_13 ((Kd.R_reads' (Kd.R_nil k101 101 w' 0 (fun _ => True))).2.2) (Nat.le_refl 0) ((Kd.R_reads' (Kd.R_nil (Kd.int .u32) 22 w' 0 (fun _ => True))).2.2) (Nat.le_refl 0) (Kd.C_below hr0_12 hb') hc0_12 ((Kd.R_reads' (Kd.R_nil (Kd.int .u8) 5 w' 0 (fun _ => True))).2.2) (Nat.le_refl 0) hb)
    | true =>
      rw [if_neg (by decide)] at h
      rw [if_neg (fun hh => by rw [hT] at hh; exact absurd hh.1 (by decide)), value_82 _ _ _ _ _ _ _ _ _ _ _ _ _ _ _ _ hT] at h
      exact check_G 82 _ _ _ a0_0 a0_1 a0_2 a0_3 a0_4 a0_5 a0_6 a0_7 a0_8 a0_9 A0_10 A0_11 A0_12 A0_13 c0_10 c0_11 c0_12 c0_13 l0_10 l0_11 l0_12 l0_13 w hr0_10 hc0_10 hr0_11 hc0_11 hr0_12 hc0_12 hr0_13 hc0_13 kind_82 hT (fun w => plain_82 a0_0 a0_1 a0_2 a0_3 a0_4 a0_5 a0_6 a0_7 a0_8 a0_9 A0_10 A0_11 A0_12 A0_13 l0_10.length l0_11.length l0_12.length l0_13.length c0_10 c0_11 c0_12 c0_13 w hT) (fun w' hb' => chunk_alike.calls a0_0 a0_1 a0_2 a0_3 a0_4 a0_5 a0_6 a0_7 a0_8 a0_9 A0_10 c0_10 l0_10 A0_11 c0_11 l0_11 A0_12 c0_12 l0_12 A0_13 c0_13 l0_13 a0_0 a0_1 0 0 0 0 0 0 0 0 none 0 [] none 0 [] A0_12 c0_12 l0_12 none 0 [] true w' (Kd.C_below hr0_10 hb') hc0_10 (Kd.C_below hr0_11 hb') hc0_11 (Kd.C_below hr0_12 hb') hc0_12 (Kd.C_below hr0_13 hb') hc0_13 ((Kd.R_reads' (Kd.R_nil k101 101 w' 0 (fun _ => True))).2.2) (Nat.le_refl 0) ((Kd.R_reads' (Kd.R_nil (Kd.int .u32) 22 w' 0 (fun _ => True))).2.2) (Nat.le_refl 0) (Kd.C_below hr0_12 hb') hc0_12 ((Kd.R_reads' (Kd.R_nil (Kd.int .u8) 5 w' 0 (fun _ => True))).2.2) (Nat.le_refl 0) hb) (fun b hv => (fun g w0 W hb' hx hW hh => lay82W k g a0_0 a0_1 a0_2 a0_3 a0_4 a0_5 a0_6 a0_7 a0_8 a0_9 A0_10 A0_11 A0_12 A0_13 c0_10 c0_11 c0_12 c0_13 l0_10 l0_11 l0_12 l0_13 b 0 0 0 0 w0 W hx hW hh (Kd.C_below hr0_10 hb') hc0_10 (Kd.C_below hr0_11 hb') hc0_11 (Kd.C_below hr0_12 hb') hc0_12 (Kd.C_below hr0_13 hb') hc0_13 hv)) r h
  · rw [likes_83 _ _ _ _ _ _ _ _ _ _ _ _ _ _ hT] at hb
    cases b with
    | false =>
      rw [if_pos rfl] at h
      obtain rfl := Option.some.inj h
      exact checkbad_G 83 _ _ a0_0 a0_1 a0_2 a0_3 a0_4 a0_5 a0_6 a0_7 a0_8 a0_9 A0_10 A0_11 A0_12 A0_13 c0_10 c0_11 c0_12 c0_13 l0_10 l0_11 l0_12 l0_13 w hr0_10 hc0_10 hr0_11 hc0_11 hr0_12 hc0_12 hr0_13 hc0_13 kind_83 hT (fun w => plain_83 a0_0 a0_1 a0_2 a0_3 a0_4 a0_5 a0_6 a0_7 a0_8 a0_9 A0_10 A0_11 A0_12 A0_13 l0_10.length l0_11.length l0_12.length l0_13.length c0_10 c0_11 c0_12 c0_13 w hT) (fun w' hb' => chunk_alike.calls a0_0 a0_1 a0_2 a0_3 a0_4 a0_5 a0_6 a0_7 a0_8 a0_9 A0_10 c0_10 l0_10 A0_11 c0_11 l0_11 A0_12 c0_12 l0_12 A0_13 c0_13 l0_13 a0_0 a0_1 a0_2 0 0 0 0 0 0 0 none 0 [] none 0 [] none 0 [] none 0 [] false w' (Kd.C_below hr0_10 hb') hc0_10 (Kd.C_below hr0_11 hb') hc0_11 (Kd.C_below hr0_12 hb') hc0_12 (Kd.C_below hr0_13 hb') hc0_13 ((Kd.R_reads' (Kd.R_nil k101 101 w' 0 (fun _ => True))).2.2) (Nat.le_refl 0) ((Kd.R_reads' (Kd.R_nil (Kd.int .u32) 22 w' 0 (fun _ => True))).2.2) (Nat.le_refl 0) ((Kd.R_reads' (Kd.R_nil k48 48 w' 0 (fun _ => True))).2.2) (Nat.le_refl 0) ((Kd.R_reads' (Kd.R_nil (Kd.int .u8) 5 w' 0 (fun _ => True))).2.2) (Nat.le_refl 0) hb)
    | true =>
      rw [if_neg (by decide)] at h
      rw [if_neg (fun hh => by rw [hT] at hh; exact absurd hh.1 (by decide)), value_83 _ _ _ _ _ _ _ _ _ _ _ _ _ _ _ _ hT] at h
      exact check_G 83 _ _ _ a0_0 a0_1 a0_2 a0_3 a0_4 a0_5 a0_6 a0_7 a0_8 a0_9 A0_10 A0_11 A0_12 A0_13 c0_10 c0_11 c0_12 c0_13 l0_10 l0_11 l0_12 l0_13 w hr0_10 hc0_10 hr0_11 hc0_11 hr0_12 hc0_12 hr0_13 hc0_13 kind_83 hT (fun w => plain_83 a0_0 a0_1 a0_2 a0_3 a0_4 a0_5 a0_6 a0_7 a0_8 a0_9 A0_10 A0_11 A0_12 A0_13 l0_10.length l0_11.length l0_12.length l0_13.length c0_10 c0_11 c0_12 c0_13 w hT) (fun w' hb' => chunk_alike.calls a0_0 a0_1 a0_2 a0_3 a0_4 a0_5 a0_6 a0_7 a0_8 a0_9 A0_10 c0_10 l0_10 A0_11 c0_11 l0_11 A0_12 c0_12 l0_12 A0_13 c0_13 l0_13 a0_0 a0_1 a0_2 0 0 0 0 0 0 0 none 0 [] none 0 [] none 0 [] none 0 [] true w' (Kd.C_below hr0_10 hb') hc0_10 (Kd.C_below hr0_11 hb') hc0_11 (Kd.C_below hr0_12 hb') hc0_12 (Kd.C_below hr0_13 hb') hc0_13 ((Kd.R_reads' (Kd.R_nil k101 101 w' 0 (fun _ => True))).2.2) (Nat.le_refl 0) ((Kd.R_reads' (Kd.R_nil (Kd.int .u32) 22 w' 0 (fun _ => True))).2.2) (Nat.le_refl 0) ((Kd.R_reads' (Kd.R_nil k48 48 w' 0 (fun _ => True))).2.2) (Nat.le_refl 0) ((Kd.R_reads' (Kd.R_nil (Kd.int .u8) 5 w' 0 (fun _ => True))).2.2) (Nat.le_refl 0) hb) (fun b hv => (fun g w0 W hb' hx hW hh => lay83W k g a0_0 a0_1 a0_2 a0_3 a0_4 a0_5 a0_6 a0_7 a0_8 a0_9 A0_10 A0_11 A0_12 A0_13 c0_10 c0_11 c0_12 c0_13 l0_10 l0_11 l0_12 l0_13 b 0 0 0 0 w0 W hx hW hh (Kd.C_below hr0_10 hb') hc0_10 (Kd.C_below hr0_11 hb') hc0_11 (Kd.C_below hr0_12 hb') hc0_12 (Kd.C_below hr0_13 hb') hc0_13 hv)) r h
  · rw [likes_84 _ _ _ _ _ _ _ _ _ _ _ _ _ _ hT] at hb
    cases b with
    | false =>
      rw [if_pos rfl] at h
      obtain rfl := Option.some.inj h
      exact checkbad_G 84 _ _ a0_0 a0_1 a0_2 a0_3 a0_4 a0_5 a0_6 a0_7 a0_8 a0_9 A0_10 A0_11 A0_12 A0_13 c0_10 c0_11 c0_12 c0_13 l0_10 l0_11 l0_12 l0_13 w hr0_10 hc0_10 hr0_11 hc0_11 hr0_12 hc0_12 hr0_13 hc0_13 kind_84 hT (fun w => plain_84 a0_0 a0_1 a0_2 a0_3 a0_4 a0_5 a0_6 a0_7 a0_8 a0_9 A0_10 A0_11 A0_12 A0_13 l0_10.length l0_11.length l0_12.length l0_13.length c0_10 c0_11 c0_12 c0_13 w hT) (fun w' hb' => chunk_alike.calls a0_0 a0_1 a0_2 a0_3 a0_4 a0_5 a0_6 a0_7 a0_8 a0_9 A0_10 c0_10 l0_10 A0_11 c0_11 l0_11 A0_12 c0_12 l0_12 A0_13 c0_13 l0_13 a0_0 a0_1 0 0 0 0 0 0 0 0 none 0 [] none 0 [] none 0 [] none 0 [] false w' (Kd.C_below hr0_10 hb') hc0_10 (Kd.C_below hr0_11 hb') hc0_11 (Kd.C_below hr0_12 hb') hc0_12 (Kd.C_below hr0_13 hb') hc0_13 ((Kd.R_reads' (Kd.R_nil k101 101 w' 0 (fun _ => True))).2.2) (Nat.le_refl 0) ((Kd.R_reads' (Kd.R_nil (Kd.int .u32) 22 w' 0 (fun _ => True))).2.2) (Nat.le_refl 0) ((Kd.R_reads' (Kd.R_nil k48 48 w' 0 (fun _ => True))).2.2) (Nat.le_refl 0) ((Kd.R_reads' (Kd.R_nil (Kd.int .u8) 5 w' 0 (fun _ => True))).2.2) (Nat.le_refl 0) hb)
    | true =>
      rw [if_neg (by decide)] at h
      rw [if_neg (fun hh => by rw [hT] at hh; exact absurd hh.1 (by decide)), value_84 _ _ _ _ _ _ _ _ _ _ _ _ _ _ _ _ hT] at h
      exact check_G 84 _ _ _ a0_0 a0_1 a0_2 a0_3 a0_4 a0_5 a0_6 a0_7 a0_8 a0_9 A0_10 A0_11 A0_12 A0_13 c0_10 c0_11 c0_12 c0_13 l0_10 l0_11 l0_12 l0_13 w hr0_10 hc0_10 hr0_11 hc0_11 hr0_12 hc0_12 hr0_13 hc0_13 kind_84 hT (fun w => plain_84 a0_0 a0_1 a0_2 a0_3 a0_4 a0_5 a0_6 a0_7 a0_8 a0_9 A0_10 A0_11 A0_12 A0_13 l0_10.length l0_11.length l0_12.length l0_13.length c0_10 c0_11 c0_12 c0_13 w hT) (fun w' hb' => chunk_alike.calls a0_0 a0_1 a0_2 a0_3 a0_4 a0_5 a0_6 a0_7 a0_8 a0_9 A0_10 c0_10 l0_10 A0_11 c0_11 l0_11 A0_12 c0_12 l0_12 A0_13 c0_13 l0_13 a0_0 a0_1 0 0 0 0 0 0 0 0 none 0 [] none 0 [] none 0 [] none 0 [] true w' (Kd.C_below hr0_10 hb') hc0_10 (Kd.C_below hr0_11 hb') hc0_11 (Kd.C_below hr0_12 hb') hc0_12 (Kd.C_below hr0_13 hb') hc0_13 ((Kd.R_reads' (Kd.R_nil k101 101 w' 0 (fun _ => True))).2.2) (Nat.le_refl 0) ((Kd.R_reads' (Kd.R_nil (Kd.int .u32) 22 w' 0 (fun _ => True))).2.2) (Nat.le_refl 0) ((Kd.R_reads' (Kd.R_nil k48 48 w' 0 (fun _ => True))).2.2) (Nat.le_refl 0) ((Kd.R_reads' (Kd.R_nil (Kd.int .u8) 5 w' 0 (fun _ => True))).2.2) (Nat.le_refl 0) hb) (fun b hv => (fun g w0 W hb' hx hW hh => lay84W k g a0_0 a0_1 a0_2 a0_3 a0_4 a0_5 a0_6 a0_7 a0_8 a0_9 A0_10 A0_11 A0_12 A0_13 c0_10 c0_11 c0_12 c0_13 l0_10 l0_11 l0_12 l0_13 b 0 0 0 0 w0 W hx hW hh (Kd.C_below hr0_10 hb') hc0_10 (Kd.C_below hr0_11 hb') hc0_11 (Kd.C_below hr0_12 hb') hc0_12 (Kd.C_below hr0_13 hb') hc0_13 hv)) r h
  · rw [likes_85 _ _ _ _ _ _ _ _ _ _ _ _ _ _ hT] at hb
    cases b with
    | false =>
      rw [if_pos rfl] at h
      obtain rfl := Option.some.inj h
      exact checkbad_G 85 _ _ a0_0 a0_1 a0_2 a0_3 a0_4 a0_5 a0_6 a0_7 a0_8 a0_9 A0_10 A0_11 A0_12 A0_13 c0_10 c0_11 c0_12 c0_13 l0_10 l0_11 l0_12 l0_13 w hr0_10 hc0_10 hr0_11 hc0_11 hr0_12 hc0_12 hr0_13 hc0_13 kind_85 hT (fun w => plain_85 a0_0 a0_1 a0_2 a0_3 a0_4 a0_5 a0_6 a0_7 a0_8 a0_9 A0_10 A0_11 A0_12 A0_13 l0_10.length l0_11.length l0_12.length l0_13.length c0_10 c0_11 c0_12 c0_13 w hT) (fun w' hb' => chunk_alike.calls a0_0 a0_1 a0_2 a0_3 a0_4 a0_5 a0_6 a0_7 a0_8 a0_9 A0_10 c0_10 l0_10 A0_11 c0_11 l0_11 A0_12 c0_12 l0_12 A0_13 c0_13 l0_13 a0_0 a0_1 0 0 0 0 0 0 0 0 none 0 [] none 0 [] none 0 [] A0_13 c0_13 l0_13 false w' (Kd.C_below hr0_10 hb') hc0_10 (Kd.C_below hr0_11 hb') hc0_11 (Kd.C_below hr0_12 hb') hc0_12 (Kd.C_below hr0_13 hb') hc0_13 ((Kd.R_reads' (Kd.R_nil k101 101 w' 0 (fun _ => True))).2.2) (Nat.le_refl 0) ((Kd.R_reads' (Kd.R_nil (Kd.int .u32) 22 w' 0 (fun _ => True))).2.2) (Nat.le_refl 0) ((Kd.R_reads' (Kd.R_nil k48 48 w' 0 (fun _ => True))).2.2) (Nat.le_refl 0) (Kd.C_below hr0_13 hb') hc0_13 hb)
    | true =>
      rw [if_neg (by decide)] at h
      rw [if_neg (fun hh => by rw [hT] at hh; exact absurd hh.1 (by decide)), value_85 _ _ _ _ _ _ _ _ _ _ _ _ _ _ _ _ hT] at h
      exact check_G 85 _ _ _ a0_0 a0_1 a0_2 a0_3 a0_4 a0_5 a0_6 a0_7 a0_8 a0_9 A0_10 A0_11 A0_12 A0_13 c0_10 c0_11 c0_12 c0_13 l0_10 l0_11 l0_12 l0_13 w hr0_10 hc0_10 hr0_11 hc0_11 hr0_12 hc0_12 hr0_13 hc0_13 kind_85 hT (fun w => plain_85 a0_0 a0_1 a0_2 a0_3 a0_4 a0_5 a0_6 a0_7 a0_8 a0_9 A0_10 A0_11 A0_12 A0_13 l0_10.length l0_11.length l0_12.length l0_13.length c0_10 c0_11 c0_12 c0_13 w hT) (fun w' hb' => chunk_alike.calls a0_0 a0_1 a0_2 a0_3 a0_4 a0_5 a0_6 a0_7 a0_8 a0_9 A0_10 c0_10 l0_10 A0_11 c0_11 l0_11 A0_12 c0_12 l0_12 A0_13 c0_13 l0_13 a0_0 a0_1 0 0 0 0 0 0 0 0 none 0 [] none 0 [] none 0 [] A0_13 c0_13 l0_13 true w' (Kd.C_below hr0_10 hb') hc0_10 (Kd.C_below hr0_11 hb') hc0_11 (Kd.C_below hr0_12 hb') hc0_12 (Kd.C_below hr0_13 hb') hc0_13 ((Kd.R_reads' (Kd.R_nil k101 101 w' 0 (fun _ => True))).2.2) (Nat.le_refl 0) ((Kd.R_reads' (Kd.R_nil (Kd.int .u32) 22 w' 0 (fun _ => True))).2.2) (Nat.le_refl 0) ((Kd.R_reads' (Kd.R_nil k48 48 w' 0 (fun _ => True))).2.2) (Nat.le_refl 0) (Kd.C_below hr0_13 hb') hc0_13 hb) (fun b hv => (fun g w0 W hb' hx hW hh => lay85W k g a0_0 a0_1 a0_2 a0_3 a0_4 a0_5 a0_6 a0_7 a0_8 a0_9 A0_10 A0_11 A0_12 A0_13 c0_10 c0_11 c0_12 c0_13 l0_10 l0_11 l0_12 l0_13 b 0 0 0 0 w0 W hx hW hh (Kd.C_below hr0_10 hb') hc0_10 (Kd.C_below hr0_11 hb') hc0_11 (Kd.C_below hr0_12 hb') hc0_12 (Kd.C_below hr0_13 hb') hc0_13 hv)) r h
set_option maxRecDepth 100000 in
theorem chunk_bytes.calls (k : Nat) (a0_0 : Int) (a0_1 : Int) (a0_2 : Int) (a0_3 : Int) (a0_4 : Int) (a0_5 : Int) (a0_6 : Int) (a0_7 : Int) (a0_8 : Int) (a0_9 : Int) (A0_10 : Option Addr) (c0_10 : Nat) (l0_10 : List (S101)) (A0_11 : Option Addr) (c0_11 : Nat) (l0_11 : List Int) (A0_12 : Option Addr) (c0_12 : Nat) (l0_12 : List (S48)) (A0_13 : Option Addr) (c0_13 : Nat) (l0_13 : List Int) (r : List Int) (w : World) (hr0_10 : Kd.C k101 w A0_10 l0_10.length l0_10) (hc0_10 : l0_10.length ≤ c0_10) (hr0_11 : Kd.C (Kd.int .u32) w A0_11 l0_11.length l0_11) (hc0_11 : l0_11.length ≤ c0_11) (hr0_12 : Kd.C k48 w A0_12 l0_12.length l0_12) (hc0_12 : l0_12.length ≤ c0_12) (hr0_13 : Kd.C (Kd.int .u8) w A0_13 l0_13.length l0_13) (hc0_13 : l0_13.length ≤ c0_13) (h : chunk_bytes.f k a0_0 a0_1 a0_2 a0_3 a0_4 a0_5 a0_6 a0_7 a0_8 a0_9 l0_10 l0_11 l0_12 l0_13 = some r) :
    Calls Try.prog 31 #[.agg #[.int .u8 a0_0, .int .u8 a0_1, .int .u32 a0_2, .int .u16 a0_3, .int .u16 a0_4, .int .u32 a0_5, .int .u32 a0_6, .int .u32 a0_7, .int .u16 a0_8, .int .u16 a0_9, .slice A0_10 l0_10.length c0_10, .slice A0_11 l0_11.length c0_11, .slice A0_12 l0_12.length c0_12, .slice A0_13 l0_13.length c0_13]] w fun e w' => ∃ v0_ : Value, e = .returned (v0_) ∧ Kd.R (Kd.int .u8) 5 w' w.heap.size (fun _ => True) v0_ r ∧ Below w.heap.size w w' := by
  unfold chunk_bytes.f at h
  obtain ⟨b, hb, h⟩ := Option.bind_eq_some_iff.mp h
  obtain ⟨⟨q1, q2⟩, hq, h⟩ := Option.bind_eq_some_iff.mp h
  obtain rfl : q1 = r := Option.some.inj h
  rcases ofT_cases a0_0 with hT | hT | hT | hT | hT | hT | hT
  · rw [value_53 _ _ _ _ _ _ _ _ _ _ _ _ _ _ _ _ hT] at hb
    exact bytes_G k 53 89 a0_0 a0_1 a0_2 a0_3 a0_4 a0_5 a0_6 a0_7 a0_8 a0_9 A0_10 A0_11 A0_12 A0_13 c0_10 c0_11 c0_12 c0_13 l0_10 l0_11 l0_12 l0_13 b q1 q2 w hr0_10 hc0_10 hr0_11 hc0_11 hr0_12 hc0_12 hr0_13 hc0_13 ml_53 na_53 (fun _ _ => by kernel_rfl) hT (have hv := hb; (fun g w0 W hb' hx hW hh => lay53W k g a0_0 a0_1 a0_2 a0_3 a0_4 a0_5 a0_6 a0_7 a0_8 a0_9 A0_10 A0_11 A0_12 A0_13 c0_10 c0_11 c0_12 c0_13 l0_10 l0_11 l0_12 l0_13 b a0_0 a0_1 0 0 w0 W hx hW hh (Kd.C_below hr0_10 hb') hc0_10 (Kd.C_below hr0_11 hb') hc0_11 (Kd.C_below hr0_12 hb') hc0_12 (Kd.C_below hr0_13 hb') hc0_13 hv)) hq
  · rw [value_80 _ _ _ _ _ _ _ _ _ _ _ _ _ _ _ _ hT] at hb
    exact bytes_G k 80 93 a0_0 a0_1 a0_2 a0_3 a0_4 a0_5 a0_6 a0_7 a0_8 a0_9 A0_10 A0_11 A0_12 A0_13 c0_10 c0_11 c0_12 c0_13 l0_10 l0_11 l0_12 l0_13 b q1 q2 w hr0_10 hc0_10 hr0_11 hc0_11 hr0_12 hc0_12 hr0_13 hc0_13 kind_80.ml_ kind_80.na_ kind_80.cf_ hT (have hv := hb; (fun g w0 W hb' hx hW hh => lay80W k g a0_0 a0_1 a0_2 a0_3 a0_4 a0_5 a0_6 a0_7 a0_8 a0_9 A0_10 A0_11 A0_12 A0_13 c0_10 c0_11 c0_12 c0_13 l0_10 l0_11 l0_12 l0_13 b a0_0 a0_1 0 0 w0 W hx hW hh (Kd.C_below hr0_10 hb') hc0_10 (Kd.C_below hr0_11 hb') hc0_11 (Kd.C_below hr0_12 hb') hc0_12 (Kd.C_below hr0_13 hb') hc0_13 hv)) hq
  · rw [value_81 _ _ _ _ _ _ _ _ _ _ _ _ _ _ _ _ hT] at hb
    exact bytes_G k 81 97 a0_0 a0_1 a0_2 a0_3 a0_4 a0_5 a0_6 a0_7 a0_8 a0_9 A0_10 A0_11 A0_12 A0_13 c0_10 c0_11 c0_12 c0_13 l0_10 l0_11 l0_12 l0_13 b q1 q2 w hr0_10 hc0_10 hr0_11 hc0_11 hr0_12 hc0_12 hr0_13 hc0_13 kind_81.ml_ kind_81.na_ kind_81.cf_ hT (have hv := hb; (fun g w0 W hb' hx hW hh => lay81W k g a0_0 a0_1 a0_2 a0_3 a0_4 a0_5 a0_6 a0_7 a0_8 a0_9 A0_10 A0_11 A0_12 A0_13 c0_10 c0_11 c0_12 c0_13 l0_10 l0_11 l0_12 l0_13 b a0_0 a0_1 0 0 w0 W hx hW hh (Kd.C_below hr0_10 hb') hc0_10 (Kd.C_below hr0_11 hb') hc0_11 (Kd.C_below hr0_12 hb') hc0_12 (Kd.C_below hr0_13 hb') hc0_13 hv)) hq
  · rw [value_82 _ _ _ _ _ _ _ _ _ _ _ _ _ _ _ _ hT] at hb
    exact bytes_G k 82 99 a0_0 a0_1 a0_2 a0_3 a0_4 a0_5 a0_6 a0_7 a0_8 a0_9 A0_10 A0_11 A0_12 A0_13 c0_10 c0_11 c0_12 c0_13 l0_10 l0_11 l0_12 l0_13 b q1 q2 w hr0_10 hc0_10 hr0_11 hc0_11 hr0_12 hc0_12 hr0_13 hc0_13 kind_82.ml_ kind_82.na_ kind_82.cf_ hT (have hv := hb; (fun g w0 W hb' hx hW hh => lay82W k g a0_0 a0_1 a0_2 a0_3 a0_4 a0_5 a0_6 a0_7 a0_8 a0_9 A0_10 A0_11 A0_12 A0_13 c0_10 c0_11 c0_12 c0_13 l0_10 l0_11 l0_12 l0_13 b a0_0 a0_1 0 0 w0 W hx hW hh (Kd.C_below hr0_10 hb') hc0_10 (Kd.C_below hr0_11 hb') hc0_11 (Kd.C_below hr0_12 hb') hc0_12 (Kd.C_below hr0_13 hb') hc0_13 hv)) hq
  · rw [value_83 _ _ _ _ _ _ _ _ _ _ _ _ _ _ _ _ hT] at hb
    exact bytes_G k 83 101 a0_0 a0_1 a0_2 a0_3 a0_4 a0_5 a0_6 a0_7 a0_8 a0_9 A0_10 A0_11 A0_12 A0_13 c0_10 c0_11 c0_12 c0_13 l0_10 l0_11 l0_12 l0_13 b q1 q2 w hr0_10 hc0_10 hr0_11 hc0_11 hr0_12 hc0_12 hr0_13 hc0_13 kind_83.ml_ kind_83.na_ kind_83.cf_ hT (have hv := hb; (fun g w0 W hb' hx hW hh => lay83W k g a0_0 a0_1 a0_2 a0_3 a0_4 a0_5 a0_6 a0_7 a0_8 a0_9 A0_10 A0_11 A0_12 A0_13 c0_10 c0_11 c0_12 c0_13 l0_10 l0_11 l0_12 l0_13 b a0_0 a0_1 0 0 w0 W hx hW hh (Kd.C_below hr0_10 hb') hc0_10 (Kd.C_below hr0_11 hb') hc0_11 (Kd.C_below hr0_12 hb') hc0_12 (Kd.C_below hr0_13 hb') hc0_13 hv)) hq
  · rw [value_84 _ _ _ _ _ _ _ _ _ _ _ _ _ _ _ _ hT] at hb
    exact bytes_G k 84 103 a0_0 a0_1 a0_2 a0_3 a0_4 a0_5 a0_6 a0_7 a0_8 a0_9 A0_10 A0_11 A0_12 A0_13 c0_10 c0_11 c0_12 c0_13 l0_10 l0_11 l0_12 l0_13 b q1 q2 w hr0_10 hc0_10 hr0_11 hc0_11 hr0_12 hc0_12 hr0_13 hc0_13 kind_84.ml_ kind_84.na_ kind_84.cf_ hT (have hv := hb; (fun g w0 W hb' hx hW hh => lay84W k g a0_0 a0_1 a0_2 a0_3 a0_4 a0_5 a0_6 a0_7 a0_8 a0_9 A0_10 A0_11 A0_12 A0_13 c0_10 c0_11 c0_12 c0_13 l0_10 l0_11 l0_12 l0_13 b a0_0 a0_1 0 0 w0 W hx hW hh (Kd.C_below hr0_10 hb') hc0_10 (Kd.C_below hr0_11 hb') hc0_11 (Kd.C_below hr0_12 hb') hc0_12 (Kd.C_below hr0_13 hb') hc0_13 hv)) hq
  · rw [value_85 _ _ _ _ _ _ _ _ _ _ _ _ _ _ _ _ hT] at hb
    exact bytes_G k 85 105 a0_0 a0_1 a0_2 a0_3 a0_4 a0_5 a0_6 a0_7 a0_8 a0_9 A0_10 A0_11 A0_12 A0_13 c0_10 c0_11 c0_12 c0_13 l0_10 l0_11 l0_12 l0_13 b q1 q2 w hr0_10 hc0_10 hr0_11 hc0_11 hr0_12 hc0_12 hr0_13 hc0_13 kind_85.ml_ kind_85.na_ kind_85.cf_ hT (have hv := hb; (fun g w0 W hb' hx hW hh => lay85W k g a0_0 a0_1 a0_2 a0_3 a0_4 a0_5 a0_6 a0_7 a0_8 a0_9 A0_10 A0_11 A0_12 A0_13 c0_10 c0_11 c0_12 c0_13 l0_10 l0_11 l0_12 l0_13 b a0_0 a0_1 0 0 w0 W hx hW hh (Kd.C_below hr0_10 hb') hc0_10 (Kd.C_below hr0_11 hb') hc0_11 (Kd.C_below hr0_12 hb') hc0_12 (Kd.C_below hr0_13 hb') hc0_13 hv)) hq
end Go.Proofs.Ytaahkggbjpdofaa.M
