/- ChunkChecks: the document's Check and Size; the plain law. -/
import Derived.Test.YtaahkggbjpdofaaPChunkC
import Derived.Test.YtaahkggbjpdofaaM29
import Derived.Test.YtaahkggbjpdofaaPChunkLive
namespace Go.Proofs.Ytaahkggbjpdofaa.Pure
open Go.RowKit Go.Proofs.Ytaahkggbjpdofaa.M Go.Proofs.YtaahkggbjpdofaaW.PrintWords Go.Proofs.YtaahkggbjpdofaaW.PrintLast Go.Proofs.YtaahkggbjpdofaaW.PrintMore
set_option linter.unusedVariables false
set_option linter.unusedSimpArgs false

theorem rck_ok (t a1 a2 a3 a4 a5 a6 a7 a8 a9 : Int) (l10 : List S101) (l11 : List Int) (l12 : List S48) (l13 : List Int) (h : Fit t a1 a2 a3 a4 a5 a6 a7 a8 a9 l10 l11 l12 l13) : ∀ (n i k : Nat), i + n = l12.length → trunklineref12_Check.l0 (k + n + 70) (i : Int) t a1 a2 a3 a4 a5 a6 a7 a8 a9 l10 l11 l12 l13 = some (if 1468 < 4 + (valV t a1 a2 a3 a4 a5 a6 a7 a8 a9 l10 l11 l12 l13).length then 6 else 0)
  | 0, i, k, hi => by
    have hb := byV_len t a1 a2 a3 a4 a5 a6 a7 a8 a9 l10 l11 l12 l13 h
    rw [show k + 0 + 70 = k + 69 + 1 by omega, trunklineref12_Check.l0, if_neg (by omega), rbytes_v t a1 a2 a3 a4 a5 a6 a7 a8 a9 l10 l11 l12 l13 h (k + 69) (by omega), Option.bind_some]
    by_cases h1 : 1468 < 4 + (valV t a1 a2 a3 a4 a5 a6 a7 a8 a9 l10 l11 l12 l13).length
    · rw [if_pos (by omega), if_pos h1]
    · rw [if_neg (by omega), if_neg h1]
  | n + 1, i, k, hi => by
    have hlt : i < l12.length := by omega
    have hm := (h.e12 l12[i] (List.getElem_mem hlt)).2
    have n12 := h.n12
    rw [show k + (n + 1) + 70 = (k + n + 70) + 1 by omega, trunklineref12_Check.l0, if_pos (by omega), if_pos (by omega), rd48_at l12 i hlt, if_neg (by omega), w64 (x := (i : Int) + 1) (by omega) (by omega), show ((i : Int) + 1) = ((i + 1 : Nat) : Int) by omega]
    exact rck_ok t a1 a2 a3 a4 a5 a6 a7 a8 a9 l10 l11 l12 l13 h n (i + 1) k (by omega)
theorem rck_bad (t a1 a2 a3 a4 a5 a6 a7 a8 a9 : Int) (l10 : List S101) (l11 : List Int) (l12 : List S48) (l13 : List Int) (hn : l12.length ≤ 16) : ∀ (n i k : Nat), i + n = l12.length → ((l12.drop i).any fun p => decide (1480 < p.f1.length)) = true → trunklineref12_Check.l0 (k + n + 70) (i : Int) t a1 a2 a3 a4 a5 a6 a7 a8 a9 l10 l11 l12 l13 = some 6
  | 0, i, k, hi, ha => by
    rw [List.drop_eq_nil_of_le (by omega)] at ha
    cases ha
  | n + 1, i, k, hi, ha => by
    have hlt : i < l12.length := by omega
    rw [show k + (n + 1) + 70 = (k + n + 70) + 1 by omega, trunklineref12_Check.l0, if_pos (by omega), if_pos (by omega), rd48_at l12 i hlt]
    by_cases h1 : 1480 < l12[i].f1.length
    · rw [if_pos (by omega)]
    · rw [if_neg (by omega), w64 (x := (i : Int) + 1) (by omega) (by omega), show ((i : Int) + 1) = ((i + 1 : Nat) : Int) by omega]
      refine rck_bad t a1 a2 a3 a4 a5 a6 a7 a8 a9 l10 l11 l12 l13 hn n (i + 1) k (by omega) ?_
      rw [drop_cons l12 i hlt, List.any_cons, decide_eq_false h1, Bool.false_or] at ha
      exact ha
theorem rck_j1 (t a1 a2 a3 a4 a5 a6 a7 a8 a9 : Int) (l10 : List S101) (l11 : List Int) (l12 : List S48) (l13 : List Int) (h : Wf t a1 a2 a3 a4 a5 a6 a7 a8 a9 l10 l11 l12 l13) (k : Nat) (hk : 100 ≤ k) (n12 : ¬ 16 < l12.length) (n10 : ¬ 16 < l10.length) (n11 : ¬ 16 < l11.length) (n13 : ¬ 1480 < l13.length) :
    trunklineref12_Check.l0 k 0 t a1 a2 a3 a4 a5 a6 a7 a8 a9 l10 l11 l12 l13 = some (if (l12.any fun p => decide (1480 < p.f1.length)) = true then 6 else if 1468 < 4 + (valV t a1 a2 a3 a4 a5 a6 a7 a8 a9 l10 l11 l12 l13).length then 6 else 0) := by
  obtain ⟨m, rfl⟩ : ∃ m, k = m + l12.length + 70 := ⟨k - l12.length - 70, by omega⟩
  by_cases ha : (l12.any fun p => decide (1480 < p.f1.length)) = true
  · rw [if_pos ha]
    exact rck_bad t a1 a2 a3 a4 a5 a6 a7 a8 a9 l10 l11 l12 l13 (by omega) l12.length 0 m (by omega) (by rw [List.drop_zero]; exact ha)
  · rw [if_neg ha]
    exact rck_ok t a1 a2 a3 a4 a5 a6 a7 a8 a9 l10 l11 l12 l13 (h.fit _ _ _ _ _ _ _ _ _ _ _ _ _ _ n12 n10 n11 n13 ha) l12.length 0 m (by omega)
theorem rcheck_v (t a1 a2 a3 a4 a5 a6 a7 a8 a9 : Int) (l10 : List S101) (l11 : List Int) (l12 : List S48) (l13 : List Int) (h : Wf t a1 a2 a3 a4 a5 a6 a7 a8 a9 l10 l11 l12 l13) (k : Nat) (hk : 110 ≤ k) : trunklineref12_Check.f k t a1 a2 a3 a4 a5 a6 a7 a8 a9 l10 l11 l12 l13 = some (ckV t a1 a2 a3 a4 a5 a6 a7 a8 a9 l10 l11 l12 l13) := by
  obtain ⟨m, rfl⟩ : ∃ m, k = m + 2 := ⟨k - 2, by omega⟩
  have hj : ∀ b : Bool, trunklineref12_Check.j0 (m + 2) b t a1 a2 a3 a4 a5 a6 a7 a8 a9 l10 l11 l12 l13 = some (if b = true then 2 else if 16 < l12.length then 6 else if 16 < l10.length then 6 else if 16 < l11.length then 6 else if 1480 < l13.length then 6 else if (l12.any fun p => decide (1480 < p.f1.length)) = true then 6 else if 1468 < 4 + (valV t a1 a2 a3 a4 a5 a6 a7 a8 a9 l10 l11 l12 l13).length then 6 else 0) := by
    intro b
    rw [trunklineref12_Check.j0]
    by_cases hb : b = true
    · rw [if_pos hb, if_pos hb]
    rw [if_neg hb, if_neg hb]
    by_cases h12 : 16 < l12.length
    · rw [if_pos (by omega), if_pos h12, trunklineref12_Check.j1, if_pos rfl]
    rw [if_neg (by omega), if_neg h12]
    by_cases h10 : 16 < l10.length
    · rw [if_pos (by omega), if_pos h10, trunklineref12_Check.j1, if_pos rfl]
    rw [if_neg (by omega), if_neg h10]
    by_cases h11 : 16 < l11.length
    · rw [if_pos (by omega), if_pos h11, trunklineref12_Check.j1, if_pos rfl]
    rw [if_neg (by omega), if_neg h11, trunklineref12_Check.j1]
    by_cases h13 : 1480 < l13.length
    · rw [if_pos (decide_eq_true (by omega)), if_pos h13]
    rw [if_neg (by rw [decide_eq_false (by omega)]; exact Bool.false_ne_true), if_neg h13]
    exact rck_j1 t a1 a2 a3 a4 a5 a6 a7 a8 a9 l10 l11 l12 l13 h m (by omega) h12 h10 h11 h13
  unfold trunklineref12_Check.f trunklineref12_odd.f ckV
  rw [Option.bind_some]
  by_cases ho : oddB t a1 a2 a3 a4 a5 a6 a7 a8 a9 l10 l11 l12 l13
  · rw [if_pos (decide_eq_true ho), if_pos ho, hj, if_pos rfl]
  rw [if_neg (by rw [decide_eq_false ho]; exact Bool.false_ne_true), if_neg ho]
  by_cases h0 : t = 0
  · rw [if_pos h0, hj]
    by_cases hz : l13.length = 0
    · rw [if_pos (beq_iff_eq.mpr (by omega)), if_pos ⟨h0, hz⟩]
    · rw [if_neg (by rw [beq_iff_eq]; omega), if_neg (c := t = 0 ∧ l13.length = 0) (fun hh => hz hh.2)]
  · rw [if_neg h0, hj, if_neg Bool.false_ne_true, if_neg (c := t = 0 ∧ l13.length = 0) (fun hh => h0 hh.1)]
theorem rsize_v (t a1 a2 a3 a4 a5 a6 a7 a8 a9 : Int) (l10 : List S101) (l11 : List Int) (l12 : List S48) (l13 : List Int) (h : Wf t a1 a2 a3 a4 a5 a6 a7 a8 a9 l10 l11 l12 l13) (k : Nat) (hk : 110 ≤ k) : trunklineref12_Size.f k t a1 a2 a3 a4 a5 a6 a7 a8 a9 l10 l11 l12 l13 = some (szV t a1 a2 a3 a4 a5 a6 a7 a8 a9 l10 l11 l12 l13) := by
  unfold trunklineref12_Size.f szV
  rw [rcheck_v t a1 a2 a3 a4 a5 a6 a7 a8 a9 l10 l11 l12 l13 h k hk, Option.bind_some]
  by_cases h0 : ckV t a1 a2 a3 a4 a5 a6 a7 a8 a9 l10 l11 l12 l13 = 0
  · rw [if_pos h0, if_pos h0, rbytes_v t a1 a2 a3 a4 a5 a6 a7 a8 a9 l10 l11 l12 l13 (fit_of_ok t a1 a2 a3 a4 a5 a6 a7 a8 a9 l10 l11 l12 l13 h h0) k (by omega), Option.bind_some]
  · rw [if_neg h0, if_neg h0]
theorem ChunkChecks : trunklinelaw12_ChunkChecks.Pure := by
  intro t a1 a2 a3 a4 a5 a6 a7 a8 a9 l10 l11 l12 l13 w0 w1 w2 w3 w4 w5 w6 w7 w8 w9 m10 s10 o10 m11 s11 o11 m12 s12 o12 m13 s13 o13
  have h : Wf t a1 a2 a3 a4 a5 a6 a7 a8 a9 l10 l11 l12 l13 := ⟨wf_u8 w0, wf_u8 w1, wf_u32 w2, wf_u16 w3, wf_u16 w4, wf_u32 w5, wf_u32 w6, wf_u32 w7, wf_u16 w8, wf_u16 w9, fun p hp => ⟨wf_u16 (o10 p hp).1, wf_u16 (o10 p hp).2⟩, fun p hp => wf_u32 (o11 p hp), fun p hp => wf_u16 (o12 p hp).1⟩
  refine ⟨120, ?_⟩
  unfold trunklinelaw12_ChunkChecks.f
  rw [live_f (k := 120) (by omega), Option.bind_some, if_pos rfl, check_v t a1 a2 a3 a4 a5 a6 a7 a8 a9 l10 l11 l12 l13 h 120 (by omega), Option.bind_some, rcheck_v t a1 a2 a3 a4 a5 a6 a7 a8 a9 l10 l11 l12 l13 h 120 (by omega), Option.bind_some, if_pos rfl, size_v t a1 a2 a3 a4 a5 a6 a7 a8 a9 l10 l11 l12 l13 h 120 (by omega), Option.bind_some, rsize_v t a1 a2 a3 a4 a5 a6 a7 a8 a9 l10 l11 l12 l13 h 120 (by omega), Option.bind_some]
  exact congrArg some (beq_self_eq_true _)
end Go.Proofs.Ytaahkggbjpdofaa.Pure
