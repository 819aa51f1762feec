/- Which chunks may be: the program's Check and the document's, in plain Lean. -/
import Derived.Test.YtaahkggbjpdofaaPChunkW
import Derived.Test.YtaahkggbjpdofaaHGiven
import Derived.Test.YtaahkggbjpdofaaHOddF
import Derived.Test.YtaahkggbjpdofaaM26
import Derived.Test.YtaahkggbjpdofaaM10
import Derived.Test.YtaahkggbjpdofaaM7
namespace Go.Proofs.Ytaahkggbjpdofaa.Pure
open Go.RowKit Go.Proofs.Ytaahkggbjpdofaa.M Go.Proofs.YtaahkggbjpdofaaW.PrintWords Go.Proofs.YtaahkggbjpdofaaW.PrintLast Go.Proofs.YtaahkggbjpdofaaW.PrintMore
set_option linter.unusedVariables false
set_option linter.unusedSimpArgs false

theorem alike_f (t a1 a2 a3 a4 a5 a6 a7 a8 a9 : Int) (l10 : List S101) (l11 : List Int) (l12 : List S48) (l13 : List Int) (u b1 b2 b3 b4 b5 b6 b7 b8 b9 : Int) (m10 : List S101) (m11 : List Int) (m12 : List S48) (m13 : List Int) :
    chunk_alike.f t a1 a2 a3 a4 a5 a6 a7 a8 a9 l10 l11 l12 l13 u b1 b2 b3 b4 b5 b6 b7 b8 b9 m10 m11 m12 m13 = some (decide (a2 = b2 ∧ a3 = b3 ∧ a4 = b4 ∧ a5 = b5 ∧ a6 = b6 ∧ a7 = b7 ∧ a8 = b8 ∧ a9 = b9 ∧ l10.length = m10.length ∧ l11.length = m11.length ∧ l12.length = m12.length ∧ l13.length = m13.length)) := by
  unfold chunk_alike.f
  by_cases h2 : a2 = b2
  case neg => rw [if_neg h2]; exact congrArg some (decide_eq_false (fun h => h2 h.1)).symm
  by_cases h3 : a3 = b3
  case neg => rw [if_pos h2, if_neg h3]; exact congrArg some (decide_eq_false (fun h => h3 h.2.1)).symm
  by_cases h4 : a4 = b4
  case neg => rw [if_pos h2, if_pos h3, if_neg h4]; exact congrArg some (decide_eq_false (fun h => h4 h.2.2.1)).symm
  by_cases h5 : a5 = b5
  case neg => rw [if_pos h2, if_pos h3, if_pos h4, if_neg h5]; exact congrArg some (decide_eq_false (fun h => h5 h.2.2.2.1)).symm
  by_cases h6 : a6 = b6
  case neg => rw [if_pos h2, if_pos h3, if_pos h4, if_pos h5, if_neg h6]; exact congrArg some (decide_eq_false (fun h => h6 h.2.2.2.2.1)).symm
  by_cases h7 : a7 = b7
  case neg => rw [if_pos h2, if_pos h3, if_pos h4, if_pos h5, if_pos h6, if_neg h7]; exact congrArg some (decide_eq_false (fun h => h7 h.2.2.2.2.2.1)).symm
  by_cases h8 : a8 = b8
  case neg => rw [if_pos h2, if_pos h3, if_pos h4, if_pos h5, if_pos h6, if_pos h7, if_neg h8]; exact congrArg some (decide_eq_false (fun h => h8 h.2.2.2.2.2.2.1)).symm
  by_cases h9 : a9 = b9
  case neg => rw [if_pos h2, if_pos h3, if_pos h4, if_pos h5, if_pos h6, if_pos h7, if_pos h8, if_neg h9]; exact congrArg some (decide_eq_false (fun h => h9 h.2.2.2.2.2.2.2.1)).symm
  rw [if_pos h2, if_pos h3, if_pos h4, if_pos h5, if_pos h6, if_pos h7, if_pos h8, if_pos h9]
  by_cases e10 : l10.length = m10.length
  case neg => rw [if_neg (by omega)]; exact congrArg some (decide_eq_false (fun h => e10 h.2.2.2.2.2.2.2.2.1)).symm
  by_cases e11 : l11.length = m11.length
  case neg => rw [if_pos (by omega), if_neg (by omega)]; exact congrArg some (decide_eq_false (fun h => e11 h.2.2.2.2.2.2.2.2.2.1)).symm
  by_cases e12 : l12.length = m12.length
  case neg => rw [if_pos (by omega), if_pos (by omega), if_neg (by omega)]; exact congrArg some (decide_eq_false (fun h => e12 h.2.2.2.2.2.2.2.2.2.2.1)).symm
  rw [if_pos (by omega), if_pos (by omega), if_pos (by omega)]
  refine congrArg some ?_
  by_cases e13 : l13.length = m13.length
  · rw [decide_eq_true ⟨h2, h3, h4, h5, h6, h7, h8, h9, e10, e11, e12, e13⟩, e13]
    exact beq_self_eq_true _
  · rw [decide_eq_false (fun h => e13 h.2.2.2.2.2.2.2.2.2.2.2)]
    exact beq_eq_false_iff_ne.mpr (by omega)
theorem ofT_is (t : Int) (h0 : 0 ≤ t ∧ t ≤ 255) : (ofT t = 53 ∧ t = 0) ∨ (ofT t = 80 ∧ (t = 1 ∨ t = 2)) ∨ (ofT t = 81 ∧ t = 3) ∨ (ofT t = 82 ∧ (t = 4 ∨ t = 5 ∨ t = 6 ∨ t = 9)) ∨ (ofT t = 83 ∧ t = 7) ∨ (ofT t = 84 ∧ (t = 8 ∨ t = 11 ∨ t = 14)) ∨ (ofT t = 85 ∧ (t = 10 ∨ t = 12 ∨ t = 13 ∨ 14 < t)) := by
  unfold ofT
  by_cases e0 : t = 0
  · rw [if_pos e0]; exact .inl ⟨rfl, e0⟩
  rw [if_neg e0]
  by_cases e1 : t = 1 ∨ t = 2
  · rw [if_pos e1]; exact .inr (.inl ⟨rfl, e1⟩)
  rw [if_neg e1]
  by_cases e3 : t = 3
  · rw [if_pos e3]; exact .inr (.inr (.inl ⟨rfl, e3⟩))
  rw [if_neg e3]
  by_cases e4 : t = 4 ∨ t = 5 ∨ t = 6 ∨ t = 9
  · rw [if_pos e4]; exact .inr (.inr (.inr (.inl ⟨rfl, e4⟩)))
  rw [if_neg e4]
  by_cases e7 : t = 7
  · rw [if_pos e7]; exact .inr (.inr (.inr (.inr (.inl ⟨rfl, e7⟩))))
  rw [if_neg e7]
  by_cases e8 : t = 8 ∨ t = 11 ∨ t = 14
  · rw [if_pos e8]; exact .inr (.inr (.inr (.inr (.inr (.inl ⟨rfl, e8⟩)))))
  rw [if_neg e8]
  exact .inr (.inr (.inr (.inr (.inr (.inr ⟨rfl, by omega⟩)))))
theorem likes_f (t a1 a2 a3 a4 a5 a6 a7 a8 a9 : Int) (l10 : List S101) (l11 : List Int) (l12 : List S48) (l13 : List Int) (h0 : 0 ≤ t ∧ t ≤ 255) :
    chunk_likes.f t a1 a2 a3 a4 a5 a6 a7 a8 a9 l10 l11 l12 l13 = some (decide (¬ oddB t a1 a2 a3 a4 a5 a6 a7 a8 a9 l10 l11 l12 l13)) := by
  rcases ofT_is t h0 with ⟨hT, ht⟩ | ⟨hT, ht⟩ | ⟨hT, ht⟩ | ⟨hT, ht⟩ | ⟨hT, ht⟩ | ⟨hT, ht⟩ | ⟨hT, ht⟩
  · rw [likes_53 _ _ _ _ _ _ _ _ _ _ _ _ _ _ hT, alike_f]
    refine congrArg some (decide_eq_decide.mpr ?_)
    unfold oddB
    simp only [List.length_nil, true_and, and_true]
    first | omega | (constructor <;> intro h <;> (try simp only [not_or, not_and, Classical.not_not] at h ⊢) <;> omega) | (constructor <;> intro h <;> simp_all <;> omega)
  · rw [likes_80 _ _ _ _ _ _ _ _ _ _ _ _ _ _ hT, alike_f]
    refine congrArg some (decide_eq_decide.mpr ?_)
    unfold oddB
    simp only [List.length_nil, true_and, and_true]
    first | omega | (constructor <;> intro h <;> (try simp only [not_or, not_and, Classical.not_not] at h ⊢) <;> omega) | (constructor <;> intro h <;> simp_all <;> omega)
  · rw [likes_81 _ _ _ _ _ _ _ _ _ _ _ _ _ _ hT, alike_f]
    refine congrArg some (decide_eq_decide.mpr ?_)
    unfold oddB
    simp only [List.length_nil, true_and, and_true]
    first | omega | (constructor <;> intro h <;> (try simp only [not_or, not_and, Classical.not_not] at h ⊢) <;> omega) | (constructor <;> intro h <;> simp_all <;> omega)
  · rw [likes_82 _ _ _ _ _ _ _ _ _ _ _ _ _ _ hT, alike_f]
    refine congrArg some (decide_eq_decide.mpr ?_)
    unfold oddB
    simp only [List.length_nil, true_and, and_true]
    first | omega | (constructor <;> intro h <;> (try simp only [not_or, not_and, Classical.not_not] at h ⊢) <;> omega) | (constructor <;> intro h <;> simp_all <;> omega)
  · rw [likes_83 _ _ _ _ _ _ _ _ _ _ _ _ _ _ hT, alike_f]
    refine congrArg some (decide_eq_decide.mpr ?_)
    unfold oddB
    simp only [List.length_nil, true_and, and_true]
    first | omega | (constructor <;> intro h <;> (try simp only [not_or, not_and, Classical.not_not] at h ⊢) <;> omega) | (constructor <;> intro h <;> simp_all <;> omega)
  · rw [likes_84 _ _ _ _ _ _ _ _ _ _ _ _ _ _ hT, alike_f]
    refine congrArg some (decide_eq_decide.mpr ?_)
    unfold oddB
    simp only [List.length_nil, true_and, and_true]
    first | omega | (constructor <;> intro h <;> (try simp only [not_or, not_and, Classical.not_not] at h ⊢) <;> omega) | (constructor <;> intro h <;> simp_all <;> omega)
  · rw [likes_85 _ _ _ _ _ _ _ _ _ _ _ _ _ _ hT, alike_f]
    refine congrArg some (decide_eq_decide.mpr ?_)
    unfold oddB
    simp only [List.length_nil, true_and, and_true]
    first | omega | (constructor <;> intro h <;> (try simp only [not_or, not_and, Classical.not_not] at h ⊢) <;> omega) | (constructor <;> intro h <;> simp_all <;> omega)
theorem parV_len : ∀ (l : List S48) (b : List Int), (∀ p ∈ l, p.f1.length ≤ 1480) → (parV b l).length ≤ b.length + l.length * 1500
  | [], b, h => by simp [parV]
  | p :: ps, b, h => by
    have hp := pad4_len b
    have h1 := nb_le p.f0 2
    have h2 := nb_le (4 + (p.f1.length : Int)) 2
    have h3 := h p (by simp)
    have ih := parV_len ps (pad4 b ++ nb p.f0 2 ++ nb (4 + (p.f1.length : Int)) 2 ++ p.f1) (fun q hq => h q (by simp [hq]))
    simp only [List.length_append, List.length_cons] at ih ⊢
    rw [parV]
    omega
theorem dupV_len : ∀ (l : List Int) (b : List Int), (dupV b l).length ≤ b.length + l.length * 8
  | [], b => by simp [dupV]
  | p :: ps, b => by
    have h := dupV_len ps (b ++ nb p 4)
    have h1 := nb_le p 4
    simp only [List.length_append, List.length_cons] at h ⊢
    rw [dupV]
    omega
theorem valV_len (t a1 a2 a3 a4 a5 a6 a7 a8 a9 : Int) (l10 : List S101) (l11 : List Int) (l12 : List S48) (l13 : List Int) (h : Fit t a1 a2 a3 a4 a5 a6 a7 a8 a9 l10 l11 l12 l13) : (valV t a1 a2 a3 a4 a5 a6 a7 a8 a9 l10 l11 l12 l13).length ≤ 40000 := by
  have n10 := h.n10
  have n11 := h.n11
  have n12 := h.n12
  have n13 := h.n13
  have q2 := nb_le a2 4
  have q3 := nb_le a3 2
  have q4 := nb_le a4 2
  have q5 := nb_le a5 4
  have q7 := nb_le a7 4
  have q10 := nb_le (l10.length : Int) 2
  have q11 := nb_le (l11.length : Int) 2
  have hf := firstV_len h.b2 h.b6 h.b7 h.b8 h.b9
  have p1 := parV_len l12 (firstV a2 a6 a7 a8 a9) (fun p hp => (h.e12 p hp).2)
  have p2 := parV_len l12 [] (fun p hp => (h.e12 p hp).2)
  have hs : (sackV a2 a7 l10 l11).length ≤ 32 := by unfold sackV; simp only [List.length_append]; omega
  have p3 := blkV_len l10 (sackV a2 a7 l10 l11)
  have p4 := dupV_len l11 (blkV (sackV a2 a7 l10 l11) l10)
  rw [List.length_nil] at p2
  unfold valV
  split
  · simp only [List.length_append]; omega
  split
  · omega
  split
  · omega
  split
  · omega
  split
  · omega
  split
  · simp
  omega
theorem rby_l0 : ∀ (d k : Nat) (b : List Int), (4 - b.length % 4) % 4 = d → b.length ≤ 1000000 → trunklineref12_Bytes.l0 (k + d + 1) b = some (b ++ List.replicate d 0)
  | 0, k, b, h, hl => by
    rw [trunklineref12_Bytes.l0, if_pos (by omega)]
    simp
  | d + 1, k, b, h, hl => by
    rw [show k + (d + 1) + 1 = (k + d + 1) + 1 by omega, trunklineref12_Bytes.l0, if_neg (by omega), if_pos (by omega), rby_l0 d k (b ++ [0]) (by rw [List.length_append]; show (4 - (b.length + 1) % 4) % 4 = d; omega) (by rw [List.length_append]; show b.length + 1 ≤ 1000000; omega)]
    rw [List.append_assoc]
    rfl
theorem rby_4 (k : Nat) (b : List Int) (hk : 20 ≤ k) (h : b.length ≤ 900000) : trunklineref12_Bytes.l0 k b = some (pad4 b) := by
  have hd : (4 - b.length % 4) % 4 ≤ 3 := by omega
  obtain ⟨m, rfl⟩ : ∃ m, k = m + (4 - b.length % 4) % 4 + 1 := ⟨k - (4 - b.length % 4) % 4 - 1, by omega⟩
  rw [rby_l0 _ m b rfl (by omega)]
  rfl
/-- A chunk's bytes, padded. -/
def byV (t a1 a2 a3 a4 a5 a6 a7 a8 a9 : Int) (l10 : List S101) (l11 : List Int) (l12 : List S48) (l13 : List Int) : List Int := pad4 ([t, a1] ++ nb (4 + ((valV t a1 a2 a3 a4 a5 a6 a7 a8 a9 l10 l11 l12 l13).length : Int)) 2 ++ valV t a1 a2 a3 a4 a5 a6 a7 a8 a9 l10 l11 l12 l13)
theorem rbytes_v (t a1 a2 a3 a4 a5 a6 a7 a8 a9 : Int) (l10 : List S101) (l11 : List Int) (l12 : List S48) (l13 : List Int) (h : Fit t a1 a2 a3 a4 a5 a6 a7 a8 a9 l10 l11 l12 l13) (k : Nat) (hk : 60 ≤ k) : trunklineref12_Bytes.f k t a1 a2 a3 a4 a5 a6 a7 a8 a9 l10 l11 l12 l13 = some (byV t a1 a2 a3 a4 a5 a6 a7 a8 a9 l10 l11 l12 l13) := by
  have hv := valV_len t a1 a2 a3 a4 a5 a6 a7 a8 a9 l10 l11 l12 l13 h
  have hn := nb_le (4 + ((valV t a1 a2 a3 a4 a5 a6 a7 a8 a9 l10 l11 l12 l13).length : Int)) 2
  unfold trunklineref12_Bytes.f byV
  rw [rvalue_v t a1 a2 a3 a4 a5 a6 a7 a8 a9 l10 l11 l12 l13 h k hk, Option.bind_some, w64 (x := 4 + ((valV t a1 a2 a3 a4 a5 a6 a7 a8 a9 l10 l11 l12 l13).length : Int)) (by omega) (by omega), mod32 (x := 4 + ((valV t a1 a2 a3 a4 a5 a6 a7 a8 a9 l10 l11 l12 l13).length : Int)) (by omega) (by omega),
    rlay_1 k [t, a1] 2 _ (by omega) (by decide) (by decide) (by omega) (by omega) (by show 2 ≤ 1000000; decide), Option.bind_some, if_pos (by rw [List.length_append]; show 2 + _ + _ < _; omega),
    rby_4 k _ (by omega) (by simp only [List.length_append]; show 2 + _ + _ ≤ _; omega)]
theorem byV_len (t a1 a2 a3 a4 a5 a6 a7 a8 a9 : Int) (l10 : List S101) (l11 : List Int) (l12 : List S48) (l13 : List Int) (h : Fit t a1 a2 a3 a4 a5 a6 a7 a8 a9 l10 l11 l12 l13) : (byV t a1 a2 a3 a4 a5 a6 a7 a8 a9 l10 l11 l12 l13).length = 4 + (valV t a1 a2 a3 a4 a5 a6 a7 a8 a9 l10 l11 l12 l13).length + (4 - (4 + (valV t a1 a2 a3 a4 a5 a6 a7 a8 a9 l10 l11 l12 l13).length) % 4) % 4 := by
  have hv := valV_len t a1 a2 a3 a4 a5 a6 a7 a8 a9 l10 l11 l12 l13 h
  unfold byV pad4
  simp only [List.length_append, List.length_replicate]
  rw [nb2 (v := 4 + ((valV t a1 a2 a3 a4 a5 a6 a7 a8 a9 l10 l11 l12 l13).length : Int)) (by omega) (by omega)]
  show 2 + 2 + _ + _ = _
  try rfl
/-- What is wrong with a chunk. -/
def ckV (t a1 a2 a3 a4 a5 a6 a7 a8 a9 : Int) (l10 : List S101) (l11 : List Int) (l12 : List S48) (l13 : List Int) : Int :=
  if oddB t a1 a2 a3 a4 a5 a6 a7 a8 a9 l10 l11 l12 l13 then 2 else if t = 0 ∧ l13.length = 0 then 2 else if 16 < l12.length then 6 else if 16 < l10.length then 6 else if 16 < l11.length then 6 else if 1480 < l13.length then 6 else if (l12.any fun p => decide (1480 < p.f1.length)) = true then 6 else if 1468 < 4 + (valV t a1 a2 a3 a4 a5 a6 a7 a8 a9 l10 l11 l12 l13).length then 6 else 0
/-- The fields' ranges. -/
structure Wf (t a1 a2 a3 a4 a5 a6 a7 a8 a9 : Int) (l10 : List S101) (l11 : List Int) (l12 : List S48) (l13 : List Int) : Prop where
  t0 : 0 ≤ t ∧ t ≤ 255
  b1 : 0 ≤ a1 ∧ a1 ≤ 255
  b2 : 0 ≤ a2 ∧ a2 ≤ 4294967295
  b3 : 0 ≤ a3 ∧ a3 ≤ 65535
  b4 : 0 ≤ a4 ∧ a4 ≤ 65535
  b5 : 0 ≤ a5 ∧ a5 ≤ 4294967295
  b6 : 0 ≤ a6 ∧ a6 ≤ 4294967295
  b7 : 0 ≤ a7 ∧ a7 ≤ 4294967295
  b8 : 0 ≤ a8 ∧ a8 ≤ 65535
  b9 : 0 ≤ a9 ∧ a9 ≤ 65535
  e10 : ∀ p ∈ l10, (0 ≤ p.f0 ∧ p.f0 ≤ 65535) ∧ (0 ≤ p.f1 ∧ p.f1 ≤ 65535)
  e11 : ∀ p ∈ l11, 0 ≤ p ∧ p ≤ 4294967295
  e12 : ∀ p ∈ l12, 0 ≤ p.f0 ∧ p.f0 ≤ 65535
theorem Wf.fit (t a1 a2 a3 a4 a5 a6 a7 a8 a9 : Int) (l10 : List S101) (l11 : List Int) (l12 : List S48) (l13 : List Int) (h : Wf t a1 a2 a3 a4 a5 a6 a7 a8 a9 l10 l11 l12 l13) (n12 : ¬ 16 < l12.length) (n10 : ¬ 16 < l10.length) (n11 : ¬ 16 < l11.length) (n13 : ¬ 1480 < l13.length) (ha : ¬ (l12.any fun p => decide (1480 < p.f1.length)) = true) : Fit t a1 a2 a3 a4 a5 a6 a7 a8 a9 l10 l11 l12 l13 :=
  ⟨h.t0, h.b1, h.b2, h.b3, h.b4, h.b5, h.b6, h.b7, h.b8, h.b9, by omega, by omega, by omega, by omega, h.e10, h.e11, fun p hp => ⟨h.e12 p hp, by
    by_cases hq : 1480 < p.f1.length
    · exact absurd (List.any_eq_true.2 ⟨p, hp, decide_eq_true hq⟩) ha
    · omega⟩⟩
theorem check_v (t a1 a2 a3 a4 a5 a6 a7 a8 a9 : Int) (l10 : List S101) (l11 : List Int) (l12 : List S48) (l13 : List Int) (h : Wf t a1 a2 a3 a4 a5 a6 a7 a8 a9 l10 l11 l12 l13) (k : Nat) (hk : 60 ≤ k) : chunk_Check.f k t a1 a2 a3 a4 a5 a6 a7 a8 a9 l10 l11 l12 l13 = some (ckV t a1 a2 a3 a4 a5 a6 a7 a8 a9 l10 l11 l12 l13) := by
  unfold chunk_Check.f ckV
  rw [likes_f t a1 a2 a3 a4 a5 a6 a7 a8 a9 l10 l11 l12 l13 h.t0, Option.bind_some]
  by_cases ho : oddB t a1 a2 a3 a4 a5 a6 a7 a8 a9 l10 l11 l12 l13
  · rw [if_pos (decide_eq_false (fun hn => hn ho)), if_pos ho]
  rw [if_neg (by rw [decide_eq_true ho]; decide), if_neg ho]
  have hT : (ofT t = 53 ∧ l13.length = 0) ↔ (t = 0 ∧ l13.length = 0) := by
    rcases ofT_is t h.t0 with hh | hh | hh | hh | hh | hh | hh <;> omega
  by_cases h0 : t = 0 ∧ l13.length = 0
  · rw [if_pos (hT.mpr h0), if_pos h0]
  rw [if_neg (fun hh => h0 (hT.mp hh)), if_neg h0]
  by_cases h12 : 16 < l12.length
  · rw [if_pos h12, if_pos h12]
  rw [if_neg h12, if_neg h12]
  by_cases h10 : 16 < l10.length
  · rw [if_pos h10, if_pos h10]
  rw [if_neg h10, if_neg h10]
  by_cases h11 : 16 < l11.length
  · rw [if_pos h11, if_pos h11]
  rw [if_neg h11, if_neg h11]
  by_cases h13 : 1480 < l13.length
  · rw [if_pos h13, if_pos h13]
  rw [if_neg h13, if_neg h13]
  by_cases ha : (l12.any fun p => decide (1480 < p.f1.length)) = true
  · rw [if_pos ha, if_pos ha]
  rw [if_neg ha, if_neg ha, value_v t a1 a2 a3 a4 a5 a6 a7 a8 a9 l10 l11 l12 l13 (h.fit _ _ _ _ _ _ _ _ _ _ _ _ _ _ h12 h10 h11 h13 ha) k [0, 0, 0, 0] hk rfl, Option.bind_some, List.length_append]
  show (if 1468 < 4 + (valV t a1 a2 a3 a4 a5 a6 a7 a8 a9 l10 l11 l12 l13).length then some 6 else some 0) = _
  split <;> rfl
theorem num_l0 (xs : List Int) (hb : ∀ x ∈ xs, 0 ≤ x ∧ x ≤ 255) (hl : xs.length ≤ 8) : ∀ (d i k : Nat) (v : Int), i + d = xs.length → 0 ≤ v → v < 256 ^ i →
    octet_Num.l0 (k + d + 1) v xs (xs.length : Int) (i : Int) = some (numL v (xs.drop i), 0)
  | 0, i, k, v, hi, h0, h1 => by
    have : i = xs.length := by omega
    subst this
    simp [octet_Num.l0, numL]
  | d + 1, i, k, v, hi, h0, h1 => by
    have hi' : i < xs.length := by omega
    have p := pow256' i (by omega)
    have hx := hb xs[i] (List.getElem_mem hi')
    rw [show k + (d + 1) + 1 = (k + d + 1) + 1 by omega, octet_Num.l0]
    rw [if_pos (by omega), if_pos (by omega), if_pos (by omega), rd_get xs i hi', or8 v _ h0 (by omega) hx.1 hx.2, w64 (by omega) (by omega)]
    have ih := num_l0 xs hb hl d (i + 1) k (v * 256 + xs[i]) (by omega) (by omega) (by rw [Int.pow_succ]; omega)
    rw [show ((i : Int) + 1) = ((i + 1 : Nat) : Int) by omega, ih]
    rw [List.drop_eq_getElem_cons hi', numL]

theorem room_ev (l : List Int) (a n : Int) (hl : (l.length : Int) ≤ 9223372036854775807) (ha : (Lit.int .i64 a).wf = true) : ∀ k, octet_room.f (k + 1) l a n = some (if a < 0 ∨ a > l.length ∨ n < 0 then 2 else if n > l.length - a then 3 else 0) := by
  intro k
  unfold octet_room.f
  have j : ∀ b, octet_room.j0 (k + 1) l a n b = if b = true then some 2 else if n > wrap64 (l.length - a) then some 3 else some 0 := fun b => rfl
  by_cases h1 : a < 0
  · rw [if_pos h1, j, if_pos rfl, if_pos (Or.inl h1)]
  · rw [if_neg h1]
    by_cases h2 : a > l.length
    · rw [if_pos h2, j, if_pos rfl, if_pos (Or.inr (Or.inl h2))]
    · rw [if_neg h2, j]
      by_cases h3 : n < 0
      · rw [if_pos (by simpa using h3), if_pos (Or.inr (Or.inr h3))]
      · rw [if_neg (by simpa using h3), w64 (by omega) (by omega), if_neg (c := a < 0 ∨ a > l.length ∨ n < 0) (by omega)]
        split <;> rfl

theorem num_22 (a b : Int) (V : List Int) (hV : V.length ≤ 1000000) {k : Nat} (hk : 9 ≤ k) : octet_Num.f k (a :: b :: 0 :: 0 :: V) 2 2 = some (0, 0) := by
  refine up_ (octet_Num.mono _ 2 2) hk ?_
  unfold octet_Num.f octet_wide.f
  have hl : (a :: b :: 0 :: 0 :: V).length = V.length + 4 := rfl
  have hr : (if (2 : Int) < 0 ∨ (2 : Int) > ((a :: b :: 0 :: 0 :: V).length : Int) ∨ (2 : Int) < 0 then (2 : Int) else if (2 : Int) > ((a :: b :: 0 :: 0 :: V).length : Int) - 2 then 3 else 0) = 0 := by rw [hl, if_neg (by omega), if_neg (by omega)]
  rw [room_ev _ 2 2 (by rw [hl]; omega) (by decide) 8, if_pos (by decide), show decide ((2 : Int) ≤ 8) = true by decide]
  simp only [Option.bind_some, if_true]
  rw [hr, if_pos rfl, if_pos (by decide), w64 (x := 2 + 2) (by decide) (by decide), if_pos (by decide), if_pos (by rw [hl]; omega)]
  exact num_l0 [0, 0] (fun x hx => by simp at hx; omega) (by decide) 2 0 6 0 (by decide) (by decide) (by decide)
theorem set_r (a b : Int) (V : List Int) (hV : V.length ≤ 60000) {k : Nat} (hk : 20 ≤ k) : octet_Set.f k (a :: b :: 0 :: 0 :: V) 2 (4 + (V.length : Int)) 2 = some ([a, b] ++ nb (4 + (V.length : Int)) 2 ++ V, 0) := by
  have h2 := nb2 (v := 4 + (V.length : Int)) (by omega) (by omega)
  have hs : (bytesS (4 + (V.length : Int)) 2).2 = 0 := by
    unfold bytesS
    rw [if_pos (by decide), show (2 : Int).toNat = 2 from rfl, if_neg (by rw [show (256 : Int) ^ 2 = 65536 by decide]; omega)]
  have hl : (a :: b :: 0 :: 0 :: V).length = V.length + 4 := rfl
  unfold octet_Set.f
  rw [num_22 a b V (by omega) (by omega), Option.bind_some, if_pos rfl, bytes_f _ 2 (by omega) (by omega) (n_wf 2 (by decide) (by decide)) (by omega), Option.bind_some, if_pos hs, if_pos ⟨by decide, by decide, by rw [hl]; omega, by unfold nb at h2; rw [h2]; rfl, by rw [hl]; omega⟩]
  rfl
/-- A chunk's bytes, without padding. -/
theorem bytes_v (t a1 a2 a3 a4 a5 a6 a7 a8 a9 : Int) (l10 : List S101) (l11 : List Int) (l12 : List S48) (l13 : List Int) (h : Fit t a1 a2 a3 a4 a5 a6 a7 a8 a9 l10 l11 l12 l13) (k : Nat) (hk : 60 ≤ k) : chunk_bytes.f k t a1 a2 a3 a4 a5 a6 a7 a8 a9 l10 l11 l12 l13 = some ([t, a1] ++ nb (4 + ((valV t a1 a2 a3 a4 a5 a6 a7 a8 a9 l10 l11 l12 l13).length : Int)) 2 ++ valV t a1 a2 a3 a4 a5 a6 a7 a8 a9 l10 l11 l12 l13) := by
  have hv := valV_len t a1 a2 a3 a4 a5 a6 a7 a8 a9 l10 l11 l12 l13 h
  unfold chunk_bytes.f
  rw [value_v t a1 a2 a3 a4 a5 a6 a7 a8 a9 l10 l11 l12 l13 h k [t, a1, 0, 0] hk rfl, Option.bind_some]
  have hl : ([t, a1, 0, 0] ++ valV t a1 a2 a3 a4 a5 a6 a7 a8 a9 l10 l11 l12 l13).length = 4 + (valV t a1 a2 a3 a4 a5 a6 a7 a8 a9 l10 l11 l12 l13).length := by rw [List.length_append]; rfl
  rw [hl, wrapu (x := ((4 + (valV t a1 a2 a3 a4 a5 a6 a7 a8 a9 l10 l11 l12 l13).length : Nat) : Int)) (by omega) (by omega), show ((4 + (valV t a1 a2 a3 a4 a5 a6 a7 a8 a9 l10 l11 l12 l13).length : Nat) : Int) = 4 + ((valV t a1 a2 a3 a4 a5 a6 a7 a8 a9 l10 l11 l12 l13).length : Int) by omega]
  show (octet_Set.f k (t :: a1 :: 0 :: 0 :: valV t a1 a2 a3 a4 a5 a6 a7 a8 a9 l10 l11 l12 l13) 2 _ 2).bind _ = _
  rw [set_r t a1 _ (by omega) (by omega), Option.bind_some]
theorem padded_f (n : Int) (h0 : 0 ≤ n) (h1 : n ≤ 1000000) : chunk_padded.f n = some ((n + 3) / 4 * 4) := by
  unfold chunk_padded.f
  rw [w64 (x := n + 3) (by omega) (by omega), Int.tdiv_eq_ediv_of_nonneg (by omega), w64 (x := (n + 3) / 4) (by omega) (by omega), w64 (x := (n + 3) / 4 * 4) (by omega) (by omega)]
theorem fit_of_ok (t a1 a2 a3 a4 a5 a6 a7 a8 a9 : Int) (l10 : List S101) (l11 : List Int) (l12 : List S48) (l13 : List Int) (h : Wf t a1 a2 a3 a4 a5 a6 a7 a8 a9 l10 l11 l12 l13) (h0 : ckV t a1 a2 a3 a4 a5 a6 a7 a8 a9 l10 l11 l12 l13 = 0) : Fit t a1 a2 a3 a4 a5 a6 a7 a8 a9 l10 l11 l12 l13 := by
  unfold ckV at h0
  split at h0
  · cases h0
  split at h0
  · cases h0
  split at h0
  · cases h0
  rename_i n12
  split at h0
  · cases h0
  rename_i n10
  split at h0
  · cases h0
  rename_i n11
  split at h0
  · cases h0
  rename_i n13
  split at h0
  · cases h0
  rename_i na
  exact h.fit _ _ _ _ _ _ _ _ _ _ _ _ _ _ n12 n10 n11 n13 na
/-- How many bytes a chunk has, with padding. -/
def szV (t a1 a2 a3 a4 a5 a6 a7 a8 a9 : Int) (l10 : List S101) (l11 : List Int) (l12 : List S48) (l13 : List Int) : Int := if ckV t a1 a2 a3 a4 a5 a6 a7 a8 a9 l10 l11 l12 l13 = 0 then ((byV t a1 a2 a3 a4 a5 a6 a7 a8 a9 l10 l11 l12 l13).length : Int) else 0
theorem size_v (t a1 a2 a3 a4 a5 a6 a7 a8 a9 : Int) (l10 : List S101) (l11 : List Int) (l12 : List S48) (l13 : List Int) (h : Wf t a1 a2 a3 a4 a5 a6 a7 a8 a9 l10 l11 l12 l13) (k : Nat) (hk : 60 ≤ k) : chunk_Size.f k t a1 a2 a3 a4 a5 a6 a7 a8 a9 l10 l11 l12 l13 = some (szV t a1 a2 a3 a4 a5 a6 a7 a8 a9 l10 l11 l12 l13) := by
  unfold chunk_Size.f szV
  rw [check_v t a1 a2 a3 a4 a5 a6 a7 a8 a9 l10 l11 l12 l13 h k hk, Option.bind_some]
  by_cases h0 : ckV t a1 a2 a3 a4 a5 a6 a7 a8 a9 l10 l11 l12 l13 = 0
  · rw [if_pos h0, if_pos h0]
    have hf := fit_of_ok t a1 a2 a3 a4 a5 a6 a7 a8 a9 l10 l11 l12 l13 h h0
    have hv := valV_len t a1 a2 a3 a4 a5 a6 a7 a8 a9 l10 l11 l12 l13 hf
    have hb := byV_len t a1 a2 a3 a4 a5 a6 a7 a8 a9 l10 l11 l12 l13 hf
    rw [bytes_v t a1 a2 a3 a4 a5 a6 a7 a8 a9 l10 l11 l12 l13 hf k hk, Option.bind_some]
    have hl : ([t, a1] ++ nb (4 + ((valV t a1 a2 a3 a4 a5 a6 a7 a8 a9 l10 l11 l12 l13).length : Int)) 2 ++ valV t a1 a2 a3 a4 a5 a6 a7 a8 a9 l10 l11 l12 l13).length = 4 + (valV t a1 a2 a3 a4 a5 a6 a7 a8 a9 l10 l11 l12 l13).length := by
      simp only [List.length_append]
      rw [nb2 (v := 4 + ((valV t a1 a2 a3 a4 a5 a6 a7 a8 a9 l10 l11 l12 l13).length : Int)) (by omega) (by omega)]
      show 2 + 2 + _ = _
      omega
    rw [hl, padded_f _ (by omega) (by omega), Option.bind_some, hb]
    refine congrArg some ?_
    omega
  · rw [if_neg h0, if_neg h0]
end Go.Proofs.Ytaahkggbjpdofaa.Pure
