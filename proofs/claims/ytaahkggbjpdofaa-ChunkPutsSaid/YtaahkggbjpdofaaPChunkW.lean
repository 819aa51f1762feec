/- A chunk's value, of every kind: the program's and the document's are the same. -/
import Derived.Test.YtaahkggbjpdofaaPChunkV

namespace Go.Proofs.Ytaahkggbjpdofaa.Pure
open Go.RowKit Go.Proofs.Ytaahkggbjpdofaa.M Go.Proofs.YtaahkggbjpdofaaW.PrintWords Go.Proofs.YtaahkggbjpdofaaW.PrintLast Go.Proofs.YtaahkggbjpdofaaW.PrintMore
set_option linter.unusedVariables false
set_option linter.unusedSimpArgs false

theorem nb4 {v : Int} (h0 : 0 ≤ v) (h1 : v ≤ 4294967295) : (nb v 4).length = 4 := by
  unfold nb bytesS
  rw [if_pos (by decide), show (4 : Int).toNat = 4 from rfl, if_neg (by rw [show (256 : Int) ^ 4 = 4294967296 by decide]; omega)]
  exact bytesL_length 4 v
theorem nb2 {v : Int} (h0 : 0 ≤ v) (h1 : v ≤ 65535) : (nb v 2).length = 2 := by
  unfold nb bytesS
  rw [if_pos (by decide), show (2 : Int).toNat = 2 from rfl, if_neg (by rw [show (256 : Int) ^ 2 = 65536 by decide]; omega)]
  exact bytesL_length 2 v
/-- Blocks, and doubles, behind bytes. -/
def blkV : List Int → List S101 → List Int
  | b, [] => b
  | b, p :: ps => blkV (b ++ nb p.f0 2 ++ nb p.f1 2) ps
def dupV : List Int → List Int → List Int
  | b, [] => b
  | b, p :: ps => dupV (b ++ nb p 4) ps
theorem blkV_app (a : List Int) : ∀ (l : List S101) (b : List Int), blkV (a ++ b) l = a ++ blkV b l
  | [], b => rfl
  | p :: ps, b => by rw [blkV, blkV, List.append_assoc, List.append_assoc, blkV_app a ps]; simp only [List.append_assoc]
theorem dupV_app (a : List Int) : ∀ (l : List Int) (b : List Int), dupV (a ++ b) l = a ++ dupV b l
  | [], b => rfl
  | p :: ps, b => by rw [dupV, dupV, List.append_assoc, dupV_app a ps]
theorem blkV_len : ∀ (l : List S101) (b : List Int), (blkV b l).length ≤ b.length + l.length * 16
  | [], b => by simp [blkV]
  | p :: ps, b => by
    have h := blkV_len ps (b ++ nb p.f0 2 ++ nb p.f1 2)
    have h1 := nb_le p.f0 2
    have h2 := nb_le p.f1 2
    simp only [List.length_append, List.length_cons] at h ⊢
    rw [blkV]
    omega
theorem rd101_at (l : List S101) (i : Nat) (h : i < l.length) : rd_T101 l (i : Int) = l[i] := by
  unfold rd_T101
  rw [Int.toNat_natCast, List.getD_eq_getElem?_getD, List.getElem?_eq_getElem h]
  rfl
theorem blk_l0 (l : List S101) (hl : l.length ≤ 16) (hf : ∀ p ∈ l, (0 ≤ p.f0 ∧ p.f0 ≤ 65535) ∧ (0 ≤ p.f1 ∧ p.f1 ≤ 65535)) : ∀ (n i k : Nat) (b : List Int), i + n = l.length → b.length ≤ 2000 + i * 20 →
    chunk_sackB.l0 (k + n + 21) b l (i : Int) = some (blkV b (l.drop i)) ∧ refblk.l0 (k + n + 21) b l (i : Int) = some (blkV b (l.drop i))
  | 0, i, k, b, hi, hb => by
    rw [show k + 0 + 21 = k + 20 + 1 by omega, chunk_sackB.l0, refblk.l0, if_neg (by omega), if_neg (by omega), List.drop_eq_nil_of_le (by omega)]
    exact ⟨rfl, rfl⟩
  | n + 1, i, k, b, hi, hb => by
    have hlt : i < l.length := by omega
    have hm := hf l[i] (List.getElem_mem hlt)
    have h1 := nb_le l[i].f0 2
    have h2 := nb_le l[i].f1 2
    have ih := blk_l0 l hl hf n (i + 1) k (b ++ nb l[i].f0 2 ++ nb l[i].f1 2) (by omega) (by simp only [List.length_append]; omega)
    rw [show k + (n + 1) + 21 = (k + n + 21) + 1 by omega, chunk_sackB.l0, refblk.l0, if_pos (by omega), if_pos (by omega), if_pos (by omega), if_pos (by omega), rd101_at l i hlt, w64 (x := l[i].f0) (by omega) (by omega), w64 (x := l[i].f1) (by omega) (by omega), mod32 hm.1.1 (by omega), mod32 hm.2.1 (by omega),
      lay_2 _ b 2 _ _ (by omega) (by decide) (by decide) hm.1.1 (by omega) hm.2.1 (by omega) (by omega), Option.bind_some, rlay_1 _ b 2 _ (by omega) (by decide) (by decide) hm.1.1 (by omega) (by omega), Option.bind_some, rlay_1 _ _ 2 _ (by omega) (by decide) (by decide) hm.2.1 (by omega) (by simp only [List.length_append]; omega), Option.bind_some, w64 (x := (i : Int) + 1) (by omega) (by omega),
      show ((i : Int) + 1) = ((i + 1 : Nat) : Int) by omega, drop_cons l i hlt, blkV]
    exact ih
theorem dup_l0 (l : List Int) (hl : l.length ≤ 16) (hf : ∀ p ∈ l, 0 ≤ p ∧ p ≤ 4294967295) : ∀ (n i k : Nat) (b : List Int), i + n = l.length → b.length ≤ 4000 + i * 20 →
    chunk_sackD.l0 (k + n + 21) b l (i : Int) = some (dupV b (l.drop i)) ∧ refdup.l0 (k + n + 21) b l (i : Int) = some (dupV b (l.drop i))
  | 0, i, k, b, hi, hb => by
    rw [show k + 0 + 21 = k + 20 + 1 by omega, chunk_sackD.l0, refdup.l0, if_neg (by omega), if_neg (by omega), List.drop_eq_nil_of_le (by omega)]
    exact ⟨rfl, rfl⟩
  | n + 1, i, k, b, hi, hb => by
    have hlt : i < l.length := by omega
    have hm := hf l[i] (List.getElem_mem hlt)
    have h1 := nb_le l[i] 4
    have ih := dup_l0 l hl hf n (i + 1) k (b ++ nb l[i] 4) (by omega) (by simp only [List.length_append]; omega)
    rw [show k + (n + 1) + 21 = (k + n + 21) + 1 by omega, chunk_sackD.l0, refdup.l0, if_pos (by omega), if_pos (by omega), if_pos (by omega), if_pos (by omega), rd_get l i hlt, w64 (x := l[i]) (by omega) (by omega),
      lay_1 _ b 4 _ (by omega) (by decide) (by decide) hm.1 (by omega) (by omega), Option.bind_some, rlay_1 _ b 4 _ (by omega) (by decide) (by decide) hm.1 (by omega) (by omega), Option.bind_some, w64 (x := (i : Int) + 1) (by omega) (by omega),
      show ((i : Int) + 1) = ((i + 1 : Nat) : Int) by omega, drop_cons l i hlt, dupV]
    exact ih
/-- What the values need to be told: the fields' ranges, and that the limits hold. -/
structure Fit (t a1 a2 a3 a4 a5 a6 a7 a8 a9 : Int) (l10 : List S101) (l11 : List Int) (l12 : List S48) (l13 : List Int) : Prop where
  t0 : 0 ≤ t ∧ t ≤ 255
  b1 : 0 ≤ a1 ∧ a1 ≤ 255
  b2 : 0 ≤ a2 ∧ a2 ≤ 4294967295
  b3 : 0 ≤ a3 ∧ a3 ≤ 65535
  b4 : 0 ≤ a4 ∧ a4 ≤ 65535
  b5 : 0 ≤ a5 ∧ a5 ≤ 4294967295
  b6 : 0 ≤ a6 ∧ a6 ≤ 4294967295
  b7 : 0 ≤ a7 ∧ a7 ≤ 4294967295
  b8 : 0 ≤ a8 ∧ a8 ≤ 65535
  b9 : 0 ≤ a9 ∧ a9 ≤ 65535
  n10 : l10.length ≤ 16
  n11 : l11.length ≤ 16
  n12 : l12.length ≤ 16
  n13 : l13.length ≤ 1480
  e10 : ∀ p ∈ l10, (0 ≤ p.f0 ∧ p.f0 ≤ 65535) ∧ (0 ≤ p.f1 ∧ p.f1 ≤ 65535)
  e11 : ∀ p ∈ l11, 0 ≤ p ∧ p ≤ 4294967295
  e12 : ∀ p ∈ l12, (0 ≤ p.f0 ∧ p.f0 ≤ 65535) ∧ p.f1.length ≤ 1480
def firstV (a2 a6 a7 a8 a9 : Int) : List Int := nb a6 4 ++ nb a7 4 ++ nb a8 2 ++ nb a9 2 ++ nb a2 4
def sackV (a2 a7 : Int) (l10 : List S101) (l11 : List Int) : List Int := nb a2 4 ++ nb a7 4 ++ nb (l10.length : Int) 2 ++ nb (l11.length : Int) 2
/-- A chunk's value. -/
def valV (t a1 a2 a3 a4 a5 a6 a7 a8 a9 : Int) (l10 : List S101) (l11 : List Int) (l12 : List S48) (l13 : List Int) : List Int :=
  if ofT t = 53 then nb a2 4 ++ nb a3 2 ++ nb a4 2 ++ nb a5 4 ++ l13 else if ofT t = 80 then parV (firstV a2 a6 a7 a8 a9) l12 else if ofT t = 81 then dupV (blkV (sackV a2 a7 l10 l11) l10) l11 else if ofT t = 82 then parV [] l12 else if ofT t = 83 then nb a2 4 else if ofT t = 84 then [] else l13
theorem firstV_len {a2 a6 a7 a8 a9 : Int} (h2 : 0 ≤ a2 ∧ a2 ≤ 4294967295) (h6 : 0 ≤ a6 ∧ a6 ≤ 4294967295) (h7 : 0 ≤ a7 ∧ a7 ≤ 4294967295) (h8 : 0 ≤ a8 ∧ a8 ≤ 65535) (h9 : 0 ≤ a9 ∧ a9 ≤ 65535) : (firstV a2 a6 a7 a8 a9).length = 16 := by
  unfold firstV
  simp only [List.length_append]
  rw [nb4 h2.1 h2.2, nb4 h6.1 h6.2, nb4 h7.1 h7.2, nb2 h8.1 h8.2, nb2 h9.1 h9.2]
theorem value_v (t a1 a2 a3 a4 a5 a6 a7 a8 a9 : Int) (l10 : List S101) (l11 : List Int) (l12 : List S48) (l13 : List Int) (h : Fit t a1 a2 a3 a4 a5 a6 a7 a8 a9 l10 l11 l12 l13) (k : Nat) (l0 : List Int) (hk : 60 ≤ k) (hl0 : l0.length = 4) : chunk_value.f k t a1 a2 a3 a4 a5 a6 a7 a8 a9 l10 l11 l12 l13 l0 = some (l0 ++ valV t a1 a2 a3 a4 a5 a6 a7 a8 a9 l10 l11 l12 l13) := by
  unfold chunk_value.f valV
  by_cases c0 : ofT t = 53
  · rw [if_pos c0, if_pos c0]
    exact data_v k a2 a3 a4 a5 l13 l0 (by omega) h.b2 h.b3 h.b4 h.b5 (by omega) h.n13
  rw [if_neg c0, if_neg c0]
  by_cases c1 : ofT t = 80
  · rw [if_pos c1, if_pos c1]
    have q2 := nb_le a2 4
    have q6 := nb_le a6 4
    have q7 := nb_le a7 4
    have q8 := nb_le a8 2
    have q9 := nb_le a9 2
    have hfl := firstV_len h.b2 h.b6 h.b7 h.b8 h.b9
    unfold chunk_first.f chunk_layParams.f
    rw [i64w h.b6.1 (by have := h.b6; omega), i64w h.b7.1 (by have := h.b7; omega), i64w h.b8.1 (by have := h.b8; omega), i64w h.b9.1 (by have := h.b9; omega), i64w h.b2.1 (by have := h.b2; omega),
      lay_2 k l0 4 a6 a7 (by omega) (by decide) (by decide) h.b6.1 (by have := h.b6; omega) h.b7.1 (by have := h.b7; omega) (by omega), Option.bind_some,
      lay_2 k _ 2 a8 a9 (by omega) (by decide) (by decide) h.b8.1 (by have := h.b8; omega) h.b9.1 (by have := h.b9; omega) (by simp only [List.length_append]; omega), Option.bind_some,
      lay_1 k _ 4 a2 (by omega) (by decide) (by decide) h.b2.1 (by have := h.b2; omega) (by simp only [List.length_append]; omega), Option.bind_some]
    rw [show l0 ++ nb a6 4 ++ nb a7 4 ++ nb a8 2 ++ nb a9 2 ++ nb a2 4 = l0 ++ firstV a2 a6 a7 a8 a9 by unfold firstV; simp only [List.append_assoc]]
    obtain ⟨m, rfl⟩ : ∃ m, k = m + l12.length + 21 := ⟨k - l12.length - 21, by have := h.n12; omega⟩
    rw [show (0 : Int) = ((0 : Nat) : Int) from rfl, par_l0 l12 h.n12 h.e12 l12.length 0 m _ (by omega) (by rw [List.length_append]; omega) (.inr (by rw [List.length_append]; omega)), List.drop_zero, parV_app l0 (by omega)]
  rw [if_neg c1, if_neg c1]
  by_cases c2 : ofT t = 81
  · rw [if_pos c2, if_pos c2]
    have q2 := nb_le a2 4
    have q7 := nb_le a7 4
    have q10 := nb_le (l10.length : Int) 2
    have q11 := nb_le (l11.length : Int) 2
    have n10 := h.n10
    have n11 := h.n11
    have hb := blkV_len l10 (l0 ++ sackV a2 a7 l10 l11)
    unfold chunk_sack.f
    rw [i64w h.b2.1 (by have := h.b2; omega), i64w h.b7.1 (by have := h.b7; omega),
      lay_2 k l0 4 a2 a7 (by omega) (by decide) (by decide) h.b2.1 (by have := h.b2; omega) h.b7.1 (by have := h.b7; omega) (by omega), Option.bind_some,
      lay_2 k _ 2 _ _ (by omega) (by decide) (by decide) (by omega) (by omega) (by omega) (by omega) (by simp only [List.length_append]; omega), Option.bind_some]
    rw [show l0 ++ nb a2 4 ++ nb a7 4 ++ nb (l10.length : Int) 2 ++ nb (l11.length : Int) 2 = l0 ++ sackV a2 a7 l10 l11 by unfold sackV; simp only [List.append_assoc]]
    have hs : (l0 ++ sackV a2 a7 l10 l11).length ≤ 100 := by unfold sackV; simp only [List.length_append]; omega
    obtain ⟨m, hm⟩ : ∃ m, k = m + l10.length + 21 := ⟨k - l10.length - 21, by omega⟩
    have e1 := (blk_l0 l10 h.n10 h.e10 l10.length 0 m (l0 ++ sackV a2 a7 l10 l11) (by omega) (by omega)).1
    rw [← hm, List.drop_zero] at e1
    obtain ⟨m2, hm2⟩ : ∃ m, k = m + l11.length + 21 := ⟨k - l11.length - 21, by omega⟩
    have e2 := (dup_l0 l11 h.n11 h.e11 l11.length 0 m2 (blkV (l0 ++ sackV a2 a7 l10 l11) l10) (by omega) (by omega)).1
    rw [← hm2, List.drop_zero] at e2
    rw [show (0 : Int) = ((0 : Nat) : Int) from rfl, e1, Option.bind_some, e2, blkV_app, dupV_app]
  rw [if_neg c2, if_neg c2]
  by_cases c3 : ofT t = 82
  · rw [if_pos c3, if_pos c3]
    unfold chunk_layParams.f
    obtain ⟨m, rfl⟩ : ∃ m, k = m + l12.length + 21 := ⟨k - l12.length - 21, by have := h.n12; omega⟩
    have e := par_l0 l12 h.n12 h.e12 l12.length 0 m l0 (by omega) (by omega) (.inr (by omega))
    rw [List.drop_zero] at e
    rw [show (0 : Int) = ((0 : Nat) : Int) from rfl, e]
    have := parV_app l0 (by omega) l12 []
    rw [List.append_nil] at this
    rw [this]
  rw [if_neg c3, if_neg c3]
  by_cases c4 : ofT t = 83
  · rw [if_pos c4, if_pos c4, w64 (x := a2) (by have := h.b2; omega) (by have := h.b2; omega)]
    exact lay_1 k l0 4 a2 (by omega) (by decide) (by decide) h.b2.1 (by have := h.b2; omega) (by omega)
  rw [if_neg c4, if_neg c4]
  by_cases c5 : ofT t = 84
  · rw [if_pos c5, if_pos c5, List.append_nil]
  rw [if_neg c5, if_neg c5, if_pos (by have := h.n13; omega)]
theorem rfirst_v (t a1 a2 a3 a4 a5 a6 a7 a8 a9 : Int) (l10 : List S101) (l11 : List Int) (l12 : List S48) (l13 : List Int) (h : Fit t a1 a2 a3 a4 a5 a6 a7 a8 a9 l10 l11 l12 l13) (k : Nat) (hk : 60 ≤ k) :
    ((trunklineref12_lay.f k [] a6 4).bind fun r1 => (trunklineref12_lay.f k r1 a7 4).bind fun r2 => (trunklineref12_lay.f k r2 (a8 % 4294967296) 2).bind fun r3 => (trunklineref12_lay.f k r3 (a9 % 4294967296) 2).bind fun r4 => (trunklineref12_lay.f k r4 a2 4).bind fun r5 => refpar.l0 k r5 l12 0) = some (parV (firstV a2 a6 a7 a8 a9) l12) := by
  have q2 := nb_le a2 4
  have q6 := nb_le a6 4
  have q7 := nb_le a7 4
  have q8 := nb_le a8 2
  have q9 := nb_le a9 2
  have hfl := firstV_len h.b2 h.b6 h.b7 h.b8 h.b9
  rw [rlay_1 k [] 4 a6 (by omega) (by decide) (by decide) h.b6.1 (by have := h.b6; omega) (by decide), Option.bind_some,
    rlay_1 k _ 4 a7 (by omega) (by decide) (by decide) h.b7.1 (by have := h.b7; omega) (by simp only [List.length_append, List.length_nil]; omega), Option.bind_some,
    mod32 h.b8.1 (by have := h.b8; omega), mod32 h.b9.1 (by have := h.b9; omega),
    rlay_1 k _ 2 a8 (by omega) (by decide) (by decide) h.b8.1 (by have := h.b8; omega) (by simp only [List.length_append, List.length_nil]; omega), Option.bind_some,
    rlay_1 k _ 2 a9 (by omega) (by decide) (by decide) h.b9.1 (by have := h.b9; omega) (by simp only [List.length_append, List.length_nil]; omega), Option.bind_some,
    rlay_1 k _ 4 a2 (by omega) (by decide) (by decide) h.b2.1 (by have := h.b2; omega) (by simp only [List.length_append, List.length_nil]; omega), Option.bind_some]
  rw [show [] ++ nb a6 4 ++ nb a7 4 ++ nb a8 2 ++ nb a9 2 ++ nb a2 4 = firstV a2 a6 a7 a8 a9 by unfold firstV; simp only [List.nil_append]]
  obtain ⟨m, rfl⟩ : ∃ m, k = m + l12.length + 21 := ⟨k - l12.length - 21, by have := h.n12; omega⟩
  have e := rpar_l0 l12 h.n12 h.e12 l12.length 0 m (firstV a2 a6 a7 a8 a9) (by omega) (by omega)
  rw [List.drop_zero] at e
  exact e
theorem rsack_v (t a1 a2 a3 a4 a5 a6 a7 a8 a9 : Int) (l10 : List S101) (l11 : List Int) (l12 : List S48) (l13 : List Int) (h : Fit t a1 a2 a3 a4 a5 a6 a7 a8 a9 l10 l11 l12 l13) (k : Nat) (hk : 60 ≤ k) :
    ((trunklineref12_lay.f k [] a2 4).bind fun r1 => (trunklineref12_lay.f k r1 a7 4).bind fun r2 => (trunklineref12_lay.f k r2 ((l10.length : Int) % 4294967296) 2).bind fun r3 => (trunklineref12_lay.f k r3 ((l11.length : Int) % 4294967296) 2).bind fun r4 => (refblk.l0 k r4 l10 0).bind fun r5 => refdup.l0 k r5 l11 0) = some (dupV (blkV (sackV a2 a7 l10 l11) l10) l11) := by
  have q2 := nb_le a2 4
  have q7 := nb_le a7 4
  have q10 := nb_le (l10.length : Int) 2
  have q11 := nb_le (l11.length : Int) 2
  have n10 := h.n10
  have n11 := h.n11
  have hb := blkV_len l10 (sackV a2 a7 l10 l11)
  rw [mod32 (x := (l10.length : Int)) (by omega) (by omega), mod32 (x := (l11.length : Int)) (by omega) (by omega), rlay_1 k [] 4 a2 (by omega) (by decide) (by decide) h.b2.1 (by have := h.b2; omega) (by decide), Option.bind_some,
    rlay_1 k _ 4 a7 (by omega) (by decide) (by decide) h.b7.1 (by have := h.b7; omega) (by simp only [List.length_append, List.length_nil]; omega), Option.bind_some,
    rlay_1 k _ 2 _ (by omega) (by decide) (by decide) (by omega) (by omega) (by simp only [List.length_append, List.length_nil]; omega), Option.bind_some,
    rlay_1 k _ 2 _ (by omega) (by decide) (by decide) (by omega) (by omega) (by simp only [List.length_append, List.length_nil]; omega), Option.bind_some]
  rw [show [] ++ nb a2 4 ++ nb a7 4 ++ nb (l10.length : Int) 2 ++ nb (l11.length : Int) 2 = sackV a2 a7 l10 l11 by unfold sackV; simp only [List.nil_append]]
  have hs : (sackV a2 a7 l10 l11).length ≤ 100 := by unfold sackV; simp only [List.length_append]; omega
  obtain ⟨m, hm⟩ : ∃ m, k = m + l10.length + 21 := ⟨k - l10.length - 21, by omega⟩
  have e1 := (blk_l0 l10 h.n10 h.e10 l10.length 0 m (sackV a2 a7 l10 l11) (by omega) (by omega)).2
  rw [← hm, List.drop_zero] at e1
  obtain ⟨m2, hm2⟩ : ∃ m, k = m + l11.length + 21 := ⟨k - l11.length - 21, by omega⟩
  have e2 := (dup_l0 l11 h.n11 h.e11 l11.length 0 m2 (blkV (sackV a2 a7 l10 l11) l10) (by omega) (by omega)).2
  rw [← hm2, List.drop_zero] at e2
  rw [show (0 : Int) = ((0 : Nat) : Int) from rfl, e1, Option.bind_some]
  exact e2
theorem rvalue_v (t a1 a2 a3 a4 a5 a6 a7 a8 a9 : Int) (l10 : List S101) (l11 : List Int) (l12 : List S48) (l13 : List Int) (h : Fit t a1 a2 a3 a4 a5 a6 a7 a8 a9 l10 l11 l12 l13) (k : Nat) (hk : 60 ≤ k) : trunklineref12_Value.f k t a1 a2 a3 a4 a5 a6 a7 a8 a9 l10 l11 l12 l13 = some (valV t a1 a2 a3 a4 a5 a6 a7 a8 a9 l10 l11 l12 l13) := by
  unfold trunklineref12_Value.f
  by_cases e0 : t = 0
  · subst e0
    rw [if_pos rfl]
    exact rdata_v k a2 a3 a4 a5 l13 (by omega) h.b2 h.b3 h.b4 h.b5 h.n13
  rw [if_neg e0]
  by_cases e1 : t = 1
  · subst e1
    rw [if_pos rfl]
    exact rfirst_v 1 a1 a2 a3 a4 a5 a6 a7 a8 a9 l10 l11 l12 l13 h k hk
  rw [if_neg e1]
  by_cases e2 : t = 2
  · subst e2
    rw [if_pos rfl]
    exact rfirst_v 2 a1 a2 a3 a4 a5 a6 a7 a8 a9 l10 l11 l12 l13 h k hk
  rw [if_neg e2]
  by_cases e3 : t = 3
  · subst e3
    rw [if_pos rfl]
    exact rsack_v 3 a1 a2 a3 a4 a5 a6 a7 a8 a9 l10 l11 l12 l13 h k hk
  rw [if_neg e3]
  by_cases e7 : t = 7
  · subst e7
    rw [if_pos rfl]
    exact (rlay_1 k [] 4 a2 (by omega) (by decide) (by decide) h.b2.1 (by have := h.b2; omega) (by decide)).trans rfl
  rw [if_neg e7]
  by_cases e4 : t = 4
  · subst e4
    rw [show trunklineref12_hasData.f 4 = some false from by kernel_rfl, show trunklineref12_hasParams.f 4 = some true from by kernel_rfl, Option.bind_some, Option.bind_some, if_neg (by decide), if_pos rfl]
    obtain ⟨m, rfl⟩ : ∃ m, k = m + l12.length + 21 := ⟨k - l12.length - 21, by have := h.n12; omega⟩
    have e := rpar_l0 l12 h.n12 h.e12 l12.length 0 m [] (by omega) (by simp)
    rw [List.drop_zero] at e
    exact e
  by_cases e5 : t = 5
  · subst e5
    rw [show trunklineref12_hasData.f 5 = some false from by kernel_rfl, show trunklineref12_hasParams.f 5 = some true from by kernel_rfl, Option.bind_some, Option.bind_some, if_neg (by decide), if_pos rfl]
    obtain ⟨m, rfl⟩ : ∃ m, k = m + l12.length + 21 := ⟨k - l12.length - 21, by have := h.n12; omega⟩
    have e := rpar_l0 l12 h.n12 h.e12 l12.length 0 m [] (by omega) (by simp)
    rw [List.drop_zero] at e
    exact e
  by_cases e6 : t = 6
  · subst e6
    rw [show trunklineref12_hasData.f 6 = some false from by kernel_rfl, show trunklineref12_hasParams.f 6 = some true from by kernel_rfl, Option.bind_some, Option.bind_some, if_neg (by decide), if_pos rfl]
    obtain ⟨m, rfl⟩ : ∃ m, k = m + l12.length + 21 := ⟨k - l12.length - 21, by have := h.n12; omega⟩
    have e := rpar_l0 l12 h.n12 h.e12 l12.length 0 m [] (by omega) (by simp)
    rw [List.drop_zero] at e
    exact e
  by_cases e9 : t = 9
  · subst e9
    rw [show trunklineref12_hasData.f 9 = some false from by kernel_rfl, show trunklineref12_hasParams.f 9 = some true from by kernel_rfl, Option.bind_some, Option.bind_some, if_neg (by decide), if_pos rfl]
    obtain ⟨m, rfl⟩ : ∃ m, k = m + l12.length + 21 := ⟨k - l12.length - 21, by have := h.n12; omega⟩
    have e := rpar_l0 l12 h.n12 h.e12 l12.length 0 m [] (by omega) (by simp)
    rw [List.drop_zero] at e
    exact e
  by_cases e8 : t = 8
  · subst e8
    rw [show trunklineref12_hasData.f 8 = some false from by kernel_rfl, show trunklineref12_hasParams.f 8 = some false from by kernel_rfl, Option.bind_some, Option.bind_some, if_neg (by decide), if_neg (by decide)]
    rfl
  by_cases e11 : t = 11
  · subst e11
    rw [show trunklineref12_hasData.f 11 = some false from by kernel_rfl, show trunklineref12_hasParams.f 11 = some false from by kernel_rfl, Option.bind_some, Option.bind_some, if_neg (by decide), if_neg (by decide)]
    rfl
  by_cases e14 : t = 14
  · subst e14
    rw [show trunklineref12_hasData.f 14 = some false from by kernel_rfl, show trunklineref12_hasParams.f 14 = some false from by kernel_rfl, Option.bind_some, Option.bind_some, if_neg (by decide), if_neg (by decide)]
    rfl
  have hd : trunklineref12_hasData.f t = some true := by
    have := h.t0
    unfold trunklineref12_hasData.f
    split
    · rfl
    split
    · rfl
    split
    · rfl
    exact congrArg some (decide_eq_true (by omega))
  have hp : trunklineref12_hasParams.f t = some false := by
    unfold trunklineref12_hasParams.f
    rw [if_neg e1, if_neg e2, if_neg e4, if_neg e5, if_neg e6]
    exact congrArg some (beq_eq_false_iff_ne.mpr e9)
  have hT : ofT t = 85 := by
    unfold ofT
    rw [if_neg e0, if_neg (by omega), if_neg e3, if_neg (by omega), if_neg e7, if_neg (by omega)]
  rw [hd, hp, Option.bind_some, Option.bind_some, if_pos rfl, if_neg (by decide), if_pos (by have := h.n13; simp; omega)]
  unfold valV
  simp [hT]
end Go.Proofs.Ytaahkggbjpdofaa.Pure
