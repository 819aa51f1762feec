import Derived.Test.YtaahkggbjpdofaaPNumA
import Derived.Test.YtaahkggbjpdofaaHVal
import Derived.Test.YtaahkggbjpdofaaM10
import Derived.Test.YtaahkggbjpdofaaHGiven
import Derived.Test.YtaahkggbjpdofaaHOddF
import Derived.Test.YtaahkggbjpdofaaM9
import Derived.Test.YtaahkggbjpdofaaM6
import Derived.Test.YtaahkggbjpdofaaPNumB
import Derived.Test.YtaahkggbjpdofaaHStamp
import Derived.Test.YtaahkggbjpdofaaPCrc
import Derived.Test.YtaahkggbjpdofaaHReadF
import Derived.Test.YtaahkggbjpdofaaHCatch
import Derived.Test.YtaahkggbjpdofaaHSame
section
/- What a chunk has behind its length: the program's and the document's, in plain Lean. -/
namespace Go.Proofs.Ytaahkggbjpdofaa.Pure
open Go.RowKit Go.Proofs.Ytaahkggbjpdofaa.M Go.Proofs.YtaahkggbjpdofaaW.PrintWords Go.Proofs.YtaahkggbjpdofaaW.PrintLast Go.Proofs.YtaahkggbjpdofaaW.PrintMore
set_option linter.unusedVariables false
set_option linter.unusedSimpArgs false

/-- A number's bytes (none where it has no room). -/
def nb (v n : Int) : List Int := (bytesS v n).1
theorem nb_le (v n : Int) : (nb v n).length ≤ 8 := (bytesS_len v n).1
theorem n_wf (n : Int) (h0 : 0 ≤ n) (h1 : n ≤ 8) : (Lit.int .i64 n).wf = true := i64_wf (by omega) (by omega)
theorem i64w {x : Int} (h0 : 0 ≤ x) (h1 : x < 9223372036854775808) : IntKind.i64.wrap x = x := by
  rw [IntKind.wrap_i64]; omega
theorem lay_1 (k : Nat) (l0 : List Int) (n x : Int) (hk : 20 ≤ k) (hn0 : 0 ≤ n) (hn : n ≤ 8) (hx : 0 ≤ x) (hx1 : x < 9223372036854775808) (hl : l0.length ≤ 1000000) : chunk_lay.f k l0 n [x] = some (l0 ++ nb x n) := by
  obtain ⟨m, rfl⟩ : ∃ m, k = m + 12 := ⟨k - 12, by omega⟩
  have hb := nb_le x n
  unfold chunk_lay.f
  show chunk_lay.l0 (m + 11 + 1) l0 n [x] 1 0 = _
  rw [chunk_lay.l0, if_pos (by decide), if_pos (by decide), if_pos (by show (0 : Int) < 1; decide), show rd [x] 0 = x from rfl, wrapu hx (by omega), bytes_f x n hx (by omega) (n_wf n hn0 hn) (by omega), Option.bind_some, if_pos (by show l0.length + (nb x n).length < _; omega)]
  rw [show wrap64 (0 + 1) = 1 from w64 (x := 0 + 1) (by decide) (by decide)]
  show chunk_lay.l0 (m + 10 + 1) (l0 ++ nb x n) n [x] 1 1 = _
  rw [chunk_lay.l0, if_neg (by decide)]
theorem lay_2 (k : Nat) (l0 : List Int) (n x y : Int) (hk : 20 ≤ k) (hn0 : 0 ≤ n) (hn : n ≤ 8) (hx : 0 ≤ x) (hx1 : x < 9223372036854775808) (hy : 0 ≤ y) (hy1 : y < 9223372036854775808) (hl : l0.length ≤ 1000000) : chunk_lay.f k l0 n [x, y] = some (l0 ++ nb x n ++ nb y n) := by
  obtain ⟨m, rfl⟩ : ∃ m, k = m + 13 := ⟨k - 13, by omega⟩
  have hb := nb_le x n
  have hb2 := nb_le y n
  unfold chunk_lay.f
  show chunk_lay.l0 (m + 12 + 1) l0 n [x, y] 2 0 = _
  rw [chunk_lay.l0, if_pos (by decide), if_pos (by decide), if_pos (by show (0 : Int) < 2; decide), show rd [x, y] 0 = x from rfl, wrapu hx (by omega), bytes_f x n hx (by omega) (n_wf n hn0 hn) (by omega), Option.bind_some, if_pos (by show l0.length + (nb x n).length < _; omega)]
  rw [show wrap64 (0 + 1) = 1 from w64 (x := 0 + 1) (by decide) (by decide)]
  show chunk_lay.l0 (m + 11 + 1) (l0 ++ nb x n) n [x, y] 2 1 = _
  rw [chunk_lay.l0, if_pos (by decide), if_pos (by decide), if_pos (by show (1 : Int) < 2; decide), show rd [x, y] 1 = y from rfl, wrapu hy (by omega), bytes_f y n hy (by omega) (n_wf n hn0 hn) (by omega), Option.bind_some, if_pos (by rw [List.length_append]; show l0.length + (nb x n).length + (nb y n).length < _; omega)]
  rw [show wrap64 (1 + 1) = 2 from w64 (x := 1 + 1) (by decide) (by decide)]
  show chunk_lay.l0 (m + 10 + 1) (l0 ++ nb x n ++ nb y n) n [x, y] 2 2 = _
  rw [chunk_lay.l0, if_neg (by decide)]
/-- The value of a piece of data. -/
theorem data_v (k : Nat) (a2 a3 a4 a5 : Int) (l13 l0 : List Int) (hk : 20 ≤ k) (h2 : 0 ≤ a2 ∧ a2 ≤ 4294967295) (h3 : 0 ≤ a3 ∧ a3 ≤ 65535) (h4 : 0 ≤ a4 ∧ a4 ≤ 65535) (h5 : 0 ≤ a5 ∧ a5 ≤ 4294967295) (hl : l0.length ≤ 1000) (hl13 : l13.length ≤ 1480) :
    chunk_data.f k a2 a3 a4 a5 l13 l0 = some (l0 ++ (nb a2 4 ++ nb a3 2 ++ nb a4 2 ++ nb a5 4 ++ l13)) := by
  have b2 := nb_le a2 4
  have b3 := nb_le a3 2
  have b4 := nb_le a4 2
  have b5 := nb_le a5 4
  unfold chunk_data.f
  rw [w64 (by omega) (by omega), i64w h3.1 (by omega), i64w h4.1 (by omega), i64w h5.1 (by omega), lay_1 k l0 4 a2 hk (by decide) (by decide) h2.1 (by omega) (by omega), Option.bind_some,
    lay_2 k _ 2 a3 a4 hk (by decide) (by decide) h3.1 (by omega) h4.1 (by omega) (by simp only [List.length_append]; omega), Option.bind_some,
    lay_1 k _ 4 a5 hk (by decide) (by decide) h5.1 (by omega) (by simp only [List.length_append]; omega), Option.bind_some, if_pos (by simp only [List.length_append]; omega)]
  simp only [List.append_assoc]
theorem mod32 {x : Int} (h0 : 0 ≤ x) (h1 : x ≤ 4294967295) : x % 4294967296 = x := Int.emod_eq_of_lt h0 (by omega)
/-- Padding up to a multiple of four. -/
def pad4 (b : List Int) : List Int := b ++ List.replicate ((4 - b.length % 4) % 4) 0
theorem pad4_len (b : List Int) : (pad4 b).length % 4 = 0 ∧ b.length ≤ (pad4 b).length ∧ (pad4 b).length ≤ b.length + 3 := by
  unfold pad4
  rw [List.length_append, List.length_replicate]
  omega
theorem pad4_same (b : List Int) (h : b.length % 4 = 0) : pad4 b = b := by
  unfold pad4
  rw [h]
  simp
theorem pad4_app (a b : List Int) (h : a.length % 4 = 0) : pad4 (a ++ b) = a ++ pad4 b := by
  unfold pad4
  rw [List.length_append, show (a.length + b.length) % 4 = b.length % 4 by omega, List.append_assoc]
/-- Parameters behind bytes. -/
def parV : List Int → List S48 → List Int
  | b, [] => b
  | b, p :: ps => parV (pad4 b ++ nb p.f0 2 ++ nb (4 + (p.f1.length : Int)) 2 ++ p.f1) ps
theorem parV_app (a : List Int) (h : a.length % 4 = 0) : ∀ (l : List S48) (b : List Int), parV (a ++ b) l = a ++ parV b l
  | [], b => rfl
  | p :: ps, b => by
    rw [parV, parV, pad4_app a b h, List.append_assoc, List.append_assoc, List.append_assoc, parV_app a h ps]
    simp only [List.append_assoc]
/-- What Pad tells. -/
def padS (l : List Int) (m : Int) : List Int × Int :=
  if m < 1 ∨ m > 64 then ([], 2) else (l ++ List.replicate ((m - (l.length : Int) % m) % m).toNat 0, 0)
theorem clone_f (l : List Int) (h : l.length < 140737488355328) : slices_Clone_byte_byte.f l = some l := by
  unfold slices_Clone_byte_byte.f; rw [if_pos h]
theorem tm (x m : Int) (h : 0 ≤ x) : Int.tmod x m = x % m := Int.tmod_eq_emod_of_nonneg h
theorem pad_d (x m : Int) (hm : 0 < m) : 0 ≤ (m - x % m) % m ∧ (m - x % m) % m < m := ⟨Int.emod_nonneg _ (by omega), Int.emod_lt_of_pos _ hm⟩
theorem pad_f (l : List Int) (m : Int) (hl : l.length ≤ 140737488351232) : octet_Pad.f l m = some (padS l m) := by
  unfold octet_Pad.f padS
  by_cases h1 : m < 1
  · rw [if_pos h1, if_pos (Or.inl h1)]
  · rw [if_neg h1]
    by_cases h2 : m > 64
    · rw [if_pos h2, if_pos (Or.inr h2)]
    · have hr : 0 ≤ (l.length : Int) % m ∧ (l.length : Int) % m < m := ⟨Int.emod_nonneg _ (by omega), Int.emod_lt_of_pos _ (by omega)⟩
      have hd := pad_d (l.length : Int) m (by omega)
      rw [if_neg h2, if_neg (c := m < 1 ∨ m > 64) (by omega), clone_f _ (by omega), Option.bind_some, if_neg (by omega), tm (l.length : Int) m (by omega), w64 (x := m - (l.length : Int) % m) (by omega) (by omega), tm (m - (l.length : Int) % m) m (by omega), if_pos hd.1, if_pos (by omega)]
theorem pad_4 (b : List Int) (h : b.length ≤ 1000000) : octet_Pad.f b 4 = some (pad4 b, 0) := by
  rw [pad_f b 4 (by omega)]
  unfold padS pad4
  rw [if_neg (by decide), show ((4 - (b.length : Int) % 4) % 4).toNat = (4 - b.length % 4) % 4 by omega]
theorem rd48_at (l : List S48) (i : Nat) (h : i < l.length) : rd_T48 l (i : Int) = l[i] := by
  unfold rd_T48
  rw [Int.toNat_natCast, List.getD_eq_getElem?_getD, List.getElem?_eq_getElem h]
  rfl
theorem drop_cons {α : Type} (l : List α) (i : Nat) (h : i < l.length) : l.drop i = l[i] :: l.drop (i + 1) := List.drop_eq_getElem_cons h
theorem par_l0 (l : List S48) (hl : l.length ≤ 16) (hf : ∀ p ∈ l, (0 ≤ p.f0 ∧ p.f0 ≤ 65535) ∧ p.f1.length ≤ 1480) : ∀ (n i k : Nat) (b : List Int), i + n = l.length → b.length ≤ 2000 + i * 1500 → 0 < i ∨ b.length % 4 = 0 →
    chunk_layParams.l0 (k + n + 21) b l (i : Int) = some (parV b (l.drop i))
  | 0, i, k, b, hi, hb, hp => by
    rw [show k + 0 + 21 = k + 20 + 1 by omega, chunk_layParams.l0, if_neg (by omega), List.drop_eq_nil_of_le (by omega)]
    rfl
  | n + 1, i, k, b, hi, hb, hp => by
    have hlt : i < l.length := by omega
    have hm := hf l[i] (List.getElem_mem hlt)
    have hp4 := pad4_len b
    have h1 := nb_le l[i].f0 2
    have h2 := nb_le (4 + (l[i].f1.length : Int)) 2
    have hpad : chunk_padAt.f b (i : Int) = some (pad4 b) := by
      unfold chunk_padAt.f
      by_cases h0 : 0 < (i : Int)
      · rw [if_pos h0, pad_4 b (by omega), Option.bind_some]
      · rw [if_neg h0, pad4_same b (by omega)]
    rw [show k + (n + 1) + 21 = (k + n + 21) + 1 by omega, chunk_layParams.l0, if_pos (by omega), if_pos (by omega), hpad, Option.bind_some, rd48_at l i hlt, i64w hm.1.1 (by omega), i64w (x := 4 + (l[i].f1.length : Int)) (by omega) (by omega),
      lay_2 _ _ 2 _ _ (by omega) (by decide) (by decide) hm.1.1 (by omega) (by omega) (by omega) (by omega), Option.bind_some, if_pos (by simp only [List.length_append]; omega), w64 (x := (i : Int) + 1) (by omega) (by omega)]
    rw [show ((i : Int) + 1) = ((i + 1 : Nat) : Int) by omega, par_l0 l hl hf n (i + 1) k _ (by omega) (by simp only [List.length_append]; omega) (.inl (by omega)), drop_cons l i hlt, parV]
end Go.Proofs.Ytaahkggbjpdofaa.Pure
end
section
/- A chunk's value, of every kind: the program's and the document's are the same. -/

namespace Go.Proofs.Ytaahkggbjpdofaa.Pure
open Go.RowKit Go.Proofs.Ytaahkggbjpdofaa.M Go.Proofs.YtaahkggbjpdofaaW.PrintWords Go.Proofs.YtaahkggbjpdofaaW.PrintLast Go.Proofs.YtaahkggbjpdofaaW.PrintMore
set_option linter.unusedVariables false
set_option linter.unusedSimpArgs false

theorem nb4 {v : Int} (h0 : 0 ≤ v) (h1 : v ≤ 4294967295) : (nb v 4).length = 4 := by
  unfold nb bytesS
  rw [if_pos (by decide), show (4 : Int).toNat = 4 from rfl, if_neg (by rw [show (256 : Int) ^ 4 = 4294967296 by decide]; omega)]
  exact bytesL_length 4 v
theorem nb2 {v : Int} (h0 : 0 ≤ v) (h1 : v ≤ 65535) : (nb v 2).length = 2 := by
  unfold nb bytesS
  rw [if_pos (by decide), show (2 : Int).toNat = 2 from rfl, if_neg (by rw [show (256 : Int) ^ 2 = 65536 by decide]; omega)]
  exact bytesL_length 2 v
/-- Blocks, and doubles, behind bytes. -/
def blkV : List Int → List S101 → List Int
  | b, [] => b
  | b, p :: ps => blkV (b ++ nb p.f0 2 ++ nb p.f1 2) ps
def dupV : List Int → List Int → List Int
  | b, [] => b
  | b, p :: ps => dupV (b ++ nb p 4) ps
theorem blkV_app (a : List Int) : ∀ (l : List S101) (b : List Int), blkV (a ++ b) l = a ++ blkV b l
  | [], b => rfl
  | p :: ps, b => by rw [blkV, blkV, List.append_assoc, List.append_assoc, blkV_app a ps]; simp only [List.append_assoc]
theorem dupV_app (a : List Int) : ∀ (l : List Int) (b : List Int), dupV (a ++ b) l = a ++ dupV b l
  | [], b => rfl
  | p :: ps, b => by rw [dupV, dupV, List.append_assoc, dupV_app a ps]
theorem blkV_len : ∀ (l : List S101) (b : List Int), (blkV b l).length ≤ b.length + l.length * 16
  | [], b => by simp [blkV]
  | p :: ps, b => by
    have h := blkV_len ps (b ++ nb p.f0 2 ++ nb p.f1 2)
    have h1 := nb_le p.f0 2
    have h2 := nb_le p.f1 2
    simp only [List.length_append, List.length_cons] at h ⊢
    rw [blkV]
    omega
theorem rd101_at (l : List S101) (i : Nat) (h : i < l.length) : rd_T101 l (i : Int) = l[i] := by
  unfold rd_T101
  rw [Int.toNat_natCast, List.getD_eq_getElem?_getD, List.getElem?_eq_getElem h]
  rfl
theorem blk_p (l : List S101) (hl : l.length ≤ 16) (hf : ∀ p ∈ l, (0 ≤ p.f0 ∧ p.f0 ≤ 65535) ∧ (0 ≤ p.f1 ∧ p.f1 ≤ 65535)) : ∀ (n i k : Nat) (b : List Int), i + n = l.length → b.length ≤ 2000 + i * 20 →
    chunk_sackB.l0 (k + n + 21) b l (i : Int) = some (blkV b (l.drop i))
  | 0, i, k, b, hi, hb => by
    rw [show k + 0 + 21 = k + 20 + 1 by omega, chunk_sackB.l0, if_neg (by omega), List.drop_eq_nil_of_le (by omega)]
    rfl
  | n + 1, i, k, b, hi, hb => by
    have hlt : i < l.length := by omega
    have hm := hf l[i] (List.getElem_mem hlt)
    have h1 := nb_le l[i].f0 2
    have h2 := nb_le l[i].f1 2
    have ih := blk_p l hl hf n (i + 1) k (b ++ nb l[i].f0 2 ++ nb l[i].f1 2) (by omega) (by simp only [List.length_append]; omega)
    rw [show k + (n + 1) + 21 = (k + n + 21) + 1 by omega, chunk_sackB.l0, if_pos (by omega), if_pos (by omega), rd101_at l i hlt, w64 (x := l[i].f0) (by omega) (by omega), w64 (x := l[i].f1) (by omega) (by omega),
      lay_2 _ b 2 _ _ (by omega) (by decide) (by decide) hm.1.1 (by omega) hm.2.1 (by omega) (by omega), Option.bind_some, w64 (x := (i : Int) + 1) (by omega) (by omega),
      show ((i : Int) + 1) = ((i + 1 : Nat) : Int) by omega, drop_cons l i hlt, blkV]
    exact ih
theorem dup_p (l : List Int) (hl : l.length ≤ 16) (hf : ∀ p ∈ l, 0 ≤ p ∧ p ≤ 4294967295) : ∀ (n i k : Nat) (b : List Int), i + n = l.length → b.length ≤ 4000 + i * 20 →
    chunk_sackD.l0 (k + n + 21) b l (i : Int) = some (dupV b (l.drop i))
  | 0, i, k, b, hi, hb => by
    rw [show k + 0 + 21 = k + 20 + 1 by omega, chunk_sackD.l0, if_neg (by omega), List.drop_eq_nil_of_le (by omega)]
    rfl
  | n + 1, i, k, b, hi, hb => by
    have hlt : i < l.length := by omega
    have hm := hf l[i] (List.getElem_mem hlt)
    have h1 := nb_le l[i] 4
    have ih := dup_p l hl hf n (i + 1) k (b ++ nb l[i] 4) (by omega) (by simp only [List.length_append]; omega)
    rw [show k + (n + 1) + 21 = (k + n + 21) + 1 by omega, chunk_sackD.l0, if_pos (by omega), if_pos (by omega), rd_get l i hlt, w64 (x := l[i]) (by omega) (by omega),
      lay_1 _ b 4 _ (by omega) (by decide) (by decide) hm.1 (by omega) (by omega), Option.bind_some, w64 (x := (i : Int) + 1) (by omega) (by omega),
      show ((i : Int) + 1) = ((i + 1 : Nat) : Int) by omega, drop_cons l i hlt, dupV]
    exact ih
/-- What the values need to be told: the fields' ranges, and that the limits hold. -/
structure Fit (t a1 a2 a3 a4 a5 a6 a7 a8 a9 : Int) (l10 : List S101) (l11 : List Int) (l12 : List S48) (l13 : List Int) : Prop where
  t0 : 0 ≤ t ∧ t ≤ 255
  b1 : 0 ≤ a1 ∧ a1 ≤ 255
  b2 : 0 ≤ a2 ∧ a2 ≤ 4294967295
  b3 : 0 ≤ a3 ∧ a3 ≤ 65535
  b4 : 0 ≤ a4 ∧ a4 ≤ 65535
  b5 : 0 ≤ a5 ∧ a5 ≤ 4294967295
  b6 : 0 ≤ a6 ∧ a6 ≤ 4294967295
  b7 : 0 ≤ a7 ∧ a7 ≤ 4294967295
  b8 : 0 ≤ a8 ∧ a8 ≤ 65535
  b9 : 0 ≤ a9 ∧ a9 ≤ 65535
  n10 : l10.length ≤ 16
  n11 : l11.length ≤ 16
  n12 : l12.length ≤ 16
  n13 : l13.length ≤ 1480
  e10 : ∀ p ∈ l10, (0 ≤ p.f0 ∧ p.f0 ≤ 65535) ∧ (0 ≤ p.f1 ∧ p.f1 ≤ 65535)
  e11 : ∀ p ∈ l11, 0 ≤ p ∧ p ≤ 4294967295
  e12 : ∀ p ∈ l12, (0 ≤ p.f0 ∧ p.f0 ≤ 65535) ∧ p.f1.length ≤ 1480
def firstV (a2 a6 a7 a8 a9 : Int) : List Int := nb a6 4 ++ nb a7 4 ++ nb a8 2 ++ nb a9 2 ++ nb a2 4
def sackV (a2 a7 : Int) (l10 : List S101) (l11 : List Int) : List Int := nb a2 4 ++ nb a7 4 ++ nb (l10.length : Int) 2 ++ nb (l11.length : Int) 2
/-- A chunk's value. -/
def valV (t a1 a2 a3 a4 a5 a6 a7 a8 a9 : Int) (l10 : List S101) (l11 : List Int) (l12 : List S48) (l13 : List Int) : List Int :=
  if ofT t = 53 then nb a2 4 ++ nb a3 2 ++ nb a4 2 ++ nb a5 4 ++ l13 else if ofT t = 80 then parV (firstV a2 a6 a7 a8 a9) l12 else if ofT t = 81 then dupV (blkV (sackV a2 a7 l10 l11) l10) l11 else if ofT t = 82 then parV [] l12 else if ofT t = 83 then nb a2 4 else if ofT t = 84 then [] else l13
theorem firstV_len {a2 a6 a7 a8 a9 : Int} (h2 : 0 ≤ a2 ∧ a2 ≤ 4294967295) (h6 : 0 ≤ a6 ∧ a6 ≤ 4294967295) (h7 : 0 ≤ a7 ∧ a7 ≤ 4294967295) (h8 : 0 ≤ a8 ∧ a8 ≤ 65535) (h9 : 0 ≤ a9 ∧ a9 ≤ 65535) : (firstV a2 a6 a7 a8 a9).length = 16 := by
  unfold firstV
  simp only [List.length_append]
  rw [nb4 h2.1 h2.2, nb4 h6.1 h6.2, nb4 h7.1 h7.2, nb2 h8.1 h8.2, nb2 h9.1 h9.2]
theorem value_v (t a1 a2 a3 a4 a5 a6 a7 a8 a9 : Int) (l10 : List S101) (l11 : List Int) (l12 : List S48) (l13 : List Int) (h : Fit t a1 a2 a3 a4 a5 a6 a7 a8 a9 l10 l11 l12 l13) (k : Nat) (l0 : List Int) (hk : 60 ≤ k) (hl0 : l0.length = 4) : chunk_value.f k t a1 a2 a3 a4 a5 a6 a7 a8 a9 l10 l11 l12 l13 l0 = some (l0 ++ valV t a1 a2 a3 a4 a5 a6 a7 a8 a9 l10 l11 l12 l13) := by
  unfold chunk_value.f valV
  by_cases c0 : ofT t = 53
  · rw [if_pos c0, if_pos c0]
    exact data_v k a2 a3 a4 a5 l13 l0 (by omega) h.b2 h.b3 h.b4 h.b5 (by omega) h.n13
  rw [if_neg c0, if_neg c0]
  by_cases c1 : ofT t = 80
  · rw [if_pos c1, if_pos c1]
    have q2 := nb_le a2 4
    have q6 := nb_le a6 4
    have q7 := nb_le a7 4
    have q8 := nb_le a8 2
    have q9 := nb_le a9 2
    have hfl := firstV_len h.b2 h.b6 h.b7 h.b8 h.b9
    unfold chunk_first.f chunk_layParams.f
    rw [i64w h.b6.1 (by have := h.b6; omega), i64w h.b7.1 (by have := h.b7; omega), i64w h.b8.1 (by have := h.b8; omega), i64w h.b9.1 (by have := h.b9; omega), i64w h.b2.1 (by have := h.b2; omega),
      lay_2 k l0 4 a6 a7 (by omega) (by decide) (by decide) h.b6.1 (by have := h.b6; omega) h.b7.1 (by have := h.b7; omega) (by omega), Option.bind_some,
      lay_2 k _ 2 a8 a9 (by omega) (by decide) (by decide) h.b8.1 (by have := h.b8; omega) h.b9.1 (by have := h.b9; omega) (by simp only [List.length_append]; omega), Option.bind_some,
      lay_1 k _ 4 a2 (by omega) (by decide) (by decide) h.b2.1 (by have := h.b2; omega) (by simp only [List.length_append]; omega), Option.bind_some]
    rw [show l0 ++ nb a6 4 ++ nb a7 4 ++ nb a8 2 ++ nb a9 2 ++ nb a2 4 = l0 ++ firstV a2 a6 a7 a8 a9 by unfold firstV; simp only [List.append_assoc]]
    obtain ⟨m, rfl⟩ : ∃ m, k = m + l12.length + 21 := ⟨k - l12.length - 21, by have := h.n12; omega⟩
    rw [show (0 : Int) = ((0 : Nat) : Int) from rfl, par_l0 l12 h.n12 h.e12 l12.length 0 m _ (by omega) (by rw [List.length_append]; omega) (.inr (by rw [List.length_append]; omega)), List.drop_zero, parV_app l0 (by omega)]
  rw [if_neg c1, if_neg c1]
  by_cases c2 : ofT t = 81
  · rw [if_pos c2, if_pos c2]
    have q2 := nb_le a2 4
    have q7 := nb_le a7 4
    have q10 := nb_le (l10.length : Int) 2
    have q11 := nb_le (l11.length : Int) 2
    have n10 := h.n10
    have n11 := h.n11
    have hb := blkV_len l10 (l0 ++ sackV a2 a7 l10 l11)
    unfold chunk_sack.f
    rw [i64w h.b2.1 (by have := h.b2; omega), i64w h.b7.1 (by have := h.b7; omega),
      lay_2 k l0 4 a2 a7 (by omega) (by decide) (by decide) h.b2.1 (by have := h.b2; omega) h.b7.1 (by have := h.b7; omega) (by omega), Option.bind_some,
      lay_2 k _ 2 _ _ (by omega) (by decide) (by decide) (by omega) (by omega) (by omega) (by omega) (by simp only [List.length_append]; omega), Option.bind_some]
    rw [show l0 ++ nb a2 4 ++ nb a7 4 ++ nb (l10.length : Int) 2 ++ nb (l11.length : Int) 2 = l0 ++ sackV a2 a7 l10 l11 by unfold sackV; simp only [List.append_assoc]]
    have hs : (l0 ++ sackV a2 a7 l10 l11).length ≤ 100 := by unfold sackV; simp only [List.length_append]; omega
    obtain ⟨m, hm⟩ : ∃ m, k = m + l10.length + 21 := ⟨k - l10.length - 21, by omega⟩
    have e1 := blk_p l10 h.n10 h.e10 l10.length 0 m (l0 ++ sackV a2 a7 l10 l11) (by omega) (by omega)
    rw [← hm, List.drop_zero] at e1
    obtain ⟨m2, hm2⟩ : ∃ m, k = m + l11.length + 21 := ⟨k - l11.length - 21, by omega⟩
    have e2 := dup_p l11 h.n11 h.e11 l11.length 0 m2 (blkV (l0 ++ sackV a2 a7 l10 l11) l10) (by omega) (by omega)
    rw [← hm2, List.drop_zero] at e2
    rw [show (0 : Int) = ((0 : Nat) : Int) from rfl, e1, Option.bind_some, e2, blkV_app, dupV_app]
  rw [if_neg c2, if_neg c2]
  by_cases c3 : ofT t = 82
  · rw [if_pos c3, if_pos c3]
    unfold chunk_layParams.f
    obtain ⟨m, rfl⟩ : ∃ m, k = m + l12.length + 21 := ⟨k - l12.length - 21, by have := h.n12; omega⟩
    have e := par_l0 l12 h.n12 h.e12 l12.length 0 m l0 (by omega) (by omega) (.inr (by omega))
    rw [List.drop_zero] at e
    rw [show (0 : Int) = ((0 : Nat) : Int) from rfl, e]
    have := parV_app l0 (by omega) l12 []
    rw [List.append_nil] at this
    rw [this]
  rw [if_neg c3, if_neg c3]
  by_cases c4 : ofT t = 83
  · rw [if_pos c4, if_pos c4, w64 (x := a2) (by have := h.b2; omega) (by have := h.b2; omega)]
    exact lay_1 k l0 4 a2 (by omega) (by decide) (by decide) h.b2.1 (by have := h.b2; omega) (by omega)
  rw [if_neg c4, if_neg c4]
  by_cases c5 : ofT t = 84
  · rw [if_pos c5, if_pos c5, List.append_nil]
  rw [if_neg c5, if_neg c5, if_pos (by have := h.n13; omega)]
end Go.Proofs.Ytaahkggbjpdofaa.Pure
end
section
/- Which chunks may be: the program's Check and the document's, in plain Lean. -/
namespace Go.Proofs.Ytaahkggbjpdofaa.Pure
open Go.RowKit Go.Proofs.Ytaahkggbjpdofaa.M Go.Proofs.YtaahkggbjpdofaaW.PrintWords Go.Proofs.YtaahkggbjpdofaaW.PrintLast Go.Proofs.YtaahkggbjpdofaaW.PrintMore
set_option linter.unusedVariables false
set_option linter.unusedSimpArgs false

theorem alike_f (t a1 a2 a3 a4 a5 a6 a7 a8 a9 : Int) (l10 : List S101) (l11 : List Int) (l12 : List S48) (l13 : List Int) (u b1 b2 b3 b4 b5 b6 b7 b8 b9 : Int) (m10 : List S101) (m11 : List Int) (m12 : List S48) (m13 : List Int) :
    chunk_alike.f t a1 a2 a3 a4 a5 a6 a7 a8 a9 l10 l11 l12 l13 u b1 b2 b3 b4 b5 b6 b7 b8 b9 m10 m11 m12 m13 = some (decide (a2 = b2 ∧ a3 = b3 ∧ a4 = b4 ∧ a5 = b5 ∧ a6 = b6 ∧ a7 = b7 ∧ a8 = b8 ∧ a9 = b9 ∧ l10.length = m10.length ∧ l11.length = m11.length ∧ l12.length = m12.length ∧ l13.length = m13.length)) := by
  unfold chunk_alike.f
  by_cases h2 : a2 = b2
  case neg => rw [if_neg h2]; exact congrArg some (decide_eq_false (fun h => h2 h.1)).symm
  by_cases h3 : a3 = b3
  case neg => rw [if_pos h2, if_neg h3]; exact congrArg some (decide_eq_false (fun h => h3 h.2.1)).symm
  by_cases h4 : a4 = b4
  case neg => rw [if_pos h2, if_pos h3, if_neg h4]; exact congrArg some (decide_eq_false (fun h => h4 h.2.2.1)).symm
  by_cases h5 : a5 = b5
  case neg => rw [if_pos h2, if_pos h3, if_pos h4, if_neg h5]; exact congrArg some (decide_eq_false (fun h => h5 h.2.2.2.1)).symm
  by_cases h6 : a6 = b6
  case neg => rw [if_pos h2, if_pos h3, if_pos h4, if_pos h5, if_neg h6]; exact congrArg some (decide_eq_false (fun h => h6 h.2.2.2.2.1)).symm
  by_cases h7 : a7 = b7
  case neg => rw [if_pos h2, if_pos h3, if_pos h4, if_pos h5, if_pos h6, if_neg h7]; exact congrArg some (decide_eq_false (fun h => h7 h.2.2.2.2.2.1)).symm
  by_cases h8 : a8 = b8
  case neg => rw [if_pos h2, if_pos h3, if_pos h4, if_pos h5, if_pos h6, if_pos h7, if_neg h8]; exact congrArg some (decide_eq_false (fun h => h8 h.2.2.2.2.2.2.1)).symm
  by_cases h9 : a9 = b9
  case neg => rw [if_pos h2, if_pos h3, if_pos h4, if_pos h5, if_pos h6, if_pos h7, if_pos h8, if_neg h9]; exact congrArg some (decide_eq_false (fun h => h9 h.2.2.2.2.2.2.2.1)).symm
  rw [if_pos h2, if_pos h3, if_pos h4, if_pos h5, if_pos h6, if_pos h7, if_pos h8, if_pos h9]
  by_cases e10 : l10.length = m10.length
  case neg => rw [if_neg (by omega)]; exact congrArg some (decide_eq_false (fun h => e10 h.2.2.2.2.2.2.2.2.1)).symm
  by_cases e11 : l11.length = m11.length
  case neg => rw [if_pos (by omega), if_neg (by omega)]; exact congrArg some (decide_eq_false (fun h => e11 h.2.2.2.2.2.2.2.2.2.1)).symm
  by_cases e12 : l12.length = m12.length
  case neg => rw [if_pos (by omega), if_pos (by omega), if_neg (by omega)]; exact congrArg some (decide_eq_false (fun h => e12 h.2.2.2.2.2.2.2.2.2.2.1)).symm
  rw [if_pos (by omega), if_pos (by omega), if_pos (by omega)]
  refine congrArg some ?_
  by_cases e13 : l13.length = m13.length
  · rw [decide_eq_true ⟨h2, h3, h4, h5, h6, h7, h8, h9, e10, e11, e12, e13⟩, e13]
    exact beq_self_eq_true _
  · rw [decide_eq_false (fun h => e13 h.2.2.2.2.2.2.2.2.2.2.2)]
    exact beq_eq_false_iff_ne.mpr (by omega)
theorem ofT_is (t : Int) (h0 : 0 ≤ t ∧ t ≤ 255) : (ofT t = 53 ∧ t = 0) ∨ (ofT t = 80 ∧ (t = 1 ∨ t = 2)) ∨ (ofT t = 81 ∧ t = 3) ∨ (ofT t = 82 ∧ (t = 4 ∨ t = 5 ∨ t = 6 ∨ t = 9)) ∨ (ofT t = 83 ∧ t = 7) ∨ (ofT t = 84 ∧ (t = 8 ∨ t = 11 ∨ t = 14)) ∨ (ofT t = 85 ∧ (t = 10 ∨ t = 12 ∨ t = 13 ∨ 14 < t)) := by
  unfold ofT
  by_cases e0 : t = 0
  · rw [if_pos e0]; exact .inl ⟨rfl, e0⟩
  rw [if_neg e0]
  by_cases e1 : t = 1 ∨ t = 2
  · rw [if_pos e1]; exact .inr (.inl ⟨rfl, e1⟩)
  rw [if_neg e1]
  by_cases e3 : t = 3
  · rw [if_pos e3]; exact .inr (.inr (.inl ⟨rfl, e3⟩))
  rw [if_neg e3]
  by_cases e4 : t = 4 ∨ t = 5 ∨ t = 6 ∨ t = 9
  · rw [if_pos e4]; exact .inr (.inr (.inr (.inl ⟨rfl, e4⟩)))
  rw [if_neg e4]
  by_cases e7 : t = 7
  · rw [if_pos e7]; exact .inr (.inr (.inr (.inr (.inl ⟨rfl, e7⟩))))
  rw [if_neg e7]
  by_cases e8 : t = 8 ∨ t = 11 ∨ t = 14
  · rw [if_pos e8]; exact .inr (.inr (.inr (.inr (.inr (.inl ⟨rfl, e8⟩)))))
  rw [if_neg e8]
  exact .inr (.inr (.inr (.inr (.inr (.inr ⟨rfl, by omega⟩)))))
theorem likes_f (t a1 a2 a3 a4 a5 a6 a7 a8 a9 : Int) (l10 : List S101) (l11 : List Int) (l12 : List S48) (l13 : List Int) (h0 : 0 ≤ t ∧ t ≤ 255) :
    chunk_likes.f t a1 a2 a3 a4 a5 a6 a7 a8 a9 l10 l11 l12 l13 = some (decide (¬ oddB t a1 a2 a3 a4 a5 a6 a7 a8 a9 l10 l11 l12 l13)) := by
  rcases ofT_is t h0 with ⟨hT, ht⟩ | ⟨hT, ht⟩ | ⟨hT, ht⟩ | ⟨hT, ht⟩ | ⟨hT, ht⟩ | ⟨hT, ht⟩ | ⟨hT, ht⟩
  · rw [likes_53 _ _ _ _ _ _ _ _ _ _ _ _ _ _ hT, alike_f]
    refine congrArg some (decide_eq_decide.mpr ?_)
    unfold oddB
    simp only [List.length_nil, true_and, and_true]
    first | omega | (constructor <;> intro h <;> (try simp only [not_or, not_and, Classical.not_not] at h ⊢) <;> omega) | (constructor <;> intro h <;> simp_all <;> omega)
  · rw [likes_80 _ _ _ _ _ _ _ _ _ _ _ _ _ _ hT, alike_f]
    refine congrArg some (decide_eq_decide.mpr ?_)
    unfold oddB
    simp only [List.length_nil, true_and, and_true]
    first | omega | (constructor <;> intro h <;> (try simp only [not_or, not_and, Classical.not_not] at h ⊢) <;> omega) | (constructor <;> intro h <;> simp_all <;> omega)
  · rw [likes_81 _ _ _ _ _ _ _ _ _ _ _ _ _ _ hT, alike_f]
    refine congrArg some (decide_eq_decide.mpr ?_)
    unfold oddB
    simp only [List.length_nil, true_and, and_true]
    first | omega | (constructor <;> intro h <;> (try simp only [not_or, not_and, Classical.not_not] at h ⊢) <;> omega) | (constructor <;> intro h <;> simp_all <;> omega)
  · rw [likes_82 _ _ _ _ _ _ _ _ _ _ _ _ _ _ hT, alike_f]
    refine congrArg some (decide_eq_decide.mpr ?_)
    unfold oddB
    simp only [List.length_nil, true_and, and_true]
    first | omega | (constructor <;> intro h <;> (try simp only [not_or, not_and, Classical.not_not] at h ⊢) <;> omega) | (constructor <;> intro h <;> simp_all <;> omega)
  · rw [likes_83 _ _ _ _ _ _ _ _ _ _ _ _ _ _ hT, alike_f]
    refine congrArg some (decide_eq_decide.mpr ?_)
    unfold oddB
    simp only [List.length_nil, true_and, and_true]
    first | omega | (constructor <;> intro h <;> (try simp only [not_or, not_and, Classical.not_not] at h ⊢) <;> omega) | (constructor <;> intro h <;> simp_all <;> omega)
  · rw [likes_84 _ _ _ _ _ _ _ _ _ _ _ _ _ _ hT, alike_f]
    refine congrArg some (decide_eq_decide.mpr ?_)
    unfold oddB
    simp only [List.length_nil, true_and, and_true]
    first | omega | (constructor <;> intro h <;> (try simp only [not_or, not_and, Classical.not_not] at h ⊢) <;> omega) | (constructor <;> intro h <;> simp_all <;> omega)
  · rw [likes_85 _ _ _ _ _ _ _ _ _ _ _ _ _ _ hT, alike_f]
    refine congrArg some (decide_eq_decide.mpr ?_)
    unfold oddB
    simp only [List.length_nil, true_and, and_true]
    first | omega | (constructor <;> intro h <;> (try simp only [not_or, not_and, Classical.not_not] at h ⊢) <;> omega) | (constructor <;> intro h <;> simp_all <;> omega)
theorem parV_len : ∀ (l : List S48) (b : List Int), (∀ p ∈ l, p.f1.length ≤ 1480) → (parV b l).length ≤ b.length + l.length * 1500
  | [], b, h => by simp [parV]
  | p :: ps, b, h => by
    have hp := pad4_len b
    have h1 := nb_le p.f0 2
    have h2 := nb_le (4 + (p.f1.length : Int)) 2
    have h3 := h p (by simp)
    have ih := parV_len ps (pad4 b ++ nb p.f0 2 ++ nb (4 + (p.f1.length : Int)) 2 ++ p.f1) (fun q hq => h q (by simp [hq]))
    simp only [List.length_append, List.length_cons] at ih ⊢
    rw [parV]
    omega
theorem dupV_len : ∀ (l : List Int) (b : List Int), (dupV b l).length ≤ b.length + l.length * 8
  | [], b => by simp [dupV]
  | p :: ps, b => by
    have h := dupV_len ps (b ++ nb p 4)
    have h1 := nb_le p 4
    simp only [List.length_append, List.length_cons] at h ⊢
    rw [dupV]
    omega
theorem valV_len (t a1 a2 a3 a4 a5 a6 a7 a8 a9 : Int) (l10 : List S101) (l11 : List Int) (l12 : List S48) (l13 : List Int) (h : Fit t a1 a2 a3 a4 a5 a6 a7 a8 a9 l10 l11 l12 l13) : (valV t a1 a2 a3 a4 a5 a6 a7 a8 a9 l10 l11 l12 l13).length ≤ 40000 := by
  have n10 := h.n10
  have n11 := h.n11
  have n12 := h.n12
  have n13 := h.n13
  have q2 := nb_le a2 4
  have q3 := nb_le a3 2
  have q4 := nb_le a4 2
  have q5 := nb_le a5 4
  have q7 := nb_le a7 4
  have q10 := nb_le (l10.length : Int) 2
  have q11 := nb_le (l11.length : Int) 2
  have hf := firstV_len h.b2 h.b6 h.b7 h.b8 h.b9
  have p1 := parV_len l12 (firstV a2 a6 a7 a8 a9) (fun p hp => (h.e12 p hp).2)
  have p2 := parV_len l12 [] (fun p hp => (h.e12 p hp).2)
  have hs : (sackV a2 a7 l10 l11).length ≤ 32 := by unfold sackV; simp only [List.length_append]; omega
  have p3 := blkV_len l10 (sackV a2 a7 l10 l11)
  have p4 := dupV_len l11 (blkV (sackV a2 a7 l10 l11) l10)
  rw [List.length_nil] at p2
  unfold valV
  split
  · simp only [List.length_append]; omega
  split
  · omega
  split
  · omega
  split
  · omega
  split
  · omega
  split
  · simp
  omega
/-- A chunk's bytes, padded. -/
def byV (t a1 a2 a3 a4 a5 a6 a7 a8 a9 : Int) (l10 : List S101) (l11 : List Int) (l12 : List S48) (l13 : List Int) : List Int := pad4 ([t, a1] ++ nb (4 + ((valV t a1 a2 a3 a4 a5 a6 a7 a8 a9 l10 l11 l12 l13).length : Int)) 2 ++ valV t a1 a2 a3 a4 a5 a6 a7 a8 a9 l10 l11 l12 l13)
theorem byV_len (t a1 a2 a3 a4 a5 a6 a7 a8 a9 : Int) (l10 : List S101) (l11 : List Int) (l12 : List S48) (l13 : List Int) (h : Fit t a1 a2 a3 a4 a5 a6 a7 a8 a9 l10 l11 l12 l13) : (byV t a1 a2 a3 a4 a5 a6 a7 a8 a9 l10 l11 l12 l13).length = 4 + (valV t a1 a2 a3 a4 a5 a6 a7 a8 a9 l10 l11 l12 l13).length + (4 - (4 + (valV t a1 a2 a3 a4 a5 a6 a7 a8 a9 l10 l11 l12 l13).length) % 4) % 4 := by
  have hv := valV_len t a1 a2 a3 a4 a5 a6 a7 a8 a9 l10 l11 l12 l13 h
  unfold byV pad4
  simp only [List.length_append, List.length_replicate]
  rw [nb2 (v := 4 + ((valV t a1 a2 a3 a4 a5 a6 a7 a8 a9 l10 l11 l12 l13).length : Int)) (by omega) (by omega)]
  show 2 + 2 + _ + _ = _
  try rfl
/-- What is wrong with a chunk. -/
def ckV (t a1 a2 a3 a4 a5 a6 a7 a8 a9 : Int) (l10 : List S101) (l11 : List Int) (l12 : List S48) (l13 : List Int) : Int :=
  if oddB t a1 a2 a3 a4 a5 a6 a7 a8 a9 l10 l11 l12 l13 then 2 else if t = 0 ∧ l13.length = 0 then 2 else if 16 < l12.length then 6 else if 16 < l10.length then 6 else if 16 < l11.length then 6 else if 1480 < l13.length then 6 else if (l12.any fun p => decide (1480 < p.f1.length)) = true then 6 else if 1468 < 4 + (valV t a1 a2 a3 a4 a5 a6 a7 a8 a9 l10 l11 l12 l13).length then 6 else 0
/-- The fields' ranges. -/
structure Wf (t a1 a2 a3 a4 a5 a6 a7 a8 a9 : Int) (l10 : List S101) (l11 : List Int) (l12 : List S48) (l13 : List Int) : Prop where
  t0 : 0 ≤ t ∧ t ≤ 255
  b1 : 0 ≤ a1 ∧ a1 ≤ 255
  b2 : 0 ≤ a2 ∧ a2 ≤ 4294967295
  b3 : 0 ≤ a3 ∧ a3 ≤ 65535
  b4 : 0 ≤ a4 ∧ a4 ≤ 65535
  b5 : 0 ≤ a5 ∧ a5 ≤ 4294967295
  b6 : 0 ≤ a6 ∧ a6 ≤ 4294967295
  b7 : 0 ≤ a7 ∧ a7 ≤ 4294967295
  b8 : 0 ≤ a8 ∧ a8 ≤ 65535
  b9 : 0 ≤ a9 ∧ a9 ≤ 65535
  e10 : ∀ p ∈ l10, (0 ≤ p.f0 ∧ p.f0 ≤ 65535) ∧ (0 ≤ p.f1 ∧ p.f1 ≤ 65535)
  e11 : ∀ p ∈ l11, 0 ≤ p ∧ p ≤ 4294967295
  e12 : ∀ p ∈ l12, 0 ≤ p.f0 ∧ p.f0 ≤ 65535
theorem Wf.fit (t a1 a2 a3 a4 a5 a6 a7 a8 a9 : Int) (l10 : List S101) (l11 : List Int) (l12 : List S48) (l13 : List Int) (h : Wf t a1 a2 a3 a4 a5 a6 a7 a8 a9 l10 l11 l12 l13) (n12 : ¬ 16 < l12.length) (n10 : ¬ 16 < l10.length) (n11 : ¬ 16 < l11.length) (n13 : ¬ 1480 < l13.length) (ha : ¬ (l12.any fun p => decide (1480 < p.f1.length)) = true) : Fit t a1 a2 a3 a4 a5 a6 a7 a8 a9 l10 l11 l12 l13 :=
  ⟨h.t0, h.b1, h.b2, h.b3, h.b4, h.b5, h.b6, h.b7, h.b8, h.b9, by omega, by omega, by omega, by omega, h.e10, h.e11, fun p hp => ⟨h.e12 p hp, by
    by_cases hq : 1480 < p.f1.length
    · exact absurd (List.any_eq_true.2 ⟨p, hp, decide_eq_true hq⟩) ha
    · omega⟩⟩
theorem check_v (t a1 a2 a3 a4 a5 a6 a7 a8 a9 : Int) (l10 : List S101) (l11 : List Int) (l12 : List S48) (l13 : List Int) (h : Wf t a1 a2 a3 a4 a5 a6 a7 a8 a9 l10 l11 l12 l13) (k : Nat) (hk : 60 ≤ k) : chunk_Check.f k t a1 a2 a3 a4 a5 a6 a7 a8 a9 l10 l11 l12 l13 = some (ckV t a1 a2 a3 a4 a5 a6 a7 a8 a9 l10 l11 l12 l13) := by
  unfold chunk_Check.f ckV
  rw [likes_f t a1 a2 a3 a4 a5 a6 a7 a8 a9 l10 l11 l12 l13 h.t0, Option.bind_some]
  by_cases ho : oddB t a1 a2 a3 a4 a5 a6 a7 a8 a9 l10 l11 l12 l13
  · rw [if_pos (decide_eq_false (fun hn => hn ho)), if_pos ho]
  rw [if_neg (by rw [decide_eq_true ho]; decide), if_neg ho]
  have hT : (ofT t = 53 ∧ l13.length = 0) ↔ (t = 0 ∧ l13.length = 0) := by
    rcases ofT_is t h.t0 with hh | hh | hh | hh | hh | hh | hh <;> omega
  by_cases h0 : t = 0 ∧ l13.length = 0
  · rw [if_pos (hT.mpr h0), if_pos h0]
  rw [if_neg (fun hh => h0 (hT.mp hh)), if_neg h0]
  by_cases h12 : 16 < l12.length
  · rw [if_pos h12, if_pos h12]
  rw [if_neg h12, if_neg h12]
  by_cases h10 : 16 < l10.length
  · rw [if_pos h10, if_pos h10]
  rw [if_neg h10, if_neg h10]
  by_cases h11 : 16 < l11.length
  · rw [if_pos h11, if_pos h11]
  rw [if_neg h11, if_neg h11]
  by_cases h13 : 1480 < l13.length
  · rw [if_pos h13, if_pos h13]
  rw [if_neg h13, if_neg h13]
  by_cases ha : (l12.any fun p => decide (1480 < p.f1.length)) = true
  · rw [if_pos ha, if_pos ha]
  rw [if_neg ha, if_neg ha, value_v t a1 a2 a3 a4 a5 a6 a7 a8 a9 l10 l11 l12 l13 (h.fit _ _ _ _ _ _ _ _ _ _ _ _ _ _ h12 h10 h11 h13 ha) k [0, 0, 0, 0] hk rfl, Option.bind_some, List.length_append]
  show (if 1468 < 4 + (valV t a1 a2 a3 a4 a5 a6 a7 a8 a9 l10 l11 l12 l13).length then some 6 else some 0) = _
  split <;> rfl
theorem num_22 (a b : Int) (V : List Int) (hV : V.length ≤ 1000000) {k : Nat} (hk : 9 ≤ k) : octet_Num.f k (a :: b :: 0 :: 0 :: V) 2 2 = some (0, 0) := by
  refine up_ (octet_Num.mono _ 2 2) hk ?_
  unfold octet_Num.f octet_wide.f
  have hl : (a :: b :: 0 :: 0 :: V).length = V.length + 4 := rfl
  have hr : (if (2 : Int) < 0 ∨ (2 : Int) > ((a :: b :: 0 :: 0 :: V).length : Int) ∨ (2 : Int) < 0 then (2 : Int) else if (2 : Int) > ((a :: b :: 0 :: 0 :: V).length : Int) - 2 then 3 else 0) = 0 := by rw [hl, if_neg (by omega), if_neg (by omega)]
  rw [room_ev _ 2 2 (by rw [hl]; omega) (by decide) 8, if_pos (by decide), show decide ((2 : Int) ≤ 8) = true by decide]
  simp only [Option.bind_some, if_true]
  rw [hr, if_pos rfl, if_pos (by decide), w64 (x := 2 + 2) (by decide) (by decide), if_pos (by decide), if_pos (by rw [hl]; omega)]
  exact num_l0 [0, 0] (fun x hx => by simp at hx; omega) (by decide) 2 0 6 0 (by decide) (by decide) (by decide)
theorem set_r (a b : Int) (V : List Int) (hV : V.length ≤ 60000) {k : Nat} (hk : 20 ≤ k) : octet_Set.f k (a :: b :: 0 :: 0 :: V) 2 (4 + (V.length : Int)) 2 = some ([a, b] ++ nb (4 + (V.length : Int)) 2 ++ V, 0) := by
  have h2 := nb2 (v := 4 + (V.length : Int)) (by omega) (by omega)
  have hs : (bytesS (4 + (V.length : Int)) 2).2 = 0 := by
    unfold bytesS
    rw [if_pos (by decide), show (2 : Int).toNat = 2 from rfl, if_neg (by rw [show (256 : Int) ^ 2 = 65536 by decide]; omega)]
  have hl : (a :: b :: 0 :: 0 :: V).length = V.length + 4 := rfl
  unfold octet_Set.f
  rw [num_22 a b V (by omega) (by omega), Option.bind_some, if_pos rfl, bytes_f _ 2 (by omega) (by omega) (n_wf 2 (by decide) (by decide)) (by omega), Option.bind_some, if_pos hs, if_pos ⟨by decide, by decide, by rw [hl]; omega, by unfold nb at h2; rw [h2]; rfl, by rw [hl]; omega⟩]
  rfl
/-- A chunk's bytes, without padding. -/
theorem bytes_v (t a1 a2 a3 a4 a5 a6 a7 a8 a9 : Int) (l10 : List S101) (l11 : List Int) (l12 : List S48) (l13 : List Int) (h : Fit t a1 a2 a3 a4 a5 a6 a7 a8 a9 l10 l11 l12 l13) (k : Nat) (hk : 60 ≤ k) : chunk_bytes.f k t a1 a2 a3 a4 a5 a6 a7 a8 a9 l10 l11 l12 l13 = some ([t, a1] ++ nb (4 + ((valV t a1 a2 a3 a4 a5 a6 a7 a8 a9 l10 l11 l12 l13).length : Int)) 2 ++ valV t a1 a2 a3 a4 a5 a6 a7 a8 a9 l10 l11 l12 l13) := by
  have hv := valV_len t a1 a2 a3 a4 a5 a6 a7 a8 a9 l10 l11 l12 l13 h
  unfold chunk_bytes.f
  rw [value_v t a1 a2 a3 a4 a5 a6 a7 a8 a9 l10 l11 l12 l13 h k [t, a1, 0, 0] hk rfl, Option.bind_some]
  have hl : ([t, a1, 0, 0] ++ valV t a1 a2 a3 a4 a5 a6 a7 a8 a9 l10 l11 l12 l13).length = 4 + (valV t a1 a2 a3 a4 a5 a6 a7 a8 a9 l10 l11 l12 l13).length := by rw [List.length_append]; rfl
  rw [hl, wrapu (x := ((4 + (valV t a1 a2 a3 a4 a5 a6 a7 a8 a9 l10 l11 l12 l13).length : Nat) : Int)) (by omega) (by omega), show ((4 + (valV t a1 a2 a3 a4 a5 a6 a7 a8 a9 l10 l11 l12 l13).length : Nat) : Int) = 4 + ((valV t a1 a2 a3 a4 a5 a6 a7 a8 a9 l10 l11 l12 l13).length : Int) by omega]
  show (octet_Set.f k (t :: a1 :: 0 :: 0 :: valV t a1 a2 a3 a4 a5 a6 a7 a8 a9 l10 l11 l12 l13) 2 _ 2).bind _ = _
  rw [set_r t a1 _ (by omega) (by omega), Option.bind_some]
theorem padded_f (n : Int) (h0 : 0 ≤ n) (h1 : n ≤ 1000000) : chunk_padded.f n = some ((n + 3) / 4 * 4) := by
  unfold chunk_padded.f
  rw [w64 (x := n + 3) (by omega) (by omega), Int.tdiv_eq_ediv_of_nonneg (by omega), w64 (x := (n + 3) / 4) (by omega) (by omega), w64 (x := (n + 3) / 4 * 4) (by omega) (by omega)]
theorem fit_of_ok (t a1 a2 a3 a4 a5 a6 a7 a8 a9 : Int) (l10 : List S101) (l11 : List Int) (l12 : List S48) (l13 : List Int) (h : Wf t a1 a2 a3 a4 a5 a6 a7 a8 a9 l10 l11 l12 l13) (h0 : ckV t a1 a2 a3 a4 a5 a6 a7 a8 a9 l10 l11 l12 l13 = 0) : Fit t a1 a2 a3 a4 a5 a6 a7 a8 a9 l10 l11 l12 l13 := by
  unfold ckV at h0
  split at h0
  · cases h0
  split at h0
  · cases h0
  split at h0
  · cases h0
  rename_i n12
  split at h0
  · cases h0
  rename_i n10
  split at h0
  · cases h0
  rename_i n11
  split at h0
  · cases h0
  rename_i n13
  split at h0
  · cases h0
  rename_i na
  exact h.fit _ _ _ _ _ _ _ _ _ _ _ _ _ _ n12 n10 n11 n13 na
/-- How many bytes a chunk has, with padding. -/
def szV (t a1 a2 a3 a4 a5 a6 a7 a8 a9 : Int) (l10 : List S101) (l11 : List Int) (l12 : List S48) (l13 : List Int) : Int := if ckV t a1 a2 a3 a4 a5 a6 a7 a8 a9 l10 l11 l12 l13 = 0 then ((byV t a1 a2 a3 a4 a5 a6 a7 a8 a9 l10 l11 l12 l13).length : Int) else 0
theorem size_v (t a1 a2 a3 a4 a5 a6 a7 a8 a9 : Int) (l10 : List S101) (l11 : List Int) (l12 : List S48) (l13 : List Int) (h : Wf t a1 a2 a3 a4 a5 a6 a7 a8 a9 l10 l11 l12 l13) (k : Nat) (hk : 60 ≤ k) : chunk_Size.f k t a1 a2 a3 a4 a5 a6 a7 a8 a9 l10 l11 l12 l13 = some (szV t a1 a2 a3 a4 a5 a6 a7 a8 a9 l10 l11 l12 l13) := by
  unfold chunk_Size.f szV
  rw [check_v t a1 a2 a3 a4 a5 a6 a7 a8 a9 l10 l11 l12 l13 h k hk, Option.bind_some]
  by_cases h0 : ckV t a1 a2 a3 a4 a5 a6 a7 a8 a9 l10 l11 l12 l13 = 0
  · rw [if_pos h0, if_pos h0]
    have hf := fit_of_ok t a1 a2 a3 a4 a5 a6 a7 a8 a9 l10 l11 l12 l13 h h0
    have hv := valV_len t a1 a2 a3 a4 a5 a6 a7 a8 a9 l10 l11 l12 l13 hf
    have hb := byV_len t a1 a2 a3 a4 a5 a6 a7 a8 a9 l10 l11 l12 l13 hf
    rw [bytes_v t a1 a2 a3 a4 a5 a6 a7 a8 a9 l10 l11 l12 l13 hf k hk, Option.bind_some]
    have hl : ([t, a1] ++ nb (4 + ((valV t a1 a2 a3 a4 a5 a6 a7 a8 a9 l10 l11 l12 l13).length : Int)) 2 ++ valV t a1 a2 a3 a4 a5 a6 a7 a8 a9 l10 l11 l12 l13).length = 4 + (valV t a1 a2 a3 a4 a5 a6 a7 a8 a9 l10 l11 l12 l13).length := by
      simp only [List.length_append]
      rw [nb2 (v := 4 + ((valV t a1 a2 a3 a4 a5 a6 a7 a8 a9 l10 l11 l12 l13).length : Int)) (by omega) (by omega)]
      show 2 + 2 + _ = _
      omega
    rw [hl, padded_f _ (by omega) (by omega), Option.bind_some, hb]
    refine congrArg some ?_
    omega
  · rw [if_neg h0, if_neg h0]
end Go.Proofs.Ytaahkggbjpdofaa.Pure
end
section
/- The packet's sum: the program's Stamp is the document's (plain). -/
namespace Go.Proofs.Ytaahkggbjpdofaa.Pure
open Go.RowKit Go.Proofs.Ytaahkggbjpdofaa.M Go.Proofs.YtaahkggbjpdofaaW.PrintWords Go.Proofs.YtaahkggbjpdofaaW.PrintLast Go.Proofs.YtaahkggbjpdofaaW.PrintMore
set_option linter.unusedVariables false
set_option linter.unusedSimpArgs false
theorem xor_max {r : Int} (h0 : 0 ≤ r) (h1 : r < 4294967296) : Go.bits .xor .u32 IntKind.u32.max r = 4294967295 - r := by
  obtain ⟨m, rfl⟩ := Int.eq_ofNat_of_zero_le h0
  have hm : m < 4294967296 := by omega
  have e : Go.bits .xor .u32 ((4294967295 : Nat) : Int) (m : Int) = ((4294967295 ^^^ m : Nat) : Int) := xor_nat 4294967295 m (by decide) hm
  have h2 : 4294967295 ^^^ m = 4294967295 - m := by
    have hb : ((BitVec.allOnes 32) ^^^ (BitVec.ofNat 32 m)).toNat = 4294967295 ^^^ m := by
      rw [BitVec.toNat_xor, BitVec.toNat_ofNat, BitVec.toNat_allOnes, Nat.mod_eq_of_lt hm]
    rw [← hb, BitVec.allOnes_xor, BitVec.toNat_not, BitVec.toNat_ofNat, Nat.mod_eq_of_lt hm]
  have h3 : Go.bits .xor .u32 IntKind.u32.max (m : Int) = Go.bits .xor .u32 ((4294967295 : Nat) : Int) (m : Int) := by congr 1
  rw [h3, e, h2]
  omega
/-- A packet's first twelve bytes, and the rest. -/
theorem twelve (l : List Int) (h : 12 ≤ l.length) : ∃ e0 e1 e2 e3 e4 e5 e6 e7 e8 e9 e10 e11 r, l = e0 :: e1 :: e2 :: e3 :: e4 :: e5 :: e6 :: e7 :: e8 :: e9 :: e10 :: e11 :: r := by
  match l, h with
  | e0 :: e1 :: e2 :: e3 :: e4 :: e5 :: e6 :: e7 :: e8 :: e9 :: e10 :: e11 :: r, _ => exact ⟨e0, e1, e2, e3, e4, e5, e6, e7, e8, e9, e10, e11, r, rfl⟩
  | [], h | [_], h | [_, _], h | [_, _, _], h | [_, _, _, _], h | [_, _, _, _, _], h | [_, _, _, _, _, _], h | [_, _, _, _, _, _, _], h | [_, _, _, _, _, _, _, _], h | [_, _, _, _, _, _, _, _, _], h | [_, _, _, _, _, _, _, _, _, _], h | [_, _, _, _, _, _, _, _, _, _, _], h => exact absurd h (by simp)
/-- A packet with its sum. -/
def stampV (l : List Int) : List Int := l.take 8 ++ [(4294967295 - crcL (l.take 8 ++ [0, 0, 0, 0] ++ l.drop 12) 4294967295) % 256, (4294967295 - crcL (l.take 8 ++ [0, 0, 0, 0] ++ l.drop 12) 4294967295) / 256 % 256, (4294967295 - crcL (l.take 8 ++ [0, 0, 0, 0] ++ l.drop 12) 4294967295) / 65536 % 256, (4294967295 - crcL (l.take 8 ++ [0, 0, 0, 0] ++ l.drop 12) 4294967295) / 16777216 % 256] ++ l.drop 12
theorem zeroed_range (l : List Int) (hb : ∀ x ∈ l, 0 ≤ x ∧ x ≤ 255) : ∀ x ∈ l.take 8 ++ [0, 0, 0, 0] ++ l.drop 12, 0 ≤ x ∧ x ≤ 255 := by
  intro x hx
  rcases List.mem_append.mp hx with h | h
  · rcases List.mem_append.mp h with h | h
    · exact hb x (List.mem_of_mem_take h)
    · simp only [List.mem_cons, List.not_mem_nil, or_false, or_self] at h
      subst h; decide
  · exact hb x (List.mem_of_mem_drop h)
theorem stamp_v (l : List Int) (hl : 12 ≤ l.length) (hl2 : l.length ≤ 1000000) (hb : ∀ x ∈ l, 0 ≤ x ∧ x ≤ 255) {k : Nat} (hk : 20 ≤ k) : sums_Stamp.f k l = some (stampV l, 0) := by
  have hz := zeroed_range l hb
  have hr := crcL_range _ 4294967295 hz (by decide) (by decide)
  have hc := xor_max hr.1 hr.2
  obtain ⟨c, hcc⟩ : ∃ c, c = 4294967295 - crcL (l.take 8 ++ [0, 0, 0, 0] ++ l.drop 12) 4294967295 := ⟨_, rfl⟩
  unfold sums_Stamp.f sums_Crc.f stampV
  rw [if_neg (by omega), if_pos (by omega), if_pos (by simp only [List.length_append, List.length_take, List.length_drop, List.length_cons, List.length_nil]; omega), Option.bind_some, hc, ← hcc, wrapu (by omega) (by omega), bytes_f c 4 (by omega) (by omega) (i64_wf (by decide) (by decide)) (by omega), Option.bind_some]
  have h4 : (bytesS c 4).1 = [c / 16777216 % 256, c / 65536 % 256, c / 256 % 256, c % 256] := by
    unfold bytesS
    rw [if_pos (by decide), show (4 : Int).toNat = 4 from rfl, if_neg (by rw [show (256 : Int) ^ 4 = 4294967296 by decide]; omega)]
    show bytesL c 4 = _
    simp only [bytesL, List.nil_append, List.cons_append]
    have d1 : c / 256 / 256 = c / 65536 := by omega
    have d2 : c / 65536 / 256 = c / 16777216 := by omega
    rw [d1, d2]
  rw [h4]
  have hrev : slices_Reverse_byte_byte.f k [c / 16777216 % 256, c / 65536 % 256, c / 256 % 256, c % 256] = some [c % 256, c / 256 % 256, c / 65536 % 256, c / 16777216 % 256] := by
    refine up_ (fun j => slices_Reverse_byte_byte.mono _ j) hk ?_
    have z1 : wrap64 (((4 : Nat) : Int) - 1) = 3 := by rw [w64 (by decide) (by decide)]; rfl
    have z2 : wrap64 (0 + 1) = 1 := by rw [w64 (by decide) (by decide)]; rfl
    have z3 : wrap64 (3 - 1) = 2 := by rw [w64 (by decide) (by decide)]; rfl
    have z4 : wrap64 (1 + 1) = 2 := by rw [w64 (by decide) (by decide)]; rfl
    have z5 : wrap64 (2 - 1) = 1 := by rw [w64 (by decide) (by decide)]; rfl
    unfold slices_Reverse_byte_byte.f
    rw [show [c / 16777216 % 256, c / 65536 % 256, c / 256 % 256, c % 256].length = 4 from rfl, z1]
    rw [slices_Reverse_byte_byte.l0, if_pos (by decide), if_pos (by decide), if_pos (by show (3 : Int) < 4; decide), if_pos (by decide), if_pos (by show (0 : Int) < 4; decide), z2, z3]
    rw [slices_Reverse_byte_byte.l0, if_pos (by decide), if_pos (by decide), if_pos (by show (2 : Int) < 4; decide), if_pos (by decide), if_pos (by show (1 : Int) < 4; decide), z4, z5]
    rw [slices_Reverse_byte_byte.l0, if_neg (by decide)]
    rfl
  rw [hrev, Option.bind_some, if_pos (by rfl)]
theorem stampV_len (l : List Int) (hl : 12 ≤ l.length) : (stampV l).length = l.length := by
  unfold stampV
  simp only [List.length_append, List.length_take, List.length_drop, List.length_cons, List.length_nil]
  omega
end Go.Proofs.Ytaahkggbjpdofaa.Pure
end
section
/- What the program's Put tells, in plain Lean. -/
namespace Go.Proofs.Ytaahkggbjpdofaa.Pure
open Go.RowKit Go.Proofs.Ytaahkggbjpdofaa.M Go.Proofs.YtaahkggbjpdofaaW.PrintWords Go.Proofs.YtaahkggbjpdofaaW.PrintLast Go.Proofs.YtaahkggbjpdofaaW.PrintMore
set_option linter.unusedVariables false
set_option linter.unusedSimpArgs false
abbrev Bys (l : List Int) : Prop := ∀ x ∈ l, 0 ≤ x ∧ x ≤ 255
theorem bys_app {a b : List Int} (ha : Bys a) (hb : Bys b) : Bys (a ++ b) := fun x hx => (List.mem_append.mp hx).elim (ha x) (hb x)
theorem nb_bys (v n : Int) : Bys (nb v n) := by
  intro x hx
  unfold nb bytesS at hx
  split at hx
  · split at hx
    · cases hx
    · exact bytesL_range _ _ x hx
  · cases hx
theorem pad4_bys {b : List Int} (h : Bys b) : Bys (pad4 b) := by
  unfold pad4
  exact bys_app h (fun x hx => by have := List.eq_of_mem_replicate hx; omega)
theorem parV_bys : ∀ (l : List S48) (b : List Int), Bys b → (∀ p ∈ l, Bys p.f1) → Bys (parV b l)
  | [], b, hb, h => hb
  | p :: ps, b, hb, h => parV_bys ps _ (bys_app (bys_app (bys_app (pad4_bys hb) (nb_bys _ _)) (nb_bys _ _)) (h p (by simp))) (fun q hq => h q (by simp [hq]))
theorem blkV_bys : ∀ (l : List S101) (b : List Int), Bys b → Bys (blkV b l)
  | [], b, hb => hb
  | p :: ps, b, hb => blkV_bys ps _ (bys_app (bys_app hb (nb_bys _ _)) (nb_bys _ _))
theorem dupV_bys : ∀ (l : List Int) (b : List Int), Bys b → Bys (dupV b l)
  | [], b, hb => hb
  | p :: ps, b, hb => dupV_bys ps _ (bys_app hb (nb_bys _ _))
theorem valV_bys (t a1 a2 a3 a4 a5 a6 a7 a8 a9 : Int) (l10 : List S101) (l11 : List Int) (l12 : List S48) (l13 : List Int) (h12 : ∀ p ∈ l12, Bys p.f1) (h13 : Bys l13) : Bys (valV t a1 a2 a3 a4 a5 a6 a7 a8 a9 l10 l11 l12 l13) := by
  have hnil : Bys [] := fun x hx => by cases hx
  unfold valV
  split
  · exact bys_app (bys_app (bys_app (bys_app (nb_bys _ _) (nb_bys _ _)) (nb_bys _ _)) (nb_bys _ _)) h13
  split
  · exact parV_bys _ _ (bys_app (bys_app (bys_app (bys_app (nb_bys _ _) (nb_bys _ _)) (nb_bys _ _)) (nb_bys _ _)) (nb_bys _ _)) h12
  split
  · exact dupV_bys _ _ (blkV_bys _ _ (bys_app (bys_app (bys_app (nb_bys _ _) (nb_bys _ _)) (nb_bys _ _)) (nb_bys _ _)))
  split
  · exact parV_bys _ _ hnil h12
  split
  · exact nb_bys _ _
  split
  · exact hnil
  · exact h13
abbrev ckC (c : S29) : Int := ckV c.f0 c.f1 c.f2 c.f3 c.f4 c.f5 c.f6 c.f7 c.f8 c.f9 c.f10 c.f11 c.f12 c.f13
abbrev byC (c : S29) : List Int := byV c.f0 c.f1 c.f2 c.f3 c.f4 c.f5 c.f6 c.f7 c.f8 c.f9 c.f10 c.f11 c.f12 c.f13
abbrev WfC (c : S29) : Prop := Wf c.f0 c.f1 c.f2 c.f3 c.f4 c.f5 c.f6 c.f7 c.f8 c.f9 c.f10 c.f11 c.f12 c.f13
/-- Of what comes in: the fields' ranges, and the bytes'. -/
structure In (c : S29) : Prop where
  wf : WfC c
  b12 : ∀ p ∈ c.f12, Bys p.f1
  b13 : Bys c.f13
theorem in_of_ok {c : S29} (o : ok29 c) : In c := by
  obtain ⟨w0, w1, w2, w3, w4, w5, w6, w7, w8, w9, ⟨m10, s10, o10⟩, ⟨m11, s11, o11⟩, ⟨m12, s12, o12⟩, ⟨m13, s13, o13⟩⟩ := o
  exact ⟨⟨wf_u8 w0, wf_u8 w1, wf_u32 w2, wf_u16 w3, wf_u16 w4, wf_u32 w5, wf_u32 w6, wf_u32 w7, wf_u16 w8, wf_u16 w9, fun p hp => ⟨wf_u16 (o10 p hp).1, wf_u16 (o10 p hp).2⟩, fun p hp => wf_u32 (o11 p hp), fun p hp => wf_u16 (o12 p hp).1⟩, fun p hp => wf_bytes (o12 p hp).2.2.2, wf_bytes o13⟩
theorem byC_bys {c : S29} (h : In c) : Bys (byC c) := by
  refine pad4_bys (bys_app (bys_app ?_ (nb_bys _ _)) (valV_bys _ _ _ _ _ _ _ _ _ _ _ _ _ _ h.b12 h.b13))
  intro x hx
  have h0 := h.wf.t0
  have h1 := h.wf.b1
  simp only [List.mem_cons, List.not_mem_nil, or_false] at hx
  rcases hx with rfl | rfl <;> omega
/-- A chunk that may be has up to 1472 bytes, a multiple of four. -/
theorem byC_len {c : S29} (h : WfC c) (h0 : ckC c = 0) : (byC c).length % 4 = 0 ∧ 4 ≤ (byC c).length ∧ (byC c).length ≤ 1472 := by
  have hf := fit_of_ok _ _ _ _ _ _ _ _ _ _ _ _ _ _ h h0
  have hl := byV_len _ _ _ _ _ _ _ _ _ _ _ _ _ _ hf
  have hv : 4 + (valV c.f0 c.f1 c.f2 c.f3 c.f4 c.f5 c.f6 c.f7 c.f8 c.f9 c.f10 c.f11 c.f12 c.f13).length ≤ 1468 := by
    have h1 := h0
    unfold ckC ckV at h1
    repeat (split at h1; (first | (cases h1; done) | skip))
    all_goals first | omega | (cases h1)
  rw [hl]
  omega
/-- What Put tells behind the chunks' bytes so far. -/
def outV : List S29 → List Int → List Int × Int
  | [], b => if 1480 < b.length then ([], 6) else (stampV b, 0)
  | c :: cs, b => if ckC c = 0 then outV cs (b ++ byC c) else ([], ckC c)
theorem rd29_at (l : List S29) (i : Nat) (h : i < l.length) : rd_T29 l (i : Int) = l[i] := by
  unfold rd_T29
  rw [Int.toNat_natCast, List.getD_eq_getElem?_getD, List.getElem?_eq_getElem h]
  rfl
theorem put_l0 (l : List S29) (hl : l.length ≤ 32) (hin : ∀ c ∈ l, In c) : ∀ (n i k : Nat) (b : List Int), i + n = l.length → b.length % 4 = 0 → 12 ≤ b.length → b.length ≤ 12 + i * 1472 → Bys b →
    chunk_Put.l0 (k + n + 121) b l (l.length : Int) (i : Int) = some (outV (l.drop i) b)
  | 0, i, k, b, hi, h4, h12, hb, hy => by
    rw [show k + 0 + 121 = k + 120 + 1 by omega, List.drop_eq_nil_of_le (by omega)]
    unfold outV
    by_cases hq : 1480 < b.length
    · rw [if_pos hq]
      · rw [chunk_Put.l0, if_neg (by omega), if_pos (by omega)]
    · rw [if_neg hq]
      · rw [chunk_Put.l0, if_neg (by omega), if_neg (by omega), stamp_v b h12 (by omega) hy (k := k + 120) (by omega)]
        rfl
  | n + 1, i, k, b, hi, h4, h12, hb, hy => by
    have hlt : i < l.length := by omega
    have hc := hin l[i] (List.getElem_mem hlt)
    have hd : l.drop i = l[i] :: l.drop (i + 1) := List.drop_eq_getElem_cons hlt
    have hw : wrap64 ((i : Int) + 1) = ((i + 1 : Nat) : Int) := by rw [w64 (by omega) (by omega)]; omega
    rw [hd, outV, show k + (n + 1) + 121 = (k + n + 121) + 1 by omega]
    by_cases h0 : ckC l[i] = 0
    · have hf := fit_of_ok _ _ _ _ _ _ _ _ _ _ _ _ _ _ hc.wf h0
      have hlen := byC_len hc.wf h0
      have hrl : ([l[i].f0, l[i].f1] ++ nb (4 + ((valV l[i].f0 l[i].f1 l[i].f2 l[i].f3 l[i].f4 l[i].f5 l[i].f6 l[i].f7 l[i].f8 l[i].f9 l[i].f10 l[i].f11 l[i].f12 l[i].f13).length : Int)) 2 ++ valV l[i].f0 l[i].f1 l[i].f2 l[i].f3 l[i].f4 l[i].f5 l[i].f6 l[i].f7 l[i].f8 l[i].f9 l[i].f10 l[i].f11 l[i].f12 l[i].f13).length ≤ 1472 := by
        have := pad4_len ([l[i].f0, l[i].f1] ++ nb (4 + ((valV l[i].f0 l[i].f1 l[i].f2 l[i].f3 l[i].f4 l[i].f5 l[i].f6 l[i].f7 l[i].f8 l[i].f9 l[i].f10 l[i].f11 l[i].f12 l[i].f13).length : Int)) 2 ++ valV l[i].f0 l[i].f1 l[i].f2 l[i].f3 l[i].f4 l[i].f5 l[i].f6 l[i].f7 l[i].f8 l[i].f9 l[i].f10 l[i].f11 l[i].f12 l[i].f13)
        have h2 := hlen.2.2
        unfold byC byV at h2
        omega
      have hbl : (byC l[i]).length ≤ 1472 := hlen.2.2
      have ih := put_l0 l hl hin n (i + 1) k (b ++ byC l[i]) (by omega) (by rw [List.length_append]; omega) (by rw [List.length_append]; omega) (by rw [List.length_append]; omega) (bys_app hy (byC_bys hc))
      rw [if_pos h0]
      · rw [← ih, chunk_Put.l0, if_pos (by omega), if_pos (by omega), if_pos (by omega), rd29_at l i hlt, check_v _ _ _ _ _ _ _ _ _ _ _ _ _ _ hc.wf (k + n + 121) (by omega), Option.bind_some, if_pos h0, bytes_v _ _ _ _ _ _ _ _ _ _ _ _ _ _ hf (k + n + 121) (by omega), Option.bind_some, if_pos (by omega), pad_4 _ (by rw [List.length_append]; omega), Option.bind_some, hw, pad4_app b _ h4]
        rfl
    · rw [if_neg h0]
      · rw [chunk_Put.l0, if_pos (by omega), if_pos (by omega), if_pos (by omega), rd29_at l i hlt, check_v _ _ _ _ _ _ _ _ _ _ _ _ _ _ hc.wf (k + n + 121) (by omega), Option.bind_some, if_neg h0]
theorem nb_len4 {v : Int} (h0 : 0 ≤ v) (h1 : v ≤ 4294967295) : (nb v 4).length = 4 := nb4 h0 h1
/-- What Put tells. -/
def putV (a0 a1 a2 : Int) (l : List S29) : List Int × Int := if l.length = 0 then ([], 2) else if 32 < l.length then ([], 6) else outV l (nb a0 2 ++ nb a1 2 ++ nb a2 4 ++ nb 0 4)
theorem put_v (a0 a1 a2 : Int) (l : List S29) (h0 : 0 ≤ a0 ∧ a0 ≤ 65535) (h1 : 0 ≤ a1 ∧ a1 ≤ 65535) (h2 : 0 ≤ a2 ∧ a2 ≤ 4294967295) (hin : ∀ c ∈ l, In c) {k : Nat} (hk : 160 ≤ k) :
    chunk_Put.f k a0 a1 a2 l = some (putV a0 a1 a2 l) := by
  unfold chunk_Put.f putV
  by_cases e0 : l.length = 0
  · rw [if_pos e0]
    rw [if_pos (by omega)]
  rw [if_neg e0]
  by_cases e1 : 32 < l.length
  · rw [if_pos e1]
    rw [if_neg (by omega), if_pos (by omega)]
  rw [if_neg e1]
  have n0 := nb2 h0.1 h0.2
  have n1 := nb2 h1.1 h1.2
  have n2 := nb4 h2.1 h2.2
  have n3 := nb4 (v := 0) (by decide) (by decide)
  obtain ⟨m, rfl⟩ : ∃ m, k = m + l.length + 121 := ⟨k - l.length - 121, by omega⟩
  have h := put_l0 l (by omega) hin l.length 0 m (nb a0 2 ++ nb a1 2 ++ nb a2 4 ++ nb 0 4) (by omega) (by simp only [List.length_append]; omega) (by simp only [List.length_append]; omega) (by simp only [List.length_append]; omega) (bys_app (bys_app (bys_app (nb_bys _ _) (nb_bys _ _)) (nb_bys _ _)) (nb_bys _ _))
  rw [List.drop_zero] at h
  · rw [if_neg (by omega), if_neg (by omega), w64 (x := a0) (by omega) (by omega), w64 (x := a1) (by omega) (by omega), w64 (x := a2) (by omega) (by omega)]
    rw [lay_2 (m + l.length + 121) [] 2 a0 a1 (by omega) (by decide) (by decide) h0.1 (by omega) h1.1 (by omega) (by simp), Option.bind_some, lay_2 (m + l.length + 121) _ 4 a2 0 (by omega) (by decide) (by decide) h2.1 (by omega) (by decide) (by decide) (by simp only [List.length_append, List.length_nil]; omega), Option.bind_some]
    exact h
end Go.Proofs.Ytaahkggbjpdofaa.Pure
end
section
/- Of what was put Take's readers tell what was put: numbers, parameters, blocks, doubles, each kind of chunk, all chunks; in plain Lean. -/
namespace Go.Proofs.Ytaahkggbjpdofaa.Pure
open Go.RowKit Go.Proofs.Ytaahkggbjpdofaa.M Go.Proofs.YtaahkggbjpdofaaW.PrintWords Go.Proofs.YtaahkggbjpdofaaW.PrintLast Go.Proofs.YtaahkggbjpdofaaW.PrintMore
set_option linter.unusedVariables false
set_option linter.unusedSimpArgs false
theorem nb4b {v : Int} (h0 : 0 ≤ v) (h1 : v ≤ 4294967295) : nb v 4 = bytesL v 4 := by
  unfold nb bytesS
  rw [if_pos (by decide), show (4 : Int).toNat = 4 from rfl, if_neg (by rw [show (256 : Int) ^ 4 = 4294967296 by decide]; omega)]
theorem nb2b {v : Int} (h0 : 0 ≤ v) (h1 : v ≤ 65535) : nb v 2 = bytesL v 2 := by
  unfold nb bytesS
  rw [if_pos (by decide), show (2 : Int).toNat = 2 from rfl, if_neg (by rw [show (256 : Int) ^ 2 = 65536 by decide]; omega)]
theorem num_nb4 {v : Int} (r : List Int) (h0 : 0 ≤ v) (h1 : v ≤ 4294967295) : numN (nb v 4 ++ r) 4 = v := by
  unfold numN
  rw [List.take_left' (nb4 h0 h1), nb4b h0 h1]
  exact numL_bytesL 4 v h0 (by rw [show (256 : Int) ^ 4 = 4294967296 by decide]; omega)
theorem num_nb2 {v : Int} (r : List Int) (h0 : 0 ≤ v) (h1 : v ≤ 65535) : numN (nb v 2 ++ r) 2 = v := by
  unfold numN
  rw [List.take_left' (nb2 h0 h1), nb2b h0 h1]
  exact numL_bytesL 2 v h0 (by rw [show (256 : Int) ^ 2 = 65536 by decide]; omega)
theorem drop_nb4 {v : Int} (r : List Int) (h0 : 0 ≤ v) (h1 : v ≤ 4294967295) : (nb v 4 ++ r).drop 4 = r := List.drop_left' (nb4 h0 h1)
theorem drop_nb2 {v : Int} (r : List Int) (h0 : 0 ≤ v) (h1 : v ≤ 65535) : (nb v 2 ++ r).drop 2 = r := List.drop_left' (nb2 h0 h1)
/-- A parameter's bytes. -/
def parX (p : S48) : List Int := nb p.f0 2 ++ nb (4 + (p.f1.length : Int)) 2 ++ p.f1
structure ParOk (p : S48) : Prop where
  k : 0 ≤ p.f0 ∧ p.f0 ≤ 65535
  n : p.f1.length ≤ 65531
theorem parX_len {p : S48} (h : ParOk p) : (parX p).length = 4 + p.f1.length := by
  have := h.n
  unfold parX
  simp only [List.length_append]
  rw [nb2 h.k.1 h.k.2, nb2 (v := 4 + (p.f1.length : Int)) (by omega) (by omega)]
theorem parV_one (p : S48) : parV [] [p] = parX p := rfl
theorem parV_two (p q : S48) (qs : List S48) : parV [] (p :: q :: qs) = pad4 (parX p) ++ parV [] (q :: qs) := by
  show parV (parX p) (q :: qs) = _
  rw [show parV (parX p) (q :: qs) = parV (pad4 (parX p) ++ (parX q)) qs by rw [parV]; unfold parX; simp only [List.append_assoc], parV_app _ (pad4_len _).1]
  rfl
theorem parV_ge : ∀ (l : List S48), (∀ p ∈ l, ParOk p) → l.length ≤ (parV [] l).length
  | [], h => by simp
  | [p], h => by rw [parV_one, parX_len (h p (by simp))]; simp; omega
  | p :: q :: qs, h => by
    have ih := parV_ge (q :: qs) (fun x hx => h x (by simp only [List.mem_cons] at hx ⊢; exact .inr hx))
    have h1 := parX_len (h p (by simp))
    have h2 := pad4_len (parX p)
    rw [parV_two, List.length_append]
    simp only [List.length_cons] at ih ⊢
    omega
theorem pars_step (p : S48) (h : ParOk p) (Z R : List Int) (hZ : (parX p ++ Z).drop ((4 + p.f1.length + 3) / 4 * 4) = R) (f : Nat) (out : List S48) (ho : out.length < 16) : parsV (f + 1) (parX p ++ Z) out = parsV f R (out ++ [p]) := by
  have hn := h.n
  have hl := parX_len h
  have e1 : parX p ++ Z = nb p.f0 2 ++ (nb (4 + (p.f1.length : Int)) 2 ++ (p.f1 ++ Z)) := by unfold parX; simp only [List.append_assoc]
  have e2 : (parX p ++ Z).drop 2 = nb (4 + (p.f1.length : Int)) 2 ++ (p.f1 ++ Z) := by rw [e1]; exact drop_nb2 _ h.k.1 h.k.2
  have e3 : numN ((parX p ++ Z).drop 2) 2 = 4 + (p.f1.length : Int) := by rw [e2]; exact num_nb2 _ (by omega) (by omega)
  have e4 : numN (parX p ++ Z) 2 = p.f0 := by rw [e1]; exact num_nb2 _ h.k.1 h.k.2
  have e5 : (parX p ++ Z).drop 4 = p.f1 ++ Z := by
    rw [show (4 : Nat) = 2 + 2 from rfl, ← List.drop_drop, e2]; exact drop_nb2 _ (by omega) (by omega)
  have e6 : ((parX p ++ Z).drop 4).take ((4 + (p.f1.length : Int)).toNat - 4) = p.f1 := by
    rw [e5, show (4 + (p.f1.length : Int)).toNat - 4 = p.f1.length by omega]; exact List.take_left' rfl
  have e7 : (4 + (p.f1.length : Int)).toNat = 4 + p.f1.length := by omega
  rw [parsV]
  rw [if_neg (by rw [List.length_append]; omega), if_neg (by rw [List.length_append]; omega), e3, if_neg (by rw [List.length_append]; omega), if_neg (by omega), e4, e6, e7, hZ]
theorem pars_back : ∀ (l : List S48) (f : Nat) (out : List S48), (∀ p ∈ l, ParOk p) → l.length < f → out.length + l.length ≤ 16 → parsV f (parV [] l) out = .ok (out ++ l)
  | [], f, out, h, hf, ho => by
    obtain ⟨g, rfl⟩ : ∃ g, f = g + 1 := ⟨f - 1, by omega⟩
    rw [parsV]
    simp [parV]
  | [p], f, out, h, hf, ho => by
    simp only [List.length_cons, List.length_nil] at hf ho
    obtain ⟨g, rfl⟩ : ∃ g, f = g + 1 + 1 := ⟨f - 2, by omega⟩
    have hp := h p (by simp)
    have hl := parX_len hp
    rw [parV_one]
    have h1 := pars_step p hp [] [] (by rw [List.append_nil]; exact List.drop_eq_nil_of_le (by omega)) (g + 1) out (by omega)
    rw [List.append_nil] at h1
    rw [h1, parsV]
    simp
  | p :: q :: qs, f, out, h, hf, ho => by
    simp only [List.length_cons] at hf ho
    obtain ⟨g, rfl⟩ : ∃ g, f = g + 1 := ⟨f - 1, by omega⟩
    have hp := h p (by simp)
    have hl := parX_len hp
    have ih := pars_back (q :: qs) g (out ++ [p]) (fun x hx => h x (by simp only [List.mem_cons] at hx ⊢; exact .inr hx)) (by simp only [List.length_cons]; omega) (by simp only [List.length_append, List.length_cons, List.length_nil]; omega)
    have e : parV [] (p :: q :: qs) = parX p ++ (List.replicate ((4 - (parX p).length % 4) % 4) 0 ++ parV [] (q :: qs)) := by
      rw [parV_two]; unfold pad4; rw [List.append_assoc]
    rw [e, pars_step p hp _ (parV [] (q :: qs)) (by
      rw [← List.append_assoc]
      exact List.drop_left' (by rw [List.length_append, List.length_replicate, hl]; omega)) g out (by omega), ih]
    simp
theorem blk_nil : ∀ (l : List S101) , (∀ p ∈ l, (0 ≤ p.f0 ∧ p.f0 ≤ 65535) ∧ (0 ≤ p.f1 ∧ p.f1 ≤ 65535)) → (blkV [] l).length = 4 * l.length
  | [], h => rfl
  | p :: ps, h => by
    have hp := h p (by simp)
    have ih := blk_nil ps (fun x hx => h x (by simp [hx]))
    rw [blkV, ← List.append_nil ([] ++ nb p.f0 2 ++ nb p.f1 2), blkV_app, List.length_append, ih]
    simp only [List.length_append, List.length_nil, List.length_cons]
    rw [nb2 hp.1.1 hp.1.2, nb2 hp.2.1 hp.2.2]
    omega
theorem blocks_back : ∀ (l : List S101) (r : List Int), (∀ p ∈ l, (0 ≤ p.f0 ∧ p.f0 ≤ 65535) ∧ (0 ≤ p.f1 ∧ p.f1 ≤ 65535)) → blocksV l.length (blkV [] l ++ r) = l
  | [], r, h => rfl
  | p :: ps, r, h => by
    have hp := h p (by simp)
    have ih := blocks_back ps r (fun x hx => h x (by simp [hx]))
    have e : blkV [] (p :: ps) ++ r = nb p.f0 2 ++ (nb p.f1 2 ++ (blkV [] ps ++ r)) := by
      rw [blkV, ← List.append_nil ([] ++ nb p.f0 2 ++ nb p.f1 2), blkV_app]
      simp only [List.append_assoc, List.nil_append]
    rw [List.length_cons, blocksV, e, drop_nb2 _ hp.1.1 hp.1.2, num_nb2 _ hp.1.1 hp.1.2, num_nb2 _ hp.2.1 hp.2.2, show (4 : Nat) = 2 + 2 from rfl, ← List.drop_drop, drop_nb2 _ hp.1.1 hp.1.2, drop_nb2 _ hp.2.1 hp.2.2, ih]
theorem dup_nil : ∀ (l : List Int) , (∀ p ∈ l, 0 ≤ p ∧ p ≤ 4294967295) → (dupV [] l).length = 4 * l.length
  | [], h => rfl
  | p :: ps, h => by
    have hp := h p (by simp)
    have ih := dup_nil ps (fun x hx => h x (by simp [hx]))
    rw [dupV, ← List.append_nil ([] ++ nb p 4), dupV_app, List.length_append, ih]
    simp only [List.length_append, List.length_nil, List.length_cons]
    rw [nb4 hp.1 hp.2]
    omega
theorem dups_back : ∀ (l : List Int), (∀ p ∈ l, 0 ≤ p ∧ p ≤ 4294967295) → dupsV l.length (dupV [] l) = l
  | [], h => rfl
  | p :: ps, h => by
    have hp := h p (by simp)
    have ih := dups_back ps (fun x hx => h x (by simp [hx]))
    have e : dupV [] (p :: ps) = nb p 4 ++ dupV [] ps := by
      rw [dupV, ← List.append_nil ([] ++ nb p 4), dupV_app]
      simp only [List.nil_append]
    rw [List.length_cons, dupsV, e, num_nb4 _ hp.1 hp.2, drop_nb4 _ hp.1 hp.2, ih]
theorem sack_eq (a2 a7 : Int) (l10 : List S101) (l11 : List Int) : dupV (blkV (sackV a2 a7 l10 l11) l10) l11 = nb a2 4 ++ (nb a7 4 ++ (nb (l10.length : Int) 2 ++ (nb (l11.length : Int) 2 ++ (blkV [] l10 ++ dupV [] l11)))) := by
  rw [← List.append_nil (sackV a2 a7 l10 l11), blkV_app, ← List.append_nil (sackV a2 a7 l10 l11 ++ blkV [] l10), dupV_app]
  unfold sackV
  simp only [List.append_assoc]
theorem first_eq (a2 a6 a7 a8 a9 : Int) (l12 : List S48) (h : (firstV a2 a6 a7 a8 a9).length = 16) : parV (firstV a2 a6 a7 a8 a9) l12 = nb a6 4 ++ (nb a7 4 ++ (nb a8 2 ++ (nb a9 2 ++ (nb a2 4 ++ parV [] l12)))) := by
  rw [← List.append_nil (firstV a2 a6 a7 a8 a9), parV_app _ (by rw [h])]
  unfold firstV
  simp only [List.append_assoc]
/-- Of a chunk's value its kind's reader tells the chunk. -/
theorem one_back (c : S29) (h : WfC c) (h0 : ckC c = 0) : oneV c.f0 c.f1 (valV c.f0 c.f1 c.f2 c.f3 c.f4 c.f5 c.f6 c.f7 c.f8 c.f9 c.f10 c.f11 c.f12 c.f13) = .ok c := by
  have hf := fit_of_ok _ _ _ _ _ _ _ _ _ _ _ _ _ _ h h0
  obtain ⟨t, a1, a2, a3, a4, a5, a6, a7, a8, a9, l10, l11, l12, l13⟩ := c
  unfold ckC ckV at h0
  have hodd : ¬ oddB t a1 a2 a3 a4 a5 a6 a7 a8 a9 l10 l11 l12 l13 := fun ho => by rw [if_pos ho] at h0; cases h0
  rw [if_neg hodd] at h0
  have hz : ¬ (t = 0 ∧ l13.length = 0) := fun hz => by rw [if_pos hz] at h0; cases h0
  rw [if_neg hz] at h0
  have h12 : ¬ 16 < l12.length := fun hz => by rw [if_pos hz] at h0; cases h0
  rw [if_neg h12] at h0
  have h10 : ¬ 16 < l10.length := fun hz => by rw [if_pos hz] at h0; cases h0
  rw [if_neg h10] at h0
  have h11 : ¬ 16 < l11.length := fun hz => by rw [if_pos hz] at h0; cases h0
  clear h0
  have hp : ∀ p ∈ l12, ParOk p := fun p hp => ⟨(hf.e12 p hp).1, by have := (hf.e12 p hp).2; omega⟩
  have e10 := h.e10
  have e11 := h.e11
  have b2 := h.b2
  have b3 := h.b3
  have b4 := h.b4
  have b5 := h.b5
  have b6 := h.b6
  have b7 := h.b7
  have b8 := h.b8
  have b9 := h.b9
  clear hf
  simp only at *
  unfold oddB at hodd
  simp only [not_or, not_and, Classical.not_not, Nat.not_lt, Nat.le_zero_eq, List.length_eq_zero_iff, Int.not_lt] at hodd
  obtain ⟨o1, o2, o3, o4, o5, o6, o7⟩ := hodd
  unfold oneV valV
  rcases ofT_is t h.t0 with ⟨ht, rfl⟩ | ⟨ht, hk⟩ | ⟨ht, rfl⟩ | ⟨ht, hk⟩ | ⟨ht, rfl⟩ | ⟨ht, hk⟩ | ⟨ht, hk⟩
  · rw [ht]
    have z2 : a6 = 0 ∧ a8 = 0 ∧ a9 = 0 := by have := o3 (by decide) (by decide); simpa [not_or] using this
    have z3 : a7 = 0 := o4 (by decide) (by decide) (by decide)
    have z4 : l10 = [] ∧ l11 = [] := by have := o5 (by decide); simpa using this
    have z5 : l12 = [] := by have := o6 (by decide); simpa using this
    obtain ⟨rfl, rfl, rfl⟩ := z2
    obtain ⟨rfl, rfl⟩ := z4
    subst z3; subst z5
    have hl : 1 ≤ l13.length := by have : l13.length ≠ 0 := fun he => hz ⟨rfl, he⟩; omega
    simp only [if_true]
    unfold dataV
    have e : nb a2 4 ++ nb a3 2 ++ nb a4 2 ++ nb a5 4 ++ l13 = nb a2 4 ++ (nb a3 2 ++ (nb a4 2 ++ (nb a5 4 ++ l13))) := by simp only [List.append_assoc]
    rw [e, if_neg (by simp only [List.length_append]; rw [nb4 b2.1 b2.2, nb2 b3.1 b3.2, nb2 b4.1 b4.2, nb4 b5.1 b5.2]; omega), drop_nb4 _ b2.1 b2.2, drop_nb2 _ b3.1 b3.2, drop_nb2 _ b4.1 b4.2, drop_nb4 _ b5.1 b5.2, num_nb4 _ b2.1 b2.2, num_nb2 _ b3.1 b3.2, num_nb2 _ b4.1 b4.2, num_nb4 _ b5.1 b5.2]
  · rw [ht]
    obtain ⟨rfl, rfl, rfl⟩ : a3 = 0 ∧ a4 = 0 ∧ a5 = 0 := by have := o1 (by omega); simpa [not_or] using this
    obtain ⟨rfl, rfl⟩ : l10 = [] ∧ l11 = [] := by have := o5 (by omega); simpa using this
    obtain rfl : l13 = [] := by have := o7 (by omega) (by omega); simpa using this
    simp only [if_true, show ¬ (80 : Nat) = 53 from by decide, if_false]
    unfold firstR
    rw [first_eq _ _ _ _ _ _ (firstV_len b2 b6 b7 b8 b9)]
    rw [if_neg (by simp only [List.length_append]; rw [nb4 b6.1 b6.2, nb4 b7.1 b7.2, nb2 b8.1 b8.2, nb2 b9.1 b9.2, nb4 b2.1 b2.2]; omega), drop_nb4 _ b6.1 b6.2, drop_nb4 _ b7.1 b7.2, drop_nb2 _ b8.1 b8.2, drop_nb2 _ b9.1 b9.2, drop_nb4 _ b2.1 b2.2, num_nb4 _ b6.1 b6.2, num_nb4 _ b7.1 b7.2, num_nb2 _ b8.1 b8.2, num_nb2 _ b9.1 b9.2, num_nb4 _ b2.1 b2.2]
    have hg := parV_ge l12 hp
    rw [pars_back l12 _ [] hp (by omega) (by simp only [List.length_nil]; omega)]
    rfl
  · rw [ht]
    obtain ⟨rfl, rfl, rfl⟩ : a3 = 0 ∧ a4 = 0 ∧ a5 = 0 := by have := o1 (by omega); simpa [not_or] using this
    obtain ⟨rfl, rfl, rfl⟩ : a6 = 0 ∧ a8 = 0 ∧ a9 = 0 := by have := o3 (by omega) (by omega); simpa [not_or] using this
    obtain rfl : l12 = [] := by have := o6 (by omega); simpa using this
    obtain rfl : l13 = [] := by have := o7 (by omega) (by omega); simpa using this
    simp only [if_true, show ¬ (81 : Nat) = 53 from by decide, show ¬ (81 : Nat) = 80 from by decide, if_false]
    unfold sackR
    have hb := blk_nil l10 e10
    have hd := dup_nil l11 e11
    have n10 : (0 : Int) ≤ (l10.length : Int) ∧ (l10.length : Int) ≤ 65535 := by omega
    have n11 : (0 : Int) ≤ (l11.length : Int) ∧ (l11.length : Int) ≤ 65535 := by omega
    rw [sack_eq]
    rw [if_neg (by simp only [List.length_append]; rw [nb4 b2.1 b2.2, nb4 b7.1 b7.2, nb2 n10.1 n10.2, nb2 n11.1 n11.2]; omega), drop_nb4 _ b2.1 b2.2, drop_nb4 _ b7.1 b7.2, drop_nb2 _ n10.1 n10.2, drop_nb2 _ n11.1 n11.2, num_nb2 _ n10.1 n10.2, num_nb2 _ n11.1 n11.2,
      if_neg (by rw [List.length_append, hb, hd]; omega), if_neg (by omega), num_nb4 _ b2.1 b2.2, num_nb4 _ b7.1 b7.2, Int.toNat_natCast, Int.toNat_natCast, blocks_back _ _ e10, List.drop_left' hb, dups_back _ e11]
  · rw [ht]
    obtain ⟨rfl, rfl, rfl⟩ : a3 = 0 ∧ a4 = 0 ∧ a5 = 0 := by have := o1 (by omega); simpa [not_or] using this
    obtain rfl : a2 = 0 := by have := o2 (by omega) (by omega) (by omega) (by omega) (by omega); simpa using this
    obtain ⟨rfl, rfl, rfl⟩ : a6 = 0 ∧ a8 = 0 ∧ a9 = 0 := by have := o3 (by omega) (by omega); simpa [not_or] using this
    obtain rfl : a7 = 0 := by have := o4 (by omega) (by omega) (by omega); simpa using this
    obtain ⟨rfl, rfl⟩ : l10 = [] ∧ l11 = [] := by have := o5 (by omega); simpa using this
    obtain rfl : l13 = [] := by have := o7 (by omega) (by omega); simpa using this
    simp only [if_true, show ¬ (82 : Nat) = 53 from by decide, show ¬ (82 : Nat) = 80 from by decide, show ¬ (82 : Nat) = 81 from by decide, if_false]
    unfold pmV
    have hg := parV_ge l12 hp
    rw [pars_back l12 _ [] hp (by omega) (by simp only [List.length_nil]; omega)]
    rfl
  · rw [ht]
    obtain ⟨rfl, rfl, rfl⟩ : a3 = 0 ∧ a4 = 0 ∧ a5 = 0 := by have := o1 (by omega); simpa [not_or] using this
    obtain ⟨rfl, rfl, rfl⟩ : a6 = 0 ∧ a8 = 0 ∧ a9 = 0 := by have := o3 (by omega) (by omega); simpa [not_or] using this
    obtain rfl : a7 = 0 := by have := o4 (by omega) (by omega) (by omega); simpa using this
    obtain ⟨rfl, rfl⟩ : l10 = [] ∧ l11 = [] := by have := o5 (by omega); simpa using this
    obtain rfl : l12 = [] := by have := o6 (by omega); simpa using this
    obtain rfl : l13 = [] := by have := o7 (by omega) (by omega); simpa using this
    show numberV 7 a1 (nb a2 4) = _
    unfold numberV
    rw [if_pos (nb4 b2.1 b2.2), ← List.append_nil (nb a2 4), num_nb4 _ b2.1 b2.2]
  · rw [ht]
    obtain ⟨rfl, rfl, rfl⟩ : a3 = 0 ∧ a4 = 0 ∧ a5 = 0 := by have := o1 (by omega); simpa [not_or] using this
    obtain rfl : a2 = 0 := by have := o2 (by omega) (by omega) (by omega) (by omega) (by omega); simpa using this
    obtain ⟨rfl, rfl, rfl⟩ : a6 = 0 ∧ a8 = 0 ∧ a9 = 0 := by have := o3 (by omega) (by omega); simpa [not_or] using this
    obtain rfl : a7 = 0 := by have := o4 (by omega) (by omega) (by omega); simpa using this
    obtain ⟨rfl, rfl⟩ : l10 = [] ∧ l11 = [] := by have := o5 (by omega); simpa using this
    obtain rfl : l12 = [] := by have := o6 (by omega); simpa using this
    obtain rfl : l13 = [] := by have := o7 (by omega) (by omega); simpa using this
    rfl
  · rw [ht]
    obtain ⟨rfl, rfl, rfl⟩ : a3 = 0 ∧ a4 = 0 ∧ a5 = 0 := by have := o1 (by omega); simpa [not_or] using this
    obtain rfl : a2 = 0 := by have := o2 (by omega) (by omega) (by omega) (by omega) (by omega); simpa using this
    obtain ⟨rfl, rfl, rfl⟩ : a6 = 0 ∧ a8 = 0 ∧ a9 = 0 := by have := o3 (by omega) (by omega); simpa [not_or] using this
    obtain rfl : a7 = 0 := by have := o4 (by omega) (by omega) (by omega); simpa using this
    obtain ⟨rfl, rfl⟩ : l10 = [] ∧ l11 = [] := by have := o5 (by omega); simpa using this
    obtain rfl : l12 = [] := by have := o6 (by omega); simpa using this
    rfl
/-- The chunks' bytes, one behind the other. -/
def flatV : List S29 → List Int
  | [] => []
  | c :: cs => byC c ++ flatV cs
theorem flat_ge : ∀ (l : List S29), (∀ c ∈ l, In c ∧ ckC c = 0) → 4 * l.length ≤ (flatV l).length
  | [], h => by simp
  | c :: cs, h => by
    have ih := flat_ge cs (fun x hx => h x (by simp [hx]))
    have h1 := byC_len (h c (by simp)).1.wf (h c (by simp)).2
    rw [flatV, List.length_append]
    simp only [List.length_cons]
    omega
theorem flat_bys : ∀ (l : List S29), (∀ c ∈ l, In c ∧ ckC c = 0) → Bys (flatV l)
  | [], h => fun x hx => by cases hx
  | c :: cs, h => bys_app (byC_bys (h c (by simp)).1) (flat_bys cs (fun x hx => h x (by simp [hx])))
theorem flat_four : ∀ (l : List S29), (∀ c ∈ l, In c ∧ ckC c = 0) → (flatV l).length % 4 = 0
  | [], h => rfl
  | c :: cs, h => by
    have ih := flat_four cs (fun x hx => h x (by simp [hx]))
    have h1 := byC_len (h c (by simp)).1.wf (h c (by simp)).2
    rw [flatV, List.length_append]
    omega
theorem chunks_back : ∀ (l : List S29) (f : Nat) (out : List S29), (∀ c ∈ l, In c ∧ ckC c = 0) → l.length < f → out.length + l.length ≤ 32 → chunksV f (flatV l) out = .ok (out ++ l)
  | [], f, out, h, hf, ho => by
    obtain ⟨g, rfl⟩ : ∃ g, f = g + 1 := ⟨f - 1, by omega⟩
    rw [chunksV]
    simp [flatV]
  | c :: cs, f, out, h, hf, ho => by
    simp only [List.length_cons] at hf ho
    obtain ⟨g, rfl⟩ : ∃ g, f = g + 1 := ⟨f - 1, by omega⟩
    obtain ⟨hi, h0⟩ := h c (by simp)
    have hfit := fit_of_ok _ _ _ _ _ _ _ _ _ _ _ _ _ _ hi.wf h0
    have hv := valV_len _ _ _ _ _ _ _ _ _ _ _ _ _ _ hfit
    have hbl := byV_len _ _ _ _ _ _ _ _ _ _ _ _ _ _ hfit
    have hb4 := byC_len hi.wf h0
    have ih := chunks_back cs g (out ++ [c]) (fun x hx => h x (by simp [hx])) (by omega) (by simp only [List.length_append, List.length_cons, List.length_nil]; omega)
    have hone := one_back c hi.wf h0
    obtain ⟨V, hV⟩ : ∃ V, V = valV c.f0 c.f1 c.f2 c.f3 c.f4 c.f5 c.f6 c.f7 c.f8 c.f9 c.f10 c.f11 c.f12 c.f13 := ⟨_, rfl⟩
    rw [← hV] at hv hbl hone
    have e : flatV (c :: cs) = c.f0 :: c.f1 :: (nb (4 + (V.length : Int)) 2 ++ (V ++ (List.replicate ((4 - ([c.f0, c.f1] ++ nb (4 + (V.length : Int)) 2 ++ V).length % 4) % 4) 0 ++ flatV cs))) := by
      rw [flatV]
      unfold byC byV pad4
      rw [← hV]
      simp only [List.append_assoc, List.cons_append, List.nil_append]
    have hL : (flatV (c :: cs)).length = (byC c).length + (flatV cs).length := by rw [flatV, List.length_append]
    have hr : (flatV (c :: cs)).drop ((4 + V.length + 3) / 4 * 4) = flatV cs := by
      rw [flatV]
      exact List.drop_left' (by show (byV _ _ _ _ _ _ _ _ _ _ _ _ _ _).length = _; rw [hbl]; omega)
    have hn2 : (0 : Int) ≤ 4 + (V.length : Int) ∧ 4 + (V.length : Int) ≤ 65535 := by omega
    have e2 : (flatV (c :: cs)).drop 2 = nb (4 + (V.length : Int)) 2 ++ (V ++ (List.replicate ((4 - ([c.f0, c.f1] ++ nb (4 + (V.length : Int)) 2 ++ V).length % 4) % 4) 0 ++ flatV cs)) := by rw [e]; rfl
    have e3 : numN ((flatV (c :: cs)).drop 2) 2 = 4 + (V.length : Int) := by rw [e2]; exact num_nb2 _ hn2.1 hn2.2
    have e4 : (flatV (c :: cs)).drop 4 = V ++ (List.replicate ((4 - ([c.f0, c.f1] ++ nb (4 + (V.length : Int)) 2 ++ V).length % 4) % 4) 0 ++ flatV cs) := by
      rw [show (4 : Nat) = 2 + 2 from rfl, ← List.drop_drop, e2]; exact drop_nb2 _ hn2.1 hn2.2
    have e5 : ((flatV (c :: cs)).drop 4).take ((4 + (V.length : Int)).toNat - 4) = V := by
      rw [e4, show (4 + (V.length : Int)).toNat - 4 = V.length by omega]; exact List.take_left' rfl
    have e6 : (4 + (V.length : Int)).toNat = 4 + V.length := by omega
    have r0 : rd (flatV (c :: cs)) 0 = c.f0 := by rw [e]; rfl
    have r1 : rd (flatV (c :: cs)) 1 = c.f1 := by rw [e]; rfl
    have hby : (byC c).length = 4 + V.length + (4 - (4 + V.length) % 4) % 4 := hbl
    rw [chunksV]
    rw [if_neg (by omega), if_neg (by omega), e3, if_neg (by omega), e6, if_neg (by omega), if_neg (by omega), r0, r1]
    rw [e6] at e5
    rw [e5, hone, hr]
    show chunksV g (flatV cs) (out ++ [c]) = _
    rw [ih]
    simp
end Go.Proofs.Ytaahkggbjpdofaa.Pure
end
section
/- Take of a stamped packet tells its head and its chunks; a list of chunks is the same as itself; in plain Lean. -/
namespace Go.Proofs.Ytaahkggbjpdofaa.Pure
open Go.RowKit Go.Proofs.Ytaahkggbjpdofaa.M Go.Proofs.YtaahkggbjpdofaaW.PrintWords Go.Proofs.YtaahkggbjpdofaaW.PrintLast Go.Proofs.YtaahkggbjpdofaaW.PrintMore
set_option linter.unusedVariables false
set_option linter.unusedSimpArgs false
theorem rd_at (l : List Int) (i : Nat) (h : i < l.length) : rd l (i : Int) = l[i] := by
  unfold rd
  rw [Int.toNat_natCast, List.getD_eq_getElem?_getD, List.getElem?_eq_getElem h]
  rfl
theorem eq_l0 (x y : List Int) (hl : x.length = y.length) (hb : x.length ≤ 1000000) : ∀ (n i k : Nat), i + n = x.length → slices_Equal_byte_byte.l0 (k + n + 1) x y (x.length : Int) (i : Int) = some (decide (x.drop i = y.drop i))
  | 0, i, k, hi => by
    rw [slices_Equal_byte_byte.l0, if_neg (by omega), List.drop_eq_nil_of_le (by omega), List.drop_eq_nil_of_le (by omega)]
    rfl
  | n + 1, i, k, hi => by
    have hx : i < x.length := by omega
    have hy : i < y.length := by omega
    have ih := eq_l0 x y hl hb n (i + 1) k (by omega)
    have hw : wrap64 ((i : Int) + 1) = ((i + 1 : Nat) : Int) := by rw [w64 (by omega) (by omega)]; omega
    rw [show k + (n + 1) + 1 = (k + n + 1) + 1 by omega, slices_Equal_byte_byte.l0, if_pos (by omega), if_pos (by omega), if_pos (by omega), if_pos (by omega), rd_at x i hx, rd_at y i hy, hw, ih, List.drop_eq_getElem_cons hx, List.drop_eq_getElem_cons hy]
    by_cases he : x[i] = y[i]
    · rw [if_pos he]
      congr 1
      apply decide_eq_decide.mpr
      rw [List.cons_eq_cons]
      exact ⟨fun h => ⟨he, h⟩, fun h => h.2⟩
    · rw [if_neg he, decide_eq_false (fun h => he (List.cons_eq_cons.mp h).1)]
theorem eq_f (x y : List Int) (hb : x.length ≤ 1480) {k : Nat} (hk : 1500 ≤ k) : slices_Equal_byte_byte.f k x y = some (decide (x = y)) := by
  unfold slices_Equal_byte_byte.f
  by_cases hl : x.length = y.length
  · obtain ⟨m, rfl⟩ : ∃ m, k = m + x.length + 1 := ⟨k - x.length - 1, by omega⟩
    have h := eq_l0 x y hl (by omega) x.length 0 m (by omega)
    rw [List.drop_zero, List.drop_zero] at h
    rw [if_pos (by omega)]
    exact h
  · rw [if_neg (by omega)]
    have : x ≠ y := fun h => hl (congrArg List.length h)
    simp [this]
theorem stamped_f (l : List Int) (hl : 12 ≤ l.length) (hl2 : l.length ≤ 1480) (hb : Bys l) {k : Nat} (hk : 1500 ≤ k) : sums_Stamped.f k l = some (decide (stampV l = l)) := by
  unfold sums_Stamped.f
  rw [stamp_v l hl (by omega) hb (by omega), Option.bind_some, if_pos rfl, eq_f _ _ (by rw [stampV_len l hl]; exact hl2) hk, Option.bind_some]
theorem stamp_take (l : List Int) (hl : 12 ≤ l.length) : (stampV l).take 8 = l.take 8 := by
  unfold stampV
  rw [List.append_assoc]
  exact List.take_left' (by rw [List.length_take]; omega)
theorem stamp_drop (l : List Int) (hl : 12 ≤ l.length) : (stampV l).drop 12 = l.drop 12 := by
  unfold stampV
  exact List.drop_left' (by rw [List.length_append, List.length_take]; show min 8 l.length + 4 = 12; omega)
theorem stamp_again (l : List Int) (hl : 12 ≤ l.length) : stampV (stampV l) = stampV l := by
  have t := stamp_take l hl
  have d := stamp_drop l hl
  generalize hy : stampV l = y at t d ⊢
  unfold stampV
  rw [t, d, ← hy]
  rfl
theorem stamp_bys (l : List Int) (hb : Bys l) : Bys (stampV l) := by
  have h := crcL_range _ 4294967295 (zeroed_range l hb) (by decide) (by decide)
  unfold stampV
  obtain ⟨c, hc⟩ : ∃ c, c = crcL (l.take 8 ++ [0, 0, 0, 0] ++ l.drop 12) 4294967295 := ⟨_, rfl⟩
  rw [← hc] at h ⊢
  refine bys_app (bys_app (fun x hx => hb x (List.mem_of_mem_take hx)) ?_) (fun x hx => hb x (List.mem_of_mem_drop hx))
  intro x hx
  simp only [List.mem_cons, List.not_mem_nil, or_false] at hx
  rcases hx with rfl | rfl | rfl | rfl <;> omega
/-- A packet's head. -/
def headV (a0 a1 a2 : Int) : List Int := nb a0 2 ++ nb a1 2 ++ nb a2 4 ++ nb 0 4
theorem headV_len {a0 a1 a2 : Int} (h0 : 0 ≤ a0 ∧ a0 ≤ 65535) (h1 : 0 ≤ a1 ∧ a1 ≤ 65535) (h2 : 0 ≤ a2 ∧ a2 ≤ 4294967295) : (headV a0 a1 a2).length = 12 := by
  unfold headV
  simp only [List.length_append]
  rw [nb2 h0.1 h0.2, nb2 h1.1 h1.2, nb4 h2.1 h2.2, nb4 (v := 0) (by decide) (by decide)]
theorem headV_bys (a0 a1 a2 : Int) : Bys (headV a0 a1 a2) := bys_app (bys_app (bys_app (nb_bys _ _) (nb_bys _ _)) (nb_bys _ _)) (nb_bys _ _)
theorem out_flat : ∀ (l : List S29) (b : List Int), (∀ c ∈ l, ckC c = 0) → outV l b = if 1480 < (b ++ flatV l).length then ([], 6) else (stampV (b ++ flatV l), 0)
  | [], b, h => by rw [outV, flatV, List.append_nil]
  | c :: cs, b, h => by rw [outV, if_pos (h c (by simp)), out_flat cs _ (fun x hx => h x (by simp [hx])), flatV, List.append_assoc]
theorem num_take (l : List Int) (n m : Nat) (h : n ≤ m) : numN (l.take m) n = numN l n := by
  unfold numN
  rw [List.take_take, Nat.min_eq_left h]
/-- Take of what was put. -/
theorem take_back (a0 a1 a2 : Int) (l : List S29) (h0 : 0 ≤ a0 ∧ a0 ≤ 65535) (h1 : 0 ≤ a1 ∧ a1 ≤ 65535) (h2 : 0 ≤ a2 ∧ a2 ≤ 4294967295) (hin : ∀ c ∈ l, In c ∧ ckC c = 0) (hl : 1 ≤ l.length) (hl2 : l.length ≤ 32) (hb : (headV a0 a1 a2 ++ flatV l).length ≤ 1480) {k : Nat} (hk : 1500 ≤ k) :
    chunk_Take.f k (stampV (headV a0 a1 a2 ++ flatV l)) = some (a0, a1, a2, l, 0) := by
  have hh := headV_len h0 h1 h2
  have hg := flat_ge l hin
  have hy : Bys (headV a0 a1 a2 ++ flatV l) := bys_app (headV_bys _ _ _) (flat_bys l hin)
  have hlen : 12 ≤ (headV a0 a1 a2 ++ flatV l).length := by rw [List.length_append]; omega
  have hsl := stampV_len _ hlen
  have hsy := stamp_bys _ hy
  obtain ⟨b, hbb⟩ : ∃ b, b = stampV (headV a0 a1 a2 ++ flatV l) := ⟨_, rfl⟩
  have hd : b.drop 12 = flatV l := by rw [hbb, stamp_drop _ hlen]; exact List.drop_left' hh
  have ht : b.take 8 = nb a0 2 ++ (nb a1 2 ++ nb a2 4) := by
    rw [hbb, stamp_take _ hlen]
    unfold headV
    rw [List.append_assoc (nb a0 2 ++ nb a1 2 ++ nb a2 4), List.take_left' (by simp only [List.length_append]; rw [nb2 h0.1 h0.2, nb2 h1.1 h1.2, nb4 h2.1 h2.2]), List.append_assoc]
  have hst : sums_Stamped.f k b = some true := by
    rw [stamped_f b (by rw [hbb, hsl]; exact hlen) (by rw [hbb, hsl]; exact hb) (by rw [hbb]; exact hsy) hk, hbb, stamp_again _ hlen]
    simp
  rw [← hbb] at hsl hsy ⊢
  have n0 : numN b 2 = a0 := by rw [← num_take b 2 8 (by decide), ht]; exact num_nb2 _ h0.1 h0.2
  have n1 : numN (b.drop 2) 2 = a1 := by
    rw [← num_take (b.drop 2) 2 6 (by decide), show (b.drop 2).take 6 = (b.take 8).drop 2 by rw [List.drop_take], ht, drop_nb2 _ h0.1 h0.2]; exact num_nb2 _ h1.1 h1.2
  have n2 : numN (b.drop 4) 4 = a2 := by
    rw [← num_take (b.drop 4) 4 4 (by decide), show (b.drop 4).take 4 = (b.take 8).drop 4 by rw [List.drop_take], ht, show (4 : Nat) = 2 + 2 from rfl, ← List.drop_drop, drop_nb2 _ h0.1 h0.2, drop_nb2 _ h1.1 h1.2]
    have := num_nb4 [] h2.1 h2.2
    rw [List.append_nil] at this
    exact this
  unfold chunk_Take.f
  rw [List.length_append] at hsl
  rw [if_pos hsy, if_neg (by omega), if_neg (by rw [List.length_append] at hb; omega), hst, Option.bind_some, if_pos rfl, hd, chunks_back l _ [] hin (by omega) (by simp only [List.length_nil]; omega), List.nil_append]
  show some (numN b 2, numN (b.drop 2) 2, numN (b.drop 4) 4, l, 0) = _
  rw [n0, n1, n2]
theorem same_l0 (l : List S29) (hl : l.length ≤ 32) (hf : ∀ c ∈ l, c.f10.length ≤ 4611686018427387904 ∧ c.f11.length ≤ 4611686018427387904 ∧ c.f12.length ≤ 4611686018427387904) : ∀ (n i k : Nat), i + n = l.length → trunklineref12_SameAll.l0 (k + n + 1) l l (i : Int) = some true
  | 0, i, k, hi => by rw [trunklineref12_SameAll.l0, if_neg (by omega)]
  | n + 1, i, k, hi => by
    have hx : i < l.length := by omega
    have ih := same_l0 l hl hf n (i + 1) k (by omega)
    have hw : wrap64 ((i : Int) + 1) = ((i + 1 : Nat) : Int) := by rw [w64 (by omega) (by omega)]; omega
    have h := hf l[i] (List.getElem_mem hx)
    rw [show k + (n + 1) + 1 = (k + n + 1) + 1 by omega, trunklineref12_SameAll.l0, if_pos (by omega), if_pos (by omega), if_pos (by omega), rd29_at l i hx, hw, ih]
    unfold trunklineref12_Same.f
    rw [if_pos ⟨rfl, rfl, rfl, rfl, rfl, rfl, rfl, rfl, rfl, rfl, rfl, rfl, rfl, rfl, h.1, h.2.1, h.2.2⟩]
    rfl
theorem same_f (l : List S29) (hl : l.length ≤ 32) (hin : ∀ c ∈ l, In c ∧ ckC c = 0) {k : Nat} (hk : 40 ≤ k) : trunklineref12_SameAll.f k l l = some true := by
  unfold trunklineref12_SameAll.f
  rw [if_pos rfl]
  obtain ⟨m, rfl⟩ : ∃ m, k = m + l.length + 1 := ⟨k - l.length - 1, by omega⟩
  refine same_l0 l hl (fun c hc => ?_) l.length 0 m (by omega)
  have hf := fit_of_ok _ _ _ _ _ _ _ _ _ _ _ _ _ _ (hin c hc).1.wf (hin c hc).2
  exact ⟨by have := hf.n10; omega, by have := hf.n11; omega, by have := hf.n12; omega⟩
end Go.Proofs.Ytaahkggbjpdofaa.Pure
end
