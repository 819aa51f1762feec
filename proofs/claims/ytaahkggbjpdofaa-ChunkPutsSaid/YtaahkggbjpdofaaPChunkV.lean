/- What a chunk has behind its length: the program's and the document's, in plain Lean. -/
import Derived.Test.YtaahkggbjpdofaaPNumA
import Derived.Test.YtaahkggbjpdofaaHVal
import Derived.Test.YtaahkggbjpdofaaHRVal
import Derived.Test.YtaahkggbjpdofaaM11
namespace Go.Proofs.Ytaahkggbjpdofaa.Pure
open Go.RowKit Go.Proofs.Ytaahkggbjpdofaa.M Go.Proofs.YtaahkggbjpdofaaW.PrintWords Go.Proofs.YtaahkggbjpdofaaW.PrintLast Go.Proofs.YtaahkggbjpdofaaW.PrintMore
set_option linter.unusedVariables false
set_option linter.unusedSimpArgs false

/-- A number's bytes (none where it has no room). -/
def nb (v n : Int) : List Int := (bytesS v n).1
theorem nb_le (v n : Int) : (nb v n).length ≤ 8 := (bytesS_len v n).1
theorem n_wf (n : Int) (h0 : 0 ≤ n) (h1 : n ≤ 8) : (Lit.int .i64 n).wf = true := i64_wf (by omega) (by omega)
theorem i64w {x : Int} (h0 : 0 ≤ x) (h1 : x < 9223372036854775808) : IntKind.i64.wrap x = x := by
  rw [IntKind.wrap_i64]; omega
theorem lay_1 (k : Nat) (l0 : List Int) (n x : Int) (hk : 20 ≤ k) (hn0 : 0 ≤ n) (hn : n ≤ 8) (hx : 0 ≤ x) (hx1 : x < 9223372036854775808) (hl : l0.length ≤ 1000000) : chunk_lay.f k l0 n [x] = some (l0 ++ nb x n) := by
  obtain ⟨m, rfl⟩ : ∃ m, k = m + 12 := ⟨k - 12, by omega⟩
  have hb := nb_le x n
  unfold chunk_lay.f
  show chunk_lay.l0 (m + 11 + 1) l0 n [x] 1 0 = _
  rw [chunk_lay.l0, if_pos (by decide), if_pos (by decide), if_pos (by show (0 : Int) < 1; decide), show rd [x] 0 = x from rfl, wrapu hx (by omega), bytes_f x n hx (by omega) (n_wf n hn0 hn) (by omega), Option.bind_some, if_pos (by show l0.length + (nb x n).length < _; omega)]
  rw [show wrap64 (0 + 1) = 1 from w64 (x := 0 + 1) (by decide) (by decide)]
  show chunk_lay.l0 (m + 10 + 1) (l0 ++ nb x n) n [x] 1 1 = _
  rw [chunk_lay.l0, if_neg (by decide)]
theorem lay_2 (k : Nat) (l0 : List Int) (n x y : Int) (hk : 20 ≤ k) (hn0 : 0 ≤ n) (hn : n ≤ 8) (hx : 0 ≤ x) (hx1 : x < 9223372036854775808) (hy : 0 ≤ y) (hy1 : y < 9223372036854775808) (hl : l0.length ≤ 1000000) : chunk_lay.f k l0 n [x, y] = some (l0 ++ nb x n ++ nb y n) := by
  obtain ⟨m, rfl⟩ : ∃ m, k = m + 13 := ⟨k - 13, by omega⟩
  have hb := nb_le x n
  have hb2 := nb_le y n
  unfold chunk_lay.f
  show chunk_lay.l0 (m + 12 + 1) l0 n [x, y] 2 0 = _
  rw [chunk_lay.l0, if_pos (by decide), if_pos (by decide), if_pos (by show (0 : Int) < 2; decide), show rd [x, y] 0 = x from rfl, wrapu hx (by omega), bytes_f x n hx (by omega) (n_wf n hn0 hn) (by omega), Option.bind_some, if_pos (by show l0.length + (nb x n).length < _; omega)]
  rw [show wrap64 (0 + 1) = 1 from w64 (x := 0 + 1) (by decide) (by decide)]
  show chunk_lay.l0 (m + 11 + 1) (l0 ++ nb x n) n [x, y] 2 1 = _
  rw [chunk_lay.l0, if_pos (by decide), if_pos (by decide), if_pos (by show (1 : Int) < 2; decide), show rd [x, y] 1 = y from rfl, wrapu hy (by omega), bytes_f y n hy (by omega) (n_wf n hn0 hn) (by omega), Option.bind_some, if_pos (by rw [List.length_append]; show l0.length + (nb x n).length + (nb y n).length < _; omega)]
  rw [show wrap64 (1 + 1) = 2 from w64 (x := 1 + 1) (by decide) (by decide)]
  show chunk_lay.l0 (m + 10 + 1) (l0 ++ nb x n ++ nb y n) n [x, y] 2 2 = _
  rw [chunk_lay.l0, if_neg (by decide)]
theorem rlay_1 (k : Nat) (l0 : List Int) (n x : Int) (hk : 20 ≤ k) (hn0 : 0 ≤ n) (hn : n ≤ 8) (hx : 0 ≤ x) (hx1 : x < 9223372036854775808) (hl : l0.length ≤ 1000000) : trunklineref12_lay.f k l0 x n = some (l0 ++ nb x n) := by
  have hb := nb_le x n
  unfold trunklineref12_lay.f trunklineref01_Lay.f
  rw [wrapu hx (by omega), rbytes_f x n hx (by omega) (n_wf n hn0 hn) (by omega), Option.bind_some, if_pos (by show l0.length + (nb x n).length < _; omega), Option.bind_some]
  rfl
/-- The value of a piece of data. -/
theorem data_v (k : Nat) (a2 a3 a4 a5 : Int) (l13 l0 : List Int) (hk : 20 ≤ k) (h2 : 0 ≤ a2 ∧ a2 ≤ 4294967295) (h3 : 0 ≤ a3 ∧ a3 ≤ 65535) (h4 : 0 ≤ a4 ∧ a4 ≤ 65535) (h5 : 0 ≤ a5 ∧ a5 ≤ 4294967295) (hl : l0.length ≤ 1000) (hl13 : l13.length ≤ 1480) :
    chunk_data.f k a2 a3 a4 a5 l13 l0 = some (l0 ++ (nb a2 4 ++ nb a3 2 ++ nb a4 2 ++ nb a5 4 ++ l13)) := by
  have b2 := nb_le a2 4
  have b3 := nb_le a3 2
  have b4 := nb_le a4 2
  have b5 := nb_le a5 4
  unfold chunk_data.f
  rw [w64 (by omega) (by omega), i64w h3.1 (by omega), i64w h4.1 (by omega), i64w h5.1 (by omega), lay_1 k l0 4 a2 hk (by decide) (by decide) h2.1 (by omega) (by omega), Option.bind_some,
    lay_2 k _ 2 a3 a4 hk (by decide) (by decide) h3.1 (by omega) h4.1 (by omega) (by simp only [List.length_append]; omega), Option.bind_some,
    lay_1 k _ 4 a5 hk (by decide) (by decide) h5.1 (by omega) (by simp only [List.length_append]; omega), Option.bind_some, if_pos (by simp only [List.length_append]; omega)]
  simp only [List.append_assoc]
theorem mod32 {x : Int} (h0 : 0 ≤ x) (h1 : x ≤ 4294967295) : x % 4294967296 = x := Int.emod_eq_of_lt h0 (by omega)
/-- What the document says of it. -/
theorem rdata_v (k : Nat) (a2 a3 a4 a5 : Int) (l13 : List Int) (hk : 20 ≤ k) (h2 : 0 ≤ a2 ∧ a2 ≤ 4294967295) (h3 : 0 ≤ a3 ∧ a3 ≤ 65535) (h4 : 0 ≤ a4 ∧ a4 ≤ 65535) (h5 : 0 ≤ a5 ∧ a5 ≤ 4294967295) (hl13 : l13.length ≤ 1480) :
    ((trunklineref12_lay.f k [] a2 4).bind fun r1 => (trunklineref12_lay.f k r1 (a3 % 4294967296) 2).bind fun r2 => (trunklineref12_lay.f k r2 (a4 % 4294967296) 2).bind fun r3 => (trunklineref12_lay.f k r3 a5 4).bind fun r4 => if r4.length + l13.length < 140737488355328 then some (r4 ++ l13) else none) = some (nb a2 4 ++ nb a3 2 ++ nb a4 2 ++ nb a5 4 ++ l13) := by
  have b2 := nb_le a2 4
  have b3 := nb_le a3 2
  have b4 := nb_le a4 2
  have b5 := nb_le a5 4
  rw [rlay_1 k [] 4 a2 hk (by decide) (by decide) h2.1 (by omega) (by decide), Option.bind_some, mod32 h3.1 (by omega), mod32 h4.1 (by omega),
    rlay_1 k _ 2 a3 hk (by decide) (by decide) h3.1 (by omega) (by simp only [List.length_append, List.length_nil]; omega), Option.bind_some,
    rlay_1 k _ 2 a4 hk (by decide) (by decide) h4.1 (by omega) (by simp only [List.length_append, List.length_nil]; omega), Option.bind_some,
    rlay_1 k _ 4 a5 hk (by decide) (by decide) h5.1 (by omega) (by simp only [List.length_append, List.length_nil]; omega), Option.bind_some, if_pos (by simp only [List.length_append, List.length_nil]; omega)]
  simp only [List.nil_append, List.append_assoc]
/-- Padding up to a multiple of four. -/
def pad4 (b : List Int) : List Int := b ++ List.replicate ((4 - b.length % 4) % 4) 0
theorem pad4_len (b : List Int) : (pad4 b).length % 4 = 0 ∧ b.length ≤ (pad4 b).length ∧ (pad4 b).length ≤ b.length + 3 := by
  unfold pad4
  rw [List.length_append, List.length_replicate]
  omega
theorem pad4_same (b : List Int) (h : b.length % 4 = 0) : pad4 b = b := by
  unfold pad4
  rw [h]
  simp
theorem pad4_app (a b : List Int) (h : a.length % 4 = 0) : pad4 (a ++ b) = a ++ pad4 b := by
  unfold pad4
  rw [List.length_append, show (a.length + b.length) % 4 = b.length % 4 by omega, List.append_assoc]
/-- Parameters behind bytes. -/
def parV : List Int → List S48 → List Int
  | b, [] => b
  | b, p :: ps => parV (pad4 b ++ nb p.f0 2 ++ nb (4 + (p.f1.length : Int)) 2 ++ p.f1) ps
theorem parV_app (a : List Int) (h : a.length % 4 = 0) : ∀ (l : List S48) (b : List Int), parV (a ++ b) l = a ++ parV b l
  | [], b => rfl
  | p :: ps, b => by
    rw [parV, parV, pad4_app a b h, List.append_assoc, List.append_assoc, List.append_assoc, parV_app a h ps]
    simp only [List.append_assoc]
/-- What Pad tells. -/
def padS (l : List Int) (m : Int) : List Int × Int :=
  if m < 1 ∨ m > 64 then ([], 2) else (l ++ List.replicate ((m - (l.length : Int) % m) % m).toNat 0, 0)
theorem clone_f (l : List Int) (h : l.length < 140737488355328) : slices_Clone_byte_byte.f l = some l := by
  unfold slices_Clone_byte_byte.f; rw [if_pos h]
theorem tm (x m : Int) (h : 0 ≤ x) : Int.tmod x m = x % m := Int.tmod_eq_emod_of_nonneg h
theorem pad_d (x m : Int) (hm : 0 < m) : 0 ≤ (m - x % m) % m ∧ (m - x % m) % m < m := ⟨Int.emod_nonneg _ (by omega), Int.emod_lt_of_pos _ hm⟩
theorem pad_f (l : List Int) (m : Int) (hl : l.length ≤ 140737488351232) : octet_Pad.f l m = some (padS l m) := by
  unfold octet_Pad.f padS
  by_cases h1 : m < 1
  · rw [if_pos h1, if_pos (Or.inl h1)]
  · rw [if_neg h1]
    by_cases h2 : m > 64
    · rw [if_pos h2, if_pos (Or.inr h2)]
    · have hr : 0 ≤ (l.length : Int) % m ∧ (l.length : Int) % m < m := ⟨Int.emod_nonneg _ (by omega), Int.emod_lt_of_pos _ (by omega)⟩
      have hd := pad_d (l.length : Int) m (by omega)
      rw [if_neg h2, if_neg (c := m < 1 ∨ m > 64) (by omega), clone_f _ (by omega), Option.bind_some, if_neg (by omega), tm (l.length : Int) m (by omega), w64 (x := m - (l.length : Int) % m) (by omega) (by omega), tm (m - (l.length : Int) % m) m (by omega), if_pos hd.1, if_pos (by omega)]
theorem pad_4 (b : List Int) (h : b.length ≤ 1000000) : octet_Pad.f b 4 = some (pad4 b, 0) := by
  rw [pad_f b 4 (by omega)]
  unfold padS pad4
  rw [if_neg (by decide), show ((4 - (b.length : Int) % 4) % 4).toNat = (4 - b.length % 4) % 4 by omega]
theorem refpad_l0 : ∀ (d k : Nat) (b : List Int), (4 - b.length % 4) % 4 = d → b.length ≤ 1000000 → refpad.l0 (k + d + 1) b = some (b ++ List.replicate d 0)
  | 0, k, b, h, hl => by
    rw [refpad.l0, if_pos (by omega)]
    simp
  | d + 1, k, b, h, hl => by
    rw [show k + (d + 1) + 1 = (k + d + 1) + 1 by omega, refpad.l0, if_neg (by omega), if_pos (by omega), refpad_l0 d k (b ++ [0]) (by rw [List.length_append]; show (4 - (b.length + 1) % 4) % 4 = d; omega) (by rw [List.length_append]; show b.length + 1 ≤ 1000000; omega)]
    rw [List.append_assoc]
    rfl
theorem refpad_4 (k : Nat) (b : List Int) (hk : 20 ≤ k) (h : b.length ≤ 900000) : refpad.l0 k b = some (pad4 b) := by
  have hd : (4 - b.length % 4) % 4 ≤ 3 := by omega
  obtain ⟨m, rfl⟩ : ∃ m, k = m + (4 - b.length % 4) % 4 + 1 := ⟨k - (4 - b.length % 4) % 4 - 1, by omega⟩
  rw [refpad_l0 _ m b rfl (by omega)]
  rfl
theorem rd48_at (l : List S48) (i : Nat) (h : i < l.length) : rd_T48 l (i : Int) = l[i] := by
  unfold rd_T48
  rw [Int.toNat_natCast, List.getD_eq_getElem?_getD, List.getElem?_eq_getElem h]
  rfl
theorem drop_cons {α : Type} (l : List α) (i : Nat) (h : i < l.length) : l.drop i = l[i] :: l.drop (i + 1) := List.drop_eq_getElem_cons h
theorem par_l0 (l : List S48) (hl : l.length ≤ 16) (hf : ∀ p ∈ l, (0 ≤ p.f0 ∧ p.f0 ≤ 65535) ∧ p.f1.length ≤ 1480) : ∀ (n i k : Nat) (b : List Int), i + n = l.length → b.length ≤ 2000 + i * 1500 → 0 < i ∨ b.length % 4 = 0 →
    chunk_layParams.l0 (k + n + 21) b l (i : Int) = some (parV b (l.drop i))
  | 0, i, k, b, hi, hb, hp => by
    rw [show k + 0 + 21 = k + 20 + 1 by omega, chunk_layParams.l0, if_neg (by omega), List.drop_eq_nil_of_le (by omega)]
    rfl
  | n + 1, i, k, b, hi, hb, hp => by
    have hlt : i < l.length := by omega
    have hm := hf l[i] (List.getElem_mem hlt)
    have hp4 := pad4_len b
    have h1 := nb_le l[i].f0 2
    have h2 := nb_le (4 + (l[i].f1.length : Int)) 2
    have hpad : chunk_padAt.f b (i : Int) = some (pad4 b) := by
      unfold chunk_padAt.f
      by_cases h0 : 0 < (i : Int)
      · rw [if_pos h0, pad_4 b (by omega), Option.bind_some]
      · rw [if_neg h0, pad4_same b (by omega)]
    rw [show k + (n + 1) + 21 = (k + n + 21) + 1 by omega, chunk_layParams.l0, if_pos (by omega), if_pos (by omega), hpad, Option.bind_some, rd48_at l i hlt, i64w hm.1.1 (by omega), i64w (x := 4 + (l[i].f1.length : Int)) (by omega) (by omega),
      lay_2 _ _ 2 _ _ (by omega) (by decide) (by decide) hm.1.1 (by omega) (by omega) (by omega) (by omega), Option.bind_some, if_pos (by simp only [List.length_append]; omega), w64 (x := (i : Int) + 1) (by omega) (by omega)]
    rw [show ((i : Int) + 1) = ((i + 1 : Nat) : Int) by omega, par_l0 l hl hf n (i + 1) k _ (by omega) (by simp only [List.length_append]; omega) (.inl (by omega)), drop_cons l i hlt, parV]
theorem rpar_l0 (l : List S48) (hl : l.length ≤ 16) (hf : ∀ p ∈ l, (0 ≤ p.f0 ∧ p.f0 ≤ 65535) ∧ p.f1.length ≤ 1480) : ∀ (n i k : Nat) (b : List Int), i + n = l.length → b.length ≤ 2000 + i * 1500 →
    refpar.l0 (k + n + 21) b l (i : Int) = some (parV b (l.drop i))
  | 0, i, k, b, hi, hb => by
    rw [show k + 0 + 21 = k + 20 + 1 by omega, refpar.l0, if_neg (by omega), List.drop_eq_nil_of_le (by omega)]
    rfl
  | n + 1, i, k, b, hi, hb => by
    have hlt : i < l.length := by omega
    have hm := hf l[i] (List.getElem_mem hlt)
    have hp4 := pad4_len b
    have h1 := nb_le l[i].f0 2
    have h2 := nb_le (4 + (l[i].f1.length : Int)) 2
    rw [show k + (n + 1) + 21 = (k + n + 21) + 1 by omega, refpar.l0, if_pos (by omega), if_pos (by omega), refpad_4 _ b (by omega) (by omega), Option.bind_some, rd48_at l i hlt, mod32 hm.1.1 (by omega), w64 (x := 4 + (l[i].f1.length : Int)) (by omega) (by omega), mod32 (x := 4 + (l[i].f1.length : Int)) (by omega) (by omega),
      rlay_1 _ _ 2 _ (by omega) (by decide) (by decide) hm.1.1 (by omega) (by omega), Option.bind_some, rlay_1 _ _ 2 _ (by omega) (by decide) (by decide) (by omega) (by omega) (by simp only [List.length_append]; omega), Option.bind_some, if_pos (by simp only [List.length_append]; omega), w64 (x := (i : Int) + 1) (by omega) (by omega)]
    rw [show ((i : Int) + 1) = ((i + 1 : Nat) : Int) by omega, rpar_l0 l hl hf n (i + 1) k _ (by omega) (by simp only [List.length_append]; omega), drop_cons l i hlt, parV]
end Go.Proofs.Ytaahkggbjpdofaa.Pure
