import Derived.Test.YtaahkggbjpdofaaPChunkC
import Derived.Test.YtaahkggbjpdofaaM27
import Derived.Test.YtaahkggbjpdofaaHStamp
import Derived.Test.YtaahkggbjpdofaaPCrc
import Derived.Test.YtaahkggbjpdofaaPNumA
import Derived.Test.YtaahkggbjpdofaaM30
section
/- The document's Check, plain. -/
namespace Go.Proofs.Ytaahkggbjpdofaa.Pure
open Go.RowKit Go.Proofs.Ytaahkggbjpdofaa.M Go.Proofs.YtaahkggbjpdofaaW.PrintWords Go.Proofs.YtaahkggbjpdofaaW.PrintLast Go.Proofs.YtaahkggbjpdofaaW.PrintMore
set_option linter.unusedVariables false
set_option linter.unusedSimpArgs false
theorem rck_ok (t a1 a2 a3 a4 a5 a6 a7 a8 a9 : Int) (l10 : List S101) (l11 : List Int) (l12 : List S48) (l13 : List Int) (h : Fit t a1 a2 a3 a4 a5 a6 a7 a8 a9 l10 l11 l12 l13) : ∀ (n i k : Nat), i + n = l12.length → trunklineref12_Check.l0 (k + n + 70) (i : Int) t a1 a2 a3 a4 a5 a6 a7 a8 a9 l10 l11 l12 l13 = some (if 1468 < 4 + (valV t a1 a2 a3 a4 a5 a6 a7 a8 a9 l10 l11 l12 l13).length then 6 else 0)
  | 0, i, k, hi => by
    have hb := byV_len t a1 a2 a3 a4 a5 a6 a7 a8 a9 l10 l11 l12 l13 h
    rw [show k + 0 + 70 = k + 69 + 1 by omega, trunklineref12_Check.l0, if_neg (by omega), rbytes_v t a1 a2 a3 a4 a5 a6 a7 a8 a9 l10 l11 l12 l13 h (k + 69) (by omega), Option.bind_some]
    by_cases h1 : 1468 < 4 + (valV t a1 a2 a3 a4 a5 a6 a7 a8 a9 l10 l11 l12 l13).length
    · rw [if_pos (by omega), if_pos h1]
    · rw [if_neg (by omega), if_neg h1]
  | n + 1, i, k, hi => by
    have hlt : i < l12.length := by omega
    have hm := (h.e12 l12[i] (List.getElem_mem hlt)).2
    have n12 := h.n12
    rw [show k + (n + 1) + 70 = (k + n + 70) + 1 by omega, trunklineref12_Check.l0, if_pos (by omega), if_pos (by omega), rd48_at l12 i hlt, if_neg (by omega), w64 (x := (i : Int) + 1) (by omega) (by omega), show ((i : Int) + 1) = ((i + 1 : Nat) : Int) by omega]
    exact rck_ok t a1 a2 a3 a4 a5 a6 a7 a8 a9 l10 l11 l12 l13 h n (i + 1) k (by omega)
theorem rck_bad (t a1 a2 a3 a4 a5 a6 a7 a8 a9 : Int) (l10 : List S101) (l11 : List Int) (l12 : List S48) (l13 : List Int) (hn : l12.length ≤ 16) : ∀ (n i k : Nat), i + n = l12.length → ((l12.drop i).any fun p => decide (1480 < p.f1.length)) = true → trunklineref12_Check.l0 (k + n + 70) (i : Int) t a1 a2 a3 a4 a5 a6 a7 a8 a9 l10 l11 l12 l13 = some 6
  | 0, i, k, hi, ha => by
    rw [List.drop_eq_nil_of_le (by omega)] at ha
    cases ha
  | n + 1, i, k, hi, ha => by
    have hlt : i < l12.length := by omega
    rw [show k + (n + 1) + 70 = (k + n + 70) + 1 by omega, trunklineref12_Check.l0, if_pos (by omega), if_pos (by omega), rd48_at l12 i hlt]
    by_cases h1 : 1480 < l12[i].f1.length
    · rw [if_pos (by omega)]
    · rw [if_neg (by omega), w64 (x := (i : Int) + 1) (by omega) (by omega), show ((i : Int) + 1) = ((i + 1 : Nat) : Int) by omega]
      refine rck_bad t a1 a2 a3 a4 a5 a6 a7 a8 a9 l10 l11 l12 l13 hn n (i + 1) k (by omega) ?_
      rw [drop_cons l12 i hlt, List.any_cons, decide_eq_false h1, Bool.false_or] at ha
      exact ha
theorem rck_j1 (t a1 a2 a3 a4 a5 a6 a7 a8 a9 : Int) (l10 : List S101) (l11 : List Int) (l12 : List S48) (l13 : List Int) (h : Wf t a1 a2 a3 a4 a5 a6 a7 a8 a9 l10 l11 l12 l13) (k : Nat) (hk : 100 ≤ k) (n12 : ¬ 16 < l12.length) (n10 : ¬ 16 < l10.length) (n11 : ¬ 16 < l11.length) (n13 : ¬ 1480 < l13.length) :
    trunklineref12_Check.l0 k 0 t a1 a2 a3 a4 a5 a6 a7 a8 a9 l10 l11 l12 l13 = some (if (l12.any fun p => decide (1480 < p.f1.length)) = true then 6 else if 1468 < 4 + (valV t a1 a2 a3 a4 a5 a6 a7 a8 a9 l10 l11 l12 l13).length then 6 else 0) := by
  obtain ⟨m, rfl⟩ : ∃ m, k = m + l12.length + 70 := ⟨k - l12.length - 70, by omega⟩
  by_cases ha : (l12.any fun p => decide (1480 < p.f1.length)) = true
  · rw [if_pos ha]
    exact rck_bad t a1 a2 a3 a4 a5 a6 a7 a8 a9 l10 l11 l12 l13 (by omega) l12.length 0 m (by omega) (by rw [List.drop_zero]; exact ha)
  · rw [if_neg ha]
    exact rck_ok t a1 a2 a3 a4 a5 a6 a7 a8 a9 l10 l11 l12 l13 (h.fit _ _ _ _ _ _ _ _ _ _ _ _ _ _ n12 n10 n11 n13 ha) l12.length 0 m (by omega)
theorem rcheck_v (t a1 a2 a3 a4 a5 a6 a7 a8 a9 : Int) (l10 : List S101) (l11 : List Int) (l12 : List S48) (l13 : List Int) (h : Wf t a1 a2 a3 a4 a5 a6 a7 a8 a9 l10 l11 l12 l13) (k : Nat) (hk : 110 ≤ k) : trunklineref12_Check.f k t a1 a2 a3 a4 a5 a6 a7 a8 a9 l10 l11 l12 l13 = some (ckV t a1 a2 a3 a4 a5 a6 a7 a8 a9 l10 l11 l12 l13) := by
  obtain ⟨m, rfl⟩ : ∃ m, k = m + 2 := ⟨k - 2, by omega⟩
  have hj : ∀ b : Bool, trunklineref12_Check.j0 (m + 2) b t a1 a2 a3 a4 a5 a6 a7 a8 a9 l10 l11 l12 l13 = some (if b = true then 2 else if 16 < l12.length then 6 else if 16 < l10.length then 6 else if 16 < l11.length then 6 else if 1480 < l13.length then 6 else if (l12.any fun p => decide (1480 < p.f1.length)) = true then 6 else if 1468 < 4 + (valV t a1 a2 a3 a4 a5 a6 a7 a8 a9 l10 l11 l12 l13).length then 6 else 0) := by
    intro b
    rw [trunklineref12_Check.j0]
    by_cases hb : b = true
    · rw [if_pos hb, if_pos hb]
    rw [if_neg hb, if_neg hb]
    by_cases h12 : 16 < l12.length
    · rw [if_pos (by omega), if_pos h12, trunklineref12_Check.j1, if_pos rfl]
    rw [if_neg (by omega), if_neg h12]
    by_cases h10 : 16 < l10.length
    · rw [if_pos (by omega), if_pos h10, trunklineref12_Check.j1, if_pos rfl]
    rw [if_neg (by omega), if_neg h10]
    by_cases h11 : 16 < l11.length
    · rw [if_pos (by omega), if_pos h11, trunklineref12_Check.j1, if_pos rfl]
    rw [if_neg (by omega), if_neg h11, trunklineref12_Check.j1]
    by_cases h13 : 1480 < l13.length
    · rw [if_pos (decide_eq_true (by omega)), if_pos h13]
    rw [if_neg (by rw [decide_eq_false (by omega)]; exact Bool.false_ne_true), if_neg h13]
    exact rck_j1 t a1 a2 a3 a4 a5 a6 a7 a8 a9 l10 l11 l12 l13 h m (by omega) h12 h10 h11 h13
  unfold trunklineref12_Check.f trunklineref12_odd.f ckV
  rw [Option.bind_some]
  by_cases ho : oddB t a1 a2 a3 a4 a5 a6 a7 a8 a9 l10 l11 l12 l13
  · rw [if_pos (decide_eq_true ho), if_pos ho, hj, if_pos rfl]
  rw [if_neg (by rw [decide_eq_false ho]; exact Bool.false_ne_true), if_neg ho]
  by_cases h0 : t = 0
  · rw [if_pos h0, hj]
    by_cases hz : l13.length = 0
    · rw [if_pos (beq_iff_eq.mpr (by omega)), if_pos ⟨h0, hz⟩]
    · rw [if_neg (by rw [beq_iff_eq]; omega), if_neg (c := t = 0 ∧ l13.length = 0) (fun hh => hz hh.2)]
  · rw [if_neg h0, hj, if_neg Bool.false_ne_true, if_neg (c := t = 0 ∧ l13.length = 0) (fun hh => h0 hh.1)]
end Go.Proofs.Ytaahkggbjpdofaa.Pure
end
section
/- The packet's sum: the program's Stamp is the document's (plain). -/
namespace Go.Proofs.Ytaahkggbjpdofaa.Pure
open Go.RowKit Go.Proofs.Ytaahkggbjpdofaa.M Go.Proofs.YtaahkggbjpdofaaW.PrintWords Go.Proofs.YtaahkggbjpdofaaW.PrintLast Go.Proofs.YtaahkggbjpdofaaW.PrintMore
set_option linter.unusedVariables false
set_option linter.unusedSimpArgs false
theorem xor_max {r : Int} (h0 : 0 ≤ r) (h1 : r < 4294967296) : Go.bits .xor .u32 IntKind.u32.max r = 4294967295 - r := by
  obtain ⟨m, rfl⟩ := Int.eq_ofNat_of_zero_le h0
  have hm : m < 4294967296 := by omega
  have e : Go.bits .xor .u32 ((4294967295 : Nat) : Int) (m : Int) = ((4294967295 ^^^ m : Nat) : Int) := xor_nat 4294967295 m (by decide) hm
  have h2 : 4294967295 ^^^ m = 4294967295 - m := by
    have hb : ((BitVec.allOnes 32) ^^^ (BitVec.ofNat 32 m)).toNat = 4294967295 ^^^ m := by
      rw [BitVec.toNat_xor, BitVec.toNat_ofNat, BitVec.toNat_allOnes, Nat.mod_eq_of_lt hm]
    rw [← hb, BitVec.allOnes_xor, BitVec.toNat_not, BitVec.toNat_ofNat, Nat.mod_eq_of_lt hm]
  have h3 : Go.bits .xor .u32 IntKind.u32.max (m : Int) = Go.bits .xor .u32 ((4294967295 : Nat) : Int) (m : Int) := by congr 1
  rw [h3, e, h2]
  omega
/-- A packet's first twelve bytes, and the rest. -/
theorem twelve (l : List Int) (h : 12 ≤ l.length) : ∃ e0 e1 e2 e3 e4 e5 e6 e7 e8 e9 e10 e11 r, l = e0 :: e1 :: e2 :: e3 :: e4 :: e5 :: e6 :: e7 :: e8 :: e9 :: e10 :: e11 :: r := by
  match l, h with
  | e0 :: e1 :: e2 :: e3 :: e4 :: e5 :: e6 :: e7 :: e8 :: e9 :: e10 :: e11 :: r, _ => exact ⟨e0, e1, e2, e3, e4, e5, e6, e7, e8, e9, e10, e11, r, rfl⟩
  | [], h | [_], h | [_, _], h | [_, _, _], h | [_, _, _, _], h | [_, _, _, _, _], h | [_, _, _, _, _, _], h | [_, _, _, _, _, _, _], h | [_, _, _, _, _, _, _, _], h | [_, _, _, _, _, _, _, _, _], h | [_, _, _, _, _, _, _, _, _, _], h | [_, _, _, _, _, _, _, _, _, _, _], h => exact absurd h (by simp)
/-- A packet with its sum. -/
def stampV (l : List Int) : List Int := l.take 8 ++ [(4294967295 - crcL (l.take 8 ++ [0, 0, 0, 0] ++ l.drop 12) 4294967295) % 256, (4294967295 - crcL (l.take 8 ++ [0, 0, 0, 0] ++ l.drop 12) 4294967295) / 256 % 256, (4294967295 - crcL (l.take 8 ++ [0, 0, 0, 0] ++ l.drop 12) 4294967295) / 65536 % 256, (4294967295 - crcL (l.take 8 ++ [0, 0, 0, 0] ++ l.drop 12) 4294967295) / 16777216 % 256] ++ l.drop 12
theorem zeroed_range (l : List Int) (hb : ∀ x ∈ l, 0 ≤ x ∧ x ≤ 255) : ∀ x ∈ l.take 8 ++ [0, 0, 0, 0] ++ l.drop 12, 0 ≤ x ∧ x ≤ 255 := by
  intro x hx
  rcases List.mem_append.mp hx with h | h
  · rcases List.mem_append.mp h with h | h
    · exact hb x (List.mem_of_mem_take h)
    · simp only [List.mem_cons, List.not_mem_nil, or_false, or_self] at h
      subst h; decide
  · exact hb x (List.mem_of_mem_drop h)
theorem stamp_v (l : List Int) (hl : 12 ≤ l.length) (hl2 : l.length ≤ 1000000) (hb : ∀ x ∈ l, 0 ≤ x ∧ x ≤ 255) {k : Nat} (hk : 20 ≤ k) : sums_Stamp.f k l = some (stampV l, 0) := by
  have hz := zeroed_range l hb
  have hr := crcL_range _ 4294967295 hz (by decide) (by decide)
  have hc := xor_max hr.1 hr.2
  obtain ⟨c, hcc⟩ : ∃ c, c = 4294967295 - crcL (l.take 8 ++ [0, 0, 0, 0] ++ l.drop 12) 4294967295 := ⟨_, rfl⟩
  unfold sums_Stamp.f sums_Crc.f stampV
  rw [if_neg (by omega), if_pos (by omega), if_pos (by simp only [List.length_append, List.length_take, List.length_drop, List.length_cons, List.length_nil]; omega), Option.bind_some, hc, ← hcc, wrapu (by omega) (by omega), bytes_f c 4 (by omega) (by omega) (i64_wf (by decide) (by decide)) (by omega), Option.bind_some]
  have h4 : (bytesS c 4).1 = [c / 16777216 % 256, c / 65536 % 256, c / 256 % 256, c % 256] := by
    unfold bytesS
    rw [if_pos (by decide), show (4 : Int).toNat = 4 from rfl, if_neg (by rw [show (256 : Int) ^ 4 = 4294967296 by decide]; omega)]
    show bytesL c 4 = _
    simp only [bytesL, List.nil_append, List.cons_append]
    have d1 : c / 256 / 256 = c / 65536 := by omega
    have d2 : c / 65536 / 256 = c / 16777216 := by omega
    rw [d1, d2]
  rw [h4]
  have hrev : slices_Reverse_byte_byte.f k [c / 16777216 % 256, c / 65536 % 256, c / 256 % 256, c % 256] = some [c % 256, c / 256 % 256, c / 65536 % 256, c / 16777216 % 256] := by
    refine up_ (fun j => slices_Reverse_byte_byte.mono _ j) hk ?_
    have z1 : wrap64 (((4 : Nat) : Int) - 1) = 3 := by rw [w64 (by decide) (by decide)]; rfl
    have z2 : wrap64 (0 + 1) = 1 := by rw [w64 (by decide) (by decide)]; rfl
    have z3 : wrap64 (3 - 1) = 2 := by rw [w64 (by decide) (by decide)]; rfl
    have z4 : wrap64 (1 + 1) = 2 := by rw [w64 (by decide) (by decide)]; rfl
    have z5 : wrap64 (2 - 1) = 1 := by rw [w64 (by decide) (by decide)]; rfl
    unfold slices_Reverse_byte_byte.f
    rw [show [c / 16777216 % 256, c / 65536 % 256, c / 256 % 256, c % 256].length = 4 from rfl, z1]
    rw [slices_Reverse_byte_byte.l0, if_pos (by decide), if_pos (by decide), if_pos (by show (3 : Int) < 4; decide), if_pos (by decide), if_pos (by show (0 : Int) < 4; decide), z2, z3]
    rw [slices_Reverse_byte_byte.l0, if_pos (by decide), if_pos (by decide), if_pos (by show (2 : Int) < 4; decide), if_pos (by decide), if_pos (by show (1 : Int) < 4; decide), z4, z5]
    rw [slices_Reverse_byte_byte.l0, if_neg (by decide)]
    rfl
  rw [hrev, Option.bind_some, if_pos (by rfl)]
theorem rstamp_v (l : List Int) (hl : 12 ≤ l.length) (hl2 : l.length ≤ 1000000) (hb : ∀ x ∈ l, 0 ≤ x ∧ x ≤ 255) {k : Nat} (hk : 20 ≤ k) : trunklineref02_Stamp.f k l = some (stampV l, 0) := by
  have hz := zeroed_range l hb
  have hr := crcL_range _ 4294967295 hz (by decide) (by decide)
  refine up_ (fun j => trunklineref02_Stamp.mono _ j) hk ?_
  obtain ⟨e0, e1, e2, e3, e4, e5, e6, e7, e8, e9, e10, e11, r, rfl⟩ := twelve l hl
  have hll : (e0 :: e1 :: e2 :: e3 :: e4 :: e5 :: e6 :: e7 :: e8 :: e9 :: e10 :: e11 :: r).length = r.length + 12 := rfl
  rw [hll] at hl2
  have hzl : ([e0, e1, e2, e3, e4, e5, e6, e7] ++ [0, 0, 0, 0] ++ r).length ≤ 140737488355328 := by simp only [List.length_append, List.length_cons, List.length_nil]; omega
  obtain ⟨c, hcc⟩ : ∃ c, c = 4294967295 - crcL (e0 :: e1 :: e2 :: e3 :: e4 :: e5 :: e6 :: e7 :: 0 :: 0 :: 0 :: 0 :: r) 4294967295 := ⟨_, rfl⟩
  have hz' : ∀ x ∈ e0 :: e1 :: e2 :: e3 :: e4 :: e5 :: e6 :: e7 :: 0 :: 0 :: 0 :: 0 :: r, 0 ≤ x ∧ x ≤ 255 := hz
  have hr' : 0 ≤ crcL (e0 :: e1 :: e2 :: e3 :: e4 :: e5 :: e6 :: e7 :: 0 :: 0 :: 0 :: 0 :: r) 4294967295 ∧ crcL (e0 :: e1 :: e2 :: e3 :: e4 :: e5 :: e6 :: e7 :: 0 :: 0 :: 0 :: 0 :: r) 4294967295 < 4294967296 := hr
  have hcrc : trunklineref02_Crc.f (e0 :: e1 :: e2 :: e3 :: e4 :: e5 :: e6 :: e7 :: 0 :: 0 :: 0 :: 0 :: r) = some c := by
    unfold trunklineref02_Crc.f
    rw [if_pos ⟨hzl, List.all_eq_true.mpr (fun x hx => decide_eq_true (hz' x hx))⟩, hcc]
  have hs : stampV (e0 :: e1 :: e2 :: e3 :: e4 :: e5 :: e6 :: e7 :: e8 :: e9 :: e10 :: e11 :: r) = e0 :: e1 :: e2 :: e3 :: e4 :: e5 :: e6 :: e7 :: c % 256 :: c / 256 % 256 :: c / 65536 % 256 :: c / 16777216 % 256 :: r := by rw [hcc]; rfl
  rw [hs]
  have c0 : 0 ≤ c ∧ c < 4294967296 := by omega
  unfold trunklineref02_Stamp.f
  rw [if_neg (by rw [hll]; omega), Option.bind_some, if_pos (by rw [hll]; show 0 + _ < _; omega), List.nil_append]
  have w8 : wrap64 (8 + 1) = 9 := by rw [w64 (by decide) (by decide)]; rfl
  have w9 : wrap64 (9 + 1) = 10 := by rw [w64 (by decide) (by decide)]; rfl
  have w10 : wrap64 (10 + 1) = 11 := by rw [w64 (by decide) (by decide)]; rfl
  have w11 : wrap64 (11 + 1) = 12 := by rw [w64 (by decide) (by decide)]; rfl
  have L0 : trunklineref02_Stamp.l0 20 (e0 :: e1 :: e2 :: e3 :: e4 :: e5 :: e6 :: e7 :: e8 :: e9 :: e10 :: e11 :: r) 8 = trunklineref02_Stamp.l1 15 (e0 :: e1 :: e2 :: e3 :: e4 :: e5 :: e6 :: e7 :: 0 :: 0 :: 0 :: 0 :: r) c 8 := by
    rw [trunklineref02_Stamp.l0, if_pos (by decide), if_pos (by decide), if_pos (by rw [hll]; omega), w8]
    rw [trunklineref02_Stamp.l0, if_pos (by decide), if_pos (by decide), if_pos (by simp only [List.length_set]; rw [hll]; omega), w9]
    rw [trunklineref02_Stamp.l0, if_pos (by decide), if_pos (by decide), if_pos (by simp only [List.length_set]; rw [hll]; omega), w10]
    rw [trunklineref02_Stamp.l0, if_pos (by decide), if_pos (by decide), if_pos (by simp only [List.length_set]; rw [hll]; omega), w11]
    rw [trunklineref02_Stamp.l0, if_neg (by decide)]
    show (trunklineref02_Crc.f (e0 :: e1 :: e2 :: e3 :: e4 :: e5 :: e6 :: e7 :: 0 :: 0 :: 0 :: 0 :: r)).bind _ = _
    rw [hcrc, Option.bind_some]
    rfl
  rw [L0]
  have t1 : Int.tmod c 256 % 256 = c % 256 := by rw [Int.tmod_eq_emod_of_nonneg c0.1]; omega
  have q1 : Int.tdiv c 256 % 4294967296 = c / 256 := by rw [Int.tdiv_eq_ediv_of_nonneg c0.1]; omega
  have t2 : Int.tmod (c / 256) 256 % 256 = c / 256 % 256 := by rw [Int.tmod_eq_emod_of_nonneg (by omega)]; omega
  have q2 : Int.tdiv (c / 256) 256 % 4294967296 = c / 65536 := by rw [Int.tdiv_eq_ediv_of_nonneg (by omega)]; omega
  have t3 : Int.tmod (c / 65536) 256 % 256 = c / 65536 % 256 := by rw [Int.tmod_eq_emod_of_nonneg (by omega)]; omega
  have q3 : Int.tdiv (c / 65536) 256 % 4294967296 = c / 16777216 := by rw [Int.tdiv_eq_ediv_of_nonneg (by omega)]; omega
  have t4 : Int.tmod (c / 16777216) 256 % 256 = c / 16777216 % 256 := by rw [Int.tmod_eq_emod_of_nonneg (by omega)]; omega
  have hl3 : (e0 :: e1 :: e2 :: e3 :: e4 :: e5 :: e6 :: e7 :: 0 :: 0 :: 0 :: 0 :: r).length = r.length + 12 := rfl
  rw [trunklineref02_Stamp.l1, if_pos (by decide), if_pos (by decide), if_pos (by rw [hl3]; omega), w8, t1, q1]
  rw [trunklineref02_Stamp.l1, if_pos (by decide), if_pos (by decide), if_pos (by simp only [List.length_set]; rw [hl3]; omega), w9, t2, q2]
  rw [trunklineref02_Stamp.l1, if_pos (by decide), if_pos (by decide), if_pos (by simp only [List.length_set]; rw [hl3]; omega), w10, t3, q3]
  rw [trunklineref02_Stamp.l1, if_pos (by decide), if_pos (by decide), if_pos (by simp only [List.length_set]; rw [hl3]; omega), w11, t4]
  rw [trunklineref02_Stamp.l1, if_neg (by decide)]
  rfl
theorem stampV_len (l : List Int) (hl : 12 ≤ l.length) : (stampV l).length = l.length := by
  unfold stampV
  simp only [List.length_append, List.length_take, List.length_drop, List.length_cons, List.length_nil]
  omega
end Go.Proofs.Ytaahkggbjpdofaa.Pure
end
