import Derived.Test.YtaahkggbjpdofaaM20
import Derived.Test.YtaahkggbjpdofaaM22
import Derived.Test.YtaahkggbjpdofaaHLays
import Derived.Test.YtaahkggbjpdofaaM10
import Derived.Test.YtaahkggbjpdofaaHGiven
import Derived.Test.YtaahkggbjpdofaaM9
import Derived.Test.YtaahkggbjpdofaaM6
import Derived.Test.YtaahkggbjpdofaaPNumB
import Derived.Test.YtaahkggbjpdofaaHStamp
import Derived.Test.YtaahkggbjpdofaaPCrc
import Derived.Test.YtaahkggbjpdofaaHReadF
import Derived.Test.YtaahkggbjpdofaaHCatch
import Derived.Test.YtaahkggbjpdofaaHSame
section
/- The document's odd, told: has a chunk a field that its kind has not? -/
end
section
section
/- What a chunk has behind its length: the program's and the document's, in plain Lean. -/
end
section
/- A chunk's value, of every kind: the program's and the document's are the same. -/

end
section
/- Which chunks may be: the program's Check and the document's, in plain Lean. -/
end
section
/- The packet's sum: the program's Stamp is the document's (plain). -/
namespace Go.Proofs.Ytaahkggbjpdofaa.Pure
open Go.RowKit Go.Proofs.Ytaahkggbjpdofaa.M Go.Proofs.YtaahkggbjpdofaaW.PrintWords Go.Proofs.YtaahkggbjpdofaaW.PrintLast Go.Proofs.YtaahkggbjpdofaaW.PrintMore
set_option linter.unusedVariables false
set_option linter.unusedSimpArgs false
theorem xor_max {r : Int} (h0 : 0 ≤ r) (h1 : r < 4294967296) : Go.bits .xor .u32 IntKind.u32.max r = 4294967295 - r := by
  obtain ⟨m, rfl⟩ := Int.eq_ofNat_of_zero_le h0
  have hm : m < 4294967296 := by omega
  have e : Go.bits .xor .u32 ((4294967295 : Nat) : Int) (m : Int) = ((4294967295 ^^^ m : Nat) : Int) := xor_nat 4294967295 m (by decide) hm
  have h2 : 4294967295 ^^^ m = 4294967295 - m := by
    have hb : ((BitVec.allOnes 32) ^^^ (BitVec.ofNat 32 m)).toNat = 4294967295 ^^^ m := by
      rw [BitVec.toNat_xor, BitVec.toNat_ofNat, BitVec.toNat_allOnes, Nat.mod_eq_of_lt hm]
    rw [← hb, BitVec.allOnes_xor, BitVec.toNat_not, BitVec.toNat_ofNat, Nat.mod_eq_of_lt hm]
  have h3 : Go.bits .xor .u32 IntKind.u32.max (m : Int) = Go.bits .xor .u32 ((4294967295 : Nat) : Int) (m : Int) := by congr 1
  rw [h3, e, h2]
  omega
/-- A packet's first twelve bytes, and the rest. -/
theorem twelve (l : List Int) (h : 12 ≤ l.length) : ∃ e0 e1 e2 e3 e4 e5 e6 e7 e8 e9 e10 e11 r, l = e0 :: e1 :: e2 :: e3 :: e4 :: e5 :: e6 :: e7 :: e8 :: e9 :: e10 :: e11 :: r := by
  match l, h with
  | e0 :: e1 :: e2 :: e3 :: e4 :: e5 :: e6 :: e7 :: e8 :: e9 :: e10 :: e11 :: r, _ => exact ⟨e0, e1, e2, e3, e4, e5, e6, e7, e8, e9, e10, e11, r, rfl⟩
  | [], h | [_], h | [_, _], h | [_, _, _], h | [_, _, _, _], h | [_, _, _, _, _], h | [_, _, _, _, _, _], h | [_, _, _, _, _, _, _], h | [_, _, _, _, _, _, _, _], h | [_, _, _, _, _, _, _, _, _], h | [_, _, _, _, _, _, _, _, _, _], h | [_, _, _, _, _, _, _, _, _, _, _], h => exact absurd h (by simp)
/-- A packet with its sum. -/
def stampV (l : List Int) : List Int := l.take 8 ++ [(4294967295 - crcL (l.take 8 ++ [0, 0, 0, 0] ++ l.drop 12) 4294967295) % 256, (4294967295 - crcL (l.take 8 ++ [0, 0, 0, 0] ++ l.drop 12) 4294967295) / 256 % 256, (4294967295 - crcL (l.take 8 ++ [0, 0, 0, 0] ++ l.drop 12) 4294967295) / 65536 % 256, (4294967295 - crcL (l.take 8 ++ [0, 0, 0, 0] ++ l.drop 12) 4294967295) / 16777216 % 256] ++ l.drop 12
theorem zeroed_range (l : List Int) (hb : ∀ x ∈ l, 0 ≤ x ∧ x ≤ 255) : ∀ x ∈ l.take 8 ++ [0, 0, 0, 0] ++ l.drop 12, 0 ≤ x ∧ x ≤ 255 := by
  intro x hx
  rcases List.mem_append.mp hx with h | h
  · rcases List.mem_append.mp h with h | h
    · exact hb x (List.mem_of_mem_take h)
    · simp only [List.mem_cons, List.not_mem_nil, or_false, or_self] at h
      subst h; decide
  · exact hb x (List.mem_of_mem_drop h)
theorem stamp_v (l : List Int) (hl : 12 ≤ l.length) (hl2 : l.length ≤ 1000000) (hb : ∀ x ∈ l, 0 ≤ x ∧ x ≤ 255) {k : Nat} (hk : 20 ≤ k) : sums_Stamp.f k l = some (stampV l, 0) := by
  have hz := zeroed_range l hb
  have hr := crcL_range _ 4294967295 hz (by decide) (by decide)
  have hc := xor_max hr.1 hr.2
  obtain ⟨c, hcc⟩ : ∃ c, c = 4294967295 - crcL (l.take 8 ++ [0, 0, 0, 0] ++ l.drop 12) 4294967295 := ⟨_, rfl⟩
  unfold sums_Stamp.f sums_Crc.f stampV
  rw [if_neg (by omega), if_pos (by omega), if_pos (by simp only [List.length_append, List.length_take, List.length_drop, List.length_cons, List.length_nil]; omega), Option.bind_some, hc, ← hcc, wrapu (by omega) (by omega), bytes_f c 4 (by omega) (by omega) (i64_wf (by decide) (by decide)) (by omega), Option.bind_some]
  have h4 : (bytesS c 4).1 = [c / 16777216 % 256, c / 65536 % 256, c / 256 % 256, c % 256] := by
    unfold bytesS
    rw [if_pos (by decide), show (4 : Int).toNat = 4 from rfl, if_neg (by rw [show (256 : Int) ^ 4 = 4294967296 by decide]; omega)]
    show bytesL c 4 = _
    simp only [bytesL, List.nil_append, List.cons_append]
    have d1 : c / 256 / 256 = c / 65536 := by omega
    have d2 : c / 65536 / 256 = c / 16777216 := by omega
    rw [d1, d2]
  rw [h4]
  have hrev : slices_Reverse_byte_byte.f k [c / 16777216 % 256, c / 65536 % 256, c / 256 % 256, c % 256] = some [c % 256, c / 256 % 256, c / 65536 % 256, c / 16777216 % 256] := by
    refine up_ (fun j => slices_Reverse_byte_byte.mono _ j) hk ?_
    have z1 : wrap64 (((4 : Nat) : Int) - 1) = 3 := by rw [w64 (by decide) (by decide)]; rfl
    have z2 : wrap64 (0 + 1) = 1 := by rw [w64 (by decide) (by decide)]; rfl
    have z3 : wrap64 (3 - 1) = 2 := by rw [w64 (by decide) (by decide)]; rfl
    have z4 : wrap64 (1 + 1) = 2 := by rw [w64 (by decide) (by decide)]; rfl
    have z5 : wrap64 (2 - 1) = 1 := by rw [w64 (by decide) (by decide)]; rfl
    unfold slices_Reverse_byte_byte.f
    rw [show [c / 16777216 % 256, c / 65536 % 256, c / 256 % 256, c % 256].length = 4 from rfl, z1]
    rw [slices_Reverse_byte_byte.l0, if_pos (by decide), if_pos (by decide), if_pos (by show (3 : Int) < 4; decide), if_pos (by decide), if_pos (by show (0 : Int) < 4; decide), z2, z3]
    rw [slices_Reverse_byte_byte.l0, if_pos (by decide), if_pos (by decide), if_pos (by show (2 : Int) < 4; decide), if_pos (by decide), if_pos (by show (1 : Int) < 4; decide), z4, z5]
    rw [slices_Reverse_byte_byte.l0, if_neg (by decide)]
    rfl
  rw [hrev, Option.bind_some, if_pos (by rfl)]
theorem stampV_len (l : List Int) (hl : 12 ≤ l.length) : (stampV l).length = l.length := by
  unfold stampV
  simp only [List.length_append, List.length_take, List.length_drop, List.length_cons, List.length_nil]
  omega
end Go.Proofs.Ytaahkggbjpdofaa.Pure
end
section
/- What the program's Put tells, in plain Lean. -/
namespace Go.Proofs.Ytaahkggbjpdofaa.Pure
open Go.RowKit Go.Proofs.Ytaahkggbjpdofaa.M Go.Proofs.YtaahkggbjpdofaaW.PrintWords Go.Proofs.YtaahkggbjpdofaaW.PrintLast Go.Proofs.YtaahkggbjpdofaaW.PrintMore
set_option linter.unusedVariables false
set_option linter.unusedSimpArgs false
abbrev Bys (l : List Int) : Prop := ∀ x ∈ l, 0 ≤ x ∧ x ≤ 255
theorem bys_app {a b : List Int} (ha : Bys a) (hb : Bys b) : Bys (a ++ b) := fun x hx => (List.mem_append.mp hx).elim (ha x) (hb x)
theorem rd29_at (l : List S29) (i : Nat) (h : i < l.length) : rd_T29 l (i : Int) = l[i] := by
  unfold rd_T29
  rw [Int.toNat_natCast, List.getD_eq_getElem?_getD, List.getElem?_eq_getElem h]
  rfl
end Go.Proofs.Ytaahkggbjpdofaa.Pure
end
section
/- Of what was put Take's readers tell what was put: numbers, parameters, blocks, doubles, each kind of chunk, all chunks; in plain Lean. -/
end
section
/- Take of a stamped packet tells its head and its chunks; a list of chunks is the same as itself; in plain Lean. -/
namespace Go.Proofs.Ytaahkggbjpdofaa.Pure
open Go.RowKit Go.Proofs.Ytaahkggbjpdofaa.M Go.Proofs.YtaahkggbjpdofaaW.PrintWords Go.Proofs.YtaahkggbjpdofaaW.PrintLast Go.Proofs.YtaahkggbjpdofaaW.PrintMore
set_option linter.unusedVariables false
set_option linter.unusedSimpArgs false
theorem rd_at (l : List Int) (i : Nat) (h : i < l.length) : rd l (i : Int) = l[i] := by
  unfold rd
  rw [Int.toNat_natCast, List.getD_eq_getElem?_getD, List.getElem?_eq_getElem h]
  rfl
theorem eq_l0 (x y : List Int) (hl : x.length = y.length) (hb : x.length ≤ 1000000) : ∀ (n i k : Nat), i + n = x.length → slices_Equal_byte_byte.l0 (k + n + 1) x y (x.length : Int) (i : Int) = some (decide (x.drop i = y.drop i))
  | 0, i, k, hi => by
    rw [slices_Equal_byte_byte.l0, if_neg (by omega), List.drop_eq_nil_of_le (by omega), List.drop_eq_nil_of_le (by omega)]
    rfl
  | n + 1, i, k, hi => by
    have hx : i < x.length := by omega
    have hy : i < y.length := by omega
    have ih := eq_l0 x y hl hb n (i + 1) k (by omega)
    have hw : wrap64 ((i : Int) + 1) = ((i + 1 : Nat) : Int) := by rw [w64 (by omega) (by omega)]; omega
    rw [show k + (n + 1) + 1 = (k + n + 1) + 1 by omega, slices_Equal_byte_byte.l0, if_pos (by omega), if_pos (by omega), if_pos (by omega), if_pos (by omega), rd_at x i hx, rd_at y i hy, hw, ih, List.drop_eq_getElem_cons hx, List.drop_eq_getElem_cons hy]
    by_cases he : x[i] = y[i]
    · rw [if_pos he]
      congr 1
      apply decide_eq_decide.mpr
      rw [List.cons_eq_cons]
      exact ⟨fun h => ⟨he, h⟩, fun h => h.2⟩
    · rw [if_neg he, decide_eq_false (fun h => he (List.cons_eq_cons.mp h).1)]
theorem eq_f (x y : List Int) (hb : x.length ≤ 1480) {k : Nat} (hk : 1500 ≤ k) : slices_Equal_byte_byte.f k x y = some (decide (x = y)) := by
  unfold slices_Equal_byte_byte.f
  by_cases hl : x.length = y.length
  · obtain ⟨m, rfl⟩ : ∃ m, k = m + x.length + 1 := ⟨k - x.length - 1, by omega⟩
    have h := eq_l0 x y hl (by omega) x.length 0 m (by omega)
    rw [List.drop_zero, List.drop_zero] at h
    rw [if_pos (by omega)]
    exact h
  · rw [if_neg (by omega)]
    have : x ≠ y := fun h => hl (congrArg List.length h)
    simp [this]
theorem stamped_f (l : List Int) (hl : 12 ≤ l.length) (hl2 : l.length ≤ 1480) (hb : Bys l) {k : Nat} (hk : 1500 ≤ k) : sums_Stamped.f k l = some (decide (stampV l = l)) := by
  unfold sums_Stamped.f
  rw [stamp_v l hl (by omega) hb (by omega), Option.bind_some, if_pos rfl, eq_f _ _ (by rw [stampV_len l hl]; exact hl2) hk, Option.bind_some]
theorem stamp_bys (l : List Int) (hb : Bys l) : Bys (stampV l) := by
  have h := crcL_range _ 4294967295 (zeroed_range l hb) (by decide) (by decide)
  unfold stampV
  obtain ⟨c, hc⟩ : ∃ c, c = crcL (l.take 8 ++ [0, 0, 0, 0] ++ l.drop 12) 4294967295 := ⟨_, rfl⟩
  rw [← hc] at h ⊢
  refine bys_app (bys_app (fun x hx => hb x (List.mem_of_mem_take hx)) ?_) (fun x hx => hb x (List.mem_of_mem_drop hx))
  intro x hx
  simp only [List.mem_cons, List.not_mem_nil, or_false] at hx
  rcases hx with rfl | rfl | rfl | rfl <;> omega
theorem same_l0 (l : List S29) (hl : l.length ≤ 32) (hf : ∀ c ∈ l, c.f10.length ≤ 4611686018427387904 ∧ c.f11.length ≤ 4611686018427387904 ∧ c.f12.length ≤ 4611686018427387904) : ∀ (n i k : Nat), i + n = l.length → trunklineref12_SameAll.l0 (k + n + 1) l l (i : Int) = some true
  | 0, i, k, hi => by rw [trunklineref12_SameAll.l0, if_neg (by omega)]
  | n + 1, i, k, hi => by
    have hx : i < l.length := by omega
    have ih := same_l0 l hl hf n (i + 1) k (by omega)
    have hw : wrap64 ((i : Int) + 1) = ((i + 1 : Nat) : Int) := by rw [w64 (by omega) (by omega)]; omega
    have h := hf l[i] (List.getElem_mem hx)
    rw [show k + (n + 1) + 1 = (k + n + 1) + 1 by omega, trunklineref12_SameAll.l0, if_pos (by omega), if_pos (by omega), if_pos (by omega), rd29_at l i hx, hw, ih]
    unfold trunklineref12_Same.f
    rw [if_pos ⟨rfl, rfl, rfl, rfl, rfl, rfl, rfl, rfl, rfl, rfl, rfl, rfl, rfl, rfl, h.1, h.2.1, h.2.2⟩]
    rfl
end Go.Proofs.Ytaahkggbjpdofaa.Pure
end
end
