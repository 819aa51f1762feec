/- The document's own Hex is octet's. -/
import Derived.Test.YtnfbbnmdlcmifaaDoorPLetB
import Derived.Test.YtnfbbnmdlcmifaaDoorHHex
import Derived.Test.YtnfbbnmdlcmifaaDoorM4
namespace Go.Proofs.YtnfbbnmdlcmifaaDoor.Pure
open Go.RowKit Go.Proofs.YtnfbbnmdlcmifaaDoor.M Go.Proofs.YtnfbbnmdlcmifaaDoorW.PrintWords Go.Proofs.YtnfbbnmdlcmifaaDoorW.PrintLast Go.Proofs.YtnfbbnmdlcmifaaDoorW.PrintMore
set_option linter.unusedVariables false
set_option linter.unusedSimpArgs false

theorem strOf_append (xs ys : List Int) : strOfNums xs ++ strOfNums ys = strOfNums (xs ++ ys) := by
  apply ByteArray.ext
  simp [strOfNums]
theorem strOf_size (xs : List Int) : (strOfNums xs).size = xs.length := by
  simp [strOfNums, ByteArray.size]
theorem hex_piece : ∀ i : Fin 16, (⟨#[48, 49, 50, 51, 52, 53, 54, 55, 56, 57, 97, 98, 99, 100, 101, 102]⟩ : ByteArray).extract i.val (i.val + 1) = strOfNums [hexD i.val] := by decide +kernel
theorem hex_piece' (i : Int) (h0 : 0 ≤ i) (h1 : i < 16) : (⟨#[48, 49, 50, 51, 52, 53, 54, 55, 56, 57, 97, 98, 99, 100, 101, 102]⟩ : ByteArray).extract i.toNat (i + 1).toNat = strOfNums [hexD i] := by
  have := hex_piece ⟨i.toNat, by omega⟩
  simp only [Int.toNat_of_nonneg h0] at this
  rw [show (i + 1).toNat = i.toNat + 1 by omega]
  exact this
theorem rd_mid (pre : List Int) (x : Int) (xs : List Int) : rd (pre ++ x :: xs) (pre.length : Int) = x := by
  simp [rd]
theorem hex_step {k : Nat} {l : List Int} {acc : ByteArray} {i : Int} (h0 : 0 ≤ i) (h1 : i < (l.length : Int)) (hx : 0 ≤ rd l i ∧ rd l i ≤ 255) (hl : l.length ≤ 140737488355328) (ha : acc.size + 2 ≤ 9223372036854775807) :
    trunklineref01_Hex.l0 (k + 1) l acc i = trunklineref01_Hex.l0 k l (acc ++ strOfNums [hexD (rd l i / 16), hexD (rd l i % 16)]) (i + 1) := by
  have e1 : Int.tdiv (rd l i) 16 = rd l i / 16 := Int.tdiv_eq_ediv_of_nonneg hx.1
  have e2 : Int.tmod (rd l i) 16 = rd l i % 16 := Int.tmod_eq_emod_of_nonneg hx.1
  have e3 : rd l i / 16 % 256 = rd l i / 16 := by omega
  have e4 : (rd l i / 16 + 1) % 256 = rd l i / 16 + 1 := by omega
  have e5 : (rd l i % 16 + 1) % 256 = rd l i % 16 + 1 := by omega
  have e6 : wrap64 (i + 1) = i + 1 := by unfold wrap64; omega
  have p1 := hex_piece' (rd l i / 16) (by omega) (by omega)
  have p2 := hex_piece' (rd l i % 16) (by omega) (by omega)
  have q1 : 0 ≤ rd l i / 16 := by omega
  have q2 : rd l i / 16 ≤ rd l i / 16 + 1 := by omega
  have q3 : rd l i / 16 + 1 ≤ 16 := by omega
  have q4 : acc.size + (strOfNums [hexD (rd l i / 16)]).size ≤ 9223372036854775807 := by rw [strOf_size]; simp; omega
  have q5 : 0 ≤ rd l i % 16 := by omega
  have q6 : rd l i % 16 ≤ rd l i % 16 + 1 := by omega
  have q7 : rd l i % 16 + 1 ≤ 16 := by omega
  have q8 : (acc ++ strOfNums [hexD (rd l i / 16)]).size + (strOfNums [hexD (rd l i % 16)]).size ≤ 9223372036854775807 := by rw [ByteArray.size_append, strOf_size, strOf_size]; simp; omega
  rw [trunklineref01_Hex.l0, if_pos h1, if_pos h0, e1, e2, e3, e4, e5, e6, p1, p2, if_pos q1, if_pos q2, if_pos q3, if_pos q4, if_pos q5, if_pos q6, if_pos q7, if_pos q8, ByteArray.append_assoc, strOf_append]
  rfl
theorem hex_run (l : List Int) (hl : l.length ≤ 140737488355328) : ∀ (xs pre : List Int) (acc : ByteArray), l = pre ++ xs → (∀ x ∈ l, 0 ≤ x ∧ x ≤ 255) → acc.size ≤ 2 * pre.length →
    trunklineref01_Hex.l0 (xs.length + 1) l acc (pre.length : Int) = some (acc ++ strOfNums (hexL xs))
  | [], pre, acc, h, hr, ha => by
    rw [List.append_nil] at h
    have e : acc ++ strOfNums (hexL []) = acc := by
      apply ByteArray.ext
      simp [strOfNums, hexL]
    rw [trunklineref01_Hex.l0, if_neg (by rw [h]; omega), e]
  | x :: xs, pre, acc, h, hr, ha => by
    have hlen : (l.length : Int) = pre.length + xs.length + 1 := by rw [h]; simp; omega
    have hr1 : rd l (pre.length : Int) = x := by rw [h]; exact rd_mid pre x xs
    have hx := hr x (by rw [h]; simp)
    have st := hex_step (k := xs.length + 1) (l := l) (acc := acc) (i := (pre.length : Int)) (by omega) (by omega) (by rw [hr1]; exact hx) hl (by omega)
    rw [hr1] at st
    have ih := hex_run l hl xs (pre ++ [x]) (acc ++ strOfNums [hexD (x / 16), hexD (x % 16)]) (by rw [h]; simp) hr (by rw [ByteArray.size_append, strOf_size]; simp; omega)
    rw [show ((pre ++ [x]).length : Int) = pre.length + 1 by simp] at ih
    rw [List.length_cons, st, ih, ByteArray.append_assoc, strOf_append]
    rfl
theorem hex_same (l : List Int) (hl : l.length ≤ 140737488355328) (hr : ∀ x ∈ l, 0 ≤ x ∧ x ≤ 255) (k : Nat) (hk : l.length + 1 ≤ k) : trunklineref01_Hex.f k l = some (strOfNums (hexL l)) := by
  refine up_ (trunklineref01_Hex.mono l) hk ?_
  have := hex_run l hl l [] (⟨#[]⟩ : ByteArray) rfl hr (by simp [ByteArray.size])
  rw [trunklineref01_Hex.f]
  refine this.trans ?_
  congr 1
end Go.Proofs.YtnfbbnmdlcmifaaDoor.Pure
