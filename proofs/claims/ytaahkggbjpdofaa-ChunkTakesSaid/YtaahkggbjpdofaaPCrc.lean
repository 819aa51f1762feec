/- The sum of a packet: the program's and the document's, in plain Lean. -/
import Derived.Test.YtaahkggbjpdofaaM22
import Derived.Test.YtaahkggbjpdofaaHCrc

namespace Go.Proofs.Ytaahkggbjpdofaa.Pure
open Go.RowKit Go.Proofs.Ytaahkggbjpdofaa.M Go.Proofs.YtaahkggbjpdofaaW.PrintWords Go.Proofs.YtaahkggbjpdofaaW.PrintLast Go.Proofs.YtaahkggbjpdofaaW.PrintMore
set_option linter.unusedVariables false
set_option linter.unusedSimpArgs false
theorem w32 {x : Int} (h0 : 0 ≤ x) (h1 : x < 4294967296) : IntKind.u32.wrap x = x := by
  have : IntKind.u32.wrap x = x % 4294967296 := by simp [IntKind.wrap, IntKind.bits, IntKind.signed]
  rw [this]; omega
theorem and1 {n : Int} (h0 : 0 ≤ n) (h1 : n < 4294967296) : Go.bits .and .u32 n 1 = n % 2 :=
  Go.bits_mask .u32 32 (by decide) (fun n h0 h1 => w32 h0 h1) 1 (by decide) n h0 h1
theorem xor_nat (a b : Nat) (ha : a < 4294967296) (hb : b < 4294967296) : Go.bits .xor .u32 (a : Int) (b : Int) = ((a ^^^ b : Nat) : Int) := by
  have h : (a ^^^ b) < 2 ^ 32 := Nat.xor_lt_two_pow (by omega) (by omega)
  first
  | exact Go.u32_xor_nat a b ha hb
  | (simp [Go.bits, IntKind.wrap, IntKind.bits, IntKind.signed]; omega)
theorem xor0 {n : Int} (h0 : 0 ≤ n) (h1 : n < 4294967296) : Go.bits .xor .u32 n 0 = n := by
  obtain ⟨m, rfl⟩ := Int.eq_ofNat_of_zero_le h0
  have h := xor_nat m 0 (by omega) (by omega)
  rw [Nat.xor_zero] at h
  exact h
theorem crcBit_eq (r bit : Int) (h0 : 0 ≤ r) (h1 : r < 4294967296) (hb : bit = 0 ∨ bit = 1) : crcBit r bit = if r % 2 = bit then r / 2 else Go.bits .xor .u32 (r / 2) 2197175160 := by
  unfold crcBit
  rw [and1 h0 h1]
  have hm : r % 2 = 0 ∨ r % 2 = 1 := by omega
  rcases hm with hm | hm <;> rcases hb with rfl | rfl <;> rw [hm]
  · rw [if_pos rfl, show Go.bits .xor .u32 0 0 = 0 by decide, show Go.bits .and .u32 (-(0 : Int) % 4294967296) 2197175160 = 0 by decide, xor0 (by omega) (by omega)]
  · rw [if_neg (by decide), show Go.bits .xor .u32 0 1 = 1 by decide, show Go.bits .and .u32 (-(1 : Int) % 4294967296) 2197175160 = 2197175160 by decide]
  · rw [if_neg (by decide), show Go.bits .xor .u32 1 0 = 1 by decide, show Go.bits .and .u32 (-(1 : Int) % 4294967296) 2197175160 = 2197175160 by decide]
  · rw [if_pos rfl, show Go.bits .xor .u32 1 1 = 0 by decide, show Go.bits .and .u32 (-(0 : Int) % 4294967296) 2197175160 = 0 by decide, xor0 (by omega) (by omega)]
theorem xor_range {a b : Int} (h0 : 0 ≤ a) (h1 : a < 4294967296) (g0 : 0 ≤ b) (g1 : b < 4294967296) : 0 ≤ Go.bits .xor .u32 a b ∧ Go.bits .xor .u32 a b < 4294967296 := by
  obtain ⟨m, rfl⟩ := Int.eq_ofNat_of_zero_le h0
  obtain ⟨n, rfl⟩ := Int.eq_ofNat_of_zero_le g0
  have h : (m ^^^ n) < 2 ^ 32 := Nat.xor_lt_two_pow (by omega) (by omega)
  have e : Go.bits .xor .u32 (m : Int) (n : Int) = ((m ^^^ n : Nat) : Int) := xor_nat m n (by omega) (by omega)
  rw [e]
  omega
theorem bit_at (x : Int) (j : Nat) (h0 : 0 ≤ x) (h1 : x ≤ 255) : Go.bits .and .u32 (x / 2 ^ j % 4294967296) 1 = x / 2 ^ j % 2 ∧ (x / 2 ^ j % 2 = 0 ∨ x / 2 ^ j % 2 = 1) := by
  have hp : (0 : Int) < 2 ^ j := Int.pow_pos (by decide)
  have h2 : 0 ≤ x / 2 ^ j := Int.ediv_nonneg h0 (Int.le_of_lt hp)
  have h3 : x / 2 ^ j ≤ x := Int.ediv_le_self _ h0
  rw [Int.emod_eq_of_lt h2 (by omega)]
  exact ⟨and1 h2 (by omega), by omega⟩
theorem crcN_range (x r : Int) (h0 : 0 ≤ x) (h1 : x ≤ 255) (r0 : 0 ≤ r) (r1 : r < 4294967296) : ∀ j, 0 ≤ crcN x r j ∧ crcN x r j < 4294967296
  | 0 => ⟨r0, r1⟩
  | j + 1 => by
    have ih := crcN_range x r h0 h1 r0 r1 j
    have hb := bit_at x j h0 h1
    rw [crcN, hb.1, crcBit_eq _ _ ih.1 ih.2 hb.2]
    split
    · omega
    · exact xor_range (by omega) (by omega) (by decide) (by decide)
/-- A byte's bit, as the document has it. -/
theorem crcN_succ (x r : Int) (j : Nat) (h0 : 0 ≤ x) (h1 : x ≤ 255) (r0 : 0 ≤ r) (r1 : r < 4294967296) : crcN x r (j + 1) = if crcN x r j % 2 = x / 2 ^ j % 2 then crcN x r j / 2 else Go.bits .xor .u32 (crcN x r j / 2) 2197175160 := by
  have ih := crcN_range x r h0 h1 r0 r1 j
  have hb := bit_at x j h0 h1
  rw [crcN, hb.1, crcBit_eq _ _ ih.1 ih.2 hb.2]
theorem crcL_range : ∀ (l : List Int) (r : Int), (∀ x ∈ l, 0 ≤ x ∧ x ≤ 255) → 0 ≤ r → r < 4294967296 → 0 ≤ crcL l r ∧ crcL l r < 4294967296
  | [], r, h, r0, r1 => ⟨r0, r1⟩
  | x :: xs, r, h, r0, r1 => by
    have hx := h x (by simp)
    have hn := crcN_range x r hx.1 hx.2 r0 r1 8
    rw [crcL]
    exact crcL_range xs _ (fun y hy => h y (by simp [hy])) hn.1 hn.2
end Go.Proofs.Ytaahkggbjpdofaa.Pure
