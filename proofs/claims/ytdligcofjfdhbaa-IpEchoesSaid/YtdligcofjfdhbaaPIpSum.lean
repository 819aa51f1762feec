/- The Internet's sum: what sums.Net and the document's own tell, in plain Lean. -/
import Derived.Test.YtdligcofjfdhbaaPNumA
import Derived.Test.YtdligcofjfdhbaaM8
import Derived.Test.YtdligcofjfdhbaaM14
import Derived.Laws.BitsAllLaws
namespace Go.Proofs.Ytdligcofjfdhbaa.Pure
open Go.RowKit Go.Proofs.Ytdligcofjfdhbaa.M Go.Proofs.YtdligcofjfdhbaaW.PrintWords Go.Proofs.YtdligcofjfdhbaaW.PrintLast Go.Proofs.YtdligcofjfdhbaaW.PrintMore
set_option linter.unusedVariables false
set_option linter.unusedSimpArgs false

/-- The sum of words, the first byte of each the greater one. -/
def sumT : Bool → List Int → Int
  | _, [] => 0
  | true, x :: xs => x * 256 + sumT false xs
  | false, x :: xs => x + sumT true xs
/-- What goes beyond 16 bits is added at the other end. -/
def red (n : Int) : Int := if n = 0 then 0 else (n - 1) % 65535 + 1
def netS (l : List Int) : Int := 65535 - red (sumT true l)

theorem red_range (n : Int) : 0 ≤ red n ∧ red n ≤ 65535 := by unfold red; split <;> omega
theorem netS_range (l : List Int) : 0 ≤ netS l ∧ netS l ≤ 65535 := by have := red_range (sumT true l); unfold netS; omega
theorem red_small {n : Int} (h0 : 0 ≤ n) (h1 : n ≤ 65535) : red n = n := by unfold red; split <;> omega
theorem red_step {n : Int} (h : 65535 < n) : red (n % 65536 + n / 65536) = red n := by
  unfold red
  rw [if_neg (by omega), if_neg (by omega)]
  omega
theorem wrapu16 (x : Int) : IntKind.u16.wrap x = x % 65536 := by simp [IntKind.wrap, IntKind.bits, IntKind.signed]
theorem and16 {n : Int} (h0 : 0 ≤ n) (h1 : n < 18446744073709551616) : Go.bits .and .u64 n 65535 = n % 65536 :=
  Go.bits_mask .u64 64 (by decide) (fun n h0 h1 => wrapu h0 h1) 16 (by decide) n h0 h1
theorem xor_ones16 (b : Nat) (hb : b < 2 ^ 16) : (2 ^ 16 - 1) ^^^ b = 2 ^ 16 - 1 - b := by
  apply Nat.eq_of_testBit_eq
  intro i
  rw [Nat.testBit_xor, Nat.testBit_two_pow_sub_one, show 2 ^ 16 - 1 - b = 2 ^ 16 - (b + 1) by omega, Nat.testBit_two_pow_sub_succ hb]
  by_cases hi : i < 16
  · simp [hi]
  · have : b.testBit i = false := Nat.testBit_lt_two_pow (Nat.lt_of_lt_of_le hb (Nat.pow_le_pow_right (by decide) (by omega)))
    simp [hi, this]
theorem not16 {t : Int} (h0 : 0 ≤ t) (h1 : t ≤ 65535) : Go.bits .xor .u16 65535 t = 65535 - t := by
  obtain ⟨b, rfl⟩ := Int.eq_ofNat_of_zero_le h0
  have h := Go.u16_xor_nat 65535 b (by decide) (by omega)
  have e := xor_ones16 b (by omega)
  have e2 : (65535 ^^^ b : Nat) = 65535 - b := e
  have h2 : Go.bits .xor .u16 65535 (b : Int) = ((65535 ^^^ b : Nat) : Int) := h
  rw [h2, e2]
  omega

theorem round_small {n : Int} (h0 : 0 ≤ n) (h1 : n < 65536) (k : Nat) : sums_round.l0 (k + 1) n = some (red n) := by
  rw [sums_round.l0, if_pos (by omega), wrapu16, red_small h0 (by omega)]
  congr 1; omega
theorem round_step {n : Int} (h0 : 65536 ≤ n) (h1 : n < 18446744073709551616) (k : Nat) : sums_round.l0 (k + 1) n = sums_round.l0 k (n % 65536 + n / 65536) := by
  rw [sums_round.l0, if_neg (by omega), and16 (by omega) h1, wrapu (by omega) (by omega)]
theorem round_b {n : Int} (h0 : 0 ≤ n) (h1 : n ≤ 65536) (k : Nat) : sums_round.l0 (k + 2) n = some (red n) := by
  by_cases h : n < 65536
  · exact round_small h0 h _
  · rw [round_step (by omega) (by omega), ← red_step (by omega)]
    exact round_small (by omega) (by omega) _
theorem round_c {n : Int} (h0 : 0 ≤ n) (h1 : n ≤ 131072) (k : Nat) : sums_round.l0 (k + 3) n = some (red n) := by
  by_cases h : n < 65536
  · exact round_small h0 h _
  · rw [round_step (by omega) (by omega), ← red_step (by omega)]
    exact round_b (by omega) (by omega) _
theorem round_d {n : Int} (h0 : 0 ≤ n) (h1 : n ≤ 4295032832) (k : Nat) : sums_round.l0 (k + 4) n = some (red n) := by
  by_cases h : n < 65536
  · exact round_small h0 h _
  · rw [round_step (by omega) (by omega), ← red_step (by omega)]
    exact round_c (by omega) (by omega) _
theorem round_e {n : Int} (h0 : 0 ≤ n) (h1 : n ≤ 281474976776192) (k : Nat) : sums_round.l0 (k + 5) n = some (red n) := by
  by_cases h : n < 65536
  · exact round_small h0 h _
  · rw [round_step (by omega) (by omega), ← red_step (by omega)]
    exact round_d (by omega) (by omega) _
theorem round_f {n : Int} (h0 : 0 ≤ n) (h1 : n < 18446744073709551616) {k : Nat} (hk : 6 ≤ k) : sums_round.f k n = some (red n) := by
  obtain ⟨k, rfl⟩ : ∃ m, k = m + 6 := ⟨k - 6, by omega⟩
  unfold sums_round.f
  by_cases h : n < 65536
  · exact round_small h0 h _
  · rw [round_step (by omega) (by omega), ← red_step (by omega)]
    exact round_e (by omega) (by omega) _

theorem tmod2 (i : Nat) : Int.tmod (i : Int) 2 = ((i % 2 : Nat) : Int) := by
  rw [Int.tmod_eq_emod_of_nonneg (by omega)]; omega
theorem sumT_nonneg : ∀ (l : List Int) (e : Bool), (∀ x ∈ l, 0 ≤ x ∧ x ≤ 255) → 0 ≤ sumT e l
  | [], e, _ => by simp [sumT]
  | x :: xs, true, h => by
    have h1 := sumT_nonneg xs false (fun y hy => h y (by simp [hy]))
    have h2 := h x (by simp)
    simp only [sumT]; omega
  | x :: xs, false, h => by
    have h1 := sumT_nonneg xs true (fun y hy => h y (by simp [hy]))
    have h2 := h x (by simp)
    simp only [sumT]; omega
theorem net_l0 (l : List Int) (hb : ∀ x ∈ l, 0 ≤ x ∧ x ≤ 255) (hl : l.length ≤ 140737488355328) : ∀ (d i k : Nat) (a : Int), i + d = l.length → d + 7 ≤ k → 0 ≤ a → a ≤ 65280 * i →
    sums_Net.l0 k a l (l.length : Int) (i : Int) = some (65535 - red (a + sumT (decide (i % 2 = 0)) (l.drop i)))
  | 0, i, k, a, hi, hk, h0, h1 => by
    obtain ⟨k, rfl⟩ : ∃ m, k = m + 1 := ⟨k - 1, by omega⟩
    have : i = l.length := by omega
    subst this
    have hr := red_range a
    rw [sums_Net.l0, if_neg (by omega), round_f h0 (by omega) (by omega)]
    simp only [Option.bind_some, List.drop_length, sumT]
    rw [not16 hr.1 hr.2, Int.add_zero]
  | d + 1, i, k, a, hi, hk, h0, h1 => by
    obtain ⟨k, rfl⟩ : ∃ m, k = m + 1 := ⟨k - 1, by omega⟩
    have hi' : i < l.length := by omega
    have hx := hb l[i] (List.getElem_mem hi')
    rw [sums_Net.l0, if_pos (by omega), if_pos (by omega), if_pos (by omega), rd_get l i hi', tmod2, w64 (x := (i : Int) + 1) (by omega) (by omega), show ((i : Int) + 1) = ((i + 1 : Nat) : Int) by omega]
    rw [List.drop_eq_getElem_cons hi']
    by_cases h2 : i % 2 = 0
    · rw [if_pos (by omega), wrapu (x := l[i]) (by omega) (by omega), wrapu (x := l[i] * 256) (by omega) (by omega), wrapu (by omega) (by omega)]
      rw [net_l0 l hb hl d (i + 1) k _ (by omega) (by omega) (by omega) (by omega), decide_eq_true h2, decide_eq_false (by omega)]
      simp only [sumT]
      rw [Int.add_assoc]
    · rw [if_neg (by omega), wrapu (x := l[i]) (by omega) (by omega), wrapu (by omega) (by omega)]
      rw [net_l0 l hb hl d (i + 1) k _ (by omega) (by omega) (by omega) (by omega), decide_eq_false h2, decide_eq_true (by omega)]
      simp only [sumT]
      rw [Int.add_assoc]
theorem net_f (l : List Int) (hb : ∀ x ∈ l, 0 ≤ x ∧ x ≤ 255) (hl : l.length ≤ 140737488355328) {k : Nat} (hk : l.length + 7 ≤ k) : sums_Net.f k l = some (netS l) := by
  have := net_l0 l hb hl l.length 0 k 0 (by omega) hk (by omega) (by omega)
  unfold sums_Net.f netS
  rw [show (0 : Int) = ((0 : Nat) : Int) by rfl] at this ⊢
  rw [this]
  simp

theorem add_f (a x : Int) (h0 : 0 ≤ a) (hx : 0 ≤ x) (hx1 : x ≤ 65535) : trunklineref02_add.f (red a) x = some (red (a + x)) := by
  have hr := red_range a
  unfold trunklineref02_add.f
  rw [Int.emod_eq_of_lt (a := red a + x) (b := 4294967296) (by omega) (by omega)]
  by_cases h : red a + x > 65535
  · rw [if_pos h, Int.emod_eq_of_lt (a := red a + x - 65536) (by omega) (by omega), Int.emod_eq_of_lt (by omega) (by omega)]
    congr 1
    unfold red at *
    split at h
    · omega
    · rw [if_neg (by omega), if_neg (by omega)]
      omega
  · rw [if_neg h]
    congr 1
    unfold red at *
    split at h
    · rename_i e; subst e; simp; split <;> omega
    · rw [if_neg (by omega), if_neg (by omega)]
      omega
theorem rnet_l0 (l : List Int) (hb : ∀ x ∈ l, 0 ≤ x ∧ x ≤ 255) (hl : l.length ≤ 140737488355328) : ∀ (d i k : Nat) (a : Int), l.length ≤ i + d → i ≤ l.length + 1 → d + 1 ≤ k → 0 ≤ a →
    trunklineref02_Net.l0 k l (red a) (i : Int) = some (65535 - red (a + sumT true (l.drop i)))
  | 0, i, k, a, hi, hi2, hk, h0 => by
    obtain ⟨k, rfl⟩ : ∃ m, k = m + 1 := ⟨k - 1, by omega⟩
    have hr := red_range a
    rw [trunklineref02_Net.l0, if_neg (by omega), List.drop_of_length_le (by omega), wrapu16]
    simp only [sumT]
    rw [Int.add_zero]
    congr 1; omega
  | d + 1, i, k, a, hi, hi2, hk, h0 => by
    obtain ⟨k, rfl⟩ : ∃ m, k = m + 1 := ⟨k - 1, by omega⟩
    have hr := red_range a
    by_cases hi' : i < l.length
    · have hx := hb l[i] (List.getElem_mem hi')
      rw [trunklineref02_Net.l0, if_pos (by omega), if_pos (by omega), w64 (x := (i : Int) + 1) (by omega) (by omega), w64 (x := (i : Int) + 2) (by omega) (by omega), rd_get l i hi', List.drop_eq_getElem_cons hi', show ((i : Int) + 2) = ((i + 2 : Nat) : Int) by omega]
      by_cases h2 : i + 1 < l.length
      · have hy := hb l[i + 1] (List.getElem_mem h2)
        rw [if_pos (by omega), if_pos (by omega), show ((i : Int) + 1) = ((i + 1 : Nat) : Int) by omega, rd_get l (i + 1) h2, List.drop_eq_getElem_cons h2]
        rw [show (l[i] % 4294967296 * 256 % 4294967296 + l[i + 1] % 4294967296) % 4294967296 = l[i] * 256 + l[i + 1] by omega, add_f a _ h0 (by omega) (by omega)]
        simp only [Option.bind_some]
        rw [rnet_l0 l hb hl d (i + 2) k _ (by omega) (by omega) (by omega) (by omega)]
        simp only [sumT]
        rw [show i + 1 + 1 = i + 2 by omega]
        congr 3; omega
      · rw [if_neg (by omega), List.drop_of_length_le (i := i + 1) (by omega)]
        rw [show l[i] % 4294967296 * 256 % 4294967296 = l[i] * 256 by omega, add_f a _ h0 (by omega) (by omega)]
        simp only [Option.bind_some]
        rw [rnet_l0 l hb hl d (i + 2) k _ (by omega) (by omega) (by omega) (by omega), List.drop_of_length_le (i := i + 2) (by omega)]
        simp only [sumT]
        congr 3; omega
    · rw [trunklineref02_Net.l0, if_neg (by omega), List.drop_of_length_le (by omega), wrapu16]
      simp only [sumT]
      rw [Int.add_zero]
      congr 1; omega
theorem rnet_f (l : List Int) (hb : ∀ x ∈ l, 0 ≤ x ∧ x ≤ 255) (hl : l.length ≤ 140737488355328) {k : Nat} (hk : l.length + 1 ≤ k) : trunklineref02_Net.f k l = some (netS l) := by
  have := rnet_l0 l hb hl l.length 0 k 0 (by omega) (by omega) hk (by omega)
  rw [show red 0 = 0 by rfl] at this
  unfold trunklineref02_Net.f netS
  rw [show (0 : Int) = ((0 : Nat) : Int) by rfl] at this ⊢
  rw [this]
  simp

end Go.Proofs.Ytdligcofjfdhbaa.Pure
