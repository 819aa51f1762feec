/- Numbers at places of bytes, in plain Lean. -/
import Derived.Test.YtnfbbnmdlcmifaaPNumB
import Derived.Test.YtnfbbnmdlcmifaaM16
namespace Go.Proofs.Ytnfbbnmdlcmifaa.Pure
open Go.RowKit Go.Proofs.Ytnfbbnmdlcmifaa.M Go.Proofs.YtnfbbnmdlcmifaaW.PrintWords Go.Proofs.YtnfbbnmdlcmifaaW.PrintLast Go.Proofs.YtnfbbnmdlcmifaaW.PrintMore
set_option linter.unusedVariables false
set_option linter.unusedSimpArgs false

/-- The number of n bytes from a place on. -/
def at_ (l : List Int) (a n : Nat) : Int := numL 0 ((l.drop a).take n)
theorem numS_ok (l : List Int) (a n : Nat) (h1 : 1 ≤ n) (h8 : n ≤ 8) (h : a + n ≤ l.length) : numS l a n = (at_ l a n, 0) := by
  unfold numS at_
  rw [if_pos (by omega), if_pos (by omega), if_pos (by omega)]
  simp
theorem at_range (l : List Int) (hb : ∀ x ∈ l, 0 ≤ x ∧ x ≤ 255) (a n : Nat) (h : a + n ≤ l.length) : 0 ≤ at_ l a n ∧ at_ l a n < 256 ^ n := by
  have hlen : ((l.drop a).take n).length = n := by simp; omega
  have := numL_range ((l.drop a).take n) 0 0 (fun x hx => hb x (List.mem_of_mem_drop (List.mem_of_mem_take hx))) (by omega) (by simp)
  rw [hlen, Nat.zero_add] at this
  exact this
theorem bytesat (l : List Int) (hb : ∀ x ∈ l, 0 ≤ x ∧ x ≤ 255) (a n : Nat) (h : a + n ≤ l.length) : bytesL (at_ l a n) n = (l.drop a).take n := by
  have hlen : ((l.drop a).take n).length = n := by simp; omega
  have := bytesL_numL ((l.drop a).take n) (fun x hx => hb x (List.mem_of_mem_drop (List.mem_of_mem_take hx)))
  rw [hlen] at this
  exact this
theorem at_here (v : Int) (n : Nat) (xs : List Int) (h0 : 0 ≤ v) (hv : v < 256 ^ n) : at_ (bytesL v n ++ xs) 0 n = v := by
  unfold at_
  rw [List.drop_zero, List.take_append_of_le_length (by rw [bytesL_length]; omega), List.take_of_length_le (by rw [bytesL_length]; omega), numL_bytesL n v h0 hv]
theorem at_next (v : Int) (m : Nat) (xs : List Int) (a n : Nat) (h : m ≤ a) : at_ (bytesL v m ++ xs) a n = at_ xs (a - m) n := by
  unfold at_
  have : (bytesL v m ++ xs).drop a = xs.drop (a - m) := by
    rw [List.drop_append, List.drop_of_length_le (by rw [bytesL_length]; omega), bytesL_length, List.nil_append]
  rw [this]
theorem num_ok (l : List Int) (hb : ∀ x ∈ l, 0 ≤ x ∧ x ≤ 255) (hl : (l.length : Int) ≤ 4611686018427387904) (a n : Nat) (h1 : 1 ≤ n) (h8 : n ≤ 8) (h : a + n ≤ l.length) {k : Nat} (hk : 9 ≤ k) : octet_Num.f k l (a : Int) (n : Int) = some (at_ l a n, 0) := by
  rw [num_f l a n hl hb (i64_wf (by omega) (by omega)) (i64_wf (by omega) (by omega)) hk, numS_ok l a n h1 h8 h]
theorem rnumber_ok (l : List Int) (hb : ∀ x ∈ l, 0 ≤ x ∧ x ≤ 255) (hl : (l.length : Int) ≤ 4611686018427387904) (a n : Nat) (h1 : 1 ≤ n) (h8 : n ≤ 8) (h : a + n ≤ l.length) {k : Nat} (hk : 10 ≤ k) : trunklineref08_number.f k l (a : Int) (n : Int) = some (at_ l a n) := by
  unfold trunklineref08_number.f
  rw [rnum_f l a n hl hb (i64_wf (by omega) (by omega)) (i64_wf (by omega) (by omega)) hk, numS_ok l a n h1 h8 h]
  rfl
theorem wrap16 {x : Int} (h0 : 0 ≤ x) (h1 : x < 65536) : IntKind.u16.wrap x = x := by
  have : IntKind.u16.wrap x = x % 65536 := by simp [IntKind.wrap, IntKind.bits, IntKind.signed]
  rw [this]; omega
end Go.Proofs.Ytnfbbnmdlcmifaa.Pure
