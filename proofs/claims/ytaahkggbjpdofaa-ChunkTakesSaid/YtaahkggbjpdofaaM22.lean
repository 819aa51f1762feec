-- Printed by this session's mp.py over the kit's print (turned in memory). Not trusted: Lean checks it.
import Derived.Test.YtaahkggbjpdofaaM0
import Derived.Test.YtaahkggbjpdofaaM3
import Derived.Laws.BitsLemmas
import Derived.Lib.Strings
section
namespace Go.Proofs.Ytaahkggbjpdofaa.M
open Go.RowKit Go.Proofs.YtaahkggbjpdofaaW.PrintWords Go.Proofs.YtaahkggbjpdofaaW.PrintLast Go.Proofs.YtaahkggbjpdofaaW.PrintMore
attribute [local go_sem] max2_int min2_int max_two min_two max_three min_three max_four min_four   -- for this text's walks alone
set_option linter.unusedVariables false
set_option linter.unusedSimpArgs false

/-! ### trunklineref01_Bytes: function 67 -/
end Go.Proofs.Ytaahkggbjpdofaa.M
end
section
/- Numbers as bytes: what octet.Bytes and the document's own tell, in plain Lean. -/
namespace Go.Proofs.Ytaahkggbjpdofaa.Pure
open Go.RowKit Go.Proofs.Ytaahkggbjpdofaa.M Go.Proofs.YtaahkggbjpdofaaW.PrintWords Go.Proofs.YtaahkggbjpdofaaW.PrintLast Go.Proofs.YtaahkggbjpdofaaW.PrintMore
set_option linter.unusedVariables false
set_option linter.unusedSimpArgs false

/-- The number of bytes, the greatest first. -/
def numL (v : Int) : List Int → Int
  | [] => v
  | x :: xs => numL (v * 256 + x) xs
/-- A number's n bytes. -/
def bytesL (v : Int) : Nat → List Int
  | 0 => []
  | n + 1 => bytesL (v / 256) n ++ [v % 256]

theorem up_ {α : Type} {f : Nat → Option α} {r : α} (h : ∀ k, LeO (f k) (f (k + 1))) {a b : Nat} (hab : a ≤ b) (hr : f a = some r) : f b = some r := by
  induction b with
  | zero => obtain rfl : a = 0 := by omega
            exact hr
  | succ b ih =>
    by_cases e : a = b + 1
    · subst e; exact hr
    · exact h b r (ih (by omega))
theorem wrapu {x : Int} (h0 : 0 ≤ x) (h1 : x < 18446744073709551616) : IntKind.u64.wrap x = x := by
  have : IntKind.u64.wrap x = x % 18446744073709551616 := by simp [IntKind.wrap, IntKind.bits, IntKind.signed]
  rw [this]; omega
theorem wf_u8 {x : Int} (h : (Lit.int .u8 x).wf = true) : 0 ≤ x ∧ x ≤ 255 := by
  simp [Lit.wf, IntKind.min, IntKind.max, IntKind.signed, IntKind.bits] at h; omega
theorem wf_bytes {l : List Int} (h : ∀ x ∈ l, (Lit.int .u8 x).wf = true) : ∀ x ∈ l, 0 ≤ x ∧ x ≤ 255 := fun x hx => wf_u8 (h x hx)
theorem bytesL_length : ∀ (n : Nat) (v : Int), (bytesL v n).length = n
  | 0, v => rfl
  | n + 1, v => by simp [bytesL, bytesL_length n]
theorem numL_range : ∀ (xs : List Int) (n : Nat) (v : Int), (∀ x ∈ xs, 0 ≤ x ∧ x ≤ 255) → 0 ≤ v → v < 256 ^ n → 0 ≤ numL v xs ∧ numL v xs < 256 ^ (n + xs.length)
  | [], n, v, h, h0, h1 => ⟨h0, h1⟩
  | x :: xs, n, v, h, h0, h1 => by
    have e : (256 : Int) ^ (n + 1) = 256 ^ n * 256 := Int.pow_succ ..
    have hx := h x (by simp)
    have := numL_range xs (n + 1) (v * 256 + x) (fun y hy => h y (by simp [hy])) (by omega) (by omega)
    rw [show n + (x :: xs).length = n + 1 + xs.length by simp; omega]
    exact this
theorem pow256 (n : Nat) (h : n ≤ 8) : (0 : Int) < 256 ^ n ∧ (256 : Int) ^ n ≤ 18446744073709551616 := by
  have H : ∀ n : Fin 9, (0 : Int) < 256 ^ n.val ∧ (256 : Int) ^ n.val ≤ 18446744073709551616 := by decide
  exact H ⟨n, by omega⟩
theorem pow256' (n : Nat) (h : n ≤ 7) : (0 : Int) < 256 ^ n ∧ (256 : Int) ^ n ≤ 72057594037927936 := by
  have H : ∀ n : Fin 8, (0 : Int) < 256 ^ n.val ∧ (256 : Int) ^ n.val ≤ 72057594037927936 := by decide
  exact H ⟨n, by omega⟩
theorem w64 {x : Int} (h0 : -9223372036854775808 ≤ x) (h1 : x ≤ 9223372036854775807) : wrap64 x = x := by unfold wrap64; omega
theorem rd_get (xs : List Int) (i : Nat) (h : i < xs.length) : rd xs (i : Int) = xs[i] := by
  unfold rd; simp [List.getD, h]
theorem or8 (v x : Int) (h0 : 0 ≤ v) (h1 : v < 72057594037927936) (hx0 : 0 ≤ x) (hx1 : x ≤ 255) : Go.bits .or .u64 (IntKind.u64.wrap (v * 256)) (IntKind.u64.wrap x) = v * 256 + x := by
  have wr : ∀ n : Int, 0 ≤ n → n < 2 ^ 64 → IntKind.u64.wrap n = n := fun n h0 h1 => by
    have : IntKind.u64.wrap n = n % 18446744073709551616 := by simp [IntKind.wrap, IntKind.bits, IntKind.signed]
    rw [this]; omega
  rw [wr _ (by omega) (by omega), wr _ (by omega) (by omega)]
  exact Go.bits_join .u64 64 (by decide) wr 8 _ _ (by omega) (by omega) (by omega) (by omega) (by omega) (by omega)
theorem sum8 (v x : Int) (h0 : 0 ≤ v) (h1 : v < 72057594037927936) (hx0 : 0 ≤ x) (hx1 : x ≤ 255) : IntKind.u64.wrap (IntKind.u64.wrap (v * 256) + IntKind.u64.wrap x) = v * 256 + x := by
  have wr : ∀ n : Int, 0 ≤ n → n < 2 ^ 64 → IntKind.u64.wrap n = n := fun n h0 h1 => by
    have : IntKind.u64.wrap n = n % 18446744073709551616 := by simp [IntKind.wrap, IntKind.bits, IntKind.signed]
    rw [this]; omega
  rw [wr (v * 256) (by omega) (by omega), wr x (by omega) (by omega), wr _ (by omega) (by omega)]

/-- What Bytes tells. -/
def bytesS (v n : Int) : List Int × Int :=
  if 1 ≤ n ∧ n ≤ 8 then (if v / 256 ^ n.toNat > 0 then ([], 6) else (bytesL v n.toNat, 0)) else ([], 2)

theorem bytesL_get : ∀ (n : Nat) (v : Int) (i : Nat) (h : i < (bytesL v n).length), 0 ≤ v → (bytesL v n)[i] = v / 256 ^ (n - 1 - i) % 256
  | 0, v, i, h, h0 => by simp [bytesL] at h
  | n + 1, v, i, h, h0 => by
    rw [bytesL_length] at h
    have hl := bytesL_length n (v / 256)
    by_cases hi : i < n
    · simp only [bytesL]
      rw [List.getElem_append_left (by omega), bytesL_get n (v / 256) i (by omega) (by omega)]
      rw [show n + 1 - 1 - i = (n - 1 - i) + 1 by omega, Int.pow_succ, Int.mul_comm, Int.ediv_ediv_of_nonneg (by omega)]
    · have : i = n := by omega
      subst this
      simp only [bytesL]
      rw [List.getElem_append_right (by omega)]
      simp
theorem pow_8 (m : Nat) : (2 : Int) ^ (8 * m) = 256 ^ m := by rw [Int.pow_mul]; rfl
theorem bytes_l0 (v : Int) (n : Nat) (h0 : 0 ≤ v) (h8 : n ≤ 8) : ∀ (d i k : Nat) (xs : List Int), i + d = n → xs.length = n →
    octet_Bytes.l0 (k + d + 1) v (n : Int) xs (n : Int) (i : Int) = some (xs.take i ++ (bytesL v n).drop i, 0)
  | 0, i, k, xs, hi, hx => by
    have : i = n := by omega
    subst this
    rw [List.drop_of_length_le (by rw [bytesL_length]; omega), List.take_of_length_le (by omega)]
    simp [octet_Bytes.l0]
  | d + 1, i, k, xs, hi, hx => by
    have hl := bytesL_length n v
    rw [show k + (d + 1) + 1 = (k + d + 1) + 1 by omega, octet_Bytes.l0]
    rw [w64 (x := (n : Int) - 1) (by omega) (by omega), w64 (x := (n : Int) - 1 - i) (by omega) (by omega), w64 (x := 8 * ((n : Int) - 1 - i)) (by omega) (by omega), w64 (x := (i : Int) + 1) (by omega) (by omega)]
    rw [if_pos (by omega), if_pos (by omega), if_pos (by omega), if_pos (by omega)]
    have hy : shr .u64 v (8 * ((n : Int) - 1 - i)) % 256 = (bytesL v n)[i]'(by omega) := by
      rw [bytesL_get n v i (by omega) h0]
      unfold shr
      rw [Nat.min_eq_left (by show (8 * ((n : Int) - 1 - i)).toNat ≤ 64; omega), show (8 * ((n : Int) - 1 - i)).toNat = 8 * (n - 1 - i) by omega, pow_8]
    rw [hy, show ((i : Int) + 1) = ((i + 1 : Nat) : Int) by omega, Int.toNat_natCast]
    rw [bytes_l0 v n h0 h8 d (i + 1) k (xs.set i _) (by omega) (by simpa using hx)]
    rw [List.drop_eq_getElem_cons (l := bytesL v n) (i := i) (by omega), List.take_succ_eq_append_getElem (by simp; omega)]
    simp [List.take_set]
    rw [List.set_eq_of_length_le (by simp; omega)]

theorem bytes_at (v n : Int) (hv : 0 ≤ v) (hv1 : v < 18446744073709551616) (hn : (Lit.int .i64 n).wf = true) : octet_Bytes.f 10 v n = some (bytesS v n) := by
  unfold octet_Bytes.f bytesS octet_wide.f
  have J : 1 ≤ n → n ≤ 8 → octet_Bytes.j0 10 v n = some (bytesL v n.toNat, 0) := by
    intro h1 h2
    rw [octet_Bytes.j0, if_pos (by omega), if_pos (by omega)]
    have := bytes_l0 v n.toNat hv (by omega) n.toNat 0 (8 - n.toNat) (List.replicate n.toNat 0) (by omega) (by simp)
    rw [show 8 - n.toNat + n.toNat + 1 = 9 by omega, show ((n.toNat : Nat) : Int) = n by omega] at this
    simp only [Option.bind_some, List.length_replicate]
    rw [show ((n.toNat : Nat) : Int) = n by omega]
    simpa using this
  by_cases h1 : n ≥ 1
  · by_cases h2 : n ≤ 8
    · rw [if_pos h1, decide_eq_true h2, if_pos (c := 1 ≤ n ∧ n ≤ 8) (by omega)]
      simp only [Option.bind_some, if_true]
      by_cases h3 : n < 8
      · rw [if_pos h3, w64 (by omega) (by omega), if_pos (by omega)]
        have hs : shr .u64 v (8 * n) = v / 256 ^ n.toNat := by
          unfold shr
          rw [Nat.min_eq_left (by show (8 * n).toNat ≤ 64; omega), show (8 * n).toNat = 8 * n.toNat by omega, pow_8]
        rw [hs]
        have p := pow256 n.toNat (by omega)
        have hnn : 0 ≤ v / 256 ^ n.toNat := Int.ediv_nonneg hv (by omega)
        by_cases h4 : v / 256 ^ n.toNat = 0
        · rw [if_pos h4, if_neg (c := v / 256 ^ n.toNat > 0) (by omega), J (by omega) h2]
        · rw [if_neg h4, if_pos (c := v / 256 ^ n.toNat > 0) (by omega)]
      · have : n = 8 := by omega
        subst this
        rw [if_neg (by omega), J (by omega) (by omega), if_neg (c := v / 256 ^ (8 : Int).toNat > 0)]
        rw [show (8 : Int).toNat = 8 from rfl, show (256 : Int) ^ 8 = 18446744073709551616 by decide]
        omega
    · rw [if_pos h1, decide_eq_false h2, if_neg (c := 1 ≤ n ∧ n ≤ 8) (by omega)]; rfl
  · rw [if_neg h1, if_neg (c := 1 ≤ n ∧ n ≤ 8) (by omega)]; rfl
theorem bytes_f (v n : Int) (hv : 0 ≤ v) (hv1 : v < 18446744073709551616) (hn : (Lit.int .i64 n).wf = true) {k : Nat} (hk : 10 ≤ k) : octet_Bytes.f k v n = some (bytesS v n) := up_ (octet_Bytes.mono v n) hk (bytes_at v n hv hv1 hn)

theorem i64_wf {n : Int} (h0 : -9223372036854775808 ≤ n) (h1 : n ≤ 9223372036854775807) : (Lit.int .i64 n).wf = true := by
  simp [Lit.wf, IntKind.min, IntKind.max, IntKind.signed, IntKind.bits]
  omega
end Go.Proofs.Ytaahkggbjpdofaa.Pure
end
