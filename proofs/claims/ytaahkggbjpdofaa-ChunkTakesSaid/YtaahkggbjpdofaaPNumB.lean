/- Numbers in bytes: what octet.Num and the document's own tell, in plain Lean. -/
import Derived.Test.YtaahkggbjpdofaaM22
import Derived.Test.YtaahkggbjpdofaaM6
import Derived.Test.YtaahkggbjpdofaaM32
namespace Go.Proofs.Ytaahkggbjpdofaa.Pure
open Go.RowKit Go.Proofs.Ytaahkggbjpdofaa.M Go.Proofs.YtaahkggbjpdofaaW.PrintWords Go.Proofs.YtaahkggbjpdofaaW.PrintLast Go.Proofs.YtaahkggbjpdofaaW.PrintMore
set_option linter.unusedVariables false
set_option linter.unusedSimpArgs false

/-- What Num tells. -/
def numS (l : List Int) (at_ n : Int) : Int × Int :=
  if 1 ≤ n ∧ n ≤ 8 then (if 0 ≤ at_ ∧ at_ ≤ l.length then (if n ≤ l.length - at_ then (numL 0 ((l.drop at_.toNat).take n.toNat), 0) else (0, 3)) else (0, 2)) else (0, 2)
theorem num_l0 (xs : List Int) (hb : ∀ x ∈ xs, 0 ≤ x ∧ x ≤ 255) (hl : xs.length ≤ 8) : ∀ (d i k : Nat) (v : Int), i + d = xs.length → 0 ≤ v → v < 256 ^ i →
    octet_Num.l0 (k + d + 1) v xs (xs.length : Int) (i : Int) = some (numL v (xs.drop i), 0)
  | 0, i, k, v, hi, h0, h1 => by
    have : i = xs.length := by omega
    subst this
    simp [octet_Num.l0, numL]
  | d + 1, i, k, v, hi, h0, h1 => by
    have hi' : i < xs.length := by omega
    have p := pow256' i (by omega)
    have hx := hb xs[i] (List.getElem_mem hi')
    rw [show k + (d + 1) + 1 = (k + d + 1) + 1 by omega, octet_Num.l0]
    rw [if_pos (by omega), if_pos (by omega), if_pos (by omega), rd_get xs i hi', or8 v _ h0 (by omega) hx.1 hx.2, w64 (by omega) (by omega)]
    have ih := num_l0 xs hb hl d (i + 1) k (v * 256 + xs[i]) (by omega) (by omega) (by rw [Int.pow_succ]; omega)
    rw [show ((i : Int) + 1) = ((i + 1 : Nat) : Int) by omega, ih]
    rw [List.drop_eq_getElem_cons hi', numL]

theorem room_ev (l : List Int) (a n : Int) (hl : (l.length : Int) ≤ 9223372036854775807) (ha : (Lit.int .i64 a).wf = true) : ∀ k, octet_room.f (k + 1) l a n = some (if a < 0 ∨ a > l.length ∨ n < 0 then 2 else if n > l.length - a then 3 else 0) := by
  intro k
  unfold octet_room.f
  have j : ∀ b, octet_room.j0 (k + 1) l a n b = if b = true then some 2 else if n > wrap64 (l.length - a) then some 3 else some 0 := fun b => rfl
  by_cases h1 : a < 0
  · rw [if_pos h1, j, if_pos rfl, if_pos (Or.inl h1)]
  · rw [if_neg h1]
    by_cases h2 : a > l.length
    · rw [if_pos h2, j, if_pos rfl, if_pos (Or.inr (Or.inl h2))]
    · rw [if_neg h2, j]
      by_cases h3 : n < 0
      · rw [if_pos (by simpa using h3), if_pos (Or.inr (Or.inr h3))]
      · rw [if_neg (by simpa using h3), w64 (by omega) (by omega), if_neg (c := a < 0 ∨ a > l.length ∨ n < 0) (by omega)]
        split <;> rfl

theorem num_at (l : List Int) (a n : Int) (hl : (l.length : Int) ≤ 4611686018427387904) (hb : ∀ x ∈ l, 0 ≤ x ∧ x ≤ 255) (ha : (Lit.int .i64 a).wf = true) (hn : (Lit.int .i64 n).wf = true) : octet_Num.f 9 l a n = some (numS l a n) := by
  unfold octet_Num.f numS octet_wide.f
  rw [room_ev l a n (by omega) ha 8]
  by_cases h1 : n ≥ 1
  · by_cases h2 : n ≤ 8
    · rw [if_pos h1, decide_eq_true h2, if_pos (c := 1 ≤ n ∧ n ≤ 8) ⟨h1, h2⟩]
      simp only [Option.bind_some, if_true]
      by_cases h3 : 0 ≤ a ∧ a ≤ l.length
      · by_cases h4 : n ≤ l.length - a
        · have hr : (if a < 0 ∨ a > l.length ∨ n < 0 then (2 : Int) else if n > l.length - a then 3 else 0) = 0 := by rw [if_neg (by omega), if_neg (by omega)]
          rw [hr, if_pos rfl, if_pos h3, if_pos h4, if_pos h3.1, w64 (by omega) (by omega), if_pos (by omega), if_pos (by omega)]
          have e : (l.take (a + n).toNat).drop a.toNat = (l.drop a.toNat).take n.toNat := by
            rw [List.drop_take]; congr 1; omega
          rw [e]
          have hlen : ((l.drop a.toNat).take n.toNat).length = n.toNat := by simp; omega
          have := num_l0 ((l.drop a.toNat).take n.toNat) (fun x hx => hb x (List.mem_of_mem_drop (List.mem_of_mem_take hx))) (by omega) n.toNat 0 (8 - n.toNat) 0 (by omega) (by omega) (by simp)
          rw [show 8 - n.toNat + n.toNat + 1 = 9 by omega] at this
          exact this
        · have hr : (if a < 0 ∨ a > l.length ∨ n < 0 then (2 : Int) else if n > l.length - a then 3 else 0) = 3 := by rw [if_neg (by omega), if_pos (by omega)]
          rw [hr, if_neg (by decide), if_pos h3, if_neg h4]
      · have hr : (if a < 0 ∨ a > l.length ∨ n < 0 then (2 : Int) else if n > l.length - a then 3 else 0) = 2 := by rw [if_pos (by omega)]
        rw [hr, if_neg (by decide), if_neg h3]
    · rw [if_pos h1, decide_eq_false h2, if_neg (c := 1 ≤ n ∧ n ≤ 8) (by omega)]; rfl
  · rw [if_neg h1, if_neg (c := 1 ≤ n ∧ n ≤ 8) (by omega)]; rfl
theorem num_f (l : List Int) (a n : Int) (hl : (l.length : Int) ≤ 4611686018427387904) (hb : ∀ x ∈ l, 0 ≤ x ∧ x ≤ 255) (ha : (Lit.int .i64 a).wf = true) (hn : (Lit.int .i64 n).wf = true) {k : Nat} (hk : 9 ≤ k) : octet_Num.f k l a n = some (numS l a n) := up_ (octet_Num.mono l a n) hk (num_at l a n hl hb ha hn)

theorem rnum_l0 (l : List Int) (a : Int) (n : Nat) (ha : 0 ≤ a) (hn : a + n ≤ l.length) (h8 : n ≤ 8) (hl : (l.length : Int) ≤ 4611686018427387904) (hb : ∀ x ∈ l, 0 ≤ x ∧ x ≤ 255) : ∀ (d i k : Nat) (v : Int), i + d = n → 0 ≤ v → v < 256 ^ i →
    trunklineref01_Num.l0 (k + d + 1) l a (n : Int) v (i : Int) = some (numL v (((l.drop a.toNat).take n).drop i), 0)
  | 0, i, k, v, hi, h0, h1 => by
    have : i = n := by omega
    subst this
    rw [List.drop_of_length_le (by simp; omega)]
    simp [trunklineref01_Num.l0, numL]
  | d + 1, i, k, v, hi, h0, h1 => by
    have hlen : ((l.drop a.toNat).take n).length = n := by simp; omega
    have hi' : i < ((l.drop a.toNat).take n).length := by omega
    have p := pow256' i (by omega)
    have hget : ((l.drop a.toNat).take n)[i] = l[a.toNat + i]'(by omega) := by simp
    have hx := hb (l[a.toNat + i]'(by omega)) (List.getElem_mem _)
    rw [show k + (d + 1) + 1 = (k + d + 1) + 1 by omega, trunklineref01_Num.l0]
    rw [w64 (x := a + i) (by omega) (by omega), w64 (x := (i : Int) + 1) (by omega) (by omega)]
    rw [if_pos (by omega), if_pos (by omega), if_pos (by omega), show a + (i : Int) = ((a.toNat + i : Nat) : Int) by omega, rd_get l _ (by omega), sum8 v _ h0 (by omega) hx.1 hx.2]
    have ih := rnum_l0 l a n ha hn h8 hl hb d (i + 1) k (v * 256 + l[a.toNat + i]'(by omega)) (by omega) (by omega) (by rw [Int.pow_succ]; omega)
    rw [show ((i : Int) + 1) = ((i + 1 : Nat) : Int) by omega, ih]
    rw [List.drop_eq_getElem_cons hi', numL, hget]

theorem rnum_at (l : List Int) (a n : Int) (hl : (l.length : Int) ≤ 4611686018427387904) (hb : ∀ x ∈ l, 0 ≤ x ∧ x ≤ 255) (ha : (Lit.int .i64 a).wf = true) (hn : (Lit.int .i64 n).wf = true) : trunklineref01_Num.f 10 l a n = some (numS l a n) := by
  unfold trunklineref01_Num.f numS
  have j : ∀ b, trunklineref01_Num.j0 10 l a n b = if b = true then some (0, 2) else if wrap64 (l.length - a) < n then some (0, 3) else trunklineref01_Num.l0 9 l a n 0 0 := fun b => rfl
  by_cases h1 : n < 1
  · rw [if_pos h1, j, if_pos rfl, if_neg (by omega)]
  · rw [if_neg h1]
    by_cases h2 : n > 8
    · rw [if_pos h2, j, if_pos rfl, if_neg (by omega)]
    · rw [if_neg h2, if_pos (c := 1 ≤ n ∧ n ≤ 8) (by omega)]
      by_cases h3 : a < 0
      · rw [if_pos h3, j, if_pos rfl, if_neg (by omega)]
      · rw [if_neg h3, j]
        by_cases h4 : a > l.length
        · rw [if_pos (by simpa using h4), if_neg (c := 0 ≤ a ∧ a ≤ l.length) (by omega)]
        · rw [if_neg (by simpa using h4), if_pos (c := 0 ≤ a ∧ a ≤ l.length) (by omega), w64 (by omega) (by omega)]
          by_cases h5 : n ≤ l.length - a
          · rw [if_neg (by omega), if_pos h5]
            have := rnum_l0 l a n.toNat (by omega) (by omega) (by omega) hl hb n.toNat 0 (8 - n.toNat) 0 (by omega) (by omega) (by simp)
            rw [show 8 - n.toNat + n.toNat + 1 = 9 by omega, show ((n.toNat : Nat) : Int) = n by omega] at this
            exact this
          · rw [if_pos (by omega), if_neg h5]
theorem rnum_f (l : List Int) (a n : Int) (hl : (l.length : Int) ≤ 4611686018427387904) (hb : ∀ x ∈ l, 0 ≤ x ∧ x ≤ 255) (ha : (Lit.int .i64 a).wf = true) (hn : (Lit.int .i64 n).wf = true) {k : Nat} (hk : 10 ≤ k) : trunklineref01_Num.f k l a n = some (numS l a n) := up_ (trunklineref01_Num.mono l a n) hk (rnum_at l a n hl hb ha hn)

end Go.Proofs.Ytaahkggbjpdofaa.Pure
