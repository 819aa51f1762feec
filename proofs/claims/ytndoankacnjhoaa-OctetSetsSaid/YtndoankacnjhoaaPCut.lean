/- Bytes of others, and zeros behind: what octet.Cut, octet.Pad, octet.Set and the document's own tell, in plain Lean. -/
import Derived.Test.YtndoankacnjhoaaM16
import Derived.Test.YtndoankacnjhoaaM17
import Derived.Test.YtndoankacnjhoaaM18
import Derived.Test.YtndoankacnjhoaaM19
import Derived.Test.YtndoankacnjhoaaHSet
import Derived.Test.YtndoankacnjhoaaPNum
namespace Go.Proofs.Ytndoankacnjhoaa.Pure
open Go.RowKit Go.Proofs.Ytndoankacnjhoaa.M Go.Proofs.YtndoankacnjhoaaW.PrintWords Go.Proofs.YtndoankacnjhoaaW.PrintLast Go.Proofs.YtndoankacnjhoaaW.PrintMore
set_option linter.unusedVariables false
set_option linter.unusedSimpArgs false

/-- What Cut tells. -/
def cutS (l : List Int) (a n : Int) : List Int × Int :=
  if a < 0 ∨ a > l.length ∨ n < 0 then ([], 2) else if n > l.length - a then ([], 3) else ((l.take (a + n).toNat).drop a.toNat, 0)
/-- What Pad tells. -/
def padS (l : List Int) (m : Int) : List Int × Int :=
  if m < 1 ∨ m > 64 then ([], 2) else (l ++ List.replicate ((m - (l.length : Int) % m) % m).toNat 0, 0)
/-- What Set tells. -/
def setS (l : List Int) (a v n : Int) : List Int × Int :=
  if (numS l a n).2 = 0 then (if (bytesS v n).2 = 0 then (l.take a.toNat ++ (bytesS v n).1 ++ l.drop (a + n).toNat, 0) else ([], (bytesS v n).2)) else ([], (numS l a n).2)

theorem clone_f (l : List Int) (h : l.length < 140737488355328) : slices_Clone_byte_byte.f l = some l := by
  unfold slices_Clone_byte_byte.f; rw [if_pos h]
theorem cut_f (l : List Int) (a n : Int) (hl : l.length ≤ 140737488351232) (ha : (Lit.int .i64 a).wf = true) (hn : (Lit.int .i64 n).wf = true) (k : Nat) : octet_Cut.f (k + 1) l a n = some (cutS l a n) := by
  have hn' := wf_i64 hn
  unfold octet_Cut.f cutS
  rw [room_ev l a n (by omega) ha k, Option.bind_some]
  by_cases h1 : a < 0 ∨ a > l.length ∨ n < 0
  · rw [if_pos h1, if_pos h1, if_neg (by decide)]
  · rw [if_neg h1, if_neg h1]
    by_cases h2 : n > l.length - a
    · rw [if_pos h2, if_pos h2, if_neg (by decide)]
    · rw [if_neg h2, if_neg h2, if_pos rfl, if_pos (by omega), w64 (by omega) (by omega), if_pos (by omega), if_pos (by omega), clone_f _ (by simp; omega), Option.bind_some]
theorem rcut_f (l : List Int) (a n : Int) (hl : l.length ≤ 140737488351232) (ha : (Lit.int .i64 a).wf = true) (hn : (Lit.int .i64 n).wf = true) (k : Nat) : trunklineref01_Cut.f (k + 1) l a n = some (cutS l a n) := by
  have hn' := wf_i64 hn
  unfold trunklineref01_Cut.f cutS
  by_cases h1 : a < 0
  · rw [if_pos h1, if_pos (Or.inl h1), trunklineref01_Cut.j0, if_pos rfl]
  · rw [if_neg h1]
    by_cases h2 : a > l.length
    · rw [if_pos h2, if_pos (Or.inr (Or.inl h2)), trunklineref01_Cut.j0, if_pos rfl]
    · rw [if_neg h2, trunklineref01_Cut.j0]
      by_cases h3 : n < 0
      · rw [if_pos (decide_eq_true h3), if_pos (Or.inr (Or.inr h3))]
      · rw [if_neg (by simpa using h3), if_neg (c := a < 0 ∨ a > l.length ∨ n < 0) (by omega), w64 (by omega) (by omega)]
        by_cases h4 : n > l.length - a
        · rw [if_pos (by omega), if_pos h4]
        · rw [if_neg (by omega), if_neg h4, Option.bind_some, if_pos (by omega), w64 (by omega) (by omega), if_pos (by omega), if_pos (by omega), Option.bind_some, if_pos (by simp; omega), List.nil_append]

theorem tm (x m : Int) (h : 0 ≤ x) : Int.tmod x m = x % m := Int.tmod_eq_emod_of_nonneg h
theorem pad_d (x m : Int) (hm : 0 < m) : 0 ≤ (m - x % m) % m ∧ (m - x % m) % m < m := ⟨Int.emod_nonneg _ (by omega), Int.emod_lt_of_pos _ hm⟩
theorem pad_f (l : List Int) (m : Int) (hl : l.length ≤ 140737488351232) : octet_Pad.f l m = some (padS l m) := by
  unfold octet_Pad.f padS
  by_cases h1 : m < 1
  · rw [if_pos h1, if_pos (Or.inl h1)]
  · rw [if_neg h1]
    by_cases h2 : m > 64
    · rw [if_pos h2, if_pos (Or.inr h2)]
    · have hr : 0 ≤ (l.length : Int) % m ∧ (l.length : Int) % m < m := ⟨Int.emod_nonneg _ (by omega), Int.emod_lt_of_pos _ (by omega)⟩
      have hd := pad_d (l.length : Int) m (by omega)
      rw [if_neg h2, if_neg (c := m < 1 ∨ m > 64) (by omega), clone_f _ (by omega), Option.bind_some, if_neg (by omega), tm (l.length : Int) m (by omega), w64 (x := m - (l.length : Int) % m) (by omega) (by omega), tm (m - (l.length : Int) % m) m (by omega), if_pos hd.1, if_pos (by omega)]
theorem pad_zero (n m : Int) (hm : 0 < m) (h : n % m = 0) : (m - n % m) % m = 0 := by rw [h, Int.sub_zero, Int.emod_self]
theorem pad_step (n m : Int) (hm : 0 < m) (h : n % m ≠ 0) : (m - n % m) % m = (m - (n + 1) % m) % m + 1 := by
  have hr : 0 ≤ n % m ∧ n % m < m := ⟨Int.emod_nonneg _ (by omega), Int.emod_lt_of_pos _ hm⟩
  have e : (n + 1) % m = (n % m + 1) % m := by rw [Int.add_emod n 1 m, Int.add_emod (n % m) 1 m, Int.emod_emod_of_dvd n (Int.dvd_refl m)]
  rw [Int.emod_eq_of_lt (a := m - n % m) (by omega) (by omega), e]
  by_cases h2 : n % m + 1 = m
  · rw [h2, Int.emod_self, Int.sub_zero, Int.emod_self]; omega
  · rw [Int.emod_eq_of_lt (a := n % m + 1) (by omega) (by omega), Int.emod_eq_of_lt (a := m - (n % m + 1)) (by omega) (by omega)]; omega
theorem rpad_l0 (m : Int) (hm : 0 < m) (hm2 : m ≤ 64) : ∀ (d k : Nat) (l : List Int), l.length ≤ 140737488351232 + 64 - d → d ≤ 64 → ((m - (l.length : Int) % m) % m).toNat = d → trunklineref01_Pad.l0 (k + d + 1) m l = some (l ++ List.replicate d 0, 0)
  | 0, k, l, hl, hd, h => by
    have hz := (pad_d (l.length : Int) m hm)
    rw [show k + 0 + 1 = k + 1 by omega, trunklineref01_Pad.l0, if_neg (by omega), tm _ _ (by omega)]
    by_cases h0 : (l.length : Int) % m = 0
    · rw [if_pos h0]; simp
    · have := pad_step (l.length : Int) m hm h0
      have h3 := (pad_d ((l.length : Int) + 1) m hm)
      omega
  | d + 1, k, l, hl, hd, h => by
    have hz := (pad_d (l.length : Int) m hm)
    by_cases h0 : (l.length : Int) % m = 0
    · have := pad_zero (l.length : Int) m hm h0
      omega
    · have hs := pad_step (l.length : Int) m hm h0
      rw [show k + (d + 1) + 1 = (k + d + 1) + 1 by omega, trunklineref01_Pad.l0, if_neg (by omega), tm _ _ (by omega), if_neg h0, if_pos (by omega)]
      rw [rpad_l0 m hm hm2 d k (l ++ [0]) (by simp; omega) (by omega) (by simp only [List.length_append, List.length_cons, List.length_nil]; rw [show (((l.length + (0 + 1) : Nat)) : Int) = (l.length : Int) + 1 by omega]; omega)]
      rw [List.append_assoc, show [(0 : Int)] ++ List.replicate d 0 = List.replicate (d + 1) 0 by simp [List.replicate_succ]]
theorem rpad_f (l : List Int) (m : Int) (hl : l.length ≤ 140737488351232) (k : Nat) : trunklineref01_Pad.f (k + 66) l m = some (padS l m) := by
  unfold trunklineref01_Pad.f padS
  by_cases h1 : m < 1
  · rw [if_pos h1, if_pos (Or.inl h1), trunklineref01_Pad.j0, if_pos rfl]
  · rw [if_neg h1, trunklineref01_Pad.j0]
    by_cases h2 : m > 64
    · rw [if_pos (decide_eq_true h2), if_pos (Or.inr h2)]
    · have hd := pad_d (l.length : Int) m (by omega)
      obtain ⟨d, hdd⟩ : ∃ d, d = ((m - (l.length : Int) % m) % m).toNat := ⟨_, rfl⟩
      rw [if_neg (by simpa using h2), if_neg (c := m < 1 ∨ m > 64) (by omega), Option.bind_some, if_pos (by simp; omega), List.nil_append, ← hdd]
      have := rpad_l0 m (by omega) (by omega) d (k + 65 - d - 1) l (by omega) (by omega) hdd.symm
      rw [show k + 65 - d - 1 + d + 1 = k + 65 by omega] at this
      exact this
theorem numS_ok {l : List Int} {a n : Int} (h : (numS l a n).2 = 0) : 1 ≤ n ∧ n ≤ 8 ∧ 0 ≤ a ∧ a + n ≤ l.length ∧ (numS l a n).1 = numL 0 ((l.drop a.toNat).take n.toNat) := by
  unfold numS at h ⊢
  by_cases h1 : 1 ≤ n ∧ n ≤ 8
  · rw [if_pos h1] at h ⊢
    by_cases h2 : 0 ≤ a ∧ a ≤ l.length
    · rw [if_pos h2] at h ⊢
      by_cases h3 : n ≤ l.length - a
      · rw [if_pos h3]; exact ⟨h1.1, h1.2, h2.1, by omega, rfl⟩
      · rw [if_neg h3] at h; exact absurd h (by decide)
    · rw [if_neg h2] at h; exact absurd h (by decide)
  · rw [if_neg h1] at h; exact absurd h (by decide)
theorem set_ev (l : List Int) (a v n : Int) (hl : l.length ≤ 140737488351232) (hb : ∀ x ∈ l, 0 ≤ x ∧ x ≤ 255) (ha : (Lit.int .i64 a).wf = true) (hv : 0 ≤ v) (hv1 : v < 18446744073709551616) (hn : (Lit.int .i64 n).wf = true) : Ev (fun k => octet_Set.f k l a v n) (setS l a v n) := by
  obtain ⟨K1, h1⟩ := num_ev l a n (by omega) hb ha hn
  obtain ⟨K2, h2⟩ := bytes_ev v n hv hv1 hn
  refine ⟨max K1 K2, fun k hk => ?_⟩
  simp only at h1 h2 ⊢
  unfold octet_Set.f setS
  rw [h1 k (by omega), h2 k (by omega)]
  simp only [Option.bind_some]
  by_cases c1 : (numS l a n).2 = 0
  · rw [if_pos c1, if_pos c1]
    by_cases c2 : (bytesS v n).2 = 0
    · obtain ⟨n1, n8, hq, hB⟩ := bytesS_ok c2
      obtain ⟨_, _, a0, an, _⟩ := numS_ok c1
      rw [if_pos c2, if_pos c2, if_pos]
      refine ⟨a0, by omega, an, ?_, by omega⟩
      rw [hB, bytesL_length]
      omega
    · rw [if_neg c2, if_neg c2]
  · rw [if_neg c1, if_neg c1]
end Go.Proofs.Ytndoankacnjhoaa.Pure
