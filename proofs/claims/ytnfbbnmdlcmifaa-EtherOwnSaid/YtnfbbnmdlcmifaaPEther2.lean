/- Frames out of bytes, in plain Lean. -/
import Derived.Test.YtnfbbnmdlcmifaaPEtherN
import Derived.Test.YtnfbbnmdlcmifaaPEther
import Derived.Test.YtnfbbnmdlcmifaaHTake
import Derived.Test.YtnfbbnmdlcmifaaM19
import Derived.Test.YtnfbbnmdlcmifaaM20
namespace Go.Proofs.Ytnfbbnmdlcmifaa.Pure
open Go.RowKit Go.Proofs.Ytnfbbnmdlcmifaa.M Go.Proofs.YtnfbbnmdlcmifaaW.PrintWords Go.Proofs.YtnfbbnmdlcmifaaW.PrintLast Go.Proofs.YtnfbbnmdlcmifaaW.PrintMore
set_option linter.unusedVariables false
set_option linter.unusedSimpArgs false

/-- What Take tells. -/
def takeS (l : List Int) : Int × Int × Int × List Int × Int :=
  if l.length < 14 then (0, 0, 0, [], 3) else if l.length > 1514 then (0, 0, 0, [], 6) else if at_ l 12 2 < 1536 then (0, 0, 0, [], 4) else (at_ l 0 6, at_ l 6 6, at_ l 12 2, l.drop 14, 0)
theorem take_f (l : List Int) (hb : ∀ x ∈ l, 0 ≤ x ∧ x ≤ 255) {k : Nat} (hk : 9 ≤ k) : ether_Take.f k l = some (takeS l) := by
  unfold ether_Take.f takeS
  by_cases h1 : l.length < 14
  · rw [if_pos (by omega), if_pos h1]
  · rw [if_neg (by omega), if_neg h1]
    by_cases h2 : l.length > 1514
    · rw [if_pos (by omega), if_pos h2]
    · rw [if_neg (by omega), if_neg h2]
      have n1 := num_ok l hb (by omega) 0 6 (by decide) (by decide) (by omega) hk
      have n2 := num_ok l hb (by omega) 6 6 (by decide) (by decide) (by omega) hk
      have n3 := num_ok l hb (by omega) 12 2 (by decide) (by decide) (by omega) hk
      have r := at_range l hb 12 2 (by omega)
      rw [show (256 : Int) ^ 2 = 65536 by decide] at r
      have n1' : octet_Num.f k l 0 6 = some (at_ l 0 6, 0) := n1
      have n2' : octet_Num.f k l 6 6 = some (at_ l 6 6, 0) := n2
      have n3' : octet_Num.f k l 12 2 = some (at_ l 12 2, 0) := n3
      rw [n1', n2', n3']
      simp only [Option.bind_some]
      rw [wrap16 r.1 r.2]
      split <;> rfl
theorem rtake_f (l : List Int) (hb : ∀ x ∈ l, 0 ≤ x ∧ x ≤ 255) {k : Nat} (hk : 10 ≤ k) : trunklineref08_Take.f k l = some (takeS l) := by
  unfold trunklineref08_Take.f takeS
  by_cases h1 : l.length < 14
  · rw [if_pos (by omega), if_pos h1]
  · rw [if_neg (by omega), if_neg h1]
    by_cases h2 : l.length > 1514
    · rw [if_pos (by omega), if_pos h2]
    · rw [if_neg (by omega), if_neg h2]
      have n1 := rnumber_ok l hb (by omega) 0 6 (by decide) (by decide) (by omega) hk
      have n2 := rnumber_ok l hb (by omega) 6 6 (by decide) (by decide) (by omega) hk
      have n3 := rnumber_ok l hb (by omega) 12 2 (by decide) (by decide) (by omega) hk
      have r := at_range l hb 12 2 (by omega)
      rw [show (256 : Int) ^ 2 = 65536 by decide] at r
      have n1' : trunklineref08_number.f k l 0 6 = some (at_ l 0 6) := n1
      have n2' : trunklineref08_number.f k l 6 6 = some (at_ l 6 6) := n2
      have n3' : trunklineref08_number.f k l 12 2 = some (at_ l 12 2) := n3
      rw [n3']
      simp only [Option.bind_some]
      by_cases h3 : at_ l 12 2 < 1536
      · rw [if_pos h3, if_pos h3]
      · rw [if_neg h3, if_neg h3, n1', n2']
        simp only [Option.bind_some]
        rw [if_pos (by omega)]
        simp only [List.length_nil]
        rw [if_pos (by simp; omega), wrap16 r.1 r.2]
        simp
theorem same_f (a b c a1 b1 c1 : Int) (l l1 : List Int) (h1 : a = a1) (h2 : b = b1) (h3 : c = c1) (h4 : l = l1) : trunklineref08_Same.f a b c l a1 b1 c1 l1 = some true := by
  subst h1; subst h2; subst h3; subst h4
  unfold trunklineref08_Same.f
  simp
theorem take_put (tt frm kind : Int) (body : List Int) (h0 : 0 ≤ tt) (h1 : 0 ≤ frm) (h2 : 0 ≤ kind) (h3 : kind ≤ 65535) (h : (putS tt frm kind body).2 = 0) : takeS (putS tt frm kind body).1 = (tt, frm, kind, body, 0) := by
  unfold putS at h ⊢
  by_cases hc : tt < 281474976710656 ∧ frm < 281474976710656 ∧ 1536 ≤ kind
  · rw [if_pos hc] at h ⊢
    by_cases hl : body.length > 1500
    · rw [if_pos hl] at h; exact absurd h (by decide)
    · rw [if_neg hl]
      have hlen : (bytesL tt 6 ++ (bytesL frm 6 ++ (bytesL kind 2 ++ body))).length = 14 + body.length := by simp [bytesL_length]; omega
      have e0 : at_ (bytesL tt 6 ++ (bytesL frm 6 ++ (bytesL kind 2 ++ body))) 0 6 = tt := at_here _ _ _ h0 (by have := hc.1; rw [show (256 : Int) ^ 6 = 281474976710656 by decide]; exact this)
      have e1 : at_ (bytesL tt 6 ++ (bytesL frm 6 ++ (bytesL kind 2 ++ body))) 6 6 = frm := by
        rw [at_next _ _ _ _ _ (Nat.le_refl _), Nat.sub_self]
        exact at_here _ _ _ h1 (by have := hc.2.1; rw [show (256 : Int) ^ 6 = 281474976710656 by decide]; exact this)
      have e2 : at_ (bytesL tt 6 ++ (bytesL frm 6 ++ (bytesL kind 2 ++ body))) 12 2 = kind := by
        rw [at_next _ _ _ _ _ (by decide), at_next _ _ _ _ _ (by decide)]
        exact at_here _ _ _ h2 (by rw [show (256 : Int) ^ 2 = 65536 by decide]; omega)
      have e3 : (bytesL tt 6 ++ (bytesL frm 6 ++ (bytesL kind 2 ++ body))).drop 14 = body := by
        rw [List.drop_append, List.drop_of_length_le (by rw [bytesL_length]; omega), bytesL_length, List.nil_append, List.drop_append, List.drop_of_length_le (by rw [bytesL_length]; omega), bytesL_length, List.nil_append, List.drop_append, List.drop_of_length_le (by rw [bytesL_length]; omega), bytesL_length, List.nil_append]
        rfl
      unfold takeS
      rw [hlen, if_neg (by omega), if_neg (by omega), e0, e1, e2, e3, if_neg (by omega)]
  · rw [if_neg hc] at h; exact absurd h (by decide)
theorem put_take (l : List Int) (hb : ∀ x ∈ l, 0 ≤ x ∧ x ≤ 255) (h : (takeS l).2.2.2.2 = 0) : putS (takeS l).1 (takeS l).2.1 (takeS l).2.2.1 (takeS l).2.2.2.1 = (l, 0) := by
  unfold takeS at h ⊢
  by_cases h1 : l.length < 14
  · rw [if_pos h1] at h; exact absurd h (by decide)
  · rw [if_neg h1] at h ⊢
    by_cases h2 : l.length > 1514
    · rw [if_pos h2] at h; exact absurd h (by decide)
    · rw [if_neg h2] at h ⊢
      by_cases h3 : at_ l 12 2 < 1536
      · rw [if_pos h3] at h; exact absurd h (by decide)
      · rw [if_neg h3]
        have r0 := at_range l hb 0 6 (by omega)
        have r1 := at_range l hb 6 6 (by omega)
        rw [show (256 : Int) ^ 6 = 281474976710656 by decide] at r0 r1
        simp only
        unfold putS
        rw [if_pos ⟨r0.2, r1.2, by omega⟩, if_neg (by rw [List.length_drop]; omega), bytesat l hb 0 6 (by omega), bytesat l hb 6 6 (by omega), bytesat l hb 12 2 (by omega)]
        have e2 : (l.drop 12).take 2 ++ l.drop 14 = l.drop 12 := by
          have := List.take_append_drop 2 (l.drop 12)
          rwa [List.drop_drop] at this
        have e1 : (l.drop 6).take 6 ++ l.drop 12 = l.drop 6 := by
          have := List.take_append_drop 6 (l.drop 6)
          rwa [List.drop_drop] at this
        rw [e2, e1, List.drop_zero, List.take_append_drop]
theorem take_ok (l : List Int) (hb : ∀ x ∈ l, 0 ≤ x ∧ x ≤ 255) : 0 ≤ (takeS l).1 ∧ 0 ≤ (takeS l).2.1 ∧ 0 ≤ (takeS l).2.2.1 ∧ (takeS l).2.2.1 ≤ 65535 ∧ ∀ x ∈ (takeS l).2.2.2.1, 0 ≤ x ∧ x ≤ 255 := by
  unfold takeS
  by_cases h1 : l.length < 14
  · rw [if_pos h1]; simp
  · rw [if_neg h1]
    by_cases h2 : l.length > 1514
    · rw [if_pos h2]; simp
    · rw [if_neg h2]
      by_cases h3 : at_ l 12 2 < 1536
      · rw [if_pos h3]; simp
      · rw [if_neg h3]
        have r0 := at_range l hb 0 6 (by omega)
        have r1 := at_range l hb 6 6 (by omega)
        have r2 := at_range l hb 12 2 (by omega)
        rw [show (256 : Int) ^ 2 = 65536 by decide] at r2
        exact ⟨r0.1, r1.1, r2.1, by have := r2.2; simp only; omega, fun x hx => hb x (List.mem_of_mem_drop hx)⟩
theorem putS_bytes (tt frm kind : Int) (body : List Int) (hb : ∀ x ∈ body, 0 ≤ x ∧ x ≤ 255) : ∀ x ∈ (putS tt frm kind body).1, 0 ≤ x ∧ x ≤ 255 := by
  unfold putS
  split
  · split
    · simp
    · intro x hx
      simp only [List.mem_append] at hx
      rcases hx with h | h | h | h
      · exact bytesL_range _ _ x h
      · exact bytesL_range _ _ x h
      · exact bytesL_range _ _ x h
      · exact hb x h
  · simp
end Go.Proofs.Ytnfbbnmdlcmifaa.Pure
