/- A text's letters as the document's own row of pieces; a digit's number. -/
import Derived.Test.YtnfbbnmdlcmifaaDoorPLet
import Derived.Test.YtnfbbnmdlcmifaaDoorHUnhex
import Derived.Test.YtnfbbnmdlcmifaaDoorM7
import Derived.Test.YtnfbbnmdlcmifaaDoorM8
import Derived.Laws.BitsLemmas
import Derived.Lib.Strings
namespace Go.Proofs.YtnfbbnmdlcmifaaDoor.Pure
open Go.RowKit Go.Proofs.YtnfbbnmdlcmifaaDoor.M Go.Proofs.YtnfbbnmdlcmifaaDoorW.PrintWords Go.Proofs.YtnfbbnmdlcmifaaDoorW.PrintLast Go.Proofs.YtnfbbnmdlcmifaaDoorW.PrintMore
set_option linter.unusedVariables false
set_option linter.unusedSimpArgs false

theorem up_ {α : Type} {f : Nat → Option α} {r : α} (h : ∀ k, LeO (f k) (f (k + 1))) {a b : Nat} (hab : a ≤ b) (hr : f a = some r) : f b = some r := by
  induction b with
  | zero => obtain rfl : a = 0 := by omega
            exact hr
  | succ b ih =>
    by_cases e : a = b + 1
    · subst e; exact hr
    · exact h b r (ih (by omega))
theorem wf_u8 {x : Int} (h : (Lit.int .u8 x).wf = true) : 0 ≤ x ∧ x ≤ 255 := by
  simp [Lit.wf, IntKind.min, IntKind.max, IntKind.signed, IntKind.bits] at h; omega
theorem wf_u32 {x : Int} (h : (Lit.int .u32 x).wf = true) : 0 ≤ x ∧ x ≤ 4294967295 := by
  simp [Lit.wf, IntKind.min, IntKind.max, IntKind.signed, IntKind.bits] at h; omega
theorem wf_bytes {l : List Int} (h : ∀ x ∈ l, (Lit.int .u8 x).wf = true) : ∀ x ∈ l, 0 ≤ x ∧ x ≤ 255 := fun x hx => wf_u8 (h x hx)

theorem pieces_length : ∀ (n : Nat) (x : ByteArray), (pieces n x).length ≤ n
  | 0, x => by simp [pieces]
  | n + 1, x => by
    rw [pieces]
    split
    · have := pieces_length n (x.extract (Utf8.decode x 0).2 x.size)
      simp only [List.length_cons]; omega
    · simp
theorem letters_run : ∀ (n : Nat) (x : ByteArray) (acc : List ByteArray), x.size ≤ n → acc.length + n ≤ 8796093022208 → trunklineref01_Letters.l0 (n + 1) x acc = some (acc ++ pieces n x)
  | 0, x, acc, h, hb => by
    rw [trunklineref01_Letters.l0, if_neg (by omega), pieces, List.append_nil]
  | n + 1, x, acc, h, hb => by
    rw [trunklineref01_Letters.l0, pieces]
    by_cases h0 : 0 < x.size
    · have hd := decode_le x h0
      have e : Lib.decodeGo x = Utf8.decode x 0 := by unfold Lib.decodeGo; rw [if_neg (by omega)]
      rw [if_pos (by omega), if_pos h0, utf8_DecodeRuneInString.f, e]
      simp only [Option.bind_some]
      rw [if_pos (by omega), if_pos (by omega), if_pos (by omega), Int.toNat_natCast]
      rw [letters_run n _ _ (by rw [ByteArray.size_extract]; omega) (by simp; omega)]
      simp
    · rw [if_neg (by omega), if_neg h0, List.append_nil]
theorem letters_f (s : ByteArray) (hs : s.size ≤ 8796093022208) (k : Nat) (hk : s.size + 1 ≤ k) : trunklineref01_Letters.f k s = some (pieces s.size s) :=
  up_ (trunklineref01_Letters.mono s) hk (by rw [trunklineref01_Letters.f, letters_run _ _ _ (Nat.le_refl _) (by simp; omega), List.nil_append])

/-- A digit is looked for among sixteen. -/
def dig : Nat → Int → Int → Option Int
  | 0, _, _ => none
  | k + 1, c, x3 => if x3 < 16 then (if 0 ≤ x3 then (if c = (bt (⟨#[48, 49, 50, 51, 52, 53, 54, 55, 56, 57, 97, 98, 99, 100, 101, 102]⟩ : ByteArray) x3) then (some x3) else (if c = (bt (⟨#[48, 49, 50, 51, 52, 53, 54, 55, 56, 57, 65, 66, 67, 68, 69, 70]⟩ : ByteArray) x3) then (some x3) else (dig k c (wrap64 (x3 + 1))))) else (none)) else (some (-1))
theorem dig_eq (p : ByteArray) (h : 0 < p.size) : ∀ (k : Nat) (i : Int), trunklineref01_Digit.l0 k p i = dig k (bt p 0) i
  | 0, i => rfl
  | k + 1, i => by
    rw [trunklineref01_Digit.l0, dig, if_pos (show (0 : Int) < (p.size : Int) by omega), dig_eq p h k]
theorem dig_all : ∀ c : Fin 256, dig 17 (c.val : Int) 0 = some (halfD c.val) := by decide +kernel
theorem bt_range (p : ByteArray) (i : Int) : 0 ≤ bt p i ∧ bt p i ≤ 255 := by
  unfold bt; split
  · exact ⟨by omega, by have := UInt8.toNat_lt (p[i.toNat]); omega⟩
  · omega
theorem digit_f {c : Int} {p : ByteArray} (h : LetOf c p) (k : Nat) (hk : 17 ≤ k) : trunklineref01_Digit.f k p = some (halfD c) := by
  refine up_ (trunklineref01_Digit.mono p) hk ?_
  have hb := bt_range p 0
  have key : 0 < p.size → trunklineref01_Digit.l0 17 p 0 = some (halfD (bt p 0)) := fun hp => by
    rw [dig_eq p hp]
    have := dig_all ⟨(bt p 0).toNat, by omega⟩
    rw [show (((⟨(bt p 0).toNat, by omega⟩ : Fin 256).val : Nat) : Int) = bt p 0 from Int.toNat_of_nonneg hb.1] at this
    exact this
  have hi : ∀ c : Int, 128 ≤ c → halfD c = -1 := fun c h => by
    unfold halfD; rw [if_neg (by omega), if_neg (by omega), if_neg (by omega)]
  rw [trunklineref01_Digit.f]
  rcases h with ⟨h1, h2, h3, h4⟩ | ⟨h1, h2, h3⟩
  · rw [if_pos (by omega), key (by omega), h4]
  · rw [hi c h1]
    by_cases e : (p.size : Int) = 1
    · rw [if_pos e, key (by omega), hi _ h3]
    · rw [if_neg e]

/-- The first letter that is no digit. -/
def firstBad : List Int → Int → Option Int
  | [], _ => none
  | c :: cs, i => if halfD c < 0 then some i else firstBad cs (i + 1)
theorem firstBad_all : ∀ (cs : List Int) (i j : Int), firstBad cs i = none → firstBad cs j = none
  | [], i, j, h => rfl
  | c :: cs, i, j, h => by
    rw [firstBad] at h ⊢
    by_cases hc : halfD c < 0
    · rw [if_pos hc] at h; cases h
    · rw [if_neg hc] at h ⊢; exact firstBad_all cs _ _ h
end Go.Proofs.YtnfbbnmdlcmifaaDoor.Pure
