/- A text's letters as numbers, and as their bytes. -/
import Derived.Test.YtnfbbnmdlcmifaaDoorHIter
import Derived.Test.YtnfbbnmdlcmifaaDoorHDec
import Derived.Lib.RuneCountTail
import Derived.Lib.PathFns
import Derived.Shelf.Unicode.DecodeLastEight
namespace Go.Proofs.YtnfbbnmdlcmifaaDoor.Pure
open Go.RowKit Go.Proofs.YtnfbbnmdlcmifaaDoor.M Go.Proofs.YtnfbbnmdlcmifaaDoorW.PrintWords Go.Proofs.YtnfbbnmdlcmifaaDoorW.PrintLast Go.Proofs.YtnfbbnmdlcmifaaDoorW.PrintMore
set_option linter.unusedVariables false
set_option linter.unusedSimpArgs false

/-- The letters of a text, each as its bytes. -/
def pieces : Nat → ByteArray → List ByteArray
  | 0, _ => []
  | n + 1, x => if 0 < x.size then x.extract 0 (Utf8.decode x 0).2 :: pieces n (x.extract (Utf8.decode x 0).2 x.size) else []
/-- A letter's number and its bytes. -/
def LetOf (c : Int) (p : ByteArray) : Prop := (p.size = 1 ∧ 0 ≤ c ∧ c < 128 ∧ c = bt p 0) ∨ (128 ≤ c ∧ 1 ≤ p.size ∧ 128 ≤ bt p 0)
inductive All2 : List Int → List ByteArray → Prop
  | nil : All2 [] []
  | cons {c : Int} {p : ByteArray} {cs : List Int} {ps : List ByteArray} : LetOf c p → All2 cs ps → All2 (c :: cs) (p :: ps)
theorem All2.length {cs : List Int} {ps : List ByteArray} (h : All2 cs ps) : cs.length = ps.length := by
  induction h with
  | nil => rfl
  | cons _ _ ih => simp [ih]

theorem bt_zero (p : ByteArray) (h : 0 < p.size) : bt p 0 = ((p[0]'h).toNat : Int) := by
  unfold bt
  rw [dif_pos (show (0 : Int).toNat < p.size from h)]
  rfl
theorem tail_tail (s : ByteArray) (pos w : Nat) : (s.extract pos s.size).extract w (s.extract pos s.size).size = s.extract (pos + w) s.size := by
  rw [Go.Lib.Pa.extract_from (s.extract pos s.size) w, Go.Lib.Pa.extract_from s (pos + w), Go.Lib.Pa.extract_from s pos]
  simp [List.drop_drop]
theorem head_size (s : ByteArray) (pos w : Nat) (h : w ≤ s.size - pos) : ((s.extract pos s.size).extract 0 w).size = w := Go.Lib.Pa.extract_upto_size _ w (by rw [Go.Lib.tail_size]; exact h)
theorem tail_tail' (s : ByteArray) (pos w : Nat) : (s.extract pos s.size).extract w (s.size - pos) = s.extract (pos + w) s.size := by
  rw [← Go.Lib.tail_size s pos]; exact tail_tail s pos w
theorem head_bt (s : ByteArray) (pos w : Nat) (hw : 1 ≤ w) (hp : pos < s.size) : bt ((s.extract pos s.size).extract 0 w) 0 = ((s[pos]'hp).toNat : Int) := by
  have hs : 0 < ((s.extract pos s.size).extract 0 w).size := by
    rw [ByteArray.size_extract, ByteArray.size_extract]; omega
  rw [bt_zero _ hs, ByteArray.getElem_extract, ByteArray.getElem_extract]
  simp only [Nat.add_zero, Nat.zero_add]
theorem of_pieces (s : ByteArray) : ∀ (n pos : Nat), All2 (cps s n pos) (pieces n (s.extract pos s.size))
  | 0, pos => .nil
  | n + 1, pos => by
    rw [cps, pieces, Go.Lib.tail_size]
    by_cases hp : pos < s.size
    · rw [if_pos hp, if_pos (by omega), Go.Lib.tail_decode, Nat.add_zero, tail_tail']
      refine .cons ?_ (of_pieces s n _)
      by_cases ha : (s[pos]'hp).toNat < 128
      · rw [decode_ascii s pos hp ha]
        left
        refine ⟨head_size s pos 1 (by omega), by omega, by omega, ?_⟩
        rw [head_bt s pos 1 (by omega) hp]
      · have h := decode_high s pos hp (by omega)
        right
        have hs : (Utf8.decode s pos).2 ≤ s.size - pos := by
          have h3 := Go.Lib.decodeGo_le_size (s.extract pos s.size)
          have e : Go.Lib.decodeGo (s.extract pos s.size) = Utf8.decode s pos := by
            unfold Go.Lib.decodeGo
            rw [if_neg (by rw [Go.Lib.tail_size]; omega), Go.Lib.tail_decode, Nat.add_zero]
          rw [e, Go.Lib.tail_size] at h3
          exact h3
        refine ⟨by omega, by rw [head_size s pos _ hs]; exact h.2, ?_⟩
        rw [head_bt s pos _ h.2 hp]
        omega
    · rw [if_neg hp, if_neg (by omega)]
      exact .nil
theorem of_letters (s : ByteArray) : All2 (letters s) (pieces s.size s) := by
  have := of_pieces s s.size 0
  rw [show s.extract 0 s.size = s from Go.Lib.Pa.extract_all s] at this
  exact this
theorem decode_le (x : ByteArray) (h : 0 < x.size) : 1 ≤ (Utf8.decode x 0).2 ∧ (Utf8.decode x 0).2 ≤ x.size := by
  have h1 := width_pos x 0 h
  have h2 := Go.Lib.decodeGo_le_size x
  have e : Go.Lib.decodeGo x = Utf8.decode x 0 := by unfold Go.Lib.decodeGo; rw [if_neg (by omega)]
  rw [e] at h2
  exact ⟨h1, h2⟩
end Go.Proofs.YtnfbbnmdlcmifaaDoor.Pure
