/- A text's letters where all are below 128: its bytes. Hex and back; a bit laid below four others. -/
import Derived.Test.YtnfbbnmdlcmifaaPNumA
import Derived.Test.YtnfbbnmdlcmifaaHIter
import Derived.Test.YtnfbbnmdlcmifaaHUnhex
import Derived.Test.YtnfbbnmdlcmifaaHHex
import Derived.Lib.Strings
namespace Go.Proofs.Ytnfbbnmdlcmifaa.Pure
open Go.RowKit Go.Proofs.Ytnfbbnmdlcmifaa.M Go.Proofs.YtnfbbnmdlcmifaaW.PrintWords Go.Proofs.YtnfbbnmdlcmifaaW.PrintLast Go.Proofs.YtnfbbnmdlcmifaaW.PrintMore
set_option linter.unusedVariables false
set_option linter.unusedSimpArgs false

theorem bytesOf_length (s : ByteArray) : (bytesOf s).length = s.size := by simp [bytesOf]
theorem bytesOf_get (s : ByteArray) (i : Nat) (h : i < s.size) (h2 : i < (bytesOf s).length) : (bytesOf s)[i] = ((s[i]'h).toNat : Int) := by
  simp [bytesOf]; rfl
theorem cps_low (s : ByteArray) : ∀ (n pos : Nat), s.size ≤ pos + n → (∀ c ∈ cps s n pos, c < 128) → cps s n pos = (bytesOf s).drop pos
  | 0, pos, h, _ => by rw [List.drop_of_length_le (by rw [bytesOf_length]; omega)]; rfl
  | n + 1, pos, h, hc => by
    have hl := bytesOf_length s
    by_cases hp : pos < s.size
    · have e : cps s (n + 1) pos = ((Utf8.decode s pos).1 : Int) :: cps s n (pos + (Utf8.decode s pos).2) := by rw [cps, if_pos hp]
      rw [e] at hc ⊢
      by_cases ha : (s[pos]'hp).toNat < 128
      · rw [decode_ascii s pos hp ha] at hc ⊢
        simp only at hc ⊢
        rw [cps_low s n (pos + 1) (by omega) (fun c h => hc c (List.mem_cons_of_mem _ h)), List.drop_eq_getElem_cons (l := bytesOf s) (i := pos) (by omega), bytesOf_get s pos hp]
      · have h1 := (decode_high s pos hp (by omega)).1
        have h2 := hc _ (List.mem_cons_self ..)
        omega
    · rw [cps_end s _ pos hp, List.drop_of_length_le (by omega)]
theorem cps_low' (s : ByteArray) (hs : ∀ x ∈ bytesOf s, x < 128) : ∀ (n pos : Nat), ∀ c ∈ cps s n pos, c < 128
  | 0, pos, c, h => by simp [cps] at h
  | n + 1, pos, c, h => by
    by_cases hp : pos < s.size
    · have e : cps s (n + 1) pos = ((Utf8.decode s pos).1 : Int) :: cps s n (pos + (Utf8.decode s pos).2) := by rw [cps, if_pos hp]
      rw [e] at h
      have hl := bytesOf_length s
      have hb := hs _ (List.getElem_mem (l := bytesOf s) (n := pos) (by omega))
      rw [bytesOf_get s pos hp] at hb
      rw [decode_ascii s pos hp (by omega)] at h
      rcases List.mem_cons.1 h with rfl | h
      · exact hb
      · exact cps_low' s hs n _ c h
    · rw [cps_end s _ pos hp] at h; simp at h
theorem letters_low (s : ByteArray) (h : ∀ c ∈ letters s, c < 128) : letters s = bytesOf s := by
  have := cps_low s s.size 0 (by omega) h
  simpa [letters] using this
theorem letters_bytes (s : ByteArray) (hs : ∀ x ∈ bytesOf s, x < 128) : letters s = bytesOf s := letters_low s (cps_low' s hs _ _)
theorem bytesOf_nums (xs : List Int) (h : ∀ x ∈ xs, 0 ≤ x ∧ x ≤ 255) : bytesOf (strOfNums xs) = xs := by
  have e : bytesOf (strOfNums xs) = (xs.map fun n => UInt8.ofNat n.toNat).map fun b => (b.toNat : Int) := rfl
  rw [e, List.map_map]
  conv => rhs; rw [← List.map_id xs]
  apply List.map_congr_left
  intro x hx
  have := h x hx
  simp only [Function.comp, id, UInt8.toNat_ofNat']
  omega
theorem nums_bytesOf (s : ByteArray) : strOfNums (bytesOf s) = s := by
  have e : (bytesOf s).map (fun n => UInt8.ofNat n.toNat) = s.data.toList := by
    unfold bytesOf
    rw [List.map_map]
    conv => rhs; rw [← List.map_id s.data.toList]
    apply List.map_congr_left
    intro x hx
    simp
  show (⟨((bytesOf s).map fun n => UInt8.ofNat n.toNat).toArray⟩ : ByteArray) = s
  rw [e]
theorem letters_nums (xs : List Int) (h : ∀ x ∈ xs, 0 ≤ x ∧ x < 128) : letters (strOfNums xs) = xs := by
  have e := bytesOf_nums xs (fun x hx => by have := h x hx; omega)
  rw [letters_bytes _ (by rw [e]; exact fun x hx => (h x hx).2), e]
theorem size_nums (xs : List Int) : (strOfNums xs).size = xs.length := by
  simp [strOfNums, ByteArray.size]

theorem halfD_hexD (i : Int) (h0 : 0 ≤ i) (h1 : i < 16) : halfD (hexD i) = i := by
  unfold hexD halfD
  by_cases h : i < 10
  · rw [if_pos h, if_pos (by omega)]; omega
  · rw [if_neg h, if_neg (by omega), if_pos (by omega)]; omega
theorem hexD_low (i : Int) (h0 : 0 ≤ i) (h1 : i < 16) : 0 ≤ hexD i ∧ hexD i < 128 := by
  unfold hexD; split <;> omega
theorem hexL_low : ∀ (xs : List Int), (∀ x ∈ xs, 0 ≤ x ∧ x ≤ 255) → ∀ c ∈ hexL xs, 0 ≤ c ∧ c < 128
  | [], _, c, h => by simp [hexL] at h
  | x :: xs, hx, c, h => by
    have := hx x (by simp)
    simp only [hexL, List.mem_cons] at h
    rcases h with rfl | rfl | h
    · exact hexD_low _ (by omega) (by omega)
    · exact hexD_low _ (by omega) (by omega)
    · exact hexL_low xs (fun y hy => hx y (by simp [hy])) c h
theorem or4 (x y : Int) (h0 : 0 ≤ x) (h1 : x < 16) (hy0 : 0 ≤ y) (hy1 : y < 16) : Go.bits .or .u8 (x * 16) y = x * 16 + y := by
  have wr : ∀ n : Int, 0 ≤ n → n < 2 ^ 8 → IntKind.u8.wrap n = n := fun n h0 h1 => by
    have : IntKind.u8.wrap n = n % 256 := by simp [IntKind.wrap, IntKind.bits, IntKind.signed]
    rw [this]; omega
  exact Go.bits_join .u8 8 (by decide) wr 4 _ _ (by omega) (by omega) (by omega) (by omega) (by omega) (by omega)
theorem unhex_hexL : ∀ (xs : List Int) (p : Int) (out : List Int), (∀ x ∈ xs, 0 ≤ x ∧ x ≤ 255) → p % 2 = 0 → unhexL (hexL xs) p out = (out ++ xs, 0, 0)
  | [], p, out, h, hp => by simp [hexL, unhexL]; omega
  | x :: xs, p, out, h, hp => by
    have hx := h x (by simp)
    have e1 := halfD_hexD (x / 16) (by omega) (by omega)
    have e2 := halfD_hexD (x % 16) (by omega) (by omega)
    rw [hexL, unhexL_hi (by omega) hp, unhexL_lo (by omega) (by omega), e1, e2]
    have hr : rd (out ++ [x / 16 * 16]) (((out ++ [x / 16 * 16]).length : Int) - 1) = x / 16 * 16 := by
      rw [show (((out ++ [x / 16 * 16]).length : Int) - 1) = ((out.length : Nat) : Int) by simp]
      rw [rd_get _ _ (by simp)]
      simp
    rw [hr, or4 _ _ (by omega) (by omega) (by omega) (by omega), show x / 16 * 16 + x % 16 = x by omega]
    have hs : (out ++ [x / 16 * 16]).set ((out ++ [x / 16 * 16]).length - 1) x = out ++ [x] := by
      simp
    rw [hs, unhex_hexL xs (p + 1 + 1) (out ++ [x]) (fun y hy => h y (by simp [hy])) (by omega)]
    simp

theorem hex_back (l : List Int) (h : ∀ x ∈ l, 0 ≤ x ∧ x ≤ 255) (hl : l.length ≤ 2048) : octet_Hex.f l = some (strOfNums (hexL l)) ∧ octet_Unhex.f (strOfNums (hexL l)) = some (l, 0, 0) := by
  constructor
  · unfold octet_Hex.f; rw [if_pos ⟨by omega, h⟩]
  · unfold octet_Unhex.f
    rw [if_neg (by rw [size_nums, hexL_length]; omega), letters_nums _ (hexL_low l h), unhex_hexL l 0 [] h (by decide)]
    rfl
end Go.Proofs.Ytnfbbnmdlcmifaa.Pure
