/- A card's address as a text, and back, in plain Lean. -/
import Derived.Test.YtnfbbnmdlcmifaaPTextA
import Derived.Test.YtnfbbnmdlcmifaaPEther
import Derived.Test.YtnfbbnmdlcmifaaHMac
namespace Go.Proofs.Ytnfbbnmdlcmifaa.Pure
open Go.RowKit Go.Proofs.Ytnfbbnmdlcmifaa.M Go.Proofs.YtnfbbnmdlcmifaaW.PrintWords Go.Proofs.YtnfbbnmdlcmifaaW.PrintLast Go.Proofs.YtnfbbnmdlcmifaaW.PrintMore
set_option linter.unusedVariables false
set_option linter.unusedSimpArgs false

theorem or4u (m d : Int) (h0 : 0 ≤ m) (h1 : m < 1152921504606846976) (hd0 : 0 ≤ d) (hd1 : d < 16) : Go.bits .or .u64 (IntKind.u64.wrap (m * 16)) d = m * 16 + d := by
  have wr : ∀ n : Int, 0 ≤ n → n < 2 ^ 64 → IntKind.u64.wrap n = n := fun n h0 h1 => wrapu h0 (by omega)
  rw [wr _ (by omega) (by omega)]
  exact Go.bits_join .u64 64 (by decide) wr 4 _ _ (by omega) (by omega) (by omega) (by omega) (by omega) (by omega)
theorem mac_digit {c m p : Int} {cs : List Int} (hp : p < 17) (h3 : p % 3 ≠ 2) (d : Int) (hd : halfD c = d) (h0 : 0 ≤ d) (h1 : d < 16) (hm0 : 0 ≤ m) (hm1 : m < 1152921504606846976) : macL (c :: cs) m p = macL cs (m * 16 + d) (p + 1) := by
  rw [macL, if_neg (by omega), if_neg h3, if_neg (by omega), hd, or4u m d hm0 hm1 h0 h1]
theorem mac_colon {m p : Int} {cs : List Int} (hp : p < 17) (h3 : p % 3 = 2) : macL (58 :: cs) m p = macL cs m (p + 1) := by
  rw [macL, if_neg (by omega), if_pos h3, if_pos rfl]
theorem mac_byte (x m p : Int) (cs : List Int) (hx0 : 0 ≤ x) (hx1 : x ≤ 255) (hp0 : 0 ≤ p) (hp : p < 16) (h3 : p % 3 = 0) (hm0 : 0 ≤ m) (hm1 : m < 4503599627370496) : macL (hexL [x] ++ cs) m p = macL cs (m * 256 + x) (p + 2) := by
  simp only [hexL, List.cons_append, List.nil_append]
  rw [mac_digit (by omega) (by omega) (x / 16) (halfD_hexD _ (by omega) (by omega)) (by omega) (by omega) hm0 (by omega), mac_digit (by omega) (by omega) (x % 16) (halfD_hexD _ (by omega) (by omega)) (by omega) (by omega) (by omega) (by omega)]
  rw [show (m * 16 + x / 16) * 16 + x % 16 = m * 256 + x by omega, show p + 1 + 1 = p + 2 by omega]
theorem mac_rest : ∀ (xs : List Int) (m : Int) (j : Nat), (∀ x ∈ xs, 0 ≤ x ∧ x ≤ 255) → j + xs.length = 6 → 1 ≤ j → 0 ≤ m → m < 256 ^ j → macL (macT false xs) m (3 * (j : Int) - 1) = (numL m xs, 0, 0)
  | [], m, j, h, hj, h1, hm0, hm1 => by
    simp only [macT, macL]
    simp only [List.length_nil] at hj
    rw [if_neg (by omega)]
    rfl
  | x :: xs, m, j, h, hj, h1, hm0, hm1 => by
    have hx := h x (by simp)
    simp only [List.length_cons] at hj
    have hp := pow256' j (by omega)
    have hm2 : m < 4503599627370496 := by
      have h5 : (256 : Int) ^ j ≤ 256 ^ 5 := by
        have H : ∀ n : Fin 6, (256 : Int) ^ n.val ≤ 256 ^ 5 := by decide
        exact H ⟨j, by omega⟩
      rw [show (256 : Int) ^ 5 = 1099511627776 by decide] at h5
      omega
    rw [macT, if_neg (by decide), List.cons_append, List.nil_append, mac_colon (by omega) (by omega), mac_byte x m _ _ hx.1 hx.2 (by omega) (by omega) (by omega) hm0 hm2]
    have ih := mac_rest xs (m * 256 + x) (j + 1) (fun y hy => h y (by simp [hy])) (by omega) (by omega) (by omega) (by rw [Int.pow_succ]; omega)
    rw [show 3 * (((j + 1 : Nat)) : Int) - 1 = 3 * (j : Int) - 1 + 1 + 2 by omega] at ih
    rw [ih, numL]
theorem mac_text (xs : List Int) (h : ∀ x ∈ xs, 0 ≤ x ∧ x ≤ 255) (hl : xs.length = 6) : macL (macT true xs) 0 0 = (numL 0 xs, 0, 0) := by
  match xs, hl with
  | x :: xs, hl =>
    have hx := h x (by simp)
    rw [macT, if_pos rfl, List.nil_append, mac_byte x 0 0 _ hx.1 hx.2 (by decide) (by decide) (by decide) (by decide) (by decide)]
    have ih := mac_rest xs x 1 (fun y hy => h y (by simp [hy])) (by simp at hl; omega) (by decide) hx.1 (by rw [Int.pow_one]; omega)
    rw [show 3 * (((1 : Nat)) : Int) - 1 = 0 + 2 by decide] at ih
    rw [show (0 : Int) * 256 + x = x by omega, ih, numL]
    rw [show (0 : Int) * 256 + x = x by omega]
theorem macT_low : ∀ (b : Bool) (xs : List Int), (∀ x ∈ xs, 0 ≤ x ∧ x ≤ 255) → ∀ c ∈ macT b xs, 0 ≤ c ∧ c < 128
  | b, [], _, c, hc => by simp [macT] at hc
  | b, x :: xs, h, c, hc => by
    simp only [macT, List.mem_append] at hc
    rcases hc with hc | hc | hc
    · cases b
      · rw [if_neg (by decide)] at hc
        obtain rfl := List.mem_singleton.1 hc
        decide
      · rw [if_pos rfl] at hc
        cases hc
    · exact hexL_low [x] (fun y hy => h y (by simp at hy; simp [hy])) c hc
    · exact macT_low false xs (fun y hy => h y (by simp [hy])) c hc

/-- What MacText tells. -/
def macTextS (a : Int) : ByteArray × Int := if a < 281474976710656 then (strOfNums (macT true (bytesL a 6)), 0) else (⟨#[]⟩, 2)
theorem macText_f (a : Int) (h0 : 0 ≤ a) {k : Nat} (hk : 20 ≤ k) : ether_MacText.f k a = some (macTextS a) := by
  unfold ether_MacText.f macTextS
  rw [card1 a h0]
  simp only [Option.bind_some]
  by_cases h : a < 281474976710656
  · rw [decide_eq_true h, if_pos rfl, if_pos h]
    rw [lay_f [] _ (by simp) (by
      intro x hx
      obtain rfl := List.mem_singleton.1 hx
      exact okP_mk (by decide) (by decide) h0 (by rw [p6]; omega)) (by simp) (by simp; omega)]
    have e6 : (6 : Int).toNat = 6 := rfl
    simp only [Option.bind_some, List.nil_append, layL, List.append_nil, e6]
    rw [if_pos ⟨by rw [bytesL_length]; decide, bytesL_range _ _⟩]
  · rw [decide_eq_false h, if_neg (by decide), if_neg h]
theorem mac_back (a : Int) (h0 : 0 ≤ a) (h : a < 281474976710656) : ether_Mac.f (macTextS a).1 = some (a, 0, 0) := by
  unfold macTextS ether_Mac.f
  rw [if_pos h]
  simp only
  rw [letters_nums _ (macT_low true _ (bytesL_range _ _)), mac_text _ (bytesL_range _ _) (bytesL_length 6 a), numL_bytesL 6 a h0 (by rw [show (256 : Int) ^ 6 = 281474976710656 by decide]; exact h)]
end Go.Proofs.Ytnfbbnmdlcmifaa.Pure
