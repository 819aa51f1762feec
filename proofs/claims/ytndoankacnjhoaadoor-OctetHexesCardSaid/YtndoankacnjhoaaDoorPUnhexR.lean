/- The document's own Unhex and Hex of pieces tell what octet's of letters tell. -/
import Derived.Test.YtndoankacnjhoaaDoorPLetB
import Derived.Test.YtndoankacnjhoaaDoorHHex
import Derived.Test.YtndoankacnjhoaaDoorM4
import Derived.Test.YtndoankacnjhoaaDoorM10
namespace Go.Proofs.YtndoankacnjhoaaDoor.Pure
open Go.RowKit Go.Proofs.YtndoankacnjhoaaDoor.M Go.Proofs.YtndoankacnjhoaaDoorW.PrintWords Go.Proofs.YtndoankacnjhoaaDoorW.PrintLast Go.Proofs.YtndoankacnjhoaaDoorW.PrintMore
set_option linter.unusedVariables false
set_option linter.unusedSimpArgs false

theorem or4 (x y : Int) (h0 : 0 ≤ x) (h1 : x < 16) (hy0 : 0 ≤ y) (hy1 : y < 16) : Go.bits .or .u8 (x * 16) y = x * 16 + y := by
  have wr : ∀ n : Int, 0 ≤ n → n < 2 ^ 8 → IntKind.u8.wrap n = n := fun n h0 h1 => by
    have : IntKind.u8.wrap n = n % 256 := by simp [IntKind.wrap, IntKind.bits, IntKind.signed]
    rw [this]; omega
  exact Go.bits_join .u8 8 (by decide) wr 4 _ _ (by omega) (by omega) (by omega) (by omega) (by omega) (by omega)
theorem rdOf_mid (pre : List ByteArray) (p : ByteArray) (ps : List ByteArray) : rdOf ByteArray.empty (pre ++ p :: ps) (pre.length : Int) = p := by
  simp [rdOf]
theorem w64i {x : Int} (h0 : -9223372036854775808 ≤ x) (h1 : x ≤ 9223372036854775807) : wrap64 x = x := by unfold wrap64; omega

theorem All2.inv {c : Int} {cs : List Int} {ps : List ByteArray} (h : All2 (c :: cs) ps) : ∃ p ps', ps = p :: ps' ∧ LetOf c p ∧ All2 cs ps' := by
  cases h with
  | cons h1 h2 => exact ⟨_, _, rfl, h1, h2⟩
theorem All2.inv_nil {ps : List ByteArray} (h : All2 [] ps) : ps = [] := by
  cases h; rfl

/-- Two digits, a byte. -/
def pairs : List Int → List Int
  | c1 :: c2 :: cs => (halfD c1 * 16 + halfD c2) :: pairs cs
  | _ => []

theorem unhex_scan : ∀ (cs : List Int) (ps : List ByteArray) (pre : List ByteArray) (k : Nat), All2 cs ps → 17 ≤ k → pre.length + ps.length ≤ 4096 →
    trunklineref01_Unhex.l0 (k + 1 + ps.length) (pre ++ ps) (pre.length : Int) = match firstBad cs (pre.length : Int) with
      | some q => some ([], q, 4)
      | none => if ((pre.length : Int) + ps.length) % 2 = 0 then trunklineref01_Unhex.l1 k (pre ++ ps) [] 0 else some ([], (pre.length : Int) + ps.length, 3)
  | [], ps, pre, k, h, hk, hl => by
    obtain rfl := h.inv_nil
    rw [show k + 1 + ([] : List ByteArray).length = k + 1 from rfl, trunklineref01_Unhex.l0, List.append_nil, if_neg (by omega), firstBad]
    simp
  | c :: cs, ps0, pre, k, h0, hk, hl => by
    obtain ⟨p, ps, rfl, hp, h⟩ := h0.inv
    have hlen : ((pre ++ p :: ps).length : Int) = pre.length + ps.length + 1 := by simp; omega
    simp only [List.length_cons] at hl
    rw [show k + 1 + (p :: ps).length = (k + 1 + ps.length) + 1 by simp; omega, trunklineref01_Unhex.l0, hlen, if_pos (by omega), if_pos (by omega), rdOf_mid, digit_f hp _ (by omega), firstBad]
    simp only [Option.bind_some]
    by_cases hc : halfD c < 0
    · rw [if_pos hc, if_pos hc]
    · rw [if_neg hc, if_neg hc, w64i (by omega) (by omega)]
      have ih := unhex_scan cs ps (pre ++ [p]) k h hk (by simp; omega)
      have e1 : ((pre ++ [p]).length : Int) = pre.length + 1 := by simp
      have e2 : pre ++ [p] ++ ps = pre ++ p :: ps := by simp
      rw [e1, e2] at ih
      rw [ih]
      have e3 : (pre.length : Int) + (p :: ps).length = pre.length + 1 + ps.length := by simp; omega
      rw [e3]

theorem l1_step {k : Nat} {x5 : List ByteArray} {out : List Int} {i d1 d2 : Int} (h0 : 0 ≤ i) (h1 : i < (x5.length : Int)) (hd1 : trunklineref01_Digit.f k (rdOf ByteArray.empty x5 i) = some d1)
    (h2 : i + 1 < (x5.length : Int)) (hd2 : trunklineref01_Digit.f k (rdOf ByteArray.empty x5 (i + 1)) = some d2) (h3 : x5.length ≤ 4096) (g1 : 0 ≤ d1 ∧ d1 ≤ 15) (g2 : 0 ≤ d2 ∧ d2 ≤ 15) (h4 : out.length < 140737488355328) :
    trunklineref01_Unhex.l1 (k + 1) x5 out i = trunklineref01_Unhex.l1 k x5 (out ++ [(16 * d1 + d2) % 256]) (i + 2) := by
  have e1 : wrap64 (i + 1) = i + 1 := w64i (by omega) (by omega)
  have e2 : wrap64 (i + 2) = i + 2 := w64i (by omega) (by omega)
  have e3 : wrap64 (16 * d1) = 16 * d1 := w64i (by omega) (by omega)
  have e4 : wrap64 (16 * d1 + d2) = 16 * d1 + d2 := w64i (by omega) (by omega)
  have h6 : 0 ≤ i + 1 := by omega
  rw [trunklineref01_Unhex.l1, if_pos h1, if_pos h0, hd1]
  simp only [Option.bind_some]
  rw [e1, if_pos h6, if_pos h2, hd2]
  simp only [Option.bind_some]
  rw [if_pos h4, e2, e3, e4]

theorem unhex_pairs (x5 : List ByteArray) (hx : x5.length ≤ 4096) (n : Nat) : ∀ (cs : List Int) (ps pre : List ByteArray) (out : List Int) (k : Nat), All2 cs ps → 17 ≤ k → x5 = pre ++ ps → out.length ≤ pre.length → firstBad cs 0 = none → ps.length = 2 * n →
    trunklineref01_Unhex.l1 (k + 1 + n) x5 out (pre.length : Int) = some (out ++ pairs cs, 0, 0) := by
  induction n with
  | zero =>
    intro cs ps pre out k h hk hx5 ho hb he
    obtain rfl : ps = [] := List.length_eq_zero_iff.1 (by omega)
    have := h.length
    obtain rfl : cs = [] := List.length_eq_zero_iff.1 (by simpa using this)
    subst hx5
    rw [Nat.add_zero, trunklineref01_Unhex.l1, List.append_nil, if_neg (by omega), pairs]
    · simp
    · intro c1 c2 cs h; cases h
  | succ n ih =>
    intro cs ps0 pre out k h0 hk hx5 ho hb he
    match cs, h0, hb with
    | [], h0, hb => obtain rfl := h0.inv_nil; simp at he
    | [c], h0, hb =>
      obtain ⟨p, ps, rfl, hp, h⟩ := h0.inv
      obtain rfl := h.inv_nil
      simp at he; omega
    | c1 :: c2 :: cs, h0, hb =>
      obtain ⟨p1, ps1, rfl, hp1, h1⟩ := h0.inv
      obtain ⟨p2, ps, rfl, hp2, h⟩ := h1.inv
      have hlen : (x5.length : Int) = pre.length + ps.length + 2 := by rw [hx5]; simp; omega
      simp only [List.length_cons] at he
      have r1 := rdOf_mid pre p1 (p2 :: ps)
      have r2 := rdOf_mid (pre ++ [p1]) p2 ps
      rw [show ((pre ++ [p1]).length : Int) = pre.length + 1 by simp, show pre ++ [p1] ++ p2 :: ps = pre ++ p1 :: p2 :: ps by simp, ← hx5] at r2
      rw [← hx5] at r1
      rw [firstBad] at hb
      by_cases hc1 : halfD c1 < 0
      · rw [if_pos hc1] at hb; cases hb
      rw [if_neg hc1, firstBad] at hb
      by_cases hc2 : halfD c2 < 0
      · rw [if_pos hc2] at hb; cases hb
      rw [if_neg hc2] at hb
      have g1 := halfD_range c1
      have g2 := halfD_range c2
      have i1 : (pre.length : Int) < x5.length := by omega
      have i2 : (pre.length : Int) + 1 < x5.length := by omega
      have i3 : out.length < 140737488355328 := by omega
      have st := l1_step (k := k + 1 + n) (x5 := x5) (out := out) (i := (pre.length : Int)) (d1 := halfD c1) (d2 := halfD c2) (by omega) i1 (by rw [r1]; exact digit_f hp1 _ (by omega)) i2 (by rw [r2]; exact digit_f hp2 _ (by omega)) (by omega) ⟨by omega, by omega⟩ ⟨by omega, by omega⟩ i3
      rw [show k + 1 + (n + 1) = (k + 1 + n) + 1 by omega, st]
      have ih := ih cs ps (pre ++ [p1, p2]) (out ++ [(16 * halfD c1 + halfD c2) % 256]) k h hk (by rw [hx5]; simp) (by simp; omega) (firstBad_all _ _ _ hb) (by omega)
      rw [show ((pre ++ [p1, p2]).length : Int) = pre.length + 2 by simp] at ih
      rw [ih, pairs, show (16 * halfD c1 + halfD c2) % 256 = halfD c1 * 16 + halfD c2 by omega]
      simp

theorem unhexL_firstBad : ∀ (cs : List Int) (i : Int) (out : List Int) (q : Int), firstBad cs i = some q → unhexL cs i out = ([], q, 4)
  | [], i, out, q, h => by rw [firstBad] at h; cases h
  | c :: cs, i, out, q, h => by
    rw [firstBad] at h
    by_cases hc : halfD c < 0
    · rw [if_pos hc] at h; cases h; exact unhexL_bad hc
    · rw [if_neg hc] at h
      by_cases hp : i % 2 = 0
      · rw [unhexL_hi hc hp]; exact unhexL_firstBad cs _ _ q h
      · rw [unhexL_lo hc hp]; exact unhexL_firstBad cs _ _ q h
theorem unhexL_odd : ∀ (cs : List Int) (i : Int) (out : List Int), firstBad cs i = none → ¬ (i + cs.length) % 2 = 0 → unhexL cs i out = ([], i + cs.length, 3)
  | [], i, out, h, he => by
    rw [unhexL, if_pos (by simp at he; omega)]; simp
  | c :: cs, i, out, h, he => by
    rw [firstBad] at h
    by_cases hc : halfD c < 0
    · rw [if_pos hc] at h; cases h
    · rw [if_neg hc] at h
      have e : i + ((c :: cs).length : Int) = i + 1 + cs.length := by simp; omega
      rw [e] at he ⊢
      by_cases hp : i % 2 = 0
      · rw [unhexL_hi hc hp]; exact unhexL_odd cs _ _ h he
      · rw [unhexL_lo hc hp]; exact unhexL_odd cs _ _ h he
theorem unhexL_pairs : ∀ (cs : List Int) (i : Int) (out : List Int), firstBad cs i = none → i % 2 = 0 → cs.length % 2 = 0 → unhexL cs i out = (out ++ pairs cs, 0, 0)
  | [], i, out, h, hi, he => by
    rw [unhexL, if_neg (by omega), pairs]
    · simp
    · intro c1 c2 cs h; cases h
  | [c], i, out, h, hi, he => by simp at he
  | c1 :: c2 :: cs, i, out, h, hi, he => by
    rw [firstBad] at h
    by_cases hc1 : halfD c1 < 0
    · rw [if_pos hc1] at h; cases h
    rw [if_neg hc1, firstBad] at h
    by_cases hc2 : halfD c2 < 0
    · rw [if_pos hc2] at h; cases h
    rw [if_neg hc2] at h
    have g1 := halfD_range c1
    have g2 := halfD_range c2
    rw [unhexL_hi hc1 hi, unhexL_lo hc2 (by omega)]
    have hr : rd (out ++ [halfD c1 * 16]) (((out ++ [halfD c1 * 16]).length : Int) - 1) = halfD c1 * 16 := by
      simp [rd]
    have hset : (out ++ [halfD c1 * 16]).set ((out ++ [halfD c1 * 16]).length - 1) (halfD c1 * 16 + halfD c2) = out ++ [halfD c1 * 16 + halfD c2] := by
      simp
    rw [hr, or4 _ _ (by omega) (by omega) (by omega) (by omega), hset, unhexL_pairs cs _ _ h (by omega) (by simp at he; omega), pairs]
    simp

theorem unhex_same (s : ByteArray) (k : Nat) (hk : 9000 ≤ k) : trunklineref01_Unhex.f k s = octet_Unhex.f s := by
  unfold octet_Unhex.f
  by_cases hs : s.size > 4096
  · rw [if_pos hs, trunklineref01_Unhex.f, if_pos (by omega)]
  · rw [if_neg hs]
    have hA := of_letters s
    have hl := pieces_length s.size s
    have hll := hA.length
    refine up_ (f := fun k => trunklineref01_Unhex.f k s) (trunklineref01_Unhex.mono s) hk ?_
    show trunklineref01_Unhex.f 9000 s = _
    rw [trunklineref01_Unhex.f, if_neg (by omega), letters_f s (by omega) 9000 (by omega)]
    simp only [Option.bind_some]
    have h := unhex_scan (letters s) (pieces s.size s) [] (9000 - 1 - (pieces s.size s).length) hA (by omega) (by simp; omega)
    rw [show 9000 - 1 - (pieces s.size s).length + 1 + (pieces s.size s).length = 9000 by omega] at h
    simp only [List.nil_append, List.length_nil, Int.ofNat_zero, Int.zero_add] at h
    rw [h]
    cases hb : firstBad (letters s) 0 with
    | some q => simp only; rw [unhexL_firstBad _ _ _ _ hb]
    | none =>
      simp only
      by_cases he : (((pieces s.size s).length : Int)) % 2 = 0
      · have h2 := unhex_pairs (pieces s.size s) (by omega) ((pieces s.size s).length / 2) (letters s) (pieces s.size s) [] [] (9000 - 1 - (pieces s.size s).length - 1 - (pieces s.size s).length / 2) hA (by omega) rfl (by simp) hb (by omega)
        rw [if_pos he, unhexL_pairs _ _ _ hb rfl (by omega)]
        rw [show 9000 - 1 - (pieces s.size s).length - 1 - (pieces s.size s).length / 2 + 1 + (pieces s.size s).length / 2 = 9000 - 1 - (pieces s.size s).length by omega] at h2
        exact h2
      · rw [if_neg he, unhexL_odd _ _ _ hb (by omega)]
        simp [hll]
end Go.Proofs.YtndoankacnjhoaaDoor.Pure
