/- Bytes of a stamped packet turned within four, behind the twelfth: its sum is right no more; in plain Lean. -/
import Derived.Test.YtaahkggbjpdofaaPBurst
import Derived.Test.YtaahkggbjpdofaaPChunkVp
namespace Go.Proofs.Ytaahkggbjpdofaa.Pure
open Go.RowKit Go.Proofs.Ytaahkggbjpdofaa.M Go.Proofs.YtaahkggbjpdofaaW.PrintWords Go.Proofs.YtaahkggbjpdofaaW.PrintLast Go.Proofs.YtaahkggbjpdofaaW.PrintMore
set_option linter.unusedVariables false
set_option linter.unusedSimpArgs false
/-- Bytes turned, one behind the other, from a place on; and whether one was turned. -/
def turnV (fr : Nat) : List Int → Nat → List Int → Bool → List Int × Bool
  | [], _, b, t => (b, t)
  | y :: ys, i, b, t => if fr + i < b.length then turnV fr ys (i + 1) (b.set (fr + i) (Go.bits .xor .u8 (rd b ((fr + i : Nat) : Int)) y)) (t || (y != 0)) else (b, t)
theorem xor8 {a y : Int} (ha : 0 ≤ a ∧ a ≤ 255) (hy : 0 ≤ y ∧ y ≤ 255) : (0 ≤ Go.bits .xor .u8 a y ∧ Go.bits .xor .u8 a y ≤ 255) ∧ (Go.bits .xor .u8 a y = a ↔ y = 0) := by
  obtain ⟨m, rfl⟩ := Int.eq_ofNat_of_zero_le ha.1
  obtain ⟨n, rfl⟩ := Int.eq_ofNat_of_zero_le hy.1
  have h := Go.u8_xor_nat m n (by omega) (by omega)
  have hlt : m ^^^ n < 2 ^ 8 := Nat.xor_lt_two_pow (by omega) (by omega)
  rw [h]
  refine ⟨by omega, ⟨fun e => ?_, fun e => ?_⟩⟩
  · have e' : m ^^^ n = m := by omega
    have : m ^^^ (m ^^^ n) = m ^^^ m := by rw [e']
    rw [← Nat.xor_assoc, Nat.xor_self, Nat.zero_xor] at this
    omega
  · have : n = 0 := by omega
    rw [this, Nat.xor_zero]
theorem turn_tells (fr : Nat) : ∀ (ys : List Int) (i : Nat) (b : List Int) (t : Bool), Bys b → Bys ys →
    (turnV fr ys i b t).1.length = b.length ∧ (turnV fr ys i b t).1.take (fr + i) = b.take (fr + i) ∧ (turnV fr ys i b t).1.drop (fr + i + ys.length) = b.drop (fr + i + ys.length) ∧ ((turnV fr ys i b t).2 = true ↔ t = true ∨ (turnV fr ys i b t).1 ≠ b) ∧ Bys (turnV fr ys i b t).1
  | [], i, b, t, hb, hy => by
    rw [turnV]
    exact ⟨rfl, rfl, rfl, by simp, hb⟩
  | y :: ys, i, b, t, hb, hy => by
    by_cases hlt : fr + i < b.length
    · have hv := hb b[fr + i] (List.getElem_mem hlt)
      have hyy := hy y (by simp)
      have hx := xor8 hv hyy
      have hb1 : Bys (b.set (fr + i) (Go.bits .xor .u8 b[fr + i] y)) := by
        intro z hz
        rcases List.mem_or_eq_of_mem_set hz with hz | rfl
        · exact hb z hz
        · exact hx.1
      obtain ⟨h1, h2, h3, h4, h5⟩ := turn_tells fr ys (i + 1) (b.set (fr + i) (Go.bits .xor .u8 b[fr + i] y)) (t || (y != 0)) hb1 (fun z hz => hy z (by simp [hz]))
      have e : turnV fr (y :: ys) i b t = turnV fr ys (i + 1) (b.set (fr + i) (Go.bits .xor .u8 b[fr + i] y)) (t || (y != 0)) := by
        rw [turnV, if_pos hlt, rd_at b (fr + i) hlt]
      rw [e]
      obtain ⟨B, hB⟩ : ∃ B, B = turnV fr ys (i + 1) (b.set (fr + i) (Go.bits .xor .u8 b[fr + i] y)) (t || (y != 0)) := ⟨_, rfl⟩
      rw [← hB] at h1 h2 h3 h4 h5 ⊢
      rw [List.length_set] at h1
      have h2' : B.1.take (fr + i) = b.take (fr + i) := by
        have := congrArg (List.take (fr + i)) h2
        rw [List.take_take, List.take_take, Nat.min_eq_left (by omega), List.take_set_of_le (by omega)] at this
        exact this
      have h6 : B.1[fr + i]? = some (Go.bits .xor .u8 b[fr + i] y) := by
        have := congrArg (fun l : List Int => l[fr + i]?) h2
        simp only [List.getElem?_take] at this
        rw [if_pos (by omega), if_pos (by omega), List.getElem?_set_self hlt] at this
        exact this
      refine ⟨h1, h2', ?_, ?_, h5⟩
      · rw [List.length_cons, show fr + i + (ys.length + 1) = fr + (i + 1) + ys.length by omega, h3, List.drop_set_of_lt (by omega)]
      · rw [h4]
        by_cases hy0 : y = 0
        · have hs : b.set (fr + i) (Go.bits .xor .u8 b[fr + i] y) = b := by
            rw [hx.2.mpr hy0]; exact List.set_getElem_self hlt
          rw [hs, hy0]
          simp
        · have hne : B.1 ≠ b := by
            intro hh
            rw [hh, List.getElem?_eq_getElem hlt] at h6
            exact hy0 (hx.2.mp (Option.some.inj h6).symm)
          simp [hy0, hne]
    · rw [turnV, if_neg hlt]
      exact ⟨rfl, rfl, rfl, by simp, hb⟩
/-- The sum of a packet of which a part behind the twelfth byte, up to four bytes long, is another one. -/
theorem stamp_turned (b c : List Int) (fr : Nat) (h12 : 12 ≤ fr) (hfr : fr ≤ b.length) (hb : Bys b) (hc : Bys c) (hl : c.length = b.length) (ht : c.take fr = b.take fr) (hd : c.drop (fr + 4) = b.drop (fr + 4)) (hs : stampV b = b) (hsc : stampV c = c) : c = b := by
  have hlen : 12 ≤ b.length := by omega
  have t8 : c.take 8 = b.take 8 := by
    have := congrArg (List.take 8) ht
    rw [List.take_take, List.take_take, Nat.min_eq_left (by omega)] at this
    exact this
  have t12 : c.take 12 = b.take 12 := by
    have := congrArg (List.take 12) ht
    rw [List.take_take, List.take_take, Nat.min_eq_left (by omega)] at this
    exact this
  have rb := crcL_range _ 4294967295 (zeroed_range b hb) (by decide) (by decide)
  have rc := crcL_range _ 4294967295 (zeroed_range c hc) (by decide) (by decide)
  have e12 : (stampV c).take 12 = (stampV b).take 12 := by rw [hs, hsc, t12]
  unfold stampV at e12
  obtain ⟨x, hx⟩ : ∃ x, x = crcL (c.take 8 ++ [0, 0, 0, 0] ++ c.drop 12) 4294967295 := ⟨_, rfl⟩
  obtain ⟨y, hy⟩ : ∃ y, y = crcL (b.take 8 ++ [0, 0, 0, 0] ++ b.drop 12) 4294967295 := ⟨_, rfl⟩
  rw [← hx] at e12 rc
  rw [← hy] at e12 rb
  rw [List.take_left' (by rw [List.length_append, List.length_take]; show min 8 c.length + 4 = 12; omega), List.take_left' (by rw [List.length_append, List.length_take]; show min 8 b.length + 4 = 12; omega), t8] at e12
  have e4 := List.append_cancel_left e12
  simp only [List.cons.injEq, and_true] at e4
  have hxy : x = y := by omega
  rw [hx, hy, t8] at hxy
  have hw : ∀ d : List Int, d.length = b.length → d.drop 12 = (d.take fr).drop 12 ++ (d.drop fr).take 4 ++ d.drop (fr + 4) := by
    intro d hdl
    have h1 : d = d.take fr ++ ((d.drop fr).take 4 ++ d.drop (fr + 4)) := by
      rw [← List.drop_drop, List.take_append_drop, List.take_append_drop]
    conv => lhs; rw [h1]
    rw [List.drop_append_of_le_length (by rw [List.length_take]; omega), List.append_assoc]
  rw [hw c hl, hw b rfl, ht, hd, ← List.append_assoc, ← List.append_assoc, ← List.append_assoc, ← List.append_assoc] at hxy
  have hz : Bys (b.take 8 ++ [0, 0, 0, 0]) := bys_app (fun z hz => hb z (List.mem_of_mem_take hz)) (by intro z hz; simp at hz; omega)
  have hW := crc_burst (b.take 8 ++ [0, 0, 0, 0] ++ (b.take fr).drop 12) ((c.drop fr).take 4) ((b.drop fr).take 4) (b.drop (fr + 4)) (bys_app hz (fun z hz => hb z (List.mem_of_mem_take (List.mem_of_mem_drop hz)))) (fun z hz => hc z (List.mem_of_mem_drop (List.mem_of_mem_take hz))) (fun z hz => hb z (List.mem_of_mem_drop (List.mem_of_mem_take hz))) (fun z hz => hb z (List.mem_of_mem_drop hz))
    (by rw [List.length_take, List.length_take, List.length_drop, List.length_drop, hl]) (by rw [List.length_take]; omega) hxy
  have g : ∀ d : List Int, d = d.take fr ++ ((d.drop fr).take 4 ++ d.drop (fr + 4)) := by
    intro d
    rw [← List.drop_drop, List.take_append_drop, List.take_append_drop]
  rw [g c, g b, ht, hd, hW]
end Go.Proofs.Ytaahkggbjpdofaa.Pure
