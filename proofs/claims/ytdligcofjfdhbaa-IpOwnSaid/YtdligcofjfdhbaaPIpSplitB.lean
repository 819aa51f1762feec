/- A packet's pieces: what the document's own tells, and that lists of packets are the same, in plain Lean. -/
import Derived.Test.YtdligcofjfdhbaaPIpSplit
import Derived.Test.YtdligcofjfdhbaaM26
import Derived.Test.YtdligcofjfdhbaaM27
import Derived.Test.YtdligcofjfdhbaaPIpPutR
import Derived.Test.YtdligcofjfdhbaaPIpSame
namespace Go.Proofs.Ytdligcofjfdhbaa.Pure
open Go.RowKit Go.Proofs.Ytdligcofjfdhbaa.M Go.Proofs.YtdligcofjfdhbaaW.PrintWords Go.Proofs.YtdligcofjfdhbaaW.PrintLast Go.Proofs.YtdligcofjfdhbaaW.PrintMore
set_option linter.unusedVariables false
set_option linter.unusedSimpArgs false

theorem rsplit_end (src dst proto ttl id : Int) (dont more : Bool) (off : Int) (body : List Int) (s x : Int) (acc : List S26) (h : ¬ x < (body.length : Int)) (k : Nat) : trunklineref10_Split.l0 (k + 1) s acc x src dst proto ttl id dont more off body = some (acc, 0) := by
  rw [trunklineref10_Split.l0, if_neg h]
theorem rsplit_l0 (src dst proto ttl id : Int) (dont more : Bool) (off : Int) (body : List Int) (s : Nat) (hs : 8 ≤ s) (hs2 : s ≤ 9000000000000000000) (ho : 0 ≤ off ∧ off ≤ 65528) (hb : body.length ≤ 65515) :
    ∀ (n : Nat) (acc : List S26) (a : Nat) (k : Nat), body.length - a < n → a < body.length → n + 2 ≤ k → acc.length + n < 200000 →
    trunklineref10_Split.l0 k (s : Int) acc (a : Int) src dst proto ttl id dont more off body = some (acc ++ pcs src dst proto ttl id dont more s n (off + a) (body.drop a), 0)
  | 0, acc, a, k, h1, h2, h4, h5 => by omega
  | n + 1, acc, a, k, h1, h2, h4, h5 => by
    obtain ⟨k, rfl⟩ : ∃ m, k = m + 2 := ⟨k - 2, by omega⟩
    have hd : (body.drop a).length = body.length - a := by simp
    rw [trunklineref10_Split.l0, pcs, w64 (x := (a : Int) + s) (by omega) (by omega), w64 (x := off + a) (by omega) (by omega), if_pos (by omega)]
    by_cases h : a + s < body.length
    · rw [if_pos (by omega), if_pos (by omega), if_pos (by omega), if_pos (by omega), if_pos (by omega), if_pos (c := s < (body.drop a).length) (by omega)]
      rw [show (a : Int) + s = ((a + s : Nat) : Int) by omega, Int.toNat_natCast, Int.toNat_natCast]
      rw [rsplit_l0 src dst proto ttl id dont more off body s hs hs2 ho hb n _ (a + s) (k + 1) (by omega) (by omega) (by omega) (by simp; omega)]
      rw [List.drop_take, show a + s - a = s by omega, List.drop_drop, show off + (a : Int) + s = off + ((a + s : Nat) : Int) by omega]
      simp
    · rw [if_neg (by omega), if_pos (by omega), if_pos (by omega), if_pos (by omega), if_neg (c := s < (body.drop a).length) (by omega), Int.toNat_natCast]
      rw [rsplit_end _ _ _ _ _ _ _ _ _ _ _ _ (by omega)]
theorem rsplit_f (src dst proto ttl id : Int) (dont more : Bool) (off : Int) (body : List Int) (mtu : Int) (hm : mtu ≤ 9223372036854775807) (hm0 : -9223372036854775808 ≤ mtu) (ho : -9223372036854775808 ≤ off ∧ off ≤ 9223372036854775807) (hl : body.length ≤ 140737488355328) {k : Nat} (hk : body.length + 5 ≤ k) :
    trunklineref10_Split.f k src dst proto ttl id dont more off body mtu = some (splitS src dst proto ttl id dont more off body mtu) := by
  unfold trunklineref10_Split.f splitS
  rw [rcheck_f src dst proto ttl id dont more off body ho hl (by omega)]
  simp only [Option.bind_some]
  by_cases h : mayS more off body.length = 0
  · obtain ⟨m1, m2, m3, m4, m5⟩ := mayS_zero h
    rw [if_pos h, if_pos h]
    by_cases h2 : mtu < 28
    · rw [if_pos h2, if_pos h2]
    · rw [if_neg h2, if_neg h2, w64 (x := 20 + (body.length : Int)) (by omega) (by omega)]
      by_cases h3 : (body.length : Int) ≤ mtu - 20
      · rw [if_pos (by omega), if_pos h3]
      · rw [if_neg (by omega), if_neg h3]
        cases dont
        · rw [if_neg (by decide), if_neg (by decide), w64 (x := mtu - 20) (by omega) (by omega), tmod8 (by omega), w64 (x := mtu - 20 - (mtu - 20) % 8) (by omega) (by omega)]
          have := rsplit_l0 src dst proto ttl id false more off body ((mtu - 20) / 8 * 8).toNat (by omega) (by omega) ⟨m1, m2⟩ (by omega) (body.length + 1) [] 0 k (by omega) (by omega) (by omega) (by simp; omega)
          rw [show (((mtu - 20) / 8 * 8).toNat : Int) = mtu - 20 - (mtu - 20) % 8 by omega, show off + ((0 : Nat) : Int) = off by omega, show ((0 : Nat) : Int) = 0 by rfl] at this
          rw [this]; simp
        · rw [if_pos rfl, if_pos rfl]
  · rw [if_neg h, if_neg h]

theorem same_l0 (L : List S26) (hl : L.length ≤ 1000000) : ∀ (d i k : Nat), i + d = L.length → d + 1 ≤ k → trunklinelaw10_same.l0 k L L (i : Int) = some true
  | 0, i, k, hi, hk => by
    obtain ⟨k, rfl⟩ : ∃ m, k = m + 1 := ⟨k - 1, by omega⟩
    rw [trunklinelaw10_same.l0, if_neg (by omega)]
  | d + 1, i, k, hi, hk => by
    obtain ⟨k, rfl⟩ : ∃ m, k = m + 1 := ⟨k - 1, by omega⟩
    rw [trunklinelaw10_same.l0, if_pos (by omega), if_pos (by omega), if_pos (by omega), Same_refl, w64 (by omega) (by omega), show ((i : Int) + 1) = ((i + 1 : Nat) : Int) by omega, same_l0 L hl d (i + 1) k (by omega) (by omega)]
    simp
theorem same_f (L : List S26) (hl : L.length ≤ 1000000) {k : Nat} (hk : L.length + 1 ≤ k) : trunklinelaw10_same.f k L L = some true := by
  have := same_l0 L hl L.length 0 k (by omega) hk
  unfold trunklinelaw10_same.f
  rw [if_pos rfl]
  exact this
theorem splitS_len (src dst proto ttl id : Int) (dont more : Bool) (off : Int) (body : List Int) (mtu : Int) : (splitS src dst proto ttl id dont more off body mtu).1.length ≤ 65516 := by
  unfold splitS
  split
  · rename_i h
    obtain ⟨m1, m2, m3, m4, m5⟩ := mayS_zero h
    split
    · simp
    · split
      · simp
      · split
        · simp
        · have := pcs_len src dst proto ttl id dont more ((mtu - 20) / 8 * 8).toNat (body.length + 1) off body
          simp only; omega
  · simp
end Go.Proofs.Ytdligcofjfdhbaa.Pure
