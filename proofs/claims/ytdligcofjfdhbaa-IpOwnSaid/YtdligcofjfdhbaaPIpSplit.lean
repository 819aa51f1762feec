/- A packet's pieces: what ip.Split and the document's own tell, in plain Lean. -/
import Derived.Test.YtdligcofjfdhbaaPIpPut
import Derived.Test.YtdligcofjfdhbaaM16
namespace Go.Proofs.Ytdligcofjfdhbaa.Pure
open Go.RowKit Go.Proofs.Ytdligcofjfdhbaa.M Go.Proofs.YtdligcofjfdhbaaW.PrintWords Go.Proofs.YtdligcofjfdhbaaW.PrintLast Go.Proofs.YtdligcofjfdhbaaW.PrintMore
set_option linter.unusedVariables false
set_option linter.unusedSimpArgs false

/-- The pieces of at most s bytes, from a place on. -/
def pcs (src dst proto ttl id : Int) (dont more : Bool) (s : Nat) : Nat → Int → List Int → List S26
  | 0, _, _ => []
  | n + 1, off, rest => if s < rest.length then ⟨src, dst, proto, ttl, id, dont, true, off, rest.take s⟩ :: pcs src dst proto ttl id dont more s n (off + s) (rest.drop s) else [⟨src, dst, proto, ttl, id, dont, more, off, rest⟩]
theorem pcs_pos (src dst proto ttl id : Int) (dont more : Bool) (s : Nat) (n : Nat) (off : Int) (rest : List Int) (h : 0 < n) : 0 < (pcs src dst proto ttl id dont more s n off rest).length := by
  obtain ⟨n, rfl⟩ : ∃ m, n = m + 1 := ⟨n - 1, by omega⟩
  rw [pcs]; split <;> simp
theorem pcs_len (src dst proto ttl id : Int) (dont more : Bool) (s : Nat) : ∀ (n : Nat) (off : Int) (rest : List Int), (pcs src dst proto ttl id dont more s n off rest).length ≤ n
  | 0, off, rest => by simp [pcs]
  | n + 1, off, rest => by
    rw [pcs]; split
    · have := pcs_len src dst proto ttl id dont more s n (off + s) (rest.drop s)
      simp only [List.length_cons]; omega
    · simp
theorem pcs_one (src dst proto ttl id : Int) (dont more : Bool) (s : Nat) (n : Nat) (off : Int) (rest : List Int) (h : 0 < n) (hs : rest.length ≤ s) : pcs src dst proto ttl id dont more s n off rest = [⟨src, dst, proto, ttl, id, dont, more, off, rest⟩] := by
  obtain ⟨n, rfl⟩ : ∃ m, n = m + 1 := ⟨n - 1, by omega⟩
  rw [pcs, if_neg (by omega)]

theorem clone_f (l : List Int) (h : l.length < 140737488355328) : slices_Clone_byte_byte.f l = some l := by
  unfold slices_Clone_byte_byte.f; rw [if_pos h]
theorem mn_l {a b : Int} (h : a ≤ b) : mn a b = a := by unfold mn; rw [if_neg (by omega)]
theorem mn_r {a b : Int} (h : b ≤ a) : mn a b = b := by unfold mn; split <;> omega
theorem split_l0 (src dst proto ttl id : Int) (dont more : Bool) (off : Int) (body : List Int) (s : Nat) (hs : 8 ≤ s) (hs2 : s ≤ 9000000000000000000) (ho : 0 ≤ off ∧ off ≤ 65528) (hb : body.length ≤ 65515) :
    ∀ (n : Nat) (acc : List S26) (rest : List Int) (k : Nat), rest.length < n → 0 < rest.length → rest.length ≤ body.length → n + 1 ≤ k → acc.length + n < 200000 →
    ip_Split.l0 k (s : Int) acc rest src dst proto ttl id dont more off body = some (acc ++ pcs src dst proto ttl id dont more s n (off + body.length - rest.length) rest, 0)
  | 0, acc, rest, k, h1, h2, h3, h4, h5 => by omega
  | n + 1, acc, rest, k, h1, h2, h3, h4, h5 => by
    obtain ⟨k, rfl⟩ : ∃ m, k = m + 1 := ⟨k - 1, by omega⟩
    rw [ip_Split.l0, pcs, w64 (x := off + body.length) (by omega) (by omega), w64 (by omega) (by omega)]
    by_cases h : s < rest.length
    · rw [mn_l (by omega), if_pos (by omega), if_pos (by omega), if_pos h, Int.toNat_natCast, clone_f _ (by simp; omega)]
      simp only [Option.bind_some]
      have hd : (rest.drop s).length = rest.length - s := by simp
      have e : off + (body.length : Int) - ((rest.drop s).length : Int) = off + body.length - rest.length + s := by omega
      cases more
      · rw [if_neg (by decide), if_pos (by omega), decide_eq_true (by omega), if_neg (by omega)]
        rw [split_l0 src dst proto ttl id dont _ off body s hs hs2 ho hb n _ (rest.drop s) k (by omega) (by omega) (by omega) (by omega) (by simp; omega), e]
        simp
      · rw [if_pos rfl, if_pos (by omega), if_neg (by omega)]
        rw [split_l0 src dst proto ttl id dont _ off body s hs hs2 ho hb n _ (rest.drop s) k (by omega) (by omega) (by omega) (by omega) (by simp; omega), e]
        simp
    · rw [mn_r (by omega), if_pos (by omega), if_pos (by omega), if_neg h, Int.toNat_natCast, List.take_length, clone_f _ (by omega), List.drop_length]
      simp only [Option.bind_some]
      cases more
      · rw [if_neg (by decide), if_pos (by omega)]
        simp
      · rw [if_pos rfl, if_pos (by omega)]
        simp

/-- What Split tells. -/
def splitS (src dst proto ttl id : Int) (dont more : Bool) (off : Int) (body : List Int) (mtu : Int) : List S26 × Int :=
  if mayS more off body.length = 0 then (if mtu < 28 then ([], 2) else if body.length ≤ mtu - 20 then ([⟨src, dst, proto, ttl, id, dont, more, off, body⟩], 0) else if dont = true then ([], 10) else (pcs src dst proto ttl id dont more ((mtu - 20) / 8 * 8).toNat (body.length + 1) off body, 0)) else ([], mayS more off body.length)
theorem split_f (src dst proto ttl id : Int) (dont more : Bool) (off : Int) (body : List Int) (mtu : Int) (hm : mtu ≤ 9223372036854775807) (hm0 : -9223372036854775808 ≤ mtu) (ho : -9223372036854775808 ≤ off ∧ off ≤ 9223372036854775807) (hl : body.length ≤ 140737488355328) {k : Nat} (hk : body.length + 5 ≤ k) :
    ip_Split.f k src dst proto ttl id dont more off body mtu = some (splitS src dst proto ttl id dont more off body mtu) := by
  unfold ip_Split.f splitS
  rw [may_f src dst proto ttl id dont more off body ho hl (by omega)]
  simp only [Option.bind_some]
  by_cases h : mayS more off body.length = 0
  · obtain ⟨m1, m2, m3, m4, m5⟩ := mayS_zero h
    rw [if_pos h, if_pos h]
    by_cases h2 : mtu < 28
    · rw [if_pos h2, if_pos h2]
    · rw [if_neg h2, if_neg h2, w64 (x := mtu - 20) (by omega) (by omega)]
      by_cases h3 : (body.length : Int) ≤ mtu - 20
      · rw [if_pos h3, if_pos h3, clone_f _ (by omega)]
        simp
      · rw [if_neg h3, if_neg h3]
        cases dont
        · rw [if_neg (by decide), if_neg (by decide), tdiv8 (by omega), w64 (x := (mtu - 20) / 8) (by omega) (by omega), w64 (x := (mtu - 20) / 8 * 8) (by omega) (by omega)]
          have := split_l0 src dst proto ttl id false more off body ((mtu - 20) / 8 * 8).toNat (by omega) (by omega) ⟨m1, m2⟩ (by omega) (body.length + 1) [] body k (by omega) (by omega) (by omega) (by omega) (by simp; omega)
          rw [show (((mtu - 20) / 8 * 8).toNat : Int) = (mtu - 20) / 8 * 8 by omega, show off + (body.length : Int) - body.length = off by omega] at this
          rw [this]; simp
        · rw [if_pos rfl, if_pos rfl]
  · rw [if_neg h, if_neg h]
end Go.Proofs.Ytdligcofjfdhbaa.Pure
