/- IpPieces: the plain law. -/
import Derived.Test.YtdligcofjfdhbaaM29
import Derived.Test.YtdligcofjfdhbaaPIpSplit
import Derived.Test.YtdligcofjfdhbaaPIpLive
namespace Go.Proofs.Ytdligcofjfdhbaa.Pure
open Go.RowKit Go.Proofs.Ytdligcofjfdhbaa.M Go.Proofs.YtdligcofjfdhbaaW.PrintWords Go.Proofs.YtdligcofjfdhbaaW.PrintLast
set_option linter.unusedVariables false
set_option linter.unusedSimpArgs false

theorem mayS_ok {more : Bool} {off n : Int} (h0 : 0 ≤ off) (h1 : off ≤ 65528) (h2 : off % 8 = 0) (h3 : more = true → n % 8 = 0) (h4 : n ≤ 65515 - off) : mayS more off n = 0 := by
  unfold mayS
  rw [if_neg, if_neg (by omega)]
  rintro (q | q | q | ⟨q1, q2⟩)
  · omega
  · omega
  · exact q h2
  · exact q2 (h3 q1)
theorem rd_at (L : List S26) (i : Nat) (x : S26) (xs : List S26) (h : L.drop i = x :: xs) : rd_T26 L (i : Int) = x := by
  have hi : i < L.length := by
    rcases Nat.lt_or_ge i L.length with q | q
    · exact q
    · rw [List.drop_of_length_le q] at h; cases h
  rw [List.drop_eq_getElem_cons hi] at h
  simp only [List.cons.injEq] at h
  simp [rd_T26, List.getD, hi, h.1]
theorem drop_len (L : List S26) (i : Nat) (x : S26) (xs : List S26) (h : L.drop i = x :: xs) : L.length = i + 1 + xs.length := by
  have := congrArg List.length h
  simp at this; omega
theorem drop_next (L : List S26) (i : Nat) (x : S26) (xs : List S26) (h : L.drop i = x :: xs) : L.drop (i + 1) = xs := by
  have := congrArg List.tail h
  simpa [List.tail_drop] using this

theorem pieces_l0 (src dst proto ttl id : Int) (dont more : Bool) (off : Int) (body : List Int) (mtu : Int) (s : Nat) (s1 : 0 ≤ src ∧ src ≤ 4294967295) (s2 : 0 ≤ dst ∧ dst ≤ 4294967295) (s3 : 0 ≤ proto ∧ proto ≤ 255) (s4 : 0 ≤ ttl ∧ ttl ≤ 255) (s5 : 0 ≤ id ∧ id ≤ 65535)
    (hs : 1 ≤ s) (hs8 : s < body.length → s % 8 = 0) (hsm : 20 + (s : Int) ≤ mtu) (o1 : 0 ≤ off) (o2 : off % 8 = 0) (o3 : off + body.length ≤ 65515) (om : off ≤ 65528) (o4 : more = true → (body.length : Int) % 8 = 0) (L : List S26) (hL : L.length ≤ 70000) :
    ∀ (n i k : Nat) (all rest : List Int), rest.length < n → n + 80 ≤ k → all ++ rest = body → all.length % 8 = 0 → (rest.length ≤ s ∨ s < body.length) → L.drop i = pcs src dst proto ttl id dont more s n (off + all.length) rest →
    trunklinelaw10_IpPieces.l0 k mtu L all (i : Int) src dst proto ttl id dont more off body = some true
  | 0, i, k, all, rest, h1, h2, h3, h4, h5, h6 => by omega
  | n + 1, i, k, all, rest, h1, h2, h3, h4, h5, h6 => by
    obtain ⟨k, rfl⟩ : ∃ m, k = m + 1 := ⟨k - 1, by omega⟩
    have hlen : all.length + rest.length = body.length := by rw [← h3, List.length_append]
    rw [pcs] at h6
    by_cases h : s < rest.length
    · rw [if_pos h] at h6
      have e := rd_at _ _ _ _ h6
      have hl := drop_len _ _ _ _ h6
      have hx := drop_next _ _ _ _ h6
      have hp := pcs_pos src dst proto ttl id dont more s n (off + all.length + s) (rest.drop s) (by omega)
      have h8 := hs8 (by omega)
      have ht : (rest.take s).length = s := by simp; omega
      have hm : mayS true (off + all.length) (rest.take s).length = 0 := mayS_ok (by omega) (by omega) (by omega) (fun _ => by omega) (by omega)
      have hpl := putS_len src dst proto ttl id dont true (off + all.length) (rest.take s) hm
      have hp2 : (putS src dst proto ttl id dont true (off + all.length) (rest.take s)).2 = 0 := by unfold putS; rw [if_pos hm]
      rw [trunklinelaw10_IpPieces.l0, if_pos (by omega), if_pos (by omega), e]
      simp only
      rw [put_f src dst proto ttl id dont true _ _ s1 s2 s3 s4 s5 (by omega) (by omega) (by omega)]
      simp only [Option.bind_some]
      rw [if_pos hp2, if_neg (by omega), w64 (x := off + all.length) (by omega) (by omega), if_pos rfl, w64 (x := (i : Int) + 1) (by omega) (by omega)]
      have ih := pieces_l0 src dst proto ttl id dont more off body mtu s s1 s2 s3 s4 s5 hs hs8 hsm o1 o2 o3 om o4 L hL n (i + 1) k (all ++ rest.take s) (rest.drop s) (by simp; omega) (by omega) (by rw [List.append_assoc, List.take_append_drop, h3]) (by rw [List.length_append, ht]; omega) (by simp; omega) (by
        rw [hx, List.length_append, ht]; congr 1; omega)
      rw [show ((i + 1 : Nat) : Int) = (i : Int) + 1 by omega] at ih
      cases more
      · rw [if_neg (by decide), decide_eq_true (by omega), if_neg (by decide), if_pos trivial, if_pos (by omega)]
        exact ih
      · rw [if_pos rfl, if_neg (by decide), if_pos trivial, if_pos (by omega)]
        exact ih
    · rw [if_neg h] at h6
      have e := rd_at _ _ _ _ h6
      have hl := drop_len _ _ _ _ h6
      simp only [List.length_nil] at hl
      have hm : mayS more (off + all.length) rest.length = 0 := mayS_ok (by omega) (by omega) (by omega) (fun q => by have := o4 q; omega) (by omega)
      have hpl := putS_len src dst proto ttl id dont more (off + all.length) rest hm
      have hp2 : (putS src dst proto ttl id dont more (off + all.length) rest).2 = 0 := by unfold putS; rw [if_pos hm]
      rw [trunklinelaw10_IpPieces.l0, if_pos (by omega), if_pos (by omega), e]
      simp only
      rw [put_f src dst proto ttl id dont more _ _ s1 s2 s3 s4 s5 (by omega) (by omega) (by omega)]
      simp only [Option.bind_some]
      rw [if_pos hp2, if_neg (by omega), w64 (x := off + all.length) (by omega) (by omega), if_pos rfl, w64 (x := (i : Int) + 1) (by omega) (by omega)]
      have fin : trunklinelaw10_IpPieces.l0 k mtu L (all ++ rest) ((i : Int) + 1) src dst proto ttl id dont more off body = some true := by
        obtain ⟨k, rfl⟩ : ∃ m, k = m + 1 := ⟨k - 1, by omega⟩
        rw [trunklinelaw10_IpPieces.l0, if_neg (by omega), live_f (by omega), h3]
        simp
      cases more
      · rw [if_neg (by decide), decide_eq_false (by omega), if_neg (by decide), if_pos trivial, if_pos (by omega)]
        exact fin
      · rw [if_pos rfl, if_neg (by decide), if_pos trivial, if_pos (by omega)]
        exact fin

theorem IpPieces : trunklinelaw10_IpPieces.Pure := by
  intro a0 a1 a2 a3 a4 a5 a6 a7 l mtu h0 h1 h2 h3 h4 h7 _ hl hb hm
  have s0 := wf_u32 h0
  have s1 := wf_u32 h1
  have s2 := wf_u8 h2
  have s3 := wf_u8 h3
  have s4 := wf_u16 h4
  have s7 := wf_i64 h7
  have sm := wf_i64 hm
  refine ⟨l.length + 1000, ?_⟩
  unfold trunklinelaw10_IpPieces.f
  rw [split_f a0 a1 a2 a3 a4 a5 a6 a7 l mtu sm.2 sm.1 s7 (by omega) (by omega), live_f (by omega)]
  simp only [Option.bind_some, if_true]
  unfold splitS
  by_cases g1 : mayS a6 a7 l.length = 0
  · obtain ⟨m1, m2, m3, m4, m5⟩ := mayS_zero g1
    rw [if_pos g1]
    by_cases g2 : mtu < 28
    · rw [if_pos g2]; simp
    · rw [if_neg g2]
      by_cases g3 : (l.length : Int) ≤ mtu - 20
      · rw [if_pos g3]
        simp only
        rw [if_pos trivial]
        exact pieces_l0 a0 a1 a2 a3 a4 a5 a6 a7 l mtu (mtu - 20).toNat s0 s1 s2 s3 s4 (by omega) (by omega) (by omega) m1 m3 (by omega) m2 m4 _ (by simp) (l.length + 1) 0 _ [] l (by omega) (by omega) rfl rfl (by omega) (by
          rw [pcs_one _ _ _ _ _ _ _ _ _ _ _ (by omega) (by omega)]; simp)
      · rw [if_neg g3]
        cases a5
        · rw [if_neg (c := false = true) (by decide)]
          simp only
          rw [if_pos trivial]
          exact pieces_l0 a0 a1 a2 a3 a4 false a6 a7 l mtu ((mtu - 20) / 8 * 8).toNat s0 s1 s2 s3 s4 (by omega) (by omega) (by omega) m1 m3 (by omega) m2 m4 _ (by
            have := pcs_len a0 a1 a2 a3 a4 false a6 ((mtu - 20) / 8 * 8).toNat (l.length + 1) a7 l
            omega) (l.length + 1) 0 _ [] l (by omega) (by omega) rfl rfl (by omega) (by simp)
        · rw [if_pos rfl]; simp
  · rw [if_neg g1]
    simp only
    rw [if_neg g1]
    simp

end Go.Proofs.Ytdligcofjfdhbaa.Pure
