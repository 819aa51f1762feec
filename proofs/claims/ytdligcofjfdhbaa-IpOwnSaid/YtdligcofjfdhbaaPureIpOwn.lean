/- IpOwn: the plain law. -/
import Derived.Test.YtdligcofjfdhbaaM30
import Derived.Test.YtdligcofjfdhbaaPIpTake
import Derived.Test.YtdligcofjfdhbaaPIpSplitB
import Derived.Test.YtdligcofjfdhbaaPIpLive
import Derived.Test.YtdligcofjfdhbaaPIpPutR
namespace Go.Proofs.Ytdligcofjfdhbaa.Pure
open Go.RowKit Go.Proofs.Ytdligcofjfdhbaa.M Go.Proofs.YtdligcofjfdhbaaW.PrintWords Go.Proofs.YtdligcofjfdhbaaW.PrintLast

theorem pcs_body (src dst proto ttl id : Int) (dont more : Bool) (s : Nat) : ∀ (n : Nat) (off : Int) (rest : List Int), ∀ e ∈ pcs src dst proto ttl id dont more s n off rest, e.f8.length ≤ rest.length
  | 0, off, rest, e, he => by simp [pcs] at he
  | n + 1, off, rest, e, he => by
    rw [pcs] at he
    split at he
    · rcases List.mem_cons.mp he with rfl | he
      · simp; omega
      · have := pcs_body src dst proto ttl id dont more s n _ _ e he
        simp at this; omega
    · simp only [List.mem_singleton] at he
      subst he; exact Nat.le_refl _
theorem splitS_body (src dst proto ttl id : Int) (dont more : Bool) (off : Int) (body : List Int) (mtu : Int) : ∀ e ∈ (splitS src dst proto ttl id dont more off body mtu).1, e.f8.length ≤ body.length := by
  intro e he
  unfold splitS at he
  split at he
  · split at he
    · simp at he
    · split at he
      · simp only [List.mem_singleton] at he
        subst he; exact Nat.le_refl _
      · split at he
        · simp at he
        · exact pcs_body _ _ _ _ _ _ _ _ _ _ _ e he
  · simp at he
theorem rd_pk (L : List S26) (i : Nat) (h : i < L.length) : rd_T26 L (i : Int) = L[i] := by
  simp [rd_T26, List.getD, h]

section
variable (x9 l : List Int) (a0 a1 a2 a3 a4 : Int) (a5 a6 : Bool) (a7 : Int) (M : Nat)
theorem own_l3 (hM : M ≤ 4611686018427387904) (i : Nat) (B : Nat) (N : Nat) (hN : N ≤ 4611686018427387904)
    (ih : ∀ (k : Nat) (x : List S26), x.length = N → (∀ e ∈ x, e.f8.length ≤ M) → B ≤ k → trunklinelaw10_IpOwn.l2 k (strOfNums l) x9 (strOfNums x9) x ((i + 1 : Nat) : Int) a0 a1 a2 a3 a4 a5 a6 a7 l = some true) :
    ∀ (d j k : Nat) (x : List S26) (hi : i < x.length), x.length = N → (∀ e ∈ x, e.f8.length ≤ M) → j + d = x[i].f8.length → B + d + 1 ≤ k → trunklinelaw10_IpOwn.l3 k (strOfNums l) x9 (strOfNums x9) x (i : Int) (j : Int) a0 a1 a2 a3 a4 a5 a6 a7 l = some true
  | 0, j, k, x, hi, hx, hm, hj, hk => by
    obtain ⟨k, rfl⟩ : ∃ m, k = m + 1 := ⟨k - 1, by omega⟩
    rw [trunklinelaw10_IpOwn.l3, if_pos (by omega), if_pos (by omega), rd_pk x i hi, if_neg (by omega), w64 (by omega) (by omega), show ((i : Int) + 1) = ((i + 1 : Nat) : Int) by omega]
    exact ih k x hx hm (by omega)
  | d + 1, j, k, x, hi, hx, hm, hj, hk => by
    obtain ⟨k, rfl⟩ : ∃ m, k = m + 1 := ⟨k - 1, by omega⟩
    have h1 := hm x[i] (List.getElem_mem hi)
    rw [trunklinelaw10_IpOwn.l3, if_pos (by omega), if_pos (by omega), rd_pk x i hi, if_pos (by omega), if_pos (by omega), w64 (by omega) (by omega), show ((j : Int) + 1) = ((j + 1 : Nat) : Int) by omega, Int.toNat_natCast]
    refine own_l3 hM i B N hN ih d (j + 1) k _ (by simpa using hi) (by simpa using hx) (fun e he => ?_) (by simp; omega) (by omega)
    rcases List.mem_or_eq_of_mem_set he with h | rfl
    · exact hm e h
    · simpa using h1
theorem own_l2 (hM : M ≤ 4611686018427387904) : ∀ (d i k : Nat) (x : List S26), i + d = x.length → x.length ≤ 4611686018427387904 → (∀ e ∈ x, e.f8.length ≤ M) → d * (M + 3) + 61 ≤ k → trunklinelaw10_IpOwn.l2 k (strOfNums l) x9 (strOfNums x9) x (i : Int) a0 a1 a2 a3 a4 a5 a6 a7 l = some true
  | 0, i, k, x, hi, hx, hm, hk => by
    obtain ⟨k, rfl⟩ : ∃ m, k = m + 1 := ⟨k - 1, by omega⟩
    rw [trunklinelaw10_IpOwn.l2, if_neg (by omega), live_f (by omega), Option.bind_some, if_pos rfl, if_pos rfl]
    simp
  | d + 1, i, k, x, hi, hx, hm, hk => by
    obtain ⟨k, rfl⟩ : ∃ m, k = m + 1 := ⟨k - 1, by omega⟩
    have hil : i < x.length := by omega
    have h1 := hm x[i] (List.getElem_mem hil)
    have e : (d + 1) * (M + 3) = d * (M + 3) + (M + 3) := Nat.succ_mul d (M + 3)
    rw [trunklinelaw10_IpOwn.l2, if_pos (by omega)]
    have := own_l3 x9 l a0 a1 a2 a3 a4 a5 a6 a7 M hM i (d * (M + 3) + 61) x.length hx (fun k y hy hmy hk => own_l2 hM d (i + 1) k y (by omega) (by omega) hmy hk) x[i].f8.length 0 k x hil rfl hm (by omega) (by omega)
    exact this
end

theorem own_l1 (x1 : Int) (x5 x11 : ByteArray) (x9 : List Int) (a0 a1 a2 a3 a4 : Int) (a5 a6 : Bool) (a7 : Int) (l : List Int) (b0 b1 b2 b3 b4 : Int) (b5 b6 : Bool) (b7 : Int) : ∀ (d i k : Nat) (c : List Int), c.length ≤ 9223372036854775806 → i + d = c.length →
    trunklinelaw10_IpOwn.l1 (k + d + 1) x1 x5 x9 x11 (i : Int) a0 a1 a2 a3 a4 a5 a6 a7 l b0 b1 b2 b3 b4 b5 b6 b7 c = ((ip_Split.f k a0 a1 a2 a3 a4 a5 a6 a7 l x1).bind fun bt => (trunklinelaw10_IpOwn.l2 k x5 x9 x11 bt.1 0 a0 a1 a2 a3 a4 a5 a6 a7 l))
  | 0, i, k, c, hc, h => by
    rw [show k + 0 + 1 = k + 1 by omega, trunklinelaw10_IpOwn.l1, if_neg (by omega)]
  | d + 1, i, k, c, hc, h => by
    rw [show k + (d + 1) + 1 = (k + d + 1) + 1 by omega, trunklinelaw10_IpOwn.l1, if_pos (by omega), if_pos (by omega), w64 (by omega) (by omega), show ((i : Int) + 1) = ((i + 1 : Nat) : Int) by omega]
    exact own_l1 x1 x5 x11 x9 a0 a1 a2 a3 a4 a5 a6 a7 l b0 b1 b2 b3 b4 b5 b6 b7 d (i + 1) k _ (by simpa using hc) (by simp; omega)
theorem own_l0 (x1 : Int) (x5 : ByteArray) (a0 a1 a2 a3 a4 : Int) (a5 a6 : Bool) (a7 : Int) (l : List Int) : ∀ (d i k : Nat) (c : List Int), c.length ≤ 9223372036854775806 → i + d = c.length →
    trunklinelaw10_IpOwn.l0 (k + d + 1) x1 x5 c (i : Int) a0 a1 a2 a3 a4 a5 a6 a7 l = trunklinelaw10_IpOwn.l0 (k + 1) x1 x5 [] 0 a0 a1 a2 a3 a4 a5 a6 a7 l
  | 0, i, k, c, hc, h => by
    rw [show k + 0 + 1 = k + 1 by omega, trunklinelaw10_IpOwn.l0, if_neg (by omega)]
    rw [trunklinelaw10_IpOwn.l0, if_neg (by decide)]
  | d + 1, i, k, c, hc, h => by
    rw [show k + (d + 1) + 1 = (k + d + 1) + 1 by omega, trunklinelaw10_IpOwn.l0, if_pos (by omega), if_pos (by omega), w64 (by omega) (by omega), show ((i : Int) + 1) = ((i + 1 : Nat) : Int) by omega]
    exact own_l0 x1 x5 a0 a1 a2 a3 a4 a5 a6 a7 l d (i + 1) k _ (by simpa using hc) (by simp; omega)

theorem IpOwn : trunklinelaw10_IpOwn.Pure := by
  intro a0 a1 a2 a3 a4 a5 a6 a7 l mtu h0 h1 h2 h3 h4 h7 _ hl hb hm
  have s0 := wf_u32 h0
  have s1 := wf_u32 h1
  have s2 := wf_u8 h2
  have s3 := wf_u8 h3
  have s4 := wf_u16 h4
  have s7 := wf_i64 h7
  have sm := wf_i64 hm
  have hb' := wf_bytes hb
  obtain ⟨P, hP⟩ : ∃ P, P = (putS a0 a1 a2 a3 a4 a5 a6 a7 l) := ⟨_, rfl⟩
  have hPl : P.1.length ≤ 9223372036854775806 := by
    rw [hP]
    by_cases q : mayS a6 a7 l.length = 0
    · rw [putS_len a0 a1 a2 a3 a4 a5 a6 a7 l q]; omega
    · unfold putS; rw [if_neg q]; simp
  obtain ⟨r, rb, hr⟩ : ∃ r : Int × Int × Int × Int × Int × Bool × Bool × Int × List Int × Int, r.2.2.2.2.2.2.2.2.1.length ≤ 9223372036854775806 ∧ ∀ k, 60 ≤ k → ip_Take.f k P.1 = some r := by
    rw [hP]
    by_cases q : mayS a6 a7 l.length = 0
    · refine ⟨(a0, a1, a2, a3, a4, a5, a6, a7, l, 0), by show l.length ≤ _; omega, fun k hk => ?_⟩
      have := take_put a0 a1 a2 a3 a4 a5 a6 a7 l [] s0 s1 s2 s3 s4 hb' (by simp) (by have := mayS_zero q; simp; omega) q hk
      rw [List.append_nil] at this
      exact this
    · refine ⟨(0, 0, 0, 0, 0, false, false, 0, [], 3), by simp, fun k hk => ?_⟩
      unfold putS
      rw [if_neg q]
      unfold ip_Take.f
      rw [if_pos (by simp)]
  obtain ⟨S, hS⟩ : ∃ S, S = splitS a0 a1 a2 a3 a4 a5 a6 a7 l mtu := ⟨_, rfl⟩
  have hSl : S.1.length ≤ 65516 := by rw [hS]; exact splitS_len a0 a1 a2 a3 a4 a5 a6 a7 l mtu
  have hSb : ∀ e ∈ S.1, e.f8.length ≤ l.length := by rw [hS]; exact splitS_body a0 a1 a2 a3 a4 a5 a6 a7 l mtu
  obtain ⟨k2, hk2⟩ : ∃ k, k = S.1.length * (l.length + 3) + 61 + l.length + 70 := ⟨_, rfl⟩
  obtain ⟨k1, hk1⟩ : ∃ k, k = k2 + r.2.2.2.2.2.2.2.2.1.length + 1 := ⟨_, rfl⟩
  refine ⟨k1 + P.1.length + 1, ?_⟩
  unfold trunklinelaw10_IpOwn.f
  rw [put_f a0 a1 a2 a3 a4 a5 a6 a7 l s0 s1 s2 s3 s4 s7 (by omega) (by omega), Option.bind_some, ← hP]
  have q0 := own_l0 mtu (strOfNums l) a0 a1 a2 a3 a4 a5 a6 a7 l P.1.length 0 k1 P.1 hPl (by omega)
  rw [show ((0 : Nat) : Int) = 0 from rfl] at q0
  rw [q0, trunklinelaw10_IpOwn.l0, if_neg (by decide), rput_f a0 a1 a2 a3 a4 a5 a6 a7 l s0 s1 s2 s3 s4 s7 (by omega) (by omega), Option.bind_some, ← hP, hr _ (by omega), Option.bind_some]
  have q1 := own_l1 mtu (strOfNums l) (strOfNums P.1) P.1 a0 a1 a2 a3 a4 a5 a6 a7 l r.1 r.2.1 r.2.2.1 r.2.2.2.1 r.2.2.2.2.1 r.2.2.2.2.2.1 r.2.2.2.2.2.2.1 r.2.2.2.2.2.2.2.1 r.2.2.2.2.2.2.2.2.1.length 0 k2 r.2.2.2.2.2.2.2.2.1 rb (by omega)
  rw [show ((0 : Nat) : Int) = 0 from rfl, ← hk1] at q1
  rw [q1, split_f a0 a1 a2 a3 a4 a5 a6 a7 l mtu sm.2 sm.1 s7 (by omega) (by omega), Option.bind_some, ← hS]
  exact own_l2 P.1 l a0 a1 a2 a3 a4 a5 a6 a7 l.length (by omega) S.1.length 0 k2 S.1 (by omega) (by omega) hSb (by omega)

end Go.Proofs.Ytdligcofjfdhbaa.Pure
