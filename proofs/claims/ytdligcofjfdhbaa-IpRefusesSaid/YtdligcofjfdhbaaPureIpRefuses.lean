/- IpRefuses: the plain law. -/
import Derived.Test.YtdligcofjfdhbaaM39
import Derived.Test.YtdligcofjfdhbaaPIpIcmp
import Derived.Test.YtdligcofjfdhbaaPIpLive
namespace Go.Proofs.Ytdligcofjfdhbaa.Pure
open Go.RowKit Go.Proofs.Ytdligcofjfdhbaa.M Go.Proofs.YtdligcofjfdhbaaW.PrintWords Go.Proofs.YtdligcofjfdhbaaW.PrintLast Go.Proofs.YtdligcofjfdhbaaW.PrintMore
set_option linter.unusedVariables false
set_option linter.unusedSimpArgs false

/-- No packet, and why. -/
def nopkt (e : Int) : Int × Int × Int × Int × Int × Bool × Bool × Int × List Int × Int := (0, 0, 0, 0, 0, false, false, 0, [], e)
def kindB (proto : Int) (body : List Int) : Bool := decide (proto = 1 ∧ (body.length = 0 ∨ (rd body 0 ≠ 0 ∧ rd body 0 ≠ 8)))
/-- What Refuse tells of a packet that may be. -/
def refS (src dst proto off : Int) (body b : List Int) (code mtu : Int) : Int × Int × Int × Int × Int × Bool × Bool × Int × List Int × Int :=
  if code < 0 ∨ code > 15 ∨ mtu < 0 ∨ mtu > 65535 then nopkt 2 else if off ≠ 0 ∨ kindB proto body = true then nopkt 11 else (dst, src, 1, 64, 0, false, false, 0, icmpS 3 code mtu (b.take 28), 0)

theorem mn28 (b : List Int) (h : 20 ≤ b.length) : b.take (mn (b.length : Int) 28).toNat = b.take 28 := by
  unfold mn
  split
  · rfl
  · rw [Int.toNat_natCast, List.take_length, List.take_of_length_le (by omega)]
theorem mn28' (b : List Int) (h : 20 ≤ b.length) : 0 ≤ mn (b.length : Int) 28 ∧ mn (b.length : Int) 28 ≤ b.length := by
  unfold mn; split <;> omega
theorem back28 (src dst proto ttl id : Int) (dont more : Bool) (off : Int) (body b : List Int) (code mtu : Int) (hb : ∀ x ∈ b, 0 ≤ x ∧ x ≤ 255) (c0 : 0 ≤ code) (c1 : code ≤ 15) (m0 : 0 ≤ mtu) (m1 : mtu ≤ 65535) (h : 20 ≤ b.length) {k : Nat} (hk : 80 ≤ k) :
    ip_back.f k src dst proto ttl id dont more off body 0 3 (code % 256) (mtu % 4294967296) (b.take (mn (b.length : Int) 28).toNat) = some (dst, src, 1, 64, 0, false, false, 0, icmpS 3 code mtu (b.take 28)) := by
  unfold ip_back.f
  rw [mn28 b h, show code % 256 = code by omega, show mtu % 4294967296 = mtu by omega, puticmp_f 3 code mtu _ (by omega) (by omega) (by omega) (fun x hx => hb x (List.mem_of_mem_take hx)) (by simp; omega) (by simp; omega)]
  rfl
theorem ref_j0 (src dst proto ttl id : Int) (dont more : Bool) (off : Int) (body b : List Int) (code mtu : Int) (hb : ∀ x ∈ b, 0 ≤ x ∧ x ≤ 255) (h : 20 ≤ b.length) {k : Nat} (hk : 80 ≤ k) (y : Bool) (hy : y = true ↔ (code < 0 ∨ code > 15 ∨ mtu < 0 ∨ mtu > 65535)) :
    ip_Refuse.j0 (k + 1) code mtu b y src dst proto ttl id dont more off body = some (refS src dst proto off body b code mtu) := by
  rw [ip_Refuse.j0]
  unfold refS
  have m := mn28' b h
  by_cases c : code < 0 ∨ code > 15 ∨ mtu < 0 ∨ mtu > 65535
  · rw [if_pos (hy.mpr c), if_pos c]; rfl
  · rw [if_neg (fun q => c (hy.mp q)), if_neg c]
    have bk := fun (p : Int) => back28 src dst p ttl id dont more off body b code mtu hb (by omega) (by omega) (by omega) (by omega) h hk
    by_cases c1 : off = 0
    · rw [if_pos c1]
      subst c1
      by_cases c2 : proto = 1
      · rw [if_pos c2]
        by_cases c3 : body.length = 0
        · rw [if_pos (by omega), if_pos (.inr (by simp [kindB, c2, c3]))]; rfl
        · rw [if_neg (by omega), if_pos (by omega)]
          by_cases c4 : rd body 0 = 0
          · rw [if_pos c4, if_pos m.1, if_pos m.2, bk, if_neg (by simp [kindB, c3, c4])]; rfl
          · rw [if_neg c4]
            by_cases c5 : rd body 0 = 8
            · rw [if_pos c5, if_pos m.1, if_pos m.2, bk, if_neg (by simp [kindB, c3, c5])]; rfl
            · rw [if_neg c5, if_pos (.inr (by simp [kindB, c2, c4, c5]))]; rfl
      · rw [if_neg c2, if_pos m.1, if_pos m.2, bk, if_neg (by simp [kindB, c2])]; rfl
    · rw [if_neg c1, if_pos (.inl c1)]; rfl
theorem rref_j1 (src dst proto ttl id : Int) (dont more : Bool) (off : Int) (body b : List Int) (code mtu : Int) (hb : ∀ x ∈ b, 0 ≤ x ∧ x ≤ 255) (c0 : 0 ≤ code) (c1 : code ≤ 15) (m0 : 0 ≤ mtu) (m1 : mtu ≤ 65535) {k : Nat} (hk : 80 ≤ k) :
    trunklineref10_Refuse.j1 (k + 1) code mtu b false src dst proto ttl id dont more off body = some (dst, src, 1, 64, 0, false, false, 0, icmpS 3 code mtu (b.take 28), 0) := by
  rw [trunklineref10_Refuse.j1, if_neg (by decide), show code % 256 = code by omega, show mtu % 4294967296 = mtu by omega]
  by_cases h : (b.length : Int) > 28
  · rw [if_pos h, if_pos (by omega), show (28 : Int).toNat = 28 from rfl, rputicmp_f 3 code mtu _ (by omega) (by omega) (by omega) (fun x hx => hb x (List.mem_of_mem_take hx)) (by simp; omega) (by simp; omega)]
    rfl
  · rw [if_neg h, rputicmp_f 3 code mtu _ (by omega) (by omega) (by omega) hb (by omega) (by omega), List.take_of_length_le (by omega)]
    rfl
theorem rref_j1t (src dst proto ttl id : Int) (dont more : Bool) (off : Int) (body b : List Int) (code mtu : Int) {k : Nat} : trunklineref10_Refuse.j1 (k + 1) code mtu b true src dst proto ttl id dont more off body = some (nopkt 11) := by
  rw [trunklineref10_Refuse.j1, if_pos rfl]; rfl
theorem rref_j0 (src dst proto ttl id : Int) (dont more : Bool) (off : Int) (body b : List Int) (code mtu : Int) (hb : ∀ x ∈ b, 0 ≤ x ∧ x ≤ 255) {k : Nat} (hk : 80 ≤ k) (y : Bool) (hy : y = true ↔ (code < 0 ∨ code > 15 ∨ mtu < 0 ∨ mtu > 65535)) :
    trunklineref10_Refuse.j0 (k + 2) code mtu b y src dst proto ttl id dont more off body = some (refS src dst proto off body b code mtu) := by
  rw [trunklineref10_Refuse.j0]
  unfold refS
  by_cases c : code < 0 ∨ code > 15 ∨ mtu < 0 ∨ mtu > 65535
  · rw [if_pos (hy.mpr c), if_pos c]; rfl
  · rw [if_neg (fun q => c (hy.mp q)), if_neg c]
    have bk := fun (p : Int) => rref_j1 src dst p ttl id dont more off body b code mtu hb (by omega) (by omega) (by omega) (by omega) hk
    by_cases c1 : off = 0
    · rw [if_pos c1]
      subst c1
      by_cases c2 : proto = 1
      · rw [if_pos c2]
        by_cases c3 : body.length = 0
        · rw [if_pos (by omega), if_pos (.inr (by simp [kindB, c2, c3])), rref_j1t]
        · rw [if_neg (by omega), if_pos (by omega)]
          by_cases c4 : rd body 0 = 0
          · rw [if_pos c4, bk, if_neg (by simp [kindB, c3, c4])]
          · rw [if_neg c4]
            by_cases c5 : rd body 0 = 8
            · rw [show (rd body 0 != 8) = false by simp [c5], bk, if_neg (by simp [kindB, c3, c5])]
            · rw [show (rd body 0 != 8) = true by simp [c5], rref_j1t, if_pos (.inr (by simp [kindB, c2, c4, c5]))]
      · rw [if_neg c2, bk, if_neg (by simp [kindB, c2])]
    · rw [if_neg c1, rref_j1t, if_pos (.inl c1)]

def refuseS (src dst proto ttl id : Int) (dont more : Bool) (off : Int) (body : List Int) (code mtu : Int) : Int × Int × Int × Int × Int × Bool × Bool × Int × List Int × Int :=
  if mayS more off body.length = 0 then refS src dst proto off body (putS src dst proto ttl id dont more off body).1 code mtu else nopkt (mayS more off body.length)
theorem putS_rng (src dst proto ttl id : Int) (dont more : Bool) (off : Int) (body : List Int) (hb : ∀ x ∈ body, 0 ≤ x ∧ x ≤ 255) : ∀ x ∈ (putS src dst proto ttl id dont more off body).1, 0 ≤ x ∧ x ≤ 255 := by
  intro x hx
  unfold putS at hx
  split at hx
  · simp only [List.mem_append] at hx
    rcases hx with h | h | h | h
    · exact headA_rng _ _ _ _ _ x h
    · exact bytesL_range _ _ x h
    · exact headE_rng _ _ x h
    · exact hb x h
  · simp at hx
theorem refuse_f (src dst proto ttl id : Int) (dont more : Bool) (off : Int) (body : List Int) (code mtu : Int) (s1 : 0 ≤ src ∧ src ≤ 4294967295) (s2 : 0 ≤ dst ∧ dst ≤ 4294967295) (s3 : 0 ≤ proto ∧ proto ≤ 255) (s4 : 0 ≤ ttl ∧ ttl ≤ 255) (s5 : 0 ≤ id ∧ id ≤ 65535) (ho : -9223372036854775808 ≤ off ∧ off ≤ 9223372036854775807) (hl : body.length ≤ 140737488355328) (hb : ∀ x ∈ body, 0 ≤ x ∧ x ≤ 255) :
    ip_Refuse.f 100 src dst proto ttl id dont more off body code mtu = some (refuseS src dst proto ttl id dont more off body code mtu) := by
  unfold ip_Refuse.f refuseS
  rw [put_f src dst proto ttl id dont more off body s1 s2 s3 s4 s5 ho hl (by omega)]
  simp only [Option.bind_some]
  by_cases h : mayS more off body.length = 0
  · have e2 : (putS src dst proto ttl id dont more off body).2 = 0 := by unfold putS; rw [if_pos h]
    have hlen := putS_len src dst proto ttl id dont more off body h
    have hr := putS_rng src dst proto ttl id dont more off body hb
    have J := fun y hy => ref_j0 src dst proto ttl id dont more off body _ code mtu hr (by omega) (k := 99) (by omega) y hy
    rw [if_pos e2, if_pos h]
    by_cases c1 : code < 0
    · rw [if_pos c1]; exact J _ (by simp [c1])
    · rw [if_neg c1]
      by_cases c2 : code > 15
      · rw [if_pos c2]; exact J _ (by simp [c2])
      · rw [if_neg c2]
        by_cases c3 : mtu < 0
        · rw [if_pos c3]; exact J _ (by simp [c3])
        · rw [if_neg c3]
          refine J _ ?_
          rw [decide_eq_true_iff]; omega
  · have e2 : (putS src dst proto ttl id dont more off body).2 = mayS more off body.length := by unfold putS; rw [if_neg h]
    rw [if_neg (by rw [e2]; exact h), if_neg h, e2]; rfl
theorem rrefuse_f (src dst proto ttl id : Int) (dont more : Bool) (off : Int) (body : List Int) (code mtu : Int) (s1 : 0 ≤ src ∧ src ≤ 4294967295) (s2 : 0 ≤ dst ∧ dst ≤ 4294967295) (s3 : 0 ≤ proto ∧ proto ≤ 255) (s4 : 0 ≤ ttl ∧ ttl ≤ 255) (s5 : 0 ≤ id ∧ id ≤ 65535) (ho : -9223372036854775808 ≤ off ∧ off ≤ 9223372036854775807) (hl : body.length ≤ 140737488355328) (hb : ∀ x ∈ body, 0 ≤ x ∧ x ≤ 255) :
    trunklineref10_Refuse.f 100 src dst proto ttl id dont more off body code mtu = some (refuseS src dst proto ttl id dont more off body code mtu) := by
  unfold trunklineref10_Refuse.f refuseS
  rw [rput_f src dst proto ttl id dont more off body s1 s2 s3 s4 s5 ho hl (by omega)]
  simp only [Option.bind_some]
  by_cases h : mayS more off body.length = 0
  · have e2 : (putS src dst proto ttl id dont more off body).2 = 0 := by unfold putS; rw [if_pos h]
    have hr := putS_rng src dst proto ttl id dont more off body hb
    have J := fun y hy => rref_j0 src dst proto ttl id dont more off body _ code mtu hr (k := 98) (by omega) y hy
    rw [if_pos e2, if_pos h]
    by_cases c1 : code < 0
    · rw [if_pos c1]; exact J _ (by simp [c1])
    · rw [if_neg c1]
      by_cases c2 : code > 15
      · rw [if_pos c2]; exact J _ (by simp [c2])
      · rw [if_neg c2]
        by_cases c3 : mtu < 0
        · rw [if_pos c3]; exact J _ (by simp [c3])
        · rw [if_neg c3]
          refine J _ ?_
          rw [decide_eq_true_iff]; omega
  · have e2 : (putS src dst proto ttl id dont more off body).2 = mayS more off body.length := by unfold putS; rw [if_neg h]
    rw [if_neg (by rw [e2]; exact h), if_neg h, e2]; rfl
theorem Same_self (a0 a1 a2 a3 a4 : Int) (a5 a6 : Bool) (a7 : Int) (l : List Int) : trunklineref10_Same.f a0 a1 a2 a3 a4 a5 a6 a7 l a0 a1 a2 a3 a4 a5 a6 a7 l = some true := by
  unfold trunklineref10_Same.f; simp

/-- What is done with Refuse's answer. -/
theorem refuses_j0 (x1 x2 e : Int) (p0 p1 p2 p3 p4 : Int) (p5 p6 : Bool) (p7 : Int) (p8 : List Int) (h : e = 0 → ∃ r, ip_Refuse.f 100 p0 p1 p2 p3 p4 p5 p6 p7 p8 x1 x2 = some r ∧ r.2.2.2.2.2.2.2.2.2 = 11) : trunklinelaw10_IpRefuses.j0 101 x1 x2 e false p0 p1 p2 p3 p4 p5 p6 p7 p8 = some true := by
  rw [trunklinelaw10_IpRefuses.j0, if_neg (by decide)]
  by_cases c : e = 0
  · obtain ⟨r, hr, h11⟩ := h c
    rw [if_pos c, hr, live_f (by omega)]
    simp [h11]
  · rw [if_neg c, live_f (by omega)]
    rfl
theorem refuse_up (src dst proto ttl id : Int) (dont more : Bool) (off : Int) (body : List Int) (code mtu : Int) {r} (h : ip_Refuse.f 100 src dst proto ttl id dont more off body code mtu = some r) {k : Nat} (hk : 100 ≤ k) : ip_Refuse.f k src dst proto ttl id dont more off body code mtu = some r :=
  up_ (fun j => ip_Refuse.mono src dst proto ttl id dont more off body code mtu j) hk h
theorem rrefuse_up (src dst proto ttl id : Int) (dont more : Bool) (off : Int) (body : List Int) (code mtu : Int) {r} (h : trunklineref10_Refuse.f 100 src dst proto ttl id dont more off body code mtu = some r) {k : Nat} (hk : 100 ≤ k) : trunklineref10_Refuse.f k src dst proto ttl id dont more off body code mtu = some r :=
  up_ (fun j => trunklineref10_Refuse.mono src dst proto ttl id dont more off body code mtu j) hk h

theorem again (src dst proto ttl id : Int) (dont more : Bool) (off : Int) (body : List Int) (code mtu : Int) (s1 : 0 ≤ src ∧ src ≤ 4294967295) (s2 : 0 ≤ dst ∧ dst ≤ 4294967295) (hb : ∀ x ∈ body, 0 ≤ x ∧ x ≤ 255) (R : Int × Int × Int × Int × Int × Bool × Bool × Int × List Int × Int) (hR : R = refuseS src dst proto ttl id dont more off body code mtu) (h : R.2.2.2.2.2.2.2.2.2 = 0) :
    ∃ r, ip_Refuse.f 100 R.1 R.2.1 R.2.2.1 R.2.2.2.1 R.2.2.2.2.1 R.2.2.2.2.2.1 R.2.2.2.2.2.2.1 R.2.2.2.2.2.2.2.1 R.2.2.2.2.2.2.2.2.1 code mtu = some r ∧ r.2.2.2.2.2.2.2.2.2 = 11 := by
  unfold refuseS at hR
  by_cases hm : mayS more off body.length = 0
  · rw [if_pos hm] at hR
    unfold refS at hR
    by_cases c : code < 0 ∨ code > 15 ∨ mtu < 0 ∨ mtu > 65535
    · rw [if_pos c] at hR; subst hR; exact absurd h (by decide)
    · rw [if_neg c] at hR
      by_cases c2 : off ≠ 0 ∨ kindB proto body = true
      · rw [if_pos c2] at hR; subst hR; exact absurd h (by decide)
      · rw [if_neg c2] at hR
        have hr := putS_rng src dst proto ttl id dont more off body hb
        generalize (putS src dst proto ttl id dont more off body).1 = b at hR hr
        have hMl := icmpS_len 3 code mtu (b.take 28)
        have hMr := icmpS_rng 3 code mtu (b.take 28) (by omega) (by omega) (fun x hx => hr x (List.mem_of_mem_take hx))
        have hM0 : rd (icmpS 3 code mtu (b.take 28)) 0 = 3 := rfl
        generalize icmpS 3 code mtu (b.take 28) = M at hR hMl hMr hM0
        subst hR
        have hl28 : (b.take 28).length ≤ 28 := by simp; omega
        refine ⟨_, refuse_f dst src 1 64 0 false false 0 M code mtu s2 s1 (by omega) (by omega) (by omega) (by omega) (by omega) hMr, ?_⟩
        unfold refuseS
        have m0 : mayS false 0 (M.length : Int) = 0 := by
          unfold mayS; rw [if_neg (by simp), if_neg (by omega)]
        have k1 : kindB 1 M = true := by
          unfold kindB
          rw [decide_eq_true_iff]
          exact ⟨rfl, .inr ⟨by rw [hM0]; decide, by rw [hM0]; decide⟩⟩
        rw [if_pos m0]
        unfold refS
        rw [if_neg c, if_pos (.inr k1)]
        rfl
  · rw [if_neg hm] at hR; subst hR; exact absurd h hm

theorem IpRefuses : trunklinelaw10_IpRefuses.Pure := by
  intro a0 a1 a2 a3 a4 a5 a6 a7 l code mtu h0 h1 h2 h3 h4 h7 _ hl hb hc hm
  have s0 := wf_u32 h0
  have s1 := wf_u32 h1
  have s2 := wf_u8 h2
  have s3 := wf_u8 h3
  have s4 := wf_u16 h4
  have s7 := wf_i64 h7
  have hb' := wf_bytes hb
  refine ⟨101, ?_⟩
  unfold trunklinelaw10_IpRefuses.f
  rw [refuse_up _ _ _ _ _ _ _ _ _ _ _ (refuse_f a0 a1 a2 a3 a4 a5 a6 a7 l code mtu s0 s1 s2 s3 s4 s7 (by omega) hb') (by omega), rrefuse_up _ _ _ _ _ _ _ _ _ _ _ (rrefuse_f a0 a1 a2 a3 a4 a5 a6 a7 l code mtu s0 s1 s2 s3 s4 s7 (by omega) hb') (by omega)]
  have A := again a0 a1 a2 a3 a4 a5 a6 a7 l code mtu s0 s1 hb' _ rfl
  generalize refuseS a0 a1 a2 a3 a4 a5 a6 a7 l code mtu = R at A
  rw [Option.bind_some, Option.bind_some, if_pos rfl, Same_self, Option.bind_some]
  exact refuses_j0 code mtu _ _ _ _ _ _ _ _ _ _ A

end Go.Proofs.Ytdligcofjfdhbaa.Pure
