/- IpEchoes: the plain law. -/
import Derived.Test.YtdligcofjfdhbaaM42
import Derived.Test.YtdligcofjfdhbaaPIpIcmpT
import Derived.Test.YtdligcofjfdhbaaPIpSame
import Derived.Test.YtdligcofjfdhbaaPIpLive
namespace Go.Proofs.Ytdligcofjfdhbaa.Pure
open Go.RowKit Go.Proofs.Ytdligcofjfdhbaa.M Go.Proofs.YtdligcofjfdhbaaW.PrintWords Go.Proofs.YtdligcofjfdhbaaW.PrintLast

theorem echo_none (a0 a1 a2 a3 a4 : Int) (a5 a6 : Bool) (a7 : Int) (k : Nat) : ip_Echo.f k a0 a1 a2 a3 a4 a5 a6 a7 [] = some (0, 0, 0, 0, 0, false, false, 0, ([] : List Int), false) := by
  unfold ip_Echo.f ip_TakeIcmp.f
  rw [if_pos (by decide), Option.bind_some, if_neg (by decide)]
theorem takeicmp_cases (L : List Int) (hr : ∀ x ∈ L, 0 ≤ x ∧ x ≤ 255) (hl : L.length ≤ 140737488351300) {k : Nat} (hk : L.length + 60 ≤ k) : ∃ t c v b e, ip_TakeIcmp.f k L = some (t, c, v, b, e) ∧ trunklineref10_TakeIcmp.f k L = some (t, c, v, b, e) ∧ (e = 0 → (0 ≤ t ∧ t ≤ 255) ∧ (0 ≤ c ∧ c ≤ 255) ∧ (0 ≤ v ∧ v ≤ 4294967295) ∧ (∀ x ∈ b, 0 ≤ x ∧ x ≤ 255) ∧ b.length + 8 = L.length) := by
  by_cases h8 : (L.length : Int) < 8
  · exact ⟨0, 0, 0, [], 3, by unfold ip_TakeIcmp.f; rw [if_pos h8], by unfold trunklineref10_TakeIcmp.f; rw [if_pos h8], fun h => absurd h (by decide)⟩
  · by_cases hn : netS L = 0
    · obtain ⟨v, hv, a, b⟩ := numS_r L hr 4 4 (by decide) (by decide) (by omega)
      have b' : v ≤ 4294967295 := by have : (256 : Int) ^ 4 = 4294967296 := by decide
                                     omega
      have := takeicmp_ok L (L.drop 8) _ _ v hr hl (by omega) hn rfl rfl hv a b' rfl hk
      refine ⟨_, _, _, _, _, this.1, this.2, fun _ => ⟨?_, ?_, ⟨a, b'⟩, fun x hx => hr x (List.mem_of_mem_drop hx), by simp; omega⟩⟩
      · rw [show (0 : Int) = ((0 : Nat) : Int) from rfl, rd_get L 0 (by omega)]; exact hr _ (List.getElem_mem _)
      · rw [show (1 : Int) = ((1 : Nat) : Int) from rfl, rd_get L 1 (by omega)]; exact hr _ (List.getElem_mem _)
    · refine ⟨0, 0, 0, [], 5, ?_, ?_, fun h => absurd h (by decide)⟩
      · unfold ip_TakeIcmp.f
        rw [if_neg h8, net_f L hr (by omega) (by omega), Option.bind_some, if_neg hn]
      · unfold trunklineref10_TakeIcmp.f
        rw [if_neg h8, rnet_f L hr (by omega) (by omega), Option.bind_some, if_neg hn]

/-- What both tell, and that an answer is none. -/
theorem echo_both (a0 a1 a2 a3 a4 : Int) (a5 a6 : Bool) (a7 : Int) (L : List Int) (hr : ∀ x ∈ L, 0 ≤ x ∧ x ≤ 255) (hl : L.length ≤ 140737488351240) (K : Nat) (hk : L.length + 300 ≤ K) :
    ∃ r r', ip_Echo.f (K + 1) a0 a1 a2 a3 a4 a5 a6 a7 L = some r ∧ trunklineref10_Echo.f (K + 1) a0 a1 a2 a3 a4 a5 a6 a7 L = some r ∧
      ip_Echo.f (K + 1) r.1 r.2.1 r.2.2.1 r.2.2.2.1 r.2.2.2.2.1 r.2.2.2.2.2.1 r.2.2.2.2.2.2.1 r.2.2.2.2.2.2.2.1 r.2.2.2.2.2.2.2.2.1 = some r' ∧ r'.2.2.2.2.2.2.2.2.2 = false := by
  obtain ⟨t, c, v, b, e, h1, _, _⟩ := takeicmp_cases L hr (by omega) (k := K + 1) (by omega)
  obtain ⟨t2, c2, v2, b2, e2, h1', h2', ho⟩ := takeicmp_cases L hr (by omega) (k := K) (by omega)
  have hup : ip_TakeIcmp.f (K + 1) L = some (t2, c2, v2, b2, e2) := ip_TakeIcmp.mono _ _ _ h1'
  rw [hup] at h1
  obtain ⟨rfl, rfl, rfl, rfl, rfl⟩ : t2 = t ∧ c2 = c ∧ v2 = v ∧ b2 = b ∧ e2 = e := by simpa using h1
  have no : ∀ (x : Int), ip_Echo.f (K + 1) a0 a1 a2 a3 a4 a5 a6 a7 L = some (0, 0, 0, 0, 0, false, false, 0, ([] : List Int), false) → trunklineref10_Echo.f (K + 1) a0 a1 a2 a3 a4 a5 a6 a7 L = some (0, 0, 0, 0, 0, false, false, 0, ([] : List Int), false) → ∃ r r', ip_Echo.f (K + 1) a0 a1 a2 a3 a4 a5 a6 a7 L = some r ∧ trunklineref10_Echo.f (K + 1) a0 a1 a2 a3 a4 a5 a6 a7 L = some r ∧
      ip_Echo.f (K + 1) r.1 r.2.1 r.2.2.1 r.2.2.2.1 r.2.2.2.2.1 r.2.2.2.2.2.1 r.2.2.2.2.2.2.1 r.2.2.2.2.2.2.2.1 r.2.2.2.2.2.2.2.2.1 = some r' ∧ r'.2.2.2.2.2.2.2.2.2 = false :=
    fun _ p q => ⟨_, _, p, q, echo_none _ _ _ _ _ _ _ _ _, rfl⟩
  have P : ip_Echo.f (K + 1) a0 a1 a2 a3 a4 a5 a6 a7 L = ip_Echo.f (K + 1) a0 a1 a2 a3 a4 a5 a6 a7 L := rfl
  conv at P =>
    rhs
    unfold ip_Echo.f
    rw [hup, Option.bind_some]
  have Q : ∀ x, trunklineref10_Echo.j0 (K + 1) x a0 a1 a2 a3 a4 a5 a6 a7 L = trunklineref10_Echo.j0 (K + 1) x a0 a1 a2 a3 a4 a5 a6 a7 L := fun x => rfl
  conv at Q =>
    intro x
    rhs
    rw [trunklineref10_Echo.j0, h2', Option.bind_some]
  dsimp only at P Q
  have R : trunklineref10_Echo.f (K + 1) a0 a1 a2 a3 a4 a5 a6 a7 L = trunklineref10_Echo.f (K + 1) a0 a1 a2 a3 a4 a5 a6 a7 L := rfl
  conv at R =>
    rhs
    unfold trunklineref10_Echo.f
    rw [Q true, Q (a2 != 1)]
  by_cases c7 : a7 = 0
  · by_cases c6 : a6 = true
    · refine no 0 ?_ ?_
      · rw [P]; simp [c7, c6]
      · rw [R, if_pos c7, if_pos c6, if_pos rfl]
    · by_cases cp : a2 = 1
      · by_cases ce : e2 = 0
        · rw [if_pos ce, if_pos c7, if_neg c6, if_pos cp] at P
          rw [if_pos c7, if_neg c6, if_neg (c := (a2 != 1) = true) (by simpa using cp), if_pos ce] at R
          by_cases ct : t2 = 8
          · rw [if_pos ct] at P R
            by_cases cc : c2 = 0
            · rw [if_pos cc] at P R
              obtain ⟨ht, hc, hv, hb, hbl⟩ := ho ce
              have G := puticmp_f 0 c2 v2 b2 (by decide) hc hv hb (by omega) (k := K + 1) (by omega)
              have G2 := rputicmp_f 0 c2 v2 b2 (by decide) hc hv hb (by omega) (k := K) (by omega)
              unfold ip_back.f at P
              rw [G, Option.bind_some, Option.bind_some] at P
              rw [G2, Option.bind_some] at R
              refine ⟨_, (0, 0, 0, 0, 0, false, false, 0, ([] : List Int), false), P, R, ?_, rfl⟩
              dsimp only
              have T := takeicmp_put 0 c2 v2 b2 (by decide) hc hv hb (by omega) (k := K + 1) (by omega)
              unfold ip_Echo.f
              rw [T, Option.bind_some]
              dsimp only
              rw [if_pos rfl, if_pos rfl, if_neg (by decide), if_pos rfl, if_neg (by decide)]
            · rw [if_neg cc] at P R
              exact no 0 P R
          · rw [if_neg ct] at P R
            exact no 0 P R
        · refine no 0 ?_ ?_
          · rw [P, if_neg ce]
          · rw [R, if_pos c7, if_neg c6, if_neg (c := (a2 != 1) = true) (by simpa using cp), if_neg ce]
      · refine no 0 ?_ ?_
        · rw [P]; simp [c7, c6, cp]
        · rw [R, if_pos c7, if_neg c6, if_pos (c := (a2 != 1) = true) (by simpa using cp)]
  · refine no 0 ?_ ?_
    · rw [P]; simp [c7]
    · rw [R, if_neg c7, if_pos rfl]

theorem IpEchoes : trunklinelaw10_IpEchoes.Pure := by
  intro a0 a1 a2 a3 a4 a5 a6 a7 L t c rest body put h0 h1 h2 h3 h4 h7 _ hl hb ht hc hr _ hl2 hb2
  have ht' := wf_u8 ht
  have hc' := wf_u8 hc
  have hr' := wf_u32 hr
  have hb' := wf_bytes hb
  have hb2' := wf_bytes hb2
  have hlen := icmpS_len t c rest body
  obtain ⟨K, hK⟩ : ∃ K, K = L.length + body.length + 400 := ⟨_, rfl⟩
  obtain ⟨k, hk⟩ : ∃ k, k = K + 1 := ⟨_, rfl⟩
  refine ⟨k, ?_⟩
  unfold trunklinelaw10_IpEchoes.f
  cases put
  · obtain ⟨r, r', p1, p2, p3, p4⟩ := echo_both a0 a1 a2 a3 a4 a5 a6 a7 L hb' (by omega) K (by omega)
    rw [← hk] at p1 p2 p3
    rw [if_neg (by decide), p1, Option.bind_some, p2, Option.bind_some, if_neg (by simp), Same_refl, Option.bind_some, if_pos rfl, p3, Option.bind_some, live_f (by omega), Option.bind_some, if_pos rfl, p4]
    rfl
  · obtain ⟨r, r', p1, p2, p3, p4⟩ := echo_both a0 a1 1 a3 a4 a5 a6 a7 (icmpS t c rest body) (icmpS_rng t c rest body ht' hc' hb2') (by omega) K (by omega)
    rw [← hk] at p1 p2 p3
    rw [if_pos rfl, rputicmp_f t c rest body ht' hc' hr' hb2' (by omega) (by omega), Option.bind_some, p1, Option.bind_some, p2, Option.bind_some, if_neg (by simp), Same_refl, Option.bind_some, if_pos rfl, p3, Option.bind_some, live_f (by omega), Option.bind_some, if_pos rfl, p4]
    rfl

end Go.Proofs.Ytdligcofjfdhbaa.Pure
