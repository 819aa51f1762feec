/- Messages taken: what ip.TakeIcmp and the document's own tell, in plain Lean. -/
import Derived.Test.YtdligcofjfdhbaaM34
import Derived.Test.YtdligcofjfdhbaaM33
import Derived.Test.YtdligcofjfdhbaaPIpIcmp
import Derived.Test.YtdligcofjfdhbaaPIpTake
import Derived.Test.YtdligcofjfdhbaaPIpNum
namespace Go.Proofs.Ytdligcofjfdhbaa.Pure
open Go.RowKit Go.Proofs.Ytdligcofjfdhbaa.M Go.Proofs.YtdligcofjfdhbaaW.PrintWords Go.Proofs.YtdligcofjfdhbaaW.PrintLast Go.Proofs.YtdligcofjfdhbaaW.PrintMore
set_option linter.unusedVariables false
set_option linter.unusedSimpArgs false

theorem takeicmp_ok (L body : List Int) (t c rest : Int) (hr : ∀ x ∈ L, 0 ≤ x ∧ x ≤ 255) (hl : L.length ≤ 140737488351300) (h8 : 8 ≤ L.length) (hn : netS L = 0) (h0 : rd L 0 = t) (h1 : rd L 1 = c) (h4 : numS L 4 4 = (rest, 0)) (r0 : 0 ≤ rest) (r1 : rest ≤ 4294967295) (hb : L.drop 8 = body) {k : Nat} (hk : L.length + 60 ≤ k) :
    ip_TakeIcmp.f k L = some (t, c, rest, body, 0) ∧ trunklineref10_TakeIcmp.f k L = some (t, c, rest, body, 0) := by
  have hbl : body.length ≤ 140737488351300 := by rw [← hb]; simp; omega
  have e : rest % 4294967296 = rest := by omega
  constructor
  · unfold ip_TakeIcmp.f
    rw [if_neg (by omega), net_f L hr (by omega) (by omega), Option.bind_some, if_pos hn, num_f L 4 4 (by omega) hr (by decide) (by decide) (by omega), h4, Option.bind_some, if_pos (by omega), if_pos (by omega), if_pos (by omega), hb, clone_t body (by omega), Option.bind_some, h0, h1, e]
  · unfold trunklineref10_TakeIcmp.f
    rw [if_neg (by omega), rnet_f L hr (by omega) (by omega), Option.bind_some, if_pos hn, if_pos (by omega), if_pos (by omega), rnumber_f L hr (by omega) 4 4 rest (by decide) (by decide) h4 r0 r1 (by omega), Option.bind_some, Option.bind_some, if_pos (by omega), Option.bind_some, hb, if_pos (by simp; omega), h0, h1, e]
    rfl
theorem takeicmp_both (L : List Int) (hr : ∀ x ∈ L, 0 ≤ x ∧ x ≤ 255) (hl : L.length ≤ 140737488351300) {k : Nat} (hk : L.length + 60 ≤ k) : ∃ r, ip_TakeIcmp.f k L = some r ∧ trunklineref10_TakeIcmp.f k L = some r := by
  by_cases h8 : (L.length : Int) < 8
  · exact ⟨_, by unfold ip_TakeIcmp.f; rw [if_pos h8], by unfold trunklineref10_TakeIcmp.f; rw [if_pos h8]⟩
  · by_cases hn : netS L = 0
    · obtain ⟨v, hv, a, b⟩ := numS_r L hr 4 4 (by decide) (by decide) (by omega)
      have b' : v ≤ 4294967295 := by have : (256 : Int) ^ 4 = 4294967296 := by decide
                                     omega
      have := takeicmp_ok L (L.drop 8) _ _ v hr hl (by omega) hn rfl rfl hv a b' rfl hk
      exact ⟨_, this⟩
    · refine ⟨(0, 0, 0, [], 5), ?_, ?_⟩
      · unfold ip_TakeIcmp.f
        rw [if_neg h8, net_f L hr (by omega) (by omega), Option.bind_some, if_neg hn]
      · unfold trunklineref10_TakeIcmp.f
        rw [if_neg h8, rnet_f L hr (by omega) (by omega), Option.bind_some, if_neg hn]
theorem takeicmp_put (t c rest : Int) (body : List Int) (ht : 0 ≤ t ∧ t ≤ 255) (hc : 0 ≤ c ∧ c ≤ 255) (hr : 0 ≤ rest ∧ rest ≤ 4294967295) (hb : ∀ x ∈ body, 0 ≤ x ∧ x ≤ 255) (hl : body.length ≤ 140737488351232) {k : Nat} (hk : body.length + 80 ≤ k) :
    ip_TakeIcmp.f k (icmpS t c rest body) = some (t, c, rest, body, 0) := by
  have hA : ∀ x ∈ [t, c], 0 ≤ x ∧ x ≤ 255 := fun x hx => icmp_rng t c rest body ht hc hb x (List.mem_append_left _ hx)
  have hE : ∀ x ∈ bytesL rest 4 ++ body, 0 ≤ x ∧ x ≤ 255 := fun x hx => icmp_rng t c rest body ht hc hb x (List.mem_append_right _ hx)
  have hz := netS_of (net_zero [t, c] (bytesL rest 4 ++ body) (by simp) hA hE)
  have hlen := icmpS_len t c rest body
  have h4 : numS (icmpS t c rest body) 4 4 = (rest, 0) := by
    have := numS_seg ([t, c] ++ bytesL (netS ([t, c] ++ (bytesL rest 4 ++ body))) 2) (bytesL rest 4) body 4 4 (by simp [bytesL_length]) (by rw [bytesL_length]; rfl) (by decide) (by decide)
    rw [num4 hr.1 hr.2] at this
    rw [← this]
    unfold icmpS
    rw [List.append_assoc]
  have hd : (icmpS t c rest body).drop 8 = body := by
    unfold icmpS
    rw [show [t, c] ++ (bytesL (netS ([t, c] ++ (bytesL rest 4 ++ body))) 2 ++ (bytesL rest 4 ++ body)) = ([t, c] ++ (bytesL (netS ([t, c] ++ (bytesL rest 4 ++ body))) 2 ++ bytesL rest 4)) ++ body by simp]
    exact List.drop_left' (by simp [bytesL_length])
  exact (takeicmp_ok (icmpS t c rest body) body t c rest (icmpS_rng t c rest body ht hc hb) (by omega) (by omega) hz rfl rfl h4 hr.1 hr.2 hd (by omega)).1

end Go.Proofs.Ytdligcofjfdhbaa.Pure
