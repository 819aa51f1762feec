/- Messages as bytes: what ip.PutIcmp and the document's own tell, in plain Lean. -/
import Derived.Test.YtdligcofjfdhbaaPIpPut
import Derived.Test.YtdligcofjfdhbaaM31
import Derived.Test.YtdligcofjfdhbaaM32
namespace Go.Proofs.Ytdligcofjfdhbaa.Pure
open Go.RowKit Go.Proofs.Ytdligcofjfdhbaa.M Go.Proofs.YtdligcofjfdhbaaW.PrintWords Go.Proofs.YtdligcofjfdhbaaW.PrintLast Go.Proofs.YtdligcofjfdhbaaW.PrintMore
set_option linter.unusedVariables false
set_option linter.unusedSimpArgs false

theorem set_g (A E : List Int) (a : Int) (ha : (A.length : Int) = a) (hAr : ∀ x ∈ A, 0 ≤ x ∧ x ≤ 255) (hEr : ∀ x ∈ E, 0 ≤ x ∧ x ≤ 255) (hl : A.length + 2 + E.length < 140737488355328) (s : Int) (h0 : 0 ≤ s) (h1 : s ≤ 65535) {k : Nat} (hk : 10 ≤ k) : ip_laid.f k (A ++ ([0, 0] ++ E)) a s = some (A ++ (bytesL s 2 ++ E)) := by
  unfold ip_laid.f octet_Set.f
  have hr : ∀ x ∈ A ++ ([0, 0] ++ E), 0 ≤ x ∧ x ≤ 255 := by
    intro x hx
    simp only [List.mem_append, List.mem_cons, List.not_mem_nil, or_false] at hx
    rcases hx with h | (rfl | rfl) | h
    · exact hAr x h
    · omega
    · omega
    · exact hEr x h
  have hl2 : (A ++ ([0, 0] ++ E)).length = A.length + 2 + E.length := by simp; omega
  rw [num_f _ a 2 (by rw [hl2]; omega) hr (i64_wf (by omega) (by omega)) (by decide) (by omega), wrapu h0 (by omega), bytes_f s 2 h0 (by omega) (by decide) hk, bytes_ok (by decide) (by decide) h0 (by rw [p2]; omega)]
  unfold numS
  rw [if_pos (by decide), if_pos (by rw [hl2]; omega), if_pos (by rw [hl2]; omega)]
  simp only [Option.bind_some, ↓reduceIte]
  rw [if_pos (by rw [hl2, bytesL_length, show (2 : Int).toNat = 2 from rfl]; omega)]
  have e1 : (A ++ ([0, 0] ++ E)).take a.toNat = A := List.take_left' (by omega)
  have e2 : (A ++ ([0, 0] ++ E)).drop (a + 2 : Int).toNat = E := by
    rw [← List.append_assoc]
    exact List.drop_left' (by simp; omega)
  rw [e1, e2]
  simp only [Option.bind_some, List.append_assoc]
  rfl

/-- A message's bytes. -/
def icmpS (t c rest : Int) (body : List Int) : List Int := [t, c] ++ (bytesL (netS ([t, c] ++ (bytesL rest 4 ++ body))) 2 ++ (bytesL rest 4 ++ body))
theorem icmpS_len (t c rest : Int) (body : List Int) : (icmpS t c rest body).length = 8 + body.length := by simp [icmpS, bytesL_length]; omega
theorem icmp_rng (t c rest : Int) (body : List Int) (ht : 0 ≤ t ∧ t ≤ 255) (hc : 0 ≤ c ∧ c ≤ 255) (hb : ∀ x ∈ body, 0 ≤ x ∧ x ≤ 255) : ∀ x ∈ [t, c] ++ (bytesL rest 4 ++ body), 0 ≤ x ∧ x ≤ 255 := by
  intro x hx
  simp only [List.mem_append, List.mem_cons, List.not_mem_nil, or_false] at hx
  rcases hx with (rfl | rfl) | h | h
  · exact ht
  · exact hc
  · exact bytesL_range _ _ x h
  · exact hb x h
theorem icmpS_rng (t c rest : Int) (body : List Int) (ht : 0 ≤ t ∧ t ≤ 255) (hc : 0 ≤ c ∧ c ≤ 255) (hb : ∀ x ∈ body, 0 ≤ x ∧ x ≤ 255) : ∀ x ∈ icmpS t c rest body, 0 ≤ x ∧ x ≤ 255 := by
  intro x hx
  simp only [icmpS, List.mem_append, List.mem_cons, List.not_mem_nil, or_false] at hx
  rcases hx with (rfl | rfl) | h | h | h
  · exact ht
  · exact hc
  · exact bytesL_range _ _ x h
  · exact bytesL_range _ _ x h
  · exact hb x h
theorem puticmp_f (t c rest : Int) (body : List Int) (ht : 0 ≤ t ∧ t ≤ 255) (hc : 0 ≤ c ∧ c ≤ 255) (hr : 0 ≤ rest ∧ rest ≤ 4294967295) (hb : ∀ x ∈ body, 0 ≤ x ∧ x ≤ 255) (hl : body.length ≤ 140737488351232) {k : Nat} (hk : body.length + 40 ≤ k) : ip_PutIcmp.f k t c rest body = some (icmpS t c rest body) := by
  unfold ip_PutIcmp.f
  have hE : ∀ x ∈ bytesL rest 4 ++ body, 0 ≤ x ∧ x ≤ 255 := fun x hx => icmp_rng t c rest body ht hc hb x (List.mem_append_right _ hx)
  have hA : ∀ x ∈ [t, c], 0 ≤ x ∧ x ≤ 255 := fun x hx => icmp_rng t c rest body ht hc hb x (List.mem_append_left _ hx)
  have e : [t, c, 0, 0] ++ bytesL rest 4 ++ body = [t, c] ++ ([0, 0] ++ (bytesL rest 4 ++ body)) := by simp
  have hn := netS_range ([t, c] ++ (bytesL rest 4 ++ body))
  have hall : ∀ x ∈ [t, c] ++ ([0, 0] ++ (bytesL rest 4 ++ body)), 0 ≤ x ∧ x ≤ 255 := by
    intro x hx
    rcases List.mem_append.mp hx with h | h
    · exact hA x h
    · rcases List.mem_append.mp h with h | h
      · simp only [List.mem_cons, List.not_mem_nil, or_false] at h; omega
      · exact hE x h
  have hlen : ([t, c] ++ ([0, 0] ++ (bytesL rest 4 ++ body))).length = 8 + body.length := by simp [bytesL_length]; omega
  rw [wrapu (x := rest) hr.1 (by omega), bytes_f rest 4 hr.1 (by omega) (by decide) (by omega), bytes_ok (by decide) (by decide) hr.1 (by rw [p4]; omega)]
  simp only [Option.bind_some, show (4 : Int).toNat = 4 from rfl]
  rw [if_pos (by simp [bytesL_length]), if_pos (by simp [bytesL_length]; omega), e, net_f _ hall (by omega) (by omega), netS_gap [t, c] _ (by simp)]
  simp only [Option.bind_some]
  rw [set_g [t, c] _ 2 rfl hA hE (by simp [bytesL_length]; omega) _ hn.1 hn.2 (by omega)]
  rfl
theorem rputicmp_f (t c rest : Int) (body : List Int) (ht : 0 ≤ t ∧ t ≤ 255) (hc : 0 ≤ c ∧ c ≤ 255) (hr : 0 ≤ rest ∧ rest ≤ 4294967295) (hb : ∀ x ∈ body, 0 ≤ x ∧ x ≤ 255) (hl : body.length ≤ 140737488351232) {k : Nat} (hk : body.length + 40 ≤ k) : trunklineref10_PutIcmp.f k t c rest body = some (icmpS t c rest body) := by
  unfold trunklineref10_PutIcmp.f
  have hn := netS_range ([t, c] ++ (bytesL rest 4 ++ body))
  have hlen : ([t, c] ++ (bytesL rest 4 ++ body)).length = 6 + body.length := by simp [bytesL_length]; omega
  rw [wrapu (x := rest) hr.1 (by omega), rlay_f _ rest 4 (by decide) (by decide) hr.1 (by rw [p4]; omega) (by simp) (by omega)]
  simp only [Option.bind_some, show (4 : Int).toNat = 4 from rfl, List.nil_append]
  rw [if_pos (by simp [bytesL_length]; omega), if_pos (by simp [bytesL_length]; omega), rnet_f _ (icmp_rng t c rest body ht hc hb) (by omega) (by omega)]
  simp only [Option.bind_some]
  rw [wrapu (x := netS _) (by omega) (by omega), rlay_f _ (netS _) 2 (by decide) (by decide) hn.1 (by rw [p2]; omega) (by simp) (by omega)]
  simp only [Option.bind_some, show (2 : Int).toNat = 2 from rfl]
  rw [if_pos (by simp [bytesL_length]; omega)]
  simp [icmpS]

end Go.Proofs.Ytdligcofjfdhbaa.Pure
