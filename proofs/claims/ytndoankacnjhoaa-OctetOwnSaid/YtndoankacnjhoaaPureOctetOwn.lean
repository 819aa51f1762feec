/- OctetOwn: the plain law. -/
import Derived.Test.YtndoankacnjhoaaM8
import Derived.Test.YtndoankacnjhoaaPCut
namespace Go.Proofs.Ytndoankacnjhoaa.Pure
open Go.RowKit Go.Proofs.Ytndoankacnjhoaa.M Go.Proofs.YtndoankacnjhoaaW.PrintWords Go.Proofs.YtndoankacnjhoaaW.PrintLast

theorem own_l2 (x0 x7 : List Int) : ∀ (d i k : Nat) (c : List Int), c.length ≤ 9223372036854775806 → i + d = c.length → trunklinelaw01_OctetOwn.l2 (k + d + 1) x0 x7 c (i : Int) = ((trunklinelaw01_live.f k).bind fun t => (if t = true then (some ((strOfNums x0).toList == (strOfNums x7).toList)) else (some false)))
  | 0, i, k, c, hc, h => by
    rw [show k + 0 + 1 = k + 1 by omega, trunklinelaw01_OctetOwn.l2, if_neg (by omega)]
  | d + 1, i, k, c, hc, h => by
    rw [show k + (d + 1) + 1 = (k + d + 1) + 1 by omega, trunklinelaw01_OctetOwn.l2, if_pos (by omega), if_pos (by omega), w64 (by omega) (by omega), show ((i : Int) + 1) = ((i + 1 : Nat) : Int) by omega]
    exact own_l2 x0 x7 d (i + 1) k _ (by simpa using hc) (by simp; omega)
theorem own_l1 (x0 x7 e : List Int) : ∀ (d i k : Nat) (c : List Int), c.length ≤ 9223372036854775806 → i + d = c.length → trunklinelaw01_OctetOwn.l1 (k + d + 1) x0 x7 c e (i : Int) = trunklinelaw01_OctetOwn.l2 k x0 x7 e 0
  | 0, i, k, c, hc, h => by
    rw [show k + 0 + 1 = k + 1 by omega, trunklinelaw01_OctetOwn.l1, if_neg (by omega)]
  | d + 1, i, k, c, hc, h => by
    rw [show k + (d + 1) + 1 = (k + d + 1) + 1 by omega, trunklinelaw01_OctetOwn.l1, if_pos (by omega), if_pos (by omega), w64 (by omega) (by omega), show ((i : Int) + 1) = ((i + 1 : Nat) : Int) by omega]
    exact own_l1 x0 x7 e d (i + 1) k _ (by simpa using hc) (by simp; omega)
theorem own_l0 (x0 x7 b e : List Int) : ∀ (d i k : Nat) (c : List Int), c.length ≤ 9223372036854775806 → i + d = c.length → trunklinelaw01_OctetOwn.l0 (k + d + 1) x0 x7 c b e (i : Int) = trunklinelaw01_OctetOwn.l1 k x0 x7 b e 0
  | 0, i, k, c, hc, h => by
    rw [show k + 0 + 1 = k + 1 by omega, trunklinelaw01_OctetOwn.l0, if_neg (by omega)]
  | d + 1, i, k, c, hc, h => by
    rw [show k + (d + 1) + 1 = (k + d + 1) + 1 by omega, trunklinelaw01_OctetOwn.l0, if_pos (by omega), if_pos (by omega), w64 (by omega) (by omega), show ((i : Int) + 1) = ((i + 1 : Nat) : Int) by omega]
    exact own_l0 x0 x7 b e d (i + 1) k _ (by simpa using hc) (by simp; omega)

theorem setS_len (l : List Int) (a v n : Int) (hl : l.length ≤ 140737488351232) : (setS l a v n).1.length ≤ 9223372036854775806 := by
  have := (bytesS_len v n).1
  unfold setS
  split
  · split
    · simp; omega
    · simp
  · simp
theorem cutS_len (l : List Int) (a n : Int) (hl : l.length ≤ 140737488351232) : (cutS l a n).1.length ≤ 9223372036854775806 := by
  unfold cutS
  split
  · simp
  · split
    · simp
    · simp; omega
theorem padS_len (l : List Int) (m : Int) (hl : l.length ≤ 140737488351232) : (padS l m).1.length ≤ 9223372036854775806 := by
  unfold padS
  by_cases h : m < 1 ∨ m > 64
  · rw [if_pos h]; simp
  · have := pad_d (l.length : Int) m (by omega)
    rw [if_neg h, List.length_append, List.length_replicate]; omega

theorem OctetOwn : trunklinelaw01_OctetOwn.Pure := by
  intro l a v n hl hl2 hb ha hv hn
  have hb' := wf_bytes hb
  have hv' := wf_u64 hv
  obtain ⟨K1, h1⟩ := set_ev l a v n (by omega) hb' ha (by omega) (by omega) hn
  obtain ⟨K3, h3⟩ := live_ev
  simp only at h1 h3
  have e1 := setS_len l a v n (by omega)
  have e2 := cutS_len l a n (by omega)
  have e3 := padS_len l 8 (by omega)
  obtain ⟨L1, hL1⟩ : ∃ L, L = (setS l a v n).1.length := ⟨_, rfl⟩
  obtain ⟨L2, hL2⟩ : ∃ L, L = (cutS l a n).1.length := ⟨_, rfl⟩
  obtain ⟨L3, hL3⟩ : ∃ L, L = (padS l 8).1.length := ⟨_, rfl⟩
  refine ⟨K1 + K3 + L3 + 1 + L2 + 1 + L1 + 1, ?_⟩
  unfold trunklinelaw01_OctetOwn.f
  rw [h1 _ (by omega), cut_f l a n (by omega) ha hn (K1 + K3 + L3 + 1 + L2 + 1 + L1), pad_f l 8 (by omega)]
  rw [Option.bind_some, if_pos (by simp; omega), Option.bind_some, Option.bind_some, Option.bind_some]
  have q0 := own_l0 l ([] ++ l) (cutS l a n).1 (padS l 8).1 L1 0 (K1 + K3 + L3 + 1 + L2 + 1) _ e1 (by omega)
  have q1 := own_l1 l ([] ++ l) (padS l 8).1 L2 0 (K1 + K3 + L3 + 1) _ e2 (by omega)
  have q2 := own_l2 l ([] ++ l) L3 0 (K1 + K3) _ e3 (by omega)
  rw [show ((0 : Nat) : Int) = 0 from rfl] at q0 q1 q2
  rw [q0, q1, q2, h3 _ (by omega)]
  simp

end Go.Proofs.Ytndoankacnjhoaa.Pure
