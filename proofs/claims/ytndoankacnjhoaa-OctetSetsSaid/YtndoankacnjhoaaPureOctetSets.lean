/- OctetSets: the plain law. -/
import Derived.Test.YtndoankacnjhoaaM22
import Derived.Test.YtndoankacnjhoaaM21
import Derived.Test.YtndoankacnjhoaaPCut
namespace Go.Proofs.Ytndoankacnjhoaa.Pure
open Go.RowKit Go.Proofs.Ytndoankacnjhoaa.M Go.Proofs.YtndoankacnjhoaaW.PrintWords Go.Proofs.YtndoankacnjhoaaW.PrintLast

theorem set_mid (A X Z : List Int) (y v : Int) (n : Nat) (h : n = A.length + X.length) : (A ++ (X ++ (y :: Z))).set n v = A ++ (X ++ (v :: Z)) := by
  subst h
  rw [List.set_append_right _ _ (by omega), Nat.add_sub_cancel_left, List.set_append_right _ _ (by omega), Nat.sub_self]
  rfl
theorem rset_l0 (l x : List Int) (a : Int) (n : Nat) (ha : 0 ≤ a) (han : a + n ≤ l.length) (hl : l.length ≤ 140737488351232) (hx : x.length = n) : ∀ (d i k : Nat), i + d = n →
    trunklineref01_Set.l0 (k + d + 1) a (n : Int) x (l.take a.toNat ++ (x.take i ++ l.drop (a.toNat + i))) (i : Int) = some (l.take a.toNat ++ (x ++ l.drop (a.toNat + n)), 0)
  | 0, i, k, hi => by
    have : i = n := by omega
    subst this
    rw [show k + 0 + 1 = k + 1 by omega, trunklineref01_Set.l0, if_neg (by omega), List.take_of_length_le (l := x) (by omega)]
  | d + 1, i, k, hi => by
    have hlen : (l.take a.toNat ++ (x.take i ++ l.drop (a.toNat + i))).length = l.length := by simp; omega
    rw [show k + (d + 1) + 1 = (k + d + 1) + 1 by omega, trunklineref01_Set.l0, if_pos (by omega), if_pos (by omega), if_pos (by omega), w64 (x := a + i) (by omega) (by omega), if_pos (by omega), if_pos (by omega), w64 (x := (i : Int) + 1) (by omega) (by omega), rd_get x i (by omega)]
    rw [List.drop_eq_getElem_cons (l := l) (i := a.toNat + i) (by omega), set_mid _ _ _ _ _ _ (by simp; omega), show ((i : Int) + 1) = ((i + 1 : Nat) : Int) by omega]
    have e : x.take (i + 1) ++ l.drop (a.toNat + (i + 1)) = x.take i ++ (x[i] :: l.drop (a.toNat + i + 1)) := by
      rw [List.take_succ_eq_append_getElem (by omega), List.append_assoc]
      rfl
    rw [← e]
    exact rset_l0 l x a n ha han hl hx d (i + 1) k (by omega)
theorem rset_ev (l : List Int) (a v n : Int) (hl : l.length ≤ 140737488351232) (hb : ∀ x ∈ l, 0 ≤ x ∧ x ≤ 255) (ha : (Lit.int .i64 a).wf = true) (hv : 0 ≤ v) (hv1 : v < 18446744073709551616) (hn : (Lit.int .i64 n).wf = true) : Ev (fun k => trunklineref01_Set.f k l a v n) (setS l a v n) := by
  obtain ⟨K1, h1⟩ := rnum_ev l a n (by omega) hb ha hn
  obtain ⟨K2, h2⟩ := rbytes_ev v n hv hv1 hn
  refine ⟨max K1 K2 + 10, fun k hk => ?_⟩
  simp only at h1 h2 ⊢
  unfold trunklineref01_Set.f setS
  rw [h1 k (by omega), h2 k (by omega), Option.bind_some]
  by_cases c1 : (numS l a n).2 = 0
  · rw [if_pos c1, if_pos c1, Option.bind_some]
    by_cases c2 : (bytesS v n).2 = 0
    · obtain ⟨n1, n8, hq, hB⟩ := bytesS_ok c2
      obtain ⟨_, _, a0, an, _⟩ := numS_ok c1
      rw [if_pos c2, if_pos c2, Option.bind_some, if_pos (by simp; omega), List.nil_append]
      have hBl : (bytesS v n).1.length = n.toNat := by rw [hB, bytesL_length]
      have := rset_l0 l (bytesS v n).1 a n.toNat a0 (by omega) hl hBl n.toNat 0 (k - n.toNat - 1) (by omega)
      rw [show k - n.toNat - 1 + n.toNat + 1 = k by omega, show ((n.toNat : Nat) : Int) = n by omega, List.take_zero, List.nil_append, Nat.add_zero, List.take_append_drop, show ((0 : Nat) : Int) = 0 from rfl] at this
      rw [this, show (a + n).toNat = a.toNat + n.toNat by omega, List.append_assoc]
    · rw [if_neg c2, if_neg c2]
  · rw [if_neg c1, if_neg c1]

theorem OctetSets : trunklinelaw01_OctetSets.Pure := by
  intro l a v n hl hl2 hb ha hv hn
  have hb' := wf_bytes hb
  have hv' := wf_u64 hv
  have hn' := wf_i64 hn
  obtain ⟨K1, h1⟩ := set_ev l a v n (by omega) hb' ha (by omega) (by omega) hn
  obtain ⟨K2, h2⟩ := rset_ev l a v n (by omega) hb' ha (by omega) (by omega) hn
  obtain ⟨K3, h3⟩ := live_ev
  simp only at h1 h2 h3
  by_cases c1 : (numS l a n).2 = 0
  · by_cases c2 : (bytesS v n).2 = 0
    · obtain ⟨n1, n8, hq, hB⟩ := bytesS_ok c2
      obtain ⟨_, _, a0, an, _⟩ := numS_ok c1
      have hS : setS l a v n = (l.take a.toNat ++ bytesL v n.toNat ++ l.drop (a + n).toNat, 0) := by unfold setS; rw [if_pos c1, if_pos c2, hB]
      obtain ⟨c, hc⟩ : ∃ c, c = l.take a.toNat ++ bytesL v n.toNat ++ l.drop (a + n).toNat := ⟨_, rfl⟩
      rw [← hc] at hS
      have hcl : c.length = l.length := by rw [hc]; simp [bytesL_length]; omega
      have hcr : ∀ x ∈ c, 0 ≤ x ∧ x ≤ 255 := by
        intro x hx
        rw [hc] at hx
        simp only [List.mem_append] at hx
        rcases hx with (h | h) | h
        · exact hb' x (List.mem_of_mem_take h)
        · exact bytesL_range _ _ x h
        · exact hb' x (List.mem_of_mem_drop h)
      have hlt := lt_of_div (by omega) hq
      have hta : (l.take a.toNat).length = a.toNat := by simp; omega
      have hnum : numS c a n = (v, 0) := by
        unfold numS
        rw [if_pos ⟨n1, n8⟩, if_pos (by omega), if_pos (by omega)]
        have e1 : c.drop a.toNat = bytesL v n.toNat ++ l.drop (a + n).toNat := by rw [hc, List.append_assoc]; exact List.drop_left' hta
        rw [e1, List.take_left' (by rw [bytesL_length]), numL_bytesL _ v (by omega) hlt]
      have ht : c.take a.toNat = l.take a.toNat := by rw [hc, List.append_assoc]; exact List.take_left' hta
      have hd : c.drop (a + n).toNat = l.drop (a + n).toNat := by rw [hc]; exact List.drop_left' (by simp [bytesL_length]; omega)
      obtain ⟨K4, h4⟩ := num_ev c a n (by omega) hcr ha hn
      simp only at h4
      rw [hnum] at h4
      refine ⟨max K1 (max K2 (max K3 K4)) + 1, ?_⟩
      unfold trunklinelaw01_OctetSets.f
      rw [h1 _ (by omega), Option.bind_some, h2 _ (by omega), Option.bind_some, hS, if_pos rfl, trunklinelaw01_OctetSets.j0, if_neg (by simp), if_pos rfl, h4 _ (by omega), Option.bind_some, h3 _ (by omega), Option.bind_some]
      dsimp only
      rw [if_pos rfl, if_pos rfl, if_pos rfl, if_pos (show (c.length : Int) = (l.length : Int) by omega), if_pos a0, if_pos (show a ≤ (c.length : Int) by omega), if_pos (show a ≤ (l.length : Int) by omega), ht, if_pos rfl, w64 (x := a + n) (by omega) (by omega), if_pos (show 0 ≤ a + n by omega), if_pos (show a + n ≤ (c.length : Int) by omega), if_pos (show a + n ≤ (l.length : Int) by omega), hd]
      simp
    · have hS : setS l a v n = ([], (bytesS v n).2) := by unfold setS; rw [if_pos c1, if_neg c2]
      refine ⟨max K1 (max K2 K3) + 1, ?_⟩
      unfold trunklinelaw01_OctetSets.f
      rw [h1 _ (by omega), Option.bind_some, h2 _ (by omega), Option.bind_some, hS, if_pos rfl, trunklinelaw01_OctetSets.j0, if_neg (by simp), if_neg c2, h3 _ (by omega), Option.bind_some]
  · have hS : setS l a v n = ([], (numS l a n).2) := by unfold setS; rw [if_neg c1]
    refine ⟨max K1 (max K2 K3) + 1, ?_⟩
    unfold trunklinelaw01_OctetSets.f
    rw [h1 _ (by omega), Option.bind_some, h2 _ (by omega), Option.bind_some, hS, if_pos rfl, trunklinelaw01_OctetSets.j0, if_neg (by simp), if_neg c1, h3 _ (by omega), Option.bind_some]

end Go.Proofs.Ytndoankacnjhoaa.Pure
