/- Questions as bytes, and out of bytes, in plain Lean. -/
import Derived.Test.YtnfbbnmdlcmifaaPEtherN
import Derived.Test.YtnfbbnmdlcmifaaPEther
import Derived.Test.YtnfbbnmdlcmifaaHTakeArp
import Derived.Test.YtnfbbnmdlcmifaaM16
import Derived.Test.YtnfbbnmdlcmifaaM12
namespace Go.Proofs.Ytnfbbnmdlcmifaa.Pure
open Go.RowKit Go.Proofs.Ytnfbbnmdlcmifaa.M Go.Proofs.YtnfbbnmdlcmifaaW.PrintWords Go.Proofs.YtnfbbnmdlcmifaaW.PrintLast Go.Proofs.YtnfbbnmdlcmifaaW.PrintMore
set_option linter.unusedVariables false
set_option linter.unusedSimpArgs false


/-- What PutArp tells. -/
def putArpS (op fm fi tm ti : Int) : List Int × Int :=
  if (1 ≤ op ∧ op ≤ 2) ∧ fm < 281474976710656 ∧ tm < 281474976710656 then (bytesL 4429186564 6 ++ (bytesL op 2 ++ (bytesL fm 6 ++ (bytesL fi 4 ++ (bytesL tm 6 ++ bytesL ti 4)))), 0) else ([], 2)
theorem putArp_f (op fm fi tm ti : Int) (h1 : 0 ≤ fm) (h2 : 0 ≤ fi) (h2' : fi ≤ 4294967295) (h3 : 0 ≤ tm) (h4 : 0 ≤ ti) (h4' : ti ≤ 4294967295) {k : Nat} (hk : 20 ≤ k) : ether_PutArp.f k op fm fi tm ti = some (putArpS op fm fi tm ti) := by
  unfold ether_PutArp.f putArpS
  by_cases c1 : op < 1
  · rw [if_pos c1, if_neg (by omega)]
  · rw [if_neg c1]
    by_cases c2 : op > 2
    · rw [if_pos c2, if_neg (by omega)]
    · rw [if_neg c2, card2 fm tm h1 h3]
      simp only [Option.bind_some]
      by_cases c3 : fm < 281474976710656 ∧ tm < 281474976710656
      · rw [decide_eq_true c3, if_pos rfl, if_pos ⟨⟨by omega, by omega⟩, c3⟩, wrapu (by omega) (by omega), wrapu h2 (by omega), wrapu h4 (by omega)]
        rw [lay_f [] _ (by simp) (by
          intro x hx
          simp only [List.mem_cons, List.not_mem_nil, or_false] at hx
          rcases hx with rfl | rfl | rfl | rfl | rfl | rfl
          · exact okP_mk (by decide) (by decide) (by decide) (by rw [p6]; decide)
          · exact okP_mk (by decide) (by decide) (by omega) (by rw [p2]; omega)
          · exact okP_mk (by decide) (by decide) h1 (by rw [p6]; omega)
          · exact okP_mk (by decide) (by decide) h2 (by rw [p4]; omega)
          · exact okP_mk (by decide) (by decide) h3 (by rw [p6]; omega)
          · exact okP_mk (by decide) (by decide) h4 (by rw [p4]; omega)) (by simp) (by simp; omega)]
        have e6 : (6 : Int).toNat = 6 := rfl
        have e2 : (2 : Int).toNat = 2 := rfl
        have e4 : (4 : Int).toNat = 4 := rfl
        simp only [Option.bind_some, List.nil_append, layL, List.append_nil, e6, e2, e4]
      · rw [decide_eq_false c3, if_neg (by decide), if_neg (by omega)]
theorem arp_head (op : Int) (h : op = 1 ∨ op = 2) : bytesL 4429186564 6 ++ bytesL op 2 = [0, 1, 8, 0, 6, 4, 0, op % 256] := by
  rcases h with rfl | rfl <;> decide
theorem rputArp_j0 (op fm fi tm ti : Int) (ho : op = 1 ∨ op = 2) (h1 : 0 ≤ fm) (h1' : fm < 281474976710656) (h2 : 0 ≤ fi) (h2' : fi ≤ 4294967295) (h3 : 0 ≤ tm) (h3' : tm < 281474976710656) (h4 : 0 ≤ ti) (h4' : ti ≤ 4294967295) {k : Nat} (hk : 20 ≤ k) : trunklineref08_PutArp.j0 k false op fm fi tm ti = some (bytesL 4429186564 6 ++ (bytesL op 2 ++ (bytesL fm 6 ++ (bytesL fi 4 ++ (bytesL tm 6 ++ bytesL ti 4)))), 0) := by
  obtain ⟨k, rfl⟩ : ∃ m, k = m + 1 := ⟨k - 1, by omega⟩
  have e6 : (6 : Int).toNat = 6 := rfl
  have e4 : (4 : Int).toNat = 4 := rfl
  rw [trunklineref08_PutArp.j0, if_neg (by decide), wrapu h2 (by omega), wrapu h4 (by omega)]
  rw [rlay_f _ _ _ (by decide) (by decide) h1 (by rw [p6]; omega) (by simp) (by omega)]
  simp only [Option.bind_some]
  rw [rlay_f _ _ _ (by decide) (by decide) h2 (by rw [p4]; omega) (by simp [bytesL_length]) (by omega)]
  simp only [Option.bind_some]
  rw [rlay_f _ _ _ (by decide) (by decide) h3 (by rw [p6]; omega) (by simp [bytesL_length]) (by omega)]
  simp only [Option.bind_some]
  rw [rlay_f _ _ _ (by decide) (by decide) h4 (by rw [p4]; omega) (by simp [bytesL_length]) (by omega)]
  simp only [Option.bind_some, e6, e4]
  rw [← arp_head op ho]
  simp only [List.append_assoc]
theorem rputArp_j1 (op fm fi tm ti : Int) (k : Nat) : trunklineref08_PutArp.j0 (k + 1) true op fm fi tm ti = some ([], 2) := by rw [trunklineref08_PutArp.j0, if_pos rfl]
theorem rputArp_f (op fm fi tm ti : Int) (h1 : 0 ≤ fm) (h2 : 0 ≤ fi) (h2' : fi ≤ 4294967295) (h3 : 0 ≤ tm) (h4 : 0 ≤ ti) (h4' : ti ≤ 4294967295) {k : Nat} (hk : 20 ≤ k) : trunklineref08_PutArp.f k op fm fi tm ti = some (putArpS op fm fi tm ti) := by
  obtain ⟨k', hk'⟩ : ∃ m, k = m + 1 := ⟨k - 1, by omega⟩
  have J1 : trunklineref08_PutArp.j0 k true op fm fi tm ti = some ([], 2) := by rw [hk']; exact rputArp_j1 ..
  unfold trunklineref08_PutArp.f putArpS trunklineref08_card.f
  simp only [Option.bind_some]
  have go : (op = 1 ∨ op = 2) → (if decide (fm < 281474976710656) = true then trunklineref08_PutArp.j0 k (!decide (tm < 281474976710656)) op fm fi tm ti else trunklineref08_PutArp.j0 k true op fm fi tm ti) = some (if (1 ≤ op ∧ op ≤ 2) ∧ fm < 281474976710656 ∧ tm < 281474976710656 then (bytesL 4429186564 6 ++ (bytesL op 2 ++ (bytesL fm 6 ++ (bytesL fi 4 ++ (bytesL tm 6 ++ bytesL ti 4)))), 0) else ([], 2)) := by
    intro ho
    by_cases a : fm < 281474976710656
    · rw [decide_eq_true a, if_pos rfl]
      by_cases b : tm < 281474976710656
      · rw [decide_eq_true b, if_pos ⟨by omega, a, b⟩]
        exact rputArp_j0 op fm fi tm ti ho h1 a h2 h2' h3 b h4 h4' hk
      · rw [decide_eq_false b, if_neg (c := (1 ≤ op ∧ op ≤ 2) ∧ fm < 281474976710656 ∧ tm < 281474976710656) (by omega)]
        exact J1
    · rw [decide_eq_false a, if_neg (by decide), if_neg (c := (1 ≤ op ∧ op ≤ 2) ∧ fm < 281474976710656 ∧ tm < 281474976710656) (by omega)]
      exact J1
  by_cases c1 : op = 1
  · rw [if_pos c1]; exact go (.inl c1)
  · rw [if_neg c1]
    by_cases c2 : op = 2
    · rw [if_pos c2]; exact go (.inr c2)
    · rw [if_neg c2, if_neg (by omega)]; exact J1

/-- What TakeArp tells. -/
def takeArpS (l : List Int) : Int × Int × Int × Int × Int × Int :=
  if l.length < 28 then (0, 0, 0, 0, 0, 3) else if at_ l 0 6 = 4429186564 then (if at_ l 6 2 = 1 ∨ at_ l 6 2 = 2 then (at_ l 6 2, at_ l 8 6, at_ l 14 4, at_ l 18 6, at_ l 24 4, 0) else (0, 0, 0, 0, 0, 11)) else (0, 0, 0, 0, 0, 4)
theorem takeArp_f (l : List Int) (hl : (l.length : Int) ≤ 4611686018427387904) (hb : ∀ x ∈ l, 0 ≤ x ∧ x ≤ 255) {k : Nat} (hk : 9 ≤ k) : ether_TakeArp.f k l = some (takeArpS l) := by
  unfold ether_TakeArp.f takeArpS
  by_cases h1 : l.length < 28
  · rw [if_pos (by omega), if_pos h1]
  · rw [if_neg (by omega), if_neg h1]
    have n1 : octet_Num.f k l 0 6 = some (at_ l 0 6, 0) := num_ok l hb hl 0 6 (by decide) (by decide) (by omega) hk
    have n2 : octet_Num.f k l 6 2 = some (at_ l 6 2, 0) := num_ok l hb hl 6 2 (by decide) (by decide) (by omega) hk
    have n3 : octet_Num.f k l 8 6 = some (at_ l 8 6, 0) := num_ok l hb hl 8 6 (by decide) (by decide) (by omega) hk
    have n4 : octet_Num.f k l 14 4 = some (at_ l 14 4, 0) := num_ok l hb hl 14 4 (by decide) (by decide) (by omega) hk
    have n5 : octet_Num.f k l 18 6 = some (at_ l 18 6, 0) := num_ok l hb hl 18 6 (by decide) (by decide) (by omega) hk
    have n6 : octet_Num.f k l 24 4 = some (at_ l 24 4, 0) := num_ok l hb hl 24 4 (by decide) (by decide) (by omega) hk
    rw [n1]
    simp only [Option.bind_some]
    by_cases h2 : at_ l 0 6 = 4429186564
    · have r2 := at_range l hb 6 2 (by omega)
      have r4 := at_range l hb 14 4 (by omega)
      have r6 := at_range l hb 24 4 (by omega)
      rw [show (256 : Int) ^ 2 = 65536 by decide] at r2
      rw [show (256 : Int) ^ 4 = 4294967296 by decide] at r4 r6
      rw [if_pos h2, if_pos h2, n2, n3, n4, n5, n6]
      simp only [Option.bind_some]
      rw [w64 (by omega) (by omega), Int.emod_eq_of_lt r4.1 r4.2, Int.emod_eq_of_lt r6.1 r6.2]
      by_cases h3 : at_ l 6 2 < 1
      · rw [if_pos h3, if_neg (by omega)]
      · rw [if_neg h3]
        by_cases h4 : at_ l 6 2 > 2
        · rw [if_pos h4, if_neg (by omega)]
        · rw [if_neg h4, if_pos (by omega)]
    · rw [if_neg h2, if_neg h2]
theorem magic (l : List Int) (hb : ∀ x ∈ l, 0 ≤ x ∧ x ≤ 255) (h : 6 ≤ l.length) : ((strOfNums (l.take 6)).toList = ([0, 1, 8, 0, 6, 4] : List UInt8)) ↔ at_ l 0 6 = 4429186564 := by
  have e : ([0, 1, 8, 0, 6, 4] : List UInt8) = ([0, 1, 8, 0, 6, 4] : List Int).map fun n => UInt8.ofNat n.toNat := by decide
  rw [toL, e]
  constructor
  · intro h1
    have h2 := ofNat_inj _ _ (fun x hx => hb x (List.mem_of_mem_take hx)) (by decide) h1
    unfold at_
    rw [List.drop_zero, h2]
    decide
  · intro h1
    have h2 := bytesat l hb 0 6 (by omega)
    rw [h1, List.drop_zero] at h2
    rw [← h2]
    decide
theorem rtakeArp_f (l : List Int) (hl : (l.length : Int) ≤ 4611686018427387904) (hb : ∀ x ∈ l, 0 ≤ x ∧ x ≤ 255) {k : Nat} (hk : 11 ≤ k) : trunklineref08_TakeArp.f k l = some (takeArpS l) := by
  obtain ⟨k, rfl⟩ : ∃ m, k = m + 1 := ⟨k - 1, by omega⟩
  unfold trunklineref08_TakeArp.f takeArpS
  by_cases h1 : l.length < 28
  · rw [if_pos (by omega), if_pos h1]
  · rw [if_neg (by omega), if_neg h1, if_pos (by omega)]
    by_cases h2 : at_ l 0 6 = 4429186564
    · have n2 : ∀ {m : Nat}, 10 ≤ m → trunklineref08_number.f m l 6 2 = some (at_ l 6 2) := fun hm => rnumber_ok l hb hl 6 2 (by decide) (by decide) (by omega) hm
      have n3 : ∀ {m : Nat}, 10 ≤ m → trunklineref08_number.f m l 8 6 = some (at_ l 8 6) := fun hm => rnumber_ok l hb hl 8 6 (by decide) (by decide) (by omega) hm
      have n4 : ∀ {m : Nat}, 10 ≤ m → trunklineref08_number.f m l 14 4 = some (at_ l 14 4) := fun hm => rnumber_ok l hb hl 14 4 (by decide) (by decide) (by omega) hm
      have n5 : ∀ {m : Nat}, 10 ≤ m → trunklineref08_number.f m l 18 6 = some (at_ l 18 6) := fun hm => rnumber_ok l hb hl 18 6 (by decide) (by decide) (by omega) hm
      have n6 : ∀ {m : Nat}, 10 ≤ m → trunklineref08_number.f m l 24 4 = some (at_ l 24 4) := fun hm => rnumber_ok l hb hl 24 4 (by decide) (by decide) (by omega) hm
      have r2 := at_range l hb 6 2 (by omega)
      have r4 := at_range l hb 14 4 (by omega)
      have r6 := at_range l hb 24 4 (by omega)
      rw [show (256 : Int) ^ 2 = 65536 by decide] at r2
      rw [show (256 : Int) ^ 4 = 4294967296 by decide] at r4 r6
      have J0 : trunklineref08_TakeArp.j0 (k + 1) l (at_ l 6 2) false = some (at_ l 6 2, at_ l 8 6, at_ l 14 4, at_ l 18 6, at_ l 24 4, 0) := by
        rw [trunklineref08_TakeArp.j0, if_neg (by decide), n3 (by omega), n4 (by omega), n5 (by omega), n6 (by omega)]
        simp only [Option.bind_some]
        rw [w64 (by omega) (by omega), Int.emod_eq_of_lt r4.1 r4.2, Int.emod_eq_of_lt r6.1 r6.2]
      rw [if_pos ((magic l hb (by omega)).mpr h2), if_pos h2, n2 (by omega)]
      simp only [Option.bind_some]
      by_cases h3 : at_ l 6 2 = 1
      · rw [if_pos h3, if_pos (.inl h3)]; exact J0
      · rw [if_neg h3]
        by_cases h4 : at_ l 6 2 = 2
        · rw [if_pos (.inr h4), bne_eq_false_iff_eq.mpr h4]; exact J0
        · rw [if_neg (by omega), bne_iff_ne.mpr h4, trunklineref08_TakeArp.j0, if_pos rfl]
    · rw [if_neg (fun h => h2 ((magic l hb (by omega)).mp h)), if_neg h2]
theorem putArp_bytes (op fm fi tm ti : Int) : ∀ x ∈ (putArpS op fm fi tm ti).1, 0 ≤ x ∧ x ≤ 255 := by
  unfold putArpS
  split
  · intro x hx
    simp only [List.mem_append] at hx
    rcases hx with h | h | h | h | h | h <;> exact bytesL_range _ _ x h
  · simp
theorem takeArp_put (op fm fi tm ti : Int) (more : List Int) (h1 : 0 ≤ fm) (h2 : 0 ≤ fi) (h2' : fi ≤ 4294967295) (h3 : 0 ≤ tm) (h4 : 0 ≤ ti) (h4' : ti ≤ 4294967295) (h : (putArpS op fm fi tm ti).2 = 0) :
    (putArpS op fm fi tm ti).1.length = 28 ∧ takeArpS ((putArpS op fm fi tm ti).1 ++ more) = (op, fm, fi, tm, ti, 0) := by
  unfold putArpS at h ⊢
  by_cases hc : (1 ≤ op ∧ op ≤ 2) ∧ fm < 281474976710656 ∧ tm < 281474976710656
  · rw [if_pos hc]
    refine ⟨by simp [bytesL_length], ?_⟩
    have p2' : (256 : Int) ^ 2 = 65536 := by decide
    have p4' : (256 : Int) ^ 4 = 4294967296 := by decide
    have p6' : (256 : Int) ^ 6 = 281474976710656 := by decide
    simp only [List.append_assoc]
    have hlen : (bytesL 4429186564 6 ++ (bytesL op 2 ++ (bytesL fm 6 ++ (bytesL fi 4 ++ (bytesL tm 6 ++ (bytesL ti 4 ++ more)))))).length = 28 + more.length := by simp [bytesL_length]; omega
    have e0 : at_ (bytesL 4429186564 6 ++ (bytesL op 2 ++ (bytesL fm 6 ++ (bytesL fi 4 ++ (bytesL tm 6 ++ (bytesL ti 4 ++ more)))))) 0 6 = 4429186564 := at_here _ _ _ (by decide) (by decide)
    have e1 : at_ (bytesL 4429186564 6 ++ (bytesL op 2 ++ (bytesL fm 6 ++ (bytesL fi 4 ++ (bytesL tm 6 ++ (bytesL ti 4 ++ more)))))) 6 2 = op := by
      rw [at_next _ _ _ _ _ (by decide)]
      exact at_here _ _ _ (by omega) (by rw [p2']; omega)
    have e2 : at_ (bytesL 4429186564 6 ++ (bytesL op 2 ++ (bytesL fm 6 ++ (bytesL fi 4 ++ (bytesL tm 6 ++ (bytesL ti 4 ++ more)))))) 8 6 = fm := by
      rw [at_next _ _ _ _ _ (by decide), at_next _ _ _ _ _ (by decide)]
      exact at_here _ _ _ h1 (by rw [p6']; omega)
    have e3 : at_ (bytesL 4429186564 6 ++ (bytesL op 2 ++ (bytesL fm 6 ++ (bytesL fi 4 ++ (bytesL tm 6 ++ (bytesL ti 4 ++ more)))))) 14 4 = fi := by
      rw [at_next _ _ _ _ _ (by decide), at_next _ _ _ _ _ (by decide), at_next _ _ _ _ _ (by decide)]
      exact at_here _ _ _ h2 (by rw [p4']; omega)
    have e4 : at_ (bytesL 4429186564 6 ++ (bytesL op 2 ++ (bytesL fm 6 ++ (bytesL fi 4 ++ (bytesL tm 6 ++ (bytesL ti 4 ++ more)))))) 18 6 = tm := by
      rw [at_next _ _ _ _ _ (by decide), at_next _ _ _ _ _ (by decide), at_next _ _ _ _ _ (by decide), at_next _ _ _ _ _ (by decide)]
      exact at_here _ _ _ h3 (by rw [p6']; omega)
    have e5 : at_ (bytesL 4429186564 6 ++ (bytesL op 2 ++ (bytesL fm 6 ++ (bytesL fi 4 ++ (bytesL tm 6 ++ (bytesL ti 4 ++ more)))))) 24 4 = ti := by
      rw [at_next _ _ _ _ _ (by decide), at_next _ _ _ _ _ (by decide), at_next _ _ _ _ _ (by decide), at_next _ _ _ _ _ (by decide), at_next _ _ _ _ _ (by decide)]
      exact at_here _ _ _ h4 (by rw [p4']; omega)
    unfold takeArpS
    rw [hlen, if_neg (by omega), e0, e1, e2, e3, e4, e5, if_pos rfl, if_pos (by omega)]
  · rw [if_neg hc] at h; exact absurd h (by decide)
end Go.Proofs.Ytnfbbnmdlcmifaa.Pure
