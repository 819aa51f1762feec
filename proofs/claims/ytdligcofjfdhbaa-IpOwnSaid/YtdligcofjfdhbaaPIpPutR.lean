/- Packets as bytes: what the document's own Put tells, in plain Lean. -/
import Derived.Test.YtdligcofjfdhbaaPIpPut
import Derived.Test.YtdligcofjfdhbaaM15
namespace Go.Proofs.Ytdligcofjfdhbaa.Pure
open Go.RowKit Go.Proofs.Ytdligcofjfdhbaa.M Go.Proofs.YtdligcofjfdhbaaW.PrintWords Go.Proofs.YtdligcofjfdhbaaW.PrintLast Go.Proofs.YtdligcofjfdhbaaW.PrintMore
set_option linter.unusedVariables false
set_option linter.unusedSimpArgs false

theorem rcheck_f (a0 a1 a2 a3 a4 : Int) (a5 a6 : Bool) (off : Int) (l : List Int) (ho : -9223372036854775808 ≤ off ∧ off ≤ 9223372036854775807) (hl : l.length ≤ 140737488355328) {k : Nat} (hk : 1 ≤ k) : trunklineref10_Check.f k a0 a1 a2 a3 a4 a5 a6 off l = some (mayS a6 off l.length) := by
  obtain ⟨k, rfl⟩ : ∃ m, k = m + 1 := ⟨k - 1, by omega⟩
  unfold trunklineref10_Check.f mayS
  have J : ∀ b, trunklineref10_Check.j0 (k + 1) b a0 a1 a2 a3 a4 a5 a6 off l = if b = true then some 2 else if (l.length : Int) > 65535 then some 6 else if wrap64 (wrap64 (off + l.length) + 20) > 65535 then some 6 else some 0 := fun b => rfl
  have Q : 0 ≤ off → off ≤ 65528 → (if (l.length : Int) > 65535 then some (6 : Int) else if wrap64 (wrap64 (off + l.length) + 20) > 65535 then some 6 else some 0) = some (if (l.length : Int) > 65515 - off then 6 else 0) := by
    intro g1 g2
    rw [w64 (x := off + l.length) (by omega) (by omega), w64 (by omega) (by omega)]
    by_cases g : (l.length : Int) > 65535
    · rw [if_pos g, if_pos (by omega)]
    · rw [if_neg g]
      by_cases g3 : off + (l.length : Int) + 20 > 65535
      · rw [if_pos g3, if_pos (by omega)]
      · rw [if_neg g3, if_neg (by omega)]
  by_cases h1 : off < 0
  · rw [if_pos h1, J, if_pos rfl, if_pos (.inl h1)]
  · rw [if_neg h1]
    by_cases h2 : off > 65528
    · rw [if_pos h2, J, if_pos rfl, if_pos (.inr (.inl h2))]
    · rw [if_neg h2, tmod8 (by omega)]
      by_cases h3 : off % 8 = 0
      · rw [if_pos h3]
        cases a6
        · rw [if_neg (by decide), J, if_neg (by decide), Q (by omega) (by omega), if_neg (c := off < 0 ∨ _) (by simp; omega)]
        · rw [if_pos rfl, J]
          by_cases h4 : (l.length : Int) % 8 = 0
          · rw [if_neg (by simp [h4]), Q (by omega) (by omega), if_neg (c := off < 0 ∨ _) (by simp; omega)]
          · rw [if_pos (by simp [h4]), if_pos (c := off < 0 ∨ _) (by simp; omega)]
      · rw [if_neg h3, J, if_pos rfl, if_pos (.inr (.inr (.inl h3)))]

theorem rput_j1 (src dst proto ttl id : Int) (dont more : Bool) (off w : Int) (body : List Int) (s1 : 0 ≤ src ∧ src ≤ 4294967295) (s2 : 0 ≤ dst ∧ dst ≤ 4294967295) (s3 : 0 ≤ proto ∧ proto ≤ 255) (s4 : 0 ≤ ttl ∧ ttl ≤ 255) (s5 : 0 ≤ id ∧ id ≤ 65535) (hw : 0 ≤ w ∧ w ≤ 65535) (hb : body.length ≤ 65515) {k : Nat} (hk : 60 ≤ k) :
    trunklineref10_Put.j1 k w src dst proto ttl id dont more off body = some (headA body.length id w ttl proto ++ (bytesL (netS (headA body.length id w ttl proto ++ headE src dst)) 2 ++ (headE src dst ++ body)), 0) := by
  obtain ⟨k, rfl⟩ : ∃ m, k = m + 1 := ⟨k - 1, by omega⟩
  have eA : [69, 0] ++ bytesL (20 + (body.length : Int)) 2 ++ bytesL id 2 ++ bytesL w 2 ++ [ttl, proto] = headA body.length id w ttl proto := by
    have e1 : bytesL ttl 1 = [ttl] := by simp [bytesL]; omega
    have e2 : bytesL proto 1 = [proto] := by simp [bytesL]; omega
    have e3 : bytesL 17664 2 = [69, 0] := by decide
    simp [headA, e1, e2, e3]
  have eE : [] ++ bytesL src 4 ++ bytesL dst 4 = headE src dst := by simp [headE]
  have t2 : (2 : Int).toNat = 2 := rfl
  have t4 : (4 : Int).toNat = 4 := rfl
  have hA := headA_len body.length id w ttl proto
  have hE := headE_len src dst
  have hn := netS_range (headA body.length id w ttl proto ++ headE src dst)
  rw [trunklineref10_Put.j1]
  rw [w64 (x := 20 + (body.length : Int)) (by omega) (by omega), wrapu (x := 20 + (body.length : Int)) (by omega) (by omega), wrapu (x := id) (by omega) (by omega), wrapu (x := w) (by omega) (by omega), wrapu (x := src) (by omega) (by omega), wrapu (x := dst) (by omega) (by omega)]
  rw [rlay_f _ (20 + (body.length : Int)) 2 (by decide) (by decide) (by omega) (by rw [p2]; omega) (by simp) (by omega)]
  simp only [Option.bind_some, t2, t4]
  rw [rlay_f _ id 2 (by decide) (by decide) (by omega) (by rw [p2]; omega) (by simp [bytesL_length]) (by omega)]
  simp only [Option.bind_some, t2, t4]
  rw [rlay_f _ w 2 (by decide) (by decide) (by omega) (by rw [p2]; omega) (by simp [bytesL_length]) (by omega)]
  simp only [Option.bind_some, t2, t4]
  rw [if_pos (by simp [bytesL_length]), eA]
  rw [rlay_f _ src 4 (by decide) (by decide) (by omega) (by rw [p4]; omega) (by simp) (by omega)]
  simp only [Option.bind_some, t2, t4]
  rw [rlay_f _ dst 4 (by decide) (by decide) (by omega) (by rw [p4]; omega) (by simp [bytesL_length]) (by omega)]
  simp only [Option.bind_some, t2, t4]
  rw [eE, if_pos (by simp [hA])]
  simp only [List.nil_append]
  rw [if_pos (by omega), rnet_f _ (by
    intro x hx
    rcases List.mem_append.mp hx with h | h
    · exact headA_rng _ _ _ _ _ x h
    · exact headE_rng _ _ x h) (by rw [List.length_append]; omega) (by rw [List.length_append]; omega)]
  simp only [Option.bind_some]
  rw [wrapu (x := netS _) (by omega) (by omega), rlay_f _ (netS _) 2 (by decide) (by decide) hn.1 (by rw [p2]; omega) (by omega) (by omega)]
  simp only [Option.bind_some, t2, t4]
  rw [if_pos (by rw [List.length_append, bytesL_length]; omega), if_pos (by rw [List.length_append, List.length_append, bytesL_length]; omega)]
  simp only [List.append_assoc]
theorem rput_f (src dst proto ttl id : Int) (dont more : Bool) (off : Int) (body : List Int) (s1 : 0 ≤ src ∧ src ≤ 4294967295) (s2 : 0 ≤ dst ∧ dst ≤ 4294967295) (s3 : 0 ≤ proto ∧ proto ≤ 255) (s4 : 0 ≤ ttl ∧ ttl ≤ 255) (s5 : 0 ≤ id ∧ id ≤ 65535) (ho : -9223372036854775808 ≤ off ∧ off ≤ 9223372036854775807) (hl : body.length ≤ 140737488355328) {k : Nat} (hk : 70 ≤ k) :
    trunklineref10_Put.f k src dst proto ttl id dont more off body = some (putS src dst proto ttl id dont more off body) := by
  obtain ⟨k, rfl⟩ : ∃ m, k = m + 1 := ⟨k - 1, by omega⟩
  unfold trunklineref10_Put.f putS
  rw [rcheck_f src dst proto ttl id dont more off body ho hl (by omega)]
  simp only [Option.bind_some]
  by_cases h : mayS more off body.length = 0
  · obtain ⟨m1, m2, m3, m4, m5⟩ := mayS_zero h
    rw [if_pos h, if_pos h, tdiv8 m1, w64 (x := off / 8) (by omega) (by omega)]
    unfold sumP
    cases dont
    · rw [if_neg (by decide), trunklineref10_Put.j0]
      cases more
      · rw [if_neg (by decide), rput_j1 src dst proto ttl id _ _ off _ body s1 s2 s3 s4 s5 (by omega) (by omega) (by omega)]
        simp [wordS]
      · rw [if_pos rfl, w64 (by omega) (by omega), rput_j1 src dst proto ttl id _ _ off _ body s1 s2 s3 s4 s5 (by omega) (by omega) (by omega)]
        simp [wordS]
    · rw [if_pos rfl, w64 (by omega) (by omega), trunklineref10_Put.j0]
      cases more
      · rw [if_neg (by decide), rput_j1 src dst proto ttl id _ _ off _ body s1 s2 s3 s4 s5 (by omega) (by omega) (by omega)]
        simp [wordS]
      · rw [if_pos rfl, w64 (by omega) (by omega), rput_j1 src dst proto ttl id _ _ off _ body s1 s2 s3 s4 s5 (by omega) (by omega) (by omega)]
        simp [wordS]
  · rw [if_neg h, if_neg h]
end Go.Proofs.Ytdligcofjfdhbaa.Pure
