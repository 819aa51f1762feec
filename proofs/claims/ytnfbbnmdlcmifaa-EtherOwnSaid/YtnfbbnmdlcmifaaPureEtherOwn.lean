/- EtherOwn: the plain law. -/
import Derived.Test.YtnfbbnmdlcmifaaM24
import Derived.Test.YtnfbbnmdlcmifaaPEther2
namespace Go.Proofs.Ytnfbbnmdlcmifaa.Pure
open Go.RowKit Go.Proofs.Ytnfbbnmdlcmifaa.M Go.Proofs.YtnfbbnmdlcmifaaW.PrintWords Go.Proofs.YtnfbbnmdlcmifaaW.PrintLast
set_option linter.unusedVariables false

theorem own_l1 (tt frm kind : Int) (body : List Int) (h0 : 0 ≤ tt) (h1 : 0 ≤ frm) (h2 : 0 ≤ kind) (h3 : kind ≤ 65535) (a b c : Int) : ∀ (d i k : Nat) (xs : List Int), i + d = xs.length → xs.length ≤ 9000000000000000000 → d + 40 ≤ k →
    trunklinelaw08_EtherOwn.l1 k (strOfNums body) (putS tt frm kind body).1 (i : Int) tt frm kind body a b c xs = some true
  | 0, i, k, xs, hi, hl, hk => by
    obtain ⟨k, rfl⟩ : ∃ m, k = m + 1 := ⟨k - 1, by omega⟩
    rw [trunklinelaw08_EtherOwn.l1, if_neg (by omega), rput_f _ _ _ _ h0 h1 h2 h3 (by omega), live_f (by omega)]
    simp
  | d + 1, i, k, xs, hi, hl, hk => by
    obtain ⟨k, rfl⟩ : ∃ m, k = m + 1 := ⟨k - 1, by omega⟩
    rw [trunklinelaw08_EtherOwn.l1, if_pos (by omega), if_pos (by omega), w64 (by omega) (by omega), show ((i : Int) + 1) = ((i + 1 : Nat) : Int) by omega]
    exact own_l1 tt frm kind body h0 h1 h2 h3 a b c d (i + 1) k _ (by rw [List.length_set]; omega) (by rw [List.length_set]; omega) (by omega)
theorem own_l0 (tt frm kind : Int) (body : List Int) (h0 : 0 ≤ tt) (h1 : 0 ≤ frm) (h2 : 0 ≤ kind) (h3 : kind ≤ 65535) (hb : ∀ x ∈ body, 0 ≤ x ∧ x ≤ 255) : ∀ (d i k : Nat) (xs : List Int), i + d = xs.length → xs.length ≤ 9000000000000000000 → d + 2000 ≤ k →
    trunklinelaw08_EtherOwn.l0 k (strOfNums body) xs (i : Int) tt frm kind body = some true
  | 0, i, k, xs, hi, hl, hk => by
    obtain ⟨k, rfl⟩ : ∃ m, k = m + 1 := ⟨k - 1, by omega⟩
    rw [trunklinelaw08_EtherOwn.l0, if_neg (by omega), rput_f _ _ _ _ h0 h1 h2 h3 (by omega)]
    simp only [Option.bind_some]
    rw [take_f _ (putS_bytes _ _ _ _ hb) (by omega)]
    simp only [Option.bind_some]
    have hlen : (takeS (putS tt frm kind body).1).2.2.2.1.length ≤ 1500 := by
      unfold takeS
      split
      · simp
      · split
        · simp
        · split
          · simp
          · simp only [List.length_drop]; omega
    exact own_l1 tt frm kind body h0 h1 h2 h3 _ _ _ _ 0 k _ (Nat.zero_add _) (by omega) (by omega)
  | d + 1, i, k, xs, hi, hl, hk => by
    obtain ⟨k, rfl⟩ : ∃ m, k = m + 1 := ⟨k - 1, by omega⟩
    rw [trunklinelaw08_EtherOwn.l0, if_pos (by omega), if_pos (by omega), w64 (by omega) (by omega), show ((i : Int) + 1) = ((i + 1 : Nat) : Int) by omega]
    exact own_l0 tt frm kind body h0 h1 h2 h3 hb d (i + 1) k _ (by rw [List.length_set]; omega) (by rw [List.length_set]; omega) (by omega)
theorem EtherOwn : trunklinelaw08_EtherOwn.Pure := by
  intro tt frm kind body h1 h2 h3 _ hl hbo
  have h1' := wf_u64 h1
  have h2' := wf_u64 h2
  have h3' := wf_u16 h3
  have hlen : (putS tt frm kind body).1.length ≤ 1514 := by
    unfold putS
    split
    · split
      · simp
      · simp only [List.length_append, bytesL_length]; omega
    · simp
  obtain ⟨K, hK⟩ : ∃ K, K = (putS tt frm kind body).1.length + 2000 := ⟨_, rfl⟩
  refine ⟨K, ?_⟩
  unfold trunklinelaw08_EtherOwn.f
  rw [put_f _ _ _ _ (by omega) (by omega) (by omega) (by omega) (by omega)]
  simp only [Option.bind_some]
  have := own_l0 tt frm kind body (by omega) (by omega) (by omega) (by omega) (wf_bytes hbo) (putS tt frm kind body).1.length 0 K (putS tt frm kind body).1 (by omega) (by omega) (by omega)
  exact this

end Go.Proofs.Ytnfbbnmdlcmifaa.Pure
