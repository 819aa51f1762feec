/- Frames as bytes: what ether.Put, the document's own and live tell, in plain Lean. -/
import Derived.Test.YtnfbbnmdlcmifaaPNumA
import Derived.Test.YtnfbbnmdlcmifaaM8
import Derived.Test.YtnfbbnmdlcmifaaM10
namespace Go.Proofs.Ytnfbbnmdlcmifaa.Pure
open Go.RowKit Go.Proofs.Ytnfbbnmdlcmifaa.M Go.Proofs.YtnfbbnmdlcmifaaW.PrintWords Go.Proofs.YtnfbbnmdlcmifaaW.PrintLast Go.Proofs.YtnfbbnmdlcmifaaW.PrintMore
set_option linter.unusedVariables false
set_option linter.unusedSimpArgs false

/-- Numbers' bytes one behind the other. -/
def layL : List S53 → List Int
  | [] => []
  | x :: xs => bytesL x.f1 x.f0.toNat ++ layL xs
def okP (x : S53) : Prop := 1 ≤ x.f0 ∧ x.f0 ≤ 8 ∧ 0 ≤ x.f1 ∧ x.f1 < 256 ^ x.f0.toNat

theorem okP_mk {n v : Int} (h1 : 1 ≤ n) (h8 : n ≤ 8) (h0 : 0 ≤ v) (hv : v < 256 ^ n.toNat) : okP ⟨n, v⟩ := ⟨h1, h8, h0, hv⟩
theorem layL_len : ∀ l : List S53, (∀ x ∈ l, okP x) → (layL l).length ≤ 8 * l.length
  | [], _ => by simp [layL]
  | x :: xs, h => by
    have h1 := layL_len xs (fun y hy => h y (by simp [hy]))
    have h2 := (h x (by simp)).2.1
    simp only [layL, List.length_append, bytesL_length, List.length_cons]
    omega
theorem pow_mono {n : Nat} (h : n ≤ 8) {v : Int} (hv : v < 256 ^ n) : v < 18446744073709551616 := by
  have := (pow256 n h).2
  omega
theorem bytes_ok {v n : Int} (h1 : 1 ≤ n) (h8 : n ≤ 8) (h0 : 0 ≤ v) (hv : v < 256 ^ n.toNat) : bytesS v n = (bytesL v n.toNat, 0) := by
  unfold bytesS
  rw [if_pos ⟨h1, h8⟩, if_neg]
  rw [Int.ediv_eq_zero_of_lt h0 hv]
  decide
theorem lay_l0 (l : List S53) (hl : l.length ≤ 1000) (ho : ∀ x ∈ l, okP x) : ∀ (d i k : Nat) (b : List Int), i + d = l.length → d + 11 ≤ k → b.length + 8 * d < 140737488355328 → ether_lay.l0 k b l (l.length : Int) (i : Int) = some (b ++ layL (l.drop i))
  | 0, i, k, b, hi, hk, hb => by
    obtain ⟨k, rfl⟩ : ∃ m, k = m + 1 := ⟨k - 1, by omega⟩
    have : i = l.length := by omega
    subst this
    simp [ether_lay.l0, layL]
  | d + 1, i, k, b, hi, hk, hb => by
    obtain ⟨k, rfl⟩ : ∃ m, k = m + 1 := ⟨k - 1, by omega⟩
    have hi' : i < l.length := by omega
    obtain ⟨o1, o2, o3, o4⟩ := ho l[i] (List.getElem_mem hi')
    have e : rd_T53 l (i : Int) = l[i] := by simp [rd_T53, List.getD, hi']
    have hlen : (bytesL l[i].f1 l[i].f0.toNat).length ≤ 8 := by rw [bytesL_length]; omega
    simp only [ether_lay.l0]
    rw [if_pos (by omega), if_pos (by omega), if_pos (by omega), e, w64 (x := l[i].f0) (by omega) (by omega), bytes_f _ _ o3 (pow_mono (by omega) o4) (i64_wf (by omega) (by omega)) (by omega), bytes_ok o1 o2 o3 o4]
    simp only [Option.bind_some]
    rw [if_pos (by omega), w64 (by omega) (by omega), show ((i : Int) + 1) = ((i + 1 : Nat) : Int) by omega, lay_l0 l hl ho d (i + 1) k _ (by omega) (by omega) (by rw [List.length_append]; omega)]
    rw [List.drop_eq_getElem_cons hi', layL, List.append_assoc]
theorem lay_f (b : List Int) (l : List S53) (hl : l.length ≤ 1000) (ho : ∀ x ∈ l, okP x) (hb : b.length ≤ 140737488000000) {k : Nat} (hk : l.length + 11 ≤ k) : ether_lay.f k b l = some (b ++ layL l) := by
  have := lay_l0 l hl ho l.length 0 k b (by omega) hk (by omega)
  simpa [ether_lay.f] using this

theorem card1 (a : Int) (h0 : 0 ≤ a) : ether_card.f [a] = some (decide (a < 281474976710656)) := by
  unfold ether_card.f
  rw [if_pos (by simp)]
  by_cases h : a < 281474976710656
  · have : a / 281474976710656 = 0 := by omega
    simp [cardI, this, h]
  · have : ¬ a / 281474976710656 = 0 := by omega
    simp [cardI, this, h]
theorem card2 (a b : Int) (h0 : 0 ≤ a) (h1 : 0 ≤ b) : ether_card.f [a, b] = some (decide (a < 281474976710656 ∧ b < 281474976710656)) := by
  unfold ether_card.f
  rw [if_pos (by simp)]
  by_cases h : a < 281474976710656
  · have ha : a / 281474976710656 = 0 := by omega
    by_cases h2 : b < 281474976710656
    · have : b / 281474976710656 = 0 := by omega
      simp [cardI, ha, this, h, h2]
    · have : ¬ b / 281474976710656 = 0 := by omega
      simp [cardI, ha, this, h, h2]
  · have : ¬ a / 281474976710656 = 0 := by omega
    simp [cardI, this, h]

/-- What Put tells. -/
def putS (tt frm kind : Int) (body : List Int) : List Int × Int :=
  if tt < 281474976710656 ∧ frm < 281474976710656 ∧ 1536 ≤ kind then (if body.length > 1500 then ([], 6) else (bytesL tt 6 ++ (bytesL frm 6 ++ (bytesL kind 2 ++ body)), 0)) else ([], 2)

theorem p6 : (256 : Int) ^ (6 : Int).toNat = 281474976710656 := by decide
theorem p2 : (256 : Int) ^ (2 : Int).toNat = 65536 := by decide
theorem p4 : (256 : Int) ^ (4 : Int).toNat = 4294967296 := by decide

theorem put_f (tt frm kind : Int) (body : List Int) (h0 : 0 ≤ tt) (h1 : 0 ≤ frm) (h2 : 0 ≤ kind) (h3 : kind ≤ 65535) {k : Nat} (hk : 20 ≤ k) : ether_Put.f k tt frm kind body = some (putS tt frm kind body) := by
  obtain ⟨k, rfl⟩ : ∃ m, k = m + 1 := ⟨k - 1, by omega⟩
  unfold ether_Put.f putS
  rw [card2 tt frm h0 h1]
  simp only [Option.bind_some]
  by_cases h : tt < 281474976710656 ∧ frm < 281474976710656
  · rw [decide_eq_true h, if_pos rfl]
    by_cases hk2 : kind < 1536
    · rw [decide_eq_true hk2, ether_Put.j0, if_pos rfl, if_neg (c := tt < 281474976710656 ∧ frm < 281474976710656 ∧ 1536 ≤ kind) (by omega)]
    · rw [decide_eq_false hk2, ether_Put.j0, if_neg (by decide), if_pos (c := tt < 281474976710656 ∧ frm < 281474976710656 ∧ 1536 ≤ kind) (by omega)]
      by_cases hb : body.length > 1500
      · rw [if_pos (by omega), if_pos hb]
      · rw [if_neg (by omega), if_neg hb, wrapu h2 (by omega)]
        rw [lay_f [] _ (by simp) (by
          intro x hx
          simp only [List.mem_cons, List.not_mem_nil, or_false] at hx
          rcases hx with rfl | rfl | rfl
          · exact okP_mk (by decide) (by decide) h0 (by rw [p6]; omega)
          · exact okP_mk (by decide) (by decide) h1 (by rw [p6]; omega)
          · exact okP_mk (by decide) (by decide) h2 (by rw [p2]; omega)) (by simp) (by simp; omega)]
        simp only [Option.bind_some, List.nil_append, layL, List.append_nil]
        have e6 : (6 : Int).toNat = 6 := rfl
        have e2 : (2 : Int).toNat = 2 := rfl
        rw [e6, e2, if_pos (by simp only [List.length_append, bytesL_length]; omega)]
        simp only [List.append_assoc]
  · rw [decide_eq_false h, if_neg (by decide), ether_Put.j0, if_pos rfl, if_neg (c := tt < 281474976710656 ∧ frm < 281474976710656 ∧ 1536 ≤ kind) (by omega)]

theorem rlay_f (b : List Int) (v n : Int) (h1 : 1 ≤ n) (h8 : n ≤ 8) (h0 : 0 ≤ v) (hv : v < 256 ^ n.toNat) (hb : b.length ≤ 140737488000000) {k : Nat} (hk : 10 ≤ k) : trunklineref01_Lay.f k b v n = some (b ++ bytesL v n.toNat) := by
  unfold trunklineref01_Lay.f
  rw [rbytes_f _ _ h0 (pow_mono (by omega) hv) (i64_wf (by omega) (by omega)) hk, bytes_ok h1 h8 h0 hv]
  simp only [Option.bind_some]
  rw [if_pos (by rw [bytesL_length]; omega)]

theorem rput_f (tt frm kind : Int) (body : List Int) (h0 : 0 ≤ tt) (h1 : 0 ≤ frm) (h2 : 0 ≤ kind) (h3 : kind ≤ 65535) {k : Nat} (hk : 20 ≤ k) : trunklineref08_Put.f k tt frm kind body = some (putS tt frm kind body) := by
  obtain ⟨k, rfl⟩ : ∃ m, k = m + 1 := ⟨k - 1, by omega⟩
  unfold trunklineref08_Put.f putS trunklineref08_card.f
  simp only [Option.bind_some]
  by_cases ha : tt < 281474976710656
  · rw [decide_eq_true ha, if_pos rfl]
    by_cases hb : frm < 281474976710656
    · rw [decide_eq_true hb, if_pos rfl]
      by_cases hk2 : kind < 1536
      · rw [decide_eq_true hk2, trunklineref08_Put.j0, if_pos rfl, if_neg (c := tt < 281474976710656 ∧ frm < 281474976710656 ∧ 1536 ≤ kind) (by omega)]
      · rw [decide_eq_false hk2, trunklineref08_Put.j0, if_neg (by decide), if_pos (c := tt < 281474976710656 ∧ frm < 281474976710656 ∧ 1536 ≤ kind) (by omega)]
        by_cases hl : body.length > 1500
        · rw [if_pos (by omega), if_pos hl]
        · have e6 : (6 : Int).toNat = 6 := rfl
          have e2 : (2 : Int).toNat = 2 := rfl
          rw [if_neg (by omega), if_neg hl, wrapu h2 (by omega)]
          rw [rlay_f _ _ _ (by decide) (by decide) h0 (by rw [p6]; omega) (by simp) (by omega)]
          simp only [Option.bind_some, List.nil_append]
          rw [rlay_f _ _ _ (by decide) (by decide) h1 (by rw [p6]; omega) (by rw [bytesL_length]; decide) (by omega)]
          simp only [Option.bind_some]
          rw [rlay_f _ _ _ (by decide) (by decide) h2 (by rw [p2]; omega) (by rw [List.length_append, bytesL_length, bytesL_length]; decide) (by omega)]
          simp only [Option.bind_some]
          rw [e6, e2, if_pos (by simp only [List.length_append, bytesL_length]; omega)]
          simp only [List.append_assoc]
    · rw [decide_eq_false hb, if_neg (by decide), trunklineref08_Put.j0, if_pos rfl, if_neg (c := tt < 281474976710656 ∧ frm < 281474976710656 ∧ 1536 ≤ kind) (by omega)]
  · rw [decide_eq_false ha, if_neg (by decide), trunklineref08_Put.j0, if_pos rfl, if_neg (c := tt < 281474976710656 ∧ frm < 281474976710656 ∧ 1536 ≤ kind) (by omega)]

theorem live_at : trunklinelaw08_live.f 30 = some true := by kernel_rfl
theorem live_f {k : Nat} (hk : 30 ≤ k) : trunklinelaw08_live.f k = some true := up_ trunklinelaw08_live.mono hk live_at
end Go.Proofs.Ytnfbbnmdlcmifaa.Pure
