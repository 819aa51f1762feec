/- OctetOrders: the plain law. -/
import Derived.Test.YtndoankacnjhoaaM4
import Derived.Test.YtndoankacnjhoaaPNum
import Derived.Lib.Strings
namespace Go.Proofs.Ytndoankacnjhoaa.Pure
open Go.RowKit Go.Proofs.Ytndoankacnjhoaa.M Go.Proofs.YtndoankacnjhoaaW.PrintWords Go.Proofs.YtndoankacnjhoaaW.PrintLast

theorem less_app : ∀ (xs ys : List UInt8) (a b : UInt8), xs.length = ys.length → Op.bytesLess (xs ++ [a]) (ys ++ [b]) = (Op.bytesLess xs ys || (xs == ys && decide (a < b)))
  | [], [], a, b, _ => by
    simp [Op.bytesLess]
  | x :: xs, y :: ys, a, b, h => by
    have ih := less_app xs ys a b (by simpa using h)
    simp only [List.cons_append, Op.bytesLess, ih, List.cons_beq_cons]
    by_cases h1 : x < y
    · simp [h1]
    · by_cases h2 : x = y
      · subst h2; simp [h1]
      · have e : (x == y) = false := beq_eq_false_iff_ne.2 h2
        simp [h1, e]
  | [], _ :: _, _, _, h => by simp at h
  | _ :: _, [], _, _, h => by simp at h
theorem nums_inj (n : Nat) : ∀ (v w : Int), 0 ≤ v → 0 ≤ w → v < 256 ^ n → w < 256 ^ n → bytesL v n = bytesL w n → v = w := by
  intro v w h0 h1 h2 h3 h
  rw [← numL_bytesL n v h0 h2, ← numL_bytesL n w h1 h3, h]
theorem toL (xs : List Int) : (strOfNums xs).toList = xs.map fun n => UInt8.ofNat n.toNat := by
  have : ∀ (s : ByteArray), s.toList = s.data.toList := fun s => by rw [Go.Lib.toList_data]
  rw [this]; rfl
theorem ofNat_lt (a b : Int) (ha : 0 ≤ a) (ha1 : a ≤ 255) (hb : 0 ≤ b) (hb1 : b ≤ 255) : decide (UInt8.ofNat a.toNat < UInt8.ofNat b.toNat) = decide (a < b) := by
  have : (UInt8.ofNat a.toNat < UInt8.ofNat b.toNat) ↔ a < b := by
    rw [UInt8.lt_iff_toNat_lt]
    simp only [UInt8.toNat_ofNat']
    omega
  simp [this]
theorem ofNat_inj (xs ys : List Int) (hx : ∀ x ∈ xs, 0 ≤ x ∧ x ≤ 255) (hy : ∀ x ∈ ys, 0 ≤ x ∧ x ≤ 255) (h : (xs.map fun n => UInt8.ofNat n.toNat) = ys.map fun n => UInt8.ofNat n.toNat) : xs = ys := by
  have g : ∀ (zs : List Int), (∀ x ∈ zs, 0 ≤ x ∧ x ≤ 255) → ((zs.map fun n => UInt8.ofNat n.toNat).map fun b => (b.toNat : Int)) = zs := by
    intro zs hz
    rw [List.map_map]
    conv => rhs; rw [← List.map_id zs]
    apply List.map_congr_left
    intro x hx
    have := hz x hx
    simp only [Function.comp, id, UInt8.toNat_ofNat']
    omega
  rw [← g xs hx, ← g ys hy, h]
theorem less_bytes : ∀ (n : Nat) (v w : Int), 0 ≤ v → 0 ≤ w → v < 256 ^ n → w < 256 ^ n → Op.bytesLess (strOfNums (bytesL v n)).toList (strOfNums (bytesL w n)).toList = decide (v < w)
  | 0, v, w, h0, h1, h2, h3 => by
    simp at h2 h3
    rw [toL, toL]
    simp [bytesL, Op.bytesLess]; omega
  | n + 1, v, w, h0, h1, h2, h3 => by
    have ih := less_bytes n (v / 256) (w / 256) (by omega) (by omega) (by rw [Int.pow_succ] at h2; omega) (by rw [Int.pow_succ] at h3; omega)
    rw [toL, toL] at ih ⊢
    simp only [bytesL, List.map_append, List.map_cons, List.map_nil]
    rw [less_app _ _ _ _ (by simp [bytesL_length]), ih, ofNat_lt _ _ (by omega) (by omega) (by omega) (by omega)]
    by_cases h : v / 256 = w / 256
    · rw [h]
      simp only [beq_self_eq_true, Bool.true_and]
      by_cases h4 : v % 256 < w % 256
      · simp [h4]; omega
      · simp [h4]; omega
    · have : ((bytesL (v / 256) n).map fun n => UInt8.ofNat n.toNat) ≠ (bytesL (w / 256) n).map fun n => UInt8.ofNat n.toNat := by
        intro he
        exact h (nums_inj n _ _ (by omega) (by omega) (by rw [Int.pow_succ] at h2; omega) (by rw [Int.pow_succ] at h3; omega) (ofNat_inj _ _ (bytesL_range _ _) (bytesL_range _ _) he))
      rw [beq_eq_false_iff_ne.2 this]
      simp only [Bool.false_and, Bool.or_false]
      by_cases h4 : v / 256 < w / 256
      · simp [h4]; omega
      · simp [h4]; omega

theorem OctetOrders : trunklinelaw01_OctetOrders.Pure := by
  intro v w n hv hw hn
  have hv' := wf_u64 hv
  have hw' := wf_u64 hw
  obtain ⟨K1, h1⟩ := bytes_ev v n (by omega) (by omega) hn
  obtain ⟨K2, h2⟩ := bytes_ev w n (by omega) (by omega) hn
  obtain ⟨K3, h3⟩ := live_ev
  have hs := bytesS_len v n
  have hs' := bytesS_len w n
  simp only at h1 h2 h3
  refine ⟨max K1 (max K2 K3) + 1, ?_⟩
  unfold trunklinelaw01_OctetOrders.f
  rw [h1 _ (by omega), h2 _ (by omega)]
  simp only [Option.bind_some]
  have jt : trunklinelaw01_OctetOrders.j0 (max K1 (max K2 K3) + 1) v w (bytesS v n).1 (bytesS w n).1 true = some (decide (wrap64 (((bytesS v n).1.length : Int) + ((bytesS w n).1.length : Int)) ≤ 8)) := by
    rw [trunklinelaw01_OctetOrders.j0, h3 _ (by omega)]; rfl
  have hlim : ¬ ((bytesS v n).2 = 0 ∧ (bytesS w n).2 = 0) → decide (wrap64 (((bytesS v n).1.length : Int) + ((bytesS w n).1.length : Int)) ≤ 8) = true := by
    intro hh
    have e : ((bytesS v n).1.length : Int) + ((bytesS w n).1.length : Int) ≤ 8 := by
      by_cases h : (bytesS v n).2 = 0
      · have g : (bytesS w n).2 ≠ 0 := fun g => hh ⟨h, g⟩
        have := congrArg List.length (hs'.2 g)
        simp only [List.length_nil] at this
        omega
      · have := congrArg List.length (hs.2 h)
        simp only [List.length_nil] at this
        omega
    exact decide_eq_true (by rw [w64 (by omega) (by omega)]; exact e)
  by_cases h : (bytesS v n).2 = 0
  · rw [if_pos h]
    by_cases g : (bytesS w n).2 = 0
    · rw [g, trunklinelaw01_OctetOrders.j0, h3 _ (by omega)]
      obtain ⟨n1, n8, hq, hB⟩ := bytesS_ok h
      obtain ⟨n1', n8', hq', hB'⟩ := bytesS_ok g
      rw [hB, hB', less_bytes _ v w (by omega) (by omega) (lt_of_div (by omega) hq) (lt_of_div (by omega) hq')]
      simp
    · rw [bne_iff_ne.2 g, jt, hlim (fun x => g x.2)]
  · rw [if_neg h, jt, hlim (fun x => h x.1)]

end Go.Proofs.Ytndoankacnjhoaa.Pure
