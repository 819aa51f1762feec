/- What is taken of bytes: ip.Take and the document's own tell the same, in plain Lean. -/
import Derived.Test.YtdligcofjfdhbaaPIpTake
import Derived.Test.YtdligcofjfdhbaaM21
namespace Go.Proofs.Ytdligcofjfdhbaa.Pure
open Go.RowKit Go.Proofs.Ytdligcofjfdhbaa.M Go.Proofs.YtdligcofjfdhbaaW.PrintWords Go.Proofs.YtdligcofjfdhbaaW.PrintLast Go.Proofs.YtdligcofjfdhbaaW.PrintMore
set_option linter.unusedVariables false
set_option linter.unusedSimpArgs false

theorem numS_r (L : List Int) (hr : ∀ x ∈ L, 0 ≤ x ∧ x ≤ 255) (p n : Nat) (h1 : 1 ≤ n) (h8 : n ≤ 8) (h : p + n ≤ L.length) : ∃ v, numS L p n = (v, 0) ∧ 0 ≤ v ∧ v < 256 ^ n := by
  have hl : ((L.drop p).take n).length = n := by simp; omega
  have := numL_range ((L.drop p).take n) 0 0 (fun x hx => hr x (List.mem_of_mem_drop (List.mem_of_mem_take hx))) (by omega) (by decide)
  rw [hl, Nat.zero_add] at this
  refine ⟨_, ?_, this.1, this.2⟩
  unfold numS
  rw [if_pos (by omega), if_pos (by omega), if_pos (by omega), Int.toNat_natCast, Int.toNat_natCast]
theorem rnumber_f (L : List Int) (hr : ∀ x ∈ L, 0 ≤ x ∧ x ≤ 255) (hl : (L.length : Int) ≤ 4611686018427387904) (p n v : Int) (hp : (Lit.int .i64 p).wf = true) (hn : (Lit.int .i64 n).wf = true) (h : numS L p n = (v, 0)) (h0 : 0 ≤ v) (h1 : v ≤ 4294967295) {k : Nat} (hk : 10 ≤ k) : trunklineref10_number.f k L p n = some v := by
  unfold trunklineref10_number.f
  rw [rnum_f L p n hl hr hp hn hk, Option.bind_some, h, w64 (by omega) (by omega)]

theorem rt_j0 (K : Nat) (L : List Int) (x4 : Int) (b : Bool) : trunklineref10_Take.j0 (K + 1) L x4 b = if b = true then (some (0, 0, 0, 0, 0, false, false, 0, ([] : List Int), 4)) else (if (L.length : Int) < x4 then (some (0, 0, 0, 0, 0, false, false, 0, ([] : List Int), 3)) else ((trunklineref10_number.f K L 2 2).bind fun t275 => (trunklineref10_Take.j1 K L x4 t275))) := by rw [trunklineref10_Take.j0]
theorem rt_j1 (K : Nat) (x0 : List Int) (x4 x5 : Int) : trunklineref10_Take.j1 (K + 1) x0 x4 x5 = if x5 < x4 then (some (0, 0, 0, 0, 0, false, false, 0, ([] : List Int), 4)) else (if (x0.length : Int) < x5 then (some (0, 0, 0, 0, 0, false, false, 0, ([] : List Int), 3)) else (if 0 ≤ x4 then (if x4 ≤ (x0.length : Int) then ((trunklineref02_Net.f K (x0.take (x4 : Int).toNat)).bind fun t280 => (if t280 = 0 then ((trunklineref10_number.f K x0 6 2).bind fun t281 => (trunklineref10_Take.j2 K x0 x4 x5 t281)) else (some (0, 0, 0, 0, 0, false, false, 0, ([] : List Int), 5)))) else (none)) else (none))) := by rw [trunklineref10_Take.j1]
theorem rt_j4 (K : Nat) (b : Bool) (a0 a1 a2 a3 a4 : Int) (a5 a6 : Bool) (off : Int) (l : List Int) (h0 : 0 ≤ off) (h1 : off ≤ 65528) (hl : l.length ≤ 140737488355328) : trunklineref10_Take.j4 (K + 1) b a0 a1 a2 a3 a4 a5 a6 off l = if b = true then (some (0, 0, 0, 0, 0, false, false, 0, ([] : List Int), 4)) else (if (l.length : Int) > 65515 - off then (some (0, 0, 0, 0, 0, false, false, 0, ([] : List Int), 6)) else (some (a0, a1, a2, a3, a4, a5, a6, off, l, 0))) := by
  rw [trunklineref10_Take.j4, w64 (x := off + (l.length : Int)) (by omega) (by omega), w64 (by omega) (by omega)]
  split
  · rfl
  · by_cases h : (l.length : Int) > 65515 - off
    · rw [if_pos h, if_pos (by omega)]
    · rw [if_neg h, if_neg (by omega)]
theorem rt_j3 (K : Nat) (w a0 a1 a2 a3 a4 : Int) (a5 a6 : Bool) (off : Int) (l : List Int) (hw0 : 0 ≤ w) (hw1 : w ≤ 65535) (h0 : 0 ≤ off) (h1 : off ≤ 65528) (h8 : off % 8 = 0) (hl : l.length ≤ 140737488355328) : trunklineref10_Take.j3 (K + 2) w a0 a1 a2 a3 a4 a5 a6 off l = if w / 32768 % 2 = 1 then (some (0, 0, 0, 0, 0, false, false, 0, ([] : List Int), 4)) else if mayS a6 off l.length = 2 then (some (0, 0, 0, 0, 0, false, false, 0, ([] : List Int), 4)) else if mayS a6 off l.length = 0 then (some (a0, a1, a2, a3, a4, a5, a6, off, l, 0)) else (some (0, 0, 0, 0, 0, false, false, 0, ([] : List Int), mayS a6 off l.length)) := by
  rw [show K + 2 = (K + 1) + 1 from rfl, trunklineref10_Take.j3, Int.tdiv_eq_ediv_of_nonneg hw0, w64 (by omega) (by omega), rt_j4 K _ a0 a1 a2 a3 a4 a5 a6 off l h0 h1 hl, rt_j4 K _ a0 a1 a2 a3 a4 a5 a6 off l h0 h1 hl, rt_j4 K _ a0 a1 a2 a3 a4 a5 a6 off l h0 h1 hl]
  by_cases c1 : w / 32768 = 1
  · rw [if_pos c1, if_pos rfl, if_pos (by omega)]
  · rw [if_neg c1, if_neg (c := w / 32768 % 2 = 1) (by omega)]
    by_cases c2 : a6 = true ∧ (l.length : Int) % 8 ≠ 0
    · have hm : mayS a6 off l.length = 2 := by unfold mayS; rw [if_pos (.inr (.inr (.inr c2)))]
      rw [if_pos c2.1, if_pos (by simpa using c2.2), hm, if_pos rfl]
    · have hs : ¬ (off < 0 ∨ off > 65528 ∨ off % 8 ≠ 0 ∨ (a6 = true ∧ (l.length : Int) % 8 ≠ 0)) := by
        intro q
        rcases q with q | q | q | q
        · omega
        · omega
        · omega
        · exact c2 q
      have hm : mayS a6 off l.length = if (l.length : Int) > 65515 - off then 6 else 0 := by unfold mayS; rw [if_neg hs]
      have fin : (if (l.length : Int) > 65515 - off then (some ((0 : Int), (0 : Int), (0 : Int), (0 : Int), (0 : Int), false, false, (0 : Int), ([] : List Int), (6 : Int))) else (some (a0, a1, a2, a3, a4, a5, a6, off, l, 0))) = if mayS a6 off l.length = 2 then (some (0, 0, 0, 0, 0, false, false, 0, ([] : List Int), 4)) else if mayS a6 off l.length = 0 then (some (a0, a1, a2, a3, a4, a5, a6, off, l, 0)) else (some (0, 0, 0, 0, 0, false, false, 0, ([] : List Int), mayS a6 off l.length)) := by
        rw [hm]
        by_cases c3 : (l.length : Int) > 65515 - off
        · rw [if_pos c3, if_pos c3, if_neg (by decide), if_neg (by decide)]
        · rw [if_neg c3, if_neg c3, if_neg (by decide), if_pos rfl]
      by_cases h6 : a6 = true
      · rw [if_pos h6, if_neg (fun q => c2 ⟨h6, by simpa using q⟩)]
        exact fin
      · rw [if_neg h6, if_neg (by decide)]
        exact fin
theorem rt_j2 (K : Nat) (L : List Int) (x4 x5 w src dst id : Int) (body : List Int) (hl : L.length ≤ 140737488351232) (h20 : 20 ≤ L.length) (h4 : 0 ≤ x4) (h45 : x4 ≤ x5) (h5 : x5 ≤ (L.length : Int)) (hb : body = (L.take x5.toNat).drop x4.toNat) (hw0 : 0 ≤ w) (hw1 : w ≤ 65535)
    (n12 : trunklineref10_number.f (K + 2) L 12 4 = some src) (n16 : trunklineref10_number.f (K + 2) L 16 4 = some dst) (n4 : trunklineref10_number.f (K + 2) L 4 2 = some id) :
    trunklineref10_Take.j2 (K + 3) L x4 x5 w = if w / 32768 % 2 = 1 then (some (0, 0, 0, 0, 0, false, false, 0, ([] : List Int), 4)) else if mayS (w / 8192 % 2 == 1) (w % 8192 * 8) body.length = 2 then (some (0, 0, 0, 0, 0, false, false, 0, ([] : List Int), 4)) else if mayS (w / 8192 % 2 == 1) (w % 8192 * 8) body.length = 0 then (some (src % 4294967296, dst % 4294967296, rd L 9, rd L 8, IntKind.u16.wrap id, w / 16384 % 2 == 1, w / 8192 % 2 == 1, w % 8192 * 8, body, 0)) else (some (0, 0, 0, 0, 0, false, false, 0, ([] : List Int), mayS (w / 8192 % 2 == 1) (w % 8192 * 8) body.length)) := by
  have hbl : body.length ≤ 140737488351232 := by rw [hb]; simp; omega
  rw [show K + 3 = (K + 2) + 1 from rfl, trunklineref10_Take.j2, n12, Option.bind_some, n16, Option.bind_some, if_pos (by omega), if_pos (by omega), n4, Option.bind_some, Option.bind_some, if_pos h4, if_pos h45, if_pos h5, ← hb, Option.bind_some, if_pos (by simp; omega), List.nil_append]
  rw [Int.tdiv_eq_ediv_of_nonneg hw0, Int.tdiv_eq_ediv_of_nonneg hw0, w64 (x := w / 16384) (by omega) (by omega), w64 (x := w / 8192) (by omega) (by omega), Int.tmod_eq_emod_of_nonneg (a := w / 16384) (by omega), Int.tmod_eq_emod_of_nonneg (a := w / 8192) (by omega), Int.tmod_eq_emod_of_nonneg (a := w) (by omega), w64 (x := w % 8192 * 8) (by omega) (by omega)]
  exact rt_j3 K w _ _ _ _ _ _ _ _ body hw0 hw1 (by omega) (by omega) (by omega) (by omega)

/-- What both tell. -/
theorem take_both (L : List Int) (hl : L.length ≤ 140737488351232) (hr : ∀ x ∈ L, 0 ≤ x ∧ x ≤ 255) (m : Nat) (hm : L.length + 60 ≤ m) : ∃ r, ip_Take.f (m + 6) L = some r ∧ trunklineref10_Take.f (m + 6) L = some r := by
  obtain ⟨k, hk⟩ : ∃ k, k = m + 6 := ⟨_, rfl⟩
  obtain ⟨k5, hk5⟩ : ∃ k, k = m + 5 := ⟨_, rfl⟩
  obtain ⟨k4, hk4⟩ : ∃ k, k = m + 4 := ⟨_, rfl⟩
  obtain ⟨K, hK⟩ : ∃ K, K = m + 1 := ⟨_, rfl⟩
  have e6 : k = k5 + 1 := by omega
  have e5 : k5 = k4 + 1 := by omega
  have e4 : k4 = K + 3 := by omega
  rw [← hk]
  by_cases c1 : (L.length : Int) < 20
  · refine ⟨_, by unfold ip_Take.f; rw [if_pos c1], by unfold trunklineref10_Take.f; rw [if_pos c1]⟩
  · obtain ⟨x, hx⟩ : ∃ x, x = rd L 0 := ⟨_, rfl⟩
    have hxr : 0 ≤ x ∧ x ≤ 255 := by rw [hx, show (0 : Int) = ((0 : Nat) : Int) from rfl, rd_get L 0 (by omega)]; exact hr _ (List.getElem_mem _)
    obtain ⟨v1, hv1, a1, b1⟩ := numS_r L hr 2 2 (by decide) (by decide) (by omega)
    obtain ⟨w, hw, aw, bw⟩ := numS_r L hr 6 2 (by decide) (by decide) (by omega)
    obtain ⟨src, hs, as_, bs⟩ := numS_r L hr 12 4 (by decide) (by decide) (by omega)
    obtain ⟨dst, hd, ad, bd⟩ := numS_r L hr 16 4 (by decide) (by decide) (by omega)
    obtain ⟨id, hi, ai, bi⟩ := numS_r L hr 4 2 (by decide) (by decide) (by omega)
    have b1' : v1 ≤ 65535 := by have : (256 : Int) ^ 2 = 65536 := by decide
                                omega
    have bw' : w ≤ 65535 := by have : (256 : Int) ^ 2 = 65536 := by decide
                               omega
    have bi' : id ≤ 65535 := by have : (256 : Int) ^ 2 = 65536 := by decide
                                omega
    have bs' : src ≤ 4294967295 := by have : (256 : Int) ^ 4 = 4294967296 := by decide
                                      omega
    have bd' : dst ≤ 4294967295 := by have : (256 : Int) ^ 4 = 4294967296 := by decide
                                      omega
    have W1 : wrap64 (4 * wrap64 (Go.bits .and .u8 x 15)) = 4 * (x % 16) := by
      have e : Go.bits .and .u8 x 15 = x % 16 := Go.u8_and15 x hxr.1 (by omega)
      rw [e]; unfold wrap64; omega
    have W2 : wrap64 ((wrap64 (Int.tmod x 16)) * 4) = 4 * (x % 16) := by
      rw [Int.tmod_eq_emod_of_nonneg hxr.1]; unfold wrap64; omega
    have Q2 : (Int.tdiv x 16) % 256 = x / 16 := by rw [Int.tdiv_eq_ediv_of_nonneg hxr.1]; omega
    obtain ⟨h, hh⟩ : ∃ h, h = 4 * (x % 16) := ⟨_, rfl⟩
    have hh0 : 0 ≤ h ∧ h ≤ 60 := by omega
    have N1 := (num_f L 2 2 (by omega) hr (by decide) (by decide) (k := k) (by omega)).trans (congrArg some hv1)
    have N3 := (num_f L 6 2 (by omega) hr (by decide) (by decide) (k := k) (by omega)).trans (congrArg some hw)
    have N4 := (num_f L 12 4 (by omega) hr (by decide) (by decide) (k := k) (by omega)).trans (congrArg some hs)
    have N5 := (num_f L 16 4 (by omega) hr (by decide) (by decide) (k := k) (by omega)).trans (congrArg some hd)
    have N6 := (num_f L 4 2 (by omega) hr (by decide) (by decide) (k := k) (by omega)).trans (congrArg some hi)
    have R1 := rnumber_f L hr (by omega) 2 2 v1 (by decide) (by decide) hv1 a1 (by omega) (k := k5) (by omega)
    have R3 := rnumber_f L hr (by omega) 6 2 w (by decide) (by decide) hw aw (by omega) (k := k4) (by omega)
    have R4 := rnumber_f L hr (by omega) 12 4 src (by decide) (by decide) hs as_ (by omega) (k := K + 2) (by omega)
    have R5 := rnumber_f L hr (by omega) 16 4 dst (by decide) (by decide) hd ad (by omega) (k := K + 2) (by omega)
    have R6 := rnumber_f L hr (by omega) 4 2 id (by decide) (by decide) hi ai (by omega) (k := K + 2) (by omega)
    unfold ip_Take.f trunklineref10_Take.f
    rw [if_neg c1, if_neg c1, N1, Option.bind_some, if_pos (c := 0 < (L.length : Int)) (by omega), ← hx, W1, W2, Q2, ← hh]
    dsimp only
    rw [w64 (x := v1) (by omega) (by omega)]
    by_cases c2 : x / 16 = 4
    · rw [if_pos c2, if_pos c2, e6, rt_j0, ← e6]
      by_cases c3 : h < 20
      · rw [if_pos c3, if_pos (c := decide (h < 20) = true) (decide_eq_true c3)]; exact ⟨_, rfl, rfl⟩
      · rw [if_neg c3, if_neg (c := decide (h < 20) = true) (by simpa using c3)]
        by_cases c4 : (L.length : Int) < h
        · rw [if_pos c4, if_pos c4]; exact ⟨_, rfl, rfl⟩
        · rw [if_neg c4, if_neg c4, R1, Option.bind_some, e5, rt_j1]
          by_cases c5 : v1 < h
          · rw [if_pos c5, if_pos c5]; exact ⟨_, rfl, rfl⟩
          · rw [if_neg c5, if_neg c5]
            by_cases c6 : (L.length : Int) < v1
            · rw [if_pos c6, if_pos c6]; exact ⟨_, rfl, rfl⟩
            · have hT : ∀ y ∈ L.take h.toNat, 0 ≤ y ∧ y ≤ 255 := fun y hy => hr y (List.mem_of_mem_take hy)
              rw [if_neg c6, if_neg c6, if_pos hh0.1, if_pos (by omega), net_f _ hT (by simp; omega) (by simp; omega), rnet_f _ hT (by simp; omega) (by simp; omega), Option.bind_some, Option.bind_some]
              by_cases c7 : netS (L.take h.toNat) = 0
              · obtain ⟨body, hb⟩ : ∃ body, body = (L.take v1.toNat).drop h.toNat := ⟨_, rfl⟩
                have hbl : body.length ≤ 140737488351232 := by rw [hb]; simp; omega
                have x4 : wrap64 src % 4294967296 = src % 4294967296 := by rw [w64 (by omega) (by omega)]
                have x5 : wrap64 dst % 4294967296 = dst % 4294967296 := by rw [w64 (by omega) (by omega)]
                have d1 : ((if w / 16384 % 2 = 1 then (16384 : Int) else 0) != 0) = (w / 16384 % 2 == 1) := by by_cases q : w / 16384 % 2 = 1 <;> simp [q]
                have d2 : ((if w / 8192 % 2 = 1 then (8192 : Int) else 0) != 0) = (w / 8192 % 2 == 1) := by by_cases q : w / 8192 % 2 = 1 <;> simp [q]
                have d3 : wrap64 (w % 8192 * 8) = w % 8192 * 8 := w64 (by omega) (by omega)
                have R2 := rt_j2 K L h v1 w src dst id body hl (by omega) hh0.1 (by omega) (by omega) hb aw bw' R4 R5 R6
                rw [if_pos c7, if_pos c7, R3, Option.bind_some, e4, R2]
                rw [N3, Option.bind_some, N4, Option.bind_some, N5, Option.bind_some, N6, Option.bind_some, ← hb, clone_t body (by omega), Option.bind_some]
                dsimp only
                rw [w64 (x := w) (by omega) (by omega), w64 (x := id) (by omega) (by omega), x4, x5, and_dont aw bw', and_more aw bw', and_off aw bw', and_odd aw bw', d1, d2, d3]
                rw [may_f (src % 4294967296) (dst % 4294967296) (rd L 9) (rd L 8) (IntKind.u16.wrap id) (w / 16384 % 2 == 1) (w / 8192 % 2 == 1) (w % 8192 * 8) body (by omega) (by omega) (by omega), Option.bind_some]
                by_cases c8 : w / 32768 % 2 = 1
                · rw [if_pos c8, if_pos c8, if_neg (by decide)]; exact ⟨_, rfl, rfl⟩
                · rw [if_neg c8, if_neg c8, if_pos rfl]
                  generalize mayS (w / 8192 % 2 == 1) (w % 8192 * 8) body.length = t7
                  by_cases c9 : t7 = 2
                  · rw [if_pos c9]; exact ⟨_, rfl, rfl⟩
                  · rw [if_neg c9]
                    by_cases c10 : t7 = 0
                    · rw [if_pos c10]; exact ⟨_, rfl, rfl⟩
                    · rw [if_neg c10]; exact ⟨_, rfl, rfl⟩
              · rw [if_neg c7, if_neg c7]; exact ⟨_, rfl, rfl⟩
    · rw [if_neg c2, if_neg c2, e6, rt_j0, if_pos rfl]; exact ⟨_, rfl, rfl⟩
end Go.Proofs.Ytdligcofjfdhbaa.Pure
