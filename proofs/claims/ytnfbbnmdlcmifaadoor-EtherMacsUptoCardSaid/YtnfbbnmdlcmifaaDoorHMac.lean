/- ether.Mac: its function over a text's letters, and its contract in the printed form. -/
import Derived.Test.YtnfbbnmdlcmifaaDoorHUnhex
import Derived.Laws.Runes
import Derived.WalkSpells
namespace Go.Proofs.YtnfbbnmdlcmifaaDoor.M
open Go.RowKit Go.Proofs.YtnfbbnmdlcmifaaDoorW.PrintWords Go.Proofs.YtnfbbnmdlcmifaaDoorW.PrintLast Go.Proofs.YtnfbbnmdlcmifaaDoorW.PrintMore
set_option linter.unusedVariables false
set_option linter.unusedSimpArgs false

/-- The address of letters, from a place on. -/
def macL : List Int → Int → Int → Int × Int × Int
  | [], mac, place => if place < 17 then (0, place, 3) else (mac, 0, 0)
  | c :: cs, mac, place =>
    if place ≥ 17 then (0, place, 4)
    else if place % 3 = 2 then (if c = 58 then macL cs mac (place + 1) else (0, place, 4))
    else if halfD c < 0 then (0, place, 4)
    else macL cs (Go.bits .or .u64 (IntKind.u64.wrap (mac * 16)) (halfD c)) (place + 1)
def ether_Mac.f (a0 : ByteArray) : Option (Int × Int × Int) := some (macL (letters a0) 0 0)

theorem enc_low (c : Int) (h0 : 0 ≤ c) (h1 : c < 128) : Utf8.encode c = ⟨#[UInt8.ofNat c.toNat]⟩ := by
  have hv : Utf8.valid c = true := by
    unfold Utf8.valid
    simp
    omega
  unfold Utf8.encode
  simp only [hv, if_true]
  rw [if_pos (by omega)]
theorem enc_first (c : Int) (h : 128 ≤ c) : ∃ b r, (Utf8.encode c).data.toList = b :: r ∧ 128 ≤ b.toNat ∧ r.length ≤ 3 := by
  have key : ∀ n : Nat, 128 ≤ n → n ≤ 1114111 → ∃ b r, (if n < 128 then (⟨#[UInt8.ofNat n]⟩ : ByteArray) else if n < 2048 then ⟨#[UInt8.ofNat (192 + n / 64), UInt8.ofNat (128 + n % 64)]⟩ else if n < 65536 then ⟨#[UInt8.ofNat (224 + n / 4096), UInt8.ofNat (128 + n / 64 % 64), UInt8.ofNat (128 + n % 64)]⟩ else ⟨#[UInt8.ofNat (240 + n / 262144), UInt8.ofNat (128 + n / 4096 % 64), UInt8.ofNat (128 + n / 64 % 64), UInt8.ofNat (128 + n % 64)]⟩).data.toList = b :: r ∧ 128 ≤ b.toNat ∧ r.length ≤ 3 := by
    intro n h1 h2
    rw [if_neg (by omega)]
    by_cases a : n < 2048
    · rw [if_pos a]; exact ⟨_, _, rfl, by simp; omega, by simp⟩
    · rw [if_neg a]
      by_cases b : n < 65536
      · rw [if_pos b]; exact ⟨_, _, rfl, by simp; omega, by simp⟩
      · rw [if_neg b]; exact ⟨_, _, rfl, by simp; omega, by simp⟩
  obtain ⟨n, hn⟩ : ∃ n, n = (if Utf8.valid c = true then c.toNat else Utf8.runeError) := ⟨_, rfl⟩
  have hb : 128 ≤ n ∧ n ≤ 1114111 := by
    rw [hn]
    by_cases hv : Utf8.valid c = true
    · rw [if_pos hv]
      unfold Utf8.valid at hv
      simp at hv
      omega
    · rw [if_neg hv]
      decide
  obtain ⟨b, r, e1, e2, e3⟩ := key n hb.1 hb.2
  refine ⟨b, r, ?_, e2, e3⟩
  rw [← e1, hn]
  rfl
theorem str_get (xs : List UInt8) (i : Nat) (h : i < (⟨xs.toArray⟩ : ByteArray).size) (h2 : i < xs.length) : (⟨xs.toArray⟩ : ByteArray)[i]'h = xs[i] := by
  show xs.toArray[i] = xs[i]
  simp
theorem enc_size (c : Int) : (Utf8.encode c).size ≤ 4 := by
  unfold Utf8.encode
  simp only
  repeat' split
  all_goals first | (show 1 ≤ 4; decide) | (show 2 ≤ 4; decide) | (show 3 ≤ 4; decide) | (show 4 ≤ 4; decide)
theorem enc_if (c : Int) : ((⟨#[48]⟩ : ByteArray).size + (Utf8.encode c).size > 9223372036854775807) = False := by
  have h := enc_size c
  have h1 : (⟨#[48]⟩ : ByteArray).size = 1 := rfl
  simp only [h1, eq_iff_iff, iff_false]
  omega
theorem enc_if' (c : Int) : (9223372036854775807 < 1 + (Utf8.encode c).size) = False := enc_if c
theorem unhex_one (c : Int) (h0 : 0 ≤ c) : octet_Unhex.f ((⟨#[48]⟩ : ByteArray) ++ Utf8.encode c) = some (if halfD c < 0 then ([], 1, 4) else ([halfD c], 0, 0)) := by
  have form : ∀ s : ByteArray, ∀ xs : List UInt8, s.data.toList = xs → s = ⟨xs.toArray⟩ := by
    rintro ⟨a⟩ xs rfl
    simp
  have app : ((⟨#[48]⟩ : ByteArray) ++ Utf8.encode c).data.toList = 48 :: (Utf8.encode c).data.toList := by simp
  by_cases hc : c < 128
  · have hx : (Utf8.encode c).data.toList = [UInt8.ofNat c.toNat] := by rw [enc_low c h0 hc]
    rw [hx] at app
    have e := form _ _ app
    rw [e]
    have hn : (UInt8.ofNat c.toNat).toNat = c.toNat := by simp; omega
    have s2 : (⟨([48, UInt8.ofNat c.toNat] : List UInt8).toArray⟩ : ByteArray).size = 2 := rfl
    have d0 := decode_ascii (⟨([48, UInt8.ofNat c.toNat] : List UInt8).toArray⟩ : ByteArray) 0 (by rw [s2]; decide) (by rw [str_get _ 0 _ (by simp)]; simp)
    have d1 := decode_ascii (⟨([48, UInt8.ofNat c.toNat] : List UInt8).toArray⟩ : ByteArray) 1 (by rw [s2]; decide) (by rw [str_get _ 1 _ (by simp)]; simp only [List.getElem_cons_succ, List.getElem_cons_zero]; omega)
    rw [str_get _ 0 _ (by simp)] at d0
    rw [str_get _ 1 _ (by simp)] at d1
    have hl : letters (⟨([48, UInt8.ofNat c.toNat] : List UInt8).toArray⟩ : ByteArray) = [48, c] := by
      unfold letters
      rw [s2]
      simp only [cps, s2]
      rw [if_pos (by decide), d0]
      simp only [Nat.zero_add]
      rw [if_pos (by decide), d1]
      simp only [List.getElem_cons_succ, List.getElem_cons_zero, hn]
      congr 1
      congr 1
      omega
    unfold octet_Unhex.f
    show (if (⟨([48, UInt8.ofNat c.toNat] : List UInt8).toArray⟩ : ByteArray).size > 4096 then _ else some (unhexL (letters (⟨([48, UInt8.ofNat c.toNat] : List UInt8).toArray⟩ : ByteArray)) 0 [])) = _
    rw [s2, if_neg (by decide), hl]
    have h48 : halfD 48 = 0 := by decide
    rw [unhexL_hi (by rw [h48]; decide) (by decide), h48]
    by_cases hh : halfD c < 0
    · rw [if_pos hh, unhexL_bad hh]; rfl
    · rw [if_neg hh, unhexL_lo hh (by decide)]
      have r := halfD_range c
      obtain ⟨v, hv⟩ : ∃ v, v = halfD c := ⟨_, rfl⟩
      rw [← hv] at hh r ⊢
      have hall : ∀ n : Fin 16, unhexL [] (0 + 1 + 1) (([] ++ [0 * 16] : List Int).set (([] ++ [0 * 16] : List Int).length - 1) (Go.bits .or .u8 (rd ([] ++ [0 * 16]) ((([] ++ [0 * 16] : List Int).length : Int) - 1)) (n.val : Int))) = ([(n.val : Int)], 0, 0) := by decide
      have := hall ⟨v.toNat, by omega⟩
      rw [show ((⟨v.toNat, by omega⟩ : Fin 16).val : Int) = v by simp; omega] at this
      rw [this]
  · obtain ⟨b, r, hb, hb2, hr⟩ := enc_first c (by omega)
    rw [hb] at app
    have e := form _ _ app
    have hD : halfD c < 0 := by unfold halfD; repeat' split <;> omega
    rw [if_pos hD, e]
    have s2 : (⟨(48 :: b :: r : List UInt8).toArray⟩ : ByteArray).size = r.length + 2 := by show (48 :: b :: r : List UInt8).toArray.size = _; simp
    have d0 := decode_ascii (⟨(48 :: b :: r : List UInt8).toArray⟩ : ByteArray) 0 (by rw [s2]; omega) (by rw [str_get _ 0 _ (by simp)]; simp)
    have d1 := decode_high (⟨(48 :: b :: r : List UInt8).toArray⟩ : ByteArray) 1 (by rw [s2]; omega) (by rw [str_get _ 1 _ (by simp)]; exact hb2)
    rw [str_get _ 0 _ (by simp)] at d0
    unfold octet_Unhex.f
    rw [if_neg (by rw [s2]; omega)]
    have h48 : halfD 48 = 0 := by decide
    unfold letters
    rw [s2]
    simp only [cps, s2]
    rw [if_pos (by omega), d0]
    simp only [Nat.zero_add]
    rw [if_pos (by omega)]
    simp only [List.getElem_cons_zero]
    rw [show (((48 : UInt8).toNat : Nat) : Int) = 48 from rfl, unhexL_hi (by rw [h48]; decide) (by decide), unhexL_bad (by unfold halfD; repeat' split <;> omega)]
    rfl

theorem mac_cell {w : World} {base cap : Nat} {A : Option Addr} {h : Int} (hr : Kd.R (Kd.int .u8) 5 w base (fun _ => True) (.slice A [h].length cap) [h]) : ∃ g, A = some ⟨g, 0, none⟩ ∧ w.cell? ⟨g, 0, none⟩ = some (.int .u8 h) := by
  obtain ⟨g, c, e, _, _, _⟩ := Kd.R_form hr (by simp)
  simp only [Value.slice.injEq] at e
  obtain ⟨rfl, _, rfl⟩ := e
  exact ⟨g, rfl, (Kd.R_celln (0 : Int) hr 0 (by decide) (by simp)).1⟩
set_option maxHeartbeats 8000000 in
set_option maxRecDepth 100000 in
theorem ether_Mac.calls (a0 : ByteArray) (r1 : Int) (r2 : Int) (r3 : Int) (w : World) (h : ether_Mac.f a0 = some (r1, r2, r3)) :
    Calls Tryd.prog 6 #[.string a0] w fun e w' => e = .returned (.tuple #[.int .u64 r1, .int .i64 r2, .int .i64 r3]) ∧ Below w.heap.size w w' := by
  have HF := Aside0.mk (Option.some.inj h)
  clear h
  go_enter Tryd.func6, Tryd.ntmps6
  go_wp2_with (first | ((with_reducible refine gate_dst (N := 14) rfl ?_); refine range_event rfl 9 (.tmp 13) rfl Tryd.underlying9 a0 rfl ?_; intro k w1 hk hit hbel hlt; have HK := Aside0.mk hk; have HIT := Aside0.mk hit; have HB := Aside0.mk hbel; have HLT := Aside0.mk hlt; clear hk hit hbel hlt))
  simp only [Act.put, List.setIfInBounds_toArray, List.set_cons_succ, List.set_cons_zero]
  go_loopg [5, 6] a0.size (fun gk v5 v6 wr => ∃ (mac place : Int) (pos : Nat), v5 = .int .u64 mac ∧ v6 = .int .i64 place ∧ 0 ≤ place ∧ place ≤ 17 ∧ Aside0 (a0.size ≤ pos + gk) ∧ Aside0 (macL (cps a0 gk pos) mac place = (r1, r2, r3)) ∧ Aside0 (wr.heap[k]? = some (.stringIter a0 pos)) ∧ Aside0 (k < wr.heap.size) ∧ Aside0 (Below w.heap.size w wr))
  case atStart => exact ⟨0, 0, 0, rfl, rfl, by omega, by omega, ⟨by omega⟩, HF, HIT, HLT, HB⟩
  case round =>
    clear HF HIT HLT HB
    obtain ⟨mac, place, pos, rfl, rfl, hp0, hp1, HPO, HF, HIT, HLT, HB⟩ := hrel
    by_cases hpos : pos < a0.size
    · cases gk with
      | zero => exact absurd HPO.out (by omega)
      | succ gk =>
        have hcp : cps a0 (gk + 1) pos = ((Utf8.decode a0 pos).1 : Int) :: cps a0 gk (pos + (Utf8.decode a0 pos).2) := by simp only [cps]; rw [if_pos hpos]
        have hF := HF.out
        rw [hcp] at hF
        have hcr : 0 ≤ ((Utf8.decode a0 pos).1 : Int) ∧ ((Utf8.decode a0 pos).1 : Int) ≤ 2147483647 := by have := decode_le a0 pos; omega
        have hwd := width_pos a0 pos hpos
        have HPO' : a0.size ≤ pos + (Utf8.decode a0 pos).2 + gk := by have := HPO.out; omega
        clear HF hcp
        obtain ⟨pos', hpos'⟩ : ∃ p, p = pos + (Utf8.decode a0 pos).2 := ⟨_, rfl⟩
        rw [← hpos'] at hF HPO'
        obtain ⟨c, hc⟩ : ∃ c : Int, c = ((Utf8.decode a0 pos).1 : Int) := ⟨_, rfl⟩
        rw [← hc] at hF hcr
        have HC := Aside0.mk hc
        have HP' := Aside0.mk hpos'
        have HU := unhex_one c hcr.1
        have hif2 := enc_if' c
        have HU := Aside0.mk HU
        obtain ⟨hv, hhv⟩ : ∃ hv, halfD c = hv := ⟨_, rfl⟩
        have hr := halfD_range c
        rw [hhv] at hr
        have HHV := Aside0.mk hhv
        have HPP := Aside0.mk hpos
        have HPO2 := Aside0.mk HPO'
        have HF := Aside0.mk hF
        obtain ⟨hc0, hc1⟩ := hcr
        obtain ⟨hr0, hr1⟩ := hr
        clear hc hpos' hhv hpos HPO' hF hwd HPO
        by_cases hneg : hv < 0
        · have HUF := Aside0.mk (show octet_Unhex.f ((⟨#[48]⟩ : ByteArray) ++ Utf8.encode c) = some ([], 1, 4) by rw [HU.out, if_pos (by rw [HHV.out]; exact hneg)])
          have HNG := Aside0.mk hneg
          clear hneg HU hr0
          by_cases h17 : 17 ≤ place
          · have b17 : decide (17 ≤ place) = true := decide_eq_true h17
            have hres : (0, place, 4) = (r1, r2, r3) := by have h1 := HF.out; rw [macL, if_pos h17] at h1; exact h1
            simp only [Prod.mk.injEq] at hres
            obtain ⟨rfl, rfl, rfl⟩ := hres
            clear HF
            clear h17
            go_wp2_with (first | ((with_reducible refine gate_dst (N := 15) rfl ?_); refine next_event rfl (.tmp 14) rfl rfl HIT.out HPP.out ?_; intro w2 hit hg hsz; rw [← HC.out]; have HB2 := Aside0.mk (below_iter HB.out (by rw [HK.out]; exact Nat.le_refl _) HLT.out hg); clear hit hg hsz) | (go_at_call 14; (with_reducible refine (octet_Unhex.calls _ [] 1 4 _ HUF.out).mono ?_); rintro e w3 ⟨v0, rfl, hr3, hb3⟩; obtain ⟨A3, c3, e3⟩ := Kd.R_slice hr3; subst e3; have HB3 := Aside0.mk (HB2.out.trans (hb3.mono HB2.out.size)); clear hr3 hb3))
            go_ret3
            exact ⟨rfl, HB3.out⟩
          · have b17 : decide (17 ≤ place) = false := decide_eq_false h17
            by_cases hcol : place % 3 = 2
            · have bcol : (place % 3 == 2) = true := beq_iff_eq.mpr hcol
              by_cases h58 : c = 58
              · have b58 : (c == 58) = true := beq_iff_eq.mpr h58
                have HF2 := Aside0.mk (show macL (cps a0 gk pos') mac (place + 1) = (r1, r2, r3) by have h1 := HF.out; rw [macL, if_neg h17, if_pos hcol, if_pos h58] at h1; exact h1)
                have hp1' : place + 1 ≤ 17 := by omega
                clear HF hcol h58 h17
                go_wp2_with (first | ((with_reducible refine gate_dst (N := 15) rfl ?_); refine next_event rfl (.tmp 14) rfl rfl HIT.out HPP.out ?_; intro w2 hit hg hsz; rw [← HC.out]; rw [← HP'.out] at hit; have HIT2 := Aside0.mk hit; have HB2 := Aside0.mk (below_iter HB.out (by rw [HK.out]; exact Nat.le_refl _) HLT.out hg); clear hit hg hsz) | (go_at_call 14; (with_reducible refine (octet_Unhex.calls _ [] 1 4 _ HUF.out).mono ?_); rintro e w3 ⟨v0, rfl, hr3, hb3⟩; obtain ⟨A3, c3, e3⟩ := Kd.R_slice hr3; subst e3; have HIT3 := Aside0.mk (iter_below HIT2.out hb3); have HB3 := Aside0.mk (HB2.out.trans (hb3.mono HB2.out.size)); clear hr3 hb3))
                go_roundg gk
                case measure => omega
                case rel => exact ⟨mac, place + 1, pos', rfl, rfl, by omega, by omega, HPO2, HF2, HIT3, ⟨blk_lt HIT3.out⟩, HB3⟩
              · have b58 : (c == 58) = false := beq_eq_false_iff_ne.mpr h58
                have hres : (0, place, 4) = (r1, r2, r3) := by have h1 := HF.out; rw [macL, if_neg h17, if_pos hcol, if_neg h58] at h1; exact h1
                simp only [Prod.mk.injEq] at hres
                obtain ⟨rfl, rfl, rfl⟩ := hres
                clear HF
                clear hcol h58 h17
                go_wp2_with (first | ((with_reducible refine gate_dst (N := 15) rfl ?_); refine next_event rfl (.tmp 14) rfl rfl HIT.out HPP.out ?_; intro w2 hit hg hsz; rw [← HC.out]; have HB2 := Aside0.mk (below_iter HB.out (by rw [HK.out]; exact Nat.le_refl _) HLT.out hg); clear hit hg hsz) | (go_at_call 14; (with_reducible refine (octet_Unhex.calls _ [] 1 4 _ HUF.out).mono ?_); rintro e w3 ⟨v0, rfl, hr3, hb3⟩; obtain ⟨A3, c3, e3⟩ := Kd.R_slice hr3; subst e3; have HB3 := Aside0.mk (HB2.out.trans (hb3.mono HB2.out.size)); clear hr3 hb3))
                go_ret3
                exact ⟨rfl, HB3.out⟩
            · have bcol : (place % 3 == 2) = false := beq_eq_false_iff_ne.mpr hcol
              by_cases h58 : c = 58
              · have b58 : (c == 58) = true := beq_iff_eq.mpr h58
                have hres : (0, place, 4) = (r1, r2, r3) := by have h1 := HF.out; rw [macL, if_neg h17, if_neg hcol, if_pos (by rw [HHV.out]; exact HNG.out)] at h1; exact h1
                simp only [Prod.mk.injEq] at hres
                obtain ⟨rfl, rfl, rfl⟩ := hres
                clear HF
                clear hcol h58 h17
                go_wp2_with (first | ((with_reducible refine gate_dst (N := 15) rfl ?_); refine next_event rfl (.tmp 14) rfl rfl HIT.out HPP.out ?_; intro w2 hit hg hsz; rw [← HC.out]; have HB2 := Aside0.mk (below_iter HB.out (by rw [HK.out]; exact Nat.le_refl _) HLT.out hg); clear hit hg hsz) | (go_at_call 14; (with_reducible refine (octet_Unhex.calls _ [] 1 4 _ HUF.out).mono ?_); rintro e w3 ⟨v0, rfl, hr3, hb3⟩; obtain ⟨A3, c3, e3⟩ := Kd.R_slice hr3; subst e3; have HB3 := Aside0.mk (HB2.out.trans (hb3.mono HB2.out.size)); clear hr3 hb3))
                go_ret3
                exact ⟨rfl, HB3.out⟩
              · have b58 : (c == 58) = false := beq_eq_false_iff_ne.mpr h58
                have hres : (0, place, 4) = (r1, r2, r3) := by have h1 := HF.out; rw [macL, if_neg h17, if_neg hcol, if_pos (by rw [HHV.out]; exact HNG.out)] at h1; exact h1
                simp only [Prod.mk.injEq] at hres
                obtain ⟨rfl, rfl, rfl⟩ := hres
                clear HF
                clear hcol h58 h17
                go_wp2_with (first | ((with_reducible refine gate_dst (N := 15) rfl ?_); refine next_event rfl (.tmp 14) rfl rfl HIT.out HPP.out ?_; intro w2 hit hg hsz; rw [← HC.out]; have HB2 := Aside0.mk (below_iter HB.out (by rw [HK.out]; exact Nat.le_refl _) HLT.out hg); clear hit hg hsz) | (go_at_call 14; (with_reducible refine (octet_Unhex.calls _ [] 1 4 _ HUF.out).mono ?_); rintro e w3 ⟨v0, rfl, hr3, hb3⟩; obtain ⟨A3, c3, e3⟩ := Kd.R_slice hr3; subst e3; have HB3 := Aside0.mk (HB2.out.trans (hb3.mono HB2.out.size)); clear hr3 hb3))
                go_ret3
                exact ⟨rfl, HB3.out⟩
        · have HUF := Aside0.mk (show octet_Unhex.f ((⟨#[48]⟩ : ByteArray) ++ Utf8.encode c) = some ([hv], 0, 0) by rw [HU.out, if_neg (by rw [HHV.out]; exact hneg), HHV.out])
          have hc58 : ¬ c = 58 := by intro e; have := HHV.out; rw [e] at this; apply hneg; rw [← this]; decide
          have hv0 : 0 ≤ hv := by omega
          have HNG := Aside0.mk hneg
          clear hneg HU hr0
          by_cases h17 : 17 ≤ place
          · have b17 : decide (17 ≤ place) = true := decide_eq_true h17
            have hres : (0, place, 4) = (r1, r2, r3) := by have h1 := HF.out; rw [macL, if_pos h17] at h1; exact h1
            simp only [Prod.mk.injEq] at hres
            obtain ⟨rfl, rfl, rfl⟩ := hres
            clear HF
            clear h17
            have b58 : (c == 58) = false := beq_eq_false_iff_ne.mpr hc58
            clear hc58
            go_wp2_with (first | ((with_reducible refine gate_dst (N := 15) rfl ?_); refine next_event rfl (.tmp 14) rfl rfl HIT.out HPP.out ?_; intro w2 hit hg hsz; rw [← HC.out]; have HB2 := Aside0.mk (below_iter HB.out (by rw [HK.out]; exact Nat.le_refl _) HLT.out hg); clear hit hg hsz) | (go_at_call 14; (with_reducible refine (octet_Unhex.calls _ [hv] 0 0 _ HUF.out).mono ?_); rintro e w3 ⟨v0, rfl, hr3, hb3⟩; obtain ⟨A3, c3, e3⟩ := Kd.R_slice hr3; subst e3; have HB3 := Aside0.mk (HB2.out.trans (hb3.mono HB2.out.size)); clear hr3 hb3))
            go_ret3
            exact ⟨rfl, HB3.out⟩
          · have b17 : decide (17 ≤ place) = false := decide_eq_false h17
            by_cases hcol : place % 3 = 2
            · have bcol : (place % 3 == 2) = true := beq_iff_eq.mpr hcol
              have hres : (0, place, 4) = (r1, r2, r3) := by have h1 := HF.out; rw [macL, if_neg h17, if_pos hcol, if_neg hc58] at h1; exact h1
              simp only [Prod.mk.injEq] at hres
              obtain ⟨rfl, rfl, rfl⟩ := hres
              clear HF
              clear hcol h17
              have b58 : (c == 58) = false := beq_eq_false_iff_ne.mpr hc58
              clear hc58
              go_wp2_with (first | ((with_reducible refine gate_dst (N := 15) rfl ?_); refine next_event rfl (.tmp 14) rfl rfl HIT.out HPP.out ?_; intro w2 hit hg hsz; rw [← HC.out]; have HB2 := Aside0.mk (below_iter HB.out (by rw [HK.out]; exact Nat.le_refl _) HLT.out hg); clear hit hg hsz) | (go_at_call 14; (with_reducible refine (octet_Unhex.calls _ [hv] 0 0 _ HUF.out).mono ?_); rintro e w3 ⟨v0, rfl, hr3, hb3⟩; obtain ⟨A3, c3, e3⟩ := Kd.R_slice hr3; subst e3; have HB3 := Aside0.mk (HB2.out.trans (hb3.mono HB2.out.size)); clear hr3 hb3))
              go_ret3
              exact ⟨rfl, HB3.out⟩
            · have bcol : (place % 3 == 2) = false := beq_eq_false_iff_ne.mpr hcol
              have HF2 := Aside0.mk (show macL (cps a0 gk pos') (Go.bits .or .u64 (IntKind.u64.wrap (mac * 16)) hv) (place + 1) = (r1, r2, r3) by have h1 := HF.out; rw [macL, if_neg h17, if_neg hcol, if_neg (by rw [HHV.out]; exact HNG.out), HHV.out] at h1; exact h1)
              have hp1' : place + 1 ≤ 17 := by omega
              clear HF hcol h17
              have b58 : (c == 58) = false := beq_eq_false_iff_ne.mpr hc58
              clear hc58
              go_wp2_with (first | ((with_reducible refine gate_dst (N := 15) rfl ?_); refine next_event rfl (.tmp 14) rfl rfl HIT.out HPP.out ?_; intro w2 hit hg hsz; rw [← HC.out]; rw [← HP'.out] at hit; have HIT2 := Aside0.mk hit; have HB2 := Aside0.mk (below_iter HB.out (by rw [HK.out]; exact Nat.le_refl _) HLT.out hg); clear hit hg hsz) | (go_at_call 14; (with_reducible refine (octet_Unhex.calls _ [hv] 0 0 _ HUF.out).mono ?_); rintro e w3 ⟨v0, rfl, hr3, hb3⟩; obtain ⟨A3, c3, e3⟩ := Kd.R_slice hr3; subst e3; obtain ⟨g3, e4, hcell3⟩ := mac_cell hr3; subst e4; have HIT3 := Aside0.mk (iter_below HIT2.out hb3); have HB3 := Aside0.mk (HB2.out.trans (hb3.mono HB2.out.size)); clear hr3 hb3))
              go_roundg gk
              case measure => omega
              case rel => exact ⟨(Go.bits .or .u64 (IntKind.u64.wrap (mac * 16)) hv), place + 1, pos', rfl, rfl, by omega, by omega, HPO2, HF2, HIT3, ⟨blk_lt HIT3.out⟩, HB3⟩
    · have hend : cps a0 gk pos = [] := cps_end a0 gk pos hpos
      have hF := HF.out
      rw [hend] at hF
      have HPP := Aside0.mk hpos
      clear hend HF hpos
      simp only [macL] at hF
      by_cases hsh : place < 17
      · rw [if_pos hsh] at hF
        simp only [Prod.mk.injEq] at hF
        obtain ⟨rfl, rfl, rfl⟩ := hF
        have hb : decide (place < 17) = true := decide_eq_true hsh
        clear hsh
        go_wp2_with (first | ((with_reducible refine gate_dst (N := 15) rfl ?_); refine next_end_event rfl (.tmp 14) rfl rfl HIT.out HPP.out ?_))
        go_ret3
        exact ⟨rfl, HB.out⟩
      · rw [if_neg hsh] at hF
        simp only [Prod.mk.injEq] at hF
        obtain ⟨rfl, rfl, rfl⟩ := hF
        have hb : decide (place < 17) = false := decide_eq_false hsh
        clear hsh
        go_wp2_with (first | ((with_reducible refine gate_dst (N := 15) rfl ?_); refine next_end_event rfl (.tmp 14) rfl rfl HIT.out HPP.out ?_))
        go_ret3
        exact ⟨rfl, HB.out⟩
#print axioms ether_Mac.calls
end Go.Proofs.YtnfbbnmdlcmifaaDoor.M
