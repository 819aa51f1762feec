/- octet.Unhex: its function over letters, and its contract in the printed form. -/
import Derived.Test.YtnfbbnmdlcmifaaDoorM6
import Derived.Test.YtnfbbnmdlcmifaaDoorHIter
import Derived.WalkSpells
namespace Go.Proofs.YtnfbbnmdlcmifaaDoor.M
open Go.RowKit Go.Proofs.YtnfbbnmdlcmifaaDoorW.PrintWords Go.Proofs.YtnfbbnmdlcmifaaDoorW.PrintLast Go.Proofs.YtnfbbnmdlcmifaaDoorW.PrintMore
set_option linter.unusedVariables false
set_option linter.unusedSimpArgs false

def halfD (c : Int) : Int := if 48 ≤ c ∧ c ≤ 57 then c - 48 else if 97 ≤ c ∧ c ≤ 102 then c - 97 + 10 else if 65 ≤ c ∧ c ≤ 70 then c - 65 + 10 else -1
theorem halfD_range (c : Int) : -1 ≤ halfD c ∧ halfD c ≤ 15 := by unfold halfD; repeat' split <;> omega

theorem half_j1f (k : Nat) (c : Int) (h0 : 0 ≤ c) (h1 : c ≤ 2147483647) : octet_half.j1 (k + 1) c false = some (if 65 ≤ c ∧ c ≤ 70 then c - 65 + 10 else -1) := by
  have w3 : 65 ≤ c → wrap64 (wrap64 (wrap32 (c - 65)) + 10) = c - 65 + 10 := fun h => by unfold wrap64 wrap32; omega
  simp only [octet_half.j1]
  rw [if_neg (by decide)]
  by_cases a : 65 ≤ c
  · by_cases b : c ≤ 70
    · rw [if_pos a, if_pos b, if_pos ⟨a, b⟩, w3 a]
    · rw [if_pos a, if_neg b, if_neg (by omega)]
  · rw [if_neg a, if_neg (by omega)]
theorem half_f (c : Int) (h0 : 0 ≤ c) (h1 : c ≤ 2147483647) : octet_half.f 3 c = some (halfD c) := by
  have w1 : 48 ≤ c → wrap64 (wrap32 (c - 48)) = c - 48 := fun h => by unfold wrap64 wrap32; omega
  have w2 : 97 ≤ c → wrap64 (wrap64 (wrap32 (c - 97)) + 10) = c - 97 + 10 := fun h => by unfold wrap64 wrap32; omega
  have jf : ¬ c ≤ 57 ∨ ¬ 48 ≤ c → octet_half.j0 3 c false = some (halfD c) := by
    intro hn
    unfold halfD
    rw [if_neg (by omega)]
    simp only [octet_half.j0]
    rw [if_neg (by decide)]
    by_cases d : 97 ≤ c
    · rw [if_pos d]
      by_cases e : c ≤ 102
      · rw [decide_eq_true e, if_pos ⟨d, e⟩]
        simp only [octet_half.j1]
        rw [if_pos trivial, w2 d]
      · rw [decide_eq_false e, if_neg (by omega), half_j1f 1 c h0 h1]
    · rw [if_neg d, if_neg (by omega), half_j1f 1 c h0 h1]
  unfold octet_half.f
  by_cases a : 48 ≤ c
  · rw [if_pos a]
    by_cases b : c ≤ 57
    · rw [decide_eq_true b]
      unfold halfD
      rw [if_pos ⟨a, b⟩]
      simp only [octet_half.j0]
      rw [if_pos trivial, w1 a]
    · rw [decide_eq_false b]
      exact jf (.inl b)
  · rw [if_neg a]
    exact jf (.inr a)

theorem half_any (c hv : Int) (w : World) (h0 : 0 ≤ c) (h1 : c ≤ 2147483647) (hh : halfD c = hv) :
    Calls Tryd.prog 22 #[.int .i32 c] w fun e w' => e = .returned (.int .i64 hv) ∧ Drawn0 w w' := by
  subst hh
  exact octet_half.calls 3 c _ w (half_f c h0 h1)

/-- The bytes of letters, from a place on. -/
def unhexL : List Int → Int → List Int → List Int × Int × Int
  | [], place, out => if place % 2 = 1 then ([], place, 3) else (out, 0, 0)
  | c :: cs, place, out =>
    if halfD c < 0 then ([], place, 4)
    else if place % 2 = 0 then unhexL cs (place + 1) (out ++ [halfD c * 16])
    else unhexL cs (place + 1) (out.set (out.length - 1) (Go.bits .or .u8 (rd out ((out.length : Int) - 1)) (halfD c)))
def octet_Unhex.f (a0 : ByteArray) : Option (List Int × Int × Int) := if a0.size > 4096 then some ([], 0, 6) else some (unhexL (letters a0) 0 [])

theorem unhexL_bad {c : Int} {cs : List Int} {place : Int} {out : List Int} (h : halfD c < 0) : unhexL (c :: cs) place out = ([], place, 4) := by simp only [unhexL]; rw [if_pos h]
theorem unhexL_hi {c : Int} {cs : List Int} {place : Int} {out : List Int} (h : ¬ halfD c < 0) (h2 : place % 2 = 0) : unhexL (c :: cs) place out = unhexL cs (place + 1) (out ++ [halfD c * 16]) := by
  simp only [unhexL]; rw [if_neg h, if_pos h2]
theorem unhexL_lo {c : Int} {cs : List Int} {place : Int} {out : List Int} (h : ¬ halfD c < 0) (h2 : ¬ place % 2 = 0) : unhexL (c :: cs) place out = unhexL cs (place + 1) (out.set (out.length - 1) (Go.bits .or .u8 (rd out ((out.length : Int) - 1)) (halfD c))) := by
  simp only [unhexL]; rw [if_neg h, if_neg h2]

theorem un_info : (Tryd.prog.info? 5).map (fun i => (i.zero, i.size, i.bytes)) = some (some (.int .u8 0), 1, 1) := by kernel_rfl

theorem un_cell {w : World} {base g cap : Nat} {out : List Int} (h : Kd.R (Kd.int .u8) 5 w base (fun _ => True) (.slice (some ⟨g, 0, none⟩) out.length cap) out) (h0 : (0 : Int) ≤ (out.length : Int) - 1) :
    w.cell? ⟨g, out.length - 1, none⟩ = some (.int .u8 (rd out ((out.length : Int) - 1))) ∧ w.frozen? ⟨g, out.length - 1, none⟩ = false := by
  have e : ((out.length : Int) - 1).toNat = out.length - 1 := by omega
  have := Kd.R_celln (0 : Int) h ((out.length : Int) - 1) (by omega) (by omega)
  rw [e] at this
  exact this

theorem un_put {w : World} {base g cap : Nat} {out : List Int} {y : Int} (h : Kd.R (Kd.int .u8) 5 w base (fun _ => True) (.slice (some ⟨g, 0, none⟩) out.length cap) out) (h0 : (0 : Int) ≤ (out.length : Int) - 1) :
    Kd.R (Kd.int .u8) 5 (w.setCell ⟨g, out.length - 1, none⟩ (.int .u8 y)) base (fun _ => True) (.slice (some ⟨g, 0, none⟩) out.length cap) (out.set (out.length - 1) y) := by
  have e : ((out.length : Int) - 1).toNat = out.length - 1 := by omega
  have := Kd.R_putn h ((out.length : Int) - 1) y
  rw [e] at this
  exact this
theorem un_ne {w : World} {base g n cap k : Nat} {out : List Int} {s : ByteArray} {pos : Nat} (h : Kd.R (Kd.int .u8) 5 w base (fun _ => True) (.slice (some ⟨g, 0, none⟩) n cap) out) (hk : w.heap[k]? = some (.stringIter s pos)) : k ≠ g := by
  intro e
  exact R_ne_iter h hk (by rw [e]; rfl)

set_option maxHeartbeats 4000000 in
set_option maxRecDepth 100000 in
theorem octet_Unhex.calls (a0 : ByteArray) (r1 : List Int) (r2 : Int) (r3 : Int) (w : World) (h : octet_Unhex.f a0 = some (r1, r2, r3)) :
    Calls Tryd.prog 14 #[.string a0] w fun e w' => ∃ v0_ : Value, e = .returned (.tuple #[v0_, .int .i64 r2, .int .i64 r3]) ∧ Kd.R (Kd.int .u8) 5 w' w.heap.size (fun _ => True) v0_ r1 ∧ Below w.heap.size w w' := by
  by_cases hs : a0.size > 4096
  · have hr : ([], 0, 6) = (r1, r2, r3) := by
      unfold octet_Unhex.f at h
      rw [if_pos hs] at h
      exact Option.some.inj h
    simp only [Prod.mk.injEq] at hr
    obtain ⟨rfl, rfl, rfl⟩ := hr
    clear h
    have hb : decide ((4096 : Int) < (a0.size : Int)) = true := decide_eq_true (by omega)
    have hb' : decide (4096 < a0.size) = true := decide_eq_true (by omega)
    clear hs
    go_enter Tryd.func14, Tryd.ntmps14
    go_wp2
    go_ret3
    exact ⟨_, rfl, Kd.R_nil _ _ _ _ _, Below.refl _ _⟩
  · have hr : unhexL (letters a0) 0 [] = (r1, r2, r3) := by
      unfold octet_Unhex.f at h
      rw [if_neg hs] at h
      exact Option.some.inj h
    clear h
    have HF := Aside0.mk hr
    clear hr
    have hb : decide ((4096 : Int) < (a0.size : Int)) = false := decide_eq_false (by omega)
    have hb' : decide (4096 < a0.size) = false := decide_eq_false (by omega)
    have HS := Aside0.mk hs
    clear hs
    go_enter Tryd.func14, Tryd.ntmps14
    go_wp2_with (first | ((with_reducible refine gate_dst (N := 14) rfl ?_); refine range_event rfl 9 (.tmp 13) rfl Tryd.underlying9 a0 rfl ?_; intro k w1 hk hit hbel hlt; have HK := Aside0.mk hk; have HIT := Aside0.mk hit; have HB := Aside0.mk hbel; have HLT := Aside0.mk hlt; clear hk hit hbel hlt))
    clear hb hb'
    simp only [Act.put, List.setIfInBounds_toArray, List.set_cons_succ, List.set_cons_zero]
    go_loopg [5, 6] a0.size (fun gk v5 v6 wr => ∃ (out : List Int) (place : Int) (pos : Nat), v6 = .int .i64 place ∧ 0 ≤ place ∧ place + (gk : Int) ≤ 4096 ∧ Aside0 (out.length ≤ place) ∧ Aside0 (place % 2 = 1 → 0 < out.length) ∧ Aside0 (a0.size ≤ pos + gk) ∧ Aside0 (unhexL (cps a0 gk pos) place out = (r1, r2, r3)) ∧ Aside0 (wr.heap[k]? = some (.stringIter a0 pos)) ∧ Aside0 (k < wr.heap.size) ∧ Aside0 (Kd.R (Kd.int .u8) 5 wr w.heap.size (fun _ => True) v5 out) ∧ Aside0 (Below w.heap.size w wr))
    case atStart => exact ⟨[], 0, 0, rfl, by omega, by have := HS.out; omega, ⟨by simp⟩, ⟨by simp⟩, ⟨by omega⟩, HF, HIT, HLT, ⟨Kd.R_nil _ _ _ _ _⟩, HB⟩
    case round =>
      clear HF HIT HLT HB HS
      obtain ⟨out, place, pos, rfl, hp0, hp1, HOL, HOP, HPO, HF, HIT, HLT, HO, HB⟩ := hrel
      by_cases hpos : pos < a0.size
      · cases gk with
        | zero => exact absurd HPO.out (by omega)
        | succ gk =>
          have hcp : cps a0 (gk + 1) pos = ((Utf8.decode a0 pos).1 : Int) :: cps a0 gk (pos + (Utf8.decode a0 pos).2) := by simp only [cps]; rw [if_pos hpos]
          have hF := HF.out
          rw [hcp] at hF
          have hcr : 0 ≤ ((Utf8.decode a0 pos).1 : Int) ∧ ((Utf8.decode a0 pos).1 : Int) ≤ 2147483647 := by have := decode_le a0 pos; omega
          have hwd := width_pos a0 pos hpos
          have HPO' : a0.size ≤ pos + (Utf8.decode a0 pos).2 + gk := by have := HPO.out; omega
          clear HF hcp
          obtain ⟨pos', hpos'⟩ : ∃ p, p = pos + (Utf8.decode a0 pos).2 := ⟨_, rfl⟩
          rw [← hpos'] at hF HPO'
          obtain ⟨c, hc⟩ : ∃ c : Int, c = ((Utf8.decode a0 pos).1 : Int) := ⟨_, rfl⟩
          rw [← hc] at hF hcr
          have HC := Aside0.mk hc
          have HP' := Aside0.mk hpos'
          obtain ⟨hv, hhv⟩ : ∃ hv, halfD c = hv := ⟨_, rfl⟩
          have hr := halfD_range c
          rw [hhv] at hr
          have HHV := Aside0.mk hhv
          have HPP := Aside0.mk hpos
          have HPO2 := Aside0.mk HPO'
          have HF := Aside0.mk hF
          obtain ⟨hc0, hc1⟩ := hcr
          obtain ⟨hr0, hr1⟩ := hr
          clear hc hpos' hhv hpos HPO' hF hwd HPO
          have hcast : (gk : Int) + 1 = ((gk + 1 : Nat) : Int) := by omega
          have hp1 : place + (gk : Int) + 1 ≤ 4096 := by omega
          clear hcast
          by_cases hneg : hv < 0
          · have hb : decide (hv < 0) = true := decide_eq_true hneg
            have hres : ([], place, 4) = (r1, r2, r3) := by
              have h1 := HF.out
              rw [unhexL_bad (by rw [HHV.out]; exact hneg)] at h1
              exact h1
            simp only [Prod.mk.injEq] at hres
            obtain ⟨rfl, rfl, rfl⟩ := hres
            clear hneg HF
            go_wp2_with (first | ((with_reducible refine gate_dst (N := 15) rfl ?_); refine next_event rfl (.tmp 14) rfl rfl HIT.out HPP.out ?_; intro w2 hit hg hsz; rw [← HC.out]; have HB2 := Aside0.mk (below_iter HB.out (by rw [HK.out]; exact Nat.le_refl _) HLT.out hg); clear hit hg hsz) | (go_at_call 22; refine (half_any c hv _ hc0 hc1 HHV.out).mono ?_; rintro e w3 ⟨rfl, hd⟩; have HB3 := Aside0.mk (HB2.out.trans (hd.below.mono HB2.out.size)); clear hd))
            go_ret3
            exact ⟨_, rfl, Kd.R_nil _ _ _ _ _, HB3.out⟩
          · have hb : decide (hv < 0) = false := decide_eq_false hneg
            have hr0' : 0 ≤ hv := by omega
            have HNEG := Aside0.mk hneg
            clear hneg hr0
            by_cases hev : place % 2 = 0
            · have hbe : (place % 2 == 0) = true := beq_iff_eq.mpr hev
              have HF2 := Aside0.mk (show unhexL (cps a0 gk pos') (place + 1) (out ++ [hv * 16]) = (r1, r2, r3) by
                have h1 := HF.out
                rw [unhexL_hi (by rw [HHV.out]; exact HNEG.out) hev, HHV.out] at h1
                exact h1)
              have HEV := Aside0.mk hev
              clear hev HF
              go_wp2_with (first | ((with_reducible refine gate_dst (N := 15) rfl ?_); refine next_event rfl (.tmp 14) rfl rfl HIT.out HPP.out ?_; intro w2 hit hg hsz; rw [← HC.out]; rw [← HP'.out] at hit; have HB2 := Aside0.mk (below_iter HB.out (by rw [HK.out]; exact Nat.le_refl _) HLT.out hg); have HO2 := Aside0.mk (R_iter HO.out HIT.out hg); have HIT2 := Aside0.mk hit; clear hit hg hsz) | (go_at_call 22; refine (half_any c hv _ hc0 hc1 HHV.out).mono ?_; rintro e w3 ⟨rfl, hd⟩; have HB3 := Aside0.mk (HB2.out.trans (hd.below.mono HB2.out.size)); have HO3 := Aside0.mk (Kd.R_below HO2.out hd.below); have HIT3 := Aside0.mk (iter_below HIT2.out hd.below); clear hd) | ((with_reducible refine gate_builtin (b := .append) (xs := #[.tmp 26, .tmp 30]) rfl ?_); at_builtin; refine Kd.R_append (Kd.int .u8) (w0 := w) w.heap.size rfl (.tmp 26) (.tmp 30) 31 5 (.int .u8 0) 1 rfl Tryd.underlying31 un_info rfl (by decide) (by omega) _ out (hv * 16) [.int .u8 (hv * 16)] (fun _ => True) (fun _ => False) rfl rfl ?aP (fun _ hk => hk.elim) ?aF ?aO ?aB ?aS ?aL ?_; (case aP => exact rfl); (case aB => exact HB3.out); (case aF => exact (fun _ _ => trivial)); (case aO => exact HO3.out); (case aS => exact HB3.out.size); (case aL => have := HOL.out; omega); intro v1 w4 ho hb4 hg4 hat; have HB4 := Aside0.mk hb4; have HO4 := Aside0.mk ho; have HIT4 := Aside0.mk (blk_grown HIT3.out hg4 (R_ne_iter HO3.out HIT3.out)); clear ho hb4 hg4 hat))
              go_roundg gk
              case measure => omega
              case rel => exact ⟨out ++ [hv * 16], place + 1, pos', rfl, by omega, by omega, ⟨by have := HOL.out; simp; omega⟩, ⟨fun _ => by simp⟩, HPO2, HF2, HIT4, ⟨blk_lt HIT4.out⟩, HO4, HB4⟩
            · have hbe : (place % 2 == 0) = false := beq_eq_false_iff_ne.mpr hev
              have hpos1 : 0 < out.length := HOP.out (by omega)
              obtain ⟨g, cap, hv5, gb, gl, HG⟩ := Kd.R_form HO.out hpos1
              subst hv5
              obtain ⟨x1, hx1⟩ : ∃ x1, x1 = rd out ((out.length : Int) - 1) := ⟨_, rfl⟩
              obtain ⟨y, hy⟩ : ∃ y, y = Go.bits .or .u8 x1 hv := ⟨_, rfl⟩
              have hlen : out.length ≤ 9223372036854775807 := by have := HOL.out; omega
              have HF2 := Aside0.mk (show unhexL (cps a0 gk pos') (place + 1) (out.set (out.length - 1) y) = (r1, r2, r3) by
                have h1 := HF.out
                rw [unhexL_lo (by rw [HHV.out]; exact HNEG.out) hev, HHV.out, ← hx1, ← hy] at h1
                exact h1)
              have HX1 := Aside0.mk hx1
              have HY := Aside0.mk hy
              have HEV := Aside0.mk hev
              have GB := Aside0.mk gb
              have hlt1 : (0 : Int) ≤ (out.length : Int) - 1 := by omega
              have hlt2 : (out.length : Int) - 1 < (out.length : Int) := by omega
              have hwr : wrap64 ((out.length : Int) - 1) = (out.length : Int) - 1 := by unfold wrap64; omega
              clear hev HF hy HG gb gl hx1
              go_wp2_with (first | ((with_reducible refine gate_dst (N := 15) rfl ?_); refine next_event rfl (.tmp 14) rfl rfl HIT.out HPP.out ?_; intro w2 hit hg hsz; rw [← HC.out]; rw [← HP'.out] at hit; have HB2 := Aside0.mk (below_iter HB.out (by rw [HK.out]; exact Nat.le_refl _) HLT.out hg); have HO2 := Aside0.mk (R_iter HO.out HIT.out hg); have HIT2 := Aside0.mk hit; clear hit hg hsz) | (go_at_call 22; refine (half_any c hv _ hc0 hc1 HHV.out).mono ?_; rintro e w3 ⟨rfl, hd⟩; have HB3 := Aside0.mk (HB2.out.trans (hd.below.mono HB2.out.size)); have HO3 := Aside0.mk (Kd.R_below HO2.out hd.below); have HIT3 := Aside0.mk (iter_below HIT2.out hd.below); obtain ⟨hcell, hfro⟩ := un_cell HO3.out hlt1; rw [← HX1.out] at hcell; clear hd))
              go_roundg gk
              case measure => omega
              case rel => exact ⟨out.set (out.length - 1) y, place + 1, pos', rfl, by omega, by omega, ⟨by have := HOL.out; simp; omega⟩, ⟨fun _ => by simp; omega⟩, HPO2, HF2, ⟨by rw [Below.heap_setCell _ _ _ _ (un_ne HO3.out HIT3.out)]; exact HIT3.out⟩, ⟨blk_lt (show (w3.setCell _ _).heap[k]? = some (.stringIter a0 pos') by rw [Below.heap_setCell _ _ _ _ (un_ne HO3.out HIT3.out)]; exact HIT3.out)⟩, ⟨by rw [← HY.out]; exact un_put HO3.out hlt1⟩, ⟨HB3.out.setCell GB.out _⟩⟩
      · have hend : cps a0 gk pos = [] := cps_end a0 gk pos hpos
        have hF := HF.out
        rw [hend] at hF
        have HPP := Aside0.mk hpos
        clear hend HF hpos
        simp only [unhexL] at hF
        by_cases hodd : place % 2 = 1
        · rw [if_pos hodd] at hF
          simp only [Prod.mk.injEq] at hF
          obtain ⟨rfl, rfl, rfl⟩ := hF
          have hb : (place % 2 == 1) = true := beq_iff_eq.mpr hodd
          clear hodd
          go_wp2_with (first | ((with_reducible refine gate_dst (N := 15) rfl ?_); refine next_end_event rfl (.tmp 14) rfl rfl HIT.out HPP.out ?_))
          go_ret3
          exact ⟨_, rfl, Kd.R_nil _ _ _ _ _, HB.out⟩
        · rw [if_neg hodd] at hF
          simp only [Prod.mk.injEq] at hF
          obtain ⟨rfl, rfl, rfl⟩ := hF
          have hb : (place % 2 == 1) = false := beq_eq_false_iff_ne.mpr hodd
          clear hodd
          go_wp2_with (first | ((with_reducible refine gate_dst (N := 15) rfl ?_); refine next_end_event rfl (.tmp 14) rfl rfl HIT.out HPP.out ?_))
          go_ret3
          exact ⟨_, rfl, HO.out, HB.out⟩
#print axioms octet_Unhex.calls
end Go.Proofs.YtnfbbnmdlcmifaaDoor.M
