/- octet.Addr: its function over letters, and its contract in the printed form. -/
import Derived.Test.YtndoankacnjhoaaDoorHIter
import Derived.WalkSpells
namespace Go.Proofs.YtndoankacnjhoaaDoor.M
open Go.RowKit Go.Proofs.YtndoankacnjhoaaDoorW.PrintWords Go.Proofs.YtndoankacnjhoaaDoorW.PrintLast Go.Proofs.YtndoankacnjhoaaDoorW.PrintMore
set_option linter.unusedVariables false
set_option linter.unusedSimpArgs false

/-- A letter of an address: the next state, or none. -/
def addrStep (c a n digits parts : Int) : Option (Int × Int × Int × Int) :=
  if 48 ≤ c ∧ c ≤ 57 ∧ (digits = 0 ∨ 0 < n) ∧ n * 10 + (c - 48) ≤ 255 then some (a, n * 10 + (c - 48), digits + 1, parts)
  else if c = 46 ∧ 0 < digits ∧ parts < 3 then some (Go.bits .or .u32 (a * 256 % 4294967296) n, 0, 0, parts + 1)
  else none
def addrL : List Int → Int → Int → Int → Int → Int → Int × Int × Int
  | [], a, n, digits, parts, place => if parts < 3 ∨ digits = 0 then (0, place, 3) else (Go.bits .or .u32 (a * 256 % 4294967296) n, 0, 0)
  | c :: cs, a, n, digits, parts, place => match addrStep c a n digits parts with
    | some (a', n', d', p') => addrL cs a' n' d' p' (place + 1)
    | none => (0, place, 4)
def octet_Addr.f (a0 : ByteArray) : Option (Int × Int × Int) := if a0.size ≤ 9223372036854775807 then some (addrL (letters a0) 0 0 0 0 0) else none

theorem addrL_go {c a n digits parts place : Int} {cs : List Int} {a' n' d' p' : Int} (h : addrStep c a n digits parts = some (a', n', d', p')) : addrL (c :: cs) a n digits parts place = addrL cs a' n' d' p' (place + 1) := by
  simp only [addrL, h]
theorem addrL_bad {c a n digits parts place : Int} {cs : List Int} (h : addrStep c a n digits parts = none) : addrL (c :: cs) a n digits parts place = (0, place, 4) := by
  simp only [addrL, h]
theorem addr_cases (c a n digits parts : Int) :
    ((decide ((48 : Int) ≤ c) = true) ∧ (decide (c ≤ 57) = true) ∧ ((digits == 0) = true) ∧ (decide (n * 10 + (c - 48) ≤ 255) = true) ∧ addrStep c a n digits parts = some (a, n * 10 + (c - 48), digits + 1, parts)) ∨
    ((decide ((48 : Int) ≤ c) = true) ∧ (decide (c ≤ 57) = true) ∧ ((digits == 0) = false) ∧ (decide (0 < n) = true) ∧ (decide (n * 10 + (c - 48) ≤ 255) = true) ∧ addrStep c a n digits parts = some (a, n * 10 + (c - 48), digits + 1, parts)) ∨
    ((decide ((48 : Int) ≤ c) = false) ∧ ((c == 46) = true) ∧ (decide (0 < digits) = true) ∧ (decide (parts < 3) = true) ∧ addrStep c a n digits parts = some (Go.bits .or .u32 (a * 256 % 4294967296) n, 0, 0, parts + 1)) ∨
    ((decide ((48 : Int) ≤ c) = false) ∧ ((c == 46) = true) ∧ (decide (0 < digits) = true) ∧ (decide (parts < 3) = false) ∧ addrStep c a n digits parts = none) ∨
    ((decide ((48 : Int) ≤ c) = false) ∧ ((c == 46) = true) ∧ (decide (0 < digits) = false) ∧ addrStep c a n digits parts = none) ∨
    ((decide ((48 : Int) ≤ c) = false) ∧ ((c == 46) = false) ∧ addrStep c a n digits parts = none) ∨
    ((decide ((48 : Int) ≤ c) = true) ∧ (decide (c ≤ 57) = false) ∧ ((c == 46) = false) ∧ addrStep c a n digits parts = none) ∨
    ((decide ((48 : Int) ≤ c) = true) ∧ (decide (c ≤ 57) = true) ∧ ((digits == 0) = false) ∧ (decide (0 < n) = false) ∧ ((c == 46) = false) ∧ addrStep c a n digits parts = none) ∨
    ((decide ((48 : Int) ≤ c) = true) ∧ (decide (c ≤ 57) = true) ∧ ((digits == 0) = false) ∧ (decide (0 < n) = true) ∧ (decide (n * 10 + (c - 48) ≤ 255) = false) ∧ ((c == 46) = false) ∧ addrStep c a n digits parts = none) ∨
    ((decide ((48 : Int) ≤ c) = true) ∧ (decide (c ≤ 57) = true) ∧ ((digits == 0) = true) ∧ (decide (n * 10 + (c - 48) ≤ 255) = false) ∧ ((c == 46) = false) ∧ addrStep c a n digits parts = none) := by
  have hd : (digits == 0) = decide (digits = 0) := rfl
  have hc : (c == 46) = decide (c = 46) := rfl
  rw [hd, hc]
  simp only [decide_eq_true_eq, decide_eq_false_iff_not]
  unfold addrStep
  by_cases A1 : 48 ≤ c ∧ c ≤ 57 ∧ (digits = 0 ∨ 0 < n) ∧ n * 10 + (c - 48) ≤ 255
  · rw [if_pos A1]
    obtain ⟨a1, a2, a3, a4⟩ := A1
    by_cases z : digits = 0
    · exact .inl ⟨a1, a2, z, a4, rfl⟩
    · exact .inr (.inl ⟨a1, a2, z, by omega, a4, rfl⟩)
  · rw [if_neg A1]
    by_cases A2 : c = 46 ∧ 0 < digits ∧ parts < 3
    · rw [if_pos A2]
      exact .inr (.inr (.inl ⟨by omega, A2.1, A2.2.1, A2.2.2, rfl⟩))
    · rw [if_neg A2]
      refine .inr (.inr (.inr ?_))
      by_cases b1 : 48 ≤ c
      · by_cases b2 : c ≤ 57
        · by_cases z : digits = 0
          · exact .inr (.inr (.inr (.inr (.inr (.inr ⟨b1, b2, z, by omega, by omega, rfl⟩)))))
          · by_cases n0 : 0 < n
            · exact .inr (.inr (.inr (.inr (.inr (.inl ⟨b1, b2, z, n0, by omega, by omega, rfl⟩)))))
            · exact .inr (.inr (.inr (.inr (.inl ⟨b1, b2, z, n0, by omega, rfl⟩))))
        · exact .inr (.inr (.inr (.inl ⟨b1, b2, by omega, rfl⟩)))
      · by_cases e : c = 46
        · by_cases f : 0 < digits
          · exact .inl ⟨b1, e, f, by omega, rfl⟩
          · exact .inr (.inl ⟨b1, e, f, rfl⟩)
        · exact .inr (.inr (.inl ⟨b1, e, rfl⟩))

set_option maxHeartbeats 8000000 in
set_option maxRecDepth 100000 in
theorem octet_Addr.calls (a0 : ByteArray) (r1 : Int) (r2 : Int) (r3 : Int) (w : World) (h : octet_Addr.f a0 = some (r1, r2, r3)) :
    Calls Tryd.prog 10 #[.string a0] w fun e w' => e = .returned (.tuple #[.int .u32 r1, .int .i64 r2, .int .i64 r3]) ∧ Below w.heap.size w w' := by
  have hs : a0.size ≤ 9223372036854775807 := by
    unfold octet_Addr.f at h
    split at h
    · assumption
    · cases h
  have hr : addrL (letters a0) 0 0 0 0 0 = (r1, r2, r3) := by
    unfold octet_Addr.f at h
    rw [if_pos hs] at h
    exact Option.some.inj h
  clear h
  have HF := Aside0.mk hr
  clear hr
  have HS := Aside0.mk hs
  clear hs
  go_enter Tryd.func10, Tryd.ntmps10
  go_wp2_with (first | ((with_reducible refine gate_dst (N := 13) rfl ?_); refine range_event rfl 9 (.tmp 12) rfl Tryd.underlying9 a0 rfl ?_; intro k w1 hk hit hbel hlt; have HK := Aside0.mk hk; have HIT := Aside0.mk hit; have HB := Aside0.mk hbel; have HLT := Aside0.mk hlt; clear hk hit hbel hlt))
  simp only [Act.put, List.setIfInBounds_toArray, List.set_cons_succ, List.set_cons_zero]
  go_loopg [5, 6, 7, 8, 9] a0.size (fun gk v5 v6 v7 v8 v9 wr => ∃ (a n digits parts place : Int) (pos : Nat), v5 = .int .u32 a ∧ v6 = .int .i64 n ∧ v7 = .int .i64 digits ∧ v8 = .int .i64 parts ∧ v9 = .int .i64 place ∧ 0 ≤ n ∧ n ≤ 255 ∧ 0 ≤ digits ∧ digits ≤ place ∧ 0 ≤ parts ∧ parts ≤ 3 ∧ place + (gk : Int) ≤ a0.size ∧ Aside0 (a0.size ≤ pos + gk) ∧ Aside0 (addrL (cps a0 gk pos) a n digits parts place = (r1, r2, r3)) ∧ Aside0 (wr.heap[k]? = some (.stringIter a0 pos)) ∧ Aside0 (k < wr.heap.size) ∧ Aside0 (Below w.heap.size w wr))
  case atStart => exact ⟨0, 0, 0, 0, 0, 0, rfl, rfl, rfl, rfl, rfl, by omega, by omega, by omega, by omega, by omega, by omega, by omega, ⟨by omega⟩, HF, HIT, HLT, HB⟩
  case round =>
    clear HF HIT HLT HB
    obtain ⟨a, n, digits, parts, place, pos, rfl, rfl, rfl, rfl, rfl, hn0, hn1, hd0, hd1, hp0, hp1, hpl, HPO, HF, HIT, HLT, HB⟩ := hrel
    have hs64 : (a0.size : Int) ≤ 9223372036854775807 := by have := HS.out; omega
    by_cases hpos : pos < a0.size
    · cases gk with
      | zero => exact absurd HPO.out (by omega)
      | succ gk =>
        have hcp : cps a0 (gk + 1) pos = ((Utf8.decode a0 pos).1 : Int) :: cps a0 gk (pos + (Utf8.decode a0 pos).2) := by simp only [cps]; rw [if_pos hpos]
        have hF := HF.out
        rw [hcp] at hF
        have hcr : 0 ≤ ((Utf8.decode a0 pos).1 : Int) ∧ ((Utf8.decode a0 pos).1 : Int) ≤ 2147483647 := by have := decode_le a0 pos; omega
        have hwd := width_pos a0 pos hpos
        have HPO' : a0.size ≤ pos + (Utf8.decode a0 pos).2 + gk := by have := HPO.out; omega
        clear HF hcp
        obtain ⟨pos', hpos'⟩ : ∃ p, p = pos + (Utf8.decode a0 pos).2 := ⟨_, rfl⟩
        rw [← hpos'] at hF HPO'
        obtain ⟨c, hc⟩ : ∃ c : Int, c = ((Utf8.decode a0 pos).1 : Int) := ⟨_, rfl⟩
        rw [← hc] at hF hcr
        have HC := Aside0.mk hc
        have HP' := Aside0.mk hpos'
        have HPP := Aside0.mk hpos
        have HPO2 := Aside0.mk HPO'
        have HF := Aside0.mk hF
        obtain ⟨hc0, hc1⟩ := hcr
        have hpl1 : place + (gk : Int) + 1 ≤ a0.size := by omega
        clear hc hpos' hpos HPO' hF hwd HPO hpl
        rcases addr_cases c a n digits parts with ⟨h0_, h1_, h2_, h3_, hstep⟩ | ⟨h0_, h1_, h2_, h3_, h4_, hstep⟩ | ⟨h0_, h1_, h2_, h3_, hstep⟩ | ⟨h0_, h1_, h2_, h3_, hstep⟩ | ⟨h0_, h1_, h2_, hstep⟩ | ⟨h0_, h1_, hstep⟩ | ⟨h0_, h1_, h2_, hstep⟩ | ⟨h0_, h1_, h2_, h3_, h4_, hstep⟩ | ⟨h0_, h1_, h2_, h3_, h4_, h5_, hstep⟩ | ⟨h0_, h1_, h2_, h3_, h4_, hstep⟩
        · have HF2 := Aside0.mk (show addrL (cps a0 gk pos') a (n * 10 + (c - 48)) (digits + 1) parts (place + 1) = (r1, r2, r3) by
            have h1 := HF.out
            rw [addrL_go hstep] at h1
            exact h1)
          clear hstep HF
          have hc48 : 48 ≤ c := by simpa using h0_
          have hc57 : c ≤ 57 := by simpa using h1_
          have hsum : n * 10 + (c - 48) ≤ 255 := of_decide_eq_true h3_
          go_wp2_with (first | ((with_reducible refine gate_dst (N := 14) rfl ?_); refine next_event rfl (.tmp 13) rfl rfl HIT.out HPP.out ?_; intro w2 hit hg hsz; rw [← HC.out]; rw [← HP'.out] at hit; have HB2 := Aside0.mk (below_iter HB.out (by rw [HK.out]; exact Nat.le_refl _) HLT.out hg); have HIT2 := Aside0.mk hit; clear hit hg hsz))
          go_roundg gk
          case measure => omega
          case rel => exact ⟨a, n * 10 + (c - 48), digits + 1, parts, place + 1, pos', rfl, rfl, rfl, rfl, rfl, by omega, by omega, by omega, by omega, by omega, by omega, by omega, HPO2, HF2, HIT2, ⟨blk_lt HIT2.out⟩, HB2⟩
        · have HF2 := Aside0.mk (show addrL (cps a0 gk pos') a (n * 10 + (c - 48)) (digits + 1) parts (place + 1) = (r1, r2, r3) by
            have h1 := HF.out
            rw [addrL_go hstep] at h1
            exact h1)
          clear hstep HF
          have hc48 : 48 ≤ c := by simpa using h0_
          have hc57 : c ≤ 57 := by simpa using h1_
          have hsum : n * 10 + (c - 48) ≤ 255 := of_decide_eq_true h4_
          go_wp2_with (first | ((with_reducible refine gate_dst (N := 14) rfl ?_); refine next_event rfl (.tmp 13) rfl rfl HIT.out HPP.out ?_; intro w2 hit hg hsz; rw [← HC.out]; rw [← HP'.out] at hit; have HB2 := Aside0.mk (below_iter HB.out (by rw [HK.out]; exact Nat.le_refl _) HLT.out hg); have HIT2 := Aside0.mk hit; clear hit hg hsz))
          go_roundg gk
          case measure => omega
          case rel => exact ⟨a, n * 10 + (c - 48), digits + 1, parts, place + 1, pos', rfl, rfl, rfl, rfl, rfl, by omega, by omega, by omega, by omega, by omega, by omega, by omega, HPO2, HF2, HIT2, ⟨blk_lt HIT2.out⟩, HB2⟩
        · have HF2 := Aside0.mk (show addrL (cps a0 gk pos') (Go.bits .or .u32 (a * 256 % 4294967296) n) 0 0 (parts + 1) (place + 1) = (r1, r2, r3) by
            have h1 := HF.out
            rw [addrL_go hstep] at h1
            exact h1)
          clear hstep HF
          have hpar : parts < 3 := of_decide_eq_true h3_
          go_wp2_with (first | ((with_reducible refine gate_dst (N := 14) rfl ?_); refine next_event rfl (.tmp 13) rfl rfl HIT.out HPP.out ?_; intro w2 hit hg hsz; rw [← HC.out]; rw [← HP'.out] at hit; have HB2 := Aside0.mk (below_iter HB.out (by rw [HK.out]; exact Nat.le_refl _) HLT.out hg); have HIT2 := Aside0.mk hit; clear hit hg hsz))
          go_roundg gk
          case measure => omega
          case rel => exact ⟨Go.bits .or .u32 (a * 256 % 4294967296) n, 0, 0, parts + 1, place + 1, pos', rfl, rfl, rfl, rfl, rfl, by omega, by omega, by omega, by omega, by omega, by omega, by omega, HPO2, HF2, HIT2, ⟨blk_lt HIT2.out⟩, HB2⟩
        · have hres : (0, place, 4) = (r1, r2, r3) := by
            have h1 := HF.out
            rw [addrL_bad hstep] at h1
            exact h1
          simp only [Prod.mk.injEq] at hres
          obtain ⟨rfl, rfl, rfl⟩ := hres
          clear hstep HF
          go_wp2_with (first | ((with_reducible refine gate_dst (N := 14) rfl ?_); refine next_event rfl (.tmp 13) rfl rfl HIT.out HPP.out ?_; intro w2 hit hg hsz; rw [← HC.out]; rw [← HP'.out] at hit; have HB2 := Aside0.mk (below_iter HB.out (by rw [HK.out]; exact Nat.le_refl _) HLT.out hg); have HIT2 := Aside0.mk hit; clear hit hg hsz))
          go_ret3
          exact ⟨rfl, HB2.out⟩
        · have hres : (0, place, 4) = (r1, r2, r3) := by
            have h1 := HF.out
            rw [addrL_bad hstep] at h1
            exact h1
          simp only [Prod.mk.injEq] at hres
          obtain ⟨rfl, rfl, rfl⟩ := hres
          clear hstep HF
          go_wp2_with (first | ((with_reducible refine gate_dst (N := 14) rfl ?_); refine next_event rfl (.tmp 13) rfl rfl HIT.out HPP.out ?_; intro w2 hit hg hsz; rw [← HC.out]; rw [← HP'.out] at hit; have HB2 := Aside0.mk (below_iter HB.out (by rw [HK.out]; exact Nat.le_refl _) HLT.out hg); have HIT2 := Aside0.mk hit; clear hit hg hsz))
          go_ret3
          exact ⟨rfl, HB2.out⟩
        · have hres : (0, place, 4) = (r1, r2, r3) := by
            have h1 := HF.out
            rw [addrL_bad hstep] at h1
            exact h1
          simp only [Prod.mk.injEq] at hres
          obtain ⟨rfl, rfl, rfl⟩ := hres
          clear hstep HF
          go_wp2_with (first | ((with_reducible refine gate_dst (N := 14) rfl ?_); refine next_event rfl (.tmp 13) rfl rfl HIT.out HPP.out ?_; intro w2 hit hg hsz; rw [← HC.out]; rw [← HP'.out] at hit; have HB2 := Aside0.mk (below_iter HB.out (by rw [HK.out]; exact Nat.le_refl _) HLT.out hg); have HIT2 := Aside0.mk hit; clear hit hg hsz))
          go_ret3
          exact ⟨rfl, HB2.out⟩
        · have hres : (0, place, 4) = (r1, r2, r3) := by
            have h1 := HF.out
            rw [addrL_bad hstep] at h1
            exact h1
          simp only [Prod.mk.injEq] at hres
          obtain ⟨rfl, rfl, rfl⟩ := hres
          clear hstep HF
          go_wp2_with (first | ((with_reducible refine gate_dst (N := 14) rfl ?_); refine next_event rfl (.tmp 13) rfl rfl HIT.out HPP.out ?_; intro w2 hit hg hsz; rw [← HC.out]; rw [← HP'.out] at hit; have HB2 := Aside0.mk (below_iter HB.out (by rw [HK.out]; exact Nat.le_refl _) HLT.out hg); have HIT2 := Aside0.mk hit; clear hit hg hsz))
          go_ret3
          exact ⟨rfl, HB2.out⟩
        · have hres : (0, place, 4) = (r1, r2, r3) := by
            have h1 := HF.out
            rw [addrL_bad hstep] at h1
            exact h1
          simp only [Prod.mk.injEq] at hres
          obtain ⟨rfl, rfl, rfl⟩ := hres
          clear hstep HF
          go_wp2_with (first | ((with_reducible refine gate_dst (N := 14) rfl ?_); refine next_event rfl (.tmp 13) rfl rfl HIT.out HPP.out ?_; intro w2 hit hg hsz; rw [← HC.out]; rw [← HP'.out] at hit; have HB2 := Aside0.mk (below_iter HB.out (by rw [HK.out]; exact Nat.le_refl _) HLT.out hg); have HIT2 := Aside0.mk hit; clear hit hg hsz))
          go_ret3
          exact ⟨rfl, HB2.out⟩
        · have hres : (0, place, 4) = (r1, r2, r3) := by
            have h1 := HF.out
            rw [addrL_bad hstep] at h1
            exact h1
          simp only [Prod.mk.injEq] at hres
          obtain ⟨rfl, rfl, rfl⟩ := hres
          clear hstep HF
          go_wp2_with (first | ((with_reducible refine gate_dst (N := 14) rfl ?_); refine next_event rfl (.tmp 13) rfl rfl HIT.out HPP.out ?_; intro w2 hit hg hsz; rw [← HC.out]; rw [← HP'.out] at hit; have HB2 := Aside0.mk (below_iter HB.out (by rw [HK.out]; exact Nat.le_refl _) HLT.out hg); have HIT2 := Aside0.mk hit; clear hit hg hsz))
          go_ret3
          exact ⟨rfl, HB2.out⟩
        · have hres : (0, place, 4) = (r1, r2, r3) := by
            have h1 := HF.out
            rw [addrL_bad hstep] at h1
            exact h1
          simp only [Prod.mk.injEq] at hres
          obtain ⟨rfl, rfl, rfl⟩ := hres
          clear hstep HF
          go_wp2_with (first | ((with_reducible refine gate_dst (N := 14) rfl ?_); refine next_event rfl (.tmp 13) rfl rfl HIT.out HPP.out ?_; intro w2 hit hg hsz; rw [← HC.out]; rw [← HP'.out] at hit; have HB2 := Aside0.mk (below_iter HB.out (by rw [HK.out]; exact Nat.le_refl _) HLT.out hg); have HIT2 := Aside0.mk hit; clear hit hg hsz))
          go_ret3
          exact ⟨rfl, HB2.out⟩
    · have hend : cps a0 gk pos = [] := cps_end a0 gk pos hpos
      have hF := HF.out
      rw [hend] at hF
      have HPP := Aside0.mk hpos
      clear hend HF hpos
      simp only [addrL] at hF
      by_cases hp3 : parts < 3
      · rw [if_pos (.inl hp3)] at hF
        simp only [Prod.mk.injEq] at hF
        obtain ⟨rfl, rfl, rfl⟩ := hF
        have hb : decide (parts < 3) = true := decide_eq_true hp3
        clear hp3
        go_wp2_with (first | ((with_reducible refine gate_dst (N := 14) rfl ?_); refine next_end_event rfl (.tmp 13) rfl rfl HIT.out HPP.out ?_))
        go_ret3
        exact ⟨rfl, HB.out⟩
      · by_cases hz : digits = 0
        · rw [if_pos (.inr hz)] at hF
          simp only [Prod.mk.injEq] at hF
          obtain ⟨rfl, rfl, rfl⟩ := hF
          have hb : decide (parts < 3) = false := decide_eq_false hp3
          have hb2 : (digits == 0) = true := beq_iff_eq.mpr hz
          clear hp3 hz
          go_wp2_with (first | ((with_reducible refine gate_dst (N := 14) rfl ?_); refine next_end_event rfl (.tmp 13) rfl rfl HIT.out HPP.out ?_))
          go_ret3
          exact ⟨rfl, HB.out⟩
        · rw [if_neg (by omega)] at hF
          simp only [Prod.mk.injEq] at hF
          obtain ⟨rfl, rfl, rfl⟩ := hF
          have hb : decide (parts < 3) = false := decide_eq_false hp3
          have hb2 : (digits == 0) = false := beq_eq_false_iff_ne.mpr hz
          clear hp3 hz
          go_wp2_with (first | ((with_reducible refine gate_dst (N := 14) rfl ?_); refine next_end_event rfl (.tmp 13) rfl rfl HIT.out HPP.out ?_))
          go_ret3
          exact ⟨rfl, HB.out⟩
#print axioms octet_Addr.calls
end Go.Proofs.YtndoankacnjhoaaDoor.M
