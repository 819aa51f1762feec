import Derived.Test.YtaahkggbjpdofaaM15
import Derived.KernelRfl
import Derived.Test.YtaahkggbjpdofaaM22
import Derived.Test.YtaahkggbjpdofaaHOddF
import Derived.Test.YtaahkggbjpdofaaHStamp
import Derived.Test.YtaahkggbjpdofaaHRCrc
import Derived.Test.YtaahkggbjpdofaaM29
import Derived.Test.YtaahkggbjpdofaaM40
section
/- live is true. -/
namespace Go.Proofs.Ytaahkggbjpdofaa.Pure
open Go.RowKit Go.Proofs.Ytaahkggbjpdofaa.M Go.Proofs.YtaahkggbjpdofaaW.PrintWords Go.Proofs.YtaahkggbjpdofaaW.PrintLast Go.Proofs.YtaahkggbjpdofaaW.PrintMore

set_option maxRecDepth 100000 in
theorem live_at : trunklinelaw12_live.f 60 = some true := by
  unfold trunklinelaw12_live.f
  simp only [ByteArray.toList_eq]
  kernel_rfl

theorem live_f {k : Nat} (hk : 60 ≤ k) : trunklinelaw12_live.f k = some true := up_ (fun j => trunklinelaw12_live.mono j) hk live_at
end Go.Proofs.Ytaahkggbjpdofaa.Pure
end
section
/- The packet's sum: the program's Stamp is the document's (plain). -/
namespace Go.Proofs.Ytaahkggbjpdofaa.Pure
open Go.RowKit Go.Proofs.Ytaahkggbjpdofaa.M Go.Proofs.YtaahkggbjpdofaaW.PrintWords Go.Proofs.YtaahkggbjpdofaaW.PrintLast Go.Proofs.YtaahkggbjpdofaaW.PrintMore
set_option linter.unusedVariables false
set_option linter.unusedSimpArgs false
theorem rstamp_v (l : List Int) (hl : 12 ≤ l.length) (hl2 : l.length ≤ 1000000) (hb : ∀ x ∈ l, 0 ≤ x ∧ x ≤ 255) {k : Nat} (hk : 20 ≤ k) : trunklineref02_Stamp.f k l = some (stampV l, 0) := by
  have hz := zeroed_range l hb
  have hr := crcL_range _ 4294967295 hz (by decide) (by decide)
  refine up_ (fun j => trunklineref02_Stamp.mono _ j) hk ?_
  obtain ⟨e0, e1, e2, e3, e4, e5, e6, e7, e8, e9, e10, e11, r, rfl⟩ := twelve l hl
  have hll : (e0 :: e1 :: e2 :: e3 :: e4 :: e5 :: e6 :: e7 :: e8 :: e9 :: e10 :: e11 :: r).length = r.length + 12 := rfl
  rw [hll] at hl2
  have hzl : ([e0, e1, e2, e3, e4, e5, e6, e7] ++ [0, 0, 0, 0] ++ r).length ≤ 140737488355328 := by simp only [List.length_append, List.length_cons, List.length_nil]; omega
  obtain ⟨c, hcc⟩ : ∃ c, c = 4294967295 - crcL (e0 :: e1 :: e2 :: e3 :: e4 :: e5 :: e6 :: e7 :: 0 :: 0 :: 0 :: 0 :: r) 4294967295 := ⟨_, rfl⟩
  have hz' : ∀ x ∈ e0 :: e1 :: e2 :: e3 :: e4 :: e5 :: e6 :: e7 :: 0 :: 0 :: 0 :: 0 :: r, 0 ≤ x ∧ x ≤ 255 := hz
  have hr' : 0 ≤ crcL (e0 :: e1 :: e2 :: e3 :: e4 :: e5 :: e6 :: e7 :: 0 :: 0 :: 0 :: 0 :: r) 4294967295 ∧ crcL (e0 :: e1 :: e2 :: e3 :: e4 :: e5 :: e6 :: e7 :: 0 :: 0 :: 0 :: 0 :: r) 4294967295 < 4294967296 := hr
  have hcrc : trunklineref02_Crc.f (e0 :: e1 :: e2 :: e3 :: e4 :: e5 :: e6 :: e7 :: 0 :: 0 :: 0 :: 0 :: r) = some c := by
    unfold trunklineref02_Crc.f
    rw [if_pos ⟨hzl, List.all_eq_true.mpr (fun x hx => decide_eq_true (hz' x hx))⟩, hcc]
  have hs : stampV (e0 :: e1 :: e2 :: e3 :: e4 :: e5 :: e6 :: e7 :: e8 :: e9 :: e10 :: e11 :: r) = e0 :: e1 :: e2 :: e3 :: e4 :: e5 :: e6 :: e7 :: c % 256 :: c / 256 % 256 :: c / 65536 % 256 :: c / 16777216 % 256 :: r := by rw [hcc]; rfl
  rw [hs]
  have c0 : 0 ≤ c ∧ c < 4294967296 := by omega
  unfold trunklineref02_Stamp.f
  rw [if_neg (by rw [hll]; omega), Option.bind_some, if_pos (by rw [hll]; show 0 + _ < _; omega), List.nil_append]
  have w8 : wrap64 (8 + 1) = 9 := by rw [w64 (by decide) (by decide)]; rfl
  have w9 : wrap64 (9 + 1) = 10 := by rw [w64 (by decide) (by decide)]; rfl
  have w10 : wrap64 (10 + 1) = 11 := by rw [w64 (by decide) (by decide)]; rfl
  have w11 : wrap64 (11 + 1) = 12 := by rw [w64 (by decide) (by decide)]; rfl
  have L0 : trunklineref02_Stamp.l0 20 (e0 :: e1 :: e2 :: e3 :: e4 :: e5 :: e6 :: e7 :: e8 :: e9 :: e10 :: e11 :: r) 8 = trunklineref02_Stamp.l1 15 (e0 :: e1 :: e2 :: e3 :: e4 :: e5 :: e6 :: e7 :: 0 :: 0 :: 0 :: 0 :: r) c 8 := by
    rw [trunklineref02_Stamp.l0, if_pos (by decide), if_pos (by decide), if_pos (by rw [hll]; omega), w8]
    rw [trunklineref02_Stamp.l0, if_pos (by decide), if_pos (by decide), if_pos (by simp only [List.length_set]; rw [hll]; omega), w9]
    rw [trunklineref02_Stamp.l0, if_pos (by decide), if_pos (by decide), if_pos (by simp only [List.length_set]; rw [hll]; omega), w10]
    rw [trunklineref02_Stamp.l0, if_pos (by decide), if_pos (by decide), if_pos (by simp only [List.length_set]; rw [hll]; omega), w11]
    rw [trunklineref02_Stamp.l0, if_neg (by decide)]
    show (trunklineref02_Crc.f (e0 :: e1 :: e2 :: e3 :: e4 :: e5 :: e6 :: e7 :: 0 :: 0 :: 0 :: 0 :: r)).bind _ = _
    rw [hcrc, Option.bind_some]
    rfl
  rw [L0]
  have t1 : Int.tmod c 256 % 256 = c % 256 := by rw [Int.tmod_eq_emod_of_nonneg c0.1]; omega
  have q1 : Int.tdiv c 256 % 4294967296 = c / 256 := by rw [Int.tdiv_eq_ediv_of_nonneg c0.1]; omega
  have t2 : Int.tmod (c / 256) 256 % 256 = c / 256 % 256 := by rw [Int.tmod_eq_emod_of_nonneg (by omega)]; omega
  have q2 : Int.tdiv (c / 256) 256 % 4294967296 = c / 65536 := by rw [Int.tdiv_eq_ediv_of_nonneg (by omega)]; omega
  have t3 : Int.tmod (c / 65536) 256 % 256 = c / 65536 % 256 := by rw [Int.tmod_eq_emod_of_nonneg (by omega)]; omega
  have q3 : Int.tdiv (c / 65536) 256 % 4294967296 = c / 16777216 := by rw [Int.tdiv_eq_ediv_of_nonneg (by omega)]; omega
  have t4 : Int.tmod (c / 16777216) 256 % 256 = c / 16777216 % 256 := by rw [Int.tmod_eq_emod_of_nonneg (by omega)]; omega
  have hl3 : (e0 :: e1 :: e2 :: e3 :: e4 :: e5 :: e6 :: e7 :: 0 :: 0 :: 0 :: 0 :: r).length = r.length + 12 := rfl
  rw [trunklineref02_Stamp.l1, if_pos (by decide), if_pos (by decide), if_pos (by rw [hl3]; omega), w8, t1, q1]
  rw [trunklineref02_Stamp.l1, if_pos (by decide), if_pos (by decide), if_pos (by simp only [List.length_set]; rw [hl3]; omega), w9, t2, q2]
  rw [trunklineref02_Stamp.l1, if_pos (by decide), if_pos (by decide), if_pos (by simp only [List.length_set]; rw [hl3]; omega), w10, t3, q3]
  rw [trunklineref02_Stamp.l1, if_pos (by decide), if_pos (by decide), if_pos (by simp only [List.length_set]; rw [hl3]; omega), w11, t4]
  rw [trunklineref02_Stamp.l1, if_neg (by decide)]
  rfl
end Go.Proofs.Ytaahkggbjpdofaa.Pure
end
section
/- ChunkTakes: what Take tells of bytes is what the document tells; the plain law. -/
namespace Go.Proofs.Ytaahkggbjpdofaa.Pure
open Go.RowKit Go.Proofs.Ytaahkggbjpdofaa.M Go.Proofs.YtaahkggbjpdofaaW.PrintWords Go.Proofs.YtaahkggbjpdofaaW.PrintLast Go.Proofs.YtaahkggbjpdofaaW.PrintMore
set_option linter.unusedVariables false
set_option linter.unusedSimpArgs false
theorem strOf_list (xs : List Int) : (strOfNums xs).toList = xs.map fun n => UInt8.ofNat n.toNat := by
  rw [ByteArray.toList_eq]; simp [strOfNums]
theorem strOf_inj : ∀ (a b : List Int), Bys a → Bys b → (strOfNums a).toList = (strOfNums b).toList → a = b
  | [], [], _, _, _ => rfl
  | [], y :: b, _, _, h => by rw [strOf_list, strOf_list] at h; cases h
  | x :: a, [], _, _, h => by rw [strOf_list, strOf_list] at h; cases h
  | x :: a, y :: b, ha, hb, h => by
    rw [strOf_list, strOf_list, List.map_cons, List.map_cons] at h
    injection h with h1 h2
    have hx := ha x List.mem_cons_self
    have hy := hb y List.mem_cons_self
    have h3 := congrArg UInt8.toNat h1
    rw [UInt8.toNat_ofNat', UInt8.toNat_ofNat'] at h3
    have e1 : x = y := by omega
    have e2 : a = b := strOf_inj a b (fun z hz => ha z (List.mem_cons_of_mem _ hz)) (fun z hz => hb z (List.mem_cons_of_mem _ hz)) (by rw [strOf_list, strOf_list]; exact h2)
    rw [e1, e2]
theorem pars_len : ∀ (f : Nat) (l : List Int) (out ps : List S48), parsV f l out = .ok ps → out.length ≤ 16 → ps.length ≤ 16
  | 0, l, out, ps, h, ho => by cases h; exact ho
  | f + 1, l, out, ps, h, ho => by
    unfold parsV at h
    split at h
    · cases h; exact ho
    split at h
    · cases h
    split at h
    · cases h
    split at h
    · cases h
    exact pars_len f _ _ ps h (by rw [List.length_append, List.length_singleton]; omega)
theorem blocks_len : ∀ (k : Nat) (l : List Int), (blocksV k l).length = k
  | 0, l => rfl
  | k + 1, l => by rw [blocksV, List.length_cons, blocks_len k]
theorem dups_len : ∀ (k : Nat) (l : List Int), (dupsV k l).length = k
  | 0, l => rfl
  | k + 1, l => by rw [dupsV, List.length_cons, dups_len k]
def Short (c : S29) : Prop := c.f10.length ≤ 16 ∧ c.f11.length ≤ 16 ∧ c.f12.length ≤ 16
theorem one_len {t fl : Int} {l : List Int} {c : S29} (h : oneV t fl l = .ok c) : Short c := by
  unfold oneV at h
  split at h
  · unfold dataV at h; split at h <;> cases h; simp [Short]
  split at h
  · unfold firstR at h
    split at h
    · cases h
    split at h
    · rename_i ps hp; cases h; exact ⟨by simp, by simp, pars_len _ _ _ _ hp (by simp)⟩
    · cases h
  split at h
  · unfold sackR at h
    split at h
    · cases h
    split at h
    · cases h
    split at h
    · cases h
    · rename_i hn; cases h; exact ⟨by rw [blocks_len]; omega, by rw [dups_len]; omega, by simp⟩
  split at h
  · unfold pmV at h
    split at h
    · rename_i ps hp; cases h; exact ⟨by simp, by simp, pars_len _ _ _ _ hp (by simp)⟩
    · cases h
  split at h
  · unfold numberV at h; split at h <;> cases h; simp [Short]
  split at h
  · unfold bareV at h; split at h <;> cases h; simp [Short]
  unfold rawV at h; cases h; simp [Short]
theorem chunks_len : ∀ (f : Nat) (l : List Int) (out cs : List S29), chunksV f l out = .ok cs → out.length ≤ 32 → (∀ c ∈ out, Short c) → cs.length ≤ 32 ∧ ∀ c ∈ cs, Short c
  | 0, l, out, cs, h, h1, h2 => by cases h; exact ⟨h1, h2⟩
  | f + 1, l, out, cs, h, h1, h2 => by
    unfold chunksV at h
    split at h
    · cases h; exact ⟨h1, h2⟩
    split at h
    · cases h
    split at h
    · cases h
    split at h
    · cases h
    split at h
    · cases h
    cases ho : oneV (rd l 0) (rd l 1) ((l.drop 4).take ((numN (l.drop 2) 2).toNat - 4)) with
    | error e => rw [ho] at h; cases h
    | ok c =>
      rw [ho] at h
      refine chunks_len f _ _ cs h (by rw [List.length_append, List.length_singleton]; omega) (fun d hd => ?_)
      rcases List.mem_append.mp hd with hd | hd
      · exact h2 d hd
      · rw [List.mem_singleton.mp hd]; exact one_len ho
theorem takes_of (l0 : List Int) (r1 r2 r3 : Int) (cs : List S29) (e : Int) (h1 : chunk_Take.f 2000 l0 = some (r1, r2, r3, cs, e)) (h2 : trunklineref12_Take.f 2000 l0 = some (r1, r2, r3, cs, e)) (hl : cs.length ≤ 32) (hs : ∀ c ∈ cs, Short c) : trunklinelaw12_ChunkTakes.f 2000 l0 = some true := by
  have hsame : trunklineref12_SameAll.f 2000 cs cs = some true := by
    unfold trunklineref12_SameAll.f
    rw [if_pos rfl, show 2000 = (1999 - cs.length) + cs.length + 1 by omega]
    exact same_l0 cs hl (fun c hc => by have := hs c hc; unfold Short at this; omega) cs.length 0 _ (by omega)
  unfold trunklinelaw12_ChunkTakes.f
  rw [h1, Option.bind_some, h2, Option.bind_some, live_f (k := 2000) (by omega), Option.bind_some, if_pos rfl, if_pos (by simp)]
  show (trunklineref12_SameAll.f 2000 cs cs).bind _ = _
  rw [hsame, Option.bind_some, if_pos rfl]
  simp
theorem ChunkTakes : trunklinelaw12_ChunkTakes.Pure := by
  intro l0 hl hl2 hw
  have hb : Bys l0 := wf_bytes hw
  refine ⟨2000, ?_⟩
  by_cases e0 : l0.length < 16
  · exact takes_of l0 0 0 0 [] 3 (by unfold chunk_Take.f; rw [if_pos hb, if_pos e0]) (by unfold trunklineref12_Take.f; rw [if_pos hb, if_pos e0]) (by simp) (by simp)
  by_cases e1 : 1480 < l0.length
  · exact takes_of l0 0 0 0 [] 6 (by unfold chunk_Take.f; rw [if_pos hb, if_neg e0, if_pos e1]) (by unfold trunklineref12_Take.f; rw [if_pos hb, if_neg e0, if_pos e1]) (by simp) (by simp)
  have hst := stamped_f l0 (by omega) (by omega) hb (k := 2000) (by omega)
  have hrt := rstamp_v l0 (by omega) (by omega) hb (k := 2000) (by omega)
  by_cases e2 : stampV l0 = l0
  · have t1 : chunk_Take.f 2000 l0 = some (takeT l0 (chunksV ((l0.drop 12).length + 1) (l0.drop 12) [])) := by unfold chunk_Take.f; rw [if_pos hb, if_neg e0, if_neg e1, hst, Option.bind_some, if_pos (by simp [e2])]
    have t2 : trunklineref12_Take.f 2000 l0 = some (takeT l0 (chunksV ((l0.drop 12).length + 1) (l0.drop 12) [])) := by
      unfold trunklineref12_Take.f
      rw [if_pos hb, if_neg e0, if_neg e1, hrt, Option.bind_some, if_pos (by rw [e2])]
    cases hc : chunksV ((l0.drop 12).length + 1) (l0.drop 12) [] with
    | error e =>
      rw [hc] at t1 t2
      exact takes_of l0 0 0 0 [] e t1 t2 (by simp) (by simp)
    | ok cs =>
      rw [hc] at t1 t2
      have h := chunks_len _ _ _ _ hc (by simp) (by simp)
      exact takes_of l0 _ _ _ cs 0 t1 t2 h.1 h.2
  · refine takes_of l0 0 0 0 [] 5 (by unfold chunk_Take.f; rw [if_pos hb, if_neg e0, if_neg e1, hst, Option.bind_some, if_neg (by simp [e2])]) ?_ (by simp) (by simp)
    unfold trunklineref12_Take.f
    rw [if_pos hb, if_neg e0, if_neg e1, hrt, Option.bind_some, if_neg (fun h => e2 (strOf_inj _ _ (stamp_bys l0 hb) hb h))]
end Go.Proofs.Ytaahkggbjpdofaa.Pure
end
