/- ChunkAgain: what Take takes Put puts, and taken again it is the same; the plain law. -/
import Derived.Test.YtaahkggbjpdofaaPChunkVp
import Derived.Test.YtaahkggbjpdofaaPAgainA
import Derived.Test.YtaahkggbjpdofaaPChunkLive
import Derived.Test.YtaahkggbjpdofaaM42
namespace Go.Proofs.Ytaahkggbjpdofaa.Pure
open Go.RowKit Go.Proofs.Ytaahkggbjpdofaa.M Go.Proofs.YtaahkggbjpdofaaW.PrintWords Go.Proofs.YtaahkggbjpdofaaW.PrintLast Go.Proofs.YtaahkggbjpdofaaW.PrintMore
set_option linter.unusedVariables false
set_option linter.unusedSimpArgs false
theorem again_bad (l0 : List Int) (e : Int) (he : e ≠ 0) (h : chunk_Take.f 2000 l0 = some (0, 0, 0, [], e)) : trunklinelaw12_ChunkAgain.f 2000 l0 = some true := by
  unfold trunklinelaw12_ChunkAgain.f
  rw [h, Option.bind_some, if_neg he, live_f (k := 2000) (by omega), Option.bind_some, if_pos rfl]
  rfl
theorem ChunkAgain : trunklinelaw12_ChunkAgain.Pure := by
  intro l0 hl hl2 hw
  have hb : Bys l0 := wf_bytes hw
  refine ⟨2000, ?_⟩
  by_cases e0 : l0.length < 16
  · exact again_bad l0 3 (by decide) (by unfold chunk_Take.f; rw [if_pos hb, if_pos e0])
  by_cases e1 : 1480 < l0.length
  · exact again_bad l0 6 (by decide) (by unfold chunk_Take.f; rw [if_pos hb, if_neg e0, if_pos e1])
  have hst := stamped_f l0 (by omega) (by omega) hb (k := 2000) (by omega)
  by_cases e2 : stampV l0 = l0
  · cases hc : chunksV ((l0.drop 12).length + 1) (l0.drop 12) [] with
    | error e => exact again_bad l0 e (chunks_err _ _ _ _ hc) (by unfold chunk_Take.f; rw [if_pos hb, if_neg e0, if_neg e1, hst, Option.bind_some, if_pos (by simp [e2]), hc]; rfl)
    | ok cs =>
      have ht : chunk_Take.f 2000 l0 = some (numN l0 2, numN (l0.drop 2) 2, numN (l0.drop 4) 4, cs, 0) := by unfold chunk_Take.f; rw [if_pos hb, if_neg e0, if_neg e1, hst, Option.bind_some, if_pos (by simp [e2]), hc]; rfl
      obtain ⟨ds, h1, h2, h3, h4, h5⟩ := chunks_fwd _ _ _ _ hc (bdrop hb 12) (by rw [List.length_drop]; omega) (by simp)
      rw [List.nil_append] at h1
      subst h1
      simp only [List.length_nil, Nat.zero_add] at h2
      have h5' := h5 (by omega) (by rw [List.length_drop]; omega)
      rw [List.length_drop] at h4
      have b0 := n2r hb
      have b1 := n2r (bdrop hb 2)
      have b2 := n4r (bdrop hb 4)
      obtain ⟨a0, ha0⟩ : ∃ a, a = numN l0 2 := ⟨_, rfl⟩
      obtain ⟨a1, ha1⟩ : ∃ a, a = numN (l0.drop 2) 2 := ⟨_, rfl⟩
      obtain ⟨a2, ha2⟩ : ∃ a, a = numN (l0.drop 4) 4 := ⟨_, rfl⟩
      rw [← ha0] at ht b0
      rw [← ha1] at ht b1
      rw [← ha2] at ht b2
      have hh := headV_len b0 b1 b2
      have hle : (headV a0 a1 a2 ++ flatV cs).length ≤ 1480 := by rw [List.length_append]; omega
      have hp : chunk_Put.f 2000 a0 a1 a2 cs = some (stampV (headV a0 a1 a2 ++ flatV cs), 0) := by
        rw [put_v a0 a1 a2 cs b0 b1 b2 (fun c hc => (h3 c hc).1) (k := 2000) (by omega)]
        unfold putV
        rw [if_neg (by omega), if_neg (by omega)]
        show some (outV cs (headV a0 a1 a2)) = _
        rw [out_flat cs _ (fun c hc => (h3 c hc).2), if_neg (by omega)]
      have hlen := stampV_len (headV a0 a1 a2 ++ flatV cs) (by rw [List.length_append]; omega)
      have hback := take_back a0 a1 a2 cs b0 b1 b2 h3 h5' h2 hle (k := 2000) (by omega)
      rw [List.length_append] at hlen
      unfold trunklinelaw12_ChunkAgain.f
      rw [ht, Option.bind_some, if_pos rfl, hp, Option.bind_some]
      show (chunk_Take.f 2000 (stampV (headV a0 a1 a2 ++ flatV cs))).bind _ = _
      rw [hback, Option.bind_some, live_f (k := 2000) (by omega), Option.bind_some, if_pos rfl, if_pos rfl, if_pos rfl, if_pos (by show ((stampV (headV a0 a1 a2 ++ flatV cs)).length : Int) ≤ _; omega), if_pos (by simp)]
      show (trunklineref12_SameAll.f 2000 cs cs).bind _ = _
      rw [same_f cs h2 h3 (by omega), Option.bind_some]
  · exact again_bad l0 5 (by decide) (by unfold chunk_Take.f; rw [if_pos hb, if_neg e0, if_neg e1, hst, Option.bind_some, if_neg (by simp [e2])])
end Go.Proofs.Ytaahkggbjpdofaa.Pure
