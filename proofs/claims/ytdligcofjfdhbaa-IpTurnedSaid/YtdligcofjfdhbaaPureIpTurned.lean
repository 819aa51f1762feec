/- IpTurned: the plain law. -/
import Derived.Test.YtdligcofjfdhbaaM25
import Derived.Test.YtdligcofjfdhbaaPIpTake
import Derived.Test.YtdligcofjfdhbaaPIpLive
namespace Go.Proofs.Ytdligcofjfdhbaa.Pure
open Go.RowKit Go.Proofs.Ytdligcofjfdhbaa.M Go.Proofs.YtdligcofjfdhbaaW.PrintWords Go.Proofs.YtdligcofjfdhbaaW.PrintLast Go.Proofs.YtdligcofjfdhbaaW.PrintMore
set_option linter.unusedVariables false
set_option linter.unusedSimpArgs false

theorem IpTurned : trunklinelaw10_IpTurned.Pure := by
  intro a0 a1 a2 a3 a4 a5 a6 a7 l b1 b2 h0 h1 h2 h3 h4 h7 _ hl hb g1 g2
  have s0 := wf_u32 h0
  have s1 := wf_u32 h1
  have s2 := wf_u8 h2
  have s3 := wf_u8 h3
  have s4 := wf_u16 h4
  have s7 := wf_i64 h7
  have t1 := wf_u8 g1
  have t2 := wf_u8 g2
  have hb' := wf_bytes hb
  refine ⟨100, ?_⟩
  unfold trunklinelaw10_IpTurned.f
  rw [put_f a0 a1 a2 a3 a4 a5 a6 a7 l s0 s1 s2 s3 s4 s7 (by omega) (by omega), live_f (by omega)]
  simp only [Option.bind_some]
  by_cases hm : mayS a6 a7 l.length = 0
  · obtain ⟨m1, m2, m3, m4, m5⟩ := mayS_zero hm
    have hlen := putS_len a0 a1 a2 a3 a4 a5 a6 a7 l hm
    have hw := wordS_rng (dont := a5) (more := a6) m1 m2
    have hA := headA_len l.length a4 (wordS a7 a5 a6) a3 a2
    have hE := headE_len a0 a1
    have hAr := headA_rng l.length a4 (wordS a7 a5 a6) a3 a2
    have hEr := headE_rng a0 a1
    have hz := net_zero _ _ (by rw [hA]) hAr hEr
    have e2 : (putS a0 a1 a2 a3 a4 a5 a6 a7 l).2 = 0 := by unfold putS; rw [if_pos hm]
    have e1 : (putS a0 a1 a2 a3 a4 a5 a6 a7 l).1 = (headA l.length a4 (wordS a7 a5 a6) a3 a2 ++ (bytesL (netS (headA l.length a4 (wordS a7 a5 a6) a3 a2 ++ headE a0 a1)) 2 ++ headE a0 a1)) ++ l := by
      unfold putS; rw [if_pos hm]; simp [sumP]
    rw [if_pos e2, if_neg (by omega), e1]
    rw [e1] at hlen
    generalize hH : headA l.length a4 (wordS a7 a5 a6) a3 a2 ++ (bytesL (netS (headA l.length a4 (wordS a7 a5 a6) a3 a2 ++ headE a0 a1)) 2 ++ headE a0 a1) = H at *
    have hH20 : H.length = 20 := by rw [← hH]; simp [bytesL_length]; omega
    have hHr : ∀ x ∈ H, 0 ≤ x ∧ x ≤ 255 := by
      intro x hx
      rw [← hH] at hx
      simp only [List.mem_append] at hx
      rcases hx with h | h | h
      · exact hAr x h
      · exact bytesL_range _ _ x h
      · exact hEr x h
    have hH0 : ∃ H', H = 69 :: H' := by
      rw [← hH, headA_eq _ _ _ _ _ s3 s2]
      exact ⟨_, rfl⟩
    obtain ⟨H', hH0⟩ := hH0
    rw [w64 (x := b1) (by omega) (by omega), Int.tmod_eq_emod_of_nonneg t1.1, w64 (x := 1 + b1 % 19) (by omega) (by omega), Int.tmod_eq_emod_of_nonneg t2.1]
    obtain ⟨i, hi⟩ : ∃ i : Nat, (i : Int) = 1 + b1 % 19 := ⟨(1 + b1 % 19).toNat, by omega⟩
    rw [← hi, if_pos (by omega), if_pos (by omega), if_pos (by omega), Int.toNat_natCast]
    have hiH : i < H.length := by omega
    have hg : rd (H ++ l) (i : Int) = H[i] := by
      rw [rd_get _ _ (by simp; omega), List.getElem_append_left hiH]
    have hx := hHr H[i] (List.getElem_mem hiH)
    rw [hg]
    obtain ⟨p, hp, y0, y1, yd⟩ := turn_bit (x := H[i]) (j := b2 % 8) hx.1 hx.2 (by omega) (by omega)
    generalize Go.bits .xor .u8 H[i] (shl .u8 1 (b2 % 8)) = y at *
    have hset : (H ++ l).set i y = H.set i y ++ l := List.set_append_left _ _ hiH
    have hT := sumT_set H true i y hiH
    have hbad : netS (H.set i y) ≠ 0 := by
      refine netS_ne ?_
      rw [hT]
      refine turn_sum _ p _ hz.1 hp _ yd ?_
      split
      · exact .inl rfl
      · exact .inr rfl
    obtain ⟨r, hr, hne⟩ := take_bad (H.set i y ++ l) (by simp; omega) (by simp; omega) (by
      intro x hx
      rcases List.mem_append.mp hx with h | h
      · rcases List.mem_or_eq_of_mem_set h with h | rfl
        · exact hHr x h
        · exact ⟨y0, y1⟩
      · exact hb' x h) (by
        obtain ⟨i', rfl⟩ : ∃ m, i = m + 1 := ⟨i - 1, by omega⟩
        rw [hH0]; rfl) (by rw [List.take_left' (by simp; omega)]; exact hbad) (k := 100) (by omega)
    rw [hset, hr]
    simp [hne]
  · have e2 : (putS a0 a1 a2 a3 a4 a5 a6 a7 l).2 ≠ 0 := by unfold putS; rw [if_neg hm]; exact hm
    rw [if_neg e2]

end Go.Proofs.Ytdligcofjfdhbaa.Pure
