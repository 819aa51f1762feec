/- ChunkTurned: a packet of which up to four bytes, one behind the other, behind the twelfth, are changed is refused; the plain law. -/
import Derived.Test.YtaahkggbjpdofaaHTurned
import Derived.Test.YtaahkggbjpdofaaPTurn
import Derived.Test.YtaahkggbjpdofaaPChunkLive
namespace Go.Proofs.Ytaahkggbjpdofaa.Pure
open Go.RowKit Go.Proofs.Ytaahkggbjpdofaa.M Go.Proofs.YtaahkggbjpdofaaW.PrintWords Go.Proofs.YtaahkggbjpdofaaW.PrintLast Go.Proofs.YtaahkggbjpdofaaW.PrintMore
set_option linter.unusedVariables false
set_option linter.unusedSimpArgs false
theorem put_okT : ∀ (l : List S29) (b : List Int), (∀ c ∈ l, In c) → (outV l b).2 = 0 → (∀ c ∈ l, In c ∧ ckC c = 0) ∧ (b ++ flatV l).length ≤ 1480 ∧ outV l b = (stampV (b ++ flatV l), 0)
  | [], b, hin, h => by
    rw [outV] at h ⊢
    by_cases hq : 1480 < b.length
    · rw [if_pos hq] at h; cases h
    · rw [if_neg hq, flatV, List.append_nil]
      exact ⟨fun c hc => (by cases hc), by omega, rfl⟩
  | c :: cs, b, hin, h => by
    rw [outV] at h ⊢
    by_cases h0 : ckC c = 0
    · rw [if_pos h0] at h ⊢
      obtain ⟨h1, h2, h3⟩ := put_okT cs (b ++ byC c) (fun x hx => hin x (by simp [hx])) h
      rw [List.append_assoc] at h2 h3
      refine ⟨fun x hx => ?_, h2, h3⟩
      rcases List.mem_cons.1 hx with rfl | hx
      · exact ⟨hin x (by simp), h0⟩
      · exact h1 x hx
    · rw [if_neg h0] at h
      exact absurd h h0
theorem turned_core (a0 a1 a2 : Int) (l : List S29) (b : List Int) (y0 y1 y2 y3 y4 : Int) (h12 : 12 < b.length) (h2 : b.length ≤ 1480) (hl16 : 16 ≤ b.length) (hby : Bys b) (hss : stampV b = b) (ht : chunk_Take.f 2000 b = some (a0, a1, a2, l, 0)) (hl : 1 ≤ l.length) (v4 : 0 ≤ y4 ∧ y4 ≤ 255) (hys : Bys [y0, y1, y2, y3]) :
    (if 12 < b.length ∧ b.length ≤ 1000000 ∧ 0 ≤ y4 ∧ y4 ≤ 255 then (chunk_Take.f 2000 (turnV (12 + y4.toNat % (b.length - 12)) [y0, y1, y2, y3] 0 b false).1).bind fun q =>
      (if (q.2.2.2.2 == 5) = (turnV (12 + y4.toNat % (b.length - 12)) [y0, y1, y2, y3] 0 b false).2 ∧ ((q.2.2.2.1.length : Int) == 0) = (turnV (12 + y4.toNat % (b.length - 12)) [y0, y1, y2, y3] 0 b false).2 then some true else none) else none) = some true := by
  rw [if_pos ⟨h12, by omega, v4.1, v4.2⟩]
  obtain ⟨fr, hfr⟩ : ∃ fr, fr = 12 + y4.toNat % (b.length - 12) := ⟨_, rfl⟩
  rw [← hfr]
  have hmod := Nat.mod_lt y4.toNat (show 0 < b.length - 12 by omega)
  obtain ⟨t1, t2, t3, t4, t5⟩ := turn_tells fr [y0, y1, y2, y3] 0 b false hby hys
  obtain ⟨⟨B, T⟩, hBT⟩ : ∃ B, B = turnV fr [y0, y1, y2, y3] 0 b false := ⟨_, rfl⟩
  rw [← hBT] at t1 t2 t3 t4 t5 ⊢
  simp only at t1 t2 t3 t4 t5
  rw [Nat.add_zero] at t2 t3
  by_cases hBb : B = b
  · have hT : T = false := by
      cases T with
      | false => rfl
      | true => have := t4.mp rfl; simp [hBb] at this
    subst hT
    show (chunk_Take.f 2000 B).bind _ = some true
    rw [hBb, ht, Option.bind_some]
    show (if ((0 : Int) == 5) = false ∧ ((l.length : Int) == 0) = false then some true else none) = some true
    rw [if_pos ⟨by decide, beq_eq_false_iff_ne.mpr (by omega)⟩]
  · have hT : T = true := t4.mpr (.inr hBb)
    subst hT
    have hns : ¬ stampV B = B := fun hs => hBb (stamp_turned b B fr (by omega) (by omega) hby t5 t1 t2 t3 hss hs)
    have hst := stamped_f B (by omega) (by omega) t5 (k := 2000) (by omega)
    show (chunk_Take.f 2000 B).bind _ = some true
    have hT5 : chunk_Take.f 2000 B = some (0, 0, 0, [], 5) := by
      unfold chunk_Take.f
      rw [if_pos t5, if_neg (by omega), if_neg (by omega), hst, Option.bind_some, if_neg (by simp [hns])]
    rw [hT5, Option.bind_some]
    rfl
theorem ChunkTurned : trunklinelaw12_ChunkTurned.Pure := by
  intro a0 a1 a2 l y0 y1 y2 y3 y4 w0 w1 w2 hl hl2 hok u0 u1 u2 u3 u4
  have hi : ∀ c ∈ l, In c := fun c hc => in_of_ok (hok c hc)
  have b0 := wf_u16 w0
  have b1 := wf_u16 w1
  have b2 := wf_u32 w2
  have v4 := wf_u8 u4
  have hys : Bys [y0, y1, y2, y3] := by
    intro z hz
    simp only [List.mem_cons, List.not_mem_nil, or_false] at hz
    rcases hz with rfl | rfl | rfl | rfl
    · exact wf_u8 u0
    · exact wf_u8 u1
    · exact wf_u8 u2
    · exact wf_u8 u3
  refine ⟨2000, ?_⟩
  unfold trunklinelaw12_ChunkTurned.f
  rw [put_v a0 a1 a2 l b0 b1 b2 hi (k := 2000) (by omega), Option.bind_some, live_f (k := 2000) (by omega), Option.bind_some, if_pos rfl]
  by_cases he : (putV a0 a1 a2 l).2 = 0
  case neg => rw [if_neg he]
  rw [if_pos he]
  unfold putV at he ⊢
  by_cases e0 : l.length = 0
  · rw [if_pos e0] at he; cases he
  rw [if_neg e0] at he ⊢
  by_cases e1 : 32 < l.length
  · rw [if_pos e1] at he; cases he
  rw [if_neg e1] at he ⊢
  obtain ⟨h1, h2, h3⟩ := put_okT l _ hi he
  rw [h3]
  have hh := headV_len b0 b1 b2
  have hg := flat_ge l h1
  have hlen : 12 ≤ (headV a0 a1 a2 ++ flatV l).length := by rw [List.length_append]; omega
  have hsl := stampV_len (headV a0 a1 a2 ++ flatV l) hlen
  have ht := take_back a0 a1 a2 l b0 b1 b2 h1 (by omega) (by omega) h2 (k := 2000) (by omega)
  have hby : Bys (stampV (headV a0 a1 a2 ++ flatV l)) := stamp_bys _ (bys_app (headV_bys _ _ _) (flat_bys l h1))
  have hss := stamp_again (headV a0 a1 a2 ++ flatV l) hlen
  have h2' : (headV a0 a1 a2 ++ flatV l).length ≤ 1480 := h2
  have hl16 : 16 ≤ (headV a0 a1 a2 ++ flatV l).length := by rw [List.length_append]; omega
  exact turned_core a0 a1 a2 l (stampV (headV a0 a1 a2 ++ flatV l)) y0 y1 y2 y3 y4 (by omega) (by omega) (by omega) hby hss ht (by omega) v4 hys
end Go.Proofs.Ytaahkggbjpdofaa.Pure
