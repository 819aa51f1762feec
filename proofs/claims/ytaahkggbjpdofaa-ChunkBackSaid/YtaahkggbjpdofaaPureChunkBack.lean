/- ChunkBack: Take of Put is the head and the chunks; the plain law. -/
import Derived.Test.YtaahkggbjpdofaaPChunkVp
import Derived.Test.YtaahkggbjpdofaaPChunkLive
import Derived.Test.YtaahkggbjpdofaaM41
namespace Go.Proofs.Ytaahkggbjpdofaa.Pure
open Go.RowKit Go.Proofs.Ytaahkggbjpdofaa.M Go.Proofs.YtaahkggbjpdofaaW.PrintWords Go.Proofs.YtaahkggbjpdofaaW.PrintLast Go.Proofs.YtaahkggbjpdofaaW.PrintMore
set_option linter.unusedVariables false
set_option linter.unusedSimpArgs false
/-- What Put tells where it does not fail: all chunks may be, and the bytes. -/
theorem put_ok : ∀ (l : List S29) (b : List Int), (∀ c ∈ l, In c) → (outV l b).2 = 0 → (∀ c ∈ l, In c ∧ ckC c = 0) ∧ (b ++ flatV l).length ≤ 1480 ∧ outV l b = (stampV (b ++ flatV l), 0)
  | [], b, hin, h => by
    rw [outV] at h ⊢
    by_cases hq : 1480 < b.length
    · rw [if_pos hq] at h; cases h
    · rw [if_neg hq, flatV, List.append_nil]
      exact ⟨fun c hc => (by cases hc), by omega, rfl⟩
  | c :: cs, b, hin, h => by
    rw [outV] at h ⊢
    by_cases h0 : ckC c = 0
    · rw [if_pos h0] at h ⊢
      obtain ⟨h1, h2, h3⟩ := put_ok cs (b ++ byC c) (fun x hx => hin x (by simp [hx])) h
      rw [List.append_assoc] at h2 h3
      refine ⟨fun x hx => ?_, h2, h3⟩
      rcases List.mem_cons.1 hx with rfl | hx
      · exact ⟨hin x (by simp), h0⟩
      · exact h1 x hx
    · rw [if_neg h0] at h
      exact absurd h h0
theorem out_bad : ∀ (l : List S29) (b : List Int), (outV l b).2 ≠ 0 → (outV l b).1 = []
  | [], b, h => by
    rw [outV] at h ⊢
    by_cases hq : 1480 < b.length
    · rw [if_pos hq]
    · rw [if_neg hq] at h; exact absurd rfl h
  | c :: cs, b, h => by
    rw [outV] at h ⊢
    by_cases h0 : ckC c = 0
    · rw [if_pos h0] at h ⊢; exact out_bad cs _ h
    · rw [if_neg h0]
theorem back_l0 (l : List S29) (b : List Int) (a0 a1 a2 : Int) (hin : ∀ c ∈ l, In c ∧ ckC c = 0) (hl : l.length ≤ 32) (hb : b.length = 12 + (flatV l).length) (hb2 : b.length ≤ 1480) :
    ∀ (n i k : Nat) (z : Int), i + n = l.length → z + (flatV (l.drop i)).length = (b.length : Int) → 0 ≤ z → trunklinelaw12_ChunkBack.l0 (k + n + 1501) l b l 0 z (i : Int) a0 a1 a2 a0 a1 a2 = some true
  | 0, i, k, z, hi, hz, z0 => by
    have h4 := flat_four l hin
    rw [List.drop_eq_nil_of_le (by omega)] at hz
    simp only [flatV, List.length_nil] at hz
    rw [show k + 0 + 1501 = (k + 1500) + 1 by omega, trunklinelaw12_ChunkBack.l0, if_neg (by omega), live_f (by omega), Option.bind_some, if_pos rfl, if_pos rfl, if_pos (by simp), same_f l hl hin (by omega), Option.bind_some, if_pos rfl, if_pos (by omega), Int.tmod_eq_emod_of_nonneg z0]
    have : z % 4 = 0 := by omega
    rw [this]
    rfl
  | n + 1, i, k, z, hi, hz, z0 => by
    have hx : i < l.length := by omega
    have hc := hin l[i] (List.getElem_mem hx)
    have hw : wrap64 ((i : Int) + 1) = ((i + 1 : Nat) : Int) := by rw [w64 (by omega) (by omega)]; omega
    rw [List.drop_eq_getElem_cons hx, flatV, List.length_append] at hz
    have hs : szV l[i].f0 l[i].f1 l[i].f2 l[i].f3 l[i].f4 l[i].f5 l[i].f6 l[i].f7 l[i].f8 l[i].f9 l[i].f10 l[i].f11 l[i].f12 l[i].f13 = ((byC l[i]).length : Int) := by unfold szV; rw [if_pos hc.2]
    have hw2 : wrap64 (z + ((byC l[i]).length : Int)) = z + ((byC l[i]).length : Int) := by rw [w64 (by omega) (by omega)]
    have ih := back_l0 l b a0 a1 a2 hin hl hb hb2 n (i + 1) k (z + ((byC l[i]).length : Int)) (by omega) (by omega) (by omega)
    rw [show k + (n + 1) + 1501 = (k + n + 1501) + 1 by omega, trunklinelaw12_ChunkBack.l0, if_pos (by omega), if_pos (by omega), rd29_at l i hx, size_v _ _ _ _ _ _ _ _ _ _ _ _ _ _ hc.1.wf _ (by omega), Option.bind_some, hs, hw, hw2, ih]
theorem ChunkBack : trunklinelaw12_ChunkBack.Pure := by
  intro a0 a1 a2 l w0 w1 w2 hl hl2 hok
  have hi : ∀ c ∈ l, In c := fun c hc => in_of_ok (hok c hc)
  have b0 := wf_u16 w0
  have b1 := wf_u16 w1
  have b2 := wf_u32 w2
  refine ⟨2000, ?_⟩
  unfold trunklinelaw12_ChunkBack.f
  rw [put_v a0 a1 a2 l b0 b1 b2 hi (k := 2000) (by omega), Option.bind_some]
  by_cases he : (putV a0 a1 a2 l).2 = 0
  · rw [if_pos he]
    unfold putV at he ⊢
    by_cases e0 : l.length = 0
    · rw [if_pos e0] at he; cases he
    rw [if_neg e0] at he ⊢
    by_cases e1 : 32 < l.length
    · rw [if_pos e1] at he; cases he
    rw [if_neg e1] at he ⊢
    obtain ⟨h1, h2, h3⟩ := put_ok l _ hi he
    have hh := headV_len b0 b1 b2
    have hsl := stampV_len (headV a0 a1 a2 ++ flatV l) (by rw [List.length_append]; omega)
    have ht := take_back a0 a1 a2 l b0 b1 b2 h1 (by omega) (by omega) h2 (k := 2000) (by omega)
    rw [h3]
    show (chunk_Take.f 2000 (stampV (headV a0 a1 a2 ++ flatV l))).bind _ = _
    rw [ht, Option.bind_some]
    rw [List.length_append] at hsl
    have h2' : (headV a0 a1 a2).length + (flatV l).length ≤ 1480 := by rw [← List.length_append]; exact h2
    have hfin := back_l0 l (stampV (headV a0 a1 a2 ++ flatV l)) a0 a1 a2 h1 (by omega) (by omega) (by omega) l.length 0 (2000 - l.length - 1501) 12 (by omega) (by rw [List.drop_zero]; omega) (by decide)
    rw [show 2000 - l.length - 1501 + l.length + 1501 = 2000 by omega] at hfin
    exact hfin
  · rw [if_neg he, live_f (k := 2000) (by omega), Option.bind_some, if_pos rfl]
    have : (putV a0 a1 a2 l).1 = [] := by
      unfold putV at he ⊢
      by_cases e0 : l.length = 0
      · rw [if_pos e0]
      rw [if_neg e0] at he ⊢
      by_cases e1 : 32 < l.length
      · rw [if_pos e1]
      rw [if_neg e1] at he ⊢
      exact out_bad l _ he
    rw [this]
    rfl
end Go.Proofs.Ytaahkggbjpdofaa.Pure
