/- ChunkPuts: the program's Put is the document's; the plain law. -/
import Derived.Test.YtaahkggbjpdofaaPChunkK
import Derived.Test.YtaahkggbjpdofaaM12
import Derived.Test.YtaahkggbjpdofaaM30
import Derived.Test.YtaahkggbjpdofaaPChunkLive
namespace Go.Proofs.Ytaahkggbjpdofaa.Pure
open Go.RowKit Go.Proofs.Ytaahkggbjpdofaa.M Go.Proofs.YtaahkggbjpdofaaW.PrintWords Go.Proofs.YtaahkggbjpdofaaW.PrintLast Go.Proofs.YtaahkggbjpdofaaW.PrintMore
set_option linter.unusedVariables false
set_option linter.unusedSimpArgs false
abbrev Bys (l : List Int) : Prop := ∀ x ∈ l, 0 ≤ x ∧ x ≤ 255
theorem bys_app {a b : List Int} (ha : Bys a) (hb : Bys b) : Bys (a ++ b) := fun x hx => (List.mem_append.mp hx).elim (ha x) (hb x)
theorem nb_bys (v n : Int) : Bys (nb v n) := by
  intro x hx
  unfold nb bytesS at hx
  split at hx
  · split at hx
    · cases hx
    · exact bytesL_range _ _ x hx
  · cases hx
theorem pad4_bys {b : List Int} (h : Bys b) : Bys (pad4 b) := by
  unfold pad4
  exact bys_app h (fun x hx => by have := List.eq_of_mem_replicate hx; omega)
theorem parV_bys : ∀ (l : List S48) (b : List Int), Bys b → (∀ p ∈ l, Bys p.f1) → Bys (parV b l)
  | [], b, hb, h => hb
  | p :: ps, b, hb, h => parV_bys ps _ (bys_app (bys_app (bys_app (pad4_bys hb) (nb_bys _ _)) (nb_bys _ _)) (h p (by simp))) (fun q hq => h q (by simp [hq]))
theorem blkV_bys : ∀ (l : List S101) (b : List Int), Bys b → Bys (blkV b l)
  | [], b, hb => hb
  | p :: ps, b, hb => blkV_bys ps _ (bys_app (bys_app hb (nb_bys _ _)) (nb_bys _ _))
theorem dupV_bys : ∀ (l : List Int) (b : List Int), Bys b → Bys (dupV b l)
  | [], b, hb => hb
  | p :: ps, b, hb => dupV_bys ps _ (bys_app hb (nb_bys _ _))
theorem valV_bys (t a1 a2 a3 a4 a5 a6 a7 a8 a9 : Int) (l10 : List S101) (l11 : List Int) (l12 : List S48) (l13 : List Int) (h12 : ∀ p ∈ l12, Bys p.f1) (h13 : Bys l13) : Bys (valV t a1 a2 a3 a4 a5 a6 a7 a8 a9 l10 l11 l12 l13) := by
  have hnil : Bys [] := fun x hx => by cases hx
  unfold valV
  split
  · exact bys_app (bys_app (bys_app (bys_app (nb_bys _ _) (nb_bys _ _)) (nb_bys _ _)) (nb_bys _ _)) h13
  split
  · exact parV_bys _ _ (bys_app (bys_app (bys_app (bys_app (nb_bys _ _) (nb_bys _ _)) (nb_bys _ _)) (nb_bys _ _)) (nb_bys _ _)) h12
  split
  · exact dupV_bys _ _ (blkV_bys _ _ (bys_app (bys_app (bys_app (nb_bys _ _) (nb_bys _ _)) (nb_bys _ _)) (nb_bys _ _)))
  split
  · exact parV_bys _ _ hnil h12
  split
  · exact nb_bys _ _
  split
  · exact hnil
  · exact h13
abbrev ckC (c : S29) : Int := ckV c.f0 c.f1 c.f2 c.f3 c.f4 c.f5 c.f6 c.f7 c.f8 c.f9 c.f10 c.f11 c.f12 c.f13
abbrev byC (c : S29) : List Int := byV c.f0 c.f1 c.f2 c.f3 c.f4 c.f5 c.f6 c.f7 c.f8 c.f9 c.f10 c.f11 c.f12 c.f13
abbrev WfC (c : S29) : Prop := Wf c.f0 c.f1 c.f2 c.f3 c.f4 c.f5 c.f6 c.f7 c.f8 c.f9 c.f10 c.f11 c.f12 c.f13
/-- Of what comes in: the fields' ranges, and the bytes'. -/
structure In (c : S29) : Prop where
  wf : WfC c
  b12 : ∀ p ∈ c.f12, Bys p.f1
  b13 : Bys c.f13
theorem in_of_ok {c : S29} (o : ok29 c) : In c := by
  obtain ⟨w0, w1, w2, w3, w4, w5, w6, w7, w8, w9, ⟨m10, s10, o10⟩, ⟨m11, s11, o11⟩, ⟨m12, s12, o12⟩, ⟨m13, s13, o13⟩⟩ := o
  exact ⟨⟨wf_u8 w0, wf_u8 w1, wf_u32 w2, wf_u16 w3, wf_u16 w4, wf_u32 w5, wf_u32 w6, wf_u32 w7, wf_u16 w8, wf_u16 w9, fun p hp => ⟨wf_u16 (o10 p hp).1, wf_u16 (o10 p hp).2⟩, fun p hp => wf_u32 (o11 p hp), fun p hp => wf_u16 (o12 p hp).1⟩, fun p hp => wf_bytes (o12 p hp).2.2.2, wf_bytes o13⟩
theorem byC_bys {c : S29} (h : In c) : Bys (byC c) := by
  refine pad4_bys (bys_app (bys_app ?_ (nb_bys _ _)) (valV_bys _ _ _ _ _ _ _ _ _ _ _ _ _ _ h.b12 h.b13))
  intro x hx
  have h0 := h.wf.t0
  have h1 := h.wf.b1
  simp only [List.mem_cons, List.not_mem_nil, or_false] at hx
  rcases hx with rfl | rfl <;> omega
/-- A chunk that may be has up to 1472 bytes, a multiple of four. -/
theorem byC_len {c : S29} (h : WfC c) (h0 : ckC c = 0) : (byC c).length % 4 = 0 ∧ 4 ≤ (byC c).length ∧ (byC c).length ≤ 1472 := by
  have hf := fit_of_ok _ _ _ _ _ _ _ _ _ _ _ _ _ _ h h0
  have hl := byV_len _ _ _ _ _ _ _ _ _ _ _ _ _ _ hf
  have hv : 4 + (valV c.f0 c.f1 c.f2 c.f3 c.f4 c.f5 c.f6 c.f7 c.f8 c.f9 c.f10 c.f11 c.f12 c.f13).length ≤ 1468 := by
    have h1 := h0
    unfold ckC ckV at h1
    repeat (split at h1; (first | (cases h1; done) | skip))
    all_goals first | omega | (cases h1)
  rw [hl]
  omega
/-- What Put tells behind the chunks' bytes so far. -/
def outV : List S29 → List Int → List Int × Int
  | [], b => if 1480 < b.length then ([], 6) else (stampV b, 0)
  | c :: cs, b => if ckC c = 0 then outV cs (b ++ byC c) else ([], ckC c)
theorem rd29_at (l : List S29) (i : Nat) (h : i < l.length) : rd_T29 l (i : Int) = l[i] := by
  unfold rd_T29
  rw [Int.toNat_natCast, List.getD_eq_getElem?_getD, List.getElem?_eq_getElem h]
  rfl
theorem put_l0 (l : List S29) (hl : l.length ≤ 32) (hin : ∀ c ∈ l, In c) : ∀ (n i k : Nat) (b : List Int), i + n = l.length → b.length % 4 = 0 → 12 ≤ b.length → b.length ≤ 12 + i * 1472 → Bys b →
    chunk_Put.l0 (k + n + 121) b l (l.length : Int) (i : Int) = some (outV (l.drop i) b) ∧ trunklineref12_Put.l0 (k + n + 121) l b (i : Int) = some (outV (l.drop i) b)
  | 0, i, k, b, hi, h4, h12, hb, hy => by
    rw [show k + 0 + 121 = k + 120 + 1 by omega, List.drop_eq_nil_of_le (by omega)]
    unfold outV
    by_cases hq : 1480 < b.length
    · rw [if_pos hq]
      refine ⟨?_, ?_⟩
      · rw [chunk_Put.l0, if_neg (by omega), if_pos (by omega)]
      · rw [trunklineref12_Put.l0, if_neg (by omega), if_pos (by omega)]
    · rw [if_neg hq]
      refine ⟨?_, ?_⟩
      · rw [chunk_Put.l0, if_neg (by omega), if_neg (by omega), stamp_v b h12 (by omega) hy (k := k + 120) (by omega)]
        rfl
      · rw [trunklineref12_Put.l0, if_neg (by omega), if_neg (by omega), rstamp_v b h12 (by omega) hy (k := k + 120) (by omega)]
        rfl
  | n + 1, i, k, b, hi, h4, h12, hb, hy => by
    have hlt : i < l.length := by omega
    have hc := hin l[i] (List.getElem_mem hlt)
    have hd : l.drop i = l[i] :: l.drop (i + 1) := List.drop_eq_getElem_cons hlt
    have hw : wrap64 ((i : Int) + 1) = ((i + 1 : Nat) : Int) := by rw [w64 (by omega) (by omega)]; omega
    rw [hd, outV, show k + (n + 1) + 121 = (k + n + 121) + 1 by omega]
    by_cases h0 : ckC l[i] = 0
    · have hf := fit_of_ok _ _ _ _ _ _ _ _ _ _ _ _ _ _ hc.wf h0
      have hlen := byC_len hc.wf h0
      have hrl : ([l[i].f0, l[i].f1] ++ nb (4 + ((valV l[i].f0 l[i].f1 l[i].f2 l[i].f3 l[i].f4 l[i].f5 l[i].f6 l[i].f7 l[i].f8 l[i].f9 l[i].f10 l[i].f11 l[i].f12 l[i].f13).length : Int)) 2 ++ valV l[i].f0 l[i].f1 l[i].f2 l[i].f3 l[i].f4 l[i].f5 l[i].f6 l[i].f7 l[i].f8 l[i].f9 l[i].f10 l[i].f11 l[i].f12 l[i].f13).length ≤ 1472 := by
        have := pad4_len ([l[i].f0, l[i].f1] ++ nb (4 + ((valV l[i].f0 l[i].f1 l[i].f2 l[i].f3 l[i].f4 l[i].f5 l[i].f6 l[i].f7 l[i].f8 l[i].f9 l[i].f10 l[i].f11 l[i].f12 l[i].f13).length : Int)) 2 ++ valV l[i].f0 l[i].f1 l[i].f2 l[i].f3 l[i].f4 l[i].f5 l[i].f6 l[i].f7 l[i].f8 l[i].f9 l[i].f10 l[i].f11 l[i].f12 l[i].f13)
        have h2 := hlen.2.2
        unfold byC byV at h2
        omega
      have hbl : (byC l[i]).length ≤ 1472 := hlen.2.2
      have ih := put_l0 l hl hin n (i + 1) k (b ++ byC l[i]) (by omega) (by rw [List.length_append]; omega) (by rw [List.length_append]; omega) (by rw [List.length_append]; omega) (bys_app hy (byC_bys hc))
      rw [if_pos h0]
      refine ⟨?_, ?_⟩
      · rw [← ih.1, chunk_Put.l0, if_pos (by omega), if_pos (by omega), if_pos (by omega), rd29_at l i hlt, check_v _ _ _ _ _ _ _ _ _ _ _ _ _ _ hc.wf (k + n + 121) (by omega), Option.bind_some, if_pos h0, bytes_v _ _ _ _ _ _ _ _ _ _ _ _ _ _ hf (k + n + 121) (by omega), Option.bind_some, if_pos (by omega), pad_4 _ (by rw [List.length_append]; omega), Option.bind_some, hw, pad4_app b _ h4]
        rfl
      · rw [← ih.2, trunklineref12_Put.l0, if_pos (by omega), if_pos (by omega), rd29_at l i hlt, rcheck_v _ _ _ _ _ _ _ _ _ _ _ _ _ _ hc.wf (k + n + 121) (by omega), Option.bind_some, if_pos h0, rbytes_v _ _ _ _ _ _ _ _ _ _ _ _ _ _ hf (k + n + 121) (by omega), Option.bind_some, if_pos (by show b.length + (byC l[i]).length < _; omega), hw]
    · rw [if_neg h0]
      refine ⟨?_, ?_⟩
      · rw [chunk_Put.l0, if_pos (by omega), if_pos (by omega), if_pos (by omega), rd29_at l i hlt, check_v _ _ _ _ _ _ _ _ _ _ _ _ _ _ hc.wf (k + n + 121) (by omega), Option.bind_some, if_neg h0]
      · rw [trunklineref12_Put.l0, if_pos (by omega), if_pos (by omega), rd29_at l i hlt, rcheck_v _ _ _ _ _ _ _ _ _ _ _ _ _ _ hc.wf (k + n + 121) (by omega), Option.bind_some, if_neg h0]
theorem nb_len4 {v : Int} (h0 : 0 ≤ v) (h1 : v ≤ 4294967295) : (nb v 4).length = 4 := nb4 h0 h1
/-- What Put tells. -/
def putV (a0 a1 a2 : Int) (l : List S29) : List Int × Int := if l.length = 0 then ([], 2) else if 32 < l.length then ([], 6) else outV l (nb a0 2 ++ nb a1 2 ++ nb a2 4 ++ nb 0 4)
theorem put_v (a0 a1 a2 : Int) (l : List S29) (h0 : 0 ≤ a0 ∧ a0 ≤ 65535) (h1 : 0 ≤ a1 ∧ a1 ≤ 65535) (h2 : 0 ≤ a2 ∧ a2 ≤ 4294967295) (hin : ∀ c ∈ l, In c) {k : Nat} (hk : 160 ≤ k) :
    chunk_Put.f k a0 a1 a2 l = some (putV a0 a1 a2 l) ∧ trunklineref12_Put.f k a0 a1 a2 l = some (putV a0 a1 a2 l) := by
  unfold chunk_Put.f trunklineref12_Put.f putV
  by_cases e0 : l.length = 0
  · rw [if_pos e0]
    exact ⟨by rw [if_pos (by omega)], by rw [if_pos (by omega)]⟩
  rw [if_neg e0]
  by_cases e1 : 32 < l.length
  · rw [if_pos e1]
    exact ⟨by rw [if_neg (by omega), if_pos (by omega)], by rw [if_neg (by omega), if_pos (by omega)]⟩
  rw [if_neg e1]
  have n0 := nb2 h0.1 h0.2
  have n1 := nb2 h1.1 h1.2
  have n2 := nb4 h2.1 h2.2
  have n3 := nb4 (v := 0) (by decide) (by decide)
  obtain ⟨m, rfl⟩ : ∃ m, k = m + l.length + 121 := ⟨k - l.length - 121, by omega⟩
  have h := put_l0 l (by omega) hin l.length 0 m (nb a0 2 ++ nb a1 2 ++ nb a2 4 ++ nb 0 4) (by omega) (by simp only [List.length_append]; omega) (by simp only [List.length_append]; omega) (by simp only [List.length_append]; omega) (bys_app (bys_app (bys_app (nb_bys _ _) (nb_bys _ _)) (nb_bys _ _)) (nb_bys _ _))
  rw [List.drop_zero] at h
  refine ⟨?_, ?_⟩
  · rw [if_neg (by omega), if_neg (by omega), w64 (x := a0) (by omega) (by omega), w64 (x := a1) (by omega) (by omega), w64 (x := a2) (by omega) (by omega)]
    rw [lay_2 (m + l.length + 121) [] 2 a0 a1 (by omega) (by decide) (by decide) h0.1 (by omega) h1.1 (by omega) (by simp), Option.bind_some, lay_2 (m + l.length + 121) _ 4 a2 0 (by omega) (by decide) (by decide) h2.1 (by omega) (by decide) (by decide) (by simp only [List.length_append, List.length_nil]; omega), Option.bind_some]
    exact h.1
  · rw [if_neg (by omega), if_neg (by omega), mod32 (x := a0) h0.1 (by omega), mod32 (x := a1) h1.1 (by omega)]
    rw [rlay_1 (m + l.length + 121) [] 2 a0 (by omega) (by decide) (by decide) h0.1 (by omega) (by simp), Option.bind_some, rlay_1 (m + l.length + 121) _ 2 a1 (by omega) (by decide) (by decide) h1.1 (by omega) (by simp only [List.length_append, List.length_nil]; omega), Option.bind_some, rlay_1 (m + l.length + 121) _ 4 a2 (by omega) (by decide) (by decide) h2.1 (by omega) (by simp only [List.length_append, List.length_nil]; omega), Option.bind_some, rlay_1 (m + l.length + 121) _ 4 0 (by omega) (by decide) (by decide) (by decide) (by decide) (by simp only [List.length_append, List.length_nil]; omega), Option.bind_some]
    exact h.2
theorem ChunkPuts : trunklinelaw12_ChunkPuts.Pure := by
  intro a0 a1 a2 l w0 w1 w2 hl hl2 hok
  have h := put_v a0 a1 a2 l (wf_u16 w0) (wf_u16 w1) (wf_u32 w2) (fun c hc => in_of_ok (hok c hc)) (k := 160) (by omega)
  refine ⟨160, ?_⟩
  unfold trunklinelaw12_ChunkPuts.f
  rw [h.1, Option.bind_some, h.2, Option.bind_some, live_f (k := 160) (by omega), Option.bind_some, if_pos rfl, if_pos rfl]
  exact congrArg some (beq_self_eq_true _)
end Go.Proofs.Ytaahkggbjpdofaa.Pure
