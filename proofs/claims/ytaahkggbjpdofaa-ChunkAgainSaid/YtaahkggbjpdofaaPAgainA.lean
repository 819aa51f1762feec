/- What Take's readers tell may be put: no field that the kind has not, no limit passed, and no more bytes than were read; in plain Lean. -/
import Derived.Test.YtaahkggbjpdofaaPChunkVp
namespace Go.Proofs.Ytaahkggbjpdofaa.Pure
open Go.RowKit Go.Proofs.Ytaahkggbjpdofaa.M Go.Proofs.YtaahkggbjpdofaaW.PrintWords Go.Proofs.YtaahkggbjpdofaaW.PrintLast Go.Proofs.YtaahkggbjpdofaaW.PrintMore
set_option linter.unusedVariables false
set_option linter.unusedSimpArgs false
theorem parV_cons_le (p : S48) (h : ParOk p) (qs : List S48) (n : Nat) (hq : ∀ q ∈ qs, ParOk q) (h1 : 4 + p.f1.length ≤ n) (h2 : (parV [] qs).length ≤ n - (4 + p.f1.length + 3) / 4 * 4) : (parV [] (p :: qs)).length ≤ n := by
  have hl := parX_len h
  cases qs with
  | nil => rw [parV_one]; omega
  | cons q qs =>
    have hg := parV_ge (q :: qs) hq
    simp only [List.length_cons] at hg
    rw [parV_two, List.length_append]
    unfold pad4
    rw [List.length_append, List.length_replicate]
    omega
theorem pars_fwd : ∀ (f : Nat) (l : List Int) (out ps : List S48), parsV f l out = .ok ps → Bys l → l.length ≤ 1480 → out.length ≤ 16 →
    ∃ qs, ps = out ++ qs ∧ out.length + qs.length ≤ 16 ∧ (∀ p ∈ qs, ParOk p ∧ Bys p.f1 ∧ p.f1.length ≤ 1480) ∧ (parV [] qs).length ≤ l.length
  | 0, l, out, ps, h, hb, hl, ho => by
    rw [parsV] at h
    injection h with h
    exact ⟨[], by rw [List.append_nil, h], by simpa using ho, by simp, by simp [parV]⟩
  | f + 1, l, out, ps, h, hb, hl, ho => by
    rw [parsV] at h
    by_cases e0 : l.length = 0
    · rw [if_pos e0] at h
      injection h with h
      exact ⟨[], by rw [List.append_nil, h], by simpa using ho, by simp, by simp [parV]⟩
    rw [if_neg e0] at h
    by_cases e1 : l.length < 4
    · rw [if_pos e1] at h; cases h
    rw [if_neg e1] at h
    by_cases e2 : numN (l.drop 2) 2 < 4 ∨ (l.length : Int) < numN (l.drop 2) 2
    · rw [if_pos e2] at h; cases h
    rw [if_neg e2] at h
    by_cases e3 : 16 ≤ out.length
    · rw [if_pos e3] at h; cases h
    rw [if_neg e3] at h
    have hk := num2_range (l := l) hb
    obtain ⟨n, hn⟩ : ∃ n : Nat, n = (numN (l.drop 2) 2).toNat := ⟨_, rfl⟩
    have hn1 : 4 ≤ n ∧ n ≤ l.length := by rw [not_or] at e2; omega
    rw [← hn] at h
    have hv : ((l.drop 4).take (n - 4)).length = n - 4 := by rw [List.length_take, List.length_drop]; omega
    obtain ⟨qs, h1, h2, h3, h4⟩ := pars_fwd f _ _ _ h (fun x hx => hb x (List.mem_of_mem_drop hx)) (by rw [List.length_drop]; omega) (by simp only [List.length_append, List.length_cons, List.length_nil]; omega)
    have hp : ParOk ⟨numN l 2, (l.drop 4).take (n - 4)⟩ := ⟨⟨hk.1, by show numN l 2 ≤ 65535; omega⟩, by show ((l.drop 4).take (n - 4)).length ≤ _; omega⟩
    refine ⟨⟨numN l 2, (l.drop 4).take (n - 4)⟩ :: qs, by rw [h1, List.append_assoc]; rfl, ?_, ?_, ?_⟩
    · simp only [List.length_append, List.length_cons, List.length_nil] at h2 ⊢; omega
    · intro p hm
      rcases List.mem_cons.1 hm with rfl | hm
      · exact ⟨hp, fun x hx => hb x (List.mem_of_mem_drop (List.mem_of_mem_take hx)), by show ((l.drop 4).take (n - 4)).length ≤ _; omega⟩
      · exact h3 p hm
    · rw [List.length_drop] at h4
      refine parV_cons_le _ hp qs l.length (fun q hq => (h3 q hq).1) ?_ ?_
      · show 4 + ((l.drop 4).take (n - 4)).length ≤ _; omega
      · show _ ≤ l.length - (4 + ((l.drop 4).take (n - 4)).length + 3) / 4 * 4
        rw [hv, show 4 + (n - 4) = n by omega]; exact h4
theorem ck_zero (t a1 a2 a3 a4 a5 a6 a7 a8 a9 : Int) (l10 : List S101) (l11 : List Int) (l12 : List S48) (l13 : List Int) (h1 : ¬ oddB t a1 a2 a3 a4 a5 a6 a7 a8 a9 l10 l11 l12 l13) (h2 : ¬ (t = 0 ∧ l13.length = 0)) (h3 : l12.length ≤ 16) (h4 : l10.length ≤ 16) (h5 : l11.length ≤ 16) (h6 : l13.length ≤ 1480) (h7 : ∀ p ∈ l12, p.f1.length ≤ 1480)
    (h8 : (valV t a1 a2 a3 a4 a5 a6 a7 a8 a9 l10 l11 l12 l13).length ≤ 1464) : ckV t a1 a2 a3 a4 a5 a6 a7 a8 a9 l10 l11 l12 l13 = 0 := by
  unfold ckV
  rw [if_neg h1, if_neg h2, if_neg (by omega), if_neg (by omega), if_neg (by omega), if_neg (by omega), if_neg ?_, if_neg (by omega)]
  intro ha
  obtain ⟨p, hp, hq⟩ := List.any_eq_true.1 ha
  have := h7 p hp
  simp at hq
  omega
theorem blocks_fwd : ∀ (k : Nat) (l : List Int), Bys l → (blocksV k l).length = k ∧ ∀ p ∈ blocksV k l, (0 ≤ p.f0 ∧ p.f0 ≤ 65535) ∧ (0 ≤ p.f1 ∧ p.f1 ≤ 65535)
  | 0, l, hb => ⟨rfl, fun p hp => by cases hp⟩
  | k + 1, l, hb => by
    obtain ⟨h1, h2⟩ := blocks_fwd k (l.drop 4) (fun x hx => hb x (List.mem_of_mem_drop hx))
    have n0 := num2_range (l := l) hb
    have n1 := num2_range (l := l.drop 2) (fun x hx => hb x (List.mem_of_mem_drop hx))
    rw [blocksV]
    refine ⟨by rw [List.length_cons, h1], fun p hp => ?_⟩
    rcases List.mem_cons.1 hp with rfl | hp
    · exact ⟨⟨n0.1, by show numN l 2 ≤ _; omega⟩, ⟨n1.1, by show numN (l.drop 2) 2 ≤ _; omega⟩⟩
    · exact h2 p hp
theorem dups_fwd : ∀ (k : Nat) (l : List Int), Bys l → (dupsV k l).length = k ∧ ∀ p ∈ dupsV k l, 0 ≤ p ∧ p ≤ 4294967295
  | 0, l, hb => ⟨rfl, fun p hp => by cases hp⟩
  | k + 1, l, hb => by
    obtain ⟨h1, h2⟩ := dups_fwd k (l.drop 4) (fun x hx => hb x (List.mem_of_mem_drop hx))
    have n0 := numN_range (l := l) hb 4 (by decide)
    rw [dupsV]
    refine ⟨by rw [List.length_cons, h1], fun p hp => ?_⟩
    rcases List.mem_cons.1 hp with rfl | hp
    · omega
    · exact h2 p hp
theorem n4r {l : List Int} (hb : Bys l) : 0 ≤ numN l 4 ∧ numN l 4 ≤ 4294967295 := by have := numN_range (l := l) hb 4 (by decide); omega
theorem n2r {l : List Int} (hb : Bys l) : 0 ≤ numN l 2 ∧ numN l 2 ≤ 65535 := by have := num2_range (l := l) hb; omega
theorem bdrop {l : List Int} (hb : Bys l) (n : Nat) : Bys (l.drop n) := fun x hx => hb x (List.mem_of_mem_drop hx)
/-- A chunk that a kind's reader tells may be put, in no more bytes. -/
theorem one_fwd (t fl : Int) (l : List Int) (c : S29) (h : oneV t fl l = .ok c) (ht : 0 ≤ t ∧ t ≤ 255) (hfl : 0 ≤ fl ∧ fl ≤ 255) (hb : Bys l) (hl : l.length ≤ 1464) :
    In c ∧ ckC c = 0 ∧ (valV c.f0 c.f1 c.f2 c.f3 c.f4 c.f5 c.f6 c.f7 c.f8 c.f9 c.f10 c.f11 c.f12 c.f13).length ≤ l.length := by
  have z4 : (0 : Int) ≤ 0 ∧ (0 : Int) ≤ 4294967295 := by decide
  have z2 : (0 : Int) ≤ 0 ∧ (0 : Int) ≤ 65535 := by decide
  unfold oneV at h
  rcases ofT_is t ht with ⟨hT, rfl⟩ | ⟨hT, hk⟩ | ⟨hT, rfl⟩ | ⟨hT, hk⟩ | ⟨hT, rfl⟩ | ⟨hT, hk⟩ | ⟨hT, hk⟩
  · rw [if_pos hT] at h
    unfold dataV at h
    by_cases e : l.length < 13
    · rw [if_pos e] at h; cases h
    rw [if_neg e] at h
    injection h with h
    subst h
    have i2 := n4r hb
    have i3 := n2r (bdrop hb 4)
    have i4 := n2r (bdrop (bdrop hb 4) 2)
    have i5 := n4r (bdrop (bdrop (bdrop hb 4) 2) 2)
    have hv : (valV 0 fl (numN l 4) (numN (l.drop 4) 2) (numN ((l.drop 4).drop 2) 2) (numN (((l.drop 4).drop 2).drop 2) 4) 0 0 0 0 [] [] [] ((((l.drop 4).drop 2).drop 2).drop 4)).length = l.length := by
      unfold valV
      rw [if_pos hT]
      simp only [List.length_append]
      rw [nb4 i2.1 i2.2, nb2 i3.1 i3.2, nb2 i4.1 i4.2, nb4 i5.1 i5.2]
      simp only [List.length_drop]
      omega
    refine ⟨⟨⟨ht, hfl, i2, i3, i4, i5, z4, z4, z2, z2, by simp, by simp, by simp⟩, by simp, bdrop (bdrop (bdrop (bdrop hb 4) 2) 2) 4⟩, ?_, by rw [hv]; exact Nat.le_refl _⟩
    show ckV 0 fl (numN l 4) (numN (l.drop 4) 2) (numN ((l.drop 4).drop 2) 2) (numN (((l.drop 4).drop 2).drop 2) 4) 0 0 0 0 [] [] [] ((((l.drop 4).drop 2).drop 2).drop 4) = 0
    refine ck_zero _ _ _ _ _ _ _ _ _ _ _ _ _ _ (by unfold oddB; simp) ?_ (by simp) (by simp) (by simp) (by simp only [List.length_drop]; omega) (by simp) (by rw [hv]; exact hl)
    simp only [List.length_drop]
    omega
  · rw [hT, if_neg (by decide), if_pos rfl] at h
    unfold firstR at h
    by_cases e : l.length < 16
    · rw [if_pos e] at h; cases h
    rw [if_neg e] at h
    obtain ⟨q, hq⟩ : ∃ q, q = ((((l.drop 4).drop 4).drop 2).drop 2).drop 4 := ⟨_, rfl⟩
    rw [← hq] at h
    have hql : q.length = l.length - 16 := by rw [hq]; simp only [List.length_drop]; omega
    cases hp : parsV (q.length + 1) q [] with
    | error e => rw [hp] at h; cases h
    | ok ps =>
      rw [hp] at h
      simp only [Except.ok.injEq] at h
      subst h
      have hbq : Bys q := by rw [hq]; exact bdrop (bdrop (bdrop (bdrop (bdrop hb 4) 4) 2) 2) 4
      obtain ⟨qs, h1, h2, h3, h4⟩ := pars_fwd _ _ _ _ hp hbq (by omega) (by simp)
      rw [List.nil_append] at h1
      subst h1
      have i6 := n4r hb
      have i7 := n4r (bdrop hb 4)
      have i8 := n2r (bdrop (bdrop hb 4) 4)
      have i9 := n2r (bdrop (bdrop (bdrop hb 4) 4) 2)
      have i2 := n4r (bdrop (bdrop (bdrop (bdrop hb 4) 4) 2) 2)
      have hv : (valV t fl (numN ((((l.drop 4).drop 4).drop 2).drop 2) 4) 0 0 0 (numN l 4) (numN (l.drop 4) 4) (numN ((l.drop 4).drop 4) 2) (numN (((l.drop 4).drop 4).drop 2) 2) [] [] ps []).length ≤ l.length := by
        unfold valV
        rw [hT, if_neg (by decide), if_pos rfl, first_eq _ _ _ _ _ _ (firstV_len i2 i6 i7 i8 i9)]
        simp only [List.length_append]
        rw [nb4 i6.1 i6.2, nb4 i7.1 i7.2, nb2 i8.1 i8.2, nb2 i9.1 i9.2, nb4 i2.1 i2.2]
        omega
      refine ⟨⟨⟨ht, hfl, i2, z2, z2, z4, i6, i7, i8, i9, by simp, by simp, fun p hp => (h3 p hp).1.k⟩, fun p hp => (h3 p hp).2.1, by intro x hx; cases hx⟩, ?_, hv⟩
      show ckV t fl (numN ((((l.drop 4).drop 4).drop 2).drop 2) 4) 0 0 0 (numN l 4) (numN (l.drop 4) 4) (numN ((l.drop 4).drop 4) 2) (numN (((l.drop 4).drop 4).drop 2) 2) [] [] ps [] = 0
      refine ck_zero _ _ _ _ _ _ _ _ _ _ _ _ _ _ ?_ (by omega) (by simpa using h2) (by simp) (by simp) (by simp) (fun p hp => (h3 p hp).2.2) (by omega)
      unfold oddB
      rcases hk with rfl | rfl <;> simp
  · rw [hT, if_neg (by decide), if_neg (by decide), if_pos rfl] at h
    unfold sackR at h
    by_cases e : l.length < 12
    · rw [if_pos e] at h; cases h
    rw [if_neg e] at h
    split at h
    · cases h
    rename_i e1
    split at h
    · cases h
    rename_i e2
    injection h with h
    subst h
    have i2 := n4r hb
    have i7 := n4r (bdrop hb 4)
    have i8 := n2r (bdrop (bdrop hb 4) 4)
    have i9 := n2r (bdrop (bdrop (bdrop hb 4) 4) 2)
    have b1 := blocks_fwd (numN ((l.drop 4).drop 4) 2).toNat ((((l.drop 4).drop 4).drop 2).drop 2) (bdrop (bdrop (bdrop (bdrop hb 4) 4) 2) 2)
    have b2 := dups_fwd (numN (((l.drop 4).drop 4).drop 2) 2).toNat (((((l.drop 4).drop 4).drop 2).drop 2).drop (4 * (numN ((l.drop 4).drop 4) 2).toNat)) (bdrop (bdrop (bdrop (bdrop (bdrop hb 4) 4) 2) 2) _)
    obtain ⟨B, hB⟩ : ∃ B, B = blocksV (numN ((l.drop 4).drop 4) 2).toNat ((((l.drop 4).drop 4).drop 2).drop 2) := ⟨_, rfl⟩
    obtain ⟨D, hD⟩ : ∃ D, D = dupsV (numN (((l.drop 4).drop 4).drop 2) 2).toNat (((((l.drop 4).drop 4).drop 2).drop 2).drop (4 * (numN ((l.drop 4).drop 4) 2).toNat)) := ⟨_, rfl⟩
    rw [← hB] at b1 ⊢
    rw [← hD] at b2 ⊢
    have e3 : 4 * numN ((l.drop 4).drop 4) 2 + 4 * numN (((l.drop 4).drop 4).drop 2) 2 = ((((((l.drop 4).drop 4).drop 2).drop 2).length : Nat) : Int) := by omega
    simp only [List.length_drop] at e3
    have n10 : (0 : Int) ≤ (B.length : Int) ∧ (B.length : Int) ≤ 65535 := by omega
    have n11 : (0 : Int) ≤ (D.length : Int) ∧ (D.length : Int) ≤ 65535 := by omega
    have hv : (valV 3 fl (numN l 4) 0 0 0 0 (numN (l.drop 4) 4) 0 0 B D [] []).length ≤ l.length := by
      unfold valV
      rw [hT, if_neg (by decide), if_neg (by decide), if_pos rfl, sack_eq]
      simp only [List.length_append]
      rw [nb4 i2.1 i2.2, nb4 i7.1 i7.2, nb2 n10.1 n10.2, nb2 n11.1 n11.2, blk_nil _ b1.2, dup_nil _ b2.2]
      omega
    rw [not_or] at e2
    refine ⟨⟨⟨ht, hfl, i2, z2, z2, z4, z4, i7, z2, z2, b1.2, b2.2, by simp⟩, by simp, by intro x hx; cases hx⟩, ?_, hv⟩
    show ckV 3 fl (numN l 4) 0 0 0 0 (numN (l.drop 4) 4) 0 0 B D [] [] = 0
    exact ck_zero _ _ _ _ _ _ _ _ _ _ _ _ _ _ (by unfold oddB; simp) (by decide) (by simp) (by show B.length ≤ 16; omega) (by show D.length ≤ 16; omega) (by simp) (by simp) (by omega)
  · rw [hT, if_neg (by decide), if_neg (by decide), if_neg (by decide), if_pos rfl] at h
    unfold pmV at h
    cases hp : parsV (l.length + 1) l [] with
    | error e => rw [hp] at h; cases h
    | ok ps =>
      rw [hp] at h
      simp only [Except.ok.injEq] at h
      subst h
      obtain ⟨qs, h1, h2, h3, h4⟩ := pars_fwd _ _ _ _ hp hb (by omega) (by simp)
      rw [List.nil_append] at h1
      subst h1
      have hv : (valV t fl 0 0 0 0 0 0 0 0 [] [] ps []).length ≤ l.length := by
        unfold valV
        rw [hT, if_neg (by decide), if_neg (by decide), if_neg (by decide), if_pos rfl]
        exact h4
      refine ⟨⟨⟨ht, hfl, z4, z2, z2, z4, z4, z4, z2, z2, by simp, by simp, fun p hp => (h3 p hp).1.k⟩, fun p hp => (h3 p hp).2.1, by intro x hx; cases hx⟩, ?_, hv⟩
      show ckV t fl 0 0 0 0 0 0 0 0 [] [] ps [] = 0
      refine ck_zero _ _ _ _ _ _ _ _ _ _ _ _ _ _ ?_ (by omega) (by simpa using h2) (by simp) (by simp) (by simp) (fun p hp => (h3 p hp).2.2) (by omega)
      unfold oddB
      rcases hk with rfl | rfl | rfl | rfl <;> simp
  · rw [hT, if_neg (by decide), if_neg (by decide), if_neg (by decide), if_neg (by decide), if_pos rfl] at h
    unfold numberV at h
    by_cases e : l.length = 4
    · rw [if_pos e] at h
      injection h with h
      subst h
      have i2 := n4r hb
      have hv : (valV 7 fl (numN l 4) 0 0 0 0 0 0 0 [] [] [] []).length = 4 := by
        unfold valV
        rw [hT, if_neg (by decide), if_neg (by decide), if_neg (by decide), if_neg (by decide), if_pos rfl]
        exact nb4 i2.1 i2.2
      refine ⟨⟨⟨ht, hfl, i2, z2, z2, z4, z4, z4, z2, z2, by simp, by simp, by simp⟩, by simp, by intro x hx; cases hx⟩, ?_, by rw [hv]; omega⟩
      show ckV 7 fl (numN l 4) 0 0 0 0 0 0 0 [] [] [] [] = 0
      exact ck_zero _ _ _ _ _ _ _ _ _ _ _ _ _ _ (by unfold oddB; simp) (by decide) (by simp) (by simp) (by simp) (by simp) (by simp) (by rw [hv]; decide)
    · rw [if_neg e] at h; cases h
  · rw [hT, if_neg (by decide), if_neg (by decide), if_neg (by decide), if_neg (by decide), if_neg (by decide), if_pos rfl] at h
    unfold bareV at h
    by_cases e : l.length = 0
    · rw [if_pos e] at h
      injection h with h
      subst h
      have hv : (valV t fl 0 0 0 0 0 0 0 0 [] [] [] []).length = 0 := by
        unfold valV
        rw [hT, if_neg (by decide), if_neg (by decide), if_neg (by decide), if_neg (by decide), if_neg (by decide), if_pos rfl]
        rfl
      refine ⟨⟨⟨ht, hfl, z4, z2, z2, z4, z4, z4, z2, z2, by simp, by simp, by simp⟩, by simp, by intro x hx; cases hx⟩, ?_, by rw [hv]; omega⟩
      show ckV t fl 0 0 0 0 0 0 0 0 [] [] [] [] = 0
      refine ck_zero _ _ _ _ _ _ _ _ _ _ _ _ _ _ ?_ (by omega) (by simp) (by simp) (by simp) (by simp) (by simp) (by rw [hv]; decide)
      unfold oddB
      rcases hk with rfl | rfl | rfl <;> simp
    · rw [if_neg e] at h; cases h
  · rw [hT, if_neg (by decide), if_neg (by decide), if_neg (by decide), if_neg (by decide), if_neg (by decide), if_neg (by decide)] at h
    unfold rawV at h
    injection h with h
    subst h
    have hv : (valV t fl 0 0 0 0 0 0 0 0 [] [] [] l).length = l.length := by
      unfold valV
      rw [hT, if_neg (by decide), if_neg (by decide), if_neg (by decide), if_neg (by decide), if_neg (by decide), if_neg (by decide)]
    refine ⟨⟨⟨ht, hfl, z4, z2, z2, z4, z4, z4, z2, z2, by simp, by simp, by simp⟩, by simp, hb⟩, ?_, by rw [hv]; exact Nat.le_refl _⟩
    show ckV t fl 0 0 0 0 0 0 0 0 [] [] [] l = 0
    refine ck_zero _ _ _ _ _ _ _ _ _ _ _ _ _ _ ?_ (by omega) (by simp) (by simp) (by simp) (by show l.length ≤ _; omega) (by simp) (by rw [hv]; omega)
    unfold oddB
    simp
    omega
theorem chunks_fwd : ∀ (f : Nat) (l : List Int) (out cs : List S29), chunksV f l out = .ok cs → Bys l → l.length ≤ 1468 → out.length ≤ 32 →
    ∃ ds, cs = out ++ ds ∧ out.length + ds.length ≤ 32 ∧ (∀ c ∈ ds, In c ∧ ckC c = 0) ∧ (flatV ds).length ≤ l.length ∧ (0 < f → 0 < l.length → 1 ≤ ds.length)
  | 0, l, out, cs, h, hb, hl, ho => by
    rw [chunksV] at h
    injection h with h
    exact ⟨[], by rw [List.append_nil, h], by simpa using ho, by simp, by simp [flatV], fun hf => absurd hf (by omega)⟩
  | f + 1, l, out, cs, h, hb, hl, ho => by
    rw [chunksV] at h
    by_cases e0 : l.length = 0
    · rw [if_pos e0] at h
      injection h with h
      exact ⟨[], by rw [List.append_nil, h], by simpa using ho, by simp, by simp [flatV], fun _ hp => absurd hp (by omega)⟩
    rw [if_neg e0] at h
    by_cases e1 : l.length < 4
    · rw [if_pos e1] at h; cases h
    rw [if_neg e1] at h
    by_cases e2 : numN (l.drop 2) 2 < 4
    · rw [if_pos e2] at h; cases h
    rw [if_neg e2] at h
    obtain ⟨n, hn⟩ : ∃ n : Nat, n = (numN (l.drop 2) 2).toNat := ⟨_, rfl⟩
    rw [← hn] at h
    have hn4 : 4 ≤ n := by omega
    by_cases e3 : l.length < (n + 3) / 4 * 4
    · rw [if_pos e3] at h; cases h
    rw [if_neg e3] at h
    by_cases e4 : 32 ≤ out.length
    · rw [if_pos e4] at h; cases h
    rw [if_neg e4] at h
    have hv : ((l.drop 4).take (n - 4)).length = n - 4 := by rw [List.length_take, List.length_drop]; omega
    have h01 : (0 ≤ rd l 0 ∧ rd l 0 ≤ 255) ∧ (0 ≤ rd l 1 ∧ rd l 1 ≤ 255) := by
      match l, e1 with
      | x :: y :: r, _ => exact ⟨hb x (by simp), hb y (by simp)⟩
      | [_], e1 => exact absurd e1 (by simp)
      | [], e1 => exact absurd e1 (by simp)
    cases ho1 : oneV (rd l 0) (rd l 1) ((l.drop 4).take (n - 4)) with
    | error e => rw [ho1] at h; cases h
    | ok c =>
      rw [ho1] at h
      have hc := one_fwd _ _ _ _ ho1 h01.1 h01.2 (fun x hx => hb x (List.mem_of_mem_drop (List.mem_of_mem_take hx))) (by omega)
      rw [hv] at hc
      have h' : chunksV f (l.drop ((n + 3) / 4 * 4)) (out ++ [c]) = .ok cs := h
      obtain ⟨ds, h1, h2, h3, h4, h5⟩ := chunks_fwd f _ _ _ h' (bdrop hb _) (by rw [List.length_drop]; omega) (by simp only [List.length_append, List.length_cons, List.length_nil]; omega)
      have hbl := byV_len _ _ _ _ _ _ _ _ _ _ _ _ _ _ (fit_of_ok _ _ _ _ _ _ _ _ _ _ _ _ _ _ hc.1.wf hc.2.1)
      refine ⟨c :: ds, by rw [h1, List.append_assoc]; rfl, ?_, ?_, ?_, fun _ _ => by simp⟩
      · simp only [List.length_append, List.length_cons, List.length_nil] at h2 ⊢; omega
      · intro x hx
        rcases List.mem_cons.1 hx with rfl | hx
        · exact ⟨hc.1, hc.2.1⟩
        · exact h3 x hx
      · rw [List.length_drop] at h4
        rw [flatV, List.length_append]
        have hby : (byC c).length ≤ (n + 3) / 4 * 4 := by
          show (byV _ _ _ _ _ _ _ _ _ _ _ _ _ _).length ≤ _
          rw [hbl]
          have := hc.2.2
          omega
        omega
theorem pars_err : ∀ (f : Nat) (l : List Int) (out : List S48) (e : Int), parsV f l out = .error e → e ≠ 0
  | 0, l, out, e, h => by rw [parsV] at h; cases h
  | f + 1, l, out, e, h => by
    rw [parsV] at h
    split at h
    · cases h
    split at h
    · injection h with h; omega
    split at h
    · injection h with h; omega
    split at h
    · injection h with h; omega
    exact pars_err f _ _ e h
theorem one_err (t fl : Int) (l : List Int) (e : Int) (h : oneV t fl l = .error e) : e ≠ 0 := by
  unfold oneV at h
  split at h
  · unfold dataV at h
    split at h
    · injection h with h; omega
    · cases h
  split at h
  · unfold firstR at h
    split at h
    · injection h with h; omega
    split at h
    · cases h
    · rename_i e' hp
      injection h with h
      subst h
      exact pars_err _ _ _ _ hp
  split at h
  · unfold sackR at h
    split at h
    · injection h with h; omega
    split at h
    · injection h with h; omega
    split at h
    · injection h with h; omega
    · cases h
  split at h
  · unfold pmV at h
    split at h
    · cases h
    · rename_i e' hp
      injection h with h
      subst h
      exact pars_err _ _ _ _ hp
  split at h
  · unfold numberV at h
    split at h
    · cases h
    · injection h with h; omega
  split at h
  · unfold bareV at h
    split at h
    · cases h
    · injection h with h; omega
  · unfold rawV at h
    cases h
theorem chunks_err : ∀ (f : Nat) (l : List Int) (out : List S29) (e : Int), chunksV f l out = .error e → e ≠ 0
  | 0, l, out, e, h => by rw [chunksV] at h; cases h
  | f + 1, l, out, e, h => by
    rw [chunksV] at h
    split at h
    · cases h
    split at h
    · injection h with h; omega
    split at h
    · injection h with h; omega
    split at h
    · injection h with h; omega
    split at h
    · injection h with h; omega
    cases ho : oneV (rd l 0) (rd l 1) ((l.drop 4).take ((numN (l.drop 2) 2).toNat - 4)) with
    | error e' =>
      rw [ho] at h
      have h' : (Except.error e' : Except Int (List S29)) = .error e := h
      injection h' with h'
      subst h'
      exact one_err _ _ _ _ ho
    | ok c => rw [ho] at h; exact chunks_err f _ _ e h
end Go.Proofs.Ytaahkggbjpdofaa.Pure
