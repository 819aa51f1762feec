/- ether.Take: its function, and its contract in the printed form. -/
import Derived.Test.YtnfbbnmdlcmifaaHTakeArp
import Derived.Test.YtnfbbnmdlcmifaaHClone
import Derived.Test.YtnfbbnmdlcmifaaWClo
import Derived.Outline
namespace Go.Proofs.Ytnfbbnmdlcmifaa.M
open Go.RowKit Go.Proofs.YtnfbbnmdlcmifaaW.PrintWords Go.Proofs.YtnfbbnmdlcmifaaW.PrintLast Go.Proofs.YtnfbbnmdlcmifaaW.PrintMore
set_option linter.unusedVariables false
set_option linter.unusedSimpArgs false

def ether_Take.f (k : Nat) (l0 : List Int) : Option (Int × Int × Int × List Int × Int) :=
  if (l0.length : Int) < 14 then some (0, 0, 0, ([] : List Int), 3) else if (l0.length : Int) > 1514 then some (0, 0, 0, ([] : List Int), 6) else
  (octet_Num.f k l0 0 6).bind fun t1 => (octet_Num.f k l0 6 6).bind fun t2 => (octet_Num.f k l0 12 2).bind fun t3 =>
    if IntKind.u16.wrap t3.1 < 1536 then some (0, 0, 0, ([] : List Int), 4) else some (t1.1, t2.1, IntKind.u16.wrap t3.1, l0.drop 14, 0)
theorem ether_Take.mono : ∀ a0 k, LeO (ether_Take.f k a0) (ether_Take.f (k + 1) a0) := by
  intro a0 k
  unfold ether_Take.f
  refine LeO.ite (LeO.refl _) ?_
  refine LeO.ite (LeO.refl _) ?_
  refine LeO.bind (octet_Num.mono _ _ _ _) (fun t1 => ?_)
  refine LeO.bind (octet_Num.mono _ _ _ _) (fun t2 => ?_)
  refine LeO.bind (octet_Num.mono _ _ _ _) (fun t3 => ?_)
  exact LeO.refl _

set_option maxHeartbeats 8000000 in
set_option maxRecDepth 100000 in
theorem ether_Take.calls (k : Nat) (A0 : Option Addr) (c0 : Nat) (l0 : List Int) (r1 : Int) (r2 : Int) (r3 : Int) (r4 : List Int) (r5 : Int) (w : World) (hr0 : Kd.C (Kd.int .u8) w A0 l0.length l0) (hc0 : l0.length ≤ c0) (h : ether_Take.f k l0 = some (r1, r2, r3, r4, r5)) :
    Calls Try.prog 18 #[.slice A0 l0.length c0] w fun e w' => ∃ v3_ : Value, e = .returned (.tuple #[.agg #[.int .u64 r1, .int .u64 r2, .int .u16 r3, v3_], .int .i64 r5]) ∧ Kd.R (Kd.int .u8) 5 w' w.heap.size (fun _ => True) v3_ r4 ∧ Below w.heap.size w w' := by
  have hu26 := Try.underlying26
  have HR := Aside0.mk hr0
  have HC0 := Aside0.mk hc0
  clear hr0 hc0
  unfold ether_Take.f at h
  by_cases c1 : (l0.length : Int) < 14
  · rw [if_pos c1] at h
    have c1b0 : decide ((l0.length : Int) < 14) = true := decide_eq_true c1
    have c1b1 : decide (l0.length < 14) = true := decide_eq_true (by omega)
    clear c1
    simp only [Option.some.injEq, Prod.mk.injEq] at h
    obtain ⟨rfl, rfl, rfl, rfl, rfl⟩ := h
    go_enter Try.func18, Try.ntmps18
    go_wp2_with (first | ((with_reducible refine gate_dst (N := 2) rfl ?_); refine box_event ?hg (N := 2) ?hd (cs := #[.int .u64 0, .int .u64 0, .int .u16 0, .slice none 0 0]) (t := 26) ?hr ?_; (case hd => rfl); (case hg => rfl); (case hr => first | (go_simp; done) | (go_simp; rfl)); intro gb hg w1 hbox hb; have BK := Aside0.mk hbox; have HB := Aside0.mk hb; have HGB := Aside0.mk (show w.heap.size ≤ gb by rw [hg]; exact Nat.le_refl _); clear hbox hb hg; have hcza_0 : w1.cell? ⟨gb, 0, none⟩ = some (.int .u64 0) := (blk_cell BK.out 0).trans rfl; have hcza_1 : w1.cell? ⟨gb, 1, none⟩ = some (.int .u64 0) := (blk_cell BK.out 1).trans rfl; have hcza_2 : w1.cell? ⟨gb, 2, none⟩ = some (.int .u16 0) := (blk_cell BK.out 2).trans rfl; have hcza_3 : w1.cell? ⟨gb, 3, none⟩ = some (.slice none 0 0) := (blk_cell BK.out 3).trans rfl; have hfza_0 := blk_frozen BK.out 0; have hfza_1 := blk_frozen BK.out 1; have hfza_2 := blk_frozen BK.out 2; have hfza_3 := blk_frozen BK.out 3))
    refine bodyPost_ret (results_ct rfl _ _ gb 26 #[.int .u64 0, .int .u64 0, .int .u16 0, .slice none 0 0] (0, 0) _ rfl (by refine blk_put (cs := #[.int .u64 0, .int .u64 0, .int .u16 0, .slice none 0 0]) ?_ 3 _ rfl; refine blk_put (cs := #[.int .u64 0, .int .u64 0, .int .u16 0, .slice none 0 0]) ?_ 2 _ rfl; refine blk_put (cs := #[.int .u64 0, .int .u64 0, .int .u16 0, .slice none 0 0]) ?_ 1 _ rfl; refine blk_put (cs := #[.int .u64 0, .int .u64 0, .int .u16 0, .slice none 0 0]) ?_ 0 _ rfl; exact BK.out) Try.underlying26 rfl (by kernel_rfl)) rfl ?_
    exact ⟨_, rfl, Kd.R_nil _ _ _ _ _, by refine below_set (g := gb) ?_ HGB.out; refine below_set (g := gb) ?_ HGB.out; refine below_set (g := gb) ?_ HGB.out; refine below_set (g := gb) ?_ HGB.out; exact HB.out⟩
  · rw [if_neg c1] at h
    have c1b0 : decide ((l0.length : Int) < 14) = false := decide_eq_false c1
    have c1b1 : decide (l0.length < 14) = false := decide_eq_false (by omega)
    have c1c := Aside0.mk c1
    clear c1
    by_cases c2 : (l0.length : Int) > 1514
    · rw [if_pos c2] at h
      have c2b0 : decide (1514 < (l0.length : Int)) = true := decide_eq_true c2
      have c2b1 : decide (1514 < l0.length) = true := decide_eq_true (by omega)
      clear c2
      simp only [Option.some.injEq, Prod.mk.injEq] at h
      obtain ⟨rfl, rfl, rfl, rfl, rfl⟩ := h
      go_enter Try.func18, Try.ntmps18
      go_wp2_with (first | ((with_reducible refine gate_dst (N := 2) rfl ?_); refine box_event ?hg (N := 2) ?hd (cs := #[.int .u64 0, .int .u64 0, .int .u16 0, .slice none 0 0]) (t := 26) ?hr ?_; (case hd => rfl); (case hg => rfl); (case hr => first | (go_simp; done) | (go_simp; rfl)); intro gb hg w1 hbox hb; have BK := Aside0.mk hbox; have HB := Aside0.mk hb; have HGB := Aside0.mk (show w.heap.size ≤ gb by rw [hg]; exact Nat.le_refl _); clear hbox hb hg; have hcza_0 : w1.cell? ⟨gb, 0, none⟩ = some (.int .u64 0) := (blk_cell BK.out 0).trans rfl; have hcza_1 : w1.cell? ⟨gb, 1, none⟩ = some (.int .u64 0) := (blk_cell BK.out 1).trans rfl; have hcza_2 : w1.cell? ⟨gb, 2, none⟩ = some (.int .u16 0) := (blk_cell BK.out 2).trans rfl; have hcza_3 : w1.cell? ⟨gb, 3, none⟩ = some (.slice none 0 0) := (blk_cell BK.out 3).trans rfl; have hfza_0 := blk_frozen BK.out 0; have hfza_1 := blk_frozen BK.out 1; have hfza_2 := blk_frozen BK.out 2; have hfza_3 := blk_frozen BK.out 3))
      refine bodyPost_ret (results_ct rfl _ _ gb 26 #[.int .u64 0, .int .u64 0, .int .u16 0, .slice none 0 0] (0, 0) _ rfl (by refine blk_put (cs := #[.int .u64 0, .int .u64 0, .int .u16 0, .slice none 0 0]) ?_ 3 _ rfl; refine blk_put (cs := #[.int .u64 0, .int .u64 0, .int .u16 0, .slice none 0 0]) ?_ 2 _ rfl; refine blk_put (cs := #[.int .u64 0, .int .u64 0, .int .u16 0, .slice none 0 0]) ?_ 1 _ rfl; refine blk_put (cs := #[.int .u64 0, .int .u64 0, .int .u16 0, .slice none 0 0]) ?_ 0 _ rfl; exact BK.out) Try.underlying26 rfl (by kernel_rfl)) rfl ?_
      exact ⟨_, rfl, Kd.R_nil _ _ _ _ _, by refine below_set (g := gb) ?_ HGB.out; refine below_set (g := gb) ?_ HGB.out; refine below_set (g := gb) ?_ HGB.out; refine below_set (g := gb) ?_ HGB.out; exact HB.out⟩
    · rw [if_neg c2] at h
      have c2b0 : decide (1514 < (l0.length : Int)) = false := decide_eq_false c2
      have c2b1 : decide (1514 < l0.length) = false := decide_eq_false (by omega)
      have HLE := Aside0.mk c2
      clear c2
      obtain ⟨⟨t1, e1⟩, hn, h⟩ := Option.bind_eq_some_iff.mp h
      have HN1 := Aside0.mk hn
      clear hn
      obtain ⟨⟨t2, e2⟩, hn, h⟩ := Option.bind_eq_some_iff.mp h
      have HN2 := Aside0.mk hn
      clear hn
      obtain ⟨⟨t3, e3⟩, hn, h⟩ := Option.bind_eq_some_iff.mp h
      have HN3 := Aside0.mk hn
      clear hn
      simp only at h
      have h14 : 14 ≤ l0.length := by have := c1c.out; omega
      obtain ⟨y14, hy14⟩ : ∃ y, y = l0.drop 14 := ⟨_, rfl⟩
      obtain ⟨i0, hi0, _, hsz, _⟩ := info_parts cl_info
      have hcut0 := cut_from (P := Try.prog) 24 5 .i64 Try.underlying24 hi0 1 hsz A0 l0.length c0 14 (by decide) (by omega)
      have hC := Kd.C_drop (m := 14) HR.out h14 HC0.out
      obtain ⟨A14, hA14⟩ : ∃ A, A = (if c0 = (14 : Int).toNat then A0 else A0.map (·.add ((14 : Int).toNat * 1))) := ⟨_, rfl⟩
      obtain ⟨c14, hc14⟩ : ∃ c, c = c0 - (14 : Int).toNat := ⟨_, rfl⟩
      have hl14 : y14.length = l0.length - (14 : Int).toNat := by rw [hy14, List.length_drop]; rfl
      have hC14 : Kd.C (Kd.int .u8) w A14 y14.length y14 := by rw [hA14, hy14]; exact hC
      have hcut : ∀ W : World, (Instr.slice 24 (.slice A0 l0.length c0) (some (.int .i64 14)) none none).run Try.prog W = .ok (.slice A14 y14.length c14) W := by rw [hA14, hl14, hc14]; exact hcut0
      have HR14 := Aside0.mk hC14
      have HC14 := Aside0.mk (show y14.length ≤ c14 by rw [hl14, hc14]; exact Nat.sub_le_sub_right HC0.out _)
      have HCL := Aside0.mk (show slices_Clone_byte_byte.f y14 = some y14 by unfold slices_Clone_byte_byte.f; rw [if_pos]; have := HLE.out; rw [hl14]; omega)
      have HY14 := Aside0.mk hy14
      clear hC14 hC hcut0 hA14 hc14 hl14 hy14 hi0 hsz h14
      by_cases c3 : IntKind.u16.wrap t3 < 1536
      · rw [if_pos c3] at h
        have c3b0 : decide (IntKind.u16.wrap t3 < 1536) = true := decide_eq_true c3
        clear c3
        simp only [Option.some.injEq, Prod.mk.injEq] at h
        obtain ⟨rfl, rfl, rfl, rfl, rfl⟩ := h
        go_enter Try.func18, Try.ntmps18
        go_wp2_with (first | ((with_reducible refine gate_dst (N := 2) rfl ?_); refine box_event ?hg (N := 2) ?hd (cs := #[.int .u64 0, .int .u64 0, .int .u16 0, .slice none 0 0]) (t := 26) ?hr ?_; (case hd => rfl); (case hg => rfl); (case hr => first | (go_simp; done) | (go_simp; rfl)); intro gb hg w1 hbox hb; have BK := Aside0.mk hbox; have HB := Aside0.mk hb; have HGB := Aside0.mk (show w.heap.size ≤ gb by rw [hg]; exact Nat.le_refl _); clear hbox hb hg; skip) | (go_at_call 27; (with_reducible refine (reader_calls _ _ _ _ _).mono ?_); rintro e w2 ⟨pb, pa, rfl, g1, g2, h1, h2, hb⟩; have HPB := Aside0.mk h1; have HPA := Aside0.mk h2; have BK1 := Aside0.mk (blk_below BK.out hb); have HPG := Aside0.mk (Nat.le_trans HB.out.size g2); have HB1 := Aside0.mk (HB.out.trans (hb.mono HB.out.size)); clear g1 g2 h1 h2 hb; clear BK HB; have BK := BK1; have HB := HB1; clear BK1 HB1))
        have n0_ := Aside0.mk (blk_drew BK.out)
        have n1_ := Aside0.mk (blk_drew HPB.out)
        have n2_ := Aside0.mk (blk_drew HPA.out)
        have n3_ := Aside0.mk (below_drew1 HB.out)
        clear BK HPB HPA HB
        have BK := n0_
        have HPB := n1_
        have HPA := n2_
        have HB := n3_
        clear n0_ n1_ n2_ n3_
        refine start_ (n := 13) (S := fun w' => True) (ds := []) #[false, false, false, false, false, false, false, false, false, false, false, false, false] (by kernel_rfl) rfl rfl trivial (fun hHeld => ?_)
        generalize w2.drew = wd at BK HPB HPA HB ⊢
        refine pure_ (i := 0) (N := some 18) (v := ?_) (a' := ?_) #[true, false, false, false, false, false, false, false, false, false, false, false, false] rfl rfl (by kernel_rfl) (fun _ _ _ h => h) (Or.inl ⟨by rfl, ?_⟩) ?_ ?_
        rotate_left
        · intro w'
          go_simp
          with_reducible rfl
        rotate_left
        · simp only [Act.put, List.setIfInBounds_toArray, List.set_cons_zero, List.set_cons_succ, i64_w, i32_w]
          rfl
        refine pure_ (i := 2) (N := some 20) (v := ?_) (a' := ?_) #[true, false, true, false, false, false, false, false, false, false, false, false, false] rfl rfl (by kernel_rfl) (fun _ _ _ h => h) (Or.inl ⟨by rfl, ?_⟩) ?_ ?_
        rotate_left
        · intro w'
          go_simp
          with_reducible rfl
        rotate_left
        · simp only [Act.put, List.setIfInBounds_toArray, List.set_cons_zero, List.set_cons_succ, i64_w, i32_w]
          rfl
        refine pure_ (i := 4) (N := some 22) (v := ?_) (a' := ?_) #[true, false, true, false, true, false, false, false, false, false, false, false, false] rfl rfl (by kernel_rfl) (fun _ _ _ h => h) (Or.inl ⟨by rfl, ?_⟩) ?_ ?_
        rotate_left
        · intro w'
          go_simp
          with_reducible rfl
        rotate_left
        · simp only [Act.put, List.setIfInBounds_toArray, List.set_cons_zero, List.set_cons_succ, i64_w, i32_w]
          rfl
        refine pure_ (i := 7) (N := some 25) (v := ?_) (a' := ?_) #[true, false, true, false, true, false, false, true, false, false, false, false, false] rfl rfl (by kernel_rfl) (fun _ _ _ h => h) (Or.inl ⟨by rfl, ?_⟩) ?_ ?_
        rotate_left
        · intro w'
          go_simp
          with_reducible rfl
        rotate_left
        · simp only [Act.put, List.setIfInBounds_toArray, List.set_cons_zero, List.set_cons_succ, i64_w, i32_w]
          rfl
        refine pure_ (i := 8) (N := some 26) (v := ?_) (a' := ?_) #[true, false, true, false, true, false, false, true, true, false, false, false, false] rfl rfl (by kernel_rfl) (fun _ _ _ h => h) (Or.inl ⟨by rfl, ?_⟩) ?_ ?_
        rotate_left
        · intro w'
          go_simp
          with_reducible rfl
        rotate_left
        · simp only [Act.put, List.setIfInBounds_toArray, List.set_cons_zero, List.set_cons_succ, i64_w, i32_w]
          rfl
        refine join_ (σ := Nat × Option Addr × Nat) 1 #[true, true, true, true, true, true, true, true, true, true, true, true, false] (fun s => [(19, .int .u64 t1), (21, .int .u64 t2), (23, .int .u64 t3), (27, .slice s.2.1 y14.length s.2.2), (5, .pointer (some ⟨s.1, 0, none⟩)), (24, .int .u16 (IntKind.u16.wrap t3)), (28, .agg #[.int .u64 t1, .int .u64 t2, .int .u16 (IntKind.u16.wrap t3), .slice s.2.1 y14.length s.2.2])]) (fun s w' => w.heap.size ≤ s.1 ∧ gb ≠ s.1 ∧ w'.heap[s.1]? = some (.cells #[.int .u64 0, .int .u64 0, .int .u16 0, .slice none 0 0] 26 (0, 0)) ∧ w'.heap[gb]? = some (.cells #[.int .u64 0, .int .u64 0, .int .u16 0, .slice none 0 0] 26 (0, 0)) ∧ Kd.R (Kd.int .u8) 5 w' w.heap.size (fun _ => True) (.slice s.2.1 y14.length s.2.2) y14 ∧ Below w.heap.size w w') ?_ ?_
        rotate_left
        · intro hCont
          refine two_ (i := 1) (j := 11) (Ni := some 19) (Nj := some 5) #[true, true, true, false, true, false, false, true, true, false, false, false, false] #[true, false, true, false, true, false, false, true, true, false, false, true, false] rfl rfl rfl rfl (by kernel_rfl) (by decide) (by decide) (fun K hK => ?_) (fun K hK => ?_)
          · skip
            refine goesC_ Try.func36 (by kernel_rfl) rfl #[.int .i64 6, .pointer (some ⟨pb, 0, none⟩), .pointer (some ⟨pa, 0, none⟩)] (by rfl) rfl rfl (by rfl) (by simp [Act.eval]) ?_
            with_reducible refine (next_step k pb pa _ _ l0 0 6 t1 _ 6 _ HPB.out HPA.out (Kd.C_below HR.out HB.out) HC0.out HN1.out (by unfold wrap64; omega)).mono ?_
            rintro e wn ⟨rfl, h1, h2, hg⟩
            refine ⟨_, rfl, ?_⟩
            have n0_ := Aside0.mk (HB.out.grown hg HB.out.size (fun _ e => by injection e with e; subst e; exact HPG.out))
            have n1_ := Aside0.mk (blk_grown BK.out hg (by intro e; injection e with e; exact blk_ne BK.out HPA.out (by decide) e))
            have n2_ := Aside0.mk (h1)
            have n3_ := Aside0.mk (h2)
            clear HB BK HPB HPA
            have HB := n0_
            have BK := n1_
            have HPB := n2_
            have HPA := n3_
            clear n0_ n1_ n2_ n3_
            clear h1 h2 hg
            refine hK.out _ _ trivial (fun hHeld => ?_)
            clear hK K
            refine norm_ (a' := ?_) ?_ ?_
            rotate_left
            · show Act.put _ (some 19) _ = _
              simp only [Act.put, List.setIfInBounds_toArray, List.set_cons_zero, List.set_cons_succ, i64_w, i32_w]
              rfl
            refine two_ (i := 3) (j := 11) (Ni := some 21) (Nj := some 5) #[true, true, true, true, true, false, false, true, true, false, false, false, false] #[true, true, true, false, true, false, false, true, true, false, false, true, false] rfl rfl rfl rfl (by kernel_rfl) (by decide) (by decide) (fun K hK => ?_) (fun K hK => ?_)
            · skip
              refine goesC_ Try.func36 (by kernel_rfl) rfl #[.int .i64 6, .pointer (some ⟨pb, 0, none⟩), .pointer (some ⟨pa, 0, none⟩)] (by rfl) rfl rfl (by rfl) (by simp [Act.eval]) ?_
              with_reducible refine (next_step k pb pa _ _ l0 6 6 t2 _ 12 _ HPB.out HPA.out (Kd.C_below HR.out HB.out) HC0.out HN2.out (by unfold wrap64; omega)).mono ?_
              rintro e wn ⟨rfl, h1, h2, hg⟩
              refine ⟨_, rfl, ?_⟩
              have n0_ := Aside0.mk (HB.out.grown hg HB.out.size (fun _ e => by injection e with e; subst e; exact HPG.out))
              have n1_ := Aside0.mk (blk_grown BK.out hg (by intro e; injection e with e; exact blk_ne BK.out HPA.out (by decide) e))
              have n2_ := Aside0.mk (h1)
              have n3_ := Aside0.mk (h2)
              clear HB BK HPB HPA
              have HB := n0_
              have BK := n1_
              have HPB := n2_
              have HPA := n3_
              clear n0_ n1_ n2_ n3_
              clear h1 h2 hg
              refine hK.out _ _ trivial (fun hHeld => ?_)
              clear hK K
              refine norm_ (a' := ?_) ?_ ?_
              rotate_left
              · show Act.put _ (some 21) _ = _
                simp only [Act.put, List.setIfInBounds_toArray, List.set_cons_zero, List.set_cons_succ, i64_w, i32_w]
                rfl
              refine two_ (i := 5) (j := 11) (Ni := some 23) (Nj := some 5) #[true, true, true, true, true, true, false, true, true, false, false, false, false] #[true, true, true, true, true, false, false, true, true, false, false, true, false] rfl rfl rfl rfl (by kernel_rfl) (by decide) (by decide) (fun K hK => ?_) (fun K hK => ?_)
              · skip
                refine goesC_ Try.func36 (by kernel_rfl) rfl #[.int .i64 2, .pointer (some ⟨pb, 0, none⟩), .pointer (some ⟨pa, 0, none⟩)] (by rfl) rfl rfl (by rfl) (by simp [Act.eval]) ?_
                with_reducible refine (next_step k pb pa _ _ l0 12 2 t3 _ 14 _ HPB.out HPA.out (Kd.C_below HR.out HB.out) HC0.out HN3.out (by unfold wrap64; omega)).mono ?_
                rintro e wn ⟨rfl, h1, h2, hg⟩
                refine ⟨_, rfl, ?_⟩
                have n0_ := Aside0.mk (HB.out.grown hg HB.out.size (fun _ e => by injection e with e; subst e; exact HPG.out))
                have n1_ := Aside0.mk (blk_grown BK.out hg (by intro e; injection e with e; exact blk_ne BK.out HPA.out (by decide) e))
                have n2_ := Aside0.mk (h1)
                have n3_ := Aside0.mk (h2)
                clear HB BK HPB HPA
                have HB := n0_
                have BK := n1_
                have HPB := n2_
                have HPA := n3_
                clear n0_ n1_ n2_ n3_
                clear h1 h2 hg
                refine hK.out _ _ trivial (fun hHeld => ?_)
                clear hK K
                refine norm_ (a' := ?_) ?_ ?_
                rotate_left
                · show Act.put _ (some 23) _ = _
                  simp only [Act.put, List.setIfInBounds_toArray, List.set_cons_zero, List.set_cons_succ, i64_w, i32_w]
                  rfl
                refine pure_ (i := 6) (N := some 24) (v := ?_) (a' := ?_) #[true, true, true, true, true, true, true, true, true, false, false, false, false] rfl rfl (by kernel_rfl) (fun _ _ _ h => h) (Or.inl ⟨by rfl, ?_⟩) ?_ ?_
                rotate_left
                · intro w'
                  go_simp
                  with_reducible rfl
                rotate_left
                · simp only [Act.put, List.setIfInBounds_toArray, List.set_cons_zero, List.set_cons_succ, i64_w, i32_w]
                  rfl
                refine two_ (i := 9) (j := 11) (Ni := some 27) (Nj := some 5) #[true, true, true, true, true, true, true, true, true, true, false, false, false] #[true, true, true, true, true, true, true, true, true, false, false, true, false] rfl rfl rfl rfl (by kernel_rfl) (by decide) (by decide) (fun K hK => ?_) (fun K hK => ?_)
                · skip
                  refine goes_ Try.func29 (by kernel_rfl) rfl #[.slice A14 y14.length c14] (by rfl) rfl rfl (by (try simp only [List.map_toArray, List.map_cons, List.map_nil]); first | done | rfl) ?_
                  with_reducible refine (slices_Clone_byte_byte.calls _ _ y14 y14 _ (Kd.C_below HR14.out HB.out) HC14.out HCL.out).mono ?_
                  rintro e wc ⟨vb, rfl, hv, hb⟩
                  obtain ⟨Av, cv, ev⟩ := Kd.R_slice hv
                  subst ev
                  refine ⟨_, rfl, ?_⟩
                  have n0_ := Aside0.mk (Kd.R_lower hv HB.out.size)
                  have n1_ := Aside0.mk (blk_below BK.out hb)
                  have n2_ := Aside0.mk (blk_below HPB.out hb)
                  have n3_ := Aside0.mk (blk_below HPA.out hb)
                  have n4_ := Aside0.mk (HB.out.trans (hb.mono HB.out.size))
                  clear BK HPB HPA HB
                  have VR := n0_
                  have BK := n1_
                  have HPB := n2_
                  have HPA := n3_
                  have HB := n4_
                  clear n0_ n1_ n2_ n3_ n4_
                  clear hv hb
                  refine hK.out _ _ trivial (fun hHeld => ?_)
                  clear hK K
                  refine norm_ (a' := ?_) ?_ ?_
                  rotate_left
                  · show Act.put _ (some 27) _ = _
                    simp only [Act.put, List.setIfInBounds_toArray, List.set_cons_zero, List.set_cons_succ, i64_w, i32_w]
                    rfl
                  refine pure_ (i := 10) (N := some 28) (v := ?_) (a' := ?_) #[true, true, true, true, true, true, true, true, true, true, true, false, false] rfl rfl (by kernel_rfl) (fun _ _ _ h => h) (Or.inl ⟨by rfl, ?_⟩) ?_ ?_
                  rotate_left
                  · intro w'
                    go_simp
                    with_reducible rfl
                  rotate_left
                  · simp only [Act.put, List.setIfInBounds_toArray, List.set_cons_zero, List.set_cons_succ, i64_w, i32_w]
                    rfl
                  refine one_ (i := 11) (N := some 5) #[true, true, true, true, true, true, true, true, true, true, true, true, false] rfl rfl (by kernel_rfl) (by decide) (fun K hK => ?_)
                  refine boxR_ (cs := #[.int .u64 0, .int .u64 0, .int .u16 0, .slice none 0 0]) (t := 26) (by rfl) rfl (by first | (go_simp; done) | (go_simp; rfl)) ?_
                  intro ga wa hgg hbox hb
                  have n0_ := Aside0.mk (show w.heap.size ≤ ga by rw [hgg]; exact HB.out.size)
                  have n1_ := Aside0.mk (show gb ≠ ga by have := blk_lt BK.out; omega)
                  have n2_ := Aside0.mk (hbox)
                  have n3_ := Aside0.mk (blk_below BK.out hb)
                  have n4_ := Aside0.mk (blk_below HPB.out hb)
                  have n5_ := Aside0.mk (blk_below HPA.out hb)
                  have n6_ := Aside0.mk (Kd.R_below VR.out hb)
                  have n7_ := Aside0.mk (HB.out.trans (hb.mono HB.out.size))
                  clear BK HPB HPA VR HB
                  have HGA := n0_
                  have HNE := n1_
                  have BA := n2_
                  have BK := n3_
                  have HPB := n4_
                  have HPA := n5_
                  have VR := n6_
                  have HB := n7_
                  clear n0_ n1_ n2_ n3_ n4_ n5_ n6_ n7_
                  clear hgg hbox hb
                  refine hK.out _ _ trivial (fun hHeld => ?_)
                  clear hK K
                  refine norm_ (a' := ?_) ?_ ?_
                  rotate_left
                  · show Act.put _ (some 5) _ = _
                    simp only [Act.put, List.setIfInBounds_toArray, List.set_cons_zero, List.set_cons_succ, i64_w, i32_w]
                    rfl
                  exact norm_ (by simp only [putAll, Act.put, List.setIfInBounds_toArray, List.set_cons_zero, List.set_cons_succ]) (hCont (ga, Av, cv) _ ⟨HGA.out, HNE.out, BA.out, BK.out, VR.out, HB.out⟩)
                · skip
                  refine boxR_ (cs := #[.int .u64 0, .int .u64 0, .int .u16 0, .slice none 0 0]) (t := 26) (by rfl) rfl (by first | (go_simp; done) | (go_simp; rfl)) ?_
                  intro ga wa hgg hbox hb
                  have n0_ := Aside0.mk (show w.heap.size ≤ ga by rw [hgg]; exact HB.out.size)
                  have n1_ := Aside0.mk (show gb ≠ ga by have := blk_lt BK.out; omega)
                  have n2_ := Aside0.mk (hbox)
                  have n3_ := Aside0.mk (blk_below BK.out hb)
                  have n4_ := Aside0.mk (blk_below HPB.out hb)
                  have n5_ := Aside0.mk (blk_below HPA.out hb)
                  have n6_ := Aside0.mk (HB.out.trans (hb.mono HB.out.size))
                  clear BK HPB HPA HB
                  have HGA := n0_
                  have HNE := n1_
                  have BA := n2_
                  have BK := n3_
                  have HPB := n4_
                  have HPA := n5_
                  have HB := n6_
                  clear n0_ n1_ n2_ n3_ n4_ n5_ n6_
                  clear hgg hbox hb
                  refine hK.out _ _ trivial (fun hHeld => ?_)
                  clear hK K
                  refine norm_ (a' := ?_) ?_ ?_
                  rotate_left
                  · show Act.put _ (some 5) _ = _
                    simp only [Act.put, List.setIfInBounds_toArray, List.set_cons_zero, List.set_cons_succ, i64_w, i32_w]
                    rfl
                  refine one_ (i := 9) (N := some 27) #[true, true, true, true, true, true, true, true, true, true, false, true, false] rfl rfl (by kernel_rfl) (by decide) (fun K hK => ?_)
                  refine goes_ Try.func29 (by kernel_rfl) rfl #[.slice A14 y14.length c14] (by rfl) rfl rfl (by (try simp only [List.map_toArray, List.map_cons, List.map_nil]); first | done | rfl) ?_
                  with_reducible refine (slices_Clone_byte_byte.calls _ _ y14 y14 _ (Kd.C_below HR14.out HB.out) HC14.out HCL.out).mono ?_
                  rintro e wc ⟨vb, rfl, hv, hb⟩
                  obtain ⟨Av, cv, ev⟩ := Kd.R_slice hv
                  subst ev
                  refine ⟨_, rfl, ?_⟩
                  have n0_ := Aside0.mk (Kd.R_lower hv HB.out.size)
                  have n1_ := Aside0.mk (blk_below BK.out hb)
                  have n2_ := Aside0.mk (blk_below HPB.out hb)
                  have n3_ := Aside0.mk (blk_below HPA.out hb)
                  have n4_ := Aside0.mk (blk_below BA.out hb)
                  have n5_ := Aside0.mk (HB.out.trans (hb.mono HB.out.size))
                  clear BK HPB HPA BA HB
                  have VR := n0_
                  have BK := n1_
                  have HPB := n2_
                  have HPA := n3_
                  have BA := n4_
                  have HB := n5_
                  clear n0_ n1_ n2_ n3_ n4_ n5_
                  clear hv hb
                  refine hK.out _ _ trivial (fun hHeld => ?_)
                  clear hK K
                  refine norm_ (a' := ?_) ?_ ?_
                  rotate_left
                  · show Act.put _ (some 27) _ = _
                    simp only [Act.put, List.setIfInBounds_toArray, List.set_cons_zero, List.set_cons_succ, i64_w, i32_w]
                    rfl
                  refine pure_ (i := 10) (N := some 28) (v := ?_) (a' := ?_) #[true, true, true, true, true, true, true, true, true, true, true, true, false] rfl rfl (by kernel_rfl) (fun _ _ _ h => h) (Or.inl ⟨by rfl, ?_⟩) ?_ ?_
                  rotate_left
                  · intro w'
                    go_simp
                    with_reducible rfl
                  rotate_left
                  · simp only [Act.put, List.setIfInBounds_toArray, List.set_cons_zero, List.set_cons_succ, i64_w, i32_w]
                    rfl
                  exact norm_ (by simp only [putAll, Act.put, List.setIfInBounds_toArray, List.set_cons_zero, List.set_cons_succ]) (hCont (ga, Av, cv) _ ⟨HGA.out, HNE.out, BA.out, BK.out, VR.out, HB.out⟩)
              · skip
                refine boxR_ (cs := #[.int .u64 0, .int .u64 0, .int .u16 0, .slice none 0 0]) (t := 26) (by rfl) rfl (by first | (go_simp; done) | (go_simp; rfl)) ?_
                intro ga wa hgg hbox hb
                have n0_ := Aside0.mk (show w.heap.size ≤ ga by rw [hgg]; exact HB.out.size)
                have n1_ := Aside0.mk (show gb ≠ ga by have := blk_lt BK.out; omega)
                have n2_ := Aside0.mk (hbox)
                have n3_ := Aside0.mk (blk_below BK.out hb)
                have n4_ := Aside0.mk (blk_below HPB.out hb)
                have n5_ := Aside0.mk (blk_below HPA.out hb)
                have n6_ := Aside0.mk (HB.out.trans (hb.mono HB.out.size))
                clear BK HPB HPA HB
                have HGA := n0_
                have HNE := n1_
                have BA := n2_
                have BK := n3_
                have HPB := n4_
                have HPA := n5_
                have HB := n6_
                clear n0_ n1_ n2_ n3_ n4_ n5_ n6_
                clear hgg hbox hb
                refine hK.out _ _ trivial (fun hHeld => ?_)
                clear hK K
                refine norm_ (a' := ?_) ?_ ?_
                rotate_left
                · show Act.put _ (some 5) _ = _
                  simp only [Act.put, List.setIfInBounds_toArray, List.set_cons_zero, List.set_cons_succ, i64_w, i32_w]
                  rfl
                refine one_ (i := 5) (N := some 23) #[true, true, true, true, true, true, false, true, true, false, false, true, false] rfl rfl (by kernel_rfl) (by decide) (fun K hK => ?_)
                refine goesC_ Try.func36 (by kernel_rfl) rfl #[.int .i64 2, .pointer (some ⟨pb, 0, none⟩), .pointer (some ⟨pa, 0, none⟩)] (by rfl) rfl rfl (by rfl) (by simp [Act.eval]) ?_
                with_reducible refine (next_step k pb pa _ _ l0 12 2 t3 _ 14 _ HPB.out HPA.out (Kd.C_below HR.out HB.out) HC0.out HN3.out (by unfold wrap64; omega)).mono ?_
                rintro e wn ⟨rfl, h1, h2, hg⟩
                refine ⟨_, rfl, ?_⟩
                have n0_ := Aside0.mk (HB.out.grown hg HB.out.size (fun _ e => by injection e with e; subst e; exact HPG.out))
                have n1_ := Aside0.mk (blk_grown BK.out hg (by intro e; injection e with e; exact blk_ne BK.out HPA.out (by decide) e))
                have n2_ := Aside0.mk (blk_grown BA.out hg (by intro e; injection e with e; exact blk_ne BA.out HPA.out (by decide) e))
                have n3_ := Aside0.mk (h1)
                have n4_ := Aside0.mk (h2)
                clear HB BK BA HPB HPA
                have HB := n0_
                have BK := n1_
                have BA := n2_
                have HPB := n3_
                have HPA := n4_
                clear n0_ n1_ n2_ n3_ n4_
                clear h1 h2 hg
                refine hK.out _ _ trivial (fun hHeld => ?_)
                clear hK K
                refine norm_ (a' := ?_) ?_ ?_
                rotate_left
                · show Act.put _ (some 23) _ = _
                  simp only [Act.put, List.setIfInBounds_toArray, List.set_cons_zero, List.set_cons_succ, i64_w, i32_w]
                  rfl
                refine pure_ (i := 6) (N := some 24) (v := ?_) (a' := ?_) #[true, true, true, true, true, true, true, true, true, false, false, true, false] rfl rfl (by kernel_rfl) (fun _ _ _ h => h) (Or.inl ⟨by rfl, ?_⟩) ?_ ?_
                rotate_left
                · intro w'
                  go_simp
                  with_reducible rfl
                rotate_left
                · simp only [Act.put, List.setIfInBounds_toArray, List.set_cons_zero, List.set_cons_succ, i64_w, i32_w]
                  rfl
                refine one_ (i := 9) (N := some 27) #[true, true, true, true, true, true, true, true, true, true, false, true, false] rfl rfl (by kernel_rfl) (by decide) (fun K hK => ?_)
                refine goes_ Try.func29 (by kernel_rfl) rfl #[.slice A14 y14.length c14] (by rfl) rfl rfl (by (try simp only [List.map_toArray, List.map_cons, List.map_nil]); first | done | rfl) ?_
                with_reducible refine (slices_Clone_byte_byte.calls _ _ y14 y14 _ (Kd.C_below HR14.out HB.out) HC14.out HCL.out).mono ?_
                rintro e wc ⟨vb, rfl, hv, hb⟩
                obtain ⟨Av, cv, ev⟩ := Kd.R_slice hv
                subst ev
                refine ⟨_, rfl, ?_⟩
                have n0_ := Aside0.mk (Kd.R_lower hv HB.out.size)
                have n1_ := Aside0.mk (blk_below BK.out hb)
                have n2_ := Aside0.mk (blk_below HPB.out hb)
                have n3_ := Aside0.mk (blk_below HPA.out hb)
                have n4_ := Aside0.mk (blk_below BA.out hb)
                have n5_ := Aside0.mk (HB.out.trans (hb.mono HB.out.size))
                clear BK HPB HPA BA HB
                have VR := n0_
                have BK := n1_
                have HPB := n2_
                have HPA := n3_
                have BA := n4_
                have HB := n5_
                clear n0_ n1_ n2_ n3_ n4_ n5_
                clear hv hb
                refine hK.out _ _ trivial (fun hHeld => ?_)
                clear hK K
                refine norm_ (a' := ?_) ?_ ?_
                rotate_left
                · show Act.put _ (some 27) _ = _
                  simp only [Act.put, List.setIfInBounds_toArray, List.set_cons_zero, List.set_cons_succ, i64_w, i32_w]
                  rfl
                refine pure_ (i := 10) (N := some 28) (v := ?_) (a' := ?_) #[true, true, true, true, true, true, true, true, true, true, true, true, false] rfl rfl (by kernel_rfl) (fun _ _ _ h => h) (Or.inl ⟨by rfl, ?_⟩) ?_ ?_
                rotate_left
                · intro w'
                  go_simp
                  with_reducible rfl
                rotate_left
                · simp only [Act.put, List.setIfInBounds_toArray, List.set_cons_zero, List.set_cons_succ, i64_w, i32_w]
                  rfl
                exact norm_ (by simp only [putAll, Act.put, List.setIfInBounds_toArray, List.set_cons_zero, List.set_cons_succ]) (hCont (ga, Av, cv) _ ⟨HGA.out, HNE.out, BA.out, BK.out, VR.out, HB.out⟩)
            · skip
              refine boxR_ (cs := #[.int .u64 0, .int .u64 0, .int .u16 0, .slice none 0 0]) (t := 26) (by rfl) rfl (by first | (go_simp; done) | (go_simp; rfl)) ?_
              intro ga wa hgg hbox hb
              have n0_ := Aside0.mk (show w.heap.size ≤ ga by rw [hgg]; exact HB.out.size)
              have n1_ := Aside0.mk (show gb ≠ ga by have := blk_lt BK.out; omega)
              have n2_ := Aside0.mk (hbox)
              have n3_ := Aside0.mk (blk_below BK.out hb)
              have n4_ := Aside0.mk (blk_below HPB.out hb)
              have n5_ := Aside0.mk (blk_below HPA.out hb)
              have n6_ := Aside0.mk (HB.out.trans (hb.mono HB.out.size))
              clear BK HPB HPA HB
              have HGA := n0_
              have HNE := n1_
              have BA := n2_
              have BK := n3_
              have HPB := n4_
              have HPA := n5_
              have HB := n6_
              clear n0_ n1_ n2_ n3_ n4_ n5_ n6_
              clear hgg hbox hb
              refine hK.out _ _ trivial (fun hHeld => ?_)
              clear hK K
              refine norm_ (a' := ?_) ?_ ?_
              rotate_left
              · show Act.put _ (some 5) _ = _
                simp only [Act.put, List.setIfInBounds_toArray, List.set_cons_zero, List.set_cons_succ, i64_w, i32_w]
                rfl
              refine one_ (i := 3) (N := some 21) #[true, true, true, true, true, false, false, true, true, false, false, true, false] rfl rfl (by kernel_rfl) (by decide) (fun K hK => ?_)
              refine goesC_ Try.func36 (by kernel_rfl) rfl #[.int .i64 6, .pointer (some ⟨pb, 0, none⟩), .pointer (some ⟨pa, 0, none⟩)] (by rfl) rfl rfl (by rfl) (by simp [Act.eval]) ?_
              with_reducible refine (next_step k pb pa _ _ l0 6 6 t2 _ 12 _ HPB.out HPA.out (Kd.C_below HR.out HB.out) HC0.out HN2.out (by unfold wrap64; omega)).mono ?_
              rintro e wn ⟨rfl, h1, h2, hg⟩
              refine ⟨_, rfl, ?_⟩
              have n0_ := Aside0.mk (HB.out.grown hg HB.out.size (fun _ e => by injection e with e; subst e; exact HPG.out))
              have n1_ := Aside0.mk (blk_grown BK.out hg (by intro e; injection e with e; exact blk_ne BK.out HPA.out (by decide) e))
              have n2_ := Aside0.mk (blk_grown BA.out hg (by intro e; injection e with e; exact blk_ne BA.out HPA.out (by decide) e))
              have n3_ := Aside0.mk (h1)
              have n4_ := Aside0.mk (h2)
              clear HB BK BA HPB HPA
              have HB := n0_
              have BK := n1_
              have BA := n2_
              have HPB := n3_
              have HPA := n4_
              clear n0_ n1_ n2_ n3_ n4_
              clear h1 h2 hg
              refine hK.out _ _ trivial (fun hHeld => ?_)
              clear hK K
              refine norm_ (a' := ?_) ?_ ?_
              rotate_left
              · show Act.put _ (some 21) _ = _
                simp only [Act.put, List.setIfInBounds_toArray, List.set_cons_zero, List.set_cons_succ, i64_w, i32_w]
                rfl
              refine one_ (i := 5) (N := some 23) #[true, true, true, true, true, true, false, true, true, false, false, true, false] rfl rfl (by kernel_rfl) (by decide) (fun K hK => ?_)
              refine goesC_ Try.func36 (by kernel_rfl) rfl #[.int .i64 2, .pointer (some ⟨pb, 0, none⟩), .pointer (some ⟨pa, 0, none⟩)] (by rfl) rfl rfl (by rfl) (by simp [Act.eval]) ?_
              with_reducible refine (next_step k pb pa _ _ l0 12 2 t3 _ 14 _ HPB.out HPA.out (Kd.C_below HR.out HB.out) HC0.out HN3.out (by unfold wrap64; omega)).mono ?_
              rintro e wn ⟨rfl, h1, h2, hg⟩
              refine ⟨_, rfl, ?_⟩
              have n0_ := Aside0.mk (HB.out.grown hg HB.out.size (fun _ e => by injection e with e; subst e; exact HPG.out))
              have n1_ := Aside0.mk (blk_grown BK.out hg (by intro e; injection e with e; exact blk_ne BK.out HPA.out (by decide) e))
              have n2_ := Aside0.mk (blk_grown BA.out hg (by intro e; injection e with e; exact blk_ne BA.out HPA.out (by decide) e))
              have n3_ := Aside0.mk (h1)
              have n4_ := Aside0.mk (h2)
              clear HB BK BA HPB HPA
              have HB := n0_
              have BK := n1_
              have BA := n2_
              have HPB := n3_
              have HPA := n4_
              clear n0_ n1_ n2_ n3_ n4_
              clear h1 h2 hg
              refine hK.out _ _ trivial (fun hHeld => ?_)
              clear hK K
              refine norm_ (a' := ?_) ?_ ?_
              rotate_left
              · show Act.put _ (some 23) _ = _
                simp only [Act.put, List.setIfInBounds_toArray, List.set_cons_zero, List.set_cons_succ, i64_w, i32_w]
                rfl
              refine pure_ (i := 6) (N := some 24) (v := ?_) (a' := ?_) #[true, true, true, true, true, true, true, true, true, false, false, true, false] rfl rfl (by kernel_rfl) (fun _ _ _ h => h) (Or.inl ⟨by rfl, ?_⟩) ?_ ?_
              rotate_left
              · intro w'
                go_simp
                with_reducible rfl
              rotate_left
              · simp only [Act.put, List.setIfInBounds_toArray, List.set_cons_zero, List.set_cons_succ, i64_w, i32_w]
                rfl
              refine one_ (i := 9) (N := some 27) #[true, true, true, true, true, true, true, true, true, true, false, true, false] rfl rfl (by kernel_rfl) (by decide) (fun K hK => ?_)
              refine goes_ Try.func29 (by kernel_rfl) rfl #[.slice A14 y14.length c14] (by rfl) rfl rfl (by (try simp only [List.map_toArray, List.map_cons, List.map_nil]); first | done | rfl) ?_
              with_reducible refine (slices_Clone_byte_byte.calls _ _ y14 y14 _ (Kd.C_below HR14.out HB.out) HC14.out HCL.out).mono ?_
              rintro e wc ⟨vb, rfl, hv, hb⟩
              obtain ⟨Av, cv, ev⟩ := Kd.R_slice hv
              subst ev
              refine ⟨_, rfl, ?_⟩
              have n0_ := Aside0.mk (Kd.R_lower hv HB.out.size)
              have n1_ := Aside0.mk (blk_below BK.out hb)
              have n2_ := Aside0.mk (blk_below HPB.out hb)
              have n3_ := Aside0.mk (blk_below HPA.out hb)
              have n4_ := Aside0.mk (blk_below BA.out hb)
              have n5_ := Aside0.mk (HB.out.trans (hb.mono HB.out.size))
              clear BK HPB HPA BA HB
              have VR := n0_
              have BK := n1_
              have HPB := n2_
              have HPA := n3_
              have BA := n4_
              have HB := n5_
              clear n0_ n1_ n2_ n3_ n4_ n5_
              clear hv hb
              refine hK.out _ _ trivial (fun hHeld => ?_)
              clear hK K
              refine norm_ (a' := ?_) ?_ ?_
              rotate_left
              · show Act.put _ (some 27) _ = _
                simp only [Act.put, List.setIfInBounds_toArray, List.set_cons_zero, List.set_cons_succ, i64_w, i32_w]
                rfl
              refine pure_ (i := 10) (N := some 28) (v := ?_) (a' := ?_) #[true, true, true, true, true, true, true, true, true, true, true, true, false] rfl rfl (by kernel_rfl) (fun _ _ _ h => h) (Or.inl ⟨by rfl, ?_⟩) ?_ ?_
              rotate_left
              · intro w'
                go_simp
                with_reducible rfl
              rotate_left
              · simp only [Act.put, List.setIfInBounds_toArray, List.set_cons_zero, List.set_cons_succ, i64_w, i32_w]
                rfl
              exact norm_ (by simp only [putAll, Act.put, List.setIfInBounds_toArray, List.set_cons_zero, List.set_cons_succ]) (hCont (ga, Av, cv) _ ⟨HGA.out, HNE.out, BA.out, BK.out, VR.out, HB.out⟩)
          · skip
            refine boxR_ (cs := #[.int .u64 0, .int .u64 0, .int .u16 0, .slice none 0 0]) (t := 26) (by rfl) rfl (by first | (go_simp; done) | (go_simp; rfl)) ?_
            intro ga wa hgg hbox hb
            have n0_ := Aside0.mk (show w.heap.size ≤ ga by rw [hgg]; exact HB.out.size)
            have n1_ := Aside0.mk (show gb ≠ ga by have := blk_lt BK.out; omega)
            have n2_ := Aside0.mk (hbox)
            have n3_ := Aside0.mk (blk_below BK.out hb)
            have n4_ := Aside0.mk (blk_below HPB.out hb)
            have n5_ := Aside0.mk (blk_below HPA.out hb)
            have n6_ := Aside0.mk (HB.out.trans (hb.mono HB.out.size))
            clear BK HPB HPA HB
            have HGA := n0_
            have HNE := n1_
            have BA := n2_
            have BK := n3_
            have HPB := n4_
            have HPA := n5_
            have HB := n6_
            clear n0_ n1_ n2_ n3_ n4_ n5_ n6_
            clear hgg hbox hb
            refine hK.out _ _ trivial (fun hHeld => ?_)
            clear hK K
            refine norm_ (a' := ?_) ?_ ?_
            rotate_left
            · show Act.put _ (some 5) _ = _
              simp only [Act.put, List.setIfInBounds_toArray, List.set_cons_zero, List.set_cons_succ, i64_w, i32_w]
              rfl
            refine one_ (i := 1) (N := some 19) #[true, true, true, false, true, false, false, true, true, false, false, true, false] rfl rfl (by kernel_rfl) (by decide) (fun K hK => ?_)
            refine goesC_ Try.func36 (by kernel_rfl) rfl #[.int .i64 6, .pointer (some ⟨pb, 0, none⟩), .pointer (some ⟨pa, 0, none⟩)] (by rfl) rfl rfl (by rfl) (by simp [Act.eval]) ?_
            with_reducible refine (next_step k pb pa _ _ l0 0 6 t1 _ 6 _ HPB.out HPA.out (Kd.C_below HR.out HB.out) HC0.out HN1.out (by unfold wrap64; omega)).mono ?_
            rintro e wn ⟨rfl, h1, h2, hg⟩
            refine ⟨_, rfl, ?_⟩
            have n0_ := Aside0.mk (HB.out.grown hg HB.out.size (fun _ e => by injection e with e; subst e; exact HPG.out))
            have n1_ := Aside0.mk (blk_grown BK.out hg (by intro e; injection e with e; exact blk_ne BK.out HPA.out (by decide) e))
            have n2_ := Aside0.mk (blk_grown BA.out hg (by intro e; injection e with e; exact blk_ne BA.out HPA.out (by decide) e))
            have n3_ := Aside0.mk (h1)
            have n4_ := Aside0.mk (h2)
            clear HB BK BA HPB HPA
            have HB := n0_
            have BK := n1_
            have BA := n2_
            have HPB := n3_
            have HPA := n4_
            clear n0_ n1_ n2_ n3_ n4_
            clear h1 h2 hg
            refine hK.out _ _ trivial (fun hHeld => ?_)
            clear hK K
            refine norm_ (a' := ?_) ?_ ?_
            rotate_left
            · show Act.put _ (some 19) _ = _
              simp only [Act.put, List.setIfInBounds_toArray, List.set_cons_zero, List.set_cons_succ, i64_w, i32_w]
              rfl
            refine one_ (i := 3) (N := some 21) #[true, true, true, true, true, false, false, true, true, false, false, true, false] rfl rfl (by kernel_rfl) (by decide) (fun K hK => ?_)
            refine goesC_ Try.func36 (by kernel_rfl) rfl #[.int .i64 6, .pointer (some ⟨pb, 0, none⟩), .pointer (some ⟨pa, 0, none⟩)] (by rfl) rfl rfl (by rfl) (by simp [Act.eval]) ?_
            with_reducible refine (next_step k pb pa _ _ l0 6 6 t2 _ 12 _ HPB.out HPA.out (Kd.C_below HR.out HB.out) HC0.out HN2.out (by unfold wrap64; omega)).mono ?_
            rintro e wn ⟨rfl, h1, h2, hg⟩
            refine ⟨_, rfl, ?_⟩
            have n0_ := Aside0.mk (HB.out.grown hg HB.out.size (fun _ e => by injection e with e; subst e; exact HPG.out))
            have n1_ := Aside0.mk (blk_grown BK.out hg (by intro e; injection e with e; exact blk_ne BK.out HPA.out (by decide) e))
            have n2_ := Aside0.mk (blk_grown BA.out hg (by intro e; injection e with e; exact blk_ne BA.out HPA.out (by decide) e))
            have n3_ := Aside0.mk (h1)
            have n4_ := Aside0.mk (h2)
            clear HB BK BA HPB HPA
            have HB := n0_
            have BK := n1_
            have BA := n2_
            have HPB := n3_
            have HPA := n4_
            clear n0_ n1_ n2_ n3_ n4_
            clear h1 h2 hg
            refine hK.out _ _ trivial (fun hHeld => ?_)
            clear hK K
            refine norm_ (a' := ?_) ?_ ?_
            rotate_left
            · show Act.put _ (some 21) _ = _
              simp only [Act.put, List.setIfInBounds_toArray, List.set_cons_zero, List.set_cons_succ, i64_w, i32_w]
              rfl
            refine one_ (i := 5) (N := some 23) #[true, true, true, true, true, true, false, true, true, false, false, true, false] rfl rfl (by kernel_rfl) (by decide) (fun K hK => ?_)
            refine goesC_ Try.func36 (by kernel_rfl) rfl #[.int .i64 2, .pointer (some ⟨pb, 0, none⟩), .pointer (some ⟨pa, 0, none⟩)] (by rfl) rfl rfl (by rfl) (by simp [Act.eval]) ?_
            with_reducible refine (next_step k pb pa _ _ l0 12 2 t3 _ 14 _ HPB.out HPA.out (Kd.C_below HR.out HB.out) HC0.out HN3.out (by unfold wrap64; omega)).mono ?_
            rintro e wn ⟨rfl, h1, h2, hg⟩
            refine ⟨_, rfl, ?_⟩
            have n0_ := Aside0.mk (HB.out.grown hg HB.out.size (fun _ e => by injection e with e; subst e; exact HPG.out))
            have n1_ := Aside0.mk (blk_grown BK.out hg (by intro e; injection e with e; exact blk_ne BK.out HPA.out (by decide) e))
            have n2_ := Aside0.mk (blk_grown BA.out hg (by intro e; injection e with e; exact blk_ne BA.out HPA.out (by decide) e))
            have n3_ := Aside0.mk (h1)
            have n4_ := Aside0.mk (h2)
            clear HB BK BA HPB HPA
            have HB := n0_
            have BK := n1_
            have BA := n2_
            have HPB := n3_
            have HPA := n4_
            clear n0_ n1_ n2_ n3_ n4_
            clear h1 h2 hg
            refine hK.out _ _ trivial (fun hHeld => ?_)
            clear hK K
            refine norm_ (a' := ?_) ?_ ?_
            rotate_left
            · show Act.put _ (some 23) _ = _
              simp only [Act.put, List.setIfInBounds_toArray, List.set_cons_zero, List.set_cons_succ, i64_w, i32_w]
              rfl
            refine pure_ (i := 6) (N := some 24) (v := ?_) (a' := ?_) #[true, true, true, true, true, true, true, true, true, false, false, true, false] rfl rfl (by kernel_rfl) (fun _ _ _ h => h) (Or.inl ⟨by rfl, ?_⟩) ?_ ?_
            rotate_left
            · intro w'
              go_simp
              with_reducible rfl
            rotate_left
            · simp only [Act.put, List.setIfInBounds_toArray, List.set_cons_zero, List.set_cons_succ, i64_w, i32_w]
              rfl
            refine one_ (i := 9) (N := some 27) #[true, true, true, true, true, true, true, true, true, true, false, true, false] rfl rfl (by kernel_rfl) (by decide) (fun K hK => ?_)
            refine goes_ Try.func29 (by kernel_rfl) rfl #[.slice A14 y14.length c14] (by rfl) rfl rfl (by (try simp only [List.map_toArray, List.map_cons, List.map_nil]); first | done | rfl) ?_
            with_reducible refine (slices_Clone_byte_byte.calls _ _ y14 y14 _ (Kd.C_below HR14.out HB.out) HC14.out HCL.out).mono ?_
            rintro e wc ⟨vb, rfl, hv, hb⟩
            obtain ⟨Av, cv, ev⟩ := Kd.R_slice hv
            subst ev
            refine ⟨_, rfl, ?_⟩
            have n0_ := Aside0.mk (Kd.R_lower hv HB.out.size)
            have n1_ := Aside0.mk (blk_below BK.out hb)
            have n2_ := Aside0.mk (blk_below HPB.out hb)
            have n3_ := Aside0.mk (blk_below HPA.out hb)
            have n4_ := Aside0.mk (blk_below BA.out hb)
            have n5_ := Aside0.mk (HB.out.trans (hb.mono HB.out.size))
            clear BK HPB HPA BA HB
            have VR := n0_
            have BK := n1_
            have HPB := n2_
            have HPA := n3_
            have BA := n4_
            have HB := n5_
            clear n0_ n1_ n2_ n3_ n4_ n5_
            clear hv hb
            refine hK.out _ _ trivial (fun hHeld => ?_)
            clear hK K
            refine norm_ (a' := ?_) ?_ ?_
            rotate_left
            · show Act.put _ (some 27) _ = _
              simp only [Act.put, List.setIfInBounds_toArray, List.set_cons_zero, List.set_cons_succ, i64_w, i32_w]
              rfl
            refine pure_ (i := 10) (N := some 28) (v := ?_) (a' := ?_) #[true, true, true, true, true, true, true, true, true, true, true, true, false] rfl rfl (by kernel_rfl) (fun _ _ _ h => h) (Or.inl ⟨by rfl, ?_⟩) ?_ ?_
            rotate_left
            · intro w'
              go_simp
              with_reducible rfl
            rotate_left
            · simp only [Act.put, List.setIfInBounds_toArray, List.set_cons_zero, List.set_cons_succ, i64_w, i32_w]
              rfl
            exact norm_ (by simp only [putAll, Act.put, List.setIfInBounds_toArray, List.set_cons_zero, List.set_cons_succ]) (hCont (ga, Av, cv) _ ⟨HGA.out, HNE.out, BA.out, BK.out, VR.out, HB.out⟩)
        rintro ⟨ga, Av, cv⟩ wj ⟨hga, hne, hba, hbk, hvr, hb⟩
        have hHeld : True := trivial
        have HGA := Aside0.mk hga
        have BA := Aside0.mk hba
        have BK := Aside0.mk hbk
        have VR := Aside0.mk hvr
        have HB := Aside0.mk hb
        have hne1 := hne
        have hne2 := hne.symm
        clear hga hne hba hbk hvr hb
        have hczb_0 : wj.cell? ⟨ga, 0, none⟩ = some (.int .u64 0) := (blk_cell BA.out 0).trans rfl
        have hczb_1 : wj.cell? ⟨ga, 1, none⟩ = some (.int .u64 0) := (blk_cell BA.out 1).trans rfl
        have hczb_2 : wj.cell? ⟨ga, 2, none⟩ = some (.int .u16 0) := (blk_cell BA.out 2).trans rfl
        have hczb_3 : wj.cell? ⟨ga, 3, none⟩ = some (.slice none 0 0) := (blk_cell BA.out 3).trans rfl
        have hfzb_0 := blk_frozen BA.out 0
        have hfzb_1 := blk_frozen BA.out 1
        have hfzb_2 := blk_frozen BA.out 2
        have hfzb_3 := blk_frozen BA.out 3
        refine norm_ (a' := ?_) ?_ ?_
        rotate_left
        · simp only [putAll, Act.put, List.setIfInBounds_toArray, List.set_cons_zero, List.set_cons_succ]
          rfl
        refine one_ (i := 12) (N := none) #[true, true, true, true, true, true, true, true, true, true, true, true, true] rfl rfl (by kernel_rfl) (by decide) (fun K hK => ?_)
        refine skip_ (w1 := ?_) (by rfl) rfl ?_ ?_
        rotate_left
        · go_simp
          rfl
        refine hK.out _ _ trivial (fun hHeld => ?_)
        clear hK K
        refine done_ (by kernel_rfl) ?_
        have hczc_0 : wj.cell? ⟨gb, 0, none⟩ = some (.int .u64 0) := (blk_cell BK.out 0).trans rfl; have hczc_1 : wj.cell? ⟨gb, 1, none⟩ = some (.int .u64 0) := (blk_cell BK.out 1).trans rfl; have hczc_2 : wj.cell? ⟨gb, 2, none⟩ = some (.int .u16 0) := (blk_cell BK.out 2).trans rfl; have hczc_3 : wj.cell? ⟨gb, 3, none⟩ = some (.slice none 0 0) := (blk_cell BK.out 3).trans rfl; have hfzc_0 := blk_frozen BK.out 0; have hfzc_1 := blk_frozen BK.out 1; have hfzc_2 := blk_frozen BK.out 2; have hfzc_3 := blk_frozen BK.out 3
        go_wp2
        refine bodyPost_ret (results_ct rfl _ _ gb 26 #[.int .u64 0, .int .u64 0, .int .u16 0, .slice none 0 0] (0, 0) _ rfl (by refine blk_put (cs := #[.int .u64 0, .int .u64 0, .int .u16 0, .slice none 0 0]) ?_ 3 _ rfl; refine blk_put (cs := #[.int .u64 0, .int .u64 0, .int .u16 0, .slice none 0 0]) ?_ 2 _ rfl; refine blk_put (cs := #[.int .u64 0, .int .u64 0, .int .u16 0, .slice none 0 0]) ?_ 1 _ rfl; refine blk_put (cs := #[.int .u64 0, .int .u64 0, .int .u16 0, .slice none 0 0]) ?_ 0 _ rfl; refine blk_far (p := ⟨ga, 3, none⟩) ?_ hne1 _; refine blk_far (p := ⟨ga, 2, none⟩) ?_ hne1 _; refine blk_far (p := ⟨ga, 1, none⟩) ?_ hne1 _; refine blk_far (p := ⟨ga, 0, none⟩) ?_ hne1 _; exact BK.out) Try.underlying26 rfl (by kernel_rfl)) rfl ?_
        exact ⟨_, rfl, Kd.R_nil _ _ _ _ _, by refine below_set (g := gb) ?_ HGB.out; refine below_set (g := gb) ?_ HGB.out; refine below_set (g := gb) ?_ HGB.out; refine below_set (g := gb) ?_ HGB.out; refine below_set (g := ga) ?_ HGA.out; refine below_set (g := ga) ?_ HGA.out; refine below_set (g := ga) ?_ HGA.out; refine below_set (g := ga) ?_ HGA.out; exact HB.out⟩
      · rw [if_neg c3] at h
        have c3b0 : decide (IntKind.u16.wrap t3 < 1536) = false := decide_eq_false c3
        clear c3
        simp only [Option.some.injEq, Prod.mk.injEq] at h
        obtain ⟨rfl, rfl, rfl, rfl, rfl⟩ := h
        go_enter Try.func18, Try.ntmps18
        go_wp2_with (first | ((with_reducible refine gate_dst (N := 2) rfl ?_); refine box_event ?hg (N := 2) ?hd (cs := #[.int .u64 0, .int .u64 0, .int .u16 0, .slice none 0 0]) (t := 26) ?hr ?_; (case hd => rfl); (case hg => rfl); (case hr => first | (go_simp; done) | (go_simp; rfl)); intro gb hg w1 hbox hb; have BK := Aside0.mk hbox; have HB := Aside0.mk hb; have HGB := Aside0.mk (show w.heap.size ≤ gb by rw [hg]; exact Nat.le_refl _); clear hbox hb hg; skip) | (go_at_call 27; (with_reducible refine (reader_calls _ _ _ _ _).mono ?_); rintro e w2 ⟨pb, pa, rfl, g1, g2, h1, h2, hb⟩; have HPB := Aside0.mk h1; have HPA := Aside0.mk h2; have BK1 := Aside0.mk (blk_below BK.out hb); have HPG := Aside0.mk (Nat.le_trans HB.out.size g2); have HB1 := Aside0.mk (HB.out.trans (hb.mono HB.out.size)); clear g1 g2 h1 h2 hb; clear BK HB; have BK := BK1; have HB := HB1; clear BK1 HB1))
        have n0_ := Aside0.mk (blk_drew BK.out)
        have n1_ := Aside0.mk (blk_drew HPB.out)
        have n2_ := Aside0.mk (blk_drew HPA.out)
        have n3_ := Aside0.mk (below_drew1 HB.out)
        clear BK HPB HPA HB
        have BK := n0_
        have HPB := n1_
        have HPA := n2_
        have HB := n3_
        clear n0_ n1_ n2_ n3_
        refine start_ (n := 13) (S := fun w' => True) (ds := []) #[false, false, false, false, false, false, false, false, false, false, false, false, false] (by kernel_rfl) rfl rfl trivial (fun hHeld => ?_)
        generalize w2.drew = wd at BK HPB HPA HB ⊢
        refine pure_ (i := 0) (N := some 18) (v := ?_) (a' := ?_) #[true, false, false, false, false, false, false, false, false, false, false, false, false] rfl rfl (by kernel_rfl) (fun _ _ _ h => h) (Or.inl ⟨by rfl, ?_⟩) ?_ ?_
        rotate_left
        · intro w'
          go_simp
          with_reducible rfl
        rotate_left
        · simp only [Act.put, List.setIfInBounds_toArray, List.set_cons_zero, List.set_cons_succ, i64_w, i32_w]
          rfl
        refine pure_ (i := 2) (N := some 20) (v := ?_) (a' := ?_) #[true, false, true, false, false, false, false, false, false, false, false, false, false] rfl rfl (by kernel_rfl) (fun _ _ _ h => h) (Or.inl ⟨by rfl, ?_⟩) ?_ ?_
        rotate_left
        · intro w'
          go_simp
          with_reducible rfl
        rotate_left
        · simp only [Act.put, List.setIfInBounds_toArray, List.set_cons_zero, List.set_cons_succ, i64_w, i32_w]
          rfl
        refine pure_ (i := 4) (N := some 22) (v := ?_) (a' := ?_) #[true, false, true, false, true, false, false, false, false, false, false, false, false] rfl rfl (by kernel_rfl) (fun _ _ _ h => h) (Or.inl ⟨by rfl, ?_⟩) ?_ ?_
        rotate_left
        · intro w'
          go_simp
          with_reducible rfl
        rotate_left
        · simp only [Act.put, List.setIfInBounds_toArray, List.set_cons_zero, List.set_cons_succ, i64_w, i32_w]
          rfl
        refine pure_ (i := 7) (N := some 25) (v := ?_) (a' := ?_) #[true, false, true, false, true, false, false, true, false, false, false, false, false] rfl rfl (by kernel_rfl) (fun _ _ _ h => h) (Or.inl ⟨by rfl, ?_⟩) ?_ ?_
        rotate_left
        · intro w'
          go_simp
          with_reducible rfl
        rotate_left
        · simp only [Act.put, List.setIfInBounds_toArray, List.set_cons_zero, List.set_cons_succ, i64_w, i32_w]
          rfl
        refine pure_ (i := 8) (N := some 26) (v := ?_) (a' := ?_) #[true, false, true, false, true, false, false, true, true, false, false, false, false] rfl rfl (by kernel_rfl) (fun _ _ _ h => h) (Or.inl ⟨by rfl, ?_⟩) ?_ ?_
        rotate_left
        · intro w'
          go_simp
          with_reducible rfl
        rotate_left
        · simp only [Act.put, List.setIfInBounds_toArray, List.set_cons_zero, List.set_cons_succ, i64_w, i32_w]
          rfl
        refine join_ (σ := Nat × Option Addr × Nat) 1 #[true, true, true, true, true, true, true, true, true, true, true, true, false] (fun s => [(19, .int .u64 t1), (21, .int .u64 t2), (23, .int .u64 t3), (27, .slice s.2.1 y14.length s.2.2), (5, .pointer (some ⟨s.1, 0, none⟩)), (24, .int .u16 (IntKind.u16.wrap t3)), (28, .agg #[.int .u64 t1, .int .u64 t2, .int .u16 (IntKind.u16.wrap t3), .slice s.2.1 y14.length s.2.2])]) (fun s w' => w.heap.size ≤ s.1 ∧ gb ≠ s.1 ∧ w'.heap[s.1]? = some (.cells #[.int .u64 0, .int .u64 0, .int .u16 0, .slice none 0 0] 26 (0, 0)) ∧ w'.heap[gb]? = some (.cells #[.int .u64 0, .int .u64 0, .int .u16 0, .slice none 0 0] 26 (0, 0)) ∧ Kd.R (Kd.int .u8) 5 w' w.heap.size (fun _ => True) (.slice s.2.1 y14.length s.2.2) y14 ∧ Below w.heap.size w w') ?_ ?_
        rotate_left
        · intro hCont
          refine two_ (i := 1) (j := 11) (Ni := some 19) (Nj := some 5) #[true, true, true, false, true, false, false, true, true, false, false, false, false] #[true, false, true, false, true, false, false, true, true, false, false, true, false] rfl rfl rfl rfl (by kernel_rfl) (by decide) (by decide) (fun K hK => ?_) (fun K hK => ?_)
          · skip
            refine goesC_ Try.func36 (by kernel_rfl) rfl #[.int .i64 6, .pointer (some ⟨pb, 0, none⟩), .pointer (some ⟨pa, 0, none⟩)] (by rfl) rfl rfl (by rfl) (by simp [Act.eval]) ?_
            with_reducible refine (next_step k pb pa _ _ l0 0 6 t1 _ 6 _ HPB.out HPA.out (Kd.C_below HR.out HB.out) HC0.out HN1.out (by unfold wrap64; omega)).mono ?_
            rintro e wn ⟨rfl, h1, h2, hg⟩
            refine ⟨_, rfl, ?_⟩
            have n0_ := Aside0.mk (HB.out.grown hg HB.out.size (fun _ e => by injection e with e; subst e; exact HPG.out))
            have n1_ := Aside0.mk (blk_grown BK.out hg (by intro e; injection e with e; exact blk_ne BK.out HPA.out (by decide) e))
            have n2_ := Aside0.mk (h1)
            have n3_ := Aside0.mk (h2)
            clear HB BK HPB HPA
            have HB := n0_
            have BK := n1_
            have HPB := n2_
            have HPA := n3_
            clear n0_ n1_ n2_ n3_
            clear h1 h2 hg
            refine hK.out _ _ trivial (fun hHeld => ?_)
            clear hK K
            refine norm_ (a' := ?_) ?_ ?_
            rotate_left
            · show Act.put _ (some 19) _ = _
              simp only [Act.put, List.setIfInBounds_toArray, List.set_cons_zero, List.set_cons_succ, i64_w, i32_w]
              rfl
            refine two_ (i := 3) (j := 11) (Ni := some 21) (Nj := some 5) #[true, true, true, true, true, false, false, true, true, false, false, false, false] #[true, true, true, false, true, false, false, true, true, false, false, true, false] rfl rfl rfl rfl (by kernel_rfl) (by decide) (by decide) (fun K hK => ?_) (fun K hK => ?_)
            · skip
              refine goesC_ Try.func36 (by kernel_rfl) rfl #[.int .i64 6, .pointer (some ⟨pb, 0, none⟩), .pointer (some ⟨pa, 0, none⟩)] (by rfl) rfl rfl (by rfl) (by simp [Act.eval]) ?_
              with_reducible refine (next_step k pb pa _ _ l0 6 6 t2 _ 12 _ HPB.out HPA.out (Kd.C_below HR.out HB.out) HC0.out HN2.out (by unfold wrap64; omega)).mono ?_
              rintro e wn ⟨rfl, h1, h2, hg⟩
              refine ⟨_, rfl, ?_⟩
              have n0_ := Aside0.mk (HB.out.grown hg HB.out.size (fun _ e => by injection e with e; subst e; exact HPG.out))
              have n1_ := Aside0.mk (blk_grown BK.out hg (by intro e; injection e with e; exact blk_ne BK.out HPA.out (by decide) e))
              have n2_ := Aside0.mk (h1)
              have n3_ := Aside0.mk (h2)
              clear HB BK HPB HPA
              have HB := n0_
              have BK := n1_
              have HPB := n2_
              have HPA := n3_
              clear n0_ n1_ n2_ n3_
              clear h1 h2 hg
              refine hK.out _ _ trivial (fun hHeld => ?_)
              clear hK K
              refine norm_ (a' := ?_) ?_ ?_
              rotate_left
              · show Act.put _ (some 21) _ = _
                simp only [Act.put, List.setIfInBounds_toArray, List.set_cons_zero, List.set_cons_succ, i64_w, i32_w]
                rfl
              refine two_ (i := 5) (j := 11) (Ni := some 23) (Nj := some 5) #[true, true, true, true, true, true, false, true, true, false, false, false, false] #[true, true, true, true, true, false, false, true, true, false, false, true, false] rfl rfl rfl rfl (by kernel_rfl) (by decide) (by decide) (fun K hK => ?_) (fun K hK => ?_)
              · skip
                refine goesC_ Try.func36 (by kernel_rfl) rfl #[.int .i64 2, .pointer (some ⟨pb, 0, none⟩), .pointer (some ⟨pa, 0, none⟩)] (by rfl) rfl rfl (by rfl) (by simp [Act.eval]) ?_
                with_reducible refine (next_step k pb pa _ _ l0 12 2 t3 _ 14 _ HPB.out HPA.out (Kd.C_below HR.out HB.out) HC0.out HN3.out (by unfold wrap64; omega)).mono ?_
                rintro e wn ⟨rfl, h1, h2, hg⟩
                refine ⟨_, rfl, ?_⟩
                have n0_ := Aside0.mk (HB.out.grown hg HB.out.size (fun _ e => by injection e with e; subst e; exact HPG.out))
                have n1_ := Aside0.mk (blk_grown BK.out hg (by intro e; injection e with e; exact blk_ne BK.out HPA.out (by decide) e))
                have n2_ := Aside0.mk (h1)
                have n3_ := Aside0.mk (h2)
                clear HB BK HPB HPA
                have HB := n0_
                have BK := n1_
                have HPB := n2_
                have HPA := n3_
                clear n0_ n1_ n2_ n3_
                clear h1 h2 hg
                refine hK.out _ _ trivial (fun hHeld => ?_)
                clear hK K
                refine norm_ (a' := ?_) ?_ ?_
                rotate_left
                · show Act.put _ (some 23) _ = _
                  simp only [Act.put, List.setIfInBounds_toArray, List.set_cons_zero, List.set_cons_succ, i64_w, i32_w]
                  rfl
                refine pure_ (i := 6) (N := some 24) (v := ?_) (a' := ?_) #[true, true, true, true, true, true, true, true, true, false, false, false, false] rfl rfl (by kernel_rfl) (fun _ _ _ h => h) (Or.inl ⟨by rfl, ?_⟩) ?_ ?_
                rotate_left
                · intro w'
                  go_simp
                  with_reducible rfl
                rotate_left
                · simp only [Act.put, List.setIfInBounds_toArray, List.set_cons_zero, List.set_cons_succ, i64_w, i32_w]
                  rfl
                refine two_ (i := 9) (j := 11) (Ni := some 27) (Nj := some 5) #[true, true, true, true, true, true, true, true, true, true, false, false, false] #[true, true, true, true, true, true, true, true, true, false, false, true, false] rfl rfl rfl rfl (by kernel_rfl) (by decide) (by decide) (fun K hK => ?_) (fun K hK => ?_)
                · skip
                  refine goes_ Try.func29 (by kernel_rfl) rfl #[.slice A14 y14.length c14] (by rfl) rfl rfl (by (try simp only [List.map_toArray, List.map_cons, List.map_nil]); first | done | rfl) ?_
                  with_reducible refine (slices_Clone_byte_byte.calls _ _ y14 y14 _ (Kd.C_below HR14.out HB.out) HC14.out HCL.out).mono ?_
                  rintro e wc ⟨vb, rfl, hv, hb⟩
                  obtain ⟨Av, cv, ev⟩ := Kd.R_slice hv
                  subst ev
                  refine ⟨_, rfl, ?_⟩
                  have n0_ := Aside0.mk (Kd.R_lower hv HB.out.size)
                  have n1_ := Aside0.mk (blk_below BK.out hb)
                  have n2_ := Aside0.mk (blk_below HPB.out hb)
                  have n3_ := Aside0.mk (blk_below HPA.out hb)
                  have n4_ := Aside0.mk (HB.out.trans (hb.mono HB.out.size))
                  clear BK HPB HPA HB
                  have VR := n0_
                  have BK := n1_
                  have HPB := n2_
                  have HPA := n3_
                  have HB := n4_
                  clear n0_ n1_ n2_ n3_ n4_
                  clear hv hb
                  refine hK.out _ _ trivial (fun hHeld => ?_)
                  clear hK K
                  refine norm_ (a' := ?_) ?_ ?_
                  rotate_left
                  · show Act.put _ (some 27) _ = _
                    simp only [Act.put, List.setIfInBounds_toArray, List.set_cons_zero, List.set_cons_succ, i64_w, i32_w]
                    rfl
                  refine pure_ (i := 10) (N := some 28) (v := ?_) (a' := ?_) #[true, true, true, true, true, true, true, true, true, true, true, false, false] rfl rfl (by kernel_rfl) (fun _ _ _ h => h) (Or.inl ⟨by rfl, ?_⟩) ?_ ?_
                  rotate_left
                  · intro w'
                    go_simp
                    with_reducible rfl
                  rotate_left
                  · simp only [Act.put, List.setIfInBounds_toArray, List.set_cons_zero, List.set_cons_succ, i64_w, i32_w]
                    rfl
                  refine one_ (i := 11) (N := some 5) #[true, true, true, true, true, true, true, true, true, true, true, true, false] rfl rfl (by kernel_rfl) (by decide) (fun K hK => ?_)
                  refine boxR_ (cs := #[.int .u64 0, .int .u64 0, .int .u16 0, .slice none 0 0]) (t := 26) (by rfl) rfl (by first | (go_simp; done) | (go_simp; rfl)) ?_
                  intro ga wa hgg hbox hb
                  have n0_ := Aside0.mk (show w.heap.size ≤ ga by rw [hgg]; exact HB.out.size)
                  have n1_ := Aside0.mk (show gb ≠ ga by have := blk_lt BK.out; omega)
                  have n2_ := Aside0.mk (hbox)
                  have n3_ := Aside0.mk (blk_below BK.out hb)
                  have n4_ := Aside0.mk (blk_below HPB.out hb)
                  have n5_ := Aside0.mk (blk_below HPA.out hb)
                  have n6_ := Aside0.mk (Kd.R_below VR.out hb)
                  have n7_ := Aside0.mk (HB.out.trans (hb.mono HB.out.size))
                  clear BK HPB HPA VR HB
                  have HGA := n0_
                  have HNE := n1_
                  have BA := n2_
                  have BK := n3_
                  have HPB := n4_
                  have HPA := n5_
                  have VR := n6_
                  have HB := n7_
                  clear n0_ n1_ n2_ n3_ n4_ n5_ n6_ n7_
                  clear hgg hbox hb
                  refine hK.out _ _ trivial (fun hHeld => ?_)
                  clear hK K
                  refine norm_ (a' := ?_) ?_ ?_
                  rotate_left
                  · show Act.put _ (some 5) _ = _
                    simp only [Act.put, List.setIfInBounds_toArray, List.set_cons_zero, List.set_cons_succ, i64_w, i32_w]
                    rfl
                  exact norm_ (by simp only [putAll, Act.put, List.setIfInBounds_toArray, List.set_cons_zero, List.set_cons_succ]) (hCont (ga, Av, cv) _ ⟨HGA.out, HNE.out, BA.out, BK.out, VR.out, HB.out⟩)
                · skip
                  refine boxR_ (cs := #[.int .u64 0, .int .u64 0, .int .u16 0, .slice none 0 0]) (t := 26) (by rfl) rfl (by first | (go_simp; done) | (go_simp; rfl)) ?_
                  intro ga wa hgg hbox hb
                  have n0_ := Aside0.mk (show w.heap.size ≤ ga by rw [hgg]; exact HB.out.size)
                  have n1_ := Aside0.mk (show gb ≠ ga by have := blk_lt BK.out; omega)
                  have n2_ := Aside0.mk (hbox)
                  have n3_ := Aside0.mk (blk_below BK.out hb)
                  have n4_ := Aside0.mk (blk_below HPB.out hb)
                  have n5_ := Aside0.mk (blk_below HPA.out hb)
                  have n6_ := Aside0.mk (HB.out.trans (hb.mono HB.out.size))
                  clear BK HPB HPA HB
                  have HGA := n0_
                  have HNE := n1_
                  have BA := n2_
                  have BK := n3_
                  have HPB := n4_
                  have HPA := n5_
                  have HB := n6_
                  clear n0_ n1_ n2_ n3_ n4_ n5_ n6_
                  clear hgg hbox hb
                  refine hK.out _ _ trivial (fun hHeld => ?_)
                  clear hK K
                  refine norm_ (a' := ?_) ?_ ?_
                  rotate_left
                  · show Act.put _ (some 5) _ = _
                    simp only [Act.put, List.setIfInBounds_toArray, List.set_cons_zero, List.set_cons_succ, i64_w, i32_w]
                    rfl
                  refine one_ (i := 9) (N := some 27) #[true, true, true, true, true, true, true, true, true, true, false, true, false] rfl rfl (by kernel_rfl) (by decide) (fun K hK => ?_)
                  refine goes_ Try.func29 (by kernel_rfl) rfl #[.slice A14 y14.length c14] (by rfl) rfl rfl (by (try simp only [List.map_toArray, List.map_cons, List.map_nil]); first | done | rfl) ?_
                  with_reducible refine (slices_Clone_byte_byte.calls _ _ y14 y14 _ (Kd.C_below HR14.out HB.out) HC14.out HCL.out).mono ?_
                  rintro e wc ⟨vb, rfl, hv, hb⟩
                  obtain ⟨Av, cv, ev⟩ := Kd.R_slice hv
                  subst ev
                  refine ⟨_, rfl, ?_⟩
                  have n0_ := Aside0.mk (Kd.R_lower hv HB.out.size)
                  have n1_ := Aside0.mk (blk_below BK.out hb)
                  have n2_ := Aside0.mk (blk_below HPB.out hb)
                  have n3_ := Aside0.mk (blk_below HPA.out hb)
                  have n4_ := Aside0.mk (blk_below BA.out hb)
                  have n5_ := Aside0.mk (HB.out.trans (hb.mono HB.out.size))
                  clear BK HPB HPA BA HB
                  have VR := n0_
                  have BK := n1_
                  have HPB := n2_
                  have HPA := n3_
                  have BA := n4_
                  have HB := n5_
                  clear n0_ n1_ n2_ n3_ n4_ n5_
                  clear hv hb
                  refine hK.out _ _ trivial (fun hHeld => ?_)
                  clear hK K
                  refine norm_ (a' := ?_) ?_ ?_
                  rotate_left
                  · show Act.put _ (some 27) _ = _
                    simp only [Act.put, List.setIfInBounds_toArray, List.set_cons_zero, List.set_cons_succ, i64_w, i32_w]
                    rfl
                  refine pure_ (i := 10) (N := some 28) (v := ?_) (a' := ?_) #[true, true, true, true, true, true, true, true, true, true, true, true, false] rfl rfl (by kernel_rfl) (fun _ _ _ h => h) (Or.inl ⟨by rfl, ?_⟩) ?_ ?_
                  rotate_left
                  · intro w'
                    go_simp
                    with_reducible rfl
                  rotate_left
                  · simp only [Act.put, List.setIfInBounds_toArray, List.set_cons_zero, List.set_cons_succ, i64_w, i32_w]
                    rfl
                  exact norm_ (by simp only [putAll, Act.put, List.setIfInBounds_toArray, List.set_cons_zero, List.set_cons_succ]) (hCont (ga, Av, cv) _ ⟨HGA.out, HNE.out, BA.out, BK.out, VR.out, HB.out⟩)
              · skip
                refine boxR_ (cs := #[.int .u64 0, .int .u64 0, .int .u16 0, .slice none 0 0]) (t := 26) (by rfl) rfl (by first | (go_simp; done) | (go_simp; rfl)) ?_
                intro ga wa hgg hbox hb
                have n0_ := Aside0.mk (show w.heap.size ≤ ga by rw [hgg]; exact HB.out.size)
                have n1_ := Aside0.mk (show gb ≠ ga by have := blk_lt BK.out; omega)
                have n2_ := Aside0.mk (hbox)
                have n3_ := Aside0.mk (blk_below BK.out hb)
                have n4_ := Aside0.mk (blk_below HPB.out hb)
                have n5_ := Aside0.mk (blk_below HPA.out hb)
                have n6_ := Aside0.mk (HB.out.trans (hb.mono HB.out.size))
                clear BK HPB HPA HB
                have HGA := n0_
                have HNE := n1_
                have BA := n2_
                have BK := n3_
                have HPB := n4_
                have HPA := n5_
                have HB := n6_
                clear n0_ n1_ n2_ n3_ n4_ n5_ n6_
                clear hgg hbox hb
                refine hK.out _ _ trivial (fun hHeld => ?_)
                clear hK K
                refine norm_ (a' := ?_) ?_ ?_
                rotate_left
                · show Act.put _ (some 5) _ = _
                  simp only [Act.put, List.setIfInBounds_toArray, List.set_cons_zero, List.set_cons_succ, i64_w, i32_w]
                  rfl
                refine one_ (i := 5) (N := some 23) #[true, true, true, true, true, true, false, true, true, false, false, true, false] rfl rfl (by kernel_rfl) (by decide) (fun K hK => ?_)
                refine goesC_ Try.func36 (by kernel_rfl) rfl #[.int .i64 2, .pointer (some ⟨pb, 0, none⟩), .pointer (some ⟨pa, 0, none⟩)] (by rfl) rfl rfl (by rfl) (by simp [Act.eval]) ?_
                with_reducible refine (next_step k pb pa _ _ l0 12 2 t3 _ 14 _ HPB.out HPA.out (Kd.C_below HR.out HB.out) HC0.out HN3.out (by unfold wrap64; omega)).mono ?_
                rintro e wn ⟨rfl, h1, h2, hg⟩
                refine ⟨_, rfl, ?_⟩
                have n0_ := Aside0.mk (HB.out.grown hg HB.out.size (fun _ e => by injection e with e; subst e; exact HPG.out))
                have n1_ := Aside0.mk (blk_grown BK.out hg (by intro e; injection e with e; exact blk_ne BK.out HPA.out (by decide) e))
                have n2_ := Aside0.mk (blk_grown BA.out hg (by intro e; injection e with e; exact blk_ne BA.out HPA.out (by decide) e))
                have n3_ := Aside0.mk (h1)
                have n4_ := Aside0.mk (h2)
                clear HB BK BA HPB HPA
                have HB := n0_
                have BK := n1_
                have BA := n2_
                have HPB := n3_
                have HPA := n4_
                clear n0_ n1_ n2_ n3_ n4_
                clear h1 h2 hg
                refine hK.out _ _ trivial (fun hHeld => ?_)
                clear hK K
                refine norm_ (a' := ?_) ?_ ?_
                rotate_left
                · show Act.put _ (some 23) _ = _
                  simp only [Act.put, List.setIfInBounds_toArray, List.set_cons_zero, List.set_cons_succ, i64_w, i32_w]
                  rfl
                refine pure_ (i := 6) (N := some 24) (v := ?_) (a' := ?_) #[true, true, true, true, true, true, true, true, true, false, false, true, false] rfl rfl (by kernel_rfl) (fun _ _ _ h => h) (Or.inl ⟨by rfl, ?_⟩) ?_ ?_
                rotate_left
                · intro w'
                  go_simp
                  with_reducible rfl
                rotate_left
                · simp only [Act.put, List.setIfInBounds_toArray, List.set_cons_zero, List.set_cons_succ, i64_w, i32_w]
                  rfl
                refine one_ (i := 9) (N := some 27) #[true, true, true, true, true, true, true, true, true, true, false, true, false] rfl rfl (by kernel_rfl) (by decide) (fun K hK => ?_)
                refine goes_ Try.func29 (by kernel_rfl) rfl #[.slice A14 y14.length c14] (by rfl) rfl rfl (by (try simp only [List.map_toArray, List.map_cons, List.map_nil]); first | done | rfl) ?_
                with_reducible refine (slices_Clone_byte_byte.calls _ _ y14 y14 _ (Kd.C_below HR14.out HB.out) HC14.out HCL.out).mono ?_
                rintro e wc ⟨vb, rfl, hv, hb⟩
                obtain ⟨Av, cv, ev⟩ := Kd.R_slice hv
                subst ev
                refine ⟨_, rfl, ?_⟩
                have n0_ := Aside0.mk (Kd.R_lower hv HB.out.size)
                have n1_ := Aside0.mk (blk_below BK.out hb)
                have n2_ := Aside0.mk (blk_below HPB.out hb)
                have n3_ := Aside0.mk (blk_below HPA.out hb)
                have n4_ := Aside0.mk (blk_below BA.out hb)
                have n5_ := Aside0.mk (HB.out.trans (hb.mono HB.out.size))
                clear BK HPB HPA BA HB
                have VR := n0_
                have BK := n1_
                have HPB := n2_
                have HPA := n3_
                have BA := n4_
                have HB := n5_
                clear n0_ n1_ n2_ n3_ n4_ n5_
                clear hv hb
                refine hK.out _ _ trivial (fun hHeld => ?_)
                clear hK K
                refine norm_ (a' := ?_) ?_ ?_
                rotate_left
                · show Act.put _ (some 27) _ = _
                  simp only [Act.put, List.setIfInBounds_toArray, List.set_cons_zero, List.set_cons_succ, i64_w, i32_w]
                  rfl
                refine pure_ (i := 10) (N := some 28) (v := ?_) (a' := ?_) #[true, true, true, true, true, true, true, true, true, true, true, true, false] rfl rfl (by kernel_rfl) (fun _ _ _ h => h) (Or.inl ⟨by rfl, ?_⟩) ?_ ?_
                rotate_left
                · intro w'
                  go_simp
                  with_reducible rfl
                rotate_left
                · simp only [Act.put, List.setIfInBounds_toArray, List.set_cons_zero, List.set_cons_succ, i64_w, i32_w]
                  rfl
                exact norm_ (by simp only [putAll, Act.put, List.setIfInBounds_toArray, List.set_cons_zero, List.set_cons_succ]) (hCont (ga, Av, cv) _ ⟨HGA.out, HNE.out, BA.out, BK.out, VR.out, HB.out⟩)
            · skip
              refine boxR_ (cs := #[.int .u64 0, .int .u64 0, .int .u16 0, .slice none 0 0]) (t := 26) (by rfl) rfl (by first | (go_simp; done) | (go_simp; rfl)) ?_
              intro ga wa hgg hbox hb
              have n0_ := Aside0.mk (show w.heap.size ≤ ga by rw [hgg]; exact HB.out.size)
              have n1_ := Aside0.mk (show gb ≠ ga by have := blk_lt BK.out; omega)
              have n2_ := Aside0.mk (hbox)
              have n3_ := Aside0.mk (blk_below BK.out hb)
              have n4_ := Aside0.mk (blk_below HPB.out hb)
              have n5_ := Aside0.mk (blk_below HPA.out hb)
              have n6_ := Aside0.mk (HB.out.trans (hb.mono HB.out.size))
              clear BK HPB HPA HB
              have HGA := n0_
              have HNE := n1_
              have BA := n2_
              have BK := n3_
              have HPB := n4_
              have HPA := n5_
              have HB := n6_
              clear n0_ n1_ n2_ n3_ n4_ n5_ n6_
              clear hgg hbox hb
              refine hK.out _ _ trivial (fun hHeld => ?_)
              clear hK K
              refine norm_ (a' := ?_) ?_ ?_
              rotate_left
              · show Act.put _ (some 5) _ = _
                simp only [Act.put, List.setIfInBounds_toArray, List.set_cons_zero, List.set_cons_succ, i64_w, i32_w]
                rfl
              refine one_ (i := 3) (N := some 21) #[true, true, true, true, true, false, false, true, true, false, false, true, false] rfl rfl (by kernel_rfl) (by decide) (fun K hK => ?_)
              refine goesC_ Try.func36 (by kernel_rfl) rfl #[.int .i64 6, .pointer (some ⟨pb, 0, none⟩), .pointer (some ⟨pa, 0, none⟩)] (by rfl) rfl rfl (by rfl) (by simp [Act.eval]) ?_
              with_reducible refine (next_step k pb pa _ _ l0 6 6 t2 _ 12 _ HPB.out HPA.out (Kd.C_below HR.out HB.out) HC0.out HN2.out (by unfold wrap64; omega)).mono ?_
              rintro e wn ⟨rfl, h1, h2, hg⟩
              refine ⟨_, rfl, ?_⟩
              have n0_ := Aside0.mk (HB.out.grown hg HB.out.size (fun _ e => by injection e with e; subst e; exact HPG.out))
              have n1_ := Aside0.mk (blk_grown BK.out hg (by intro e; injection e with e; exact blk_ne BK.out HPA.out (by decide) e))
              have n2_ := Aside0.mk (blk_grown BA.out hg (by intro e; injection e with e; exact blk_ne BA.out HPA.out (by decide) e))
              have n3_ := Aside0.mk (h1)
              have n4_ := Aside0.mk (h2)
              clear HB BK BA HPB HPA
              have HB := n0_
              have BK := n1_
              have BA := n2_
              have HPB := n3_
              have HPA := n4_
              clear n0_ n1_ n2_ n3_ n4_
              clear h1 h2 hg
              refine hK.out _ _ trivial (fun hHeld => ?_)
              clear hK K
              refine norm_ (a' := ?_) ?_ ?_
              rotate_left
              · show Act.put _ (some 21) _ = _
                simp only [Act.put, List.setIfInBounds_toArray, List.set_cons_zero, List.set_cons_succ, i64_w, i32_w]
                rfl
              refine one_ (i := 5) (N := some 23) #[true, true, true, true, true, true, false, true, true, false, false, true, false] rfl rfl (by kernel_rfl) (by decide) (fun K hK => ?_)
              refine goesC_ Try.func36 (by kernel_rfl) rfl #[.int .i64 2, .pointer (some ⟨pb, 0, none⟩), .pointer (some ⟨pa, 0, none⟩)] (by rfl) rfl rfl (by rfl) (by simp [Act.eval]) ?_
              with_reducible refine (next_step k pb pa _ _ l0 12 2 t3 _ 14 _ HPB.out HPA.out (Kd.C_below HR.out HB.out) HC0.out HN3.out (by unfold wrap64; omega)).mono ?_
              rintro e wn ⟨rfl, h1, h2, hg⟩
              refine ⟨_, rfl, ?_⟩
              have n0_ := Aside0.mk (HB.out.grown hg HB.out.size (fun _ e => by injection e with e; subst e; exact HPG.out))
              have n1_ := Aside0.mk (blk_grown BK.out hg (by intro e; injection e with e; exact blk_ne BK.out HPA.out (by decide) e))
              have n2_ := Aside0.mk (blk_grown BA.out hg (by intro e; injection e with e; exact blk_ne BA.out HPA.out (by decide) e))
              have n3_ := Aside0.mk (h1)
              have n4_ := Aside0.mk (h2)
              clear HB BK BA HPB HPA
              have HB := n0_
              have BK := n1_
              have BA := n2_
              have HPB := n3_
              have HPA := n4_
              clear n0_ n1_ n2_ n3_ n4_
              clear h1 h2 hg
              refine hK.out _ _ trivial (fun hHeld => ?_)
              clear hK K
              refine norm_ (a' := ?_) ?_ ?_
              rotate_left
              · show Act.put _ (some 23) _ = _
                simp only [Act.put, List.setIfInBounds_toArray, List.set_cons_zero, List.set_cons_succ, i64_w, i32_w]
                rfl
              refine pure_ (i := 6) (N := some 24) (v := ?_) (a' := ?_) #[true, true, true, true, true, true, true, true, true, false, false, true, false] rfl rfl (by kernel_rfl) (fun _ _ _ h => h) (Or.inl ⟨by rfl, ?_⟩) ?_ ?_
              rotate_left
              · intro w'
                go_simp
                with_reducible rfl
              rotate_left
              · simp only [Act.put, List.setIfInBounds_toArray, List.set_cons_zero, List.set_cons_succ, i64_w, i32_w]
                rfl
              refine one_ (i := 9) (N := some 27) #[true, true, true, true, true, true, true, true, true, true, false, true, false] rfl rfl (by kernel_rfl) (by decide) (fun K hK => ?_)
              refine goes_ Try.func29 (by kernel_rfl) rfl #[.slice A14 y14.length c14] (by rfl) rfl rfl (by (try simp only [List.map_toArray, List.map_cons, List.map_nil]); first | done | rfl) ?_
              with_reducible refine (slices_Clone_byte_byte.calls _ _ y14 y14 _ (Kd.C_below HR14.out HB.out) HC14.out HCL.out).mono ?_
              rintro e wc ⟨vb, rfl, hv, hb⟩
              obtain ⟨Av, cv, ev⟩ := Kd.R_slice hv
              subst ev
              refine ⟨_, rfl, ?_⟩
              have n0_ := Aside0.mk (Kd.R_lower hv HB.out.size)
              have n1_ := Aside0.mk (blk_below BK.out hb)
              have n2_ := Aside0.mk (blk_below HPB.out hb)
              have n3_ := Aside0.mk (blk_below HPA.out hb)
              have n4_ := Aside0.mk (blk_below BA.out hb)
              have n5_ := Aside0.mk (HB.out.trans (hb.mono HB.out.size))
              clear BK HPB HPA BA HB
              have VR := n0_
              have BK := n1_
              have HPB := n2_
              have HPA := n3_
              have BA := n4_
              have HB := n5_
              clear n0_ n1_ n2_ n3_ n4_ n5_
              clear hv hb
              refine hK.out _ _ trivial (fun hHeld => ?_)
              clear hK K
              refine norm_ (a' := ?_) ?_ ?_
              rotate_left
              · show Act.put _ (some 27) _ = _
                simp only [Act.put, List.setIfInBounds_toArray, List.set_cons_zero, List.set_cons_succ, i64_w, i32_w]
                rfl
              refine pure_ (i := 10) (N := some 28) (v := ?_) (a' := ?_) #[true, true, true, true, true, true, true, true, true, true, true, true, false] rfl rfl (by kernel_rfl) (fun _ _ _ h => h) (Or.inl ⟨by rfl, ?_⟩) ?_ ?_
              rotate_left
              · intro w'
                go_simp
                with_reducible rfl
              rotate_left
              · simp only [Act.put, List.setIfInBounds_toArray, List.set_cons_zero, List.set_cons_succ, i64_w, i32_w]
                rfl
              exact norm_ (by simp only [putAll, Act.put, List.setIfInBounds_toArray, List.set_cons_zero, List.set_cons_succ]) (hCont (ga, Av, cv) _ ⟨HGA.out, HNE.out, BA.out, BK.out, VR.out, HB.out⟩)
          · skip
            refine boxR_ (cs := #[.int .u64 0, .int .u64 0, .int .u16 0, .slice none 0 0]) (t := 26) (by rfl) rfl (by first | (go_simp; done) | (go_simp; rfl)) ?_
            intro ga wa hgg hbox hb
            have n0_ := Aside0.mk (show w.heap.size ≤ ga by rw [hgg]; exact HB.out.size)
            have n1_ := Aside0.mk (show gb ≠ ga by have := blk_lt BK.out; omega)
            have n2_ := Aside0.mk (hbox)
            have n3_ := Aside0.mk (blk_below BK.out hb)
            have n4_ := Aside0.mk (blk_below HPB.out hb)
            have n5_ := Aside0.mk (blk_below HPA.out hb)
            have n6_ := Aside0.mk (HB.out.trans (hb.mono HB.out.size))
            clear BK HPB HPA HB
            have HGA := n0_
            have HNE := n1_
            have BA := n2_
            have BK := n3_
            have HPB := n4_
            have HPA := n5_
            have HB := n6_
            clear n0_ n1_ n2_ n3_ n4_ n5_ n6_
            clear hgg hbox hb
            refine hK.out _ _ trivial (fun hHeld => ?_)
            clear hK K
            refine norm_ (a' := ?_) ?_ ?_
            rotate_left
            · show Act.put _ (some 5) _ = _
              simp only [Act.put, List.setIfInBounds_toArray, List.set_cons_zero, List.set_cons_succ, i64_w, i32_w]
              rfl
            refine one_ (i := 1) (N := some 19) #[true, true, true, false, true, false, false, true, true, false, false, true, false] rfl rfl (by kernel_rfl) (by decide) (fun K hK => ?_)
            refine goesC_ Try.func36 (by kernel_rfl) rfl #[.int .i64 6, .pointer (some ⟨pb, 0, none⟩), .pointer (some ⟨pa, 0, none⟩)] (by rfl) rfl rfl (by rfl) (by simp [Act.eval]) ?_
            with_reducible refine (next_step k pb pa _ _ l0 0 6 t1 _ 6 _ HPB.out HPA.out (Kd.C_below HR.out HB.out) HC0.out HN1.out (by unfold wrap64; omega)).mono ?_
            rintro e wn ⟨rfl, h1, h2, hg⟩
            refine ⟨_, rfl, ?_⟩
            have n0_ := Aside0.mk (HB.out.grown hg HB.out.size (fun _ e => by injection e with e; subst e; exact HPG.out))
            have n1_ := Aside0.mk (blk_grown BK.out hg (by intro e; injection e with e; exact blk_ne BK.out HPA.out (by decide) e))
            have n2_ := Aside0.mk (blk_grown BA.out hg (by intro e; injection e with e; exact blk_ne BA.out HPA.out (by decide) e))
            have n3_ := Aside0.mk (h1)
            have n4_ := Aside0.mk (h2)
            clear HB BK BA HPB HPA
            have HB := n0_
            have BK := n1_
            have BA := n2_
            have HPB := n3_
            have HPA := n4_
            clear n0_ n1_ n2_ n3_ n4_
            clear h1 h2 hg
            refine hK.out _ _ trivial (fun hHeld => ?_)
            clear hK K
            refine norm_ (a' := ?_) ?_ ?_
            rotate_left
            · show Act.put _ (some 19) _ = _
              simp only [Act.put, List.setIfInBounds_toArray, List.set_cons_zero, List.set_cons_succ, i64_w, i32_w]
              rfl
            refine one_ (i := 3) (N := some 21) #[true, true, true, true, true, false, false, true, true, false, false, true, false] rfl rfl (by kernel_rfl) (by decide) (fun K hK => ?_)
            refine goesC_ Try.func36 (by kernel_rfl) rfl #[.int .i64 6, .pointer (some ⟨pb, 0, none⟩), .pointer (some ⟨pa, 0, none⟩)] (by rfl) rfl rfl (by rfl) (by simp [Act.eval]) ?_
            with_reducible refine (next_step k pb pa _ _ l0 6 6 t2 _ 12 _ HPB.out HPA.out (Kd.C_below HR.out HB.out) HC0.out HN2.out (by unfold wrap64; omega)).mono ?_
            rintro e wn ⟨rfl, h1, h2, hg⟩
            refine ⟨_, rfl, ?_⟩
            have n0_ := Aside0.mk (HB.out.grown hg HB.out.size (fun _ e => by injection e with e; subst e; exact HPG.out))
            have n1_ := Aside0.mk (blk_grown BK.out hg (by intro e; injection e with e; exact blk_ne BK.out HPA.out (by decide) e))
            have n2_ := Aside0.mk (blk_grown BA.out hg (by intro e; injection e with e; exact blk_ne BA.out HPA.out (by decide) e))
            have n3_ := Aside0.mk (h1)
            have n4_ := Aside0.mk (h2)
            clear HB BK BA HPB HPA
            have HB := n0_
            have BK := n1_
            have BA := n2_
            have HPB := n3_
            have HPA := n4_
            clear n0_ n1_ n2_ n3_ n4_
            clear h1 h2 hg
            refine hK.out _ _ trivial (fun hHeld => ?_)
            clear hK K
            refine norm_ (a' := ?_) ?_ ?_
            rotate_left
            · show Act.put _ (some 21) _ = _
              simp only [Act.put, List.setIfInBounds_toArray, List.set_cons_zero, List.set_cons_succ, i64_w, i32_w]
              rfl
            refine one_ (i := 5) (N := some 23) #[true, true, true, true, true, true, false, true, true, false, false, true, false] rfl rfl (by kernel_rfl) (by decide) (fun K hK => ?_)
            refine goesC_ Try.func36 (by kernel_rfl) rfl #[.int .i64 2, .pointer (some ⟨pb, 0, none⟩), .pointer (some ⟨pa, 0, none⟩)] (by rfl) rfl rfl (by rfl) (by simp [Act.eval]) ?_
            with_reducible refine (next_step k pb pa _ _ l0 12 2 t3 _ 14 _ HPB.out HPA.out (Kd.C_below HR.out HB.out) HC0.out HN3.out (by unfold wrap64; omega)).mono ?_
            rintro e wn ⟨rfl, h1, h2, hg⟩
            refine ⟨_, rfl, ?_⟩
            have n0_ := Aside0.mk (HB.out.grown hg HB.out.size (fun _ e => by injection e with e; subst e; exact HPG.out))
            have n1_ := Aside0.mk (blk_grown BK.out hg (by intro e; injection e with e; exact blk_ne BK.out HPA.out (by decide) e))
            have n2_ := Aside0.mk (blk_grown BA.out hg (by intro e; injection e with e; exact blk_ne BA.out HPA.out (by decide) e))
            have n3_ := Aside0.mk (h1)
            have n4_ := Aside0.mk (h2)
            clear HB BK BA HPB HPA
            have HB := n0_
            have BK := n1_
            have BA := n2_
            have HPB := n3_
            have HPA := n4_
            clear n0_ n1_ n2_ n3_ n4_
            clear h1 h2 hg
            refine hK.out _ _ trivial (fun hHeld => ?_)
            clear hK K
            refine norm_ (a' := ?_) ?_ ?_
            rotate_left
            · show Act.put _ (some 23) _ = _
              simp only [Act.put, List.setIfInBounds_toArray, List.set_cons_zero, List.set_cons_succ, i64_w, i32_w]
              rfl
            refine pure_ (i := 6) (N := some 24) (v := ?_) (a' := ?_) #[true, true, true, true, true, true, true, true, true, false, false, true, false] rfl rfl (by kernel_rfl) (fun _ _ _ h => h) (Or.inl ⟨by rfl, ?_⟩) ?_ ?_
            rotate_left
            · intro w'
              go_simp
              with_reducible rfl
            rotate_left
            · simp only [Act.put, List.setIfInBounds_toArray, List.set_cons_zero, List.set_cons_succ, i64_w, i32_w]
              rfl
            refine one_ (i := 9) (N := some 27) #[true, true, true, true, true, true, true, true, true, true, false, true, false] rfl rfl (by kernel_rfl) (by decide) (fun K hK => ?_)
            refine goes_ Try.func29 (by kernel_rfl) rfl #[.slice A14 y14.length c14] (by rfl) rfl rfl (by (try simp only [List.map_toArray, List.map_cons, List.map_nil]); first | done | rfl) ?_
            with_reducible refine (slices_Clone_byte_byte.calls _ _ y14 y14 _ (Kd.C_below HR14.out HB.out) HC14.out HCL.out).mono ?_
            rintro e wc ⟨vb, rfl, hv, hb⟩
            obtain ⟨Av, cv, ev⟩ := Kd.R_slice hv
            subst ev
            refine ⟨_, rfl, ?_⟩
            have n0_ := Aside0.mk (Kd.R_lower hv HB.out.size)
            have n1_ := Aside0.mk (blk_below BK.out hb)
            have n2_ := Aside0.mk (blk_below HPB.out hb)
            have n3_ := Aside0.mk (blk_below HPA.out hb)
            have n4_ := Aside0.mk (blk_below BA.out hb)
            have n5_ := Aside0.mk (HB.out.trans (hb.mono HB.out.size))
            clear BK HPB HPA BA HB
            have VR := n0_
            have BK := n1_
            have HPB := n2_
            have HPA := n3_
            have BA := n4_
            have HB := n5_
            clear n0_ n1_ n2_ n3_ n4_ n5_
            clear hv hb
            refine hK.out _ _ trivial (fun hHeld => ?_)
            clear hK K
            refine norm_ (a' := ?_) ?_ ?_
            rotate_left
            · show Act.put _ (some 27) _ = _
              simp only [Act.put, List.setIfInBounds_toArray, List.set_cons_zero, List.set_cons_succ, i64_w, i32_w]
              rfl
            refine pure_ (i := 10) (N := some 28) (v := ?_) (a' := ?_) #[true, true, true, true, true, true, true, true, true, true, true, true, false] rfl rfl (by kernel_rfl) (fun _ _ _ h => h) (Or.inl ⟨by rfl, ?_⟩) ?_ ?_
            rotate_left
            · intro w'
              go_simp
              with_reducible rfl
            rotate_left
            · simp only [Act.put, List.setIfInBounds_toArray, List.set_cons_zero, List.set_cons_succ, i64_w, i32_w]
              rfl
            exact norm_ (by simp only [putAll, Act.put, List.setIfInBounds_toArray, List.set_cons_zero, List.set_cons_succ]) (hCont (ga, Av, cv) _ ⟨HGA.out, HNE.out, BA.out, BK.out, VR.out, HB.out⟩)
        rintro ⟨ga, Av, cv⟩ wj ⟨hga, hne, hba, hbk, hvr, hb⟩
        have hHeld : True := trivial
        have HGA := Aside0.mk hga
        have BA := Aside0.mk hba
        have BK := Aside0.mk hbk
        have VR := Aside0.mk hvr
        have HB := Aside0.mk hb
        have hne1 := hne
        have hne2 := hne.symm
        clear hga hne hba hbk hvr hb
        have hczb_0 : wj.cell? ⟨ga, 0, none⟩ = some (.int .u64 0) := (blk_cell BA.out 0).trans rfl
        have hczb_1 : wj.cell? ⟨ga, 1, none⟩ = some (.int .u64 0) := (blk_cell BA.out 1).trans rfl
        have hczb_2 : wj.cell? ⟨ga, 2, none⟩ = some (.int .u16 0) := (blk_cell BA.out 2).trans rfl
        have hczb_3 : wj.cell? ⟨ga, 3, none⟩ = some (.slice none 0 0) := (blk_cell BA.out 3).trans rfl
        have hfzb_0 := blk_frozen BA.out 0
        have hfzb_1 := blk_frozen BA.out 1
        have hfzb_2 := blk_frozen BA.out 2
        have hfzb_3 := blk_frozen BA.out 3
        refine norm_ (a' := ?_) ?_ ?_
        rotate_left
        · simp only [putAll, Act.put, List.setIfInBounds_toArray, List.set_cons_zero, List.set_cons_succ]
          rfl
        refine one_ (i := 12) (N := none) #[true, true, true, true, true, true, true, true, true, true, true, true, true] rfl rfl (by kernel_rfl) (by decide) (fun K hK => ?_)
        refine skip_ (w1 := ?_) (by rfl) rfl ?_ ?_
        rotate_left
        · go_simp
          rfl
        refine hK.out _ _ trivial (fun hHeld => ?_)
        clear hK K
        refine done_ (by kernel_rfl) ?_
        have hczc_0 : wj.cell? ⟨gb, 0, none⟩ = some (.int .u64 0) := (blk_cell BK.out 0).trans rfl; have hczc_1 : wj.cell? ⟨gb, 1, none⟩ = some (.int .u64 0) := (blk_cell BK.out 1).trans rfl; have hczc_2 : wj.cell? ⟨gb, 2, none⟩ = some (.int .u16 0) := (blk_cell BK.out 2).trans rfl; have hczc_3 : wj.cell? ⟨gb, 3, none⟩ = some (.slice none 0 0) := (blk_cell BK.out 3).trans rfl; have hfzc_0 := blk_frozen BK.out 0; have hfzc_1 := blk_frozen BK.out 1; have hfzc_2 := blk_frozen BK.out 2; have hfzc_3 := blk_frozen BK.out 3
        go_wp2
        refine bodyPost_ret (results_ct rfl _ _ gb 26 #[.int .u64 t1, .int .u64 t2, .int .u16 (IntKind.u16.wrap t3), .slice Av y14.length cv] (0, 0) _ rfl (by refine blk_put (cs := #[.int .u64 t1, .int .u64 t2, .int .u16 (IntKind.u16.wrap t3), .slice none 0 0]) ?_ 3 _ rfl; refine blk_put (cs := #[.int .u64 t1, .int .u64 t2, .int .u16 0, .slice none 0 0]) ?_ 2 _ rfl; refine blk_put (cs := #[.int .u64 t1, .int .u64 0, .int .u16 0, .slice none 0 0]) ?_ 1 _ rfl; refine blk_put (cs := #[.int .u64 0, .int .u64 0, .int .u16 0, .slice none 0 0]) ?_ 0 _ rfl; refine blk_far (p := ⟨ga, 3, none⟩) ?_ hne1 _; refine blk_far (p := ⟨ga, 2, none⟩) ?_ hne1 _; refine blk_far (p := ⟨ga, 1, none⟩) ?_ hne1 _; refine blk_far (p := ⟨ga, 0, none⟩) ?_ hne1 _; exact BK.out) Try.underlying26 rfl (by kernel_rfl)) rfl ?_
        exact ⟨_, rfl, by rw [← HY14.out]; refine Kd.R_mono (ok := fun k => (True ∧ k ≠ ga) ∧ k ≠ gb) ?_ (fun _ _ => trivial); refine Kd.R_far (p := ⟨gb, _, none⟩) ?_ (fun k hk => hk.2) _; refine Kd.R_far (p := ⟨gb, _, none⟩) ?_ (fun k hk => hk.2) _; refine Kd.R_far (p := ⟨gb, _, none⟩) ?_ (fun k hk => hk.2) _; refine Kd.R_far (p := ⟨gb, _, none⟩) ?_ (fun k hk => hk.2) _; refine Kd.R_far (p := ⟨ga, _, none⟩) ?_ (fun k hk => hk.1.2) _; refine Kd.R_far (p := ⟨ga, _, none⟩) ?_ (fun k hk => hk.1.2) _; refine Kd.R_far (p := ⟨ga, _, none⟩) ?_ (fun k hk => hk.1.2) _; refine Kd.R_far (p := ⟨ga, _, none⟩) ?_ (fun k hk => hk.1.2) _; exact Kd.R_types (Kd.R_types VR.out BA.out (by decide)) BK.out (by decide), by refine below_set (g := gb) ?_ HGB.out; refine below_set (g := gb) ?_ HGB.out; refine below_set (g := gb) ?_ HGB.out; refine below_set (g := gb) ?_ HGB.out; refine below_set (g := ga) ?_ HGA.out; refine below_set (g := ga) ?_ HGA.out; refine below_set (g := ga) ?_ HGA.out; refine below_set (g := ga) ?_ HGA.out; exact HB.out⟩
#print axioms ether_Take.calls
end Go.Proofs.Ytnfbbnmdlcmifaa.M
