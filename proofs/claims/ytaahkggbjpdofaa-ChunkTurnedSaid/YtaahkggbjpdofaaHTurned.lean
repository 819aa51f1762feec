/- The law ChunkTurned: what Put puts, up to four bytes of it turned, and what Take tells of it. -/
import Derived.Test.YtaahkggbjpdofaaHCatch
import Derived.Test.YtaahkggbjpdofaaPTurn
import Derived.Test.YtaahkggbjpdofaaM9
import Derived.Test.YtaahkggbjpdofaaM15
import Derived.WalkSpells
import Derived.Deep.RegionWith
namespace Go.Proofs.Ytaahkggbjpdofaa.M
open Go.RowKit Go.Proofs.YtaahkggbjpdofaaW.PrintWords Go.Proofs.YtaahkggbjpdofaaW.PrintLast Go.Proofs.YtaahkggbjpdofaaW.PrintMore
open Go.Proofs.Ytaahkggbjpdofaa.Pure
set_option linter.unusedVariables false
set_option linter.unusedSimpArgs false
/-! The kind of the law's array. -/
structure S45 where
  f0 : Int
  f1 : Int
  f2 : Int
  f3 : Int
  f4 : Int
def k45 : Kd S45 := Kd.iso (Kd.pair (Kd.int .u8) (Kd.pair (Kd.int .u8) (Kd.pair (Kd.int .u8) (Kd.pair (Kd.int .u8) (Kd.int .u8))))) (fun x : S45 => (x.f0, x.f1, x.f2, x.f3, x.f4))
theorem k45_open {w : World} {x : S45} {cs : List Value} (h : k45.K w x cs) : cs = [.int .u8 x.f0, .int .u8 x.f1, .int .u8 x.f2, .int .u8 x.f3, .int .u8 x.f4] := by
  obtain ⟨_, _, rfl, rfl, _, _, rfl, rfl, _, _, rfl, rfl, _, _, rfl, rfl, rfl⟩ := h
  exact rfl
def ok45 (x : S45) : Prop := ((Lit.int .u8 x.f0).wf = true) ∧ ((Lit.int .u8 x.f1).wf = true) ∧ ((Lit.int .u8 x.f2).wf = true) ∧ ((Lit.int .u8 x.f3).wf = true) ∧ ((Lit.int .u8 x.f4).wf = true)
def trunklinelaw12_ChunkTurned.f (k : Nat) (a0_0 a0_1 a0_2 : Int) (l1 : List S29) (b0 b1 b2 b3 b4 : Int) : Option Bool :=
  (chunk_Put.f k a0_0 a0_1 a0_2 l1).bind fun p => (trunklinelaw12_live.f k).bind fun v => if v = true then (if p.2 = 0 then
    (if 12 < p.1.length ∧ p.1.length ≤ 1000000 ∧ 0 ≤ b4 ∧ b4 ≤ 255 then (chunk_Take.f k (turnV (12 + b4.toNat % (p.1.length - 12)) [b0, b1, b2, b3] 0 p.1 false).1).bind fun q =>
      (if (q.2.2.2.2 == 5) = (turnV (12 + b4.toNat % (p.1.length - 12)) [b0, b1, b2, b3] 0 p.1 false).2 ∧ ((q.2.2.2.1.length : Int) == 0) = (turnV (12 + b4.toNat % (p.1.length - 12)) [b0, b1, b2, b3] 0 p.1 false).2 then some true else none) else none) else some true) else none
theorem trunklinelaw12_ChunkTurned.by_cell {w : World} {g : Nat} {b0 b1 b2 b3 b4 : Int} (h : w.heap[g]? = some (.cells #[.int .u8 b0, .int .u8 b1, .int .u8 b2, .int .u8 b3, .int .u8 b4] 45 (0, 0))) (i : Nat) (y : Int) (ys : List Int) (hi : [b0, b1, b2, b3].drop i = y :: ys) : i < 4 ∧ w.cell? ⟨g, i, none⟩ = some (.int .u8 y) := by
  have h4 : i < 4 := by
    by_cases hh : i < 4
    · exact hh
    · rw [List.drop_eq_nil_of_le (by simp; omega)] at hi; cases hi
  refine ⟨h4, ?_⟩
  have hc : i = 0 ∨ i = 1 ∨ i = 2 ∨ i = 3 := by omega
  rcases hc with rfl | rfl | rfl | rfl
  · injection hi with h1 _; subst h1; exact (blk_cell h 0).trans rfl
  · injection hi with h1 _; subst h1; exact (blk_cell h 1).trans rfl
  · injection hi with h1 _; subst h1; exact (blk_cell h 2).trans rfl
  · injection hi with h1 _; subst h1; exact (blk_cell h 3).trans rfl
theorem trunklinelaw12_ChunkTurned.take_at (k : Nat) (A : Option Addr) (c n : Nat) (l : List Int) (r1 r2 r3 : Int) (r4 : List S29) (r5 : Int) (w : World) (hn : l.length = n) (h1 : Kd.C (Kd.int .u8) w A l.length l) (h2 : n ≤ c) (h : chunk_Take.f k l = some (r1, r2, r3, r4, r5)) :
    Calls Try.prog 18 #[.slice A n c] w fun e w' => ∃ v1_ : Value, e = .returned (.tuple #[.agg #[.int .u16 r1, .int .u16 r2, .int .u32 r3], v1_, .int .i64 r5]) ∧ Kd.R k29 29 w' w.heap.size (fun _ => True) v1_ r4 ∧ Below w.heap.size w w' := by
  subst hn
  exact chunk_Take.calls k A c l r1 r2 r3 r4 r5 w h1 h2 h
set_option maxHeartbeats 4000000 in
set_option maxRecDepth 100000 in
theorem trunklinelaw12_ChunkTurned.calls (k : Nat) (a0_0 a0_1 a0_2 : Int) (A1 : Option Addr) (c1 : Nat) (l1 : List S29) (b0 b1 b2 b3 b4 : Int) (r : Bool) (w : World) (hr1 : Kd.C k29 w A1 l1.length l1) (hc1 : l1.length ≤ c1) (hr_ : r = true) (h : trunklinelaw12_ChunkTurned.f k a0_0 a0_1 a0_2 l1 b0 b1 b2 b3 b4 = some r) :
    Calls Try.prog 7 #[.agg #[.int .u16 a0_0, .int .u16 a0_1, .int .u32 a0_2], .slice A1 l1.length c1, .agg #[.int .u8 b0, .int .u8 b1, .int .u8 b2, .int .u8 b3, .int .u8 b4]] w fun e w' => e = .returned (.bool r) ∧ Below w.heap.size w w' := by
  subst hr_
  have hu36 := Try.underlying36
  have hu29 := Try.underlying29
  have hu45 := Try.underlying45
  have HR1 := Aside0.mk hr1
  have HC1 := Aside0.mk hc1
  clear hr1 hc1
  have HB := Aside0.mk (Below.refl w.heap.size w)
  unfold trunklinelaw12_ChunkTurned.f at h
  obtain ⟨⟨b, e_⟩, hp, h⟩ := Option.bind_eq_some_iff.mp h
  have AP := Aside0.mk hp
  clear hp
  obtain ⟨v, hv, h⟩ := Option.bind_eq_some_iff.mp h
  by_cases hvt : v = true
  case neg => rw [if_neg hvt] at h; cases h
  rw [if_pos hvt] at h
  rw [hvt] at hv
  have AL := Aside0.mk hv
  clear hv hvt
  by_cases ce : e_ = 0
  · have ce0 : (e_ == 0) = true := beq_iff_eq.mpr ce
    have ce1 : (e_ != 0) = false := bne_eq_false_iff_eq.mpr ce
    simp only [ce, if_true] at h
    by_cases cc : 12 < b.length ∧ b.length ≤ 1000000 ∧ 0 ≤ b4 ∧ b4 ≤ 255
    case neg => rw [if_neg cc] at h; cases h
    rw [if_pos cc] at h
    obtain ⟨q, hq, h⟩ := Option.bind_eq_some_iff.mp h
    obtain ⟨q1, q2, q3, q4, q5⟩ := q
    split at h
    case isFalse => cases h
    rename_i hfin
    clear h
    obtain ⟨fr, hfr⟩ : ∃ fr, fr = 12 + b4.toNat % (b.length - 12) := ⟨_, rfl⟩
    rw [← hfr] at hq hfin
    obtain ⟨⟨bz, tz⟩, hz⟩ : ∃ z, z = turnV fr [b0, b1, b2, b3] 0 b false := ⟨_, rfl⟩
    rw [← hz] at hq hfin
    have AT := Aside0.mk (show chunk_Take.f k bz = some (q1, q2, q3, q4, q5) from hq)
    have HZ := Aside0.mk hz.symm
    have ft1 : ((q5 == 5) == tz) = true := by have := hfin.1; simpa using this
    have ft2 : (((q4.length : Int) == 0) == tz) = true := by have := hfin.2; simpa using this
    have hfr2 : fr < b.length ∧ 12 ≤ fr := by have := Nat.mod_lt b4.toNat (show 0 < b.length - 12 by omega); omega
    have hlt : decide ((b.length : Int) ≤ 12) = false := decide_eq_false (by omega)
    have w0_ : wrap64 b4 = b4 := w64 (by omega) (by omega)
    have w1_ : wrap64 ((b.length : Int) - 12) = (b.length : Int) - 12 := w64 (by omega) (by omega)
    have n2_ : ((b.length : Int) - 12 = 0) = False := eq_false (by omega)
    have n1_ : ((b.length : Int) - 12 == 0) = false := beq_eq_false_iff_ne.mpr (by omega)
    have hrm : Int.tmod b4 ((b.length : Int) - 12) = ((b4.toNat % (b.length - 12) : Nat) : Int) := by
      rw [Int.tmod_eq_emod_of_nonneg (by omega), Int.natCast_emod]
      congr 1 <;> omega
    have hx0 : 0 ≤ Int.tmod b4 ((b.length : Int) - 12) ∧ Int.tmod b4 ((b.length : Int) - 12) < 1000000 := by rw [hrm]; omega
    have w2_ : wrap64 (Int.tmod b4 ((b.length : Int) - 12)) = Int.tmod b4 ((b.length : Int) - 12) := w64 (by omega) (by omega)
    have w3_ : wrap64 (12 + Int.tmod b4 ((b.length : Int) - 12)) = (fr : Int) := by rw [w64 (by omega) (by omega), hrm, hfr]; omega
    have HCC := Aside0.mk cc
    have HFR := Aside0.mk hfr2
    clear hz hq hfin hfr hfr2 cc ce hrm hx0
    go_enter Try.func7, Try.ntmps7
    go_wp2_with (first | ((with_reducible refine gate_dst (N := 3) rfl ?_); (try (refine gate_guard (by rfl) ?_; dsimp only)); refine box_event ?hg (N := 3) ?hd (cs := #[.int .u16 a0_0, .int .u16 a0_1, .int .u32 a0_2]) (t := 36) ?hr ?_; (case hd => rfl); (case hg => rfl); (case hr => first | (go_simp; done) | (go_simp; rfl)); intro g1 hg w1 hbox hb; have nb_ := Aside0.mk (below_step (by repeat (first | (with_reducible first | exact HB.out | apply below_alloc | apply pw_below_drewN | apply below_drew1) | exact HB.out)) hb); have ne_ := Aside0.mk ((by rw [hg]; exact (below_size (by repeat (first | (with_reducible first | exact HB.out | apply below_alloc | apply pw_below_drewN | apply below_drew1) | exact HB.out)))) : w.heap.size ≤ g1); clear HB; have HB := nb_; clear nb_; have GE1 := ne_; clear ne_; have BK1 := Aside0.mk hbox; clear hg hb hbox) | ((with_reducible refine gate_dst (N := 5) rfl ?_); (try (refine gate_guard (by rfl) ?_; dsimp only)); refine box_event ?hg (N := 5) ?hd (cs := #[.int .u8 b0, .int .u8 b1, .int .u8 b2, .int .u8 b3, .int .u8 b4]) (t := 45) ?hr ?_; (case hd => rfl); (case hg => rfl); (case hr => first | (go_simp; done) | (go_simp; rfl)); intro g2 hg w2 hbox hb; have nb_ := Aside0.mk (below_step (by repeat (first | (with_reducible first | exact HB.out | apply below_alloc | apply pw_below_drewN | apply below_drew1) | exact HB.out)) hb); have ne_ := Aside0.mk ((by rw [hg]; exact (below_size (by repeat (first | (with_reducible first | exact HB.out | apply below_alloc | apply pw_below_drewN | apply below_drew1) | exact HB.out)))) : w.heap.size ≤ g2); have nBK1 := Aside0.mk (blk_below (g := g1) (o := .cells #[.int .u16 a0_0, .int .u16 a0_1, .int .u32 a0_2] 36 (0, 0)) (by (with_reducible repeat (first | refine blk_drewN ?_ _ | refine blk_drew ?_ | refine blk_alloc ?_ _)); exact BK1.out) hb); clear HB; have HB := nb_; clear nb_; have GE2 := ne_; clear ne_; have BK2 := Aside0.mk hbox; clear BK1; have BK1 := nBK1; clear nBK1; clear hg hb hbox; have hh0 : w2.cell? ⟨g1, 0, none⟩ = some (.int .u16 a0_0) := (blk_cell BK1.out 0).trans rfl; have hh1 : w2.cell? ⟨g1, 1, none⟩ = some (.int .u16 a0_1) := (blk_cell BK1.out 1).trans rfl; have hh2 : w2.cell? ⟨g1, 2, none⟩ = some (.int .u32 a0_2) := (blk_cell BK1.out 2).trans rfl; have hy4 : w2.cell? ⟨g2, 4, none⟩ = some (.int .u8 b4) := (blk_cell BK2.out 4).trans rfl) | ((with_reducible refine gate_callee (f := 16) rfl ?_); refine goesL_ (some 18) rfl rfl Try.func16 (by kernel_rfl) rfl #[.agg #[.int .u16 a0_0, .int .u16 a0_1, .int .u32 a0_2], .slice A1 l1.length c1] rfl (by (try simp only [List.map_toArray, List.map_cons, List.map_nil]); first | done | rfl | (simp only [List.length_drop, List.length_take]; rfl)) ?_; (with_reducible refine (chunk_Put.calls k a0_0 a0_1 a0_2 _ _ l1 b e_ _ ?side1 ?side2 AP.out).mono ?_); (case side1 => repeat (first | exact (Kd.C_below HR1.out HB.out) | (with_reducible refine Kd.C_alloc ?_ _) | (with_reducible refine Kd.C_drewN ?_ _) | (with_reducible refine Kd.C_drew ?_))); (case side2 => exact HC1.out); rintro e w3 ⟨v3, rfl, ho0, hb⟩; refine ⟨_, rfl, ?_⟩; have nHO := Aside0.mk (Kd.R_lower (Kd.R_newB ho0 (by (with_reducible repeat (first | refine blk_drewN ?_ _ | refine blk_drew ?_ | refine blk_alloc ?_ _)); exact BK2.out)) (below_size (by repeat (first | (with_reducible first | exact HB.out | apply below_alloc | apply pw_below_drewN | apply below_drew1 | refine below_set ?_ GE1.out | refine below_set ?_ GE2.out) | exact HB.out)))); have nBK1 := Aside0.mk (blk_below (g := g1) (o := .cells #[.int .u16 a0_0, .int .u16 a0_1, .int .u32 a0_2] 36 (0, 0)) (by (with_reducible repeat (first | refine blk_drewN ?_ _ | refine blk_drew ?_ | refine blk_alloc ?_ _)); exact BK1.out) hb); have nBK2 := Aside0.mk (blk_below (g := g2) (o := .cells #[.int .u8 b0, .int .u8 b1, .int .u8 b2, .int .u8 b3, .int .u8 b4] 45 (0, 0)) (by (with_reducible repeat (first | refine blk_drewN ?_ _ | refine blk_drew ?_ | refine blk_alloc ?_ _)); exact BK2.out) hb); have nHB := Aside0.mk (below_step (by repeat (first | (with_reducible first | exact HB.out | apply below_alloc | apply pw_below_drewN | apply below_drew1 | refine below_set ?_ GE1.out | refine below_set ?_ GE2.out) | exact HB.out)) hb); (try clear HO); have HO := nHO; clear nHO; (try clear BK1); have BK1 := nBK1; clear nBK1; (try clear BK2); have BK2 := nBK2; clear nBK2; (try clear HB); have HB := nHB; clear nHB; clear hb ho0; obtain ⟨Ao, co, eo⟩ := Kd.R_slice HO.out; subst eo; have hy4 : w3.cell? ⟨g2, 4, none⟩ = some (.int .u8 b4) := (blk_cell BK2.out 4).trans rfl))
    go_loopg [10, 11] 4 (fun kq v10 v11 w' => ∃ (i : Nat) (ys : List Int) (bi : List Int) (ti : Bool), v10 = .bool ti ∧ v11 = .int .i64 (i : Int) ∧ Aside0 (i + kq = 4) ∧ Aside0 ([b0, b1, b2, b3].drop i = ys) ∧ Aside0 (bi.length = b.length) ∧ Aside0 (turnV fr ys i bi ti = (bz, tz)) ∧ Aside0 (Kd.R (Kd.int .u8) 5 w' w.heap.size (fun k => True ∧ k ≠ g2) (.slice Ao b.length co) bi) ∧ Aside0 (w'.heap[g2]? = some (.cells #[.int .u8 b0, .int .u8 b1, .int .u8 b2, .int .u8 b3, .int .u8 b4] 45 (0, 0))) ∧ Aside0 (Below w.heap.size w w'))
    case atStart => exact ⟨0, _, b, false, rfl, rfl, ⟨rfl⟩, ⟨rfl⟩, ⟨rfl⟩, HZ, ⟨by (with_reducible repeat (first | apply Kd.R_alloc | apply Kd.R_drewN | apply Kd.R_drew)); exact HO.out⟩, ⟨by (with_reducible repeat (first | refine blk_drewN ?_ _ | refine blk_drew ?_ | refine blk_alloc ?_ _)); exact BK2.out⟩, ⟨by repeat (first | (with_reducible first | exact HB.out | apply below_alloc | apply pw_below_drewN | apply below_drew1 | refine below_set ?_ GE1.out | refine below_set ?_ GE2.out) | exact HB.out)⟩⟩
    case round =>
      clear HO BK1 BK2 HB hy4 hh0 hh1 hh2 w0_ w1_ n1_ n2_ w2_ w3_
      obtain ⟨i, ys, bi, ti, rfl, rfl, HN, HD, HLB, HTV, HO, BK2, HB⟩ := hrel
      have hfr := HFR.out
      have hcc := HCC.out
      have hn := HN.out
      obtain ⟨p, hp⟩ : ∃ p : Int, p = (fr : Int) + (i : Int) := ⟨_, rfl⟩
      have wp_ : wrap64 ((fr : Int) + (i : Int)) = p := by rw [w64 (by omega) (by omega), hp]
      have wpi_ : IntKind.i64.wrap ((fr : Int) + (i : Int)) = p := (i64_w _).trans wp_
      have hpn : fr + i = p.toNat := by omega
      have hpc : ((p.toNat : Nat) : Int) = p := by omega
      cases ys with
      | nil =>
        have hi4 : i = 4 := by
          have h := congrArg List.length HD.out
          simp only [List.length_drop, List.length_cons, List.length_nil] at h
          omega
        have d4 : decide ((i : Int) < 4) = false := decide_eq_false (by omega)
        have hz' := HTV.out
        rw [turnV] at hz'
        have HBI := Aside0.mk (show bi = bz from congrArg Prod.fst hz')
        obtain rfl : ti = tz := congrArg Prod.snd hz'
        clear hz' hi4 hp hpn hpc hn hcc hfr
        have ATT := Aside0.mk (show chunk_Take.f k bi = some (q1, q2, q3, q4, q5) by rw [HBI.out]; exact AT.out)
        go_wp2_with (first | ((with_reducible refine gate_callee (f := 18) rfl ?_); refine goesL_ (some 73) rfl rfl Try.func18 (by kernel_rfl) rfl #[.slice Ao b.length co] rfl (by (try simp only [List.map_toArray, List.map_cons, List.map_nil]); first | done | rfl | (simp only [List.length_drop, List.length_take]; rfl)) ?_; (with_reducible refine (trunklinelaw12_ChunkTurned.take_at k Ao co b.length bi q1 q2 q3 q4 q5 _ HLB.out ?side1 ?side2 ATT.out).mono ?_); (case side1 => first | exact (Kd.R_reads' HO.out).2.2 | exact Kd.C_drew (Kd.R_reads' HO.out).2.2); (case side2 => exact (by have := (Kd.R_reads' HO.out).2.1; exact this)); rintro e w5 ⟨v5, rfl, ho0, hb⟩; refine ⟨_, rfl, ?_⟩; have nb_ := Aside0.mk (below_step (by repeat (first | (with_reducible first | exact HB.out | apply below_alloc | apply pw_below_drewN | apply below_drew1) | exact HB.out)) hb); clear HB; have HB := nb_; clear nb_ hb HO BK2; obtain ⟨Am, cm, em⟩ := Kd.R_slice ho0; subst em; clear ho0) | ((with_reducible refine gate_dst (N := 12) rfl ?_); (try (refine gate_guard (by rfl) ?_; dsimp only)); refine box_event ?hg (N := 12) ?hd (cs := #[.int .u16 0, .int .u16 0, .int .u32 0]) (t := 36) ?hr ?_; (case hd => rfl); (case hg => rfl); (case hr => first | (go_simp; done) | (go_simp; rfl)); intro g3 hg w6 hbox hb; have nb_ := Aside0.mk (below_step (by repeat (first | (with_reducible first | exact HB.out | apply below_alloc | apply pw_below_drewN | apply below_drew1) | exact HB.out)) hb); have GE3 := Aside0.mk ((by rw [hg]; exact (below_size (by repeat (first | (with_reducible first | exact HB.out | apply below_alloc | apply pw_below_drewN | apply below_drew1) | exact HB.out)))) : w.heap.size ≤ g3); clear HB; have HB := nb_; clear nb_; have BK3 := Aside0.mk hbox; have hg0 : w6.cell? ⟨g3, 0, none⟩ = some (.int .u16 0) := (blk_cell BK3.out 0).trans rfl; have hgf0 := blk_frozen BK3.out 0; have hg1 : w6.cell? ⟨g3, 1, none⟩ = some (.int .u16 0) := (blk_cell BK3.out 1).trans rfl; have hgf1 := blk_frozen BK3.out 1; have hg2 : w6.cell? ⟨g3, 2, none⟩ = some (.int .u32 0) := (blk_cell BK3.out 2).trans rfl; have hgf2 := blk_frozen BK3.out 2; clear hg hbox hb) | ((with_reducible refine gate_callee (f := 11) rfl ?_); refine goesL_ (some 77) rfl rfl Try.func11 (by kernel_rfl) rfl #[] rfl (by (try simp only [List.map_toArray, List.map_cons, List.map_nil]); first | done | rfl | (simp only [List.length_drop, List.length_take]; rfl)) ?_; (with_reducible refine (trunklinelaw12_live.calls k true _ rfl AL.out).mono ?_); skip; rintro e w9 ⟨rfl, hb⟩; refine ⟨_, rfl, ?_⟩; have nb_ := Aside0.mk (below_step (by repeat (first | (with_reducible first | exact HB.out | apply below_alloc | apply pw_below_drewN | apply below_drew1 | refine below_set ?_ GE3.out) | exact HB.out)) hb); clear HB; have HB := nb_; clear nb_ hb))
        go_ret
        exact ⟨by first | rfl | (simp [*]; done), by repeat (first | (with_reducible first | exact HB.out | apply below_alloc | apply pw_below_drewN | apply below_drew1 | refine below_set ?_ GE3.out) | exact HB.out)⟩
      | cons y ys =>
        obtain ⟨h4, hyc⟩ := trunklinelaw12_ChunkTurned.by_cell BK2.out i y ys HD.out
        have hyc' : wr.cell? ⟨g2, (i : Int).toNat, none⟩ = some (.int .u8 y) := hyc
        have d4 : decide ((i : Int) < 4) = true := decide_eq_true (by omega)
        have hz' := HTV.out
        rw [turnV] at hz'
        by_cases hin : p < (b.length : Int)
        · rw [hpn, if_pos (by rw [HLB.out]; omega), hpc] at hz'
          have HTV' := Aside0.mk hz'
          have HPI := Aside0.mk hin
          have dp : decide (p < (b.length : Int)) = true := decide_eq_true (by omega)
          have d0 : decide ((0 : Int) ≤ p) = true := decide_eq_true (by omega)
          have d0' : ((0 : Int) ≤ p) = True := eq_true (by omega)
          have dp' : (p < (b.length : Int)) = True := eq_true (by omega)
          have i0 : ((0 : Int) ≤ (i : Int)) = True := eq_true (by omega)
          have i5 : ((i : Int) < 5) = True := eq_true (by omega)
          have i5' : (i < 5) = True := eq_true (by omega)
          have i0d : decide ((0 : Int) ≤ (i : Int)) = true := decide_eq_true (by omega)
          have i5d : decide ((i : Int) < 5) = true := decide_eq_true (by omega)
          have hw1 : wrap64 ((i : Int) + 1) = ((i + 1 : Nat) : Int) := by rw [w64 (by omega) (by omega)]; omega
          obtain ⟨go, cog, eo, gb, gl, cl, HG⟩ := Kd.R_form HO.out (by rw [HLB.out]; omega)
          injection eo with ea_ en_ ec_
          subst ea_
          subst ec_
          have GG := Aside0.mk HG
          have HGO := Aside0.mk (show w.heap.size ≤ go from gb)
          have HNE := Aside0.mk (show go ≠ g2 from (HO.out.1 _ rfl).2)
          obtain ⟨hx, hf⟩ := Kd.R_celln 0 HO.out p (by omega) (by omega)
          have HPT := Aside0.mk (Kd.R_putn HO.out p (Go.bits .xor .u8 (rd bi p) y))
          have hn1 := HNE.out
          have hn2 := HNE.out.symm
          have H4 := Aside0.mk h4
          clear hz' hin hp hpn hpc hn hcc hfr gb gl HG en_ h4
          cases gk with
          | zero => exact absurd HN.out (by have := H4.out; omega)
          | succ gk =>
            cases ti with
            | false =>
              go_upto_region 9 with (fail)
              go_region_with (first | fail)
              all_goals
                go_wp2
                go_roundg gk
                case measure => omega
                case rel => exact ⟨i + 1, ys, _, false || (y != 0), by first | rfl | simp, by first | rfl | (rw [hw1]) | simp [hw1], ⟨by have := HN.out; omega⟩, ⟨by have h := congrArg List.tail HD.out; rw [List.tail_drop] at h; exact h⟩, ⟨by rw [List.length_set]; exact HLB.out⟩, HTV', ⟨by (with_reducible repeat (first | apply Kd.R_alloc | apply Kd.R_drewN | apply Kd.R_drew)); exact HPT.out⟩, ⟨by (with_reducible repeat (first | refine blk_drewN ?_ _ | refine blk_drew ?_ | refine blk_alloc ?_ _)); refine blk_far (p := ⟨go, p.toNat, none⟩) ?_ HNE.out.symm _; exact (by (with_reducible repeat (first | refine blk_drewN ?_ _ | refine blk_drew ?_ | refine blk_alloc ?_ _)); exact BK2.out)⟩, ⟨by repeat (first | (with_reducible first | exact HB.out | apply below_alloc | apply pw_below_drewN | apply below_drew1 | refine below_set ?_ HGO.out) | exact HB.out)⟩⟩
            | true =>
              go_upto_region 9 with (fail)
              go_region_with (first | fail)
              all_goals
                go_wp2
                go_roundg gk
                case measure => omega
                case rel => exact ⟨i + 1, ys, _, true || (y != 0), by first | rfl | simp, by first | rfl | (rw [hw1]) | simp [hw1], ⟨by have := HN.out; omega⟩, ⟨by have h := congrArg List.tail HD.out; rw [List.tail_drop] at h; exact h⟩, ⟨by rw [List.length_set]; exact HLB.out⟩, HTV', ⟨by (with_reducible repeat (first | apply Kd.R_alloc | apply Kd.R_drewN | apply Kd.R_drew)); exact HPT.out⟩, ⟨by (with_reducible repeat (first | refine blk_drewN ?_ _ | refine blk_drew ?_ | refine blk_alloc ?_ _)); refine blk_far (p := ⟨go, p.toNat, none⟩) ?_ HNE.out.symm _; exact (by (with_reducible repeat (first | refine blk_drewN ?_ _ | refine blk_drew ?_ | refine blk_alloc ?_ _)); exact BK2.out)⟩, ⟨by repeat (first | (with_reducible first | exact HB.out | apply below_alloc | apply pw_below_drewN | apply below_drew1 | refine below_set ?_ HGO.out) | exact HB.out)⟩⟩
        · rw [if_neg (by rw [HLB.out]; omega)] at hz'
          have dp : decide (p < (b.length : Int)) = false := decide_eq_false (by omega)
          have HBI := Aside0.mk (show bi = bz from congrArg Prod.fst hz')
          obtain rfl : ti = tz := congrArg Prod.snd hz'
          clear hz' hin hp hpn hpc hn hcc hfr hyc hyc' h4
          have ATT := Aside0.mk (show chunk_Take.f k bi = some (q1, q2, q3, q4, q5) by rw [HBI.out]; exact AT.out)
          go_wp2_with (first | ((with_reducible refine gate_callee (f := 18) rfl ?_); refine goesL_ (some 73) rfl rfl Try.func18 (by kernel_rfl) rfl #[.slice Ao b.length co] rfl (by (try simp only [List.map_toArray, List.map_cons, List.map_nil]); first | done | rfl | (simp only [List.length_drop, List.length_take]; rfl)) ?_; (with_reducible refine (trunklinelaw12_ChunkTurned.take_at k Ao co b.length bi q1 q2 q3 q4 q5 _ HLB.out ?side1 ?side2 ATT.out).mono ?_); (case side1 => first | exact (Kd.R_reads' HO.out).2.2 | exact Kd.C_drew (Kd.R_reads' HO.out).2.2); (case side2 => exact (by have := (Kd.R_reads' HO.out).2.1; exact this)); rintro e w5 ⟨v5, rfl, ho0, hb⟩; refine ⟨_, rfl, ?_⟩; have nb_ := Aside0.mk (below_step (by repeat (first | (with_reducible first | exact HB.out | apply below_alloc | apply pw_below_drewN | apply below_drew1) | exact HB.out)) hb); clear HB; have HB := nb_; clear nb_ hb HO BK2; obtain ⟨Am, cm, em⟩ := Kd.R_slice ho0; subst em; clear ho0) | ((with_reducible refine gate_dst (N := 12) rfl ?_); (try (refine gate_guard (by rfl) ?_; dsimp only)); refine box_event ?hg (N := 12) ?hd (cs := #[.int .u16 0, .int .u16 0, .int .u32 0]) (t := 36) ?hr ?_; (case hd => rfl); (case hg => rfl); (case hr => first | (go_simp; done) | (go_simp; rfl)); intro g3 hg w6 hbox hb; have nb_ := Aside0.mk (below_step (by repeat (first | (with_reducible first | exact HB.out | apply below_alloc | apply pw_below_drewN | apply below_drew1) | exact HB.out)) hb); have GE3 := Aside0.mk ((by rw [hg]; exact (below_size (by repeat (first | (with_reducible first | exact HB.out | apply below_alloc | apply pw_below_drewN | apply below_drew1) | exact HB.out)))) : w.heap.size ≤ g3); clear HB; have HB := nb_; clear nb_; have BK3 := Aside0.mk hbox; have hg0 : w6.cell? ⟨g3, 0, none⟩ = some (.int .u16 0) := (blk_cell BK3.out 0).trans rfl; have hgf0 := blk_frozen BK3.out 0; have hg1 : w6.cell? ⟨g3, 1, none⟩ = some (.int .u16 0) := (blk_cell BK3.out 1).trans rfl; have hgf1 := blk_frozen BK3.out 1; have hg2 : w6.cell? ⟨g3, 2, none⟩ = some (.int .u32 0) := (blk_cell BK3.out 2).trans rfl; have hgf2 := blk_frozen BK3.out 2; clear hg hbox hb) | ((with_reducible refine gate_callee (f := 11) rfl ?_); refine goesL_ (some 77) rfl rfl Try.func11 (by kernel_rfl) rfl #[] rfl (by (try simp only [List.map_toArray, List.map_cons, List.map_nil]); first | done | rfl | (simp only [List.length_drop, List.length_take]; rfl)) ?_; (with_reducible refine (trunklinelaw12_live.calls k true _ rfl AL.out).mono ?_); skip; rintro e w9 ⟨rfl, hb⟩; refine ⟨_, rfl, ?_⟩; have nb_ := Aside0.mk (below_step (by repeat (first | (with_reducible first | exact HB.out | apply below_alloc | apply pw_below_drewN | apply below_drew1 | refine below_set ?_ GE3.out) | exact HB.out)) hb); clear HB; have HB := nb_; clear nb_ hb))
          go_ret
          exact ⟨by first | rfl | (simp [*]; done), by repeat (first | (with_reducible first | exact HB.out | apply below_alloc | apply pw_below_drewN | apply below_drew1 | refine below_set ?_ GE3.out) | exact HB.out)⟩
  · have ce0 : (e_ == 0) = false := beq_eq_false_iff_ne.mpr ce
    have ce1 : (e_ != 0) = true := bne_iff_ne.mpr ce
    clear ce h
    go_enter Try.func7, Try.ntmps7
    go_wp2_with (first | ((with_reducible refine gate_dst (N := 3) rfl ?_); (try (refine gate_guard (by rfl) ?_; dsimp only)); refine box_event ?hg (N := 3) ?hd (cs := #[.int .u16 a0_0, .int .u16 a0_1, .int .u32 a0_2]) (t := 36) ?hr ?_; (case hd => rfl); (case hg => rfl); (case hr => first | (go_simp; done) | (go_simp; rfl)); intro g1 hg w1 hbox hb; have nb_ := Aside0.mk (below_step (by repeat (first | (with_reducible first | exact HB.out | apply below_alloc | apply pw_below_drewN | apply below_drew1) | exact HB.out)) hb); have ne_ := Aside0.mk ((by rw [hg]; exact (below_size (by repeat (first | (with_reducible first | exact HB.out | apply below_alloc | apply pw_below_drewN | apply below_drew1) | exact HB.out)))) : w.heap.size ≤ g1); clear HB; have HB := nb_; clear nb_; have GE1 := ne_; clear ne_; have BK1 := Aside0.mk hbox; clear hg hb hbox) | ((with_reducible refine gate_dst (N := 5) rfl ?_); (try (refine gate_guard (by rfl) ?_; dsimp only)); refine box_event ?hg (N := 5) ?hd (cs := #[.int .u8 b0, .int .u8 b1, .int .u8 b2, .int .u8 b3, .int .u8 b4]) (t := 45) ?hr ?_; (case hd => rfl); (case hg => rfl); (case hr => first | (go_simp; done) | (go_simp; rfl)); intro g2 hg w2 hbox hb; have nb_ := Aside0.mk (below_step (by repeat (first | (with_reducible first | exact HB.out | apply below_alloc | apply pw_below_drewN | apply below_drew1) | exact HB.out)) hb); have ne_ := Aside0.mk ((by rw [hg]; exact (below_size (by repeat (first | (with_reducible first | exact HB.out | apply below_alloc | apply pw_below_drewN | apply below_drew1) | exact HB.out)))) : w.heap.size ≤ g2); have nBK1 := Aside0.mk (blk_below (g := g1) (o := .cells #[.int .u16 a0_0, .int .u16 a0_1, .int .u32 a0_2] 36 (0, 0)) (by (with_reducible repeat (first | refine blk_drewN ?_ _ | refine blk_drew ?_ | refine blk_alloc ?_ _)); exact BK1.out) hb); clear HB; have HB := nb_; clear nb_; have GE2 := ne_; clear ne_; have BK2 := Aside0.mk hbox; clear BK1; have BK1 := nBK1; clear nBK1; clear hg hb hbox; have hh0 : w2.cell? ⟨g1, 0, none⟩ = some (.int .u16 a0_0) := (blk_cell BK1.out 0).trans rfl; have hh1 : w2.cell? ⟨g1, 1, none⟩ = some (.int .u16 a0_1) := (blk_cell BK1.out 1).trans rfl; have hh2 : w2.cell? ⟨g1, 2, none⟩ = some (.int .u32 a0_2) := (blk_cell BK1.out 2).trans rfl; have hy4 : w2.cell? ⟨g2, 4, none⟩ = some (.int .u8 b4) := (blk_cell BK2.out 4).trans rfl) | ((with_reducible refine gate_callee (f := 16) rfl ?_); refine goesL_ (some 18) rfl rfl Try.func16 (by kernel_rfl) rfl #[.agg #[.int .u16 a0_0, .int .u16 a0_1, .int .u32 a0_2], .slice A1 l1.length c1] rfl (by (try simp only [List.map_toArray, List.map_cons, List.map_nil]); first | done | rfl | (simp only [List.length_drop, List.length_take]; rfl)) ?_; (with_reducible refine (chunk_Put.calls k a0_0 a0_1 a0_2 _ _ l1 b e_ _ ?side1 ?side2 AP.out).mono ?_); (case side1 => repeat (first | exact (Kd.C_below HR1.out HB.out) | (with_reducible refine Kd.C_alloc ?_ _) | (with_reducible refine Kd.C_drewN ?_ _) | (with_reducible refine Kd.C_drew ?_))); (case side2 => exact HC1.out); rintro e w3 ⟨v3, rfl, ho0, hb⟩; refine ⟨_, rfl, ?_⟩; have nHO := Aside0.mk (Kd.R_lower (Kd.R_newB ho0 (by (with_reducible repeat (first | refine blk_drewN ?_ _ | refine blk_drew ?_ | refine blk_alloc ?_ _)); exact BK2.out)) (below_size (by repeat (first | (with_reducible first | exact HB.out | apply below_alloc | apply pw_below_drewN | apply below_drew1 | refine below_set ?_ GE1.out | refine below_set ?_ GE2.out) | exact HB.out)))); have nBK1 := Aside0.mk (blk_below (g := g1) (o := .cells #[.int .u16 a0_0, .int .u16 a0_1, .int .u32 a0_2] 36 (0, 0)) (by (with_reducible repeat (first | refine blk_drewN ?_ _ | refine blk_drew ?_ | refine blk_alloc ?_ _)); exact BK1.out) hb); have nBK2 := Aside0.mk (blk_below (g := g2) (o := .cells #[.int .u8 b0, .int .u8 b1, .int .u8 b2, .int .u8 b3, .int .u8 b4] 45 (0, 0)) (by (with_reducible repeat (first | refine blk_drewN ?_ _ | refine blk_drew ?_ | refine blk_alloc ?_ _)); exact BK2.out) hb); have nHB := Aside0.mk (below_step (by repeat (first | (with_reducible first | exact HB.out | apply below_alloc | apply pw_below_drewN | apply below_drew1 | refine below_set ?_ GE1.out | refine below_set ?_ GE2.out) | exact HB.out)) hb); (try clear HO); have HO := nHO; clear nHO; (try clear BK1); have BK1 := nBK1; clear nBK1; (try clear BK2); have BK2 := nBK2; clear nBK2; (try clear HB); have HB := nHB; clear nHB; clear hb ho0; obtain ⟨Ao, co, eo⟩ := Kd.R_slice HO.out; subst eo; have hy4 : w3.cell? ⟨g2, 4, none⟩ = some (.int .u8 b4) := (blk_cell BK2.out 4).trans rfl) | ((with_reducible refine gate_callee (f := 11) rfl ?_); refine goesL_ (some 28) rfl rfl Try.func11 (by kernel_rfl) rfl #[] rfl (by (try simp only [List.map_toArray, List.map_cons, List.map_nil]); first | done | rfl | (simp only [List.length_drop, List.length_take]; rfl)) ?_; (with_reducible refine (trunklinelaw12_live.calls k true _ rfl AL.out).mono ?_); skip; rintro e w9 ⟨rfl, hb⟩; refine ⟨_, rfl, ?_⟩; have nBK1 := Aside0.mk (blk_below (g := g1) (o := .cells #[.int .u16 a0_0, .int .u16 a0_1, .int .u32 a0_2] 36 (0, 0)) (by (with_reducible repeat (first | refine blk_drewN ?_ _ | refine blk_drew ?_ | refine blk_alloc ?_ _)); exact BK1.out) hb); have nBK2 := Aside0.mk (blk_below (g := g2) (o := .cells #[.int .u8 b0, .int .u8 b1, .int .u8 b2, .int .u8 b3, .int .u8 b4] 45 (0, 0)) (by (with_reducible repeat (first | refine blk_drewN ?_ _ | refine blk_drew ?_ | refine blk_alloc ?_ _)); exact BK2.out) hb); have nHB := Aside0.mk (below_step (by repeat (first | (with_reducible first | exact HB.out | apply below_alloc | apply pw_below_drewN | apply below_drew1 | refine below_set ?_ GE1.out | refine below_set ?_ GE2.out) | exact HB.out)) hb); (try clear BK1); have BK1 := nBK1; clear nBK1; (try clear BK2); have BK2 := nBK2; clear nBK2; (try clear HB); have HB := nHB; clear nHB; clear hb))
    go_ret
    exact ⟨by first | rfl | (simp [*]; done), by repeat (first | (with_reducible first | exact HB.out | apply below_alloc | apply pw_below_drewN | apply below_drew1 | refine below_set ?_ GE1.out | refine below_set ?_ GE2.out) | exact HB.out)⟩
/-- The one pure statement of ChunkTurned. -/
def trunklinelaw12_ChunkTurned.Pure : Prop := ∀ (a0_0 a0_1 a0_2 : Int) (l1 : List (S29)) (b0 b1 b2 b3 b4 : Int), (Lit.int .u16 a0_0).wf = true → (Lit.int .u16 a0_1).wf = true → (Lit.int .u32 a0_2).wf = true → l1.length ≤ maxLen → l1.length * 128 ≤ 140737488351232 → (∀ y ∈ l1, ok29 y) → (Lit.int .u8 b0).wf = true → (Lit.int .u8 b1).wf = true → (Lit.int .u8 b2).wf = true → (Lit.int .u8 b3).wf = true → (Lit.int .u8 b4).wf = true → ∃ k, trunklinelaw12_ChunkTurned.f k a0_0 a0_1 a0_2 l1 b0 b1 b2 b3 b4 = some true
end Go.Proofs.Ytaahkggbjpdofaa.M
