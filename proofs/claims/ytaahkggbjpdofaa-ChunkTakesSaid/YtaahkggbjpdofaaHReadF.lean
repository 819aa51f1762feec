import Derived.Test.YtaahkggbjpdofaaHReads
import Derived.Test.YtaahkggbjpdofaaPCrc
import Derived.WalkSpells
import Derived.LoopN
import Derived.Deep.RegionWith
import Derived.Test.YtaahkggbjpdofaaHOrd
import Derived.Test.YtaahkggbjpdofaaHOfAll
section
/- The kinds' read: the first chunk's (Init), the acknowledgement's (Sack). -/
namespace Go.Proofs.Ytaahkggbjpdofaa.M
open Go.RowKit Go.Proofs.YtaahkggbjpdofaaW.PrintWords Go.Proofs.YtaahkggbjpdofaaW.PrintLast Go.Proofs.YtaahkggbjpdofaaW.PrintMore
open Go.Proofs.Ytaahkggbjpdofaa.Pure
set_option linter.unusedVariables false
set_option linter.unusedSimpArgs false
/-- The chunk of a first value. -/
def firstR (t fl : Int) (l : List Int) : Except Int S29 := if l.length < 16 then .error 4 else match parsV ((((((l.drop 4).drop 4).drop 2).drop 2).drop 4).length + 1) (((((l.drop 4).drop 4).drop 2).drop 2).drop 4) [] with
  | .ok ps => .ok ⟨t, fl, numN ((((l.drop 4).drop 4).drop 2).drop 2) 4, 0, 0, 0, numN l 4, numN (l.drop 4) 4, numN ((l.drop 4).drop 4) 2, numN (((l.drop 4).drop 4).drop 2) 2, [], [], ps, []⟩
  | .error e => .error e
set_option maxHeartbeats 4000000 in
set_option maxRecDepth 100000 in
theorem first_reads (g pb : Nat) (l : List Int) (t fl : Int) (w0 w : World) (hB : Below w0.heap.size w0 w) (hx : RdrOf w0 w g l) (hb : Bytes l) (hl : l.length ≤ 65536) (hpb : w0.heap.size ≤ pb) (hne : g ≠ pb) (hc : w.heap[pb]? = some (.cells #[.int .u8 t, .int .u8 fl, .int .u32 0, .int .u16 0, .int .u16 0, .int .u32 0, .int .u32 0, .int .u32 0, .int .u16 0, .int .u16 0, .slice none 0 0, .slice none 0 0, .slice none 0 0, .slice none 0 0] 29 (0, 0))) :
    Calls Try.prog 94 #[.agg #[.pointer (some ⟨pb, 0, none⟩)], .pointer (some ⟨g, 0, none⟩)] w fun x w' => Below w0.heap.size w0 w' ∧ ReadOut w w' g pb x (firstR t fl l) := by
  have HB := Aside0.mk hB
  have HX := Aside0.mk hx
  have HBY := Aside0.mk hb
  have HL := Aside0.mk hl
  have HPB := Aside0.mk hpb
  have HNE := Aside0.mk hne
  have HC := Aside0.mk hc
  have HSZ := Aside0.mk hx.lt
  obtain ⟨a6, ha6⟩ : ∃ a6, a6 = numN l 4 := ⟨_, rfl⟩
  obtain ⟨l4, hl4⟩ : ∃ l4, l4 = l.drop 4 := ⟨_, rfl⟩
  have HN6 := Aside0.mk ha6
  have HDl4 := Aside0.mk hl4
  have hyl4 : l4.length = l.length - 4 := by rw [hl4, List.length_drop]
  have HYl4 := Aside0.mk (show Bytes l4 by rw [hl4]; exact HBY.out.drop 4)
  have HLEl4 := Aside0.mk (show l4.length = l.length - 4 by omega)
  have hm6 : a6 % 4294967296 = a6 := by have := numN_range HBY.out 4 (by decide); rw [ha6]; omega
  obtain ⟨a7, ha7⟩ : ∃ a7, a7 = numN l4 4 := ⟨_, rfl⟩
  obtain ⟨l8, hl8⟩ : ∃ l8, l8 = l4.drop 4 := ⟨_, rfl⟩
  have HN7 := Aside0.mk ha7
  have HDl8 := Aside0.mk hl8
  have hyl8 : l8.length = l4.length - 4 := by rw [hl8, List.length_drop]
  have HYl8 := Aside0.mk (show Bytes l8 by rw [hl8]; exact HYl4.out.drop 4)
  have HLEl8 := Aside0.mk (show l8.length = l.length - 8 by omega)
  have hm7 : a7 % 4294967296 = a7 := by have := numN_range HYl4.out 4 (by decide); rw [ha7]; omega
  obtain ⟨a8, ha8⟩ : ∃ a8, a8 = numN l8 2 := ⟨_, rfl⟩
  obtain ⟨l10, hl10⟩ : ∃ l10, l10 = l8.drop 2 := ⟨_, rfl⟩
  have HN8 := Aside0.mk ha8
  have HDl10 := Aside0.mk hl10
  have hyl10 : l10.length = l8.length - 2 := by rw [hl10, List.length_drop]
  have HYl10 := Aside0.mk (show Bytes l10 by rw [hl10]; exact HYl8.out.drop 2)
  have HLEl10 := Aside0.mk (show l10.length = l.length - 10 by omega)
  have hr8 : a8 % 65536 = a8 := by have := num2_range HYl8.out; rw [ha8]; omega
  have hm8 : IntKind.u16.wrap a8 = a8 := u16w (by rw [ha8]; exact num2_range HYl8.out)
  obtain ⟨a9, ha9⟩ : ∃ a9, a9 = numN l10 2 := ⟨_, rfl⟩
  obtain ⟨l12, hl12⟩ : ∃ l12, l12 = l10.drop 2 := ⟨_, rfl⟩
  have HN9 := Aside0.mk ha9
  have HDl12 := Aside0.mk hl12
  have hyl12 : l12.length = l10.length - 2 := by rw [hl12, List.length_drop]
  have HYl12 := Aside0.mk (show Bytes l12 by rw [hl12]; exact HYl10.out.drop 2)
  have HLEl12 := Aside0.mk (show l12.length = l.length - 12 by omega)
  have hr9 : a9 % 65536 = a9 := by have := num2_range HYl10.out; rw [ha9]; omega
  have hm9 : IntKind.u16.wrap a9 = a9 := u16w (by rw [ha9]; exact num2_range HYl10.out)
  obtain ⟨a2, ha2⟩ : ∃ a2, a2 = numN l12 4 := ⟨_, rfl⟩
  obtain ⟨l16, hl16⟩ : ∃ l16, l16 = l12.drop 4 := ⟨_, rfl⟩
  have HN2 := Aside0.mk ha2
  have HDl16 := Aside0.mk hl16
  have hyl16 : l16.length = l12.length - 4 := by rw [hl16, List.length_drop]
  have HYl16 := Aside0.mk (show Bytes l16 by rw [hl16]; exact HYl12.out.drop 4)
  have HLEl16 := Aside0.mk (show l16.length = l.length - 16 by omega)
  have hm2 : a2 % 4294967296 = a2 := by have := numN_range HYl12.out 4 (by decide); rw [ha2]; omega
  by_cases h16 : l.length < 16
  · have HE := Aside0.mk (show firstR t fl l = .error 4 by unfold firstR; rw [if_pos h16])
    have HLT := Aside0.mk h16
    clear hB hx hb hl hpb hne hc ha6 ha7 ha8 ha9 ha2 hl4 hyl4 hl8 hyl8 hl10 hyl10 hl12 hyl12 hl16 hyl16 h16
    go_enter Try.func94, Try.ntmps94
    go_wp2_with (first | ((with_reducible refine gate_dst (N := 2) rfl ?_); refine box_event ?hg (N := 2) ?hd (cs := #[.pointer (some ⟨pb, 0, none⟩)]) (t := 80) ?hr ?_; (case hd => rfl); (case hg => rfl); (case hr => first | (go_simp; done) | (go_simp; rfl)); intro p2 hg0 w1 hbox0 hb0; have hp0 : w1.cell? ⟨p2, 0, none⟩ = some (.pointer (some ⟨pb, 0, none⟩)) := blk_cell hbox0 0; have HB1 := Aside0.mk (below_step HB.out hb0); have HX1 := Aside0.mk (HX.out.below hb0); have HC1 := Aside0.mk (blk_below HC.out hb0); have HK1 := Aside0.mk (Kept.of_below hb0 (fun k => k = g ∨ k = pb)); have HP1 := Aside0.mk hbox0; have HPG := Aside0.mk (show ¬ p2 = g by have := HSZ.out; omega); clear hg0 hbox0 hb0) | (go_at_call 40; (with_reducible refine (num4_both g l a6 w0 w1 HB1.out HX1.out HBY.out HN6.out).mono ?_); rintro e w11 (⟨hle, rfl, hx, hb, hk⟩ | ⟨hlt, rfl, hw⟩); (have HG0 := Aside0.mk hle; clear hle; have HX11 := Aside0.mk (show RdrOf w0 w11 g l4 by rw [HDl4.out]; exact hx); have HB11 := Aside0.mk hb; have HC11 := Aside0.mk (blk_kept (show w1.heap[pb]? = _ from HC1.out) hk (fun hh => HNE.out hh.symm)); have HK11 := Aside0.mk (Kept.then_ HK1.out (show Kept w1 w11 (fun k => k = g) from hk) (fun k hk => .inl (.inl hk))); clear hx hb hk); rotate_left; (have hw := hw.symm; subst hw; exact ⟨rfl, HB1.out, by rw [HE.out]; rfl⟩)) | (go_at_call 40; (with_reducible refine (num4_both g l4 a7 w0 w11 HB11.out HX11.out HYl4.out HN7.out).mono ?_); rintro e w12 (⟨hle, rfl, hx, hb, hk⟩ | ⟨hlt, rfl, hw⟩); (have HG1 := Aside0.mk hle; clear hle; have HX12 := Aside0.mk (show RdrOf w0 w12 g l8 by rw [HDl8.out]; exact hx); have HB12 := Aside0.mk hb; have HC12 := Aside0.mk (blk_kept (show w11.heap[pb]? = _ from HC11.out) hk (fun hh => HNE.out hh.symm)); have HK12 := Aside0.mk (Kept.then_ HK11.out (show Kept w11 w12 (fun k => k = g) from hk) (fun k hk => .inl (.inl hk))); clear hx hb hk); rotate_left; (have hw := hw.symm; subst hw; exact ⟨rfl, HB11.out, by rw [HE.out]; rfl⟩)) | (go_at_call 40; (with_reducible refine (num2_both g l8 a8 w0 w12 HB12.out HX12.out HYl8.out HN8.out).mono ?_); rintro e w13 (⟨hle, rfl, hx, hb, hk⟩ | ⟨hlt, rfl, hw⟩); (have HG2 := Aside0.mk hle; clear hle; have HX13 := Aside0.mk (show RdrOf w0 w13 g l10 by rw [HDl10.out]; exact hx); have HB13 := Aside0.mk hb; have HC13 := Aside0.mk (blk_kept (show w12.heap[pb]? = _ from HC12.out) hk (fun hh => HNE.out hh.symm)); have HK13 := Aside0.mk (Kept.then_ HK12.out (show Kept w12 w13 (fun k => k = g) from hk) (fun k hk => .inl (.inl hk))); clear hx hb hk); rotate_left; (have hw := hw.symm; subst hw; exact ⟨rfl, HB12.out, by rw [HE.out]; rfl⟩)) | (go_at_call 40; (with_reducible refine (num2_both g l10 a9 w0 w13 HB13.out HX13.out HYl10.out HN9.out).mono ?_); rintro e w14 (⟨hle, rfl, hx, hb, hk⟩ | ⟨hlt, rfl, hw⟩); (have HG3 := Aside0.mk hle; clear hle; have HX14 := Aside0.mk (show RdrOf w0 w14 g l12 by rw [HDl12.out]; exact hx); have HB14 := Aside0.mk hb; have HC14 := Aside0.mk (blk_kept (show w13.heap[pb]? = _ from HC13.out) hk (fun hh => HNE.out hh.symm)); have HK14 := Aside0.mk (Kept.then_ HK13.out (show Kept w13 w14 (fun k => k = g) from hk) (fun k hk => .inl (.inl hk))); clear hx hb hk); rotate_left; (have hw := hw.symm; subst hw; exact ⟨rfl, HB13.out, by rw [HE.out]; rfl⟩)) | (go_at_call 40; (with_reducible refine (num_bad g l12 4 w0 w14 HX14.out (by have := HLT.out; have := HLEl12.out; have := HG3.out; omega)).mono ?_); rintro e w15 ⟨rfl, hw⟩; have hw := hw.symm; subst hw; exact ⟨rfl, HB14.out, by rw [HE.out]; rfl⟩))
  have hfs : firstR t fl l = match parsV (l16.length + 1) l16 [] with | .ok ps => .ok ⟨t, fl, a2, 0, 0, 0, a6, a7, a8, a9, [], [], ps, []⟩ | .error e => .error e := by unfold firstR; rw [if_neg h16, ha2, ha6, ha7, ha8, ha9, hl16, hl12, hl10, hl8, hl4]
  have HGE := Aside0.mk (show 16 ≤ l.length by omega)
  have HL16 := Aside0.mk (show l16.length ≤ 65536 by omega)
  cases hps : parsV (l16.length + 1) l16 [] with
  | error e =>
    have HPS := Aside0.mk hps
    have HE := Aside0.mk (show firstR t fl l = .error e by rw [hfs, hps])
    clear hB hx hb hl hpb hne hc hps hfs h16 ha6 ha7 ha8 ha9 ha2 hl4 hyl4 hl8 hyl8 hl10 hyl10 hl12 hyl12 hl16 hyl16
    go_enter Try.func94, Try.ntmps94
    go_wp2_with (first | ((with_reducible refine gate_dst (N := 2) rfl ?_); refine box_event ?hg (N := 2) ?hd (cs := #[.pointer (some ⟨pb, 0, none⟩)]) (t := 80) ?hr ?_; (case hd => rfl); (case hg => rfl); (case hr => first | (go_simp; done) | (go_simp; rfl)); intro p2 hg0 w1 hbox0 hb0; have hp0 : w1.cell? ⟨p2, 0, none⟩ = some (.pointer (some ⟨pb, 0, none⟩)) := blk_cell hbox0 0; have HB1 := Aside0.mk (below_step HB.out hb0); have HX1 := Aside0.mk (HX.out.below hb0); have HC1 := Aside0.mk (blk_below HC.out hb0); have HK1 := Aside0.mk (Kept.of_below hb0 (fun k => k = g ∨ k = pb)); have HP1 := Aside0.mk hbox0; have HPG := Aside0.mk (show ¬ p2 = g by have := HSZ.out; omega); clear hg0 hbox0 hb0) | (go_at_call 40; (with_reducible refine (num4_ok g l a6 w0 w1 HB1.out HX1.out HBY.out HN6.out (by have := HGE.out; omega)).mono ?_); rintro e w11 ⟨rfl, hx, hb, hk⟩; have HX11 := Aside0.mk (show RdrOf w0 w11 g l4 by rw [HDl4.out]; exact hx); have HB11 := Aside0.mk hb; have HC11 := Aside0.mk (blk_kept (show w1.heap[pb]? = _ from HC1.out) hk (fun hh => HNE.out hh.symm)); have HK11 := Aside0.mk (Kept.then_ HK1.out (show Kept w1 w11 (fun k => k = g) from hk) (fun k hk => .inl (.inl hk))); clear hx hb hk) | (go_at_call 40; (with_reducible refine (num4_ok g l4 a7 w0 w11 HB11.out HX11.out HYl4.out HN7.out (by have := HGE.out; have := HLEl4.out; omega)).mono ?_); rintro e w12 ⟨rfl, hx, hb, hk⟩; have HX12 := Aside0.mk (show RdrOf w0 w12 g l8 by rw [HDl8.out]; exact hx); have HB12 := Aside0.mk hb; have HC12 := Aside0.mk (blk_kept (show w11.heap[pb]? = _ from HC11.out) hk (fun hh => HNE.out hh.symm)); have HK12 := Aside0.mk (Kept.then_ HK11.out (show Kept w11 w12 (fun k => k = g) from hk) (fun k hk => .inl (.inl hk))); clear hx hb hk) | (go_at_call 40; (with_reducible refine (num2_ok g l8 a8 w0 w12 HB12.out HX12.out HYl8.out HN8.out (by have := HGE.out; have := HLEl8.out; omega)).mono ?_); rintro e w13 ⟨rfl, hx, hb, hk⟩; have HX13 := Aside0.mk (show RdrOf w0 w13 g l10 by rw [HDl10.out]; exact hx); have HB13 := Aside0.mk hb; have HC13 := Aside0.mk (blk_kept (show w12.heap[pb]? = _ from HC12.out) hk (fun hh => HNE.out hh.symm)); have HK13 := Aside0.mk (Kept.then_ HK12.out (show Kept w12 w13 (fun k => k = g) from hk) (fun k hk => .inl (.inl hk))); clear hx hb hk) | (go_at_call 40; (with_reducible refine (num2_ok g l10 a9 w0 w13 HB13.out HX13.out HYl10.out HN9.out (by have := HGE.out; have := HLEl10.out; omega)).mono ?_); rintro e w14 ⟨rfl, hx, hb, hk⟩; have HX14 := Aside0.mk (show RdrOf w0 w14 g l12 by rw [HDl12.out]; exact hx); have HB14 := Aside0.mk hb; have HC14 := Aside0.mk (blk_kept (show w13.heap[pb]? = _ from HC13.out) hk (fun hh => HNE.out hh.symm)); have HK14 := Aside0.mk (Kept.then_ HK13.out (show Kept w13 w14 (fun k => k = g) from hk) (fun k hk => .inl (.inl hk))); clear hx hb hk) | (go_at_call 40; (with_reducible refine (num4_ok g l12 a2 w0 w14 HB14.out HX14.out HYl12.out HN2.out (by have := HGE.out; have := HLEl12.out; omega)).mono ?_); rintro e w15 ⟨rfl, hx, hb, hk⟩; have HX15 := Aside0.mk (show RdrOf w0 w15 g l16 by rw [HDl16.out]; exact hx); have HB15 := Aside0.mk hb; have HC15 := Aside0.mk (blk_kept (show w14.heap[pb]? = _ from HC14.out) hk (fun hh => HNE.out hh.symm)); have HK15 := Aside0.mk (Kept.then_ HK14.out (show Kept w14 w15 (fun k => k = g) from hk) (fun k hk => .inl (.inl hk))); have hc6 : w15.cell? ⟨pb, 6, none⟩ = some (.int .u32 0) := blk_cell HC15.out 6; have hf6 : w15.frozen? ⟨pb, 6, none⟩ = false := blk_frozen HC15.out 6; have hc7 : w15.cell? ⟨pb, 7, none⟩ = some (.int .u32 0) := blk_cell HC15.out 7; have hf7 : w15.frozen? ⟨pb, 7, none⟩ = false := blk_frozen HC15.out 7; have hc8 : w15.cell? ⟨pb, 8, none⟩ = some (.int .u16 0) := blk_cell HC15.out 8; have hf8 : w15.frozen? ⟨pb, 8, none⟩ = false := blk_frozen HC15.out 8; have hc9 : w15.cell? ⟨pb, 9, none⟩ = some (.int .u16 0) := blk_cell HC15.out 9; have hf9 : w15.frozen? ⟨pb, 9, none⟩ = false := blk_frozen HC15.out 9; have hc2 : w15.cell? ⟨pb, 2, none⟩ = some (.int .u32 0) := blk_cell HC15.out 2; have hf2 : w15.frozen? ⟨pb, 2, none⟩ = false := blk_frozen HC15.out 2; clear hx hb hk))
    refine calls_cut (fun W => W.heap[pb]? = some (.cells #[.int .u8 t, .int .u8 fl, .int .u32 a2, .int .u16 0, .int .u16 0, .int .u32 0, .int .u32 a6, .int .u32 a7, .int .u16 a8, .int .u16 a9, .slice none 0 0, .slice none 0 0, .slice none 0 0, .slice none 0 0] 29 (0, 0)) ∧ RdrOf w0 W g l16 ∧ Below w0.heap.size w0 W ∧ Kept w W (fun k => k = g ∨ k = pb)) ⟨(blk_put (blk_put (blk_put (blk_put (blk_put HC15.out 6 _ rfl) 7 _ rfl) 8 _ rfl) 9 _ rfl) 2 _ rfl), (((((HX15.out.set HNE.out).set HNE.out).set HNE.out).set HNE.out).set HNE.out), (below_set (below_set (below_set (below_set (below_set HB15.out HPB.out) HPB.out) HPB.out) HPB.out) HPB.out), (Kept.setCell (Kept.setCell (Kept.setCell (Kept.setCell (Kept.setCell HK15.out (.inl (.inr rfl)) _) (.inl (.inr rfl)) _) (.inl (.inr rfl)) _) (.inl (.inr rfl)) _) (.inl (.inr rfl)) _)⟩ ?_
    rintro W5 ⟨hcz, hxz, hbz, hkz⟩
    have HC5 := Aside0.mk hcz
    have HX5 := Aside0.mk hxz
    have HB5 := Aside0.mk hbz
    have HK5 := Aside0.mk hkz
    clear hcz hxz hbz hkz hc6 hf6 hc7 hf7 hc8 hf8 hc9 hf9 hc2 hf2
    go_wp2_with (first | (go_at_call 96; (with_reducible refine (params_bad g l16 e w0 W5 HB5.out HX5.out HYl16.out HL16.out HPS.out).mono ?_); rintro e2 w6 ⟨rfl, hb6⟩; exact ⟨rfl, hb6, by rw [HE.out]; rfl⟩))
  | ok ps =>
    have HPS := Aside0.mk hps
    have HE := Aside0.mk (show firstR t fl l = .ok ⟨t, fl, a2, 0, 0, 0, a6, a7, a8, a9, [], [], ps, []⟩ by rw [hfs, hps])
    clear hB hx hb hl hpb hne hc hps hfs h16 ha6 ha7 ha8 ha9 ha2 hl4 hyl4 hl8 hyl8 hl10 hyl10 hl12 hyl12 hl16 hyl16
    go_enter Try.func94, Try.ntmps94
    go_wp2_with (first | ((with_reducible refine gate_dst (N := 2) rfl ?_); refine box_event ?hg (N := 2) ?hd (cs := #[.pointer (some ⟨pb, 0, none⟩)]) (t := 80) ?hr ?_; (case hd => rfl); (case hg => rfl); (case hr => first | (go_simp; done) | (go_simp; rfl)); intro p2 hg0 w1 hbox0 hb0; have hp0 : w1.cell? ⟨p2, 0, none⟩ = some (.pointer (some ⟨pb, 0, none⟩)) := blk_cell hbox0 0; have HB1 := Aside0.mk (below_step HB.out hb0); have HX1 := Aside0.mk (HX.out.below hb0); have HC1 := Aside0.mk (blk_below HC.out hb0); have HK1 := Aside0.mk (Kept.of_below hb0 (fun k => k = g ∨ k = pb)); have HP1 := Aside0.mk hbox0; have HPG := Aside0.mk (show ¬ p2 = g by have := HSZ.out; omega); clear hg0 hbox0 hb0) | (go_at_call 40; (with_reducible refine (num4_ok g l a6 w0 w1 HB1.out HX1.out HBY.out HN6.out (by have := HGE.out; omega)).mono ?_); rintro e w11 ⟨rfl, hx, hb, hk⟩; have HX11 := Aside0.mk (show RdrOf w0 w11 g l4 by rw [HDl4.out]; exact hx); have HB11 := Aside0.mk hb; have HC11 := Aside0.mk (blk_kept (show w1.heap[pb]? = _ from HC1.out) hk (fun hh => HNE.out hh.symm)); have HK11 := Aside0.mk (Kept.then_ HK1.out (show Kept w1 w11 (fun k => k = g) from hk) (fun k hk => .inl (.inl hk))); clear hx hb hk) | (go_at_call 40; (with_reducible refine (num4_ok g l4 a7 w0 w11 HB11.out HX11.out HYl4.out HN7.out (by have := HGE.out; have := HLEl4.out; omega)).mono ?_); rintro e w12 ⟨rfl, hx, hb, hk⟩; have HX12 := Aside0.mk (show RdrOf w0 w12 g l8 by rw [HDl8.out]; exact hx); have HB12 := Aside0.mk hb; have HC12 := Aside0.mk (blk_kept (show w11.heap[pb]? = _ from HC11.out) hk (fun hh => HNE.out hh.symm)); have HK12 := Aside0.mk (Kept.then_ HK11.out (show Kept w11 w12 (fun k => k = g) from hk) (fun k hk => .inl (.inl hk))); clear hx hb hk) | (go_at_call 40; (with_reducible refine (num2_ok g l8 a8 w0 w12 HB12.out HX12.out HYl8.out HN8.out (by have := HGE.out; have := HLEl8.out; omega)).mono ?_); rintro e w13 ⟨rfl, hx, hb, hk⟩; have HX13 := Aside0.mk (show RdrOf w0 w13 g l10 by rw [HDl10.out]; exact hx); have HB13 := Aside0.mk hb; have HC13 := Aside0.mk (blk_kept (show w12.heap[pb]? = _ from HC12.out) hk (fun hh => HNE.out hh.symm)); have HK13 := Aside0.mk (Kept.then_ HK12.out (show Kept w12 w13 (fun k => k = g) from hk) (fun k hk => .inl (.inl hk))); clear hx hb hk) | (go_at_call 40; (with_reducible refine (num2_ok g l10 a9 w0 w13 HB13.out HX13.out HYl10.out HN9.out (by have := HGE.out; have := HLEl10.out; omega)).mono ?_); rintro e w14 ⟨rfl, hx, hb, hk⟩; have HX14 := Aside0.mk (show RdrOf w0 w14 g l12 by rw [HDl12.out]; exact hx); have HB14 := Aside0.mk hb; have HC14 := Aside0.mk (blk_kept (show w13.heap[pb]? = _ from HC13.out) hk (fun hh => HNE.out hh.symm)); have HK14 := Aside0.mk (Kept.then_ HK13.out (show Kept w13 w14 (fun k => k = g) from hk) (fun k hk => .inl (.inl hk))); clear hx hb hk) | (go_at_call 40; (with_reducible refine (num4_ok g l12 a2 w0 w14 HB14.out HX14.out HYl12.out HN2.out (by have := HGE.out; have := HLEl12.out; omega)).mono ?_); rintro e w15 ⟨rfl, hx, hb, hk⟩; have HX15 := Aside0.mk (show RdrOf w0 w15 g l16 by rw [HDl16.out]; exact hx); have HB15 := Aside0.mk hb; have HC15 := Aside0.mk (blk_kept (show w14.heap[pb]? = _ from HC14.out) hk (fun hh => HNE.out hh.symm)); have HK15 := Aside0.mk (Kept.then_ HK14.out (show Kept w14 w15 (fun k => k = g) from hk) (fun k hk => .inl (.inl hk))); have hc6 : w15.cell? ⟨pb, 6, none⟩ = some (.int .u32 0) := blk_cell HC15.out 6; have hf6 : w15.frozen? ⟨pb, 6, none⟩ = false := blk_frozen HC15.out 6; have hc7 : w15.cell? ⟨pb, 7, none⟩ = some (.int .u32 0) := blk_cell HC15.out 7; have hf7 : w15.frozen? ⟨pb, 7, none⟩ = false := blk_frozen HC15.out 7; have hc8 : w15.cell? ⟨pb, 8, none⟩ = some (.int .u16 0) := blk_cell HC15.out 8; have hf8 : w15.frozen? ⟨pb, 8, none⟩ = false := blk_frozen HC15.out 8; have hc9 : w15.cell? ⟨pb, 9, none⟩ = some (.int .u16 0) := blk_cell HC15.out 9; have hf9 : w15.frozen? ⟨pb, 9, none⟩ = false := blk_frozen HC15.out 9; have hc2 : w15.cell? ⟨pb, 2, none⟩ = some (.int .u32 0) := blk_cell HC15.out 2; have hf2 : w15.frozen? ⟨pb, 2, none⟩ = false := blk_frozen HC15.out 2; clear hx hb hk))
    refine calls_cut (fun W => W.heap[pb]? = some (.cells #[.int .u8 t, .int .u8 fl, .int .u32 a2, .int .u16 0, .int .u16 0, .int .u32 0, .int .u32 a6, .int .u32 a7, .int .u16 a8, .int .u16 a9, .slice none 0 0, .slice none 0 0, .slice none 0 0, .slice none 0 0] 29 (0, 0)) ∧ RdrOf w0 W g l16 ∧ Below w0.heap.size w0 W ∧ Kept w W (fun k => k = g ∨ k = pb)) ⟨(blk_put (blk_put (blk_put (blk_put (blk_put HC15.out 6 _ rfl) 7 _ rfl) 8 _ rfl) 9 _ rfl) 2 _ rfl), (((((HX15.out.set HNE.out).set HNE.out).set HNE.out).set HNE.out).set HNE.out), (below_set (below_set (below_set (below_set (below_set HB15.out HPB.out) HPB.out) HPB.out) HPB.out) HPB.out), (Kept.setCell (Kept.setCell (Kept.setCell (Kept.setCell (Kept.setCell HK15.out (.inl (.inr rfl)) _) (.inl (.inr rfl)) _) (.inl (.inr rfl)) _) (.inl (.inr rfl)) _) (.inl (.inr rfl)) _)⟩ ?_
    rintro W5 ⟨hcz, hxz, hbz, hkz⟩
    have HC5 := Aside0.mk hcz
    have HX5 := Aside0.mk hxz
    have HB5 := Aside0.mk hbz
    have HK5 := Aside0.mk hkz
    clear hcz hxz hbz hkz hc6 hf6 hc7 hf7 hc8 hf8 hc9 hf9 hc2 hf2
    go_wp2_with (first | (go_at_call 96; (with_reducible refine (params_ok g l16 ps w0 W5 HB5.out HX5.out HYl16.out HL16.out HPS.out).mono ?_); rintro e2 w6 ⟨v6, rfl, ho6, hb6, hk6⟩; obtain ⟨A6, c6, e6⟩ := Kd.R_slice ho6; subst e6; have HO6 := Aside0.mk ho6; have HB6 := Aside0.mk hb6; have HC6 := Aside0.mk (blk_kept (show W5.heap[pb]? = _ from HC5.out) hk6 (fun hh => HNE.out hh.symm)); have HK6 := Aside0.mk (Kept.then_ HK5.out (show Kept W5 w6 (fun k => k = g) from hk6) (fun k hk => .inl (.inl hk))); have hc12 : w6.cell? ⟨pb, 12, none⟩ = some (.slice none 0 0) := blk_cell HC6.out 12; have hf12 : w6.frozen? ⟨pb, 12, none⟩ = false := blk_frozen HC6.out 12; clear ho6 hb6 hk6))
    go_end0
    exact ⟨below_set HB6.out HPB.out, by rw [HE.out]; exact ⟨rfl, ⟨_, _, _, _, blk_put HC6.out 12 _ rfl, Kd.R_nil _ _ _ _ _, Kd.R_nil _ _ _ _ _, Kd.R_lower (R_setpb HO6.out (Nat.lt_of_lt_of_le (blk_lt HC.out) HK5.out.1)) HK5.out.1, Kd.R_nil _ _ _ _ _⟩, Kept.setCell HK6.out (.inl (.inr rfl)) _⟩⟩
end Go.Proofs.Ytaahkggbjpdofaa.M
end
section
/- The acknowledgement's read. -/
namespace Go.Proofs.Ytaahkggbjpdofaa.M
open Go.RowKit Go.Proofs.YtaahkggbjpdofaaW.PrintWords Go.Proofs.YtaahkggbjpdofaaW.PrintLast Go.Proofs.YtaahkggbjpdofaaW.PrintMore
open Go.Proofs.Ytaahkggbjpdofaa.Pure
set_option linter.unusedVariables false
set_option linter.unusedSimpArgs false
theorem apart_bd : ∀ q, q ∈ 101 :: k101.E → q ≠ 22 := by
  intro q hq he
  have h0 : List.elem 22 (101 :: k101.E) = false := by kernel_rfl
  rw [he] at hq
  rw [List.elem_eq_true_of_mem hq] at h0
  cases h0
theorem keepB {W w1 : World} {B : Nat} {v10 v11 : Value} {out : List S101} {dps : List Int} (h : Kd.R k101 101 W B (fun k => B ≤ k) v10 out) (hd : Kd.R (Kd.int .u32) 22 W B (fun k => B ≤ k) v11 dps) (hg : W.grownBy w1 v11.ownBlock) : Kd.R k101 101 w1 B (fun k => B ≤ k) v10 out := by
  refine Kd.R_mono (ok := fun k => B ≤ k ∧ some k ≠ v11.ownBlock) (Kd.R_step (Kd.R_mono (Kd.R_bound h) (fun k hk => ⟨hk.1, fun he => ?_⟩)) (fun k hk hlt => hg.block k hlt hk.2)) (fun k hk => hk.1)
  obtain ⟨q, hq, cells, hc⟩ := hk.2.2.2
  obtain ⟨inner, ho⟩ := Kd.R_own hd
  obtain ⟨cells', hc'⟩ := own_typed ho k he.symm
  rw [hc] at hc'
  injection hc' with h1
  injection h1 with _ h2
  exact apart_bd q hq h2
theorem u32w {x : Int} (h : 0 ≤ x ∧ x < 4294967296) : IntKind.u32.wrap x = x := Pure.w32 h.1 h.2
/-- Blocks, and doubles, of bytes. -/
def blocksV : Nat → List Int → List S101
  | 0, _ => []
  | k + 1, l => ⟨numN l 2, numN (l.drop 2) 2⟩ :: blocksV k (l.drop 4)
def dupsV : Nat → List Int → List Int
  | 0, _ => []
  | k + 1, l => numN l 4 :: dupsV k (l.drop 4)
/-- The chunk of an acknowledgement. -/
def sackR (t fl : Int) (l : List Int) : Except Int S29 := if l.length < 12 then .error 4 else
  if ¬ ((((((l.drop 4).drop 4).drop 2).drop 2).length : Int) = 4 * numN ((l.drop 4).drop 4) 2 + 4 * numN (((l.drop 4).drop 4).drop 2) 2) then .error 4 else
  if 16 < numN ((l.drop 4).drop 4) 2 ∨ 16 < numN (((l.drop 4).drop 4).drop 2) 2 then .error 6 else
  .ok ⟨t, fl, numN l 4, 0, 0, 0, 0, numN (l.drop 4) 4, 0, 0, blocksV (numN ((l.drop 4).drop 4) 2).toNat ((((l.drop 4).drop 4).drop 2).drop 2), dupsV (numN (((l.drop 4).drop 4).drop 2) 2).toNat (((((l.drop 4).drop 4).drop 2).drop 2).drop (4 * (numN ((l.drop 4).drop 4) 2).toNat)), [], []⟩
set_option maxHeartbeats 4000000 in
set_option maxRecDepth 100000 in
theorem sack_reads (g pb : Nat) (l : List Int) (t fl : Int) (w0 w : World) (hB : Below w0.heap.size w0 w) (hx : RdrOf w0 w g l) (hb : Bytes l) (hl : l.length ≤ 65536) (hpb : w0.heap.size ≤ pb) (hne : g ≠ pb) (hc : w.heap[pb]? = some (.cells #[.int .u8 t, .int .u8 fl, .int .u32 0, .int .u16 0, .int .u16 0, .int .u32 0, .int .u32 0, .int .u32 0, .int .u16 0, .int .u16 0, .slice none 0 0, .slice none 0 0, .slice none 0 0, .slice none 0 0] 29 (0, 0))) :
    Calls Try.prog 98 #[.agg #[.pointer (some ⟨pb, 0, none⟩)], .pointer (some ⟨g, 0, none⟩)] w fun x w' => Below w0.heap.size w0 w' ∧ ReadOut w w' g pb x (sackR t fl l) := by
  have HB := Aside0.mk hB
  have HX := Aside0.mk hx
  have HBY := Aside0.mk hb
  have HL := Aside0.mk hl
  have HPB := Aside0.mk hpb
  have HNE := Aside0.mk hne
  have HC := Aside0.mk hc
  have HSZ := Aside0.mk hx.lt
  obtain ⟨a2, ha2⟩ : ∃ a2, a2 = numN l 4 := ⟨_, rfl⟩
  obtain ⟨l4, hl4⟩ : ∃ l4, l4 = l.drop 4 := ⟨_, rfl⟩
  have HN2 := Aside0.mk ha2
  have HDl4 := Aside0.mk hl4
  have hyl4 : l4.length = l.length - 4 := by rw [hl4, List.length_drop]
  have HYl4 := Aside0.mk (show Bytes l4 by rw [hl4]; exact HBY.out.drop 4)
  have HLEl4 := Aside0.mk (show l4.length = l.length - 4 by omega)
  have hm2 : a2 % 4294967296 = a2 := by have := numN_range HBY.out 4 (by decide); rw [ha2]; omega
  obtain ⟨a7, ha7⟩ : ∃ a7, a7 = numN l4 4 := ⟨_, rfl⟩
  obtain ⟨l8, hl8⟩ : ∃ l8, l8 = l4.drop 4 := ⟨_, rfl⟩
  have HN7 := Aside0.mk ha7
  have HDl8 := Aside0.mk hl8
  have hyl8 : l8.length = l4.length - 4 := by rw [hl8, List.length_drop]
  have HYl8 := Aside0.mk (show Bytes l8 by rw [hl8]; exact HYl4.out.drop 4)
  have HLEl8 := Aside0.mk (show l8.length = l.length - 8 by omega)
  have hm7 : a7 % 4294967296 = a7 := by have := numN_range HYl4.out 4 (by decide); rw [ha7]; omega
  obtain ⟨n, hn⟩ : ∃ n, n = numN l8 2 := ⟨_, rfl⟩
  obtain ⟨l10, hl10⟩ : ∃ l10, l10 = l8.drop 2 := ⟨_, rfl⟩
  obtain ⟨m, hm⟩ : ∃ m, m = numN l10 2 := ⟨_, rfl⟩
  obtain ⟨l12, hl12⟩ : ∃ l12, l12 = l10.drop 2 := ⟨_, rfl⟩
  have HNN := Aside0.mk hn
  have HMM := Aside0.mk hm
  have HD10 := Aside0.mk hl10
  have HD12 := Aside0.mk hl12
  have hy10 : l10.length = l8.length - 2 := by rw [hl10, List.length_drop]
  have hy12 : l12.length = l10.length - 2 := by rw [hl12, List.length_drop]
  have HY10 := Aside0.mk (show Bytes l10 by rw [hl10]; exact HYl8.out.drop 2)
  have HY12 := Aside0.mk (show Bytes l12 by rw [hl12]; exact HY10.out.drop 2)
  have HLE10 := Aside0.mk (show l10.length = l.length - 10 by omega)
  have HLE12 := Aside0.mk (show l12.length = l.length - 12 by omega)
  have hnr := num2_range HYl8.out
  have hmr := num2_range HY10.out
  rw [← hn] at hnr
  rw [← hm] at hmr
  have HNR := Aside0.mk hnr
  have HMR := Aside0.mk hmr
  have hw4n : wrap64 (4 * n) = 4 * n := w64 (by omega) (by omega)
  have hw4m : wrap64 (4 * m) = 4 * m := w64 (by omega) (by omega)
  have hw4s : wrap64 (4 * n + 4 * m) = 4 * n + 4 * m := w64 (by omega) (by omega)
  have hspec : sackR t fl l = if l.length < 12 then .error 4 else if ¬ ((l12.length : Int) = 4 * n + 4 * m) then .error 4 else if 16 < n ∨ 16 < m then .error 6 else .ok ⟨t, fl, a2, 0, 0, 0, 0, a7, 0, 0, blocksV n.toNat l12, dupsV m.toNat (l12.drop (4 * n.toNat)), [], []⟩ := by unfold sackR; rw [hm, hn, ha2, ha7, hl12, hl10, hl8, hl4]
  have HSP := Aside0.mk hspec
  by_cases h12 : l.length < 12
  · have HE := Aside0.mk (show sackR t fl l = .error 4 by rw [hspec, if_pos h12])
    by_cases h8 : l.length < 8
    · have HLT := Aside0.mk h8
      clear hB hx hb hl hpb hne hc ha2 ha7 hl4 hyl4 hl8 hyl8 hn hm hl10 hl12 hy10 hy12 hnr hmr hspec h12 h8
      go_enter Try.func98, Try.ntmps98
      go_wp2_with (first | ((with_reducible refine gate_dst (N := 2) rfl ?_); refine box_event ?hg (N := 2) ?hd (cs := #[.pointer (some ⟨pb, 0, none⟩)]) (t := 81) ?hr ?_; (case hd => rfl); (case hg => rfl); (case hr => first | (go_simp; done) | (go_simp; rfl)); intro p2 hg0 w1 hbox0 hb0; have hp0 : w1.cell? ⟨p2, 0, none⟩ = some (.pointer (some ⟨pb, 0, none⟩)) := blk_cell hbox0 0; have HB1 := Aside0.mk (below_step HB.out hb0); have HX1 := Aside0.mk (HX.out.below hb0); have HC1 := Aside0.mk (blk_below HC.out hb0); have HK1 := Aside0.mk (Kept.of_below hb0 (fun k => k = g ∨ k = pb)); have HP1 := Aside0.mk hbox0; have HPG := Aside0.mk (show ¬ p2 = g by have := HSZ.out; omega); clear hg0 hbox0 hb0) | (go_at_call 40; (with_reducible refine (num4_both g l a2 w0 w1 HB1.out HX1.out HBY.out HN2.out).mono ?_); rintro e w11 (⟨hle, rfl, hx, hb, hk⟩ | ⟨hlt, rfl, hw⟩); (have HG0 := Aside0.mk hle; clear hle; have HX11 := Aside0.mk (show RdrOf w0 w11 g l4 by rw [HDl4.out]; exact hx); have HB11 := Aside0.mk hb; have HC11 := Aside0.mk (blk_kept (show w1.heap[pb]? = _ from HC1.out) hk (fun hh => HNE.out hh.symm)); have HK11 := Aside0.mk (Kept.then_ HK1.out (show Kept w1 w11 (fun k => k = g) from hk) (fun k hk => .inl (.inl hk))); clear hx hb hk); rotate_left; (have hw := hw.symm; subst hw; exact ⟨rfl, HB1.out, by rw [HE.out]; rfl⟩)) | (go_at_call 40; (with_reducible refine (num_bad g l4 4 w0 w11 HX11.out (by have := HLT.out; have := HLEl4.out; have := HG0.out; omega)).mono ?_); rintro e w12 ⟨rfl, hw⟩; have hw := hw.symm; subst hw; exact ⟨rfl, HB11.out, by rw [HE.out]; rfl⟩))
    have HGE := Aside0.mk (show 8 ≤ l.length by omega)
    have HLT := Aside0.mk h12
    clear hB hx hb hl hpb hne hc ha2 ha7 hl4 hyl4 hl8 hyl8 hn hm hl10 hl12 hy10 hy12 hnr hmr hspec h12 h8
    go_enter Try.func98, Try.ntmps98
    go_wp2_with (first | ((with_reducible refine gate_dst (N := 2) rfl ?_); refine box_event ?hg (N := 2) ?hd (cs := #[.pointer (some ⟨pb, 0, none⟩)]) (t := 81) ?hr ?_; (case hd => rfl); (case hg => rfl); (case hr => first | (go_simp; done) | (go_simp; rfl)); intro p2 hg0 w1 hbox0 hb0; have hp0 : w1.cell? ⟨p2, 0, none⟩ = some (.pointer (some ⟨pb, 0, none⟩)) := blk_cell hbox0 0; have HB1 := Aside0.mk (below_step HB.out hb0); have HX1 := Aside0.mk (HX.out.below hb0); have HC1 := Aside0.mk (blk_below HC.out hb0); have HK1 := Aside0.mk (Kept.of_below hb0 (fun k => k = g ∨ k = pb)); have HP1 := Aside0.mk hbox0; have HPG := Aside0.mk (show ¬ p2 = g by have := HSZ.out; omega); clear hg0 hbox0 hb0) | (go_at_call 40; (with_reducible refine (num4_ok g l a2 w0 w1 HB1.out HX1.out HBY.out HN2.out (by have := HGE.out; omega)).mono ?_); rintro e w11 ⟨rfl, hx, hb, hk⟩; have HX11 := Aside0.mk (show RdrOf w0 w11 g l4 by rw [HDl4.out]; exact hx); have HB11 := Aside0.mk hb; have HC11 := Aside0.mk (blk_kept (show w1.heap[pb]? = _ from HC1.out) hk (fun hh => HNE.out hh.symm)); have HK11 := Aside0.mk (Kept.then_ HK1.out (show Kept w1 w11 (fun k => k = g) from hk) (fun k hk => .inl (.inl hk))); clear hx hb hk) | (go_at_call 40; (with_reducible refine (num4_ok g l4 a7 w0 w11 HB11.out HX11.out HYl4.out HN7.out (by have := HGE.out; have := HLEl4.out; omega)).mono ?_); rintro e w12 ⟨rfl, hx, hb, hk⟩; have HX12 := Aside0.mk (show RdrOf w0 w12 g l8 by rw [HDl8.out]; exact hx); have HB12 := Aside0.mk hb; have HC12 := Aside0.mk (blk_kept (show w11.heap[pb]? = _ from HC11.out) hk (fun hh => HNE.out hh.symm)); have HK12 := Aside0.mk (Kept.then_ HK11.out (show Kept w11 w12 (fun k => k = g) from hk) (fun k hk => .inl (.inl hk))); have hc2 : w12.cell? ⟨pb, 2, none⟩ = some (.int .u32 0) := blk_cell HC12.out 2; have hf2 : w12.frozen? ⟨pb, 2, none⟩ = false := blk_frozen HC12.out 2; have hc7 : w12.cell? ⟨pb, 7, none⟩ = some (.int .u32 0) := blk_cell HC12.out 7; have hf7 : w12.frozen? ⟨pb, 7, none⟩ = false := blk_frozen HC12.out 7; clear hx hb hk))
    refine calls_cut (fun W => W.heap[pb]? = some (.cells #[.int .u8 t, .int .u8 fl, .int .u32 a2, .int .u16 0, .int .u16 0, .int .u32 0, .int .u32 0, .int .u32 a7, .int .u16 0, .int .u16 0, .slice none 0 0, .slice none 0 0, .slice none 0 0, .slice none 0 0] 29 (0, 0)) ∧ RdrOf w0 W g l8 ∧ Below w0.heap.size w0 W ∧ Kept w W (fun k => k = g ∨ k = pb)) ⟨(blk_put (blk_put HC12.out 2 _ rfl) 7 _ rfl), ((HX12.out.set HNE.out).set HNE.out), (below_set (below_set HB12.out HPB.out) HPB.out), (Kept.setCell (Kept.setCell HK12.out (.inl (.inr rfl)) _) (.inl (.inr rfl)) _)⟩ ?_
    rintro W5 ⟨hcz, hxz, hbz, hkz⟩
    have HC5 := Aside0.mk hcz
    have HX5 := Aside0.mk hxz
    have HB5 := Aside0.mk hbz
    have HK5 := Aside0.mk hkz
    clear hcz hxz hbz hkz hc2 hf2 hc7 hf7
    go_wp2_with (first | (go_at_call 40; (with_reducible refine (num2_both g l8 n w0 W5 HB5.out HX5.out HYl8.out HNN.out).mono ?_); rintro e w23 (⟨hle, rfl, hx, hb, hk⟩ | ⟨hlt, rfl, hw⟩); (have HG8 := Aside0.mk hle; have HX23 := Aside0.mk (show RdrOf w0 w23 g l10 by rw [HD10.out]; exact hx); have HB23 := Aside0.mk hb; clear hle hx hb hk); rotate_left; (have hw := hw.symm; subst hw; exact ⟨rfl, HB5.out, by rw [HE.out]; rfl⟩)) | (go_at_call 40; (with_reducible refine (num_bad g l10 2 w0 w23 HX23.out (by have := HLT.out; have := HLE10.out; have := HLEl8.out; have := HG8.out; omega)).mono ?_); rintro e w24 ⟨rfl, hw⟩; have hw := hw.symm; subst hw; exact ⟨rfl, HB23.out, by rw [HE.out]; rfl⟩))
  have HGE := Aside0.mk (show 12 ≤ l.length by omega)
  by_cases e1 : (l12.length : Int) = 4 * n + 4 * m
  case neg =>
    have HE := Aside0.mk (show sackR t fl l = .error 4 by rw [hspec, if_neg h12, if_pos e1])
    have t1 : ((l12.length : Int) == 4 * n + 4 * m) = false := beq_eq_false_iff_ne.mpr e1
    have t2 : ((l12.length : Int) = 4 * n + 4 * m) = False := eq_false e1
    clear e1
    clear hB hx hb hl hpb hne hc ha2 ha7 hl4 hyl4 hl8 hyl8 hn hm hl10 hl12 hy10 hy12 hnr hmr hspec h12
    go_enter Try.func98, Try.ntmps98
    go_wp2_with (first | ((with_reducible refine gate_dst (N := 2) rfl ?_); refine box_event ?hg (N := 2) ?hd (cs := #[.pointer (some ⟨pb, 0, none⟩)]) (t := 81) ?hr ?_; (case hd => rfl); (case hg => rfl); (case hr => first | (go_simp; done) | (go_simp; rfl)); intro p2 hg0 w1 hbox0 hb0; have hp0 : w1.cell? ⟨p2, 0, none⟩ = some (.pointer (some ⟨pb, 0, none⟩)) := blk_cell hbox0 0; have HB1 := Aside0.mk (below_step HB.out hb0); have HX1 := Aside0.mk (HX.out.below hb0); have HC1 := Aside0.mk (blk_below HC.out hb0); have HK1 := Aside0.mk (Kept.of_below hb0 (fun k => k = g ∨ k = pb)); have HP1 := Aside0.mk hbox0; have HPG := Aside0.mk (show ¬ p2 = g by have := HSZ.out; omega); clear hg0 hbox0 hb0) | (go_at_call 40; (with_reducible refine (num4_ok g l a2 w0 w1 HB1.out HX1.out HBY.out HN2.out (by have := HGE.out; omega)).mono ?_); rintro e w11 ⟨rfl, hx, hb, hk⟩; have HX11 := Aside0.mk (show RdrOf w0 w11 g l4 by rw [HDl4.out]; exact hx); have HB11 := Aside0.mk hb; have HC11 := Aside0.mk (blk_kept (show w1.heap[pb]? = _ from HC1.out) hk (fun hh => HNE.out hh.symm)); have HK11 := Aside0.mk (Kept.then_ HK1.out (show Kept w1 w11 (fun k => k = g) from hk) (fun k hk => .inl (.inl hk))); clear hx hb hk) | (go_at_call 40; (with_reducible refine (num4_ok g l4 a7 w0 w11 HB11.out HX11.out HYl4.out HN7.out (by have := HGE.out; have := HLEl4.out; omega)).mono ?_); rintro e w12 ⟨rfl, hx, hb, hk⟩; have HX12 := Aside0.mk (show RdrOf w0 w12 g l8 by rw [HDl8.out]; exact hx); have HB12 := Aside0.mk hb; have HC12 := Aside0.mk (blk_kept (show w11.heap[pb]? = _ from HC11.out) hk (fun hh => HNE.out hh.symm)); have HK12 := Aside0.mk (Kept.then_ HK11.out (show Kept w11 w12 (fun k => k = g) from hk) (fun k hk => .inl (.inl hk))); have hc2 : w12.cell? ⟨pb, 2, none⟩ = some (.int .u32 0) := blk_cell HC12.out 2; have hf2 : w12.frozen? ⟨pb, 2, none⟩ = false := blk_frozen HC12.out 2; have hc7 : w12.cell? ⟨pb, 7, none⟩ = some (.int .u32 0) := blk_cell HC12.out 7; have hf7 : w12.frozen? ⟨pb, 7, none⟩ = false := blk_frozen HC12.out 7; clear hx hb hk))
    refine calls_cut (fun W => W.heap[pb]? = some (.cells #[.int .u8 t, .int .u8 fl, .int .u32 a2, .int .u16 0, .int .u16 0, .int .u32 0, .int .u32 0, .int .u32 a7, .int .u16 0, .int .u16 0, .slice none 0 0, .slice none 0 0, .slice none 0 0, .slice none 0 0] 29 (0, 0)) ∧ RdrOf w0 W g l8 ∧ Below w0.heap.size w0 W ∧ Kept w W (fun k => k = g ∨ k = pb)) ⟨(blk_put (blk_put HC12.out 2 _ rfl) 7 _ rfl), ((HX12.out.set HNE.out).set HNE.out), (below_set (below_set HB12.out HPB.out) HPB.out), (Kept.setCell (Kept.setCell HK12.out (.inl (.inr rfl)) _) (.inl (.inr rfl)) _)⟩ ?_
    rintro W5 ⟨hcz, hxz, hbz, hkz⟩
    have HC5 := Aside0.mk hcz
    have HX5 := Aside0.mk hxz
    have HB5 := Aside0.mk hbz
    have HK5 := Aside0.mk hkz
    clear hcz hxz hbz hkz hc2 hf2 hc7 hf7
    go_wp2_with (first | (go_at_call 40; (with_reducible refine (num2_ok g l8 n w0 W5 HB5.out HX5.out HYl8.out HNN.out (by have := HGE.out; have := HLEl8.out; omega)).mono ?_); rintro e w23 ⟨rfl, hx, hb, hk⟩; have HX23 := Aside0.mk (show RdrOf w0 w23 g l10 by rw [HD10.out]; exact hx); have HB23 := Aside0.mk hb; have HC23 := Aside0.mk (blk_kept (show W5.heap[pb]? = _ from HC5.out) hk (fun hh => HNE.out hh.symm)); have HK23 := Aside0.mk (Kept.then_ HK5.out (show Kept W5 w23 (fun k => k = g) from hk) (fun k hk => .inl (.inl hk))); clear hx hb hk) | (go_at_call 40; (with_reducible refine (num2_ok g l10 m w0 w23 HB23.out HX23.out HY10.out HMM.out (by have := HGE.out; have := HLE10.out; omega)).mono ?_); rintro e w24 ⟨rfl, hx, hb, hk⟩; have HX24 := Aside0.mk (show RdrOf w0 w24 g l12 by rw [HD12.out]; exact hx); have HB24 := Aside0.mk hb; have HC24 := Aside0.mk (blk_kept (show w23.heap[pb]? = _ from HC23.out) hk (fun hh => HNE.out hh.symm)); have HK24 := Aside0.mk (Kept.then_ HK23.out (show Kept w23 w24 (fun k => k = g) from hk) (fun k hk => .inl (.inl hk))); clear hx hb hk; obtain ⟨hg_, A24, c24, hb24, hc24, hC24⟩ := HX24.out; have hq24 : w24.cell? ⟨g, 0, none⟩ = some (.slice A24 l12.length c24) := blk_cell hb24 0; clear hg_ hb24 hc24 hC24) | (go_at_call 38; (with_reducible refine (must_bad _ _).mono ?_); rintro e wm ⟨rfl, hwm⟩; have hwm := hwm.symm; subst hwm))
    exact ⟨rfl, HB24.out, by rw [HE.out]; rfl⟩
  have t1 : ((l12.length : Int) == 4 * n + 4 * m) = true := beq_iff_eq.mpr e1
  have t2 : ((l12.length : Int) = 4 * n + 4 * m) = True := eq_true e1
  have HE1 := Aside0.mk e1
  by_cases e2 : 16 < n
  · have HE := Aside0.mk (show sackR t fl l = .error 6 by rw [hspec, if_neg h12, if_neg (fun h => h e1), if_pos (.inl e2)])
    have t3 : decide (n ≤ 16) = false := decide_eq_false (by omega)
    clear e1 e2
    clear hB hx hb hl hpb hne hc ha2 ha7 hl4 hyl4 hl8 hyl8 hn hm hl10 hl12 hy10 hy12 hnr hmr hspec h12
    go_enter Try.func98, Try.ntmps98
    go_wp2_with (first | ((with_reducible refine gate_dst (N := 2) rfl ?_); refine box_event ?hg (N := 2) ?hd (cs := #[.pointer (some ⟨pb, 0, none⟩)]) (t := 81) ?hr ?_; (case hd => rfl); (case hg => rfl); (case hr => first | (go_simp; done) | (go_simp; rfl)); intro p2 hg0 w1 hbox0 hb0; have hp0 : w1.cell? ⟨p2, 0, none⟩ = some (.pointer (some ⟨pb, 0, none⟩)) := blk_cell hbox0 0; have HB1 := Aside0.mk (below_step HB.out hb0); have HX1 := Aside0.mk (HX.out.below hb0); have HC1 := Aside0.mk (blk_below HC.out hb0); have HK1 := Aside0.mk (Kept.of_below hb0 (fun k => k = g ∨ k = pb)); have HP1 := Aside0.mk hbox0; have HPG := Aside0.mk (show ¬ p2 = g by have := HSZ.out; omega); clear hg0 hbox0 hb0) | (go_at_call 40; (with_reducible refine (num4_ok g l a2 w0 w1 HB1.out HX1.out HBY.out HN2.out (by have := HGE.out; omega)).mono ?_); rintro e w11 ⟨rfl, hx, hb, hk⟩; have HX11 := Aside0.mk (show RdrOf w0 w11 g l4 by rw [HDl4.out]; exact hx); have HB11 := Aside0.mk hb; have HC11 := Aside0.mk (blk_kept (show w1.heap[pb]? = _ from HC1.out) hk (fun hh => HNE.out hh.symm)); have HK11 := Aside0.mk (Kept.then_ HK1.out (show Kept w1 w11 (fun k => k = g) from hk) (fun k hk => .inl (.inl hk))); clear hx hb hk) | (go_at_call 40; (with_reducible refine (num4_ok g l4 a7 w0 w11 HB11.out HX11.out HYl4.out HN7.out (by have := HGE.out; have := HLEl4.out; omega)).mono ?_); rintro e w12 ⟨rfl, hx, hb, hk⟩; have HX12 := Aside0.mk (show RdrOf w0 w12 g l8 by rw [HDl8.out]; exact hx); have HB12 := Aside0.mk hb; have HC12 := Aside0.mk (blk_kept (show w11.heap[pb]? = _ from HC11.out) hk (fun hh => HNE.out hh.symm)); have HK12 := Aside0.mk (Kept.then_ HK11.out (show Kept w11 w12 (fun k => k = g) from hk) (fun k hk => .inl (.inl hk))); have hc2 : w12.cell? ⟨pb, 2, none⟩ = some (.int .u32 0) := blk_cell HC12.out 2; have hf2 : w12.frozen? ⟨pb, 2, none⟩ = false := blk_frozen HC12.out 2; have hc7 : w12.cell? ⟨pb, 7, none⟩ = some (.int .u32 0) := blk_cell HC12.out 7; have hf7 : w12.frozen? ⟨pb, 7, none⟩ = false := blk_frozen HC12.out 7; clear hx hb hk))
    refine calls_cut (fun W => W.heap[pb]? = some (.cells #[.int .u8 t, .int .u8 fl, .int .u32 a2, .int .u16 0, .int .u16 0, .int .u32 0, .int .u32 0, .int .u32 a7, .int .u16 0, .int .u16 0, .slice none 0 0, .slice none 0 0, .slice none 0 0, .slice none 0 0] 29 (0, 0)) ∧ RdrOf w0 W g l8 ∧ Below w0.heap.size w0 W ∧ Kept w W (fun k => k = g ∨ k = pb)) ⟨(blk_put (blk_put HC12.out 2 _ rfl) 7 _ rfl), ((HX12.out.set HNE.out).set HNE.out), (below_set (below_set HB12.out HPB.out) HPB.out), (Kept.setCell (Kept.setCell HK12.out (.inl (.inr rfl)) _) (.inl (.inr rfl)) _)⟩ ?_
    rintro W5 ⟨hcz, hxz, hbz, hkz⟩
    have HC5 := Aside0.mk hcz
    have HX5 := Aside0.mk hxz
    have HB5 := Aside0.mk hbz
    have HK5 := Aside0.mk hkz
    clear hcz hxz hbz hkz hc2 hf2 hc7 hf7
    go_wp2_with (first | (go_at_call 40; (with_reducible refine (num2_ok g l8 n w0 W5 HB5.out HX5.out HYl8.out HNN.out (by have := HGE.out; have := HLEl8.out; omega)).mono ?_); rintro e w23 ⟨rfl, hx, hb, hk⟩; have HX23 := Aside0.mk (show RdrOf w0 w23 g l10 by rw [HD10.out]; exact hx); have HB23 := Aside0.mk hb; have HC23 := Aside0.mk (blk_kept (show W5.heap[pb]? = _ from HC5.out) hk (fun hh => HNE.out hh.symm)); have HK23 := Aside0.mk (Kept.then_ HK5.out (show Kept W5 w23 (fun k => k = g) from hk) (fun k hk => .inl (.inl hk))); clear hx hb hk) | (go_at_call 40; (with_reducible refine (num2_ok g l10 m w0 w23 HB23.out HX23.out HY10.out HMM.out (by have := HGE.out; have := HLE10.out; omega)).mono ?_); rintro e w24 ⟨rfl, hx, hb, hk⟩; have HX24 := Aside0.mk (show RdrOf w0 w24 g l12 by rw [HD12.out]; exact hx); have HB24 := Aside0.mk hb; have HC24 := Aside0.mk (blk_kept (show w23.heap[pb]? = _ from HC23.out) hk (fun hh => HNE.out hh.symm)); have HK24 := Aside0.mk (Kept.then_ HK23.out (show Kept w23 w24 (fun k => k = g) from hk) (fun k hk => .inl (.inl hk))); clear hx hb hk; obtain ⟨hg_, A24, c24, hb24, hc24, hC24⟩ := HX24.out; have hq24 : w24.cell? ⟨g, 0, none⟩ = some (.slice A24 l12.length c24) := blk_cell hb24 0; clear hg_ hb24 hc24 hC24) | (go_at_call 38; (with_reducible refine (must_ok 4 _).mono ?_); rintro e wm ⟨rfl, hwm⟩; have hwm := hwm.symm; subst hwm) | (go_at_call 38; (with_reducible refine (must_bad _ _).mono ?_); rintro e wm ⟨rfl, hwm⟩; have hwm := hwm.symm; subst hwm))
    exact ⟨rfl, HB24.out, by rw [HE.out]; rfl⟩
  have t3 : decide (n ≤ 16) = true := decide_eq_true (by omega)
  by_cases e3 : 16 < m
  · have HE := Aside0.mk (show sackR t fl l = .error 6 by rw [hspec, if_neg h12, if_neg (fun h => h e1), if_pos (.inr e3)])
    have t4 : decide (m ≤ 16) = false := decide_eq_false (by omega)
    clear e1 e2 e3
    clear hB hx hb hl hpb hne hc ha2 ha7 hl4 hyl4 hl8 hyl8 hn hm hl10 hl12 hy10 hy12 hnr hmr hspec h12
    go_enter Try.func98, Try.ntmps98
    go_wp2_with (first | ((with_reducible refine gate_dst (N := 2) rfl ?_); refine box_event ?hg (N := 2) ?hd (cs := #[.pointer (some ⟨pb, 0, none⟩)]) (t := 81) ?hr ?_; (case hd => rfl); (case hg => rfl); (case hr => first | (go_simp; done) | (go_simp; rfl)); intro p2 hg0 w1 hbox0 hb0; have hp0 : w1.cell? ⟨p2, 0, none⟩ = some (.pointer (some ⟨pb, 0, none⟩)) := blk_cell hbox0 0; have HB1 := Aside0.mk (below_step HB.out hb0); have HX1 := Aside0.mk (HX.out.below hb0); have HC1 := Aside0.mk (blk_below HC.out hb0); have HK1 := Aside0.mk (Kept.of_below hb0 (fun k => k = g ∨ k = pb)); have HP1 := Aside0.mk hbox0; have HPG := Aside0.mk (show ¬ p2 = g by have := HSZ.out; omega); clear hg0 hbox0 hb0) | (go_at_call 40; (with_reducible refine (num4_ok g l a2 w0 w1 HB1.out HX1.out HBY.out HN2.out (by have := HGE.out; omega)).mono ?_); rintro e w11 ⟨rfl, hx, hb, hk⟩; have HX11 := Aside0.mk (show RdrOf w0 w11 g l4 by rw [HDl4.out]; exact hx); have HB11 := Aside0.mk hb; have HC11 := Aside0.mk (blk_kept (show w1.heap[pb]? = _ from HC1.out) hk (fun hh => HNE.out hh.symm)); have HK11 := Aside0.mk (Kept.then_ HK1.out (show Kept w1 w11 (fun k => k = g) from hk) (fun k hk => .inl (.inl hk))); clear hx hb hk) | (go_at_call 40; (with_reducible refine (num4_ok g l4 a7 w0 w11 HB11.out HX11.out HYl4.out HN7.out (by have := HGE.out; have := HLEl4.out; omega)).mono ?_); rintro e w12 ⟨rfl, hx, hb, hk⟩; have HX12 := Aside0.mk (show RdrOf w0 w12 g l8 by rw [HDl8.out]; exact hx); have HB12 := Aside0.mk hb; have HC12 := Aside0.mk (blk_kept (show w11.heap[pb]? = _ from HC11.out) hk (fun hh => HNE.out hh.symm)); have HK12 := Aside0.mk (Kept.then_ HK11.out (show Kept w11 w12 (fun k => k = g) from hk) (fun k hk => .inl (.inl hk))); have hc2 : w12.cell? ⟨pb, 2, none⟩ = some (.int .u32 0) := blk_cell HC12.out 2; have hf2 : w12.frozen? ⟨pb, 2, none⟩ = false := blk_frozen HC12.out 2; have hc7 : w12.cell? ⟨pb, 7, none⟩ = some (.int .u32 0) := blk_cell HC12.out 7; have hf7 : w12.frozen? ⟨pb, 7, none⟩ = false := blk_frozen HC12.out 7; clear hx hb hk))
    refine calls_cut (fun W => W.heap[pb]? = some (.cells #[.int .u8 t, .int .u8 fl, .int .u32 a2, .int .u16 0, .int .u16 0, .int .u32 0, .int .u32 0, .int .u32 a7, .int .u16 0, .int .u16 0, .slice none 0 0, .slice none 0 0, .slice none 0 0, .slice none 0 0] 29 (0, 0)) ∧ RdrOf w0 W g l8 ∧ Below w0.heap.size w0 W ∧ Kept w W (fun k => k = g ∨ k = pb)) ⟨(blk_put (blk_put HC12.out 2 _ rfl) 7 _ rfl), ((HX12.out.set HNE.out).set HNE.out), (below_set (below_set HB12.out HPB.out) HPB.out), (Kept.setCell (Kept.setCell HK12.out (.inl (.inr rfl)) _) (.inl (.inr rfl)) _)⟩ ?_
    rintro W5 ⟨hcz, hxz, hbz, hkz⟩
    have HC5 := Aside0.mk hcz
    have HX5 := Aside0.mk hxz
    have HB5 := Aside0.mk hbz
    have HK5 := Aside0.mk hkz
    clear hcz hxz hbz hkz hc2 hf2 hc7 hf7
    go_wp2_with (first | (go_at_call 40; (with_reducible refine (num2_ok g l8 n w0 W5 HB5.out HX5.out HYl8.out HNN.out (by have := HGE.out; have := HLEl8.out; omega)).mono ?_); rintro e w23 ⟨rfl, hx, hb, hk⟩; have HX23 := Aside0.mk (show RdrOf w0 w23 g l10 by rw [HD10.out]; exact hx); have HB23 := Aside0.mk hb; have HC23 := Aside0.mk (blk_kept (show W5.heap[pb]? = _ from HC5.out) hk (fun hh => HNE.out hh.symm)); have HK23 := Aside0.mk (Kept.then_ HK5.out (show Kept W5 w23 (fun k => k = g) from hk) (fun k hk => .inl (.inl hk))); clear hx hb hk) | (go_at_call 40; (with_reducible refine (num2_ok g l10 m w0 w23 HB23.out HX23.out HY10.out HMM.out (by have := HGE.out; have := HLE10.out; omega)).mono ?_); rintro e w24 ⟨rfl, hx, hb, hk⟩; have HX24 := Aside0.mk (show RdrOf w0 w24 g l12 by rw [HD12.out]; exact hx); have HB24 := Aside0.mk hb; have HC24 := Aside0.mk (blk_kept (show w23.heap[pb]? = _ from HC23.out) hk (fun hh => HNE.out hh.symm)); have HK24 := Aside0.mk (Kept.then_ HK23.out (show Kept w23 w24 (fun k => k = g) from hk) (fun k hk => .inl (.inl hk))); clear hx hb hk; obtain ⟨hg_, A24, c24, hb24, hc24, hC24⟩ := HX24.out; have hq24 : w24.cell? ⟨g, 0, none⟩ = some (.slice A24 l12.length c24) := blk_cell hb24 0; clear hg_ hb24 hc24 hC24) | (go_at_call 38; (with_reducible refine (must_ok 4 _).mono ?_); rintro e wm ⟨rfl, hwm⟩; have hwm := hwm.symm; subst hwm) | (go_at_call 38; (with_reducible refine (must_bad _ _).mono ?_); rintro e wm ⟨rfl, hwm⟩; have hwm := hwm.symm; subst hwm))
    exact ⟨rfl, HB24.out, by rw [HE.out]; rfl⟩
  have t4 : decide (m ≤ 16) = true := decide_eq_true (by omega)
  have HE := Aside0.mk (show sackR t fl l = .ok ⟨t, fl, a2, 0, 0, 0, 0, a7, 0, 0, blocksV n.toNat l12, dupsV m.toNat (l12.drop (4 * n.toNat)), [], []⟩ by rw [hspec, if_neg h12, if_neg (fun h => h e1), if_neg (by omega)])
  have HN16 := Aside0.mk (show n ≤ 16 by omega)
  have HM16 := Aside0.mk (show m ≤ 16 by omega)
  clear e1 e2 e3
  clear hB hx hb hl hpb hne hc ha2 ha7 hl4 hyl4 hl8 hyl8 hn hm hl10 hl12 hy10 hy12 hnr hmr hspec h12
  go_enter Try.func98, Try.ntmps98
  go_wp2_with (first | ((with_reducible refine gate_dst (N := 2) rfl ?_); refine box_event ?hg (N := 2) ?hd (cs := #[.pointer (some ⟨pb, 0, none⟩)]) (t := 81) ?hr ?_; (case hd => rfl); (case hg => rfl); (case hr => first | (go_simp; done) | (go_simp; rfl)); intro p2 hg0 w1 hbox0 hb0; have hp0 : w1.cell? ⟨p2, 0, none⟩ = some (.pointer (some ⟨pb, 0, none⟩)) := blk_cell hbox0 0; have HB1 := Aside0.mk (below_step HB.out hb0); have HX1 := Aside0.mk (HX.out.below hb0); have HC1 := Aside0.mk (blk_below HC.out hb0); have HK1 := Aside0.mk (Kept.of_below hb0 (fun k => k = g ∨ k = pb)); have HP1 := Aside0.mk hbox0; have HPG := Aside0.mk (show ¬ p2 = g by have := HSZ.out; omega); clear hg0 hbox0 hb0) | (go_at_call 40; (with_reducible refine (num4_ok g l a2 w0 w1 HB1.out HX1.out HBY.out HN2.out (by have := HGE.out; omega)).mono ?_); rintro e w11 ⟨rfl, hx, hb, hk⟩; have HX11 := Aside0.mk (show RdrOf w0 w11 g l4 by rw [HDl4.out]; exact hx); have HB11 := Aside0.mk hb; have HC11 := Aside0.mk (blk_kept (show w1.heap[pb]? = _ from HC1.out) hk (fun hh => HNE.out hh.symm)); have HK11 := Aside0.mk (Kept.then_ HK1.out (show Kept w1 w11 (fun k => k = g) from hk) (fun k hk => .inl (.inl hk))); clear hx hb hk) | (go_at_call 40; (with_reducible refine (num4_ok g l4 a7 w0 w11 HB11.out HX11.out HYl4.out HN7.out (by have := HGE.out; have := HLEl4.out; omega)).mono ?_); rintro e w12 ⟨rfl, hx, hb, hk⟩; have HX12 := Aside0.mk (show RdrOf w0 w12 g l8 by rw [HDl8.out]; exact hx); have HB12 := Aside0.mk hb; have HC12 := Aside0.mk (blk_kept (show w11.heap[pb]? = _ from HC11.out) hk (fun hh => HNE.out hh.symm)); have HK12 := Aside0.mk (Kept.then_ HK11.out (show Kept w11 w12 (fun k => k = g) from hk) (fun k hk => .inl (.inl hk))); have hc2 : w12.cell? ⟨pb, 2, none⟩ = some (.int .u32 0) := blk_cell HC12.out 2; have hf2 : w12.frozen? ⟨pb, 2, none⟩ = false := blk_frozen HC12.out 2; have hc7 : w12.cell? ⟨pb, 7, none⟩ = some (.int .u32 0) := blk_cell HC12.out 7; have hf7 : w12.frozen? ⟨pb, 7, none⟩ = false := blk_frozen HC12.out 7; clear hx hb hk))
  refine calls_cut (fun W => W.heap[pb]? = some (.cells #[.int .u8 t, .int .u8 fl, .int .u32 a2, .int .u16 0, .int .u16 0, .int .u32 0, .int .u32 0, .int .u32 a7, .int .u16 0, .int .u16 0, .slice none 0 0, .slice none 0 0, .slice none 0 0, .slice none 0 0] 29 (0, 0)) ∧ RdrOf w0 W g l8 ∧ Below w0.heap.size w0 W ∧ Kept w W (fun k => k = g ∨ k = pb)) ⟨(blk_put (blk_put HC12.out 2 _ rfl) 7 _ rfl), ((HX12.out.set HNE.out).set HNE.out), (below_set (below_set HB12.out HPB.out) HPB.out), (Kept.setCell (Kept.setCell HK12.out (.inl (.inr rfl)) _) (.inl (.inr rfl)) _)⟩ ?_
  rintro W5 ⟨hcz, hxz, hbz, hkz⟩
  have HC5 := Aside0.mk hcz
  have HX5 := Aside0.mk hxz
  have HB5 := Aside0.mk hbz
  have HK5 := Aside0.mk hkz
  clear hcz hxz hbz hkz hc2 hf2 hc7 hf7
  go_wp2_with (first | (go_at_call 40; (with_reducible refine (num2_ok g l8 n w0 W5 HB5.out HX5.out HYl8.out HNN.out (by have := HGE.out; have := HLEl8.out; omega)).mono ?_); rintro e w23 ⟨rfl, hx, hb, hk⟩; have HX23 := Aside0.mk (show RdrOf w0 w23 g l10 by rw [HD10.out]; exact hx); have HB23 := Aside0.mk hb; have HC23 := Aside0.mk (blk_kept (show W5.heap[pb]? = _ from HC5.out) hk (fun hh => HNE.out hh.symm)); have HK23 := Aside0.mk (Kept.then_ HK5.out (show Kept W5 w23 (fun k => k = g) from hk) (fun k hk => .inl (.inl hk))); clear hx hb hk) | (go_at_call 40; (with_reducible refine (num2_ok g l10 m w0 w23 HB23.out HX23.out HY10.out HMM.out (by have := HGE.out; have := HLE10.out; omega)).mono ?_); rintro e w24 ⟨rfl, hx, hb, hk⟩; have HX24 := Aside0.mk (show RdrOf w0 w24 g l12 by rw [HD12.out]; exact hx); have HB24 := Aside0.mk hb; have HC24 := Aside0.mk (blk_kept (show w23.heap[pb]? = _ from HC23.out) hk (fun hh => HNE.out hh.symm)); have HK24 := Aside0.mk (Kept.then_ HK23.out (show Kept w23 w24 (fun k => k = g) from hk) (fun k hk => .inl (.inl hk))); clear hx hb hk; obtain ⟨hg_, A24, c24, hb24, hc24, hC24⟩ := HX24.out; have hq24 : w24.cell? ⟨g, 0, none⟩ = some (.slice A24 l12.length c24) := blk_cell hb24 0; clear hg_ hb24 hc24 hC24) | (go_at_call 38; (with_reducible refine (must_ok _ _).mono ?_); rintro e wm ⟨rfl, hwm⟩; have hwm := hwm.symm; subst hwm))
  have HWS := Aside0.mk HB.out.size
  have OKG := Aside0.mk (show ∀ k, w.heap.size ≤ k → ¬ k = g from fun k hk e => by have := HSZ.out; omega)
  clear hw4n hw4m hw4s t1 t2 t3 t4 hm2 hm7 hq24
  go_loopg [45] (n.toNat + 1) (fun gk v45 wr => ∃ (i : Nat) (lr : List Int) (out : List S101) (A10 : Option Addr) (c10 : Nat), v45 = .int .i64 (i : Int) ∧ Aside0 (i + gk = n.toNat + 1) ∧ Aside0 (lr = l12.drop (4 * i)) ∧ Aside0 (i ≤ n.toNat ∧ out ++ blocksV (n.toNat - i) lr = blocksV n.toNat l12) ∧ Aside0 (out.length = i) ∧ Aside0 (wr.heap[pb]? = some (.cells #[.int .u8 t, .int .u8 fl, .int .u32 a2, .int .u16 0, .int .u16 0, .int .u32 0, .int .u32 0, .int .u32 a7, .int .u16 0, .int .u16 0, .slice A10 out.length c10, .slice none 0 0, .slice none 0 0, .slice none 0 0] 29 (0, 0))) ∧ Aside0 (Kd.R k101 101 wr w.heap.size (fun k_ => w.heap.size ≤ k_) (.slice A10 out.length c10) out) ∧ Aside0 (RdrOf w0 wr g lr) ∧ Aside0 (Below w0.heap.size w0 wr) ∧ Aside0 (Kept w wr (fun k => k = g ∨ k = pb)))
  case atStart => exact ⟨0, l12, [], none, 0, rfl, ⟨by omega⟩, ⟨rfl⟩, ⟨Nat.zero_le _, rfl⟩, ⟨rfl⟩, HC24, ⟨Kd.R_nil _ _ _ _ _⟩, HX24, HB24, HK24⟩
  case round =>
    obtain ⟨i, lr, out, A10, c10, rfl, HGI, HLR, HBL, HOL, HCC, HRO, HXX, HBB, HKK⟩ := hrel
    have HLL := Aside0.mk (show (lr.length : Int) = 4 * n + 4 * m - 4 * i by rw [HLR.out, List.length_drop]; have := HE1.out; have := HBL.out.1; have := HNR.out; have := HMR.out; omega)
    by_cases hi : i < n.toNat
    · cases gk with
      | zero => exact absurd HGI.out (by omega)
      | succ gk =>
      obtain ⟨x, hx⟩ : ∃ x, x = numN lr 2 := ⟨_, rfl⟩
      obtain ⟨l2, hl2⟩ : ∃ l2, l2 = lr.drop 2 := ⟨_, rfl⟩
      obtain ⟨y, hy⟩ : ∃ y, y = numN l2 2 := ⟨_, rfl⟩
      obtain ⟨l4, hl4⟩ : ∃ l4, l4 = l2.drop 2 := ⟨_, rfl⟩
      have HLY := Aside0.mk (show Bytes lr by rw [HLR.out]; exact HY12.out.drop _)
      have HL2Y := Aside0.mk (show Bytes l2 by rw [hl2]; exact HLY.out.drop _)
      have hux : IntKind.u16.wrap x = x := u16w (by rw [hx]; exact num2_range HLY.out)
      have huy : IntKind.u16.wrap y = y := u16w (by rw [hy]; exact num2_range HL2Y.out)
      have HG1 := Aside0.mk (show 2 ≤ lr.length by have := HLL.out; have := HMR.out; have := HNR.out; omega)
      have HG2 := Aside0.mk (show 2 ≤ l2.length by rw [hl2, List.length_drop]; have := HLL.out; have := HMR.out; have := HNR.out; omega)
      have HLM := Aside0.mk (show (out.length + 1) * 4 ≤ 140737488355328 by have := HOL.out; have := HN16.out; omega)
      have HXN := Aside0.mk hx
      have HYN := Aside0.mk hy
      have HL2 := Aside0.mk hl2
      have HL4 := Aside0.mk hl4
      have cB : decide ((i : Int) < n) = true := decide_eq_true (by omega)
      have cW : wrap64 ((i : Int) + 1) = ((i + 1 : Nat) : Int) := by rw [w64 (by omega) (by have := HN16.out; omega)]; omega
      have hc10 : wr.cell? ⟨pb, 10, none⟩ = some (.slice A10 out.length c10) := blk_cell HCC.out 10
      obtain ⟨o1, ho1⟩ : ∃ o1, o1 = out ++ [(⟨x, y⟩ : S101)] := ⟨_, rfl⟩
      have HO1 := Aside0.mk ho1
      have h44 : l4 = lr.drop 4 := by rw [hl4, hl2, List.drop_drop]
      have HR1 := Aside0.mk (show l4 = l12.drop (4 * (i + 1)) by rw [h44, HLR.out, List.drop_drop]; congr 1)
      have HR2 := Aside0.mk (show i + 1 ≤ n.toNat ∧ o1 ++ blocksV (n.toNat - (i + 1)) l4 = blocksV n.toNat l12 by
        refine ⟨hi, ?_⟩
        have h := HBL.out.2
        rw [show n.toNat - i = (n.toNat - (i + 1)) + 1 by omega, blocksV, ← hl2, ← hx, ← hy, ← h44] at h
        rw [ho1, List.append_assoc]
        exact h)
      have HR3 := Aside0.mk (show o1.length = i + 1 by rw [ho1, List.length_append, HOL.out]; rfl)
      have HR4 := Aside0.mk (show i + 1 + gk = n.toNat + 1 by have := HGI.out; omega)
      clear hx hl2 hy hl4 hi ho1 h44
      go_wp2
      first | (go_region_law (first | (refine Kd.R_append_step k101 (w0 := w32) w.heap.size (by rfl) (.tmp 51) (.tmp 59) 24 101 (.agg #[(.int .u16 0), (.int .u16 0)]) 4 rfl Try.underlying24 info101 rfl (by decide) (by omega) (.slice A10 out.length c10) out (⟨x, y⟩ : S101) [.int .u16 x, .int .u16 y] (fun k_ => w.heap.size ≤ k_) (fun _ => False) rfl rfl (k101_mkM _ _ _ (⟨x, y⟩ : S101)) (fun _ hk => hk.elim) (fun k hk => Nat.le_trans HK32.out.1 hk) HR32.out (Below.refl _ _) HK32.out.1 HLM.out ?_; intro v33 w33 ho33 hb33 hg33 ha33; rw [← HO1.out] at ho33; obtain ⟨A33, c33, e33⟩ := Kd.R_slice ho33; subst e33; have HR33 := Aside0.mk ho33; have HX33 := Aside0.mk (HX32.out.under hb33 HSZ.out); have HB33 := Aside0.mk (HB32.out.trans (hb33.mono HWS.out)); have HK33 := Aside0.mk (show Kept w w33 (fun k => k = g ∨ k = pb) from ⟨Nat.le_trans HK32.out.1 hb33.size, fun k hk hn => (hb33.block k hk).trans (HK32.out.2 k hk hn)⟩); have HC33 := Aside0.mk ((hb33.block pb (blk_lt HC.out)).trans HC32.out); have hc10 : w33.cell? ⟨pb, 10, none⟩ = some (.slice A10 out.length c10) := blk_cell HC33.out 10; have hf10 : w33.frozen? ⟨pb, 10, none⟩ = false := blk_frozen HC33.out 10; clear ho33 hb33 hg33 ha33) | (refine goes_ Try.func40 (by kernel_rfl) rfl #[.pointer (some ⟨g, 0, none⟩), .int .i64 2] (by rfl) rfl rfl (by first | rfl | kernel_rfl | (simp [Act.eval]; done) | (go_simp; rfl) | (simp [Act.eval, Act.put]; rfl)) ?_; (with_reducible refine (num2_ok g lr x w0 _ HBB.out.drew (HXX.out.below (Below.refl _ _).drew) HLY.out HXN.out HG1.out).mono ?_); rintro e w31 ⟨rfl, hx, hb, hk⟩; refine ⟨_, rfl, ?_⟩; have HX31 := Aside0.mk (show RdrOf w0 w31 g l2 by rw [HL2.out]; exact hx); have HB31 := Aside0.mk hb; have HC31 := Aside0.mk (blk_kept (show wr.heap[pb]? = _ from HCC.out) hk (fun hh => HNE.out hh.symm)); have HK31 := Aside0.mk (Kept.then_ HKK.out (show Kept wr w31 (fun k => k = g) from hk) (fun k hk => .inl (.inl hk))); have HR31 := Aside0.mk (Kd.R_kept (show Kd.R k101 101 wr w.heap.size (fun k_ => w.heap.size ≤ k_) (.slice A10 out.length c10) out from HRO.out) hk (fun k hk => OKG.out k hk)); have hc10 : w31.cell? ⟨pb, 10, none⟩ = some (.slice A10 out.length c10) := blk_cell HC31.out 10; have hf10 : w31.frozen? ⟨pb, 10, none⟩ = false := blk_frozen HC31.out 10; have hca : ∀ o_, (w31.alloc o_).cell? ⟨pb, 10, none⟩ = some (.slice A10 out.length c10) := fun o_ => pw_cell_below (below_alloc (Below.refl _ _) o_) hc10; clear hx hb hk) | (refine goes_ Try.func40 (by kernel_rfl) rfl #[.pointer (some ⟨g, 0, none⟩), .int .i64 2] (by rfl) rfl rfl (by first | rfl | kernel_rfl | (simp [Act.eval]; done) | (go_simp; rfl) | (simp [Act.eval, Act.put]; rfl)) ?_; (with_reducible refine (num2_ok g l2 y w0 _ HB31.out HX31.out HL2Y.out HYN.out HG2.out).mono ?_); rintro e w32 ⟨rfl, hx, hb, hk⟩; refine ⟨_, rfl, ?_⟩; have HX32 := Aside0.mk (show RdrOf w0 w32 g l4 by rw [HL4.out]; exact hx); have HB32 := Aside0.mk hb; have HC32 := Aside0.mk (blk_kept (show w31.heap[pb]? = _ from HC31.out) hk (fun hh => HNE.out hh.symm)); have HK32 := Aside0.mk (Kept.then_ HK31.out (show Kept w31 w32 (fun k => k = g) from hk) (fun k hk => .inl (.inl hk))); have HR32 := Aside0.mk (Kd.R_kept (show Kd.R k101 101 w31 w.heap.size (fun k_ => w.heap.size ≤ k_) (.slice A10 out.length c10) out from HR31.out) hk (fun k hk => OKG.out k hk)); have hc10 : w32.cell? ⟨pb, 10, none⟩ = some (.slice A10 out.length c10) := blk_cell HC32.out 10; have hf10 : w32.frozen? ⟨pb, 10, none⟩ = false := blk_frozen HC32.out 10; have hca : ∀ o_, (w32.alloc o_).cell? ⟨pb, 10, none⟩ = some (.slice A10 out.length c10) := fun o_ => pw_cell_below (below_alloc (Below.refl _ _) o_) hc10; clear hx hb hk))) | fail
      all_goals go_wp2
      all_goals go_roundg gk
      all_goals first | omega | exact ⟨i + 1, l4, o1, A33, c33, congrArg (Value.int .i64) cW, HR4, HR1, HR2, HR3, ⟨blk_put HC33.out 10 _ rfl⟩, ⟨Kd.R_far (p := ⟨pb, 10, none⟩) HR33.out (fun k hk e => by have e : k = pb := e; have h1 := blk_lt HC.out; omega) _⟩, ⟨HX33.out.set HNE.out⟩, ⟨below_set HB33.out HPB.out⟩, ⟨Kept.setCell HK33.out (.inl (.inr rfl)) _⟩⟩
    · have HII := Aside0.mk (show i = n.toNat by have := HBL.out.1; omega)
      have HBK := Aside0.mk (show out = blocksV n.toNat l12 by have h := HBL.out.2; rw [HII.out, Nat.sub_self, blocksV, List.append_nil] at h; exact h)
      have HLD := Aside0.mk (show lr = l12.drop (4 * n.toNat) by rw [HLR.out, HII.out])
      have cB : decide ((i : Int) < n) = false := decide_eq_false (by omega)
      clear hi
      go_wp2
      go_loopg [65] (m.toNat + 1) (fun gk2 v65 wr2 => ∃ (j : Nat) (ld : List Int) (dps : List Int) (A11 : Option Addr) (c11 : Nat), v65 = .int .i64 (j : Int) ∧ Aside0 (j + gk2 = m.toNat + 1) ∧ Aside0 (ld = lr.drop (4 * j)) ∧ Aside0 (j ≤ m.toNat ∧ dps ++ dupsV (m.toNat - j) ld = dupsV m.toNat lr) ∧ Aside0 (dps.length = j) ∧ Aside0 (wr2.heap[pb]? = some (.cells #[.int .u8 t, .int .u8 fl, .int .u32 a2, .int .u16 0, .int .u16 0, .int .u32 0, .int .u32 0, .int .u32 a7, .int .u16 0, .int .u16 0, .slice A10 out.length c10, .slice A11 dps.length c11, .slice none 0 0, .slice none 0 0] 29 (0, 0))) ∧ Aside0 (Kd.R k101 101 wr2 w.heap.size (fun k_ => w.heap.size ≤ k_) (.slice A10 out.length c10) out) ∧ Aside0 (Kd.R (Kd.int .u32) 22 wr2 w.heap.size (fun k_ => w.heap.size ≤ k_) (.slice A11 dps.length c11) dps) ∧ Aside0 (RdrOf w0 wr2 g ld) ∧ Aside0 (Below w0.heap.size w0 wr2) ∧ Aside0 (Kept w wr2 (fun k => k = g ∨ k = pb)))
      case atStart => exact ⟨0, lr, [], none, 0, rfl, ⟨by omega⟩, ⟨rfl⟩, ⟨Nat.zero_le _, rfl⟩, ⟨rfl⟩, HCC, HRO, ⟨Kd.R_nil _ _ _ _ _⟩, HXX, HBB, HKK⟩
      case round =>
        obtain ⟨j, ld, dps, A11, c11, rfl, HGJ, HLJ, HDL, HDN, HCD, HRD, HDD, HXD, HBD, HKK2⟩ := hrel
        have HLM2 := Aside0.mk (show (ld.length : Int) = 4 * m - 4 * j by rw [HLJ.out, List.length_drop]; have := HLL.out; have := HII.out; have := HDL.out.1; have := HNR.out; have := HMR.out; omega)
        by_cases hj : j < m.toNat
        · cases gk with
          | zero => exact absurd HGJ.out (by omega)
          | succ gk3 =>
          obtain ⟨z, hz⟩ : ∃ z, z = numN ld 4 := ⟨_, rfl⟩
          obtain ⟨l5, hl5⟩ : ∃ l5, l5 = ld.drop 4 := ⟨_, rfl⟩
          have HLY := Aside0.mk (show Bytes ld by rw [HLJ.out, HLD.out]; exact (HY12.out.drop _).drop _)
          have hmz : z % 4294967296 = z := by have := numN_range HLY.out 4 (by decide); rw [hz]; omega
          have hmz2 : IntKind.u32.wrap z = z := u32w (by rw [hz]; exact numN_range HLY.out 4 (by decide))
          have HG3 := Aside0.mk (show 4 ≤ ld.length by have := HLM2.out; have := HMR.out; omega)
          have HLM3 := Aside0.mk (show (dps.length + 1) * 4 ≤ 140737488355328 by have := HDN.out; have := HM16.out; omega)
          have HZN := Aside0.mk hz
          have HL5 := Aside0.mk hl5
          have cB2 : decide ((j : Int) < m) = true := decide_eq_true (by omega)
          have cW2 : wrap64 ((j : Int) + 1) = ((j + 1 : Nat) : Int) := by rw [w64 (by omega) (by have := HM16.out; omega)]; omega
          have hc11 : wr.cell? ⟨pb, 11, none⟩ = some (.slice A11 dps.length c11) := blk_cell HCD.out 11
          obtain ⟨o2, ho2⟩ : ∃ o2, o2 = dps ++ [z] := ⟨_, rfl⟩
          have HO2 := Aside0.mk ho2
          have HR1 := Aside0.mk (show l5 = lr.drop (4 * (j + 1)) by rw [hl5, HLJ.out, List.drop_drop]; congr 1)
          have HR2 := Aside0.mk (show j + 1 ≤ m.toNat ∧ o2 ++ dupsV (m.toNat - (j + 1)) l5 = dupsV m.toNat lr by
            refine ⟨hj, ?_⟩
            have h := HDL.out.2
            rw [show m.toNat - j = (m.toNat - (j + 1)) + 1 by omega, dupsV, ← hz, ← hl5] at h
            rw [ho2, List.append_assoc]
            exact h)
          have HR3 := Aside0.mk (show o2.length = j + 1 by rw [ho2, List.length_append, HDN.out]; rfl)
          have HR4 := Aside0.mk (show j + 1 + gk3 = m.toNat + 1 by have := HGJ.out; omega)
          clear hz hl5 hj ho2
          go_wp2
          first | (go_region_law (first | (refine Kd.R_append_step (Kd.int .u32) (w0 := w31) w.heap.size (by rfl) (.tmp 71) (.tmp 75) 25 22 (.int .u32 0) 4 rfl Try.underlying25 info22 rfl (by decide) (by omega) (.slice A11 dps.length c11) dps z [.int .u32 z] (fun k_ => w.heap.size ≤ k_) (fun _ => False) rfl rfl rfl (fun _ hk => hk.elim) (fun k hk => Nat.le_trans HK31.out.1 hk) HR31.out (Below.refl _ _) HK31.out.1 HLM3.out ?_; intro v33 w33 ho33 hb33 hg33 ha33; rw [← HO2.out] at ho33; obtain ⟨A33, c33, e33⟩ := Kd.R_slice ho33; subst e33; have HR33 := Aside0.mk ho33; have HS33 := Aside0.mk (keepB HT31.out HR31.out hg33); have HX33 := Aside0.mk (HX31.out.under hb33 HSZ.out); have HB33 := Aside0.mk (HB31.out.trans (hb33.mono HWS.out)); have HK33 := Aside0.mk (show Kept w w33 (fun k => k = g ∨ k = pb) from ⟨Nat.le_trans HK31.out.1 hb33.size, fun k hk hn => (hb33.block k hk).trans (HK31.out.2 k hk hn)⟩); have HC33 := Aside0.mk ((hb33.block pb (blk_lt HC.out)).trans HC31.out); have hc11 : w33.cell? ⟨pb, 11, none⟩ = some (.slice A11 dps.length c11) := blk_cell HC33.out 11; have hf11 : w33.frozen? ⟨pb, 11, none⟩ = false := blk_frozen HC33.out 11; clear ho33 hb33 hg33 ha33) | (refine goes_ Try.func40 (by kernel_rfl) rfl #[.pointer (some ⟨g, 0, none⟩), .int .i64 4] (by rfl) rfl rfl (by first | rfl | kernel_rfl | (simp [Act.eval]; done) | (go_simp; rfl) | (simp [Act.eval, Act.put]; rfl)) ?_; (with_reducible refine (num4_ok g ld z w0 _ HBD.out.drew (HXD.out.below (Below.refl _ _).drew) HLY.out HZN.out HG3.out).mono ?_); rintro e w31 ⟨rfl, hx, hb, hk⟩; refine ⟨_, rfl, ?_⟩; have HX31 := Aside0.mk (show RdrOf w0 w31 g l5 by rw [HL5.out]; exact hx); have HB31 := Aside0.mk hb; have HC31 := Aside0.mk (blk_kept (show wr.heap[pb]? = _ from HCD.out) hk (fun hh => HNE.out hh.symm)); have HK31 := Aside0.mk (Kept.then_ HKK2.out (show Kept wr w31 (fun k => k = g) from hk) (fun k hk => .inl (.inl hk))); have HR31 := Aside0.mk (Kd.R_kept (show Kd.R (Kd.int .u32) 22 wr w.heap.size (fun k_ => w.heap.size ≤ k_) (.slice A11 dps.length c11) dps from HDD.out) hk (fun k hk => OKG.out k hk)); have HT31 := Aside0.mk (Kd.R_kept (show Kd.R k101 101 wr w.heap.size (fun k_ => w.heap.size ≤ k_) (.slice A10 out.length c10) out from HRD.out) hk (fun k hk => OKG.out k hk)); have hc11 : w31.cell? ⟨pb, 11, none⟩ = some (.slice A11 dps.length c11) := blk_cell HC31.out 11; have hf11 : w31.frozen? ⟨pb, 11, none⟩ = false := blk_frozen HC31.out 11; have hca : ∀ o_, (w31.alloc o_).cell? ⟨pb, 11, none⟩ = some (.slice A11 dps.length c11) := fun o_ => pw_cell_below (below_alloc (Below.refl _ _) o_) hc11; clear hx hb hk))) | fail
          all_goals go_wp2
          all_goals go_roundg gk3
          all_goals first | omega | exact ⟨j + 1, l5, o2, A33, c33, congrArg (Value.int .i64) cW2, HR4, HR1, HR2, HR3, ⟨blk_put HC33.out 11 _ rfl⟩, ⟨Kd.R_far (p := ⟨pb, 11, none⟩) HS33.out (fun k hk e => by have e : k = pb := e; have h1 := blk_lt HC.out; omega) _⟩, ⟨Kd.R_far (p := ⟨pb, 11, none⟩) HR33.out (fun k hk e => by have e : k = pb := e; have h1 := blk_lt HC.out; omega) _⟩, ⟨HX33.out.set HNE.out⟩, ⟨below_set HB33.out HPB.out⟩, ⟨Kept.setCell HK33.out (.inl (.inr rfl)) _⟩⟩
        · have HJJ := Aside0.mk (show j = m.toNat by have := HDL.out.1; omega)
          have HDK := Aside0.mk (show dps = dupsV m.toNat (l12.drop (4 * n.toNat)) by have h := HDL.out.2; rw [HJJ.out, Nat.sub_self, dupsV, List.append_nil, HLD.out] at h; exact h)
          have cB2 : decide ((j : Int) < m) = false := decide_eq_false (by omega)
          clear hj
          go_wp2
          go_end0
          refine ⟨HBD.out, ?_⟩
          rw [HE.out, ← HBK.out, ← HDK.out]
          exact ⟨rfl, ⟨_, _, _, _, HCD.out, Kd.R_mono HRD.out (fun _ _ => trivial), Kd.R_mono HDD.out (fun _ _ => trivial), Kd.R_nil _ _ _ _ _, Kd.R_nil _ _ _ _ _⟩, HKK2.out⟩
end Go.Proofs.Ytaahkggbjpdofaa.M
end
section
/- The reader's chunks: told with its faults. -/
namespace Go.Proofs.Ytaahkggbjpdofaa.M
open Go.RowKit Go.Proofs.YtaahkggbjpdofaaW.PrintWords Go.Proofs.YtaahkggbjpdofaaW.PrintLast Go.Proofs.YtaahkggbjpdofaaW.PrintMore
open Go.Proofs.Ytaahkggbjpdofaa.Pure
set_option linter.unusedVariables false
set_option linter.unusedSimpArgs false
/-- The chunk of a kind, of its flags and its value; or the fault. -/
def oneV (t fl : Int) (l : List Int) : Except Int S29 :=
  if ofT t = 53 then dataV t fl l else if ofT t = 80 then firstR t fl l else if ofT t = 81 then sackR t fl l else if ofT t = 82 then pmV t fl l else if ofT t = 83 then numberV t fl l else if ofT t = 84 then bareV t fl l else rawV t fl l
structure KindR (T F : Nat) : Prop where
  ml_ : ∀ (v : Value) (w : World), (method 229 T (.agg #[v]) "trunkline/chunk.read").run Try.prog w = .ok (F, .agg #[v]) w
  na_ : ∀ (v : Value) (w : World), (nilAhead 229 T (.agg #[v]) "trunkline/chunk.read").run Try.prog w = .ok (some false) w
  cf_ : ∀ (xs : Array Value) (w : World), (callFunc F xs).run Try.prog w = .ok (.enter F xs) w
/-- A kind's read, as it is told. -/
def ReadC (F : Nat) (t fl : Int) (l : List Int) (spec : Except Int S29) : Prop := ∀ (g pb : Nat) (w0 w : World), Below w0.heap.size w0 w → RdrOf w0 w g l → w0.heap.size ≤ pb → g ≠ pb → w.heap[pb]? = some (.cells #[.int .u8 t, .int .u8 fl, .int .u32 0, .int .u16 0, .int .u16 0, .int .u32 0, .int .u32 0, .int .u32 0, .int .u16 0, .int .u16 0, .slice none 0 0, .slice none 0 0, .slice none 0 0, .slice none 0 0] 29 (0, 0)) →
    Calls Try.prog F #[.agg #[.pointer (some ⟨pb, 0, none⟩)], .pointer (some ⟨g, 0, none⟩)] w fun x w' => Below w0.heap.size w0 w' ∧ ReadOut w w' g pb x spec
theorem ofT7 (t : Int) : ofT t = 53 ∨ ofT t = 80 ∨ ofT t = 81 ∨ ofT t = 82 ∨ ofT t = 83 ∨ ofT t = 84 ∨ ofT t = 85 := by
  unfold ofT
  repeat' split
  all_goals simp
theorem read_all (t fl : Int) (l : List Int) (hb : Bytes l) (hl : l.length ≤ 65536) : ∃ F, KindR (ofT t) F ∧ ReadC F t fl l (oneV t fl l) := by
  rcases ofT7 t with h | h | h | h | h | h | h <;> rw [h]
  · refine ⟨90, ⟨fun _ _ => by kernel_rfl, fun _ _ => by kernel_rfl, fun _ _ => by kernel_rfl⟩, fun g pb w0 w hB hx hpb hne hc => ?_⟩
    have e : oneV t fl l = dataV t fl l := by unfold oneV; rw [h]; simp
    rw [e]
    exact data_reads g pb l t fl w0 w hB hx hb hl hpb hne hc
  · refine ⟨94, ⟨fun _ _ => by kernel_rfl, fun _ _ => by kernel_rfl, fun _ _ => by kernel_rfl⟩, fun g pb w0 w hB hx hpb hne hc => ?_⟩
    have e : oneV t fl l = firstR t fl l := by unfold oneV; rw [h]; simp
    rw [e]
    exact first_reads g pb l t fl w0 w hB hx hb hl hpb hne hc
  · refine ⟨98, ⟨fun _ _ => by kernel_rfl, fun _ _ => by kernel_rfl, fun _ _ => by kernel_rfl⟩, fun g pb w0 w hB hx hpb hne hc => ?_⟩
    have e : oneV t fl l = sackR t fl l := by unfold oneV; rw [h]; simp
    rw [e]
    exact sack_reads g pb l t fl w0 w hB hx hb hl hpb hne hc
  · refine ⟨100, ⟨fun _ _ => by kernel_rfl, fun _ _ => by kernel_rfl, fun _ _ => by kernel_rfl⟩, fun g pb w0 w hB hx hpb hne hc => ?_⟩
    have e : oneV t fl l = pmV t fl l := by unfold oneV; rw [h]; simp
    rw [e]
    exact params_reads g pb l t fl w0 w hB hx hb hl hpb hne hc
  · refine ⟨102, ⟨fun _ _ => by kernel_rfl, fun _ _ => by kernel_rfl, fun _ _ => by kernel_rfl⟩, fun g pb w0 w hB hx hpb hne hc => ?_⟩
    have e : oneV t fl l = numberV t fl l := by unfold oneV; rw [h]; simp
    rw [e]
    exact number_reads g pb l t fl w0 w hB hx hb hl hpb hne hc
  · refine ⟨104, ⟨fun _ _ => by kernel_rfl, fun _ _ => by kernel_rfl, fun _ _ => by kernel_rfl⟩, fun g pb w0 w hB hx hpb hne hc => ?_⟩
    have e : oneV t fl l = bareV t fl l := by unfold oneV; rw [h]; simp
    rw [e]
    exact bare_reads g pb l t fl w0 w hB hx hb hl hpb hne hc
  · refine ⟨106, ⟨fun _ _ => by kernel_rfl, fun _ _ => by kernel_rfl, fun _ _ => by kernel_rfl⟩, fun g pb w0 w hB hx hpb hne hc => ?_⟩
    have e : oneV t fl l = rawV t fl l := by unfold oneV; rw [h]; simp
    rw [e]
    exact raw_reads g pb l t fl w0 w hB hx hb hl hpb hne hc
theorem read_at {F : Nat} {t fl : Int} {lv : List Int} {spec : Except Int S29} (hr : ReadC F t fl lv spec) (pc : Nat) (A : Option Addr) (c : Nat) (w0 W W' : World) (hB : Below w0.heap.size w0 W) (hBW : Below W.heap.size W W') (hW : W'.heap[W.heap.size]? = some (.cells #[.slice A lv.length c] 73 (0, 0))) (hcl : lv.length ≤ c) (hC : Kd.C (Kd.int .u8) w0 A lv.length lv) (hp0 : w0.heap.size ≤ pc) (hpc : W.heap[pc]? = some (.cells #[.int .u8 t, .int .u8 fl, .int .u32 0, .int .u16 0, .int .u16 0, .int .u32 0, .int .u32 0, .int .u32 0, .int .u16 0, .int .u16 0, .slice none 0 0, .slice none 0 0, .slice none 0 0, .slice none 0 0] 29 (0, 0))) :
    Calls Try.prog F #[.agg #[.pointer (some ⟨pc, 0, none⟩)], .pointer (some ⟨W.heap.size, 0, none⟩)] W' fun x w' => Below w0.heap.size w0 w' ∧ ReadOut W' w' W.heap.size pc x spec :=
  hr W.heap.size pc w0 W' (below_step hB hBW) ⟨hB.size, A, c, hW, hcl, hC⟩ hp0 (fun e => by have := blk_lt hpc; omega) ((hBW.block pc (blk_lt hpc)).trans hpc)
theorem read_ok {F : Nat} {t fl : Int} {lv : List Int} {c : S29} (hr : ReadC F t fl lv (.ok c)) (pc : Nat) (A : Option Addr) (cp : Nat) (w0 W W' : World) (hB : Below w0.heap.size w0 W) (hBW : Below W.heap.size W W') (hW : W'.heap[W.heap.size]? = some (.cells #[.slice A lv.length cp] 73 (0, 0))) (hcl : lv.length ≤ cp) (hC : Kd.C (Kd.int .u8) w0 A lv.length lv) (hp0 : w0.heap.size ≤ pc) (hpc : W.heap[pc]? = some (.cells #[.int .u8 t, .int .u8 fl, .int .u32 0, .int .u16 0, .int .u16 0, .int .u32 0, .int .u32 0, .int .u32 0, .int .u16 0, .int .u16 0, .slice none 0 0, .slice none 0 0, .slice none 0 0, .slice none 0 0] 29 (0, 0))) :
    Calls Try.prog F #[.agg #[.pointer (some ⟨pc, 0, none⟩)], .pointer (some ⟨W.heap.size, 0, none⟩)] W' fun x w' => x = .returned (.tuple #[]) ∧ (∃ A10 A11 A12 A13 c10 c11 c12 c13, w'.heap[pc]? = some (.cells #[.int .u8 c.f0, .int .u8 c.f1, .int .u32 c.f2, .int .u16 c.f3, .int .u16 c.f4, .int .u32 c.f5, .int .u32 c.f6, .int .u32 c.f7, .int .u16 c.f8, .int .u16 c.f9, .slice A10 c.f10.length c10, .slice A11 c.f11.length c11, .slice A12 c.f12.length c12, .slice A13 c.f13.length c13] 29 (0, 0)) ∧ Kd.R k101 101 w' W.heap.size (fun _ => True) (.slice A10 c.f10.length c10) c.f10 ∧ Kd.R (Kd.int .u32) 22 w' W.heap.size (fun _ => True) (.slice A11 c.f11.length c11) c.f11 ∧ Kd.R k48 48 w' W.heap.size (fun _ => True) (.slice A12 c.f12.length c12) c.f12 ∧ Kd.R (Kd.int .u8) 5 w' W.heap.size (fun _ => True) (.slice A13 c.f13.length c13) c.f13) ∧ Below w0.heap.size w0 w' ∧ Kept W w' (fun k => k = pc) := by
  refine (read_at hr pc A cp w0 W W' hB hBW hW hcl hC hp0 hpc).mono ?_
  rintro x w' ⟨hb, rfl, ⟨v10, v11, v12, v13, hh, h10, h11, h12, h13⟩, hk⟩
  obtain ⟨A10, c10, e10⟩ := Kd.R_slice h10
  obtain ⟨A11, c11, e11⟩ := Kd.R_slice h11
  obtain ⟨A12, c12, e12⟩ := Kd.R_slice h12
  obtain ⟨A13, c13, e13⟩ := Kd.R_slice h13
  subst e10 e11 e12 e13
  exact ⟨rfl, ⟨A10, A11, A12, A13, c10, c11, c12, c13, hh, Kd.R_lower h10 hBW.size, Kd.R_lower h11 hBW.size, Kd.R_lower h12 hBW.size, Kd.R_lower h13 hBW.size⟩, hb, Nat.le_trans hBW.size hk.1, fun k hk1 hn => (hk.2 k (Nat.lt_of_lt_of_le hk1 hBW.size) (fun hh => hh.elim (fun e => by omega) hn)).trans (hBW.block k hk1)⟩
theorem read_bad {F : Nat} {t fl : Int} {lv : List Int} {e : Int} (hr : ReadC F t fl lv (.error e)) (pc : Nat) (A : Option Addr) (cp : Nat) (w0 W W' : World) (hB : Below w0.heap.size w0 W) (hBW : Below W.heap.size W W') (hW : W'.heap[W.heap.size]? = some (.cells #[.slice A lv.length cp] 73 (0, 0))) (hcl : lv.length ≤ cp) (hC : Kd.C (Kd.int .u8) w0 A lv.length lv) (hp0 : w0.heap.size ≤ pc) (hpc : W.heap[pc]? = some (.cells #[.int .u8 t, .int .u8 fl, .int .u32 0, .int .u16 0, .int .u16 0, .int .u32 0, .int .u32 0, .int .u32 0, .int .u16 0, .int .u16 0, .slice none 0 0, .slice none 0 0, .slice none 0 0, .slice none 0 0] 29 (0, 0))) :
    Calls Try.prog F #[.agg #[.pointer (some ⟨pc, 0, none⟩)], .pointer (some ⟨W.heap.size, 0, none⟩)] W' fun x w' => x = .panicked [{ v := faultV e, recovered := false }] ∧ Below w0.heap.size w0 w' := by
  refine (read_at hr pc A cp w0 W W' hB hBW hW hcl hC hp0 hpc).mono ?_
  rintro x w' ⟨hb, he⟩
  exact ⟨he, hb⟩
/-- Go on with a chunk, or tell the fault. -/
def thenV {α : Type} (x : Except Int S29) (k : S29 → Except Int α) : Except Int α := match x with
  | .error e => .error e
  | .ok c => k c
theorem u64w {n : Int} (h0 : 0 ≤ n) (h1 : n < 18446744073709551616) : IntKind.u64.wrap n = n := by
  have : IntKind.u64.wrap n = n % 18446744073709551616 := by simp [IntKind.wrap, IntKind.bits, IntKind.signed]
  rw [this]; omega
/-- The chunks of bytes, behind those that were taken; or the fault. -/
def chunksV : Nat → List Int → List S29 → Except Int (List S29)
  | 0, _, out => .ok out
  | f + 1, l, out =>
    if l.length = 0 then .ok out
    else if l.length < 4 then .error 3
    else if numN (l.drop 2) 2 < 4 then .error 4
    else if l.length < ((numN (l.drop 2) 2).toNat + 3) / 4 * 4 then .error 3
    else if 32 ≤ out.length then .error 6
    else thenV (oneV (rd l 0) (rd l 1) ((l.drop 4).take ((numN (l.drop 2) 2).toNat - 4))) fun c => chunksV f (l.drop (((numN (l.drop 2) 2).toNat + 3) / 4 * 4)) (out ++ [c])
/-- What chunks tells. -/
def ChunksOut (w w' : World) (x : Ending) : Except Int (List S29) → Prop
  | .ok cs => ∃ v, x = .returned v ∧ Kd.R k29 29 w' w.heap.size (fun _ => True) v cs
  | .error e => x = .panicked [{ v := faultV e, recovered := false }]
end Go.Proofs.Ytaahkggbjpdofaa.M
end
