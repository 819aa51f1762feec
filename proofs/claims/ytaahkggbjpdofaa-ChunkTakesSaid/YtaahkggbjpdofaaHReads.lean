/- The kinds' read: what each takes of a chunk's value, with its faults. -/
import Derived.Test.YtaahkggbjpdofaaHRead
import Derived.WalkSpells
import Derived.LoopN
import Derived.Deep.RegionWith
namespace Go.Proofs.Ytaahkggbjpdofaa.M
open Go.RowKit Go.Proofs.YtaahkggbjpdofaaW.PrintWords Go.Proofs.YtaahkggbjpdofaaW.PrintLast Go.Proofs.YtaahkggbjpdofaaW.PrintMore
open Go.Proofs.Ytaahkggbjpdofaa.Pure
set_option linter.unusedVariables false
set_option linter.unusedSimpArgs false
theorem RdrOf.set {w0 w : World} {g pb j : Nat} {l : List Int} {v : Value} (h : RdrOf w0 w g l) (hne : g ≠ pb) : RdrOf w0 (w.setCell ⟨pb, j, none⟩ v) g l := by
  obtain ⟨h1, A, c, h2, h3, h4⟩ := h
  exact ⟨h1, A, c, blk_far h2 hne v, h3, h4⟩
theorem wpAny_hook {P : Program} {G : Prop} {w : World} (h : wpAny P .any #[] (fun _ _ _ => G) 1 #[] ⟨#[], []⟩ w) : G := by
  unfold wpAny at h
  first | exact h | (simp [Region.ready] at h; exact h) | (split at h <;> first | exact h | skip)
theorem calls_cut {P : Program} {f : Nat} {args : Array Value} {W : World} {R : Ending → World → Prop} (F : World → Prop) (h : F W) (k : ∀ W', F W' → Calls P f args W' R) : Calls P f args W R := k W h
theorem R_setpb {α : Type} {d : Kd α} {e B pb j : Nat} {w : World} {v u : Value} {xs : List α} (h : d.R e w B (fun _ => True) v xs) (hlt : pb < B) : d.R e (w.setCell ⟨pb, j, none⟩ u) B (fun _ => True) v xs :=
  Kd.R_mono (Kd.R_far (p := ⟨pb, j, none⟩) (Kd.R_mono (Kd.R_bound h) (fun k hk => hk.2.1)) (fun k hk e => by have e : k = pb := e; omega) u) (fun _ _ => trivial)
/-- What a kind's read tells: the chunk's block, with rows of its own; or the fault. -/
def ReadOut (w w' : World) (g pb : Nat) (x : Ending) : Except Int S29 → Prop
  | .ok c => x = .returned (.tuple #[]) ∧ (∃ v10 v11 v12 v13 : Value, w'.heap[pb]? = some (.cells #[.int .u8 c.f0, .int .u8 c.f1, .int .u32 c.f2, .int .u16 c.f3, .int .u16 c.f4, .int .u32 c.f5, .int .u32 c.f6, .int .u32 c.f7, .int .u16 c.f8, .int .u16 c.f9, v10, v11, v12, v13] 29 (0, 0)) ∧ Kd.R k101 101 w' w.heap.size (fun _ => True) v10 c.f10 ∧ Kd.R (Kd.int .u32) 22 w' w.heap.size (fun _ => True) v11 c.f11 ∧ Kd.R k48 48 w' w.heap.size (fun _ => True) v12 c.f12 ∧ Kd.R (Kd.int .u8) 5 w' w.heap.size (fun _ => True) v13 c.f13) ∧ Kept w w' (fun k => k = g ∨ k = pb)
  | .error e => x = .panicked [{ v := faultV e, recovered := false }]
theorem u16w {x : Int} (h : 0 ≤ x ∧ x < 65536) : IntKind.u16.wrap x = x := by
  have : IntKind.u16.wrap x = x % 65536 := by simp [IntKind.wrap, IntKind.bits, IntKind.signed]
  rw [this]; omega
/-- The chunk of a value of bytes alone. -/
def rawV (t fl : Int) (l : List Int) : Except Int S29 := .ok ⟨t, fl, 0, 0, 0, 0, 0, 0, 0, 0, [], [], [], l⟩
set_option maxHeartbeats 4000000 in
set_option maxRecDepth 100000 in
theorem raw_reads (g pb : Nat) (l : List Int) (t fl : Int) (w0 w : World) (hB : Below w0.heap.size w0 w) (hx : RdrOf w0 w g l) (hb : Bytes l) (hl : l.length ≤ 65536) (hpb : w0.heap.size ≤ pb) (hne : g ≠ pb) (hc : w.heap[pb]? = some (.cells #[.int .u8 t, .int .u8 fl, .int .u32 0, .int .u16 0, .int .u16 0, .int .u32 0, .int .u32 0, .int .u32 0, .int .u16 0, .int .u16 0, .slice none 0 0, .slice none 0 0, .slice none 0 0, .slice none 0 0] 29 (0, 0))) :
    Calls Try.prog 106 #[.agg #[.pointer (some ⟨pb, 0, none⟩)], .pointer (some ⟨g, 0, none⟩)] w fun x w' => Below w0.heap.size w0 w' ∧ ReadOut w w' g pb x (rawV t fl l) := by
  have HB := Aside0.mk hB
  have HX := Aside0.mk hx
  have HBY := Aside0.mk hb
  have HL := Aside0.mk hl
  have HPB := Aside0.mk hpb
  have HNE := Aside0.mk hne
  have HC := Aside0.mk hc
  have HSZ := Aside0.mk hx.lt
  clear hB hx hb hl hpb hne hc
  go_enter Try.func106, Try.ntmps106
  go_wp2_with (first | ((with_reducible refine gate_dst (N := 2) rfl ?_); refine box_event ?hg (N := 2) ?hd (cs := #[.pointer (some ⟨pb, 0, none⟩)]) (t := 85) ?hr ?_; (case hd => rfl); (case hg => rfl); (case hr => first | (go_simp; done) | (go_simp; rfl)); intro p2 hg0 w1 hbox0 hb0; have hp0 : w1.cell? ⟨p2, 0, none⟩ = some (.pointer (some ⟨pb, 0, none⟩)) := blk_cell hbox0 0; have HB1 := Aside0.mk (below_step HB.out hb0); have HX1 := Aside0.mk (HX.out.below hb0); have HC1 := Aside0.mk (blk_below HC.out hb0); have HK1 := Aside0.mk (Kept.of_below hb0 (fun k => k = g ∨ k = pb)); have HP1 := Aside0.mk hbox0; have HPG := Aside0.mk (show ¬ p2 = g by have := HSZ.out; omega); clear hg0 hbox0 hb0))
  first | (go_region_with (first | (go_at_call 91; (first | (with_reducible refine (rest_calls g l w0 w1.drew HB1.out.drew (HX1.out.below (Below.refl _ _).drew) (by have := HL.out; omega)).mono ?_) | (with_reducible refine (rest_calls g l w0 w1 HB1.out HX1.out (by have := HL.out; omega)).mono ?_)); rintro e w2 ⟨v2, rfl, ho2, hx2, hb2, hk2⟩; obtain ⟨A2, c2, e2⟩ := Kd.R_slice ho2; subst e2; have hc2 := blk_kept (show w1.heap[pb]? = _ from HC1.out) hk2 (fun hh => HNE.out hh.symm); have HO2 := Aside0.mk ho2; have HB2 := Aside0.mk hb2; have HC2 := Aside0.mk hc2; have HK2 := Aside0.mk (Kept.then_ HK1.out (show Kept w1 w2 (fun k => k = g) from hk2) (fun k hk => .inl (.inl hk))); have hp2 : w2.cell? ⟨p2, 0, none⟩ = some (.pointer (some ⟨pb, 0, none⟩)) := blk_cell (blk_kept (show w1.heap[p2]? = _ from HP1.out) hk2 HPG.out) 0; have hc13 : w2.cell? ⟨pb, 13, none⟩ = some (.slice none 0 0) := blk_cell hc2 13; have hf13 : w2.frozen? ⟨pb, 13, none⟩ = false := blk_frozen hc2 13; clear ho2 hx2 hb2 hk2 hc2))) | fail
  all_goals go_end0
  all_goals exact ⟨below_set HB2.out HPB.out, rfl, ⟨_, _, _, _, blk_put HC2.out 13 _ rfl, Kd.R_nil _ _ _ _ _, Kd.R_nil _ _ _ _ _, Kd.R_nil _ _ _ _ _, Kd.R_lower (R_setpb HO2.out (Nat.lt_of_lt_of_le (blk_lt HC.out) HK1.out.1)) HK1.out.1⟩, Kept.setCell HK2.out (.inl (.inr rfl)) _⟩
theorem params_ok (g : Nat) (l : List Int) (ps : List S48) (w0 w : World) (hB : Below w0.heap.size w0 w) (hx : RdrOf w0 w g l) (hb : Bytes l) (hl : l.length ≤ 65536) (hps : parsV (l.length + 1) l [] = .ok ps) :
    Calls Try.prog 96 #[.pointer (some ⟨g, 0, none⟩)] w fun x w' => ∃ v, x = .returned v ∧ Kd.R k48 48 w' w.heap.size (fun _ => True) v ps ∧ Below w0.heap.size w0 w' ∧ Kept w w' (fun k => k = g) := by
  refine (params_calls g l w0 w hB hx hb hl).mono ?_
  rintro x w' ⟨hb', hp⟩
  rw [hps] at hp
  obtain ⟨v, rfl, ho, _, hk⟩ := hp
  exact ⟨v, rfl, ho, hb', hk⟩
theorem params_bad (g : Nat) (l : List Int) (e : Int) (w0 w : World) (hB : Below w0.heap.size w0 w) (hx : RdrOf w0 w g l) (hb : Bytes l) (hl : l.length ≤ 65536) (hps : parsV (l.length + 1) l [] = .error e) :
    Calls Try.prog 96 #[.pointer (some ⟨g, 0, none⟩)] w fun x w' => x = .panicked [{ v := faultV e, recovered := false }] ∧ Below w0.heap.size w0 w' := by
  refine (params_calls g l w0 w hB hx hb hl).mono ?_
  rintro x w' ⟨hb', hp⟩
  rw [hps] at hp
  exact ⟨hp, hb'⟩
/-- The chunk of a value of parameters. -/
def pmV (t fl : Int) (l : List Int) : Except Int S29 := match parsV (l.length + 1) l [] with
  | .ok ps => .ok ⟨t, fl, 0, 0, 0, 0, 0, 0, 0, 0, [], [], ps, []⟩
  | .error e => .error e
set_option maxHeartbeats 4000000 in
set_option maxRecDepth 100000 in
theorem params_reads (g pb : Nat) (l : List Int) (t fl : Int) (w0 w : World) (hB : Below w0.heap.size w0 w) (hx : RdrOf w0 w g l) (hb : Bytes l) (hl : l.length ≤ 65536) (hpb : w0.heap.size ≤ pb) (hne : g ≠ pb) (hc : w.heap[pb]? = some (.cells #[.int .u8 t, .int .u8 fl, .int .u32 0, .int .u16 0, .int .u16 0, .int .u32 0, .int .u32 0, .int .u32 0, .int .u16 0, .int .u16 0, .slice none 0 0, .slice none 0 0, .slice none 0 0, .slice none 0 0] 29 (0, 0))) :
    Calls Try.prog 100 #[.agg #[.pointer (some ⟨pb, 0, none⟩)], .pointer (some ⟨g, 0, none⟩)] w fun x w' => Below w0.heap.size w0 w' ∧ ReadOut w w' g pb x (pmV t fl l) := by
  have HB := Aside0.mk hB
  have HX := Aside0.mk hx
  have HBY := Aside0.mk hb
  have HL := Aside0.mk hl
  have HPB := Aside0.mk hpb
  have HNE := Aside0.mk hne
  have HC := Aside0.mk hc
  have HSZ := Aside0.mk hx.lt
  cases hps : parsV (l.length + 1) l [] with
  | error e =>
    have HPS := Aside0.mk hps
    have HE := Aside0.mk (show pmV t fl l = .error e by unfold pmV; rw [hps])
    clear hB hx hb hl hpb hne hc hps
    go_enter Try.func100, Try.ntmps100
    go_wp2_with (first | ((with_reducible refine gate_dst (N := 2) rfl ?_); refine box_event ?hg (N := 2) ?hd (cs := #[.pointer (some ⟨pb, 0, none⟩)]) (t := 82) ?hr ?_; (case hd => rfl); (case hg => rfl); (case hr => first | (go_simp; done) | (go_simp; rfl)); intro p2 hg0 w1 hbox0 hb0; have hp0 : w1.cell? ⟨p2, 0, none⟩ = some (.pointer (some ⟨pb, 0, none⟩)) := blk_cell hbox0 0; have HB1 := Aside0.mk (below_step HB.out hb0); have HX1 := Aside0.mk (HX.out.below hb0); have HC1 := Aside0.mk (blk_below HC.out hb0); have HK1 := Aside0.mk (Kept.of_below hb0 (fun k => k = g ∨ k = pb)); have HP1 := Aside0.mk hbox0; have HPG := Aside0.mk (show ¬ p2 = g by have := HSZ.out; omega); clear hg0 hbox0 hb0))
    first | (go_region_with (first | (go_at_call 96; (first | (with_reducible refine (params_bad g l e w0 w1.drew HB1.out.drew (HX1.out.below (Below.refl _ _).drew) HBY.out HL.out HPS.out).mono ?_) | (with_reducible refine (params_bad g l e w0 w1 HB1.out HX1.out HBY.out HL.out HPS.out).mono ?_)); rintro e2 w2 ⟨rfl, hb2⟩; have HB2 := Aside0.mk hb2; clear hb2; refine wpAny_hook (P := Try.prog) (w := w2) ?_))) | fail
    all_goals exact ⟨rfl, HB2.out, by rw [HE.out]; rfl⟩
  | ok ps =>
    have HPS := Aside0.mk hps
    have HE := Aside0.mk (show pmV t fl l = .ok ⟨t, fl, 0, 0, 0, 0, 0, 0, 0, 0, [], [], ps, []⟩ by unfold pmV; rw [hps])
    clear hB hx hb hl hpb hne hc hps
    go_enter Try.func100, Try.ntmps100
    go_wp2_with (first | ((with_reducible refine gate_dst (N := 2) rfl ?_); refine box_event ?hg (N := 2) ?hd (cs := #[.pointer (some ⟨pb, 0, none⟩)]) (t := 82) ?hr ?_; (case hd => rfl); (case hg => rfl); (case hr => first | (go_simp; done) | (go_simp; rfl)); intro p2 hg0 w1 hbox0 hb0; have hp0 : w1.cell? ⟨p2, 0, none⟩ = some (.pointer (some ⟨pb, 0, none⟩)) := blk_cell hbox0 0; have HB1 := Aside0.mk (below_step HB.out hb0); have HX1 := Aside0.mk (HX.out.below hb0); have HC1 := Aside0.mk (blk_below HC.out hb0); have HK1 := Aside0.mk (Kept.of_below hb0 (fun k => k = g ∨ k = pb)); have HP1 := Aside0.mk hbox0; have HPG := Aside0.mk (show ¬ p2 = g by have := HSZ.out; omega); clear hg0 hbox0 hb0))
    first | (go_region_with (first | (go_at_call 96; (first | (with_reducible refine (params_ok g l ps w0 w1.drew HB1.out.drew (HX1.out.below (Below.refl _ _).drew) HBY.out HL.out HPS.out).mono ?_) | (with_reducible refine (params_ok g l ps w0 w1 HB1.out HX1.out HBY.out HL.out HPS.out).mono ?_)); rintro e2 w2 ⟨v2, rfl, ho2, hb2, hk2⟩; obtain ⟨A2, c2, e2⟩ := Kd.R_slice ho2; subst e2; have hc2 := blk_kept (show w1.heap[pb]? = _ from HC1.out) hk2 (fun hh => HNE.out hh.symm); have HO2 := Aside0.mk ho2; have HB2 := Aside0.mk hb2; have HC2 := Aside0.mk hc2; have HK2 := Aside0.mk (Kept.then_ HK1.out (show Kept w1 w2 (fun k => k = g) from hk2) (fun k hk => .inl (.inl hk))); have hp2 : w2.cell? ⟨p2, 0, none⟩ = some (.pointer (some ⟨pb, 0, none⟩)) := blk_cell (blk_kept (show w1.heap[p2]? = _ from HP1.out) hk2 HPG.out) 0; have hc12 : w2.cell? ⟨pb, 12, none⟩ = some (.slice none 0 0) := blk_cell hc2 12; have hf12 : w2.frozen? ⟨pb, 12, none⟩ = false := blk_frozen hc2 12; clear ho2 hb2 hk2 hc2))) | fail
    all_goals go_end0
    all_goals exact ⟨below_set HB2.out HPB.out, by rw [HE.out]; exact ⟨rfl, ⟨_, _, _, _, blk_put HC2.out 12 _ rfl, Kd.R_nil _ _ _ _ _, Kd.R_nil _ _ _ _ _, Kd.R_lower (R_setpb HO2.out (Nat.lt_of_lt_of_le (blk_lt HC.out) HK1.out.1)) HK1.out.1, Kd.R_nil _ _ _ _ _⟩, Kept.setCell HK2.out (.inl (.inr rfl)) _⟩⟩
/-- The chunk of no value. -/
def bareV (t fl : Int) (l : List Int) : Except Int S29 := if l.length = 0 then .ok ⟨t, fl, 0, 0, 0, 0, 0, 0, 0, 0, [], [], [], []⟩ else .error 4
set_option maxHeartbeats 4000000 in
set_option maxRecDepth 100000 in
theorem bare_reads (g pb : Nat) (l : List Int) (t fl : Int) (w0 w : World) (hB : Below w0.heap.size w0 w) (hx : RdrOf w0 w g l) (hb : Bytes l) (hl : l.length ≤ 65536) (hpb : w0.heap.size ≤ pb) (hne : g ≠ pb) (hc : w.heap[pb]? = some (.cells #[.int .u8 t, .int .u8 fl, .int .u32 0, .int .u16 0, .int .u16 0, .int .u32 0, .int .u32 0, .int .u32 0, .int .u16 0, .int .u16 0, .slice none 0 0, .slice none 0 0, .slice none 0 0, .slice none 0 0] 29 (0, 0))) :
    Calls Try.prog 104 #[.agg #[.pointer (some ⟨pb, 0, none⟩)], .pointer (some ⟨g, 0, none⟩)] w fun x w' => Below w0.heap.size w0 w' ∧ ReadOut w w' g pb x (bareV t fl l) := by
  have HB := Aside0.mk hB
  have HX := Aside0.mk hx
  have HBY := Aside0.mk hb
  have HL := Aside0.mk hl
  have HPB := Aside0.mk hpb
  have HNE := Aside0.mk hne
  have HC := Aside0.mk hc
  have HSZ := Aside0.mk hx.lt
  obtain ⟨b, hbb⟩ : ∃ b, decide (0 < l.length) = b := ⟨_, rfl⟩
  have HBB := Aside0.mk hbb
  cases b with
  | true =>
    have HE := Aside0.mk (show bareV t fl l = .error 4 by unfold bareV; rw [if_neg (by have := of_decide_eq_true hbb; omega)])
    clear hB hx hb hl hpb hne hc hbb
    go_enter Try.func104, Try.ntmps104
    go_wp2_with (first | ((with_reducible refine gate_dst (N := 2) rfl ?_); refine box_event ?hg (N := 2) ?hd (cs := #[.pointer (some ⟨pb, 0, none⟩)]) (t := 84) ?hr ?_; (case hd => rfl); (case hg => rfl); (case hr => first | (go_simp; done) | (go_simp; rfl)); intro p2 hg0 w1 hbox0 hb0; have hp0 : w1.cell? ⟨p2, 0, none⟩ = some (.pointer (some ⟨pb, 0, none⟩)) := blk_cell hbox0 0; have HB1 := Aside0.mk (below_step HB.out hb0); have HX1 := Aside0.mk (HX.out.below hb0); have HC1 := Aside0.mk (blk_below HC.out hb0); have HK1 := Aside0.mk (Kept.of_below hb0 (fun k => k = g ∨ k = pb)); have HP1 := Aside0.mk hbox0; have HPG := Aside0.mk (show ¬ p2 = g by have := HSZ.out; omega); clear hg0 hbox0 hb0) | (go_at_call 58; (with_reducible refine (left_calls g l true w0 w1 HX1.out HBB.out).mono ?_); rintro e w2 ⟨rfl, hw2⟩; have hw2 := hw2.symm; subst hw2) | (go_at_call 38; (with_reducible refine (must_bad _ _).mono ?_); rintro e wm ⟨rfl, hwm⟩; have hwm := hwm.symm; subst hwm))
    exact ⟨rfl, HB1.out, by rw [HE.out]; rfl⟩
  | false =>
    have HE := Aside0.mk (show bareV t fl l = .ok ⟨t, fl, 0, 0, 0, 0, 0, 0, 0, 0, [], [], [], []⟩ by unfold bareV; rw [if_pos (by have := of_decide_eq_false hbb; omega)])
    clear hB hx hb hl hpb hne hc hbb
    go_enter Try.func104, Try.ntmps104
    go_wp2_with (first | ((with_reducible refine gate_dst (N := 2) rfl ?_); refine box_event ?hg (N := 2) ?hd (cs := #[.pointer (some ⟨pb, 0, none⟩)]) (t := 84) ?hr ?_; (case hd => rfl); (case hg => rfl); (case hr => first | (go_simp; done) | (go_simp; rfl)); intro p2 hg0 w1 hbox0 hb0; have hp0 : w1.cell? ⟨p2, 0, none⟩ = some (.pointer (some ⟨pb, 0, none⟩)) := blk_cell hbox0 0; have HB1 := Aside0.mk (below_step HB.out hb0); have HX1 := Aside0.mk (HX.out.below hb0); have HC1 := Aside0.mk (blk_below HC.out hb0); have HK1 := Aside0.mk (Kept.of_below hb0 (fun k => k = g ∨ k = pb)); have HP1 := Aside0.mk hbox0; have HPG := Aside0.mk (show ¬ p2 = g by have := HSZ.out; omega); clear hg0 hbox0 hb0) | (go_at_call 58; (with_reducible refine (left_calls g l false w0 w1 HX1.out HBB.out).mono ?_); rintro e w2 ⟨rfl, hw2⟩; have hw2 := hw2.symm; subst hw2) | (go_at_call 38; (with_reducible refine (must_ok _ _).mono ?_); rintro e wm ⟨rfl, hwm⟩; have hwm := hwm.symm; subst hwm))
    go_end0
    exact ⟨HB1.out, by rw [HE.out]; exact ⟨rfl, ⟨_, _, _, _, HC1.out, Kd.R_nil _ _ _ _ _, Kd.R_nil _ _ _ _ _, Kd.R_nil _ _ _ _ _, Kd.R_nil _ _ _ _ _⟩, HK1.out⟩⟩
/-- The chunk of one number. -/
def numberV (t fl : Int) (l : List Int) : Except Int S29 := if l.length = 4 then .ok ⟨t, fl, numN l 4, 0, 0, 0, 0, 0, 0, 0, [], [], [], []⟩ else .error 4
set_option maxHeartbeats 4000000 in
set_option maxRecDepth 100000 in
theorem number_reads (g pb : Nat) (l : List Int) (t fl : Int) (w0 w : World) (hB : Below w0.heap.size w0 w) (hx : RdrOf w0 w g l) (hb : Bytes l) (hl : l.length ≤ 65536) (hpb : w0.heap.size ≤ pb) (hne : g ≠ pb) (hc : w.heap[pb]? = some (.cells #[.int .u8 t, .int .u8 fl, .int .u32 0, .int .u16 0, .int .u16 0, .int .u32 0, .int .u32 0, .int .u32 0, .int .u16 0, .int .u16 0, .slice none 0 0, .slice none 0 0, .slice none 0 0, .slice none 0 0] 29 (0, 0))) :
    Calls Try.prog 102 #[.agg #[.pointer (some ⟨pb, 0, none⟩)], .pointer (some ⟨g, 0, none⟩)] w fun x w' => Below w0.heap.size w0 w' ∧ ReadOut w w' g pb x (numberV t fl l) := by
  have HB := Aside0.mk hB
  have HX := Aside0.mk hx
  have HBY := Aside0.mk hb
  have HL := Aside0.mk hl
  have HPB := Aside0.mk hpb
  have HNE := Aside0.mk hne
  have HC := Aside0.mk hc
  have HSZ := Aside0.mk hx.lt
  obtain ⟨a2, ha2⟩ : ∃ a2, a2 = numN l 4 := ⟨_, rfl⟩
  have HN := Aside0.mk ha2
  have hr2 := numN_range hb 4 (by decide)
  have hm2 : a2 % 4294967296 = a2 := by rw [ha2]; omega
  have hm3 : IntKind.u32.wrap a2 = a2 := by have : IntKind.u32.wrap a2 = a2 % 4294967296 := by simp [IntKind.wrap, IntKind.bits, IntKind.signed]
                                            rw [this, hm2]
  by_cases h4 : l.length < 4
  · have HE := Aside0.mk (show numberV t fl l = .error 4 by unfold numberV; rw [if_neg (by omega)])
    have H4 := Aside0.mk (show (l.length : Int) < 4 by omega)
    clear hB hx hb hl hpb hne hc ha2 hr2 h4
    go_enter Try.func102, Try.ntmps102
    go_wp2_with (first | ((with_reducible refine gate_dst (N := 2) rfl ?_); refine box_event ?hg (N := 2) ?hd (cs := #[.pointer (some ⟨pb, 0, none⟩)]) (t := 83) ?hr ?_; (case hd => rfl); (case hg => rfl); (case hr => first | (go_simp; done) | (go_simp; rfl)); intro p2 hg0 w1 hbox0 hb0; have hp0 : w1.cell? ⟨p2, 0, none⟩ = some (.pointer (some ⟨pb, 0, none⟩)) := blk_cell hbox0 0; have HB1 := Aside0.mk (below_step HB.out hb0); have HX1 := Aside0.mk (HX.out.below hb0); have HC1 := Aside0.mk (blk_below HC.out hb0); have HK1 := Aside0.mk (Kept.of_below hb0 (fun k => k = g ∨ k = pb)); have HP1 := Aside0.mk hbox0; have HPG := Aside0.mk (show ¬ p2 = g by have := HSZ.out; omega); clear hg0 hbox0 hb0))
    first | (go_region_with (first | (go_at_call 40; (first | (with_reducible refine (num_bad g l 4 w0 w1.drew (HX1.out.below (Below.refl _ _).drew) H4.out).mono ?_) | (with_reducible refine (num_bad g l 4 w0 w1 HX1.out H4.out).mono ?_)); rintro e2 w2 ⟨rfl, rfl⟩; refine wpAny_hook (P := Try.prog) (w := w1) ?_))) | fail
    all_goals exact ⟨rfl, HB1.out.drew, by rw [HE.out]; rfl⟩
  have H4 := Aside0.mk (show 4 ≤ l.length by omega)
  obtain ⟨l4, hl4⟩ : ∃ l4, l4 = l.drop 4 := ⟨_, rfl⟩
  have HL4 := Aside0.mk hl4
  obtain ⟨b, hbb⟩ : ∃ b, decide (0 < l4.length) = b := ⟨_, rfl⟩
  have HBB := Aside0.mk hbb
  have hll : l4.length = l.length - 4 := by rw [hl4, List.length_drop]
  cases b with
  | true =>
    have HE := Aside0.mk (show numberV t fl l = .error 4 by unfold numberV; rw [if_neg (by have := of_decide_eq_true hbb; omega)])
    clear hB hx hb hl hpb hne hc ha2 hr2 h4 hl4 hbb hll
    go_enter Try.func102, Try.ntmps102
    go_wp2_with (first | ((with_reducible refine gate_dst (N := 2) rfl ?_); refine box_event ?hg (N := 2) ?hd (cs := #[.pointer (some ⟨pb, 0, none⟩)]) (t := 83) ?hr ?_; (case hd => rfl); (case hg => rfl); (case hr => first | (go_simp; done) | (go_simp; rfl)); intro p2 hg0 w1 hbox0 hb0; have hp0 : w1.cell? ⟨p2, 0, none⟩ = some (.pointer (some ⟨pb, 0, none⟩)) := blk_cell hbox0 0; have HB1 := Aside0.mk (below_step HB.out hb0); have HX1 := Aside0.mk (HX.out.below hb0); have HC1 := Aside0.mk (blk_below HC.out hb0); have HK1 := Aside0.mk (Kept.of_below hb0 (fun k => k = g ∨ k = pb)); have HP1 := Aside0.mk hbox0; have HPG := Aside0.mk (show ¬ p2 = g by have := HSZ.out; omega); clear hg0 hbox0 hb0))
    obtain ⟨F, hF⟩ : ∃ F : Act → World → Prop, ∀ a' w', F a' w' ↔ ∃ x3 x4 x5 x6 x7 x8 x9 x10 x11 x12 x13 x14 : Value, a' = { tmps := #[.agg #[.pointer (some ⟨pb, 0, none⟩)], .pointer (some ⟨g, 0, none⟩), .pointer (some ⟨p2, 0, none⟩), x3, x4, x5, x6, x7, x8, x9, x10, x11, x12, x13, x14], defers := [] } ∧ w'.heap[pb]? = some (.cells #[.int .u8 t, .int .u8 fl, .int .u32 a2, .int .u16 0, .int .u16 0, .int .u32 0, .int .u32 0, .int .u32 0, .int .u16 0, .int .u16 0, .slice none 0 0, .slice none 0 0, .slice none 0 0, .slice none 0 0] 29 (0, 0)) ∧ RdrOf w0 w' g l4 ∧ Below w0.heap.size w0 w' ∧ Kept w w' (fun k => k = g ∨ k = pb) := ⟨_, fun _ _ => Iff.rfl⟩
    have HF := Aside0.mk hF
    clear hF
    refine region_to F ?_ ?_
    · intro K1 HQ
      first | (go_region_with (first | (go_at_call 40; (first | (with_reducible refine (num4_ok g l a2 w0 w1.drew HB1.out.drew (HX1.out.below (Below.refl _ _).drew) HBY.out HN.out H4.out).mono ?_) | (with_reducible refine (num4_ok g l a2 w0 w1 HB1.out HX1.out HBY.out HN.out H4.out).mono ?_)); rintro e2 w2 ⟨rfl, hx2, hb2, hk2⟩; have hc2 := blk_kept (show w1.heap[pb]? = _ from HC1.out) hk2 (fun hh => HNE.out hh.symm); have HB2 := Aside0.mk hb2; have HC2 := Aside0.mk hc2; have HX2 := Aside0.mk (show RdrOf w0 w2 g l4 by rw [HL4.out]; exact hx2); have HK2 := Aside0.mk (Kept.then_ HK1.out (show Kept w1 w2 (fun k => k = g) from hk2) (fun k hk => .inl (.inl hk))); have hp2 : w2.cell? ⟨p2, 0, none⟩ = some (.pointer (some ⟨pb, 0, none⟩)) := blk_cell (blk_kept (show w1.heap[p2]? = _ from HP1.out) hk2 HPG.out) 0; have hc2 : w2.cell? ⟨pb, 2, none⟩ = some (.int .u32 0) := blk_cell HC2.out 2; have hf2 : w2.frozen? ⟨pb, 2, none⟩ = false := blk_frozen HC2.out 2; clear hb2 hk2 hx2))) | fail
      all_goals exact HQ.out _ _ ((HF.out _ _).2 ⟨_, _, _, _, _, _, _, _, _, _, _, _, rfl, blk_put HC2.out 2 _ rfl, HX2.out.set HNE.out, below_set HB2.out HPB.out, Kept.setCell HK2.out (.inl (.inr rfl)) _⟩)
    intro a' W5 hfw
    obtain ⟨x3, x4, x5, x6, x7, x8, x9, x10, x11, x12, x13, x14, rfl, hc5, hx5, hb5, hk5⟩ := (HF.out _ _).1 hfw
    have HC5 := Aside0.mk hc5
    have HX5 := Aside0.mk hx5
    have HB5 := Aside0.mk hb5
    have HK5 := Aside0.mk hk5
    clear hfw HF F hc5 hx5 hb5 hk5 hp0
    go_wp2_with (first | (go_at_call 58; (with_reducible refine (left_calls g l4 true w0 W5 HX5.out HBB.out).mono ?_); rintro e w6 ⟨rfl, hw6⟩; have hw6 := hw6.symm; subst hw6) | (go_at_call 38; (with_reducible refine (must_bad _ _).mono ?_); rintro e wm ⟨rfl, hwm⟩; have hwm := hwm.symm; subst hwm))
    exact ⟨rfl, HB5.out, by rw [HE.out]; rfl⟩
  | false =>
    have HE := Aside0.mk (show numberV t fl l = .ok ⟨t, fl, a2, 0, 0, 0, 0, 0, 0, 0, [], [], [], []⟩ by unfold numberV; rw [if_pos (by have := of_decide_eq_false hbb; omega), ha2])
    clear hB hx hb hl hpb hne hc ha2 hr2 h4 hl4 hbb hll
    go_enter Try.func102, Try.ntmps102
    go_wp2_with (first | ((with_reducible refine gate_dst (N := 2) rfl ?_); refine box_event ?hg (N := 2) ?hd (cs := #[.pointer (some ⟨pb, 0, none⟩)]) (t := 83) ?hr ?_; (case hd => rfl); (case hg => rfl); (case hr => first | (go_simp; done) | (go_simp; rfl)); intro p2 hg0 w1 hbox0 hb0; have hp0 : w1.cell? ⟨p2, 0, none⟩ = some (.pointer (some ⟨pb, 0, none⟩)) := blk_cell hbox0 0; have HB1 := Aside0.mk (below_step HB.out hb0); have HX1 := Aside0.mk (HX.out.below hb0); have HC1 := Aside0.mk (blk_below HC.out hb0); have HK1 := Aside0.mk (Kept.of_below hb0 (fun k => k = g ∨ k = pb)); have HP1 := Aside0.mk hbox0; have HPG := Aside0.mk (show ¬ p2 = g by have := HSZ.out; omega); clear hg0 hbox0 hb0))
    obtain ⟨F, hF⟩ : ∃ F : Act → World → Prop, ∀ a' w', F a' w' ↔ ∃ x3 x4 x5 x6 x7 x8 x9 x10 x11 x12 x13 x14 : Value, a' = { tmps := #[.agg #[.pointer (some ⟨pb, 0, none⟩)], .pointer (some ⟨g, 0, none⟩), .pointer (some ⟨p2, 0, none⟩), x3, x4, x5, x6, x7, x8, x9, x10, x11, x12, x13, x14], defers := [] } ∧ w'.heap[pb]? = some (.cells #[.int .u8 t, .int .u8 fl, .int .u32 a2, .int .u16 0, .int .u16 0, .int .u32 0, .int .u32 0, .int .u32 0, .int .u16 0, .int .u16 0, .slice none 0 0, .slice none 0 0, .slice none 0 0, .slice none 0 0] 29 (0, 0)) ∧ RdrOf w0 w' g l4 ∧ Below w0.heap.size w0 w' ∧ Kept w w' (fun k => k = g ∨ k = pb) := ⟨_, fun _ _ => Iff.rfl⟩
    have HF := Aside0.mk hF
    clear hF
    refine region_to F ?_ ?_
    · intro K1 HQ
      first | (go_region_with (first | (go_at_call 40; (first | (with_reducible refine (num4_ok g l a2 w0 w1.drew HB1.out.drew (HX1.out.below (Below.refl _ _).drew) HBY.out HN.out H4.out).mono ?_) | (with_reducible refine (num4_ok g l a2 w0 w1 HB1.out HX1.out HBY.out HN.out H4.out).mono ?_)); rintro e2 w2 ⟨rfl, hx2, hb2, hk2⟩; have hc2 := blk_kept (show w1.heap[pb]? = _ from HC1.out) hk2 (fun hh => HNE.out hh.symm); have HB2 := Aside0.mk hb2; have HC2 := Aside0.mk hc2; have HX2 := Aside0.mk (show RdrOf w0 w2 g l4 by rw [HL4.out]; exact hx2); have HK2 := Aside0.mk (Kept.then_ HK1.out (show Kept w1 w2 (fun k => k = g) from hk2) (fun k hk => .inl (.inl hk))); have hp2 : w2.cell? ⟨p2, 0, none⟩ = some (.pointer (some ⟨pb, 0, none⟩)) := blk_cell (blk_kept (show w1.heap[p2]? = _ from HP1.out) hk2 HPG.out) 0; have hc2 : w2.cell? ⟨pb, 2, none⟩ = some (.int .u32 0) := blk_cell HC2.out 2; have hf2 : w2.frozen? ⟨pb, 2, none⟩ = false := blk_frozen HC2.out 2; clear hb2 hk2 hx2))) | fail
      all_goals exact HQ.out _ _ ((HF.out _ _).2 ⟨_, _, _, _, _, _, _, _, _, _, _, _, rfl, blk_put HC2.out 2 _ rfl, HX2.out.set HNE.out, below_set HB2.out HPB.out, Kept.setCell HK2.out (.inl (.inr rfl)) _⟩)
    intro a' W5 hfw
    obtain ⟨x3, x4, x5, x6, x7, x8, x9, x10, x11, x12, x13, x14, rfl, hc5, hx5, hb5, hk5⟩ := (HF.out _ _).1 hfw
    have HC5 := Aside0.mk hc5
    have HX5 := Aside0.mk hx5
    have HB5 := Aside0.mk hb5
    have HK5 := Aside0.mk hk5
    clear hfw HF F hc5 hx5 hb5 hk5 hp0
    go_wp2_with (first | (go_at_call 58; (with_reducible refine (left_calls g l4 false w0 W5 HX5.out HBB.out).mono ?_); rintro e w6 ⟨rfl, hw6⟩; have hw6 := hw6.symm; subst hw6) | (go_at_call 38; (with_reducible refine (must_ok _ _).mono ?_); rintro e wm ⟨rfl, hwm⟩; have hwm := hwm.symm; subst hwm))
    go_end0
    exact ⟨HB5.out, by rw [HE.out]; exact ⟨rfl, ⟨_, _, _, _, HC5.out, Kd.R_nil _ _ _ _ _, Kd.R_nil _ _ _ _ _, Kd.R_nil _ _ _ _ _, Kd.R_nil _ _ _ _ _⟩, HK5.out⟩⟩
/-- The chunk of data. -/
def dataV (t fl : Int) (l : List Int) : Except Int S29 := if l.length < 13 then .error 4 else .ok ⟨t, fl, numN l 4, numN (l.drop 4) 2, numN ((l.drop 4).drop 2) 2, numN (((l.drop 4).drop 2).drop 2) 4, 0, 0, 0, 0, [], [], [], (((l.drop 4).drop 2).drop 2).drop 4⟩
set_option maxHeartbeats 4000000 in
set_option maxRecDepth 100000 in
theorem data_reads (g pb : Nat) (l : List Int) (t fl : Int) (w0 w : World) (hB : Below w0.heap.size w0 w) (hx : RdrOf w0 w g l) (hb : Bytes l) (hl : l.length ≤ 65536) (hpb : w0.heap.size ≤ pb) (hne : g ≠ pb) (hc : w.heap[pb]? = some (.cells #[.int .u8 t, .int .u8 fl, .int .u32 0, .int .u16 0, .int .u16 0, .int .u32 0, .int .u32 0, .int .u32 0, .int .u16 0, .int .u16 0, .slice none 0 0, .slice none 0 0, .slice none 0 0, .slice none 0 0] 29 (0, 0))) :
    Calls Try.prog 90 #[.agg #[.pointer (some ⟨pb, 0, none⟩)], .pointer (some ⟨g, 0, none⟩)] w fun x w' => Below w0.heap.size w0 w' ∧ ReadOut w w' g pb x (dataV t fl l) := by
  have HB := Aside0.mk hB
  have HX := Aside0.mk hx
  have HBY := Aside0.mk hb
  have HL := Aside0.mk hl
  have HPB := Aside0.mk hpb
  have HNE := Aside0.mk hne
  have HC := Aside0.mk hc
  have HSZ := Aside0.mk hx.lt
  obtain ⟨a2, ha2⟩ : ∃ a2, a2 = numN l 4 := ⟨_, rfl⟩
  obtain ⟨l4, hl4⟩ : ∃ l4, l4 = l.drop 4 := ⟨_, rfl⟩
  have HN2 := Aside0.mk ha2
  have HDl4 := Aside0.mk hl4
  have hyl4 : l4.length = l.length - 4 := by rw [hl4, List.length_drop]
  have HYl4 := Aside0.mk (show Bytes l4 by rw [hl4]; exact HBY.out.drop 4)
  have HLEl4 := Aside0.mk (show l4.length = l.length - 4 by omega)
  have hm2 : a2 % 4294967296 = a2 := by have := numN_range HBY.out 4 (by decide); rw [ha2]; omega
  obtain ⟨a3, ha3⟩ : ∃ a3, a3 = numN l4 2 := ⟨_, rfl⟩
  obtain ⟨l6, hl6⟩ : ∃ l6, l6 = l4.drop 2 := ⟨_, rfl⟩
  have HN3 := Aside0.mk ha3
  have HDl6 := Aside0.mk hl6
  have hyl6 : l6.length = l4.length - 2 := by rw [hl6, List.length_drop]
  have HYl6 := Aside0.mk (show Bytes l6 by rw [hl6]; exact HYl4.out.drop 2)
  have HLEl6 := Aside0.mk (show l6.length = l.length - 6 by omega)
  have hr3 : a3 % 65536 = a3 := by have := num2_range HYl4.out; rw [ha3]; omega
  have hm3 : IntKind.u16.wrap a3 = a3 := u16w (by rw [ha3]; exact num2_range HYl4.out)
  obtain ⟨a4, ha4⟩ : ∃ a4, a4 = numN l6 2 := ⟨_, rfl⟩
  obtain ⟨l8, hl8⟩ : ∃ l8, l8 = l6.drop 2 := ⟨_, rfl⟩
  have HN4 := Aside0.mk ha4
  have HDl8 := Aside0.mk hl8
  have hyl8 : l8.length = l6.length - 2 := by rw [hl8, List.length_drop]
  have HYl8 := Aside0.mk (show Bytes l8 by rw [hl8]; exact HYl6.out.drop 2)
  have HLEl8 := Aside0.mk (show l8.length = l.length - 8 by omega)
  have hr4 : a4 % 65536 = a4 := by have := num2_range HYl6.out; rw [ha4]; omega
  have hm4 : IntKind.u16.wrap a4 = a4 := u16w (by rw [ha4]; exact num2_range HYl6.out)
  obtain ⟨a5, ha5⟩ : ∃ a5, a5 = numN l8 4 := ⟨_, rfl⟩
  obtain ⟨l12, hl12⟩ : ∃ l12, l12 = l8.drop 4 := ⟨_, rfl⟩
  have HN5 := Aside0.mk ha5
  have HDl12 := Aside0.mk hl12
  have hyl12 : l12.length = l8.length - 4 := by rw [hl12, List.length_drop]
  have HYl12 := Aside0.mk (show Bytes l12 by rw [hl12]; exact HYl8.out.drop 4)
  have HLEl12 := Aside0.mk (show l12.length = l.length - 12 by omega)
  have hm5 : a5 % 4294967296 = a5 := by have := numN_range HYl8.out 4 (by decide); rw [ha5]; omega
  by_cases h13 : l.length < 13
  · have HE := Aside0.mk (show dataV t fl l = .error 4 by unfold dataV; rw [if_pos h13])
    by_cases h12 : l.length < 12
    · have HLT := Aside0.mk h12
      clear hB hx hb hl hpb hne hc ha2 ha3 ha4 ha5 hl4 hyl4 hl6 hyl6 hl8 hyl8 hl12 hyl12 h13 h12
      go_enter Try.func90, Try.ntmps90
      go_wp2_with (first | ((with_reducible refine gate_dst (N := 2) rfl ?_); refine box_event ?hg (N := 2) ?hd (cs := #[.pointer (some ⟨pb, 0, none⟩)]) (t := 53) ?hr ?_; (case hd => rfl); (case hg => rfl); (case hr => first | (go_simp; done) | (go_simp; rfl)); intro p2 hg0 w1 hbox0 hb0; have hp0 : w1.cell? ⟨p2, 0, none⟩ = some (.pointer (some ⟨pb, 0, none⟩)) := blk_cell hbox0 0; have HB1 := Aside0.mk (below_step HB.out hb0); have HX1 := Aside0.mk (HX.out.below hb0); have HC1 := Aside0.mk (blk_below HC.out hb0); have HK1 := Aside0.mk (Kept.of_below hb0 (fun k => k = g ∨ k = pb)); have HP1 := Aside0.mk hbox0; have HPG := Aside0.mk (show ¬ p2 = g by have := HSZ.out; omega); clear hg0 hbox0 hb0) | (go_at_call 40; (with_reducible refine (num4_both g l a2 w0 w1 HB1.out HX1.out HBY.out HN2.out).mono ?_); rintro e w11 (⟨hle, rfl, hx, hb, hk⟩ | ⟨hlt, rfl, hw⟩); (have HG0 := Aside0.mk hle; clear hle; have HX11 := Aside0.mk (show RdrOf w0 w11 g l4 by rw [HDl4.out]; exact hx); have HB11 := Aside0.mk hb; have HC11 := Aside0.mk (blk_kept (show w1.heap[pb]? = _ from HC1.out) hk (fun hh => HNE.out hh.symm)); have HK11 := Aside0.mk (Kept.then_ HK1.out (show Kept w1 w11 (fun k => k = g) from hk) (fun k hk => .inl (.inl hk))); clear hx hb hk); rotate_left; (have hw := hw.symm; subst hw; exact ⟨rfl, HB1.out, by rw [HE.out]; rfl⟩)) | (go_at_call 40; (with_reducible refine (num2_both g l4 a3 w0 w11 HB11.out HX11.out HYl4.out HN3.out).mono ?_); rintro e w12 (⟨hle, rfl, hx, hb, hk⟩ | ⟨hlt, rfl, hw⟩); (have HG1 := Aside0.mk hle; clear hle; have HX12 := Aside0.mk (show RdrOf w0 w12 g l6 by rw [HDl6.out]; exact hx); have HB12 := Aside0.mk hb; have HC12 := Aside0.mk (blk_kept (show w11.heap[pb]? = _ from HC11.out) hk (fun hh => HNE.out hh.symm)); have HK12 := Aside0.mk (Kept.then_ HK11.out (show Kept w11 w12 (fun k => k = g) from hk) (fun k hk => .inl (.inl hk))); clear hx hb hk); rotate_left; (have hw := hw.symm; subst hw; exact ⟨rfl, HB11.out, by rw [HE.out]; rfl⟩)) | (go_at_call 40; (with_reducible refine (num2_both g l6 a4 w0 w12 HB12.out HX12.out HYl6.out HN4.out).mono ?_); rintro e w13 (⟨hle, rfl, hx, hb, hk⟩ | ⟨hlt, rfl, hw⟩); (have HG2 := Aside0.mk hle; clear hle; have HX13 := Aside0.mk (show RdrOf w0 w13 g l8 by rw [HDl8.out]; exact hx); have HB13 := Aside0.mk hb; have HC13 := Aside0.mk (blk_kept (show w12.heap[pb]? = _ from HC12.out) hk (fun hh => HNE.out hh.symm)); have HK13 := Aside0.mk (Kept.then_ HK12.out (show Kept w12 w13 (fun k => k = g) from hk) (fun k hk => .inl (.inl hk))); clear hx hb hk); rotate_left; (have hw := hw.symm; subst hw; exact ⟨rfl, HB12.out, by rw [HE.out]; rfl⟩)) | (go_at_call 40; (with_reducible refine (num_bad g l8 4 w0 w13 HX13.out (by have := HLT.out; have := HLEl8.out; have := HG2.out; omega)).mono ?_); rintro e w14 ⟨rfl, hw⟩; have hw := hw.symm; subst hw; exact ⟨rfl, HB13.out, by rw [HE.out]; rfl⟩))
    have HGE := Aside0.mk (show 12 ≤ l.length by omega)
    have HBB := Aside0.mk (show decide (0 < l12.length) = false from decide_eq_false (by omega))
    clear hB hx hb hl hpb hne hc ha2 ha3 ha4 ha5 hl4 hyl4 hl6 hyl6 hl8 hyl8 hl12 hyl12 h13 h12
    go_enter Try.func90, Try.ntmps90
    go_wp2_with (first | ((with_reducible refine gate_dst (N := 2) rfl ?_); refine box_event ?hg (N := 2) ?hd (cs := #[.pointer (some ⟨pb, 0, none⟩)]) (t := 53) ?hr ?_; (case hd => rfl); (case hg => rfl); (case hr => first | (go_simp; done) | (go_simp; rfl)); intro p2 hg0 w1 hbox0 hb0; have hp0 : w1.cell? ⟨p2, 0, none⟩ = some (.pointer (some ⟨pb, 0, none⟩)) := blk_cell hbox0 0; have HB1 := Aside0.mk (below_step HB.out hb0); have HX1 := Aside0.mk (HX.out.below hb0); have HC1 := Aside0.mk (blk_below HC.out hb0); have HK1 := Aside0.mk (Kept.of_below hb0 (fun k => k = g ∨ k = pb)); have HP1 := Aside0.mk hbox0; have HPG := Aside0.mk (show ¬ p2 = g by have := HSZ.out; omega); clear hg0 hbox0 hb0) | (go_at_call 40; (with_reducible refine (num4_ok g l a2 w0 w1 HB1.out HX1.out HBY.out HN2.out (by have := HGE.out; omega)).mono ?_); rintro e w11 ⟨rfl, hx, hb, hk⟩; have HX11 := Aside0.mk (show RdrOf w0 w11 g l4 by rw [HDl4.out]; exact hx); have HB11 := Aside0.mk hb; have HC11 := Aside0.mk (blk_kept (show w1.heap[pb]? = _ from HC1.out) hk (fun hh => HNE.out hh.symm)); have HK11 := Aside0.mk (Kept.then_ HK1.out (show Kept w1 w11 (fun k => k = g) from hk) (fun k hk => .inl (.inl hk))); clear hx hb hk) | (go_at_call 40; (with_reducible refine (num2_ok g l4 a3 w0 w11 HB11.out HX11.out HYl4.out HN3.out (by have := HGE.out; have := HLEl4.out; omega)).mono ?_); rintro e w12 ⟨rfl, hx, hb, hk⟩; have HX12 := Aside0.mk (show RdrOf w0 w12 g l6 by rw [HDl6.out]; exact hx); have HB12 := Aside0.mk hb; have HC12 := Aside0.mk (blk_kept (show w11.heap[pb]? = _ from HC11.out) hk (fun hh => HNE.out hh.symm)); have HK12 := Aside0.mk (Kept.then_ HK11.out (show Kept w11 w12 (fun k => k = g) from hk) (fun k hk => .inl (.inl hk))); clear hx hb hk) | (go_at_call 40; (with_reducible refine (num2_ok g l6 a4 w0 w12 HB12.out HX12.out HYl6.out HN4.out (by have := HGE.out; have := HLEl6.out; omega)).mono ?_); rintro e w13 ⟨rfl, hx, hb, hk⟩; have HX13 := Aside0.mk (show RdrOf w0 w13 g l8 by rw [HDl8.out]; exact hx); have HB13 := Aside0.mk hb; have HC13 := Aside0.mk (blk_kept (show w12.heap[pb]? = _ from HC12.out) hk (fun hh => HNE.out hh.symm)); have HK13 := Aside0.mk (Kept.then_ HK12.out (show Kept w12 w13 (fun k => k = g) from hk) (fun k hk => .inl (.inl hk))); clear hx hb hk) | (go_at_call 40; (with_reducible refine (num4_ok g l8 a5 w0 w13 HB13.out HX13.out HYl8.out HN5.out (by have := HGE.out; have := HLEl8.out; omega)).mono ?_); rintro e w14 ⟨rfl, hx, hb, hk⟩; have HX14 := Aside0.mk (show RdrOf w0 w14 g l12 by rw [HDl12.out]; exact hx); have HB14 := Aside0.mk hb; have HC14 := Aside0.mk (blk_kept (show w13.heap[pb]? = _ from HC13.out) hk (fun hh => HNE.out hh.symm)); have HK14 := Aside0.mk (Kept.then_ HK13.out (show Kept w13 w14 (fun k => k = g) from hk) (fun k hk => .inl (.inl hk))); have hc2 : w14.cell? ⟨pb, 2, none⟩ = some (.int .u32 0) := blk_cell HC14.out 2; have hf2 : w14.frozen? ⟨pb, 2, none⟩ = false := blk_frozen HC14.out 2; have hc3 : w14.cell? ⟨pb, 3, none⟩ = some (.int .u16 0) := blk_cell HC14.out 3; have hf3 : w14.frozen? ⟨pb, 3, none⟩ = false := blk_frozen HC14.out 3; have hc4 : w14.cell? ⟨pb, 4, none⟩ = some (.int .u16 0) := blk_cell HC14.out 4; have hf4 : w14.frozen? ⟨pb, 4, none⟩ = false := blk_frozen HC14.out 4; have hc5 : w14.cell? ⟨pb, 5, none⟩ = some (.int .u32 0) := blk_cell HC14.out 5; have hf5 : w14.frozen? ⟨pb, 5, none⟩ = false := blk_frozen HC14.out 5; clear hx hb hk))
    refine calls_cut (fun W => W.heap[pb]? = some (.cells #[.int .u8 t, .int .u8 fl, .int .u32 a2, .int .u16 a3, .int .u16 a4, .int .u32 a5, .int .u32 0, .int .u32 0, .int .u16 0, .int .u16 0, .slice none 0 0, .slice none 0 0, .slice none 0 0, .slice none 0 0] 29 (0, 0)) ∧ RdrOf w0 W g l12 ∧ Below w0.heap.size w0 W ∧ Kept w W (fun k => k = g ∨ k = pb)) ⟨(blk_put (blk_put (blk_put (blk_put HC14.out 2 _ rfl) 3 _ rfl) 4 _ rfl) 5 _ rfl), ((((HX14.out.set HNE.out).set HNE.out).set HNE.out).set HNE.out), (below_set (below_set (below_set (below_set HB14.out HPB.out) HPB.out) HPB.out) HPB.out), (Kept.setCell (Kept.setCell (Kept.setCell (Kept.setCell HK14.out (.inl (.inr rfl)) _) (.inl (.inr rfl)) _) (.inl (.inr rfl)) _) (.inl (.inr rfl)) _)⟩ ?_
    rintro W5 ⟨hcz, hxz, hbz, hkz⟩
    have HC5 := Aside0.mk hcz
    have HX5 := Aside0.mk hxz
    have HB5 := Aside0.mk hbz
    have HK5 := Aside0.mk hkz
    clear hcz hxz hbz hkz hc2 hf2 hc3 hf3 hc4 hf4 hc5 hf5
    go_wp2_with (first | (go_at_call 58; (with_reducible refine (left_calls g l12 false w0 W5 HX5.out HBB.out).mono ?_); rintro e w6 ⟨rfl, hw6⟩; have hw6 := hw6.symm; subst hw6) | (go_at_call 38; (with_reducible refine (must_bad _ _).mono ?_); rintro e wm ⟨rfl, hwm⟩; have hwm := hwm.symm; subst hwm))
    exact ⟨rfl, HB5.out, by rw [HE.out]; rfl⟩
  · have HE := Aside0.mk (show dataV t fl l = .ok ⟨t, fl, a2, a3, a4, a5, 0, 0, 0, 0, [], [], [], l12⟩ by unfold dataV; rw [if_neg h13, ha2, ha3, ha4, ha5, hl12, hl8, hl6, hl4])
    have HGE := Aside0.mk (show 12 ≤ l.length by omega)
    have HBB := Aside0.mk (show decide (0 < l12.length) = true from decide_eq_true (by omega))
    have HL12 := Aside0.mk (show l12.length < 140737488355328 by omega)
    clear hB hx hb hl hpb hne hc ha2 ha3 ha4 ha5 hl4 hyl4 hl6 hyl6 hl8 hyl8 hl12 hyl12 h13
    go_enter Try.func90, Try.ntmps90
    go_wp2_with (first | ((with_reducible refine gate_dst (N := 2) rfl ?_); refine box_event ?hg (N := 2) ?hd (cs := #[.pointer (some ⟨pb, 0, none⟩)]) (t := 53) ?hr ?_; (case hd => rfl); (case hg => rfl); (case hr => first | (go_simp; done) | (go_simp; rfl)); intro p2 hg0 w1 hbox0 hb0; have hp0 : w1.cell? ⟨p2, 0, none⟩ = some (.pointer (some ⟨pb, 0, none⟩)) := blk_cell hbox0 0; have HB1 := Aside0.mk (below_step HB.out hb0); have HX1 := Aside0.mk (HX.out.below hb0); have HC1 := Aside0.mk (blk_below HC.out hb0); have HK1 := Aside0.mk (Kept.of_below hb0 (fun k => k = g ∨ k = pb)); have HP1 := Aside0.mk hbox0; have HPG := Aside0.mk (show ¬ p2 = g by have := HSZ.out; omega); clear hg0 hbox0 hb0) | (go_at_call 40; (with_reducible refine (num4_ok g l a2 w0 w1 HB1.out HX1.out HBY.out HN2.out (by have := HGE.out; omega)).mono ?_); rintro e w11 ⟨rfl, hx, hb, hk⟩; have HX11 := Aside0.mk (show RdrOf w0 w11 g l4 by rw [HDl4.out]; exact hx); have HB11 := Aside0.mk hb; have HC11 := Aside0.mk (blk_kept (show w1.heap[pb]? = _ from HC1.out) hk (fun hh => HNE.out hh.symm)); have HK11 := Aside0.mk (Kept.then_ HK1.out (show Kept w1 w11 (fun k => k = g) from hk) (fun k hk => .inl (.inl hk))); clear hx hb hk) | (go_at_call 40; (with_reducible refine (num2_ok g l4 a3 w0 w11 HB11.out HX11.out HYl4.out HN3.out (by have := HGE.out; have := HLEl4.out; omega)).mono ?_); rintro e w12 ⟨rfl, hx, hb, hk⟩; have HX12 := Aside0.mk (show RdrOf w0 w12 g l6 by rw [HDl6.out]; exact hx); have HB12 := Aside0.mk hb; have HC12 := Aside0.mk (blk_kept (show w11.heap[pb]? = _ from HC11.out) hk (fun hh => HNE.out hh.symm)); have HK12 := Aside0.mk (Kept.then_ HK11.out (show Kept w11 w12 (fun k => k = g) from hk) (fun k hk => .inl (.inl hk))); clear hx hb hk) | (go_at_call 40; (with_reducible refine (num2_ok g l6 a4 w0 w12 HB12.out HX12.out HYl6.out HN4.out (by have := HGE.out; have := HLEl6.out; omega)).mono ?_); rintro e w13 ⟨rfl, hx, hb, hk⟩; have HX13 := Aside0.mk (show RdrOf w0 w13 g l8 by rw [HDl8.out]; exact hx); have HB13 := Aside0.mk hb; have HC13 := Aside0.mk (blk_kept (show w12.heap[pb]? = _ from HC12.out) hk (fun hh => HNE.out hh.symm)); have HK13 := Aside0.mk (Kept.then_ HK12.out (show Kept w12 w13 (fun k => k = g) from hk) (fun k hk => .inl (.inl hk))); clear hx hb hk) | (go_at_call 40; (with_reducible refine (num4_ok g l8 a5 w0 w13 HB13.out HX13.out HYl8.out HN5.out (by have := HGE.out; have := HLEl8.out; omega)).mono ?_); rintro e w14 ⟨rfl, hx, hb, hk⟩; have HX14 := Aside0.mk (show RdrOf w0 w14 g l12 by rw [HDl12.out]; exact hx); have HB14 := Aside0.mk hb; have HC14 := Aside0.mk (blk_kept (show w13.heap[pb]? = _ from HC13.out) hk (fun hh => HNE.out hh.symm)); have HK14 := Aside0.mk (Kept.then_ HK13.out (show Kept w13 w14 (fun k => k = g) from hk) (fun k hk => .inl (.inl hk))); have hc2 : w14.cell? ⟨pb, 2, none⟩ = some (.int .u32 0) := blk_cell HC14.out 2; have hf2 : w14.frozen? ⟨pb, 2, none⟩ = false := blk_frozen HC14.out 2; have hc3 : w14.cell? ⟨pb, 3, none⟩ = some (.int .u16 0) := blk_cell HC14.out 3; have hf3 : w14.frozen? ⟨pb, 3, none⟩ = false := blk_frozen HC14.out 3; have hc4 : w14.cell? ⟨pb, 4, none⟩ = some (.int .u16 0) := blk_cell HC14.out 4; have hf4 : w14.frozen? ⟨pb, 4, none⟩ = false := blk_frozen HC14.out 4; have hc5 : w14.cell? ⟨pb, 5, none⟩ = some (.int .u32 0) := blk_cell HC14.out 5; have hf5 : w14.frozen? ⟨pb, 5, none⟩ = false := blk_frozen HC14.out 5; clear hx hb hk))
    refine calls_cut (fun W => W.heap[pb]? = some (.cells #[.int .u8 t, .int .u8 fl, .int .u32 a2, .int .u16 a3, .int .u16 a4, .int .u32 a5, .int .u32 0, .int .u32 0, .int .u16 0, .int .u16 0, .slice none 0 0, .slice none 0 0, .slice none 0 0, .slice none 0 0] 29 (0, 0)) ∧ RdrOf w0 W g l12 ∧ Below w0.heap.size w0 W ∧ Kept w W (fun k => k = g ∨ k = pb)) ⟨(blk_put (blk_put (blk_put (blk_put HC14.out 2 _ rfl) 3 _ rfl) 4 _ rfl) 5 _ rfl), ((((HX14.out.set HNE.out).set HNE.out).set HNE.out).set HNE.out), (below_set (below_set (below_set (below_set HB14.out HPB.out) HPB.out) HPB.out) HPB.out), (Kept.setCell (Kept.setCell (Kept.setCell (Kept.setCell HK14.out (.inl (.inr rfl)) _) (.inl (.inr rfl)) _) (.inl (.inr rfl)) _) (.inl (.inr rfl)) _)⟩ ?_
    rintro W5 ⟨hcz, hxz, hbz, hkz⟩
    have HC5 := Aside0.mk hcz
    have HX5 := Aside0.mk hxz
    have HB5 := Aside0.mk hbz
    have HK5 := Aside0.mk hkz
    clear hcz hxz hbz hkz hc2 hf2 hc3 hf3 hc4 hf4 hc5 hf5
    go_wp2_with (first | (go_at_call 58; (with_reducible refine (left_calls g l12 true w0 W5 HX5.out HBB.out).mono ?_); rintro e w6 ⟨rfl, hw6⟩; have hw6 := hw6.symm; subst hw6) | (go_at_call 38; (with_reducible refine (must_ok _ _).mono ?_); rintro e wm ⟨rfl, hwm⟩; have hwm := hwm.symm; subst hwm) | (go_at_call 91; (with_reducible refine (rest_calls g l12 w0 W5 HB5.out HX5.out HL12.out).mono ?_); rintro e w6 ⟨v6, rfl, ho6, hx6, hb6, hk6⟩; obtain ⟨A6, c6, e6⟩ := Kd.R_slice ho6; subst e6; have HO6 := Aside0.mk ho6; have HB6 := Aside0.mk hb6; have HC6 := Aside0.mk (blk_kept (show W5.heap[pb]? = _ from HC5.out) hk6 (fun hh => HNE.out hh.symm)); have HK6 := Aside0.mk (Kept.then_ HK5.out (show Kept W5 w6 (fun k => k = g) from hk6) (fun k hk => .inl (.inl hk))); have hc13 : w6.cell? ⟨pb, 13, none⟩ = some (.slice none 0 0) := blk_cell HC6.out 13; have hf13 : w6.frozen? ⟨pb, 13, none⟩ = false := blk_frozen HC6.out 13; clear ho6 hx6 hb6 hk6))
    go_end0
    exact ⟨below_set HB6.out HPB.out, by rw [HE.out]; exact ⟨rfl, ⟨_, _, _, _, blk_put HC6.out 13 _ rfl, Kd.R_nil _ _ _ _ _, Kd.R_nil _ _ _ _ _, Kd.R_nil _ _ _ _ _, Kd.R_lower (R_setpb HO6.out (Nat.lt_of_lt_of_le (blk_lt HC.out) HK5.out.1)) HK5.out.1⟩, Kept.setCell HK6.out (.inl (.inr rfl)) _⟩⟩
end Go.Proofs.Ytaahkggbjpdofaa.M
