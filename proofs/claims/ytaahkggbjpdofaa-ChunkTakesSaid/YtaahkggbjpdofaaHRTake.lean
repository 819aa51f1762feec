/- The document's Take: its function, and its contract in the printed form. -/
import Derived.Test.YtaahkggbjpdofaaHROneS
import Derived.Test.YtaahkggbjpdofaaHCatch
import Derived.Test.YtaahkggbjpdofaaM29
import Derived.WalkSpells
import Derived.LoopN
import Derived.Deep.RegionWith
import Derived.Deep.RegionLaw
namespace Go.Proofs.Ytaahkggbjpdofaa.M
open Go.RowKit Go.Proofs.YtaahkggbjpdofaaW.PrintWords Go.Proofs.YtaahkggbjpdofaaW.PrintLast Go.Proofs.YtaahkggbjpdofaaW.PrintMore
open Go.Proofs.Ytaahkggbjpdofaa.Pure
set_option linter.unusedVariables false
set_option linter.unusedSimpArgs false
/-- No chunk yet. -/
abbrev zero14 : Array Value := #[.int .u8 0, .int .u8 0, .int .u32 0, .int .u16 0, .int .u16 0, .int .u32 0, .int .u32 0, .int .u32 0, .int .u16 0, .int .u16 0, .slice none 0 0, .slice none 0 0, .slice none 0 0, .slice none 0 0]
/-- The numbers of a chunk, with rows. -/
abbrev agg14 (n0 n1 n2 n3 n4 n5 n6 n7 n8 n9 : Int) (a b c d : Value) : Array Value := #[.int .u8 n0, .int .u8 n1, .int .u32 n2, .int .u16 n3, .int .u16 n4, .int .u32 n5, .int .u32 n6, .int .u32 n7, .int .u16 n8, .int .u16 n9, a, b, c, d]
/-- What One has told: its aggregate, and its error. -/
def OneG (W : World) (base : Nat) (ok : Nat → Prop) (v : Except Int S29) (a : Value) (e : Int) : Prop := ∃ (n0 n1 n2 n3 n4 n5 n6 n7 n8 n9 : Int) (A10 A11 A12 A13 : Option Addr) (k10 k11 k12 k13 c10 c11 c12 c13 : Nat), a = .agg (agg14 n0 n1 n2 n3 n4 n5 n6 n7 n8 n9 (.slice A10 k10 c10) (.slice A11 k11 c11) (.slice A12 k12 c12) (.slice A13 k13 c13)) ∧
  ∀ c, (v = .error c → e = c) ∧ ∀ c, v = .ok c → e = 0 ∧ (n0 = c.f0 ∧ n1 = c.f1 ∧ n2 = c.f2 ∧ n3 = c.f3 ∧ n4 = c.f4 ∧ n5 = c.f5 ∧ n6 = c.f6 ∧ n7 = c.f7 ∧ n8 = c.f8 ∧ n9 = c.f9) ∧ (k10 = c.f10.length ∧ k11 = c.f11.length ∧ k12 = c.f12.length ∧ k13 = c.f13.length) ∧ Kd.R k101 101 W base ok (.slice A10 k10 c10) c.f10 ∧ Kd.R (Kd.int .u32) 22 W base ok (.slice A11 k11 c11) c.f11 ∧ Kd.R k48 48 W base ok (.slice A12 k12 c12) c.f12 ∧ Kd.R (Kd.int .u8) 5 W base ok (.slice A13 k13 c13) c.f13
theorem OneG.of {w W : World} {x : Ending} {v : Except Int S29} (h : ROneOut w W x v) : ∃ a e, x = .returned (.tuple #[a, .int .i64 e]) ∧ OneG W w.heap.size (fun k => w.heap.size ≤ k) v a e := by
  cases v with
  | error e =>
    obtain ⟨x0, x1, x2, x3, x4, x5, x6, x7, x8, x9, hx⟩ := h
    exact ⟨_, _, hx, x0, x1, x2, x3, x4, x5, x6, x7, x8, x9, _, _, _, _, _, _, _, _, _, _, _, _, rfl, fun c => ⟨fun hc => by injection hc, fun _ hc => by injection hc⟩⟩
  | ok c =>
    obtain ⟨a, hx, v10, v11, v12, v13, rfl, h10, h11, h12, h13⟩ := h
    obtain ⟨A10, c10, rfl⟩ := Kd.R_slice h10
    obtain ⟨A11, c11, rfl⟩ := Kd.R_slice h11
    obtain ⟨A12, c12, rfl⟩ := Kd.R_slice h12
    obtain ⟨A13, c13, rfl⟩ := Kd.R_slice h13
    refine ⟨_, _, hx, _, _, _, _, _, _, _, _, _, _, _, _, _, _, _, _, _, _, _, _, _, _, rfl, fun _ => ⟨fun hc => by injection hc, fun c' hc => ?_⟩⟩
    obtain rfl : c = c' := by injection hc
    exact ⟨rfl, ⟨rfl, rfl, rfl, rfl, rfl, rfl, rfl, rfl, rfl, rfl⟩, ⟨rfl, rfl, rfl, rfl⟩, Kd.R_mono (Kd.R_bound h10) (fun _ hk => hk.2.1), Kd.R_mono (Kd.R_bound h11) (fun _ hk => hk.2.1), Kd.R_mono (Kd.R_bound h12) (fun _ hk => hk.2.1), Kd.R_mono (Kd.R_bound h13) (fun _ hk => hk.2.1)⟩
theorem OneG.to {W W' : World} {base base' : Nat} {ok ok' : Nat → Prop} {v : Except Int S29} {a : Value} {e : Int} (h : OneG W base ok v a e) (hb : base' ≤ base) (hw : Below W.heap.size W W') (hk : ∀ k, ok k → k < W.heap.size → ok' k) : OneG W' base' ok' v a e := by
  obtain ⟨n0, n1, n2, n3, n4, n5, n6, n7, n8, n9, A10, A11, A12, A13, k10, k11, k12, k13, c10, c11, c12, c13, ha, h⟩ := h
  refine ⟨n0, n1, n2, n3, n4, n5, n6, n7, n8, n9, A10, A11, A12, A13, k10, k11, k12, k13, c10, c11, c12, c13, ha, fun c => ⟨(h c).1, fun c' hc => ?_⟩⟩
  obtain ⟨he, hn, hk_, h10, h11, h12, h13⟩ := (h c).2 c' hc
  exact ⟨he, hn, hk_, Kd.R_lower (Kd.R_below (Kd.R_mono (Kd.R_bound h10) (fun k h => hk k h.1 h.2.2.1)) hw) hb, Kd.R_lower (Kd.R_below (Kd.R_mono (Kd.R_bound h11) (fun k h => hk k h.1 h.2.2.1)) hw) hb, Kd.R_lower (Kd.R_below (Kd.R_mono (Kd.R_bound h12) (fun k h => hk k h.1 h.2.2.1)) hw) hb, Kd.R_lower (Kd.R_below (Kd.R_mono (Kd.R_bound h13) (fun k h => hk k h.1 h.2.2.1)) hw) hb⟩
theorem OneG.inj {W : World} {base : Nat} {ok : Nat → Prop} {v : Except Int S29} {e : Int} {n0 n1 n2 n3 n4 n5 n6 n7 n8 n9 : Int} {A10 A11 A12 A13 : Option Addr} {k10 k11 k12 k13 c10 c11 c12 c13 : Nat} (h : OneG W base ok v (.agg #[.int .u8 n0, .int .u8 n1, .int .u32 n2, .int .u16 n3, .int .u16 n4, .int .u32 n5, .int .u32 n6, .int .u32 n7, .int .u16 n8, .int .u16 n9, .slice A10 k10 c10, .slice A11 k11 c11, .slice A12 k12 c12, .slice A13 k13 c13]) e) :
  ∀ c, (v = .error c → e = c) ∧ ∀ c, v = .ok c → e = 0 ∧ (n0 = c.f0 ∧ n1 = c.f1 ∧ n2 = c.f2 ∧ n3 = c.f3 ∧ n4 = c.f4 ∧ n5 = c.f5 ∧ n6 = c.f6 ∧ n7 = c.f7 ∧ n8 = c.f8 ∧ n9 = c.f9) ∧ (k10 = c.f10.length ∧ k11 = c.f11.length ∧ k12 = c.f12.length ∧ k13 = c.f13.length) ∧ Kd.R k101 101 W base ok (.slice A10 k10 c10) c.f10 ∧ Kd.R (Kd.int .u32) 22 W base ok (.slice A11 k11 c11) c.f11 ∧ Kd.R k48 48 W base ok (.slice A12 k12 c12) c.f12 ∧ Kd.R (Kd.int .u8) 5 W base ok (.slice A13 k13 c13) c.f13 := by
  obtain ⟨m0, m1, m2, m3, m4, m5, m6, m7, m8, m9, B10, B11, B12, B13, l10, l11, l12, l13, d10, d11, d12, d13, ha, h⟩ := h
  simp only [Value.agg.injEq, List.toArray_inj, Array.mk.injEq, List.cons.injEq, Value.int.injEq, Value.slice.injEq, true_and, and_true] at ha
  obtain ⟨rfl, rfl, rfl, rfl, rfl, rfl, rfl, rfl, rfl, rfl, ⟨rfl, rfl, rfl⟩, ⟨rfl, rfl, rfl⟩, ⟨rfl, rfl, rfl⟩, rfl, rfl, rfl⟩ := ha
  exact h
theorem OneG.far {W : World} {base g : Nat} {v : Except Int S29} {a : Value} {e : Int} (h : OneG W base (fun k => k ≠ g) v a e) (i : Nat) (u : Value) : OneG (W.setCell ⟨g, i, none⟩ u) base (fun k => k ≠ g) v a e := by
  obtain ⟨n0, n1, n2, n3, n4, n5, n6, n7, n8, n9, A10, A11, A12, A13, k10, k11, k12, k13, c10, c11, c12, c13, ha, h⟩ := h
  refine ⟨n0, n1, n2, n3, n4, n5, n6, n7, n8, n9, A10, A11, A12, A13, k10, k11, k12, k13, c10, c11, c12, c13, ha, fun c => ⟨(h c).1, fun c' hc => ?_⟩⟩
  obtain ⟨he, hn, hk_, h10, h11, h12, h13⟩ := (h c).2 c' hc
  exact ⟨he, hn, hk_, Kd.R_far (p := ⟨g, i, none⟩) h10 (fun _ hk => hk) u, Kd.R_far (p := ⟨g, i, none⟩) h11 (fun _ hk => hk) u, Kd.R_far (p := ⟨g, i, none⟩) h12 (fun _ hk => hk) u, Kd.R_far (p := ⟨g, i, none⟩) h13 (fun _ hk => hk) u⟩
theorem parsV_ne : ∀ (f : Nat) (l : List Int) (out : List S48) (e : Int), parsV f l out = .error e → e ≠ 0
  | 0, _, _, e, h => by simp [parsV] at h
  | f + 1, l, out, e, h => by
    unfold parsV at h
    split at h
    · cases h
    split at h
    · cases h; decide
    split at h
    · cases h; decide
    split at h
    · cases h; decide
    exact parsV_ne f _ _ e h
theorem oneV_ne {t fl : Int} {l : List Int} {e : Int} (h : oneV t fl l = .error e) : e ≠ 0 := by
  unfold oneV at h
  repeat' split at h
  · unfold dataV at h; split at h <;> cases h; decide
  · unfold firstR at h
    split at h
    · cases h; decide
    split at h
    · cases h
    · rename_i e' he; cases h; exact parsV_ne _ _ _ _ he
  · unfold sackR at h
    repeat' split at h
    all_goals (cases h; try decide)
  · unfold pmV at h
    split at h
    · cases h
    · rename_i e' he; cases h; exact parsV_ne _ _ _ _ he
  · unfold numberV at h; split at h <;> cases h; decide
  · unfold bareV at h; split at h <;> cases h; decide
  · unfold rawV at h; cases h
theorem rd_dropx (l : List Int) (x j : Int) (hx : 0 ≤ x) (hj : 0 ≤ j) : rd (l.drop x.toNat) j = rd l (x + j) := by
  unfold rd
  rw [List.getD_eq_getElem?_getD, List.getD_eq_getElem?_getD, List.getElem?_drop, show x.toNat + j.toNat = (x + j).toNat by omega]
theorem rd_byte {l : List Int} (h : Bytes l) (i : Int) (h0 : 0 ≤ i) (h1 : i < l.length) : 0 ≤ rd l i ∧ rd l i ≤ 255 := by
  have hlt : i.toNat < l.length := by omega
  unfold rd
  rw [List.getD_eq_getElem?_getD, List.getElem?_eq_getElem hlt]
  exact h _ (List.getElem_mem hlt)
/-- A chunk stored into its block: the block, what stood below, and what One told. -/
theorem put14 {w W : World} {g : Nat} {v0 v1 v2 v3 v4 v5 v6 v7 v8 v9 v10 v11 v12 v13 : Value} (h : W.heap[g]? = some (.cells zero14 29 (0, 0))) (hb : Below w.heap.size w W) (hg : w.heap.size ≤ g) {ov : Except Int S29} {a : Value} {e : Int} (ho : OneG W w.heap.size (fun k => k ≠ g) ov a e) : (((((((((((((((((((((((((((((W).setCell ⟨g, 0, none⟩ v0)).setCell ⟨g, 1, none⟩ v1)).setCell ⟨g, 2, none⟩ v2)).setCell ⟨g, 3, none⟩ v3)).setCell ⟨g, 4, none⟩ v4)).setCell ⟨g, 5, none⟩ v5)).setCell ⟨g, 6, none⟩ v6)).setCell ⟨g, 7, none⟩ v7)).setCell ⟨g, 8, none⟩ v8)).setCell ⟨g, 9, none⟩ v9)).setCell ⟨g, 10, none⟩ v10)).setCell ⟨g, 11, none⟩ v11)).setCell ⟨g, 12, none⟩ v12)).setCell ⟨g, 13, none⟩ v13)).heap[g]? = some (.cells #[v0, v1, v2, v3, v4, v5, v6, v7, v8, v9, v10, v11, v12, v13] 29 (0, 0)) ∧ Below w.heap.size w (((((((((((((((((((((((((((((W).setCell ⟨g, 0, none⟩ v0)).setCell ⟨g, 1, none⟩ v1)).setCell ⟨g, 2, none⟩ v2)).setCell ⟨g, 3, none⟩ v3)).setCell ⟨g, 4, none⟩ v4)).setCell ⟨g, 5, none⟩ v5)).setCell ⟨g, 6, none⟩ v6)).setCell ⟨g, 7, none⟩ v7)).setCell ⟨g, 8, none⟩ v8)).setCell ⟨g, 9, none⟩ v9)).setCell ⟨g, 10, none⟩ v10)).setCell ⟨g, 11, none⟩ v11)).setCell ⟨g, 12, none⟩ v12)).setCell ⟨g, 13, none⟩ v13)) ∧ OneG (((((((((((((((((((((((((((((W).setCell ⟨g, 0, none⟩ v0)).setCell ⟨g, 1, none⟩ v1)).setCell ⟨g, 2, none⟩ v2)).setCell ⟨g, 3, none⟩ v3)).setCell ⟨g, 4, none⟩ v4)).setCell ⟨g, 5, none⟩ v5)).setCell ⟨g, 6, none⟩ v6)).setCell ⟨g, 7, none⟩ v7)).setCell ⟨g, 8, none⟩ v8)).setCell ⟨g, 9, none⟩ v9)).setCell ⟨g, 10, none⟩ v10)).setCell ⟨g, 11, none⟩ v11)).setCell ⟨g, 12, none⟩ v12)).setCell ⟨g, 13, none⟩ v13)) w.heap.size (fun k => k ≠ g) ov a e := by
  refine ⟨?_, ?_, ?_⟩
  · refine blk_put (cs := #[v0, v1, v2, v3, v4, v5, v6, v7, v8, v9, v10, v11, v12, .slice none 0 0]) ?_ 13 _ rfl
    refine blk_put (cs := #[v0, v1, v2, v3, v4, v5, v6, v7, v8, v9, v10, v11, .slice none 0 0, .slice none 0 0]) ?_ 12 _ rfl
    refine blk_put (cs := #[v0, v1, v2, v3, v4, v5, v6, v7, v8, v9, v10, .slice none 0 0, .slice none 0 0, .slice none 0 0]) ?_ 11 _ rfl
    refine blk_put (cs := #[v0, v1, v2, v3, v4, v5, v6, v7, v8, v9, .slice none 0 0, .slice none 0 0, .slice none 0 0, .slice none 0 0]) ?_ 10 _ rfl
    refine blk_put (cs := #[v0, v1, v2, v3, v4, v5, v6, v7, v8, .int .u16 0, .slice none 0 0, .slice none 0 0, .slice none 0 0, .slice none 0 0]) ?_ 9 _ rfl
    refine blk_put (cs := #[v0, v1, v2, v3, v4, v5, v6, v7, .int .u16 0, .int .u16 0, .slice none 0 0, .slice none 0 0, .slice none 0 0, .slice none 0 0]) ?_ 8 _ rfl
    refine blk_put (cs := #[v0, v1, v2, v3, v4, v5, v6, .int .u32 0, .int .u16 0, .int .u16 0, .slice none 0 0, .slice none 0 0, .slice none 0 0, .slice none 0 0]) ?_ 7 _ rfl
    refine blk_put (cs := #[v0, v1, v2, v3, v4, v5, .int .u32 0, .int .u32 0, .int .u16 0, .int .u16 0, .slice none 0 0, .slice none 0 0, .slice none 0 0, .slice none 0 0]) ?_ 6 _ rfl
    refine blk_put (cs := #[v0, v1, v2, v3, v4, .int .u32 0, .int .u32 0, .int .u32 0, .int .u16 0, .int .u16 0, .slice none 0 0, .slice none 0 0, .slice none 0 0, .slice none 0 0]) ?_ 5 _ rfl
    refine blk_put (cs := #[v0, v1, v2, v3, .int .u16 0, .int .u32 0, .int .u32 0, .int .u32 0, .int .u16 0, .int .u16 0, .slice none 0 0, .slice none 0 0, .slice none 0 0, .slice none 0 0]) ?_ 4 _ rfl
    refine blk_put (cs := #[v0, v1, v2, .int .u16 0, .int .u16 0, .int .u32 0, .int .u32 0, .int .u32 0, .int .u16 0, .int .u16 0, .slice none 0 0, .slice none 0 0, .slice none 0 0, .slice none 0 0]) ?_ 3 _ rfl
    refine blk_put (cs := #[v0, v1, .int .u32 0, .int .u16 0, .int .u16 0, .int .u32 0, .int .u32 0, .int .u32 0, .int .u16 0, .int .u16 0, .slice none 0 0, .slice none 0 0, .slice none 0 0, .slice none 0 0]) ?_ 2 _ rfl
    refine blk_put (cs := #[v0, .int .u8 0, .int .u32 0, .int .u16 0, .int .u16 0, .int .u32 0, .int .u32 0, .int .u32 0, .int .u16 0, .int .u16 0, .slice none 0 0, .slice none 0 0, .slice none 0 0, .slice none 0 0]) ?_ 1 _ rfl
    refine blk_put (cs := #[.int .u8 0, .int .u8 0, .int .u32 0, .int .u16 0, .int .u16 0, .int .u32 0, .int .u32 0, .int .u32 0, .int .u16 0, .int .u16 0, .slice none 0 0, .slice none 0 0, .slice none 0 0, .slice none 0 0]) ?_ 0 _ rfl
    exact h
  · iterate 14 refine below_set ?_ hg
    exact hb
  · iterate 14 refine OneG.far ?_ _ _
    exact ho
theorem put3 {w W : World} {p2 : Nat} {c0 c1 c2 : Value} (v0 v1 v2 : Value) (h : W.heap[p2]? = some (.cells #[c0, c1, c2] 36 (0, 0))) (hb : Below w.heap.size w W) (hg : w.heap.size ≤ p2) :
    (((W.setCell ⟨p2, 0, none⟩ v0).setCell ⟨p2, 1, none⟩ v1).setCell ⟨p2, 2, none⟩ v2).heap[p2]? = some (.cells #[v0, v1, v2] 36 (0, 0)) ∧ Below w.heap.size w (((W.setCell ⟨p2, 0, none⟩ v0).setCell ⟨p2, 1, none⟩ v1).setCell ⟨p2, 2, none⟩ v2) := by
  refine ⟨?_, below_set (below_set (below_set hb hg) hg) hg⟩
  refine blk_put (cs := #[v0, v1, c2]) ?_ 2 _ rfl
  refine blk_put (cs := #[v0, c1, c2]) ?_ 1 _ rfl
  refine blk_put (cs := #[c0, c1, c2]) ?_ 0 _ rfl
  exact h
set_option maxHeartbeats 4000000 in
set_option maxRecDepth 100000 in
theorem rtake_short (k : Nat) (A0 : Option Addr) (c0 : Nat) (l0 : List Int) (w : World) (hr0 : Kd.C (Kd.int .u8) w A0 l0.length l0) (hc0 : l0.length ≤ c0) (hl : l0.length < 16) :
    Calls Try.prog 19 #[.slice A0 l0.length c0] w (TakeOut w 0 0 0 [] 3) := by
  have HR := Aside0.mk hr0
  have HC := Aside0.mk hc0
  clear hr0 hc0
  have hu36 := Try.underlying36
  have hd16 : decide ((l0.length : Int) < 16) = true := decide_eq_true (by omega)
  have hD16 : decide (l0.length < 16) = true := decide_eq_true (by omega)
  have hF16 : (l0.length < 16) = True := eq_true (by omega)
  clear hl
  go_enter Try.func19, Try.ntmps19
  go_wp2_with (first | ((with_reducible refine gate_dst (N := 2) rfl ?_); (try (refine gate_guard (by rfl) ?_; dsimp only)); refine box_event ?hg (N := 2) ?hd (cs := #[.int .u16 0, .int .u16 0, .int .u32 0]) (t := 36) ?hr ?_; (case hd => rfl); (case hg => rfl); (case hr => first | (go_simp; done) | (go_simp; rfl)); intro p2 hg w1_ hbox hb; have HW2 := Aside0.mk hbox; have HWB := Aside0.mk hb; have GE2 := Aside0.mk (show w.heap.size ≤ p2 by rw [hg]; exact Nat.le_refl _); clear hg hbox hb; have hz0 : w1_.cell? ⟨p2, 0, none⟩ = some (.int .u16 0) := (blk_cell HW2.out 0).trans rfl; have hz1 : w1_.cell? ⟨p2, 1, none⟩ = some (.int .u16 0) := (blk_cell HW2.out 1).trans rfl; have hz2 : w1_.cell? ⟨p2, 2, none⟩ = some (.int .u32 0) := (blk_cell HW2.out 2).trans rfl; have hf0 := blk_frozen HW2.out 0; have hf1 := blk_frozen HW2.out 1; have hf2 := blk_frozen HW2.out 2))
  refine bodyPost_ret (results_ctt rfl _ _ p2 36 #[.int .u16 0, .int .u16 0, .int .u32 0] (0, 0) _ rfl (put3 _ _ _ HW2.out HWB.out GE2.out).1 Try.underlying36 rfl (by kernel_rfl)) rfl ?_
  exact ⟨_, rfl, Kd.R_nil _ _ _ _ _, (put3 _ _ _ HW2.out HWB.out GE2.out).2⟩
set_option maxHeartbeats 4000000 in
set_option maxRecDepth 100000 in
theorem rtake_long (k : Nat) (A0 : Option Addr) (c0 : Nat) (l0 : List Int) (w : World) (hr0 : Kd.C (Kd.int .u8) w A0 l0.length l0) (hc0 : l0.length ≤ c0) (hl : 16 ≤ l0.length) (hl2 : 1480 < l0.length) :
    Calls Try.prog 19 #[.slice A0 l0.length c0] w (TakeOut w 0 0 0 [] 6) := by
  have HR := Aside0.mk hr0
  have HC := Aside0.mk hc0
  clear hr0 hc0
  have hu36 := Try.underlying36
  have hd16 : decide ((l0.length : Int) < 16) = false := decide_eq_false (by omega)
  have hD16 : decide (l0.length < 16) = false := decide_eq_false (by omega)
  have hF16 : (l0.length < 16) = False := eq_false (by omega)
  have hd1480 : decide ((l0.length : Int) > 1480) = true := decide_eq_true (by omega)
  have hD1480 : decide (l0.length > 1480) = true := decide_eq_true (by omega)
  have hE1480 : decide ((1480 : Int) < (l0.length : Int)) = true := decide_eq_true (by omega)
  have hF1480 : (1480 < l0.length) = True := eq_true (by omega)
  clear hl hl2
  go_enter Try.func19, Try.ntmps19
  go_wp2_with (first | ((with_reducible refine gate_dst (N := 2) rfl ?_); (try (refine gate_guard (by rfl) ?_; dsimp only)); refine box_event ?hg (N := 2) ?hd (cs := #[.int .u16 0, .int .u16 0, .int .u32 0]) (t := 36) ?hr ?_; (case hd => rfl); (case hg => rfl); (case hr => first | (go_simp; done) | (go_simp; rfl)); intro p2 hg w1_ hbox hb; have HW2 := Aside0.mk hbox; have HWB := Aside0.mk hb; have GE2 := Aside0.mk (show w.heap.size ≤ p2 by rw [hg]; exact Nat.le_refl _); clear hg hbox hb; have hz0 : w1_.cell? ⟨p2, 0, none⟩ = some (.int .u16 0) := (blk_cell HW2.out 0).trans rfl; have hz1 : w1_.cell? ⟨p2, 1, none⟩ = some (.int .u16 0) := (blk_cell HW2.out 1).trans rfl; have hz2 : w1_.cell? ⟨p2, 2, none⟩ = some (.int .u32 0) := (blk_cell HW2.out 2).trans rfl; have hf0 := blk_frozen HW2.out 0; have hf1 := blk_frozen HW2.out 1; have hf2 := blk_frozen HW2.out 2))
  refine bodyPost_ret (results_ctt rfl _ _ p2 36 #[.int .u16 0, .int .u16 0, .int .u32 0] (0, 0) _ rfl (put3 _ _ _ HW2.out HWB.out GE2.out).1 Try.underlying36 rfl (by kernel_rfl)) rfl ?_
  exact ⟨_, rfl, Kd.R_nil _ _ _ _ _, (put3 _ _ _ HW2.out HWB.out GE2.out).2⟩
set_option maxHeartbeats 4000000 in
set_option maxRecDepth 100000 in
theorem rtake_sum (k : Nat) (A0 : Option Addr) (c0 : Nat) (l0 : List Int) (w : World) (hr0 : Kd.C (Kd.int .u8) w A0 l0.length l0) (hc0 : l0.length ≤ c0) (hl : 16 ≤ l0.length) (hl2 : l0.length ≤ 1480) (sm : List Int) (se : Int) (hs : trunklineref02_Stamp.f k l0 = some (sm, se)) (hne : ¬ (strOfNums sm).toList = (strOfNums l0).toList) :
    Calls Try.prog 19 #[.slice A0 l0.length c0] w (TakeOut w 0 0 0 [] 5) := by
  have HR := Aside0.mk hr0
  have HC := Aside0.mk hc0
  clear hr0 hc0
  have hu36 := Try.underlying36
  have hd16 : decide ((l0.length : Int) < 16) = false := decide_eq_false (by omega)
  have hD16 : decide (l0.length < 16) = false := decide_eq_false (by omega)
  have hF16 : (l0.length < 16) = False := eq_false (by omega)
  have hd1480 : decide ((l0.length : Int) > 1480) = false := decide_eq_false (by omega)
  have hD1480 : decide (l0.length > 1480) = false := decide_eq_false (by omega)
  have hE1480 : decide ((1480 : Int) < (l0.length : Int)) = false := decide_eq_false (by omega)
  have hF1480 : (1480 < l0.length) = False := eq_false (by omega)
  have AS := Aside0.mk hs
  have ht1 : ((strOfNums sm).toList != (strOfNums l0).toList) = true := bne_iff_ne.mpr hne
  have ht2 : ((strOfNums sm).toList == (strOfNums l0).toList) = false := beq_eq_false_iff_ne.mpr hne
  clear hl hl2 hs hne
  go_enter Try.func19, Try.ntmps19
  go_wp2_with (first | ((with_reducible refine gate_dst (N := 2) rfl ?_); (try (refine gate_guard (by rfl) ?_; dsimp only)); refine box_event ?hg (N := 2) ?hd (cs := #[.int .u16 0, .int .u16 0, .int .u32 0]) (t := 36) ?hr ?_; (case hd => rfl); (case hg => rfl); (case hr => first | (go_simp; done) | (go_simp; rfl)); intro p2 hg w1_ hbox hb; have HW2 := Aside0.mk hbox; have HWB := Aside0.mk hb; have GE2 := Aside0.mk (show w.heap.size ≤ p2 by rw [hg]; exact Nat.le_refl _); clear hg hbox hb; have hz0 : w1_.cell? ⟨p2, 0, none⟩ = some (.int .u16 0) := (blk_cell HW2.out 0).trans rfl; have hz1 : w1_.cell? ⟨p2, 1, none⟩ = some (.int .u16 0) := (blk_cell HW2.out 1).trans rfl; have hz2 : w1_.cell? ⟨p2, 2, none⟩ = some (.int .u32 0) := (blk_cell HW2.out 2).trans rfl; have hf0 := blk_frozen HW2.out 0; have hf1 := blk_frozen HW2.out 1; have hf2 := blk_frozen HW2.out 2) | ((with_reducible refine gate_callee (f := 36) rfl ?_); refine goesL_ (some 23) rfl rfl Try.func36 (by kernel_rfl) rfl #[.slice A0 l0.length c0] rfl (by (try simp only [List.map_toArray, List.map_cons, List.map_nil]); first | done | rfl) ?_; (with_reducible refine (trunklineref02_Stamp.calls k _ _ l0 sm se _ ?side1 ?side2 AS.out).mono ?_); (case side1 => exact Kd.C_below HR.out HWB.out); (case side2 => exact HC.out); rintro e w2_ ⟨v_, rfl, ho, hb⟩; refine ⟨_, rfl, ?_⟩; have n2_ := Aside0.mk (blk_below HW2.out hb); have nb_ := Aside0.mk (below_step HWB.out hb); obtain ⟨As, cs, e_⟩ := Kd.R_slice ho; subst e_; have HOS := Aside0.mk ho; clear HW2 HWB; have HW2 := n2_; have HWB := nb_; clear n2_ nb_ hb ho; have hs1 := Kd.C_string (P := Try.prog) (A := As) (c := cs) Try.underlying27 Try.underlying5 Try.underlying9 (Kd.R_reads' HOS.out).2.2; have hs2 := Kd.C_string (P := Try.prog) (A := A0) (c := c0) Try.underlying27 Try.underlying5 Try.underlying9 (Kd.C_below HR.out HWB.out); have hz0 : w2_.cell? ⟨p2, 0, none⟩ = some (.int .u16 0) := (blk_cell HW2.out 0).trans rfl; have hz1 : w2_.cell? ⟨p2, 1, none⟩ = some (.int .u16 0) := (blk_cell HW2.out 1).trans rfl; have hz2 : w2_.cell? ⟨p2, 2, none⟩ = some (.int .u32 0) := (blk_cell HW2.out 2).trans rfl; have hf0 := blk_frozen HW2.out 0; have hf1 := blk_frozen HW2.out 1; have hf2 := blk_frozen HW2.out 2))
  refine bodyPost_ret (results_ctt rfl _ _ p2 36 #[.int .u16 0, .int .u16 0, .int .u32 0] (0, 0) _ rfl (put3 _ _ _ HW2.out HWB.out GE2.out).1 Try.underlying36 rfl (by kernel_rfl)) rfl ?_
  exact ⟨_, rfl, Kd.R_nil _ _ _ _ _, (put3 _ _ _ HW2.out HWB.out GE2.out).2⟩
/-- What Take tells of bytes whose sum is right. -/
def RTakeOut (w : World) (l0 : List Int) (e : Ending) (w' : World) : Except Int (List S29) → Prop
  | .error c => TakeOut w 0 0 0 [] c e w'
  | .ok cs => TakeOut w (numN l0 2) (numN (l0.drop 2) 2) (numN (l0.drop 4) 4) cs 0 e w'
set_option maxHeartbeats 4000000 in
set_option maxRecDepth 100000 in
theorem rtake_main (k : Nat) (A0 : Option Addr) (c0 : Nat) (l0 : List Int) (w : World) (hr0 : Kd.C (Kd.int .u8) w A0 l0.length l0) (hc0 : l0.length ≤ c0) (hby : Bytes l0) (hl : 16 ≤ l0.length) (hl2 : l0.length ≤ 1480) (sm : List Int) (se : Int) (hs : trunklineref02_Stamp.f k l0 = some (sm, se)) (heq : (strOfNums sm).toList = (strOfNums l0).toList) :
    Calls Try.prog 19 #[.slice A0 l0.length c0] w fun e w' => RTakeOut w l0 e w' (chunksV ((l0.drop 12).length + 1) (l0.drop 12) []) := by
  have HR := Aside0.mk hr0
  have HC := Aside0.mk hc0
  clear hr0 hc0
  have hu36 := Try.underlying36
  have hd16 : decide ((l0.length : Int) < 16) = false := decide_eq_false (by omega)
  have hD16 : decide (l0.length < 16) = false := decide_eq_false (by omega)
  have hF16 : (l0.length < 16) = False := eq_false (by omega)
  have hd1480 : decide ((l0.length : Int) > 1480) = false := decide_eq_false (by omega)
  have hD1480 : decide (l0.length > 1480) = false := decide_eq_false (by omega)
  have hE1480 : decide ((1480 : Int) < (l0.length : Int)) = false := decide_eq_false (by omega)
  have hF1480 : (1480 < l0.length) = False := eq_false (by omega)
  have AS := Aside0.mk hs
  have HBY := Aside0.mk hby
  have HL := Aside0.mk (show 16 ≤ l0.length ∧ l0.length ≤ 1480 from ⟨hl, hl2⟩)
  have HL6 := Aside0.mk (show l0.length ≤ 65536 by omega)
  have ht1 : ((strOfNums sm).toList != (strOfNums l0).toList) = false := bne_eq_false_iff_eq.mpr heq
  have ht2 : ((strOfNums sm).toList == (strOfNums l0).toList) = true := beq_iff_eq.mpr heq
  clear hl hl2 hs heq hby
  go_enter Try.func19, Try.ntmps19
  go_upto_region 8 with (first | ((with_reducible refine gate_dst (N := 2) rfl ?_); (try (refine gate_guard (by rfl) ?_; dsimp only)); refine box_event ?hg (N := 2) ?hd (cs := #[.int .u16 0, .int .u16 0, .int .u32 0]) (t := 36) ?hr ?_; (case hd => rfl); (case hg => rfl); (case hr => first | (go_simp; done) | (go_simp; rfl)); intro p2 hg w1_ hbox hb; have HW2 := Aside0.mk hbox; have HWB := Aside0.mk hb; have GE2 := Aside0.mk (show w.heap.size ≤ p2 by rw [hg]; exact Nat.le_refl _); clear hg hbox hb; have hz0 : w1_.cell? ⟨p2, 0, none⟩ = some (.int .u16 0) := (blk_cell HW2.out 0).trans rfl; have hz1 : w1_.cell? ⟨p2, 1, none⟩ = some (.int .u16 0) := (blk_cell HW2.out 1).trans rfl; have hz2 : w1_.cell? ⟨p2, 2, none⟩ = some (.int .u32 0) := (blk_cell HW2.out 2).trans rfl; have hf0 := blk_frozen HW2.out 0; have hf1 := blk_frozen HW2.out 1; have hf2 := blk_frozen HW2.out 2) | ((with_reducible refine gate_callee (f := 36) rfl ?_); refine goesL_ (some 23) rfl rfl Try.func36 (by kernel_rfl) rfl #[.slice A0 l0.length c0] rfl (by (try simp only [List.map_toArray, List.map_cons, List.map_nil]); first | done | rfl) ?_; (with_reducible refine (trunklineref02_Stamp.calls k _ _ l0 sm se _ ?side1 ?side2 AS.out).mono ?_); (case side1 => exact Kd.C_below HR.out HWB.out); (case side2 => exact HC.out); rintro e w2_ ⟨v_, rfl, ho, hb⟩; refine ⟨_, rfl, ?_⟩; have n2_ := Aside0.mk (blk_below HW2.out hb); have nb_ := Aside0.mk (below_step HWB.out hb); obtain ⟨As, cs, e_⟩ := Kd.R_slice ho; subst e_; have HOS := Aside0.mk ho; clear HW2 HWB; have HW2 := n2_; have HWB := nb_; clear n2_ nb_ hb ho; have hs1 := Kd.C_string (P := Try.prog) (A := As) (c := cs) Try.underlying27 Try.underlying5 Try.underlying9 (Kd.R_reads' HOS.out).2.2; have hs2 := Kd.C_string (P := Try.prog) (A := A0) (c := c0) Try.underlying27 Try.underlying5 Try.underlying9 (Kd.C_below HR.out HWB.out); have hz0 : w2_.cell? ⟨p2, 0, none⟩ = some (.int .u16 0) := (blk_cell HW2.out 0).trans rfl; have hz1 : w2_.cell? ⟨p2, 1, none⟩ = some (.int .u16 0) := (blk_cell HW2.out 1).trans rfl; have hz2 : w2_.cell? ⟨p2, 2, none⟩ = some (.int .u32 0) := (blk_cell HW2.out 2).trans rfl; have hf0 := blk_frozen HW2.out 0; have hf1 := blk_frozen HW2.out 1; have hf2 := blk_frozen HW2.out 2))
  go_wp2_with (first | ((with_reducible refine gate_dst (N := 32) rfl ?_); (try (refine gate_guard (by rfl) ?_; dsimp only)); refine Kd.R_lit k29 _ 29 ?hg (N := 32) ?hd (xs := ([] : List (S29))) (inner := []) (ok := fun k => k ≠ p2) (okp := fun k => k ≠ p2) ?hr ?hp (fun _ hk => hk) (by have := blk_lt HW2.out; omega) (Below.refl _ _) (Nat.le_refl _) (by simp) ?_; (case hd => rfl); (case hg => rfl); (case hr => first | (go_simp; done) | (go_simp; rfl)); (case hp => exact (Reps.none _ _)); intro v3_ w3_ ho hb hg_ hnew_; clear hg_ hnew_; have HO := Aside0.mk (Kd.R_lower ho HWB.out.size); have n2_ := Aside0.mk (blk_below HW2.out hb); have nb_ := Aside0.mk (below_step HWB.out hb); clear HW2 HWB; have HW2 := n2_; have HWB := nb_; clear n2_ nb_ ho hb))
  clear hz0 hz1 hz2 hf0 hf1 hf2 hs1 hs2 HOS
  go_loopg [7, 8] ((l0.drop 12).length + 1) (fun gk v7 v8 wr => ∃ (out : List S29) (x : Int), v8 = .int .i64 x ∧ Aside0 (chunksV gk (l0.drop x.toNat) out = chunksV ((l0.drop 12).length + 1) (l0.drop 12) []) ∧ Aside0 (12 ≤ x ∧ x ≤ l0.length) ∧ Aside0 ((l0.length : Int) - x < gk) ∧ Aside0 (out.length ≤ 32) ∧ Aside0 (Kd.R k29 29 wr w.heap.size (fun k => k ≠ p2) v7 out) ∧ Aside0 (wr.heap[p2]? = some (.cells #[.int .u16 0, .int .u16 0, .int .u32 0] 36 (0, 0))) ∧ Aside0 (Below w.heap.size w wr))
  case atStart => exact ⟨[], 12, rfl, ⟨rfl⟩, ⟨by have := HL.out; omega⟩, ⟨by rw [List.length_drop]; have := HL.out; omega⟩, ⟨by decide⟩, HO, HW2, HWB⟩
  case round =>
    clear HO HW2 HWB
    obtain ⟨out, x, rfl, HP, HX, HGK, HOL, HO, HW2, HWB⟩ := hrel
    cases gk with
    | zero => exact absurd HGK.out (by have := HX.out; omega)
    | succ gko =>
    obtain ⟨n, hn⟩ : ∃ n, n = numN (l0.drop (x + 2).toNat) 2 := ⟨_, rfl⟩
    have HNR := Aside0.mk (show 0 ≤ n ∧ n < 65536 by rw [hn]; exact num2_range (HBY.out.drop _))
    have HD2 := Aside0.mk (show (l0.drop x.toNat).drop 2 = l0.drop (x + 2).toNat by rw [List.drop_drop]; have := HX.out; congr 1; omega)
    have HLR := Aside0.mk (show ((l0.drop x.toNat).length : Int) = (l0.length : Int) - x by rw [List.length_drop]; have := HX.out; omega)
    obtain ⟨lr, hlr⟩ : ∃ lr, lr = l0.drop x.toNat := ⟨_, rfl⟩
    have HS := Aside0.mk (show chunksV (gko + 1) lr out = if lr.length = 0 then .ok out else if lr.length < 4 then .error 3 else if n < 4 then .error 4 else if lr.length < (n.toNat + 3) / 4 * 4 then .error 3 else if 32 ≤ out.length then .error 6 else thenV (oneV (rd lr 0) (rd lr 1) ((lr.drop 4).take (n.toNat - 4))) fun c => chunksV gko (lr.drop ((n.toNat + 3) / 4 * 4)) (out ++ [c]) by rw [chunksV, hlr, HD2.out, hn])
    have HP := Aside0.mk (show chunksV (gko + 1) lr out = chunksV ((l0.drop 12).length + 1) (l0.drop 12) [] by rw [hlr]; exact HP.out)
    have HLR := Aside0.mk (show (lr.length : Int) = (l0.length : Int) - x by rw [hlr]; exact HLR.out)
    have HLE := Aside0.mk hlr
    obtain ⟨q2, hq2⟩ : ∃ q2, q2 = x + 2 := ⟨_, rfl⟩
    have HNE := Aside0.mk (show n = numN (l0.drop q2.toNat) 2 by rw [hq2]; exact hn)
    have hxr := HX.out
    have hll := HL.out
    have hw2 : wrap64 (x + 2) = q2 := by rw [w64 (by omega) (by omega), hq2]
    have hw2i : IntKind.i64.wrap (x + 2) = q2 := (i64_w _).trans hw2
    have hwx : wrap64 ((l0.length : Int) - x) = (l0.length : Int) - x := w64 (by omega) (by omega)
    have hwxi : IntKind.i64.wrap ((l0.length : Int) - x) = (l0.length : Int) - x := (i64_w _).trans hwx
    have HQ20 := Aside0.mk (show 0 ≤ q2 by omega)
    clear hn hlr
    have hz0 : wr.cell? ⟨p2, 0, none⟩ = some (.int .u16 0) := (blk_cell HW2.out 0).trans rfl
    have hz1 : wr.cell? ⟨p2, 1, none⟩ = some (.int .u16 0) := (blk_cell HW2.out 1).trans rfl
    have hz2 : wr.cell? ⟨p2, 2, none⟩ = some (.int .u32 0) := (blk_cell HW2.out 2).trans rfl
    have hf0 := blk_frozen HW2.out 0
    have hf1 := blk_frozen HW2.out 1
    have hf2 := blk_frozen HW2.out 2
    by_cases e0 : x < (l0.length : Int)
    case neg =>
      have b0 : decide (x < (l0.length : Int)) = false := decide_eq_false e0
      have HE := Aside0.mk (show lr.length = 0 by have := HLR.out; omega)
      obtain ⟨r0, hr0⟩ : ∃ r, r = numN l0 2 := ⟨_, rfl⟩
      obtain ⟨r1, hr1⟩ : ∃ r, r = numN (l0.drop 2) 2 := ⟨_, rfl⟩
      obtain ⟨r2, hr2⟩ : ∃ r, r = numN (l0.drop 4) 4 := ⟨_, rfl⟩
      have HN0 := Aside0.mk (show r0 = numN (l0.drop (0 : Int).toNat) 2 from hr0)
      have HN1 := Aside0.mk (show r1 = numN (l0.drop (2 : Int).toNat) 2 from hr1)
      have HN2 := Aside0.mk (show r2 = numN (l0.drop (4 : Int).toNat) 4 from hr2)
      have HA0 := Aside0.mk (show (0 : Int) + 2 ≤ (l0.length : Int) by omega)
      have HA1 := Aside0.mk (show (2 : Int) + 2 ≤ (l0.length : Int) by omega)
      have HA2 := Aside0.mk (show (4 : Int) + 4 ≤ (l0.length : Int) by omega)
      have hu0 : IntKind.u16.wrap r0 = r0 := u16w (by rw [hr0]; exact num2_range HBY.out)
      have hu1 : IntKind.u16.wrap r1 = r1 := u16w (by rw [hr1]; exact num2_range (HBY.out.drop _))
      have hm0 : r0 % 65536 = r0 := by have := num2_range HBY.out; rw [← hr0] at this; omega
      have hm1 : r1 % 65536 = r1 := by have := num2_range (HBY.out.drop 2); rw [← hr1] at this; omega
      clear e0 hxr hll hq2 hr0 hr1 hr2
      go_wp2_with (first | (go_at_call 42; (with_reducible refine (rnum2 A0 c0 l0 0 r0 _ ?c1_ HC.out HBY.out (by decide) HA0.out HL6.out HN0.out).mono ?_); (case c1_ => exact Kd.C_below HR.out HWB.out); rintro e w5_ ⟨rfl, hb⟩; have n2_ := Aside0.mk (blk_below HW2.out hb); have nb_ := Aside0.mk (below_step HWB.out hb); have no_ := Aside0.mk (Kd.R_below HO.out hb); clear HW2 HWB HO; have HW2 := n2_; have HWB := nb_; have HO := no_; clear n2_ nb_ no_; have hz0 : w5_.cell? ⟨p2, 0, none⟩ = some (.int .u16 0) := (blk_cell HW2.out 0).trans rfl; have hf0 := blk_frozen HW2.out 0; have hz1 : w5_.cell? ⟨p2, 1, none⟩ = some (.int .u16 0) := (blk_cell HW2.out 1).trans rfl; have hf1 := blk_frozen HW2.out 1; have hz2 : w5_.cell? ⟨p2, 2, none⟩ = some (.int .u32 0) := (blk_cell HW2.out 2).trans rfl; have hf2 := blk_frozen HW2.out 2; clear hb) | (go_at_call 42; (with_reducible refine (rnum2 A0 c0 l0 2 r1 _ ?c1_ HC.out HBY.out (by decide) HA1.out HL6.out HN1.out).mono ?_); (case c1_ => exact Kd.C_below HR.out HWB.out); rintro e w6_ ⟨rfl, hb⟩; have n2_ := Aside0.mk (blk_below HW2.out hb); have nb_ := Aside0.mk (below_step HWB.out hb); have no_ := Aside0.mk (Kd.R_below HO.out hb); clear HW2 HWB HO; have HW2 := n2_; have HWB := nb_; have HO := no_; clear n2_ nb_ no_; have hz0 : w6_.cell? ⟨p2, 0, none⟩ = some (.int .u16 0) := (blk_cell HW2.out 0).trans rfl; have hf0 := blk_frozen HW2.out 0; have hz1 : w6_.cell? ⟨p2, 1, none⟩ = some (.int .u16 0) := (blk_cell HW2.out 1).trans rfl; have hf1 := blk_frozen HW2.out 1; have hz2 : w6_.cell? ⟨p2, 2, none⟩ = some (.int .u32 0) := (blk_cell HW2.out 2).trans rfl; have hf2 := blk_frozen HW2.out 2; clear hb) | (go_at_call 42; (with_reducible refine (rnum4 A0 c0 l0 4 r2 _ ?c1_ HC.out HBY.out (by decide) HA2.out HL6.out HN2.out).mono ?_); (case c1_ => exact Kd.C_below HR.out HWB.out); rintro e w7_ ⟨rfl, hb⟩; have n2_ := Aside0.mk (blk_below HW2.out hb); have nb_ := Aside0.mk (below_step HWB.out hb); have no_ := Aside0.mk (Kd.R_below HO.out hb); clear HW2 HWB HO; have HW2 := n2_; have HWB := nb_; have HO := no_; clear n2_ nb_ no_; have hz0 : w7_.cell? ⟨p2, 0, none⟩ = some (.int .u16 0) := (blk_cell HW2.out 0).trans rfl; have hf0 := blk_frozen HW2.out 0; have hz1 : w7_.cell? ⟨p2, 1, none⟩ = some (.int .u16 0) := (blk_cell HW2.out 1).trans rfl; have hf1 := blk_frozen HW2.out 1; have hz2 : w7_.cell? ⟨p2, 2, none⟩ = some (.int .u32 0) := (blk_cell HW2.out 2).trans rfl; have hf2 := blk_frozen HW2.out 2; clear hb))
      refine bodyPost_ret (results_ctt rfl _ _ p2 36 #[.int .u16 r0, .int .u16 r1, .int .u32 r2] (0, 0) _ rfl (put3 _ _ _ HW2.out HWB.out GE2.out).1 Try.underlying36 rfl (by kernel_rfl)) rfl ?_
      rw [← HP.out, HS.out, if_pos HE.out]
      show TakeOut w (numN l0 2) (numN (l0.drop 2) 2) (numN (l0.drop 4) 4) out 0 _ _
      rw [show numN l0 2 = r0 from HN0.out.symm, show numN (l0.drop 2) 2 = r1 from HN1.out.symm, show numN (l0.drop 4) 4 = r2 from HN2.out.symm]
      exact ⟨_, rfl, Kd.R_mono (Kd.R_far (p := ⟨p2, 2, none⟩) (Kd.R_far (p := ⟨p2, 1, none⟩) (Kd.R_far (p := ⟨p2, 0, none⟩) HO.out (fun _ hk => hk) _) (fun _ hk => hk) _) (fun _ hk => hk) _) (fun _ _ => trivial), (put3 _ _ _ HW2.out HWB.out GE2.out).2⟩
    have b0 : decide (x < (l0.length : Int)) = true := decide_eq_true e0
    have HE := Aside0.mk (show ¬ lr.length = 0 by have := HLR.out; omega)
    by_cases ef : (l0.length : Int) - x < 4
    · have b1 : decide ((l0.length : Int) - x < 4) = true := decide_eq_true ef
      have HF := Aside0.mk (show lr.length < 4 by have := HLR.out; omega)
      clear e0 ef hxr hll hq2
      go_wp2
      refine bodyPost_ret (results_ctt rfl _ _ p2 36 #[.int .u16 0, .int .u16 0, .int .u32 0] (0, 0) _ rfl (put3 _ _ _ HW2.out HWB.out GE2.out).1 Try.underlying36 rfl (by kernel_rfl)) rfl ?_
      rw [← HP.out, HS.out, if_neg HE.out, if_pos HF.out]
      exact ⟨_, rfl, Kd.R_nil _ _ _ _ _, (put3 _ _ _ HW2.out HWB.out GE2.out).2⟩
    have b1 : decide ((l0.length : Int) - x < 4) = false := decide_eq_false ef
    have HF := Aside0.mk (show ¬ lr.length < 4 by have := HLR.out; omega)
    have HQ2 := Aside0.mk (show q2 + 2 ≤ (l0.length : Int) by omega)
    have hwn : wrap64 n = n := w64 (by have := HNR.out; omega) (by have := HNR.out; omega)
    have hwni : IntKind.i64.wrap n = n := (i64_w _).trans hwn
    have HXB := Aside0.mk (show x < (l0.length : Int) ∧ ¬ (l0.length : Int) - x < 4 from ⟨e0, ef⟩)
    clear e0 ef hxr hll hq2
    by_cases c1 : n < 4
    · have c1b : decide (n < 4) = true := decide_eq_true c1
      have HC1 := Aside0.mk c1
      clear c1
      go_wp2_with (first | (go_at_call 42; (with_reducible refine (rnum2 A0 c0 l0 q2 n _ ?c1_ HC.out HBY.out HQ20.out HQ2.out HL6.out HNE.out).mono ?_); (case c1_ => exact Kd.C_below HR.out HWB.out); rintro e w4_ ⟨rfl, hb⟩; have n2_ := Aside0.mk (blk_below HW2.out hb); have nb_ := Aside0.mk (below_step HWB.out hb); have no_ := Aside0.mk (Kd.R_below HO.out hb); clear HW2 HWB HO; have HW2 := n2_; have HWB := nb_; have HO := no_; clear n2_ nb_ no_; have hz0 : w4_.cell? ⟨p2, 0, none⟩ = some (.int .u16 0) := (blk_cell HW2.out 0).trans rfl; have hf0 := blk_frozen HW2.out 0; have hz1 : w4_.cell? ⟨p2, 1, none⟩ = some (.int .u16 0) := (blk_cell HW2.out 1).trans rfl; have hf1 := blk_frozen HW2.out 1; have hz2 : w4_.cell? ⟨p2, 2, none⟩ = some (.int .u32 0) := (blk_cell HW2.out 2).trans rfl; have hf2 := blk_frozen HW2.out 2; clear hb))
      refine bodyPost_ret (results_ctt rfl _ _ p2 36 #[.int .u16 0, .int .u16 0, .int .u32 0] (0, 0) _ rfl (put3 _ _ _ HW2.out HWB.out GE2.out).1 Try.underlying36 rfl (by kernel_rfl)) rfl ?_
      rw [← HP.out, HS.out, if_neg HE.out, if_neg (show ¬ lr.length < 4 by first | exact HF.out | exact Nat.not_lt.mpr HF.out), if_pos HC1.out]
      exact ⟨_, rfl, Kd.R_nil _ _ _ _ _, (put3 _ _ _ HW2.out HWB.out GE2.out).2⟩
    have c1b : decide (n < 4) = false := decide_eq_false c1
    have HC1 := Aside0.mk c1
    obtain ⟨tg, htg⟩ : ∃ tg : Int, tg = (n + 3) / 4 * 4 := ⟨_, rfl⟩
    have HTG := Aside0.mk (show n ≤ tg ∧ tg < n + 4 ∧ (∀ z : Int, n ≤ z → z ≤ tg → (z % 4 = 0 ↔ z = tg)) from ⟨by omega, by omega, fun z h1 h2 => by omega⟩)
    have HTN := Aside0.mk (show ((n.toNat + 3) / 4 * 4 : Nat) = tg.toNat by have := HNR.out; omega)
    clear c1 htg
    go_wp2_with (first | (go_at_call 42; (with_reducible refine (rnum2 A0 c0 l0 q2 n _ ?c1_ HC.out HBY.out HQ20.out HQ2.out HL6.out HNE.out).mono ?_); (case c1_ => exact Kd.C_below HR.out HWB.out); rintro e w4_ ⟨rfl, hb⟩; have n2_ := Aside0.mk (blk_below HW2.out hb); have nb_ := Aside0.mk (below_step HWB.out hb); have no_ := Aside0.mk (Kd.R_below HO.out hb); clear HW2 HWB HO; have HW2 := n2_; have HWB := nb_; have HO := no_; clear n2_ nb_ no_; have hz0 : w4_.cell? ⟨p2, 0, none⟩ = some (.int .u16 0) := (blk_cell HW2.out 0).trans rfl; have hf0 := blk_frozen HW2.out 0; have hz1 : w4_.cell? ⟨p2, 1, none⟩ = some (.int .u16 0) := (blk_cell HW2.out 1).trans rfl; have hf1 := blk_frozen HW2.out 1; have hz2 : w4_.cell? ⟨p2, 2, none⟩ = some (.int .u32 0) := (blk_cell HW2.out 2).trans rfl; have hf2 := blk_frozen HW2.out 2; clear hb))
    go_loopg [10] 4 (fun gi v10 wr' => ∃ z : Int, v10 = .int .i64 z ∧ wr' = w4_ ∧ Aside0 (n ≤ z ∧ z ≤ tg) ∧ Aside0 (tg - z < gi))
    case atStart => exact ⟨n, rfl, rfl, ⟨⟨Int.le_refl _, HTG.out.1⟩⟩, ⟨by have := HTG.out; omega⟩⟩
    case round =>
      obtain ⟨z, rfl, rfl, HZ, HGI⟩ := hrel
      have hz := HZ.out
      have htg := HTG.out
      have hnr := HNR.out
      have htm : Int.tmod z 4 = z % 4 := Int.tmod_eq_emod_of_nonneg (by have := HC1.out; omega)
      by_cases e1 : z = tg
      case neg =>
        have hne : ¬ z % 4 = 0 := fun h => e1 ((htg.2.2 z hz.1 hz.2).1 h)
        have m1 : (z % 4 != 0) = true := by simp; omega
        have m2 : (Int.tmod z 4 != 0) = true := by rw [htm]; simp; omega
        have hz1 : wrap64 (z + 1) = z + 1 := w64 (by omega) (by omega)
        have hz1i : IntKind.i64.wrap (z + 1) = z + 1 := (i64_w _).trans hz1
        have HZ1 := Aside0.mk (show n ≤ z + 1 ∧ z + 1 ≤ tg by omega)
        have hgi := HGI.out
        cases gk with
        | zero => exact absurd hgi (by omega)
        | succ gi =>
        clear hz htg hnr e1 hne
        go_wp2
        go_roundg gi
        case measure => omega
        case rel => exact ⟨z + 1, rfl, rfl, HZ1, ⟨by omega⟩⟩
      have hend := (htg.2.2 z hz.1 hz.2).2 e1
      subst e1
      have m1 : (z % 4 != 0) = false := by rw [hend]; rfl
      have m2 : (Int.tmod z 4 != 0) = false := by rw [htm, hend]; rfl
      by_cases c2 : (l0.length : Int) - x < z
      · have c2b : decide (z > (l0.length : Int) - x) = true := decide_eq_true c2
        have c2c : decide ((l0.length : Int) - x < z) = true := decide_eq_true c2
        have HC2 := Aside0.mk (show lr.length < (n.toNat + 3) / 4 * 4 by rw [HTN.out]; have := HLR.out; omega)
        clear c2 hz htg hnr hend
        go_wp2
        refine bodyPost_ret (results_ctt rfl _ _ p2 36 #[.int .u16 0, .int .u16 0, .int .u32 0] (0, 0) _ rfl (put3 _ _ _ HW2.out HWB.out GE2.out).1 Try.underlying36 rfl (by kernel_rfl)) rfl ?_
        rw [← HP.out, HS.out, if_neg HE.out, if_neg (show ¬ lr.length < 4 by first | exact HF.out | exact Nat.not_lt.mpr HF.out), if_neg (show ¬ n < 4 by first | exact HC1.out | exact Int.not_lt.mpr HC1.out), if_pos HC2.out]
        exact ⟨_, rfl, Kd.R_nil _ _ _ _ _, (put3 _ _ _ HW2.out HWB.out GE2.out).2⟩
      have c2b : decide (z > (l0.length : Int) - x) = false := decide_eq_false (by omega)
      have c2c : decide ((l0.length : Int) - x < z) = false := decide_eq_false c2
      have HC2 := Aside0.mk (show ¬ lr.length < (n.toNat + 3) / 4 * 4 by rw [HTN.out]; have := HLR.out; omega)
      have HXZ := Aside0.mk (show x + z ≤ (l0.length : Int) by omega)
      obtain ⟨A3, c3', he3⟩ := Kd.R_slice HO.out
      subst he3
      by_cases c3 : 32 ≤ out.length
      · have c3b : decide (32 ≤ out.length) = true := decide_eq_true c3
        have c3c : decide ((32 : Int) ≤ (out.length : Int)) = true := decide_eq_true (by omega)
        have c3d : decide ((out.length : Int) ≥ 32) = true := decide_eq_true (by omega)
        have HC3 := Aside0.mk c3
        clear c2 c3 hz htg hnr hend
        go_wp2
        refine bodyPost_ret (results_ctt rfl _ _ p2 36 #[.int .u16 0, .int .u16 0, .int .u32 0] (0, 0) _ rfl (put3 _ _ _ HW2.out HWB.out GE2.out).1 Try.underlying36 rfl (by kernel_rfl)) rfl ?_
        rw [← HP.out, HS.out, if_neg HE.out, if_neg (show ¬ lr.length < 4 by first | exact HF.out | exact Nat.not_lt.mpr HF.out), if_neg (show ¬ n < 4 by first | exact HC1.out | exact Int.not_lt.mpr HC1.out), if_neg (show ¬ lr.length < (n.toNat + 3) / 4 * 4 by first | exact HC2.out | exact Nat.not_lt.mpr HC2.out), if_pos HC3.out]
        exact ⟨_, rfl, Kd.R_nil _ _ _ _ _, (put3 _ _ _ HW2.out HWB.out GE2.out).2⟩
      have c3b : decide (32 ≤ out.length) = false := decide_eq_false c3
      have c3c : decide ((32 : Int) ≤ (out.length : Int)) = false := decide_eq_false (by omega)
      have c3d : decide ((out.length : Int) ≥ 32) = false := decide_eq_false (by omega)
      have HC3 := Aside0.mk c3
      clear c2 c3 hz htg hnr hend
      go_upto_region 23 with (fail)
      obtain ⟨x1, hx1⟩ : ∃ x1, x1 = x + 1 := ⟨_, rfl⟩
      obtain ⟨q4, hq4⟩ : ∃ q4, q4 = x + 4 := ⟨_, rfl⟩
      obtain ⟨qn, hqn⟩ : ∃ qn, qn = x + n := ⟨_, rfl⟩
      obtain ⟨y, hy⟩ : ∃ y, y = (l0.take qn.toNat).drop q4.toNat := ⟨_, rfl⟩
      obtain ⟨b0, hb0⟩ : ∃ b0, b0 = rd l0 x := ⟨_, rfl⟩
      obtain ⟨b1, hb1⟩ : ∃ b1, b1 = rd l0 x1 := ⟨_, rfl⟩
      have hxr := HX.out
      have hll := HL.out
      have hnr := HNR.out
      have hxz := HXZ.out
      have hnz := HZ.out
      have hc1_ := HC1.out
      have hwq : wrap64 (x + 4) = q4 := by rw [w64 (by omega) (by omega), hq4]
      have hwqi : IntKind.i64.wrap (x + 4) = q4 := (i64_w _).trans hwq
      have hwn : wrap64 (x + n) = qn := by rw [w64 (by omega) (by omega), hqn]
      have hwni2 : IntKind.i64.wrap (x + n) = qn := (i64_w _).trans hwn
      have hwx1 : wrap64 (x + 1) = x1 := by rw [w64 (by omega) (by omega), hx1]
      have hwx1i : IntKind.i64.wrap (x + 1) = x1 := (i64_w _).trans hwx1
      obtain ⟨xz, hxzE⟩ : ∃ xz, xz = x + z := ⟨_, rfl⟩
      have hwxz : wrap64 (x + z) = xz := by rw [w64 (by omega) (by omega), hxzE]
      have hwxzi : IntKind.i64.wrap (x + z) = xz := (i64_w _).trans hwxz
      have HXZ2 := Aside0.mk (show xz = x + z ∧ 12 ≤ xz ∧ xz ≤ (l0.length : Int) ∧ x + 4 ≤ xz by omega)
      have q0 : (0 : Int) ≤ q4 := by omega
      have q1 : q4 ≤ qn := by omega
      have q2' : qn ≤ (l0.length : Int) := by omega
      obtain ⟨ad, ead, hcx0⟩ := Kd.at_int HR.out x (by omega) (by omega)
      obtain ⟨ad1, ead1, hcx1⟩ := Kd.at_int HR.out x1 (by omega) (by omega)
      subst ead
      obtain rfl : ad = ad1 := by injection ead1
      have HCELL := Aside0.mk (show ∀ W, Below wr.heap.size wr W → W.cell? (ad.add x.toNat) = some (.int .u8 b0) ∧ W.cell? (ad.add x1.toNat) = some (.int .u8 b1) from fun W hW => by
        rw [hb0, hb1]
        exact ⟨((below_step HWB.out hW).cell (World.block_lt_of_cell? w _ hcx0)).trans hcx0, ((below_step HWB.out hW).cell (World.block_lt_of_cell? w _ hcx1)).trans hcx1⟩)
      have HYLL := Aside0.mk (show y.length = qn.toNat - q4.toNat by rw [hy, List.length_drop, List.length_take]; omega)
      have HOV := Aside0.mk (show rd lr 0 = b0 ∧ rd lr 1 = b1 ∧ (lr.drop 4).take (n.toNat - 4) = y by
        rw [hb0, hb1, hy, HLE.out]
        refine ⟨(rd_dropx l0 x 0 (by omega) (by omega)).trans (by rw [Int.add_zero]), (rd_dropx l0 x 1 (by omega) (by omega)).trans (by rw [hx1]), ?_⟩
        rw [List.drop_drop, List.drop_take]; congr 1 <;> first | omega | (congr 1; omega))
      have HYB := Aside0.mk (show Bytes y by rw [hy]; exact (HBY.out.take _).drop _)
      have HYL := Aside0.mk (show y.length ≤ 65536 by rw [hy, List.length_drop, List.length_take]; omega)
      have HB0 := Aside0.mk (show 0 ≤ b0 ∧ b0 ≤ 255 by rw [hb0]; exact rd_byte HBY.out x (by omega) (by omega))
      obtain ⟨i0, hi0, _, hsz, _⟩ := info_parts info5
      have hcut := cut_mid (P := Try.prog) 27 5 .i64 .i64 Try.underlying27 hi0 1 hsz (some ad) l0.length c0 q4 qn q0 q1 q2' HC.out
      obtain ⟨A2, hA2⟩ : ∃ A1, A1 = (if c0 = q4.toNat then (some ad) else (some ad : Option Addr).map (·.add (q4.toNat * 1))) := ⟨_, rfl⟩
      obtain ⟨c2, hc2⟩ : ∃ c1, c1 = c0 - q4.toNat := ⟨_, rfl⟩
      rw [← HYLL.out, ← hA2, ← hc2] at hcut
      have HCY := Aside0.mk (show y.length ≤ c2 by rw [HYLL.out, hc2]; have := HC.out; omega)
      have HCM := Aside0.mk (show ∀ W, Below wr.heap.size wr W → Kd.C (Kd.int .u8) W A2 y.length y by
        intro W hW
        have h := Kd.C_mid (lo := q4.toNat) (hi := qn.toNat) (c := c0) (Kd.C_below HR.out (below_step HWB.out hW)) (by omega) (by omega) HC.out
        rw [hA2, hy]
        rw [List.length_drop, List.length_take] at h ⊢
        first | exact h | (rw [show min qn.toNat l0.length = qn.toNat by omega] at h ⊢; exact h) | (rw [show min qn.toNat l0.length = qn.toNat by omega] at h; exact h))
      have HS2 := Aside0.mk (show chunksV (gko + 1) lr out = thenV (oneV b0 b1 y) fun c => chunksV gko (l0.drop xz.toNat) (out ++ [c]) by
        have h := HOV.out
        rw [HS.out, if_neg HE.out, if_neg (show ¬ lr.length < 4 by first | exact HF.out | exact Nat.not_lt.mpr HF.out), if_neg (show ¬ n < 4 by first | exact HC1.out | exact Int.not_lt.mpr HC1.out), if_neg (show ¬ lr.length < (n.toNat + 3) / 4 * 4 by first | exact HC2.out | exact Nat.not_lt.mpr HC2.out), if_neg (show ¬ 32 ≤ out.length by first | exact HC3.out | exact Nat.not_le.mpr HC3.out), h.1, h.2.1, h.2.2, show lr.drop ((n.toNat + 3) / 4 * 4) = l0.drop xz.toNat by rw [HTN.out, HLE.out, List.drop_drop]; congr 1; omega])
      have HFR := Aside0.mk (show ∀ k, wr.heap.size ≤ k → k ≠ p2 ∧ some k ≠ (Value.slice A3 out.length c3').ownBlock from fun k hk => ⟨fun e => by have := blk_lt HW2.out; omega, fun e => absurd (own_lt (Kd.R_own HO.out).choose_spec k e.symm) (Nat.not_lt.mpr hk)⟩)
      have HLIM := Aside0.mk (show (out.length + 1) * 128 ≤ 140737488355328 by have := HC3.out; omega)
      have HC2q := Aside0.mk (show out.length < 32 by have := HC3.out; omega)
      clear HC2
      have HB := Aside0.mk (Below.refl wr.heap.size wr).drew
      have p0 : (0 ≤ x) = True := eq_true (by omega)
      have p0' : (x < (l0.length : Int)) = True := eq_true (by omega)
      have p1 : (0 ≤ x1) = True := eq_true (by omega)
      have p1' : (x1 < (l0.length : Int)) = True := eq_true (by omega)
      clear hxr hll hnr hxz hnz hc1_ hx1 hq4 hqn hy hb0 hb1 hi0 hsz hA2 hc2 q0 q1 q2' hcx0 hcx1 ead1 hxzE
      refine start_ (n := 23) (S := fun w' => w'.cell? (ad.add x.toNat) = some (.int .u8 b0) ∧ w'.cell? (ad.add x1.toNat) = some (.int .u8 b1)) (ds := [21]) #[false, false, false, false, false, false, false, false, false, false, false, false, false, false, false, false, false, false, false, false, false, false, false] (by kernel_rfl) rfl rfl ⟨(HCELL.out _ HB.out).1, (HCELL.out _ HB.out).2⟩ (fun hHeld => ?_)
      generalize wr.drew = wd at HB hHeld ⊢
      refine pure_ (i := 0) (N := some 69) (v := ?_) (a' := ?_) #[true, false, false, false, false, false, false, false, false, false, false, false, false, false, false, false, false, false, false, false, false, false, false] rfl rfl (by kernel_rfl) (fun _ _ _ h => h) (Or.inl ⟨by rfl, ?_⟩) ?_ ?_
      rotate_left
      · intro w'
        go_simp
        with_reducible rfl
      rotate_left
      · simp only [Act.put, List.setIfInBounds_toArray, List.set_cons_zero, List.set_cons_succ, i64_w, i32_w]
        rfl
      refine pure_ (i := 1) (N := some 70) (v := ?_) (a' := ?_) #[true, true, false, false, false, false, false, false, false, false, false, false, false, false, false, false, false, false, false, false, false, false, false] rfl rfl (by kernel_rfl) (fun _ _ _ h => h) (Or.inl ⟨by rfl, ?_⟩) ?_ ?_
      rotate_left
      · intro w'
        go_simp
        with_reducible rfl
      rotate_left
      · simp only [Act.put, List.setIfInBounds_toArray, List.set_cons_zero, List.set_cons_succ, i64_w, i32_w]
        rfl
      refine pure_ (i := 2) (N := some 71) (v := ?_) (a' := ?_) #[true, true, true, false, false, false, false, false, false, false, false, false, false, false, false, false, false, false, false, false, false, false, false] rfl rfl (by kernel_rfl) (fun _ _ _ h => h) (Or.inl ⟨by rfl, ?_⟩) ?_ ?_
      rotate_left
      · intro w'
        go_simp
        with_reducible rfl
      rotate_left
      · simp only [Act.put, List.setIfInBounds_toArray, List.set_cons_zero, List.set_cons_succ, i64_w, i32_w]
        rfl
      refine pure_ (i := 4) (N := some 73) (v := ?_) (a' := ?_) #[true, true, true, false, true, false, false, false, false, false, false, false, false, false, false, false, false, false, false, false, false, false, false] rfl rfl (by kernel_rfl) (fun _ _ _ h => h) (Or.inl ⟨by rfl, ?_⟩) ?_ ?_
      rotate_left
      · intro w'
        go_simp
        with_reducible rfl
      rotate_left
      · simp only [Act.put, List.setIfInBounds_toArray, List.set_cons_zero, List.set_cons_succ, i64_w, i32_w]
        rfl
      refine pure_ (i := 5) (N := some 74) (v := ?_) (a' := ?_) #[true, true, true, false, true, true, false, false, false, false, false, false, false, false, false, false, false, false, false, false, false, false, false] rfl rfl (by kernel_rfl) (fun _ _ _ h => h) (Or.inl ⟨by rfl, ?_⟩) ?_ ?_
      rotate_left
      · intro w'
        go_simp
        with_reducible rfl
      rotate_left
      · simp only [Act.put, List.setIfInBounds_toArray, List.set_cons_zero, List.set_cons_succ, i64_w, i32_w]
        rfl
      refine pure_ (i := 6) (N := some 75) (v := ?_) (a' := ?_) #[true, true, true, false, true, true, true, false, false, false, false, false, false, false, false, false, false, false, false, false, false, false, false] rfl rfl (by kernel_rfl) (fun _ _ _ h => h) (Or.inl ⟨by rfl, ?_⟩) ?_ ?_
      rotate_left
      · intro w'
        go_simp
        with_reducible rfl
      rotate_left
      · simp only [Act.put, List.setIfInBounds_toArray, List.set_cons_zero, List.set_cons_succ, i64_w, i32_w]
        rfl
      refine pure_ (i := 7) (N := some 76) (v := ?_) (a' := ?_) #[true, true, true, false, true, true, true, true, false, false, false, false, false, false, false, false, false, false, false, false, false, false, false] rfl rfl (by kernel_rfl) (fun _ _ _ h => h) (Or.inl ⟨by rfl, ?_⟩) ?_ ?_
      rotate_left
      · intro w'
        go_simp
        with_reducible rfl
      rotate_left
      · simp only [Act.put, List.setIfInBounds_toArray, List.set_cons_zero, List.set_cons_succ, i64_w, i32_w]
        rfl
      refine pure_ (i := 9) (N := some 78) (v := ?_) (a' := ?_) #[true, true, true, false, true, true, true, true, false, true, false, false, false, false, false, false, false, false, false, false, false, false, false] rfl rfl (by kernel_rfl) (fun _ _ _ h => h) (Or.inl ⟨by rfl, ?_⟩) ?_ ?_
      rotate_left
      · intro w'
        go_simp
        with_reducible rfl
      rotate_left
      · simp only [Act.put, List.setIfInBounds_toArray, List.set_cons_zero, List.set_cons_succ, i64_w, i32_w]
        rfl
      refine pure_ (i := 10) (N := some 79) (v := ?_) (a' := ?_) #[true, true, true, false, true, true, true, true, false, true, true, false, false, false, false, false, false, false, false, false, false, false, false] rfl rfl (by kernel_rfl) (fun _ _ _ h => h) (Or.inl ⟨by rfl, ?_⟩) ?_ ?_
      rotate_left
      · intro w'
        go_simp
        with_reducible rfl
      rotate_left
      · simp only [Act.put, List.setIfInBounds_toArray, List.set_cons_zero, List.set_cons_succ, i64_w, i32_w]
        rfl
      refine pure_ (i := 11) (N := some 80) (v := ?_) (a' := ?_) #[true, true, true, false, true, true, true, true, false, true, true, true, false, false, false, false, false, false, false, false, false, false, false] rfl rfl (by kernel_rfl) (fun _ _ _ h => h) (Or.inl ⟨by rfl, ?_⟩) ?_ ?_
      rotate_left
      · intro w'
        go_simp
        with_reducible rfl
      rotate_left
      · simp only [Act.put, List.setIfInBounds_toArray, List.set_cons_zero, List.set_cons_succ, i64_w, i32_w]
        rfl
      refine pure_ (i := 12) (N := some 81) (v := ?_) (a' := ?_) #[true, true, true, false, true, true, true, true, false, true, true, true, true, false, false, false, false, false, false, false, false, false, false] rfl rfl (by kernel_rfl) (fun _ _ _ h => h) (Or.inl ⟨by rfl, ?_⟩) ?_ ?_
      rotate_left
      · intro w'
        go_simp
        with_reducible rfl
      rotate_left
      · simp only [Act.put, List.setIfInBounds_toArray, List.set_cons_zero, List.set_cons_succ, i64_w, i32_w]
        rfl
      refine pure_ (i := 13) (N := some 82) (v := ?_) (a' := ?_) #[true, true, true, false, true, true, true, true, false, true, true, true, true, true, false, false, false, false, false, false, false, false, false] rfl rfl (by kernel_rfl) (fun _ _ _ h => h) (Or.inl ⟨by rfl, ?_⟩) ?_ ?_
      rotate_left
      · intro w'
        go_simp
        with_reducible rfl
      rotate_left
      · simp only [Act.put, List.setIfInBounds_toArray, List.set_cons_zero, List.set_cons_succ, i64_w, i32_w]
        rfl
      refine pure_ (i := 14) (N := some 83) (v := ?_) (a' := ?_) #[true, true, true, false, true, true, true, true, false, true, true, true, true, true, true, false, false, false, false, false, false, false, false] rfl rfl (by kernel_rfl) (fun _ _ _ h => h) (Or.inl ⟨by rfl, ?_⟩) ?_ ?_
      rotate_left
      · intro w'
        go_simp
        with_reducible rfl
      rotate_left
      · simp only [Act.put, List.setIfInBounds_toArray, List.set_cons_zero, List.set_cons_succ, i64_w, i32_w]
        rfl
      refine pure_ (i := 15) (N := some 84) (v := ?_) (a' := ?_) #[true, true, true, false, true, true, true, true, false, true, true, true, true, true, true, true, false, false, false, false, false, false, false] rfl rfl (by kernel_rfl) (fun _ _ _ h => h) (Or.inl ⟨by rfl, ?_⟩) ?_ ?_
      rotate_left
      · intro w'
        go_simp
        with_reducible rfl
      rotate_left
      · simp only [Act.put, List.setIfInBounds_toArray, List.set_cons_zero, List.set_cons_succ, i64_w, i32_w]
        rfl
      refine take_ (i := 3) (N := some 72) (v := ?_) (a' := ?_) #[true, true, true, true, true, true, true, true, false, true, true, true, true, true, true, true, false, false, false, false, false, false, false] rfl rfl (by kernel_rfl) (fun _ _ _ h => h) (Or.inl ⟨by rfl, ?_⟩) hHeld ?_ ?_
      rotate_left
      · rintro w' ⟨s0, s1⟩
        go_simp
        with_reducible rfl
      rotate_left
      · simp only [Act.put, List.setIfInBounds_toArray, List.set_cons_zero, List.set_cons_succ, i64_w, i32_w]
        rfl
      refine take_ (i := 8) (N := some 77) (v := ?_) (a' := ?_) #[true, true, true, true, true, true, true, true, true, true, true, true, true, true, true, true, false, false, false, false, false, false, false] rfl rfl (by kernel_rfl) (fun _ _ _ h => h) (Or.inl ⟨by rfl, ?_⟩) hHeld ?_ ?_
      rotate_left
      · rintro w' ⟨s0, s1⟩
        go_simp
        with_reducible rfl
      rotate_left
      · simp only [Act.put, List.setIfInBounds_toArray, List.set_cons_zero, List.set_cons_succ, i64_w, i32_w]
        rfl
      refine join_ (σ := Value × Int × Nat) 2 #[true, true, true, true, true, true, true, true, true, true, true, true, true, true, true, true, true, true, true, true, true, false, false] (fun s => [(85, .tuple #[s.1, .int .i64 s.2.1]), (11, .pointer (some ⟨s.2.2, 0, none⟩)), (68, .tuple #[s.1, .int .i64 s.2.1]), (86, s.1), (87, .int .i64 s.2.1)]) (fun s w' => (w'.cell? (ad.add x.toNat) = some (.int .u8 b0) ∧ w'.cell? (ad.add x1.toNat) = some (.int .u8 b1)) ∧ OneG w' wr.heap.size (fun k => k ≠ s.2.2) (oneV b0 b1 y) s.1 s.2.1 ∧ w'.heap[s.2.2]? = some (.cells zero14 29 (0, 0)) ∧ wr.heap.size ≤ s.2.2 ∧ Below wr.heap.size wr w') ?_ ?_
      rotate_left
      · intro hCont
        refine two_ (i := 16) (j := 20) (Ni := some 85) (Nj := some 11) #[true, true, true, true, true, true, true, true, true, true, true, true, true, true, true, true, true, false, false, false, false, false, false] #[true, true, true, true, true, true, true, true, true, true, true, true, true, true, true, true, false, false, false, false, true, false, false] rfl rfl rfl rfl (by kernel_rfl) (by decide) (by decide) (fun K hK => ?_) (fun K hK => ?_)
        · skip
          refine goes_ Try.func43 (by kernel_rfl) rfl #[.int .u8 b0, .int .u8 b1, .slice A2 y.length c2] (by rfl) rfl rfl (by (try simp only [List.map_toArray, List.map_cons, List.map_nil]); first | done | rfl) ?_
          with_reducible refine (rone_calls b0 b1 A2 c2 y _ (HCM.out _ HB.out) HCY.out HYB.out HYL.out HB0.out).mono ?_
          rintro e_ wo ⟨hb, ho⟩
          obtain ⟨ag, er, ex, hg⟩ := OneG.of ho
          subst ex
          refine ⟨_, rfl, ?_⟩
          have n0_ := Aside0.mk (OneG.to (ok' := fun k => True) hg HB.out.size (Below.refl _ _) (fun _ _ _ => trivial))
          have n1_ := Aside0.mk (below_step HB.out hb)
          clear HB
          have HG := n0_
          have HB := n1_
          clear n0_ n1_
          clear hb ho hg
          refine hK.out _ _ ⟨(HCELL.out _ HB.out).1, (HCELL.out _ HB.out).2⟩ (fun hHeld => ?_)
          clear hK K
          refine norm_ (a' := ?_) ?_ ?_
          rotate_left
          · show Act.put _ (some 85) _ = _
            simp only [Act.put, List.setIfInBounds_toArray, List.set_cons_zero, List.set_cons_succ, i64_w, i32_w]
            rfl
          refine pure_ (i := 17) (N := some 68) (v := ?_) (a' := ?_) #[true, true, true, true, true, true, true, true, true, true, true, true, true, true, true, true, true, true, false, false, false, false, false] rfl rfl (by kernel_rfl) (fun _ _ _ h => h) (Or.inl ⟨by rfl, ?_⟩) ?_ ?_
          rotate_left
          · intro w'
            go_simp
            with_reducible rfl
          rotate_left
          · simp only [Act.put, List.setIfInBounds_toArray, List.set_cons_zero, List.set_cons_succ, i64_w, i32_w]
            rfl
          refine pure_ (i := 18) (N := some 86) (v := ?_) (a' := ?_) #[true, true, true, true, true, true, true, true, true, true, true, true, true, true, true, true, true, true, true, false, false, false, false] rfl rfl (by kernel_rfl) (fun _ _ _ h => h) (Or.inl ⟨by rfl, ?_⟩) ?_ ?_
          rotate_left
          · intro w'
            go_simp
            with_reducible rfl
          rotate_left
          · simp only [Act.put, List.setIfInBounds_toArray, List.set_cons_zero, List.set_cons_succ, i64_w, i32_w]
            rfl
          refine pure_ (i := 19) (N := some 87) (v := ?_) (a' := ?_) #[true, true, true, true, true, true, true, true, true, true, true, true, true, true, true, true, true, true, true, true, false, false, false] rfl rfl (by kernel_rfl) (fun _ _ _ h => h) (Or.inl ⟨by rfl, ?_⟩) ?_ ?_
          rotate_left
          · intro w'
            go_simp
            with_reducible rfl
          rotate_left
          · simp only [Act.put, List.setIfInBounds_toArray, List.set_cons_zero, List.set_cons_succ, i64_w, i32_w]
            rfl
          refine one_ (i := 20) (N := some 11) #[true, true, true, true, true, true, true, true, true, true, true, true, true, true, true, true, true, true, true, true, true, false, false] rfl rfl (by kernel_rfl) (by decide) (fun K hK => ?_)
          refine box_step ?hg (N := 11) ?hd (cs := zero14) (t := 29) ?hr ?_; (case hd => rfl); (case hg => rfl); (case hr => first | (go_simp; done) | (go_simp; rfl))
          intro g11 hgg wa hbox hb
          have n0_ := Aside0.mk (hbox)
          have n1_ := Aside0.mk (show wr.heap.size ≤ g11 by rw [hgg]; exact HB.out.size)
          have n2_ := Aside0.mk (OneG.to (ok' := fun k => k ≠ g11) HG.out (Nat.le_refl _) hb (fun k _ hk => by omega))
          have n3_ := Aside0.mk (below_step HB.out hb)
          clear HG HB
          have BA := n0_
          have HGA := n1_
          have HG := n2_
          have HB := n3_
          clear n0_ n1_ n2_ n3_
          clear hgg hbox hb
          refine hK.out _ _ ⟨(HCELL.out _ HB.out).1, (HCELL.out _ HB.out).2⟩ (fun hHeld => ?_)
          clear hK K
          refine norm_ (a' := ?_) ?_ ?_
          rotate_left
          · show Act.put _ (some 11) _ = _
            simp only [Act.put, List.setIfInBounds_toArray, List.set_cons_zero, List.set_cons_succ, i64_w, i32_w]
            rfl
          exact norm_ (by simp only [putAll, Act.put, List.setIfInBounds_toArray, List.set_cons_zero, List.set_cons_succ]) (hCont (ag, er, g11) _ ⟨hHeld, HG.out, BA.out, HGA.out, HB.out⟩)
        · skip
          refine box_step ?hg (N := 11) ?hd (cs := zero14) (t := 29) ?hr ?_; (case hd => rfl); (case hg => rfl); (case hr => first | (go_simp; done) | (go_simp; rfl))
          intro g11 hgg wa hbox hb
          have n0_ := Aside0.mk (hbox)
          have n1_ := Aside0.mk (show wr.heap.size ≤ g11 by rw [hgg]; exact HB.out.size)
          have n2_ := Aside0.mk (below_step HB.out hb)
          clear HB
          have BA := n0_
          have HGA := n1_
          have HB := n2_
          clear n0_ n1_ n2_
          clear hgg hbox hb
          refine hK.out _ _ ⟨(HCELL.out _ HB.out).1, (HCELL.out _ HB.out).2⟩ (fun hHeld => ?_)
          clear hK K
          refine norm_ (a' := ?_) ?_ ?_
          rotate_left
          · show Act.put _ (some 11) _ = _
            simp only [Act.put, List.setIfInBounds_toArray, List.set_cons_zero, List.set_cons_succ, i64_w, i32_w]
            rfl
          refine one_ (i := 16) (N := some 85) #[true, true, true, true, true, true, true, true, true, true, true, true, true, true, true, true, true, false, false, false, true, false, false] rfl rfl (by kernel_rfl) (by decide) (fun K hK => ?_)
          refine goes_ Try.func43 (by kernel_rfl) rfl #[.int .u8 b0, .int .u8 b1, .slice A2 y.length c2] (by rfl) rfl rfl (by (try simp only [List.map_toArray, List.map_cons, List.map_nil]); first | done | rfl) ?_
          with_reducible refine (rone_calls b0 b1 A2 c2 y _ (HCM.out _ HB.out) HCY.out HYB.out HYL.out HB0.out).mono ?_
          rintro e_ wo ⟨hb, ho⟩
          obtain ⟨ag, er, ex, hg⟩ := OneG.of ho
          subst ex
          refine ⟨_, rfl, ?_⟩
          have n0_ := Aside0.mk (OneG.to (ok' := fun k => k ≠ g11) hg HB.out.size (Below.refl _ _) (fun k hk _ => by have := blk_lt BA.out; omega))
          have n1_ := Aside0.mk (blk_below BA.out hb)
          have n2_ := Aside0.mk (below_step HB.out hb)
          clear BA HB
          have HG := n0_
          have BA := n1_
          have HB := n2_
          clear n0_ n1_ n2_
          clear hb ho hg
          refine hK.out _ _ ⟨(HCELL.out _ HB.out).1, (HCELL.out _ HB.out).2⟩ (fun hHeld => ?_)
          clear hK K
          refine norm_ (a' := ?_) ?_ ?_
          rotate_left
          · show Act.put _ (some 85) _ = _
            simp only [Act.put, List.setIfInBounds_toArray, List.set_cons_zero, List.set_cons_succ, i64_w, i32_w]
            rfl
          refine pure_ (i := 17) (N := some 68) (v := ?_) (a' := ?_) #[true, true, true, true, true, true, true, true, true, true, true, true, true, true, true, true, true, true, false, false, true, false, false] rfl rfl (by kernel_rfl) (fun _ _ _ h => h) (Or.inl ⟨by rfl, ?_⟩) ?_ ?_
          rotate_left
          · intro w'
            go_simp
            with_reducible rfl
          rotate_left
          · simp only [Act.put, List.setIfInBounds_toArray, List.set_cons_zero, List.set_cons_succ, i64_w, i32_w]
            rfl
          refine pure_ (i := 18) (N := some 86) (v := ?_) (a' := ?_) #[true, true, true, true, true, true, true, true, true, true, true, true, true, true, true, true, true, true, true, false, true, false, false] rfl rfl (by kernel_rfl) (fun _ _ _ h => h) (Or.inl ⟨by rfl, ?_⟩) ?_ ?_
          rotate_left
          · intro w'
            go_simp
            with_reducible rfl
          rotate_left
          · simp only [Act.put, List.setIfInBounds_toArray, List.set_cons_zero, List.set_cons_succ, i64_w, i32_w]
            rfl
          refine pure_ (i := 19) (N := some 87) (v := ?_) (a' := ?_) #[true, true, true, true, true, true, true, true, true, true, true, true, true, true, true, true, true, true, true, true, true, false, false] rfl rfl (by kernel_rfl) (fun _ _ _ h => h) (Or.inl ⟨by rfl, ?_⟩) ?_ ?_
          rotate_left
          · intro w'
            go_simp
            with_reducible rfl
          rotate_left
          · simp only [Act.put, List.setIfInBounds_toArray, List.set_cons_zero, List.set_cons_succ, i64_w, i32_w]
            rfl
          exact norm_ (by simp only [putAll, Act.put, List.setIfInBounds_toArray, List.set_cons_zero, List.set_cons_succ]) (hCont (ag, er, g11) _ ⟨hHeld, HG.out, BA.out, HGA.out, HB.out⟩)
      rintro ⟨ag, er, g11⟩ wj ⟨hHeld, hg, hba, hga, hb⟩
      have hg0 := hg
      obtain ⟨n0, n1, n2, n3, n4, n5, n6, n7, n8, n9, A10, A11, A12, A13, k10, k11, k12, k13, c10, c11, c12, c13, hag, _⟩ := hg
      have hag : ag = .agg #[.int .u8 n0, .int .u8 n1, .int .u32 n2, .int .u16 n3, .int .u16 n4, .int .u32 n5, .int .u32 n6, .int .u32 n7, .int .u16 n8, .int .u16 n9, .slice A10 k10 c10, .slice A11 k11 c11, .slice A12 k12 c12, .slice A13 k13 c13] := hag
      subst hag
      have HG := Aside0.mk hg0
      clear hg0
      have BA := Aside0.mk hba
      have HGA := Aside0.mk hga
      clear HB
      have HB := Aside0.mk hb
      clear hba hga hb
      obtain ⟨⟨hz0_, hz1_, hz2_, hz3_, hz4_, hz5_, hz6_, hz7_, hz8_, hz9_, hz10_, hz11_, hz12_, hz13_⟩, ⟨hf0_, hf1_, hf2_, hf3_, hf4_, hf5_, hf6_, hf7_, hf8_, hf9_, hf10_, hf11_, hf12_, hf13_⟩⟩ := oneC14 BA.out
      refine norm_ (a' := ?_) ?_ ?_
      rotate_left
      · simp only [putAll, Act.put, List.setIfInBounds_toArray, List.set_cons_zero, List.set_cons_succ]
        rfl
      refine last_ (i := 21) (N := none) #[true, true, true, true, true, true, true, true, true, true, true, true, true, true, true, true, true, true, true, true, true, true, false] rfl rfl (by kernel_rfl) (by decide) (fun K hK => ?_)
      refine skip_ (w1 := ?_) (by rfl) rfl ?_ ?_
      rotate_left
      · go_simp
        rfl
      refine hK.out _ _ ?_
      clear hK K
      refine pure_ (i := 22) (N := some 12) (v := ?_) (a' := ?_) #[true, true, true, true, true, true, true, true, true, true, true, true, true, true, true, true, true, true, true, true, true, true, true] rfl rfl (by kernel_rfl) (fun _ _ _ h => h) (Or.inl ⟨by rfl, ?_⟩) ?_ ?_
      rotate_left
      · intro w'
        go_simp
        with_reducible rfl
      rotate_left
      · simp only [Act.put, List.setIfInBounds_toArray, List.set_cons_zero, List.set_cons_succ, i64_w, i32_w]
        rfl
      refine done_ (by kernel_rfl) ?_
      clear HCELL hHeld hcut hz0_ hz1_ hz2_ hz3_ hz4_ hz5_ hz6_ hz7_ hz8_ hz9_ hz10_ hz11_ hz12_ hz13_ hf0_ hf1_ hf2_ hf3_ hf4_ hf5_ hf6_ hf7_ hf8_ hf9_ hf10_ hf11_ hf12_ hf13_ hz0 hz1 hz2 hf0 hf1 hf2
      go_upto_region 24 with (fail)
      refine wp_cutw (fun W => W.heap[g11]? = some (.cells #[.int .u8 n0, .int .u8 n1, .int .u32 n2, .int .u16 n3, .int .u16 n4, .int .u32 n5, .int .u32 n6, .int .u32 n7, .int .u16 n8, .int .u16 n9, .slice A10 k10 c10, .slice A11 k11 c11, .slice A12 k12 c12, .slice A13 k13 c13] 29 (0, 0)) ∧ Below wr.heap.size wr W ∧ OneG W wr.heap.size (fun k => k ≠ g11) (oneV b0 b1 y) (.agg #[.int .u8 n0, .int .u8 n1, .int .u32 n2, .int .u16 n3, .int .u16 n4, .int .u32 n5, .int .u32 n6, .int .u32 n7, .int .u16 n8, .int .u16 n9, .slice A10 k10 c10, .slice A11 k11 c11, .slice A12 k12 c12, .slice A13 k13 c13]) er) (put14 BA.out HB.out HGA.out HG.out) ?_
      rintro W5 ⟨hb11, hb, hg5⟩
      clear BA HB HG
      have HLO := Aside0.mk HWB.out.size
      have n2_ := Aside0.mk (blk_below HW2.out hb); have nb_ := Aside0.mk (below_step HWB.out hb); have no_ := Aside0.mk (Kd.R_below HO.out hb); clear HW2 HWB HO; have HW2 := n2_; have HWB := nb_; have HO := no_; clear n2_ nb_ no_ hb; have hz0 : W5.cell? ⟨p2, 0, none⟩ = some (.int .u16 0) := (blk_cell HW2.out 0).trans rfl; have hf0 := blk_frozen HW2.out 0; have hz1 : W5.cell? ⟨p2, 1, none⟩ = some (.int .u16 0) := (blk_cell HW2.out 1).trans rfl; have hf1 := blk_frozen HW2.out 1; have hz2 : W5.cell? ⟨p2, 2, none⟩ = some (.int .u32 0) := (blk_cell HW2.out 2).trans rfl; have hf2 := blk_frozen HW2.out 2
      have HG := Aside0.mk hg5.inj
      clear hg5
      cases hov : oneV b0 b1 y with
      | error e =>
        have HSE := Aside0.mk (show chunksV (gko + 1) lr out = .error e by rw [HS2.out, hov]; rfl)
        obtain rfl : er = e := (HG.out e).1 hov
        have hne1 : (er != 0) = true := bne_iff_ne.mpr (oneV_ne hov)
        have hne2 : (er == 0) = false := beq_eq_false_iff_ne.mpr (oneV_ne hov)
        clear HG hov
        go_wp2
        refine bodyPost_ret (results_ctt rfl _ _ p2 36 #[.int .u16 0, .int .u16 0, .int .u32 0] (0, 0) _ rfl (put3 _ _ _ HW2.out HWB.out GE2.out).1 Try.underlying36 rfl (by kernel_rfl)) rfl ?_
        rw [show l0.length - 12 = (l0.drop 12).length from (List.length_drop).symm, ← HP.out, HSE.out]
        exact ⟨_, rfl, Kd.R_nil _ _ _ _ _, (put3 _ _ _ HW2.out HWB.out GE2.out).2⟩
      | ok c =>
        have HSE := Aside0.mk (show chunksV (gko + 1) lr out = chunksV gko (l0.drop xz.toNat) (out ++ [c]) by rw [HS2.out, hov]; rfl)
        obtain ⟨rfl, ⟨rfl, rfl, rfl, rfl, rfl, rfl, rfl, rfl, rfl, rfl⟩, ⟨rfl, rfl, rfl, rfl⟩, h10, h11, h12, h13⟩ := (HG.out 0).2 c hov
        have HG10 := Aside0.mk (Kd.R_lower (Kd.R_mono (Kd.R_bound h10) (ok' := fun k => wr.heap.size ≤ k) (fun k hk => hk.2.1)) HLO.out)
        have HG11 := Aside0.mk (Kd.R_lower (Kd.R_mono (Kd.R_bound h11) (ok' := fun k => wr.heap.size ≤ k) (fun k hk => hk.2.1)) HLO.out)
        have HG12 := Aside0.mk (Kd.R_lower (Kd.R_mono (Kd.R_bound h12) (ok' := fun k => wr.heap.size ≤ k) (fun k hk => hk.2.1)) HLO.out)
        have HG13 := Aside0.mk (Kd.R_lower (Kd.R_mono (Kd.R_bound h13) (ok' := fun k => wr.heap.size ≤ k) (fun k hk => hk.2.1)) HLO.out)
        obtain ⟨⟨hz0_, hz1_, hz2_, hz3_, hz4_, hz5_, hz6_, hz7_, hz8_, hz9_, hz10_, hz11_, hz12_, hz13_⟩, _⟩ := oneC14 hb11
        clear HG hov h10 h11 h12 h13 hb11
        go_wp2_with (first | ((with_reducible refine gate_builtin (b := .append) (xs := #[.tmp 92, .tmp 94]) rfl ?_); at_builtin; refine Kd.R_append k29 (w0 := w) w.heap.size rfl (.tmp 92) (.tmp 94) 37 29 (.agg zero14) 128 rfl Try.underlying37 info29 rfl (by decide) (by omega) (.slice A3 out.length c3') out c [.int .u8 c.f0, .int .u8 c.f1, .int .u32 c.f2, .int .u16 c.f3, .int .u16 c.f4, .int .u32 c.f5, .int .u32 c.f6, .int .u32 c.f7, .int .u16 c.f8, .int .u16 c.f9, .slice A10 c.f10.length c10, .slice A11 c.f11.length c11, .slice A12 c.f12.length c12, .slice A13 c.f13.length c13] (fun k_ => k_ ≠ p2) (fun k_ => wr.heap.size ≤ k_) rfl rfl (k29_mkM _ _ _ c HG10.out HG11.out HG12.out HG13.out) (fun k hk => HFR.out k hk) (fun k hk e => by have := blk_lt HW2.out; omega) HO.out HWB.out HWB.out.size HLIM.out ?_; intro v7_ w7_ ho7 hb7 hg7 ha7; have HO7 := Aside0.mk ho7; have HB7 := Aside0.mk hb7; have HW7 := Aside0.mk (blk_grown HW2.out hg7 (Kd.R_away HO.out (fun _ hk => hk))); clear ho7 hb7 hg7 ha7))
        go_roundg gko
        case measure => omega
        case rel => exact ⟨out ++ [c], xz, rfl, ⟨by rw [← HP.out, HSE.out]⟩, ⟨⟨HXZ2.out.2.1, HXZ2.out.2.2.1⟩⟩, ⟨by have := HGK.out; have := HXZ2.out; omega⟩, ⟨by rw [List.length_append]; exact HC2q.out⟩, HO7, HW7, HB7⟩

def trunklineref12_Take.f (k : Nat) (l0 : List Int) : Option (Int × Int × Int × List S29 × Int) :=
  if ∀ x ∈ l0, 0 ≤ x ∧ x ≤ 255 then
    if l0.length < 16 then some (0, 0, 0, [], 3)
    else if 1480 < l0.length then some (0, 0, 0, [], 6)
    else (trunklineref02_Stamp.f k l0).bind fun s => some (if (strOfNums s.1).toList = (strOfNums l0).toList then takeT l0 (chunksV ((l0.drop 12).length + 1) (l0.drop 12) []) else (0, 0, 0, [], 5))
  else none
theorem trunklineref12_Take.calls (k : Nat) (A0 : Option Addr) (c0 : Nat) (l0 : List Int) (r1 : Int) (r2 : Int) (r3 : Int) (r4 : List S29) (r5 : Int) (w : World) (hr0 : Kd.C (Kd.int .u8) w A0 l0.length l0) (hc0 : l0.length ≤ c0) (h : trunklineref12_Take.f k l0 = some (r1, r2, r3, r4, r5)) :
    Calls Try.prog 19 #[.slice A0 l0.length c0] w fun e w' => ∃ v3_ : Value, e = .returned (.tuple #[.agg #[.int .u16 r1, .int .u16 r2, .int .u32 r3], v3_, .int .i64 r5]) ∧ Kd.R k29 29 w' w.heap.size (fun _ => True) v3_ r4 ∧ Below w.heap.size w w' := by
  show Calls _ _ _ _ (TakeOut w r1 r2 r3 r4 r5)
  unfold trunklineref12_Take.f at h
  split at h
  · rename_i hby
    split at h
    · rename_i h1
      simp only [Option.some.injEq, Prod.mk.injEq] at h
      obtain ⟨rfl, rfl, rfl, rfl, rfl⟩ := h
      exact rtake_short k A0 c0 l0 w hr0 hc0 h1
    · rename_i h1
      split at h
      · rename_i h2
        simp only [Option.some.injEq, Prod.mk.injEq] at h
        obtain ⟨rfl, rfl, rfl, rfl, rfl⟩ := h
        exact rtake_long k A0 c0 l0 w hr0 hc0 (by omega) h2
      · rename_i h2
        obtain ⟨⟨sm, se⟩, hs, h⟩ := Option.bind_eq_some_iff.mp h
        by_cases he : (strOfNums sm).toList = (strOfNums l0).toList
        · rw [if_pos he] at h
          have hm := rtake_main k A0 c0 l0 w hr0 hc0 hby (by omega) (by omega) sm se hs he
          cases hsp : chunksV ((l0.drop 12).length + 1) (l0.drop 12) [] with
          | error e =>
            rw [hsp] at h hm
            simp only [takeT, Option.some.injEq, Prod.mk.injEq] at h
            obtain ⟨rfl, rfl, rfl, rfl, rfl⟩ := h
            exact hm
          | ok cs =>
            rw [hsp] at h hm
            simp only [takeT, Option.some.injEq, Prod.mk.injEq] at h
            obtain ⟨rfl, rfl, rfl, rfl, rfl⟩ := h
            exact hm
        · rw [if_neg he] at h
          simp only [Option.some.injEq, Prod.mk.injEq] at h
          obtain ⟨rfl, rfl, rfl, rfl, rfl⟩ := h
          exact rtake_sum k A0 c0 l0 w hr0 hc0 (by omega) (by omega) sm se hs he
  · cases h
end Go.Proofs.Ytaahkggbjpdofaa.M
