import Derived.Test.YtaahkggbjpdofaaHReadF
import Derived.Defers
import Derived.Recover
section
/- Take's deferred call where the frame panics with a fault: the three results are set. -/
namespace Go.Proofs.Ytaahkggbjpdofaa.M
open Go.RowKit Go.Proofs.YtaahkggbjpdofaaW.PrintWords Go.Proofs.YtaahkggbjpdofaaW.PrintLast Go.Proofs.YtaahkggbjpdofaaW.PrintMore
set_option linter.unusedVariables false
set_option linter.unusedSimpArgs false
attribute [local go_sem] as_nil as_fault
set_option maxHeartbeats 1600000 in
set_option maxRecDepth 100000 in
theorem catch_fault (gh gl ge : Nat) (e a b c x : Int) (v : Value) (w0 w : World) (hB : Below w0.heap.size w0 w) (hBH : w.heap[gh]? = some (.cells #[.int .u16 a, .int .u16 b, .int .u32 c] 36 (0, 0))) (hBL : w.heap[gl]? = some (.cells #[v] 37 (0, 0))) (hBE : w.heap[ge]? = some (.cells #[.int .i64 x] 31 (0, 0))) (hn1 : gh ≠ gl) (hn2 : gh ≠ ge) (hn3 : gl ≠ ge) (hg1 : w0.heap.size ≤ gh) (hg2 : w0.heap.size ≤ gl) (hg3 : w0.heap.size ≤ ge) :
    CallsD Try.prog 37 #[.pointer (some ⟨gh, 0, none⟩), .pointer (some ⟨gl, 0, none⟩), .pointer (some ⟨ge, 0, none⟩)] (.panicking [{ v := faultV e, recovered := false }]) w fun y u' w' => y = .returned (.tuple #[]) ∧ settle u' = .returning ∧ Below w0.heap.size w0 w' ∧ w'.heap[gh]? = some (.cells #[.int .u16 0, .int .u16 0, .int .u32 0] 36 (0, 0)) ∧ w'.heap[gl]? = some (.cells #[.slice none 0 0] 37 (0, 0)) ∧ w'.heap[ge]? = some (.cells #[.int .i64 e] 31 (0, 0)) := by
  have BH := Aside0.mk hBH
  have BL := Aside0.mk hBL
  have BE := Aside0.mk hBE
  have G1 := Aside0.mk hg1
  have G2 := Aside0.mk hg2
  have G3 := Aside0.mk hg3
  have hn1' := Ne.symm hn1
  have hn2' := Ne.symm hn2
  have hn3' := Ne.symm hn3
  have N1 := Aside0.mk hn1
  have N2 := Aside0.mk hn2
  have N3 := Aside0.mk hn3
  have HB := Aside0.mk hB
  clear hB hBH hBL hBE hg1 hg2 hg3
  refine callsD_of_wpS Try.func37 rfl fun c₀ cs hu => ?_
  apply wpS_seq
  generalize hK : Exit.thenS _ _ = K
  apply wpS_region
  simp [wpOpsS, go_sem, recoverD, hu, Try.ntmps37]
  subst hK
  simp only [Exit.thenS]
  refine wpS_of_wp ?_
  have ht : (#[Value.pointer (some ⟨gh, 0, none⟩), Value.pointer (some ⟨gl, 0, none⟩), Value.pointer (some ⟨ge, 0, none⟩)] ++ ((Array.replicate 20 undef).setIfInBounds 3 (faultV e)).setIfInBounds 0 (faultV e)) = #[Value.pointer (some ⟨gh, 0, none⟩), Value.pointer (some ⟨gl, 0, none⟩), Value.pointer (some ⟨ge, 0, none⟩), (faultV e), undef, undef, (faultV e), undef, undef, undef, undef, undef, undef, undef, undef, undef, undef, undef, undef, undef, undef, undef, undef] := by kernel_rfl
  rw [ht]
  clear ht
  go_wp2_with (first | ((with_reducible refine gate_dst (N := 4) rfl ?_); refine box_event ?hg (N := 4) ?hd (cs := #[.int .i64 0]) (t := 68) ?hr ?_; (case hd => rfl); (case hg => rfl); (case hr => first | (go_simp; done) | (go_simp; rfl)); intro p4 hg4 w1 hbox4 hb4; have hd0 : w1.cell? ⟨p4, 0, none⟩ = some (.int .i64 0) := blk_cell hbox4 0; have hf0 : w1.frozen? ⟨p4, 0, none⟩ = false := blk_frozen hbox4 0; have HP4 := Aside0.mk (show w.heap.size ≤ p4 by omega); have HX4 := Aside0.mk hbox4; have HB4 := Aside0.mk hb4; clear hg4 hbox4 hb4))
  have N4gh : gh ≠ p4 := by have := blk_lt BH.out; have := HP4.out; omega
  have N4gh' := Ne.symm N4gh
  have N4gl : gl ≠ p4 := by have := blk_lt BL.out; have := HP4.out; omega
  have N4gl' := Ne.symm N4gl
  have N4ge : ge ≠ p4 := by have := blk_lt BE.out; have := HP4.out; omega
  have N4ge' := Ne.symm N4ge
  obtain ⟨W, hW⟩ : ∃ W, W = w1.setCell { block := p4, off := 0 } (Value.int IntKind.i64 e) := ⟨_, rfl⟩
  have hbx : W.heap[p4]? = some (.cells #[.int .i64 e] 68 (0, 0)) := by rw [hW]; exact blk_put HX4.out 0 _ rfl
  have hbh : W.heap[gh]? = some (.cells #[.int .u16 a, .int .u16 b, .int .u32 c] 36 (0, 0)) := by rw [hW]; exact blk_far (blk_below BH.out HB4.out) N4gh _
  have hbl : W.heap[gl]? = some (.cells #[v] 37 (0, 0)) := by rw [hW]; exact blk_far (blk_below BL.out HB4.out) N4gl _
  have hbe : W.heap[ge]? = some (.cells #[.int .i64 x] 31 (0, 0)) := by rw [hW]; exact blk_far (blk_below BE.out HB4.out) N4ge _
  have HBW := Aside0.mk (show Below w0.heap.size w0 W by rw [hW]; exact below_set (below_step HB.out HB4.out) (Nat.le_trans HB.out.size HP4.out))
  rw [← hW]
  clear hW hd0 hf0 HB4 HX4
  have h40 : W.cell? ⟨p4, 0, none⟩ = some (.int .i64 e) := blk_cell hbx 0
  have hh0 : W.cell? ⟨gh, 0, none⟩ = some (.int .u16 a) := blk_cell hbh 0
  have hh1 : W.cell? ⟨gh, 1, none⟩ = some (.int .u16 b) := blk_cell hbh 1
  have hh2 : W.cell? ⟨gh, 2, none⟩ = some (.int .u32 c) := blk_cell hbh 2
  have hf0 : W.frozen? ⟨gh, 0, none⟩ = false := blk_frozen hbh 0
  have hf1 : W.frozen? ⟨gh, 1, none⟩ = false := blk_frozen hbh 1
  have hf2 : W.frozen? ⟨gh, 2, none⟩ = false := blk_frozen hbh 2
  have hl0 : W.cell? ⟨gl, 0, none⟩ = some v := blk_cell hbl 0
  have hlf : W.frozen? ⟨gl, 0, none⟩ = false := blk_frozen hbl 0
  have he0 : W.cell? ⟨ge, 0, none⟩ = some (.int .i64 x) := blk_cell hbe 0
  have hef : W.frozen? ⟨ge, 0, none⟩ = false := blk_frozen hbe 0
  have BHW := Aside0.mk hbh
  have BLW := Aside0.mk hbl
  have BEW := Aside0.mk hbe
  clear hbx hbh hbl hbe
  go_region
  all_goals
    refine ⟨rfl, _, rfl, .tuple #[], ?_, rfl, rfl, ?_, ?_, ?_, ?_⟩
    · simp [results, Try.results37, go_sem]
    · exact (below_set (below_set (below_set (below_set (below_set HBW.out G1.out) G1.out) G1.out) G2.out) G3.out).drew
    · rw [show ∀ X : World, X.drew.heap = X.heap from fun _ => rfl]
      exact blk_far (blk_far (blk_put (blk_put (blk_put BHW.out 0 _ rfl) 1 _ rfl) 2 _ rfl) N1.out _) N2.out _
    · rw [show ∀ X : World, X.drew.heap = X.heap from fun _ => rfl]
      exact blk_far (blk_put (blk_far (blk_far (blk_far BLW.out (Ne.symm N1.out) _) (Ne.symm N1.out) _) (Ne.symm N1.out) _) 0 _ rfl) N3.out _
    · rw [show ∀ X : World, X.drew.heap = X.heap from fun _ => rfl]
      exact blk_put (blk_far (blk_far (blk_far (blk_far BEW.out (Ne.symm N2.out) _) (Ne.symm N2.out) _) (Ne.symm N2.out) _) (Ne.symm N3.out) _) 0 _ rfl
end Go.Proofs.Ytaahkggbjpdofaa.M
end
section
/- The reader's chunks: told with its faults. -/
namespace Go.Proofs.Ytaahkggbjpdofaa.M
open Go.RowKit Go.Proofs.YtaahkggbjpdofaaW.PrintWords Go.Proofs.YtaahkggbjpdofaaW.PrintLast Go.Proofs.YtaahkggbjpdofaaW.PrintMore
open Go.Proofs.Ytaahkggbjpdofaa.Pure
set_option linter.unusedVariables false
set_option linter.unusedSimpArgs false
theorem read_okD {F : Nat} {t fl : Int} {lv : List Int} (c : S29) (pc : Nat) (w0 wz : World) (hr : ReadC F t fl lv (.ok c)) (A : Option Addr) (cp : Nat) (hB : Below w0.heap.size w0 wz) (hcl : lv.length ≤ cp) (hC : Kd.C (Kd.int .u8) w0 A lv.length lv) (hp0 : w0.heap.size ≤ pc) (hpc : wz.heap[pc]? = some (.cells #[.int .u8 t, .int .u8 fl, .int .u32 0, .int .u16 0, .int .u16 0, .int .u32 0, .int .u32 0, .int .u32 0, .int .u16 0, .int .u16 0, .slice none 0 0, .slice none 0 0, .slice none 0 0, .slice none 0 0] 29 (0, 0))) :
    Calls Try.prog F #[.agg #[.pointer (some ⟨pc, 0, none⟩)], .pointer (some ⟨wz.heap.size, 0, none⟩)] (wz.alloc (.cells #[.slice A lv.length cp] 73 (0, 0))).drew fun x w' => x = .returned (.tuple #[]) ∧ (∃ A10 A11 A12 A13 c10 c11 c12 c13, w'.heap[pc]? = some (.cells #[.int .u8 c.f0, .int .u8 c.f1, .int .u32 c.f2, .int .u16 c.f3, .int .u16 c.f4, .int .u32 c.f5, .int .u32 c.f6, .int .u32 c.f7, .int .u16 c.f8, .int .u16 c.f9, .slice A10 c.f10.length c10, .slice A11 c.f11.length c11, .slice A12 c.f12.length c12, .slice A13 c.f13.length c13] 29 (0, 0)) ∧ Kd.R k101 101 w' wz.heap.size (fun _ => True) (.slice A10 c.f10.length c10) c.f10 ∧ Kd.R (Kd.int .u32) 22 w' wz.heap.size (fun _ => True) (.slice A11 c.f11.length c11) c.f11 ∧ Kd.R k48 48 w' wz.heap.size (fun _ => True) (.slice A12 c.f12.length c12) c.f12 ∧ Kd.R (Kd.int .u8) 5 w' wz.heap.size (fun _ => True) (.slice A13 c.f13.length c13) c.f13) ∧ Below w0.heap.size w0 w' ∧ Kept wz w' (fun k => k = pc) :=
  read_ok hr pc A cp w0 wz _ hB (below_alloc (Below.refl _ _) _).drew (blk_new wz _) hcl hC hp0 hpc
theorem read_badD {F : Nat} {t fl : Int} {lv : List Int} (e : Int) (pc : Nat) (w0 wz : World) (hr : ReadC F t fl lv (.error e)) (A : Option Addr) (cp : Nat) (hB : Below w0.heap.size w0 wz) (hcl : lv.length ≤ cp) (hC : Kd.C (Kd.int .u8) w0 A lv.length lv) (hp0 : w0.heap.size ≤ pc) (hpc : wz.heap[pc]? = some (.cells #[.int .u8 t, .int .u8 fl, .int .u32 0, .int .u16 0, .int .u16 0, .int .u32 0, .int .u32 0, .int .u32 0, .int .u16 0, .int .u16 0, .slice none 0 0, .slice none 0 0, .slice none 0 0, .slice none 0 0] 29 (0, 0))) :
    Calls Try.prog F #[.agg #[.pointer (some ⟨pc, 0, none⟩)], .pointer (some ⟨wz.heap.size, 0, none⟩)] (wz.alloc (.cells #[.slice A lv.length cp] 73 (0, 0))).drew fun x w' => x = .panicked [{ v := faultV e, recovered := false }] ∧ Below w0.heap.size w0 w' :=
  read_bad hr pc A cp w0 wz _ hB (below_alloc (Below.refl _ _) _).drew (blk_new wz _) hcl hC hp0 hpc
theorem numtop {l : List Int} (h : Bytes l) (hl : l.length = 4) : octet_Num.f 9 l 2 2 = some (numN (l.drop 2) 2, 0) := by
  rw [num_f l 2 2 (by omega) h (i64_wf (by decide) (by decide)) (i64_wf (by decide) (by decide)) (Nat.le_refl _)]
  unfold numS numN
  rw [if_pos (by omega), if_pos (by omega), if_pos (by omega)]
  rfl
attribute [local go_sem] max2_int min2_int max_two min_two
set_option maxHeartbeats 8000000 in
set_option maxRecDepth 100000 in
theorem chunks_calls (g : Nat) (l : List Int) (w0 w : World) (hB : Below w0.heap.size w0 w) (hx : RdrOf w0 w g l) (hb : Bytes l) (hl : l.length ≤ 65536) :
    Calls Try.prog 41 #[.pointer (some ⟨g, 0, none⟩)] w fun x w' => Below w0.heap.size w0 w' ∧ Kept w w' (fun k => k = g) ∧ ChunksOut w w' x (chunksV (l.length + 1) l []) := by
  have HB := Aside0.mk hB
  have HX := Aside0.mk hx
  have HBY := Aside0.mk hb
  have HL := Aside0.mk hl
  have HGL := Aside0.mk hx.lt
  have OKG := Aside0.mk (show ∀ k, w.heap.size ≤ k → ¬ k = g from fun k hk e => by have := HGL.out; omega)
  clear hB hx hb hl
  go_enter Try.func41, Try.ntmps41
  go_wp2
  go_loopg [3] (l.length + 1) (fun gk v3 wr => ∃ lr : List Int, ∃ out : List S29, Aside0 (chunksV gk lr out = chunksV (l.length + 1) l []) ∧ Aside0 (lr.length < gk) ∧ Aside0 (lr.length ≤ l.length) ∧ Aside0 (Bytes lr) ∧ Aside0 (out.length ≤ 32) ∧ Aside0 (Kd.R k29 29 wr w.heap.size (fun k_ => w.heap.size ≤ k_) v3 out) ∧ Aside0 (RdrOf w0 wr g lr) ∧ Aside0 (Below w0.heap.size w0 wr) ∧ Aside0 (Kept w wr (fun k => k = g)))
  case atStart => exact ⟨l, [], ⟨rfl⟩, ⟨by omega⟩, ⟨Nat.le_refl _⟩, HBY, ⟨by decide⟩, ⟨Kd.R_nil _ _ _ _ _⟩, HX, HB, ⟨Kept.refl _ _⟩⟩
  case round =>
    obtain ⟨lr, out, HP, HGK, HLR, HBR, HOL, HO, HXR, HBB, HKK⟩ := hrel
    cases gk with
    | zero => exact absurd HGK.out (by omega)
    | succ gk =>
    obtain ⟨l4, hl4⟩ : ∃ l4, l4 = lr.drop 4 := ⟨_, rfl⟩
    obtain ⟨n, hn⟩ : ∃ n, n = numN (lr.drop 2) 2 := ⟨_, rfl⟩
    obtain ⟨y, hy⟩ : ∃ y, y = lr.take 4 := ⟨_, rfl⟩
    have HL4 := Aside0.mk (show l4 = lr.drop (4 : Int).toNat from hl4)
    have HYE := Aside0.mk (show y = lr.take (4 : Int).toNat from hy)
    have HN := Aside0.mk hn
    have HNR := Aside0.mk (show 0 ≤ n ∧ n < 65536 by rw [hn]; exact num2_range (HBR.out.drop 2))
    have HY4 := Aside0.mk (show l4.length = lr.length - 4 by rw [hl4, List.length_drop])
    have HS := Aside0.mk (show chunksV (gk + 1) lr out = if lr.length = 0 then .ok out else if lr.length < 4 then .error 3 else if n < 4 then .error 4 else if lr.length < (n.toNat + 3) / 4 * 4 then .error 3 else if 32 ≤ out.length then .error 6 else thenV (oneV (rd lr 0) (rd lr 1) ((lr.drop 4).take (n.toNat - 4))) fun c => chunksV gk (lr.drop ((n.toNat + 3) / 4 * 4)) (out ++ [c]) by rw [chunksV, hn])
    by_cases e0 : lr.length = 0
    · have HE := Aside0.mk e0
      have b0 : decide (0 < lr.length) = false := decide_eq_false (by omega)
      have HB0 := Aside0.mk b0
      clear e0 b0 hl4 hn hy
      go_wp2_with (first | (go_at_call 58; (with_reducible refine (left_calls g lr false w0 _ HXR.out HB0.out).mono ?_); rintro e w2 ⟨rfl, hw2⟩; have hw2 := hw2.symm; subst hw2))
      go_ret
      refine ⟨HBB.out, HKK.out, ?_⟩
      rw [← HP.out, HS.out, if_pos HE.out]
      exact ⟨_, rfl, Kd.R_mono HO.out (fun _ _ => trivial)⟩
    have b0 : decide (0 < lr.length) = true := decide_eq_true (by omega)
    have HB0 := Aside0.mk b0
    have HE := Aside0.mk (show ¬ lr.length = 0 by omega)
    clear b0 e0
    by_cases ef : lr.length < 4
    · have HF := Aside0.mk ef
      clear ef hl4 hn hy
      go_wp2_with (first | (go_at_call 58; (with_reducible refine (left_calls g lr true w0 _ HXR.out HB0.out).mono ?_); rintro e w2 ⟨rfl, hw2⟩; have hw2 := hw2.symm; subst hw2) | (go_at_call 57; (with_reducible refine (take_bad g lr 4 3 w0 _ HXR.out (by have := HF.out; omega)).mono ?_); rintro e w3 ⟨rfl, hw3⟩; have hw3 := hw3.symm; subst hw3))
      refine ⟨rfl, HBB.out, HKK.out, ?_⟩
      rw [← HP.out, HS.out, if_neg HE.out, if_pos HF.out]
      rfl
    have HF := Aside0.mk (show ¬ lr.length < 4 by omega)
    have HYL := Aside0.mk (show y.length = 4 by rw [hy, List.length_take]; omega)
    have HY0 := Aside0.mk (show rd y 0 = rd lr 0 by rw [hy]; unfold rd; rw [show (0 : Int).toNat = 0 from rfl]; simp [List.getD_eq_getElem?_getD, List.getElem?_take])
    have HY1 := Aside0.mk (show rd y 1 = rd lr 1 by rw [hy]; unfold rd; rw [show (1 : Int).toNat = 1 from rfl]; simp [List.getD_eq_getElem?_getD, List.getElem?_take])
    have HNF := Aside0.mk (show octet_Num.f 9 y 2 2 = some (n, 0) by
      rw [numtop (by rw [hy]; exact HBR.out.take 4) HYL.out, hn, hy]
      unfold numN
      rw [List.take_drop, List.take_take]
      simp [List.take_drop])
    have H40 := Aside0.mk (show (0 : Int) ≤ 4 by decide)
    have H44 := Aside0.mk (show (4 : Int) ≤ (lr.length : Int) by omega)
    clear ef hl4 hn hy
    by_cases c1 : n < 4
    · have c1b : decide (n ≥ 4) = false := decide_eq_false (by omega)
      have c1c : decide (4 ≤ n) = false := decide_eq_false (by omega)
      have HC1_ := Aside0.mk c1
      clear c1
      go_wp2_with (first | (go_at_call 58; (with_reducible refine (left_calls g lr true w0 _ HXR.out HB0.out).mono ?_); rintro e w2 ⟨rfl, hw2⟩; have hw2 := hw2.symm; subst hw2) | (go_at_call 57; (with_reducible refine (take_y g lr y 4 3 w0 _ HYE.out HBB.out HXR.out H40.out H44.out).mono ?_); rintro e w1 ⟨A1, c1, rfl, hc1, hC1, hx1, hb1, hk1⟩; obtain ⟨ad1, e1, hp0⟩ := Kd.at_int (Kd.C_below hC1 hb1) 0 (by decide) (by rw [HYL.out]; decide); subst e1; clear hp0; have HC1 := Aside0.mk hC1; have HD1 := Aside0.mk hc1; have HB1 := Aside0.mk hb1; have HX1 := Aside0.mk (show RdrOf w0 w1 g l4 by rw [HL4.out]; exact hx1); have HK1 := Aside0.mk (Kept.then_ HKK.out hk1 (fun k hk => .inl hk)); have HO1 := Aside0.mk (Kd.R_kept HO.out hk1 (fun k hk => by exact OKG.out k hk)); clear hC1 hc1 hb1 hx1 hk1) | (go_at_call 56; (with_reducible refine (octet_Num.calls 9 (some ad1) c1 y 2 2 n 0 w1 (Kd.C_below HC1.out HB1.out) HD1.out HNF.out).mono ?_); rintro e w2 ⟨rfl, hd⟩; have HB2 := Aside0.mk (below_step HB1.out hd.below); have HX2 := Aside0.mk (HX1.out.below hd.below); have HK2 := Aside0.mk (HK1.out.below hd.below); have HO2 := Aside0.mk (Kd.R_below HO1.out hd.below); clear hd) | (go_at_call 38; (with_reducible refine (must_bad _ _).mono ?_); rintro e wm ⟨rfl, hwm⟩; have hwm := hwm.symm; subst hwm))
      refine ⟨rfl, HB2.out, HK2.out, ?_⟩
      rw [← HP.out, HS.out, if_neg HE.out, if_neg HF.out, if_pos HC1_.out]
      rfl
    have c1b : decide (n ≥ 4) = true := decide_eq_true (by omega)
    have c1c : decide (4 ≤ n) = true := decide_eq_true (by omega)
    have HC1_ := Aside0.mk (show 4 ≤ n by omega)
    clear c1
    obtain ⟨pq, hpq⟩ : ∃ pq, pq = (n + 3) / 4 * 4 := ⟨_, rfl⟩
    obtain ⟨m, hm⟩ : ∃ m, m = pq - 4 := ⟨_, rfl⟩
    have HPQ := Aside0.mk hpq
    have HN0 := Aside0.mk (show 0 ≤ n by have := HNR.out; omega)
    have HN1 := Aside0.mk (show n ≤ 1000000 by have := HNR.out; omega)
    have hwn : wrap64 n = n := w64 (by have := HNR.out; omega) (by have := HNR.out; omega)
    have hwni : IntKind.i64.wrap n = n := (i64_w _).trans hwn
    have hwm : wrap64 (pq - 4) = m := by rw [w64 (by have := HNR.out; omega) (by have := HNR.out; omega), hm]
    have hwmi : IntKind.i64.wrap (pq - 4) = m := (i64_w _).trans hwm
    have HPN := Aside0.mk (show pq.toNat = (n.toNat + 3) / 4 * 4 by have := HNR.out; omega)
    have HPM := Aside0.mk (show pq = m + 4 by omega)
    have HM0 := Aside0.mk (show 0 ≤ m by have := HC1_.out; omega)
    have HMN := Aside0.mk (show n - 4 ≤ m by omega)
    clear hpq hm
    by_cases c2 : lr.length < (n.toNat + 3) / 4 * 4
    · have HC2_ := Aside0.mk c2
      have HMB := Aside0.mk (show (l4.length : Int) < m by have h1 := HY4.out; have h2 := HF.out; have h3 := HPN.out; have h4 := HPM.out; omega)
      clear c2
      go_wp2_with (first | (go_at_call 58; (with_reducible refine (left_calls g lr true w0 _ HXR.out HB0.out).mono ?_); rintro e w2 ⟨rfl, hw2⟩; have hw2 := hw2.symm; subst hw2) | (go_at_call 57; (with_reducible refine (take_y g lr y 4 3 w0 _ HYE.out HBB.out HXR.out H40.out H44.out).mono ?_); rintro e w1 ⟨A1, c1, rfl, hc1, hC1, hx1, hb1, hk1⟩; obtain ⟨ad1, e1, hp0⟩ := Kd.at_int (Kd.C_below hC1 hb1) 0 (by decide) (by rw [HYL.out]; decide); subst e1; clear hp0; have HC1 := Aside0.mk hC1; have HD1 := Aside0.mk hc1; have HB1 := Aside0.mk hb1; have HX1 := Aside0.mk (show RdrOf w0 w1 g l4 by rw [HL4.out]; exact hx1); have HK1 := Aside0.mk (Kept.then_ HKK.out hk1 (fun k hk => .inl hk)); have HO1 := Aside0.mk (Kd.R_kept HO.out hk1 (fun k hk => by exact OKG.out k hk)); clear hC1 hc1 hb1 hx1 hk1) | (go_at_call 56; (with_reducible refine (octet_Num.calls 9 (some ad1) c1 y 2 2 n 0 w1 (Kd.C_below HC1.out HB1.out) HD1.out HNF.out).mono ?_); rintro e w2 ⟨rfl, hd⟩; have HB2 := Aside0.mk (below_step HB1.out hd.below); have HX2 := Aside0.mk (HX1.out.below hd.below); have HK2 := Aside0.mk (HK1.out.below hd.below); have HO2 := Aside0.mk (Kd.R_below HO1.out hd.below); clear hd) | (go_at_call 38; (with_reducible refine (must_ok _ _).mono ?_); rintro e wm ⟨rfl, hwm⟩; have hwm := hwm.symm; subst hwm) | (go_at_call 30; (with_reducible refine (padded_is n pq _ HPQ.out HN0.out HN1.out).mono ?_); rintro e wp ⟨rfl, hwp⟩; have hwp := hwp.symm; subst hwp) | (go_at_call 57; (with_reducible refine (take_bad g l4 m 3 w0 w2 HX2.out HMB.out).mono ?_); rintro e w3 ⟨rfl, hw3⟩; have hw3 := hw3.symm; subst hw3))
      refine ⟨rfl, HB2.out, HK2.out, ?_⟩
      rw [← HP.out, HS.out, if_neg HE.out, if_neg HF.out, if_neg (Int.not_lt.mpr HC1_.out), if_pos HC2_.out]
      rfl
    have HC2_ := Aside0.mk (show ¬ lr.length < (n.toNat + 3) / 4 * 4 by omega)
    have HM4 := Aside0.mk (show m ≤ (l4.length : Int) by have h1 := HY4.out; have h2 := HF.out; have h3 := HPN.out; have h4 := HPM.out; omega)
    obtain ⟨z, hz⟩ : ∃ z, z = l4.take m.toNat := ⟨_, rfl⟩
    obtain ⟨l5, hl5⟩ : ∃ l5, l5 = l4.drop m.toNat := ⟨_, rfl⟩
    have HZE := Aside0.mk hz
    have HL5 := Aside0.mk hl5
    have HZL := Aside0.mk (show (z.length : Int) = m by rw [hz, List.length_take]; have := HM4.out; have := HM0.out; omega)
    clear c2 hz hl5
    obtain ⟨A3', c3', he3⟩ := Kd.R_slice HO.out
    subst he3
    by_cases c4 : 32 ≤ out.length
    · have c4b : decide ((out.length : Int) < 32) = false := decide_eq_false (by omega)
      have HC4_ := Aside0.mk c4
      clear c4
      go_wp2_with (first | (go_at_call 58; (with_reducible refine (left_calls g lr true w0 _ HXR.out HB0.out).mono ?_); rintro e w2 ⟨rfl, hw2⟩; have hw2 := hw2.symm; subst hw2) | (go_at_call 57; (with_reducible refine (take_y g lr y 4 3 w0 _ HYE.out HBB.out HXR.out H40.out H44.out).mono ?_); rintro e w1 ⟨A1, c1, rfl, hc1, hC1, hx1, hb1, hk1⟩; obtain ⟨ad1, e1, hp0⟩ := Kd.at_int (Kd.C_below hC1 hb1) 0 (by decide) (by rw [HYL.out]; decide); subst e1; clear hp0; have HC1 := Aside0.mk hC1; have HD1 := Aside0.mk hc1; have HB1 := Aside0.mk hb1; have HX1 := Aside0.mk (show RdrOf w0 w1 g l4 by rw [HL4.out]; exact hx1); have HK1 := Aside0.mk (Kept.then_ HKK.out hk1 (fun k hk => .inl hk)); have HO1 := Aside0.mk (Kd.R_kept HO.out hk1 (fun k hk => by exact OKG.out k hk)); clear hC1 hc1 hb1 hx1 hk1) | (go_at_call 56; (with_reducible refine (octet_Num.calls 9 (some ad1) c1 y 2 2 n 0 w1 (Kd.C_below HC1.out HB1.out) HD1.out HNF.out).mono ?_); rintro e w2 ⟨rfl, hd⟩; have HB2 := Aside0.mk (below_step HB1.out hd.below); have HX2 := Aside0.mk (HX1.out.below hd.below); have HK2 := Aside0.mk (HK1.out.below hd.below); have HO2 := Aside0.mk (Kd.R_below HO1.out hd.below); clear hd) | (go_at_call 38; (with_reducible refine (must_ok 4 _).mono ?_); rintro e wm ⟨rfl, hwm⟩; have hwm := hwm.symm; subst hwm) | (go_at_call 30; (with_reducible refine (padded_is n pq _ HPQ.out HN0.out HN1.out).mono ?_); rintro e wp ⟨rfl, hwp⟩; have hwp := hwp.symm; subst hwp) | (go_at_call 57; (with_reducible refine (take_y g l4 z m 3 w0 w2 HZE.out HB2.out HX2.out HM0.out HM4.out).mono ?_); rintro e w3 ⟨A3, c3, rfl, hc3, hC3, hx3, hb3, hk3⟩; have HC3 := Aside0.mk hC3; have HD3 := Aside0.mk hc3; have HB3 := Aside0.mk hb3; have HX3 := Aside0.mk (show RdrOf w0 w3 g l5 by rw [HL5.out]; exact hx3); have HK3 := Aside0.mk (Kept.then_ HK2.out hk3 (fun k hk => .inl hk)); have HO3 := Aside0.mk (Kd.R_kept HO2.out hk3 (fun k hk => by exact OKG.out k hk)); clear hC3 hc3 hb3 hx3 hk3) | (go_at_call 38; (with_reducible refine (must_bad _ _).mono ?_); rintro e wm ⟨rfl, hwm⟩; have hwm := hwm.symm; subst hwm))
      refine ⟨rfl, HB3.out, HK3.out, ?_⟩
      rw [← HP.out, HS.out, if_neg HE.out, if_neg HF.out, if_neg (Int.not_lt.mpr HC1_.out), if_neg HC2_.out, if_pos HC4_.out]
      rfl
    have c4b : decide ((out.length : Int) < 32) = true := decide_eq_true (by omega)
    have HC4_ := Aside0.mk (show ¬ 32 ≤ out.length by omega)
    clear c4
    obtain ⟨t, ht⟩ : ∃ t, t = rd lr 0 := ⟨_, rfl⟩
    obtain ⟨fl, hfl⟩ : ∃ fl, fl = rd lr 1 := ⟨_, rfl⟩
    obtain ⟨T, hT⟩ : ∃ T, ofT t = T := ⟨_, rfl⟩
    obtain ⟨lv, hlv⟩ : ∃ lv, lv = (lr.drop 4).take (n.toNat - 4) := ⟨_, rfl⟩
    obtain ⟨F, hK, hR⟩ := read_all t fl lv (by rw [hlv]; exact (HBR.out.drop 4).take _) (by rw [hlv, List.length_take, List.length_drop]; have := HLR.out; have := HL.out; omega)
    rw [hT] at hK
    obtain ⟨ml_, na_, cf_⟩ := hK
    have HT := Aside0.mk hT
    have HLV := Aside0.mk (show lv = z.take (n - 4).toNat by rw [hlv, HZE.out, HL4.out, List.take_take]; have := HMN.out; have := HC1_.out; congr 1; omega)
    have HLVL := Aside0.mk (show lv.length = (n - 4).toNat by rw [hlv, List.length_take, List.length_drop]; have h1 := HC2_.out; have h2 := HC1_.out; have h3 := HF.out; omega)
    have HSP := Aside0.mk (show chunksV (gk + 1) lr out = thenV (oneV t fl lv) fun c => chunksV gk (lr.drop ((n.toNat + 3) / 4 * 4)) (out ++ [c]) by rw [HS.out, if_neg HE.out, if_neg HF.out, if_neg (Int.not_lt.mpr HC1_.out), if_neg HC2_.out, if_neg HC4_.out, ht, hfl, hlv])
    have HY0 := Aside0.mk (show rd y 0 = t by rw [HY0.out, ht])
    have HY1 := Aside0.mk (show rd y 1 = fl by rw [HY1.out, hfl])
    have hwu : IntKind.u64.wrap (n - 4) = n - 4 := u64w (by have h2 := HC1_.out; omega) (by have h1 := HNR.out; omega)
    clear hT ht hfl hlv
    go_wp2_with (first | (go_at_call 58; (with_reducible refine (left_calls g lr true w0 _ HXR.out HB0.out).mono ?_); rintro e w2 ⟨rfl, hw2⟩; have hw2 := hw2.symm; subst hw2) | (go_at_call 57; (with_reducible refine (take_y g lr y 4 3 w0 _ HYE.out HBB.out HXR.out H40.out H44.out).mono ?_); rintro e w1 ⟨A1, c1, rfl, hc1, hC1, hx1, hb1, hk1⟩; obtain ⟨ad1, e1, hp0⟩ := Kd.at_int (Kd.C_below hC1 hb1) 0 (by decide) (by rw [HYL.out]; decide); subst e1; clear hp0; have HC1 := Aside0.mk hC1; have HD1 := Aside0.mk hc1; have HB1 := Aside0.mk hb1; have HX1 := Aside0.mk (show RdrOf w0 w1 g l4 by rw [HL4.out]; exact hx1); have HK1 := Aside0.mk (Kept.then_ HKK.out hk1 (fun k hk => .inl hk)); have HO1 := Aside0.mk (Kd.R_kept HO.out hk1 (fun k hk => by exact OKG.out k hk)); clear hC1 hc1 hb1 hx1 hk1) | (go_at_call 56; (with_reducible refine (octet_Num.calls 9 (some ad1) c1 y 2 2 n 0 w1 (Kd.C_below HC1.out HB1.out) HD1.out HNF.out).mono ?_); rintro e w2 ⟨rfl, hd⟩; have HB2 := Aside0.mk (below_step HB1.out hd.below); have HX2 := Aside0.mk (HX1.out.below hd.below); have HK2 := Aside0.mk (HK1.out.below hd.below); have HO2 := Aside0.mk (Kd.R_below HO1.out hd.below); clear hd) | (go_at_call 38; (with_reducible refine (must_ok _ _).mono ?_); rintro e wm ⟨rfl, hwm⟩; have hwm := hwm.symm; subst hwm) | (go_at_call 30; (with_reducible refine (padded_is n pq _ HPQ.out HN0.out HN1.out).mono ?_); rintro e wp ⟨rfl, hwp⟩; have hwp := hwp.symm; subst hwp) | (go_at_call 57; (with_reducible refine (take_y g l4 z m 3 w0 w2 HZE.out HB2.out HX2.out HM0.out HM4.out).mono ?_); rintro e w3 ⟨A3, c3, rfl, hc3, hC3, hx3, hb3, hk3⟩; have HC3 := Aside0.mk hC3; have HD3 := Aside0.mk hc3; have HB3 := Aside0.mk hb3; have HX3 := Aside0.mk (show RdrOf w0 w3 g l5 by rw [HL5.out]; exact hx3); have HK3 := Aside0.mk (Kept.then_ HK2.out hk3 (fun k hk => .inl hk)); have HO3 := Aside0.mk (Kd.R_kept HO2.out hk3 (fun k hk => by exact OKG.out k hk)); clear hC3 hc3 hb3 hx3 hk3))
    obtain ⟨adx, ex, hq0⟩ := Kd.at_int (Kd.C_below HC1.out HB3.out) 0 (by decide) (by rw [HYL.out]; decide)
    injection ex with ex
    subst ex
    obtain ⟨adx, ex, hq1⟩ := Kd.at_int (Kd.C_below HC1.out HB3.out) 1 (by decide) (by rw [HYL.out]; decide)
    injection ex with ex
    subst ex
    rw [HY0.out] at hq0
    rw [HY1.out] at hq1
    simp only [show (0 : Int).toNat = 0 from rfl, show (1 : Int).toNat = 1 from rfl, Go.Addr.add, Nat.one_ne_zero, ↓reduceIte] at hq0 hq1
    have hyl := HYL.out
    have hqA0 : ∀ o, (w3.alloc o).cell? ad1 = some (.int .u8 t) := fun o => pw_cell_below (below_alloc (Below.refl _ _) o) hq0
    have hqA1 : ∀ o, (w3.alloc o).cell? ⟨ad1.block, ad1.off + 1, none⟩ = some (.int .u8 fl) := fun o => pw_cell_below (below_alloc (Below.refl _ _) o) hq1
    go_region
    have HPC := Aside0.mk (show w0.heap.size ≤ w3.heap.size from HB3.out.size)
    have HPW := Aside0.mk (show w.heap.size ≤ w3.heap.size from HK3.out.1)
    refine exit_cut (P := Try.prog) (fun wz => wz.heap[w3.heap.size]? = some (.cells #[.int .u8 t, .int .u8 fl, .int .u32 0, .int .u16 0, .int .u16 0, .int .u32 0, .int .u32 0, .int .u32 0, .int .u16 0, .int .u16 0, .slice none 0 0, .slice none 0 0, .slice none 0 0, .slice none 0 0] 29 (0, 0)) ∧ Below w0.heap.size w0 wz ∧ Below w3.heap.size w3 wz ∧ RdrOf w0 wz g l5 ∧ Kept w wz (fun k => k = g) ∧ Kd.R k29 29 wz w.heap.size (fun k => w.heap.size ≤ k ∧ k < w3.heap.size) (.slice A3' out.length c3') out) ⟨blk_new w3 _, below_step HB3.out (below_alloc (Below.refl _ _) _).drew, (below_alloc (Below.refl _ _) _).drew, HX3.out.below (below_alloc (Below.refl _ _) _).drew, HK3.out.below (below_alloc (Below.refl _ _) _).drew, Kd.R_below (Kd.R_mono (Kd.R_bound HO3.out) (fun k hk => ⟨hk.1, hk.2.2.1⟩)) (below_alloc (Below.refl _ _) _).drew⟩ ?_
    generalize hpcd : w3.heap.size = pc at HPC HPW ⊢
    rintro wz ⟨hbx, hbz, hb3z, hxz, hkz, hoz⟩
    rw [← hpcd] at hb3z
    have HB3Z := Aside0.mk hb3z
    have HPCD := Aside0.mk (show w3.heap.size ≤ pc by omega)
    clear hpcd hb3z
    clear hq0 hq1 hqA0 hqA1 hyl
    have HKZ := Aside0.mk hkz
    have HBZ := Aside0.mk hbz
    have HXZ := Aside0.mk hxz
    have HBX := Aside0.mk hbx
    have HOZ := Aside0.mk hoz
    have hcut : ∀ W : World, (Instr.slice 27 (.slice A3 z.length c3) none (some (.int .u64 (n - 4))) none).run Try.prog W = .ok (.slice A3 lv.length c3) W := by
      intro W
      obtain ⟨i0, hi0, _, hsz, _⟩ := info_parts st_info
      rw [HLVL.out]
      exact cut_to (P := Try.prog) 27 5 .u64 Try.underlying27 hi0 A3 z.length c3 (n - 4) (by have := HC1_.out; omega) (by rw [HZL.out]; exact HMN.out) HD3.out W
    have HCL := Aside0.mk (show lv.length ≤ c3 by have h1 := HLVL.out; have h2 := HD3.out; have h3 := HZL.out; have h4 := HMN.out; have h5 := HC1_.out; omega)
    have HCV := Aside0.mk (show Kd.C (Kd.int .u8) w0 A3 lv.length lv by
      have h := Kd.C_take (m := (n - 4).toNat) HC3.out (by have h3 := HZL.out; have h4 := HMN.out; have h5 := HC1_.out; omega)
      rw [← HLV.out] at h
      exact h)
    have HPG := Aside0.mk (show w.heap.size ≤ pc from HPW.out)
    have hc0 : wz.cell? ⟨pc, 0, none⟩ = some (.int .u8 t) := blk_cell hbx 0
    have hc1 : wz.cell? ⟨pc, 1, none⟩ = some (.int .u8 fl) := blk_cell hbx 1
    have hc2 : wz.cell? ⟨pc, 2, none⟩ = some (.int .u32 0) := blk_cell hbx 2
    have hc3 : wz.cell? ⟨pc, 3, none⟩ = some (.int .u16 0) := blk_cell hbx 3
    have hc4 : wz.cell? ⟨pc, 4, none⟩ = some (.int .u16 0) := blk_cell hbx 4
    have hc5 : wz.cell? ⟨pc, 5, none⟩ = some (.int .u32 0) := blk_cell hbx 5
    have hc6 : wz.cell? ⟨pc, 6, none⟩ = some (.int .u32 0) := blk_cell hbx 6
    have hc7 : wz.cell? ⟨pc, 7, none⟩ = some (.int .u32 0) := blk_cell hbx 7
    have hc8 : wz.cell? ⟨pc, 8, none⟩ = some (.int .u16 0) := blk_cell hbx 8
    have hc9 : wz.cell? ⟨pc, 9, none⟩ = some (.int .u16 0) := blk_cell hbx 9
    have hc10 : wz.cell? ⟨pc, 10, none⟩ = some (.slice none 0 0) := blk_cell hbx 10
    have hc11 : wz.cell? ⟨pc, 11, none⟩ = some (.slice none 0 0) := blk_cell hbx 11
    have hc12 : wz.cell? ⟨pc, 12, none⟩ = some (.slice none 0 0) := blk_cell hbx 12
    have hc13 : wz.cell? ⟨pc, 13, none⟩ = some (.slice none 0 0) := blk_cell hbx 13
    clear hbx hbz hxz hkz hoz
    cases hone : oneV t fl lv with
    | error e =>
      have HR := Aside0.mk (show ReadC F t fl lv (.error e) by rw [← hone]; exact hR)
      have HSE := Aside0.mk (show chunksV (gk + 1) lr out = .error e by rw [HSP.out, hone]; rfl)
      have HCW := Aside0.mk (Kd.C_below HCV.out HB3.out)
      clear hone hR
      go_wp2
      first | (go_region_with (first | (go_at_call 25; (with_reducible refine (of_all T pc t _ HT.out ?hc0).mono ?_); (case hc0 => first | exact hc0 | exact pw_cell_below (below_alloc (Below.refl _ _) _) hc0); rintro e w8 ⟨rfl, hw8⟩; subst hw8) | ((first | (with_reducible refine (read_badA e pc w3 wz HR.out A3 c3 HB3Z.out HCL.out HCW.out HPCD.out HBX.out).mono ?_) | (with_reducible refine (read_badD e pc w3 wz HR.out A3 c3 HB3Z.out HCL.out HCW.out HPCD.out HBX.out).mono ?_) | (with_reducible refine (read_badB e pc w3 wz HR.out A3 c3 HB3Z.out HCL.out HCW.out HPCD.out HBX.out).mono ?_)); rintro e5 w5 ⟨rfl, hb5⟩; have HB5 := Aside0.mk (below_step HB3.out hb5); have HK5 := Aside0.mk (HK3.out.below hb5); refine wpAny_hook (P := Try.prog) (w := w5) ?_))) | fail
      all_goals
        refine ⟨rfl, HB5.out, HK5.out, ?_⟩
        rw [← HP.out, HSE.out]
        rfl
    | ok ch =>
      have HR := Aside0.mk (show ReadC F t fl lv (.ok ch) by rw [← hone]; exact hR)
      have HSE := Aside0.mk (show chunksV (gk + 1) lr out = chunksV gk (lr.drop ((n.toNat + 3) / 4 * 4)) (out ++ [ch]) by rw [HSP.out, hone]; rfl)
      clear hone hR
      obtain ⟨FF, hF⟩ : ∃ F : Act → World → Prop, ∀ a' w', F a' w' ↔ ∃ x4 x5 x6 x7 x9 x10 x11 x12 x13 x14 x15 x16 x17 x18 x19 x20 x21 x22 x23 x24 x25 x26 x27 x28 x29 x30 x31 x32 x33 x34 x35 x36 x37 x38 x39 x40 x41 x42 x43 x44 x45 x46 x47 x48 x49 x50 x51 x52 : Value, a' = { tmps := #[.pointer (some ⟨g, 0, none⟩), undef, .slice none 0 0, .slice A3' out.length c3', x4, x5, x6, x7, .pointer (some ⟨pc, 0, none⟩), x9, x10, x11, x12, x13, x14, x15, x16, x17, x18, x19, x20, x21, x22, x23, x24, x25, x26, x27, x28, x29, x30, x31, x32, x33, x34, x35, x36, x37, x38, x39, x40, x41, x42, x43, x44, x45, x46, x47, x48, x49, x50, x51, x52, undef], defers := [] } ∧ (∃ A10 A11 A12 A13 c10 c11 c12 c13, w'.heap[pc]? = some (.cells #[.int .u8 ch.f0, .int .u8 ch.f1, .int .u32 ch.f2, .int .u16 ch.f3, .int .u16 ch.f4, .int .u32 ch.f5, .int .u32 ch.f6, .int .u32 ch.f7, .int .u16 ch.f8, .int .u16 ch.f9, .slice A10 ch.f10.length c10, .slice A11 ch.f11.length c11, .slice A12 ch.f12.length c12, .slice A13 ch.f13.length c13] 29 (0, 0)) ∧ Kd.R k101 101 w' wz.heap.size (fun _ => True) (.slice A10 ch.f10.length c10) ch.f10 ∧ Kd.R (Kd.int .u32) 22 w' wz.heap.size (fun _ => True) (.slice A11 ch.f11.length c11) ch.f11 ∧ Kd.R k48 48 w' wz.heap.size (fun _ => True) (.slice A12 ch.f12.length c12) ch.f12 ∧ Kd.R (Kd.int .u8) 5 w' wz.heap.size (fun _ => True) (.slice A13 ch.f13.length c13) ch.f13) ∧ Below w0.heap.size w0 w' ∧ Kept wz w' (fun k => k = pc) := ⟨_, fun _ _ => Iff.rfl⟩
      have HFF := Aside0.mk hF
      clear hF
      go_wp2
      refine region_to FF ?_ ?_
      · intro K1 HQ
        first | (go_region_with (first | (go_at_call 25; (with_reducible refine (of_all T pc t _ HT.out ?hc0).mono ?_); (case hc0 => first | exact hc0 | exact pw_cell_below (below_alloc (Below.refl _ _) _) hc0); rintro e w8 ⟨rfl, hw8⟩; subst hw8) | ((first | (with_reducible refine (read_okA ch pc w0 wz HR.out A3 c3 HBZ.out HCL.out HCV.out HPC.out HBX.out).mono ?_) | (with_reducible refine (read_okD ch pc w0 wz HR.out A3 c3 HBZ.out HCL.out HCV.out HPC.out HBX.out).mono ?_) | (with_reducible refine (read_okB ch pc w0 wz HR.out A3 c3 HBZ.out HCL.out HCV.out HPC.out HBX.out).mono ?_)); rintro e5 w5 ⟨rfl, he5, hb5, hk5⟩; have HE5 := Aside0.mk he5; have HB5 := Aside0.mk hb5; have HK5 := Aside0.mk hk5; clear he5 hb5 hk5))) | fail
        all_goals exact HQ.out _ _ ((HFF.out _ _).2 ⟨_, _, _, _, _, _, _, _, _, _, _, _, _, _, _, _, _, _, _, _, _, _, _, _, _, _, _, _, _, _, _, _, _, _, _, _, _, _, _, _, _, _, _, _, _, _, _, _, rfl, HE5.out, HB5.out, HK5.out⟩)
      intro a' w5 hfw
      obtain ⟨x4, x5, x6, x7, x9, x10, x11, x12, x13, x14, x15, x16, x17, x18, x19, x20, x21, x22, x23, x24, x25, x26, x27, x28, x29, x30, x31, x32, x33, x34, x35, x36, x37, x38, x39, x40, x41, x42, x43, x44, x45, x46, x47, x48, x49, x50, x51, x52, rfl, ⟨A10, A11, A12, A13, c10, c11, c12, c13, hbx, h10, h11, h12, h13⟩, hb5, hk5⟩ := (HFF.out _ _).1 hfw
      clear hfw HFF FF hc0 hc1 hc2 hc3 hc4 hc5 hc6 hc7 hc8 hc9 hc10 hc11 hc12 hc13
      have HZW := Aside0.mk (show w.heap.size ≤ wz.heap.size from HKZ.out.1)
      have HWS := Aside0.mk (show w0.heap.size ≤ w.heap.size from HB.out.size)
      have HG10 := Aside0.mk (Kd.R_mono (Kd.R_bound h10) (fun k hk => hk.2.1))
      have HG11 := Aside0.mk (Kd.R_mono (Kd.R_bound h11) (fun k hk => hk.2.1))
      have HG12 := Aside0.mk (Kd.R_mono (Kd.R_bound h12) (fun k hk => hk.2.1))
      have HG13 := Aside0.mk (Kd.R_mono (Kd.R_bound h13) (fun k hk => hk.2.1))
      have HO5 := Aside0.mk (Kd.R_mono (Kd.R_kept HOZ.out hk5 (fun k hk e => by have h := hk.2; rw [e] at h; exact Nat.lt_irrefl _ h)) (fun k hk => hk.1))
      have HB5 := Aside0.mk hb5
      have HX5 := Aside0.mk (HXZ.out.kept hk5 (fun e => by have h1 := HGL.out; have h2 := HPW.out; omega))
      have HKW := Aside0.mk (Kept.then_ HKZ.out hk5 (fun k hk => .inr (by rw [hk]; exact HPW.out)))
      have HLIM := Aside0.mk (show (out.length + 1) * 128 ≤ 140737488355328 by have := HOL.out; omega)
      have hc0 : w5.cell? ⟨pc, 0, none⟩ = some (.int .u8 ch.f0) := blk_cell hbx 0
      have hc1 : w5.cell? ⟨pc, 1, none⟩ = some (.int .u8 ch.f1) := blk_cell hbx 1
      have hc2 : w5.cell? ⟨pc, 2, none⟩ = some (.int .u32 ch.f2) := blk_cell hbx 2
      have hc3 : w5.cell? ⟨pc, 3, none⟩ = some (.int .u16 ch.f3) := blk_cell hbx 3
      have hc4 : w5.cell? ⟨pc, 4, none⟩ = some (.int .u16 ch.f4) := blk_cell hbx 4
      have hc5 : w5.cell? ⟨pc, 5, none⟩ = some (.int .u32 ch.f5) := blk_cell hbx 5
      have hc6 : w5.cell? ⟨pc, 6, none⟩ = some (.int .u32 ch.f6) := blk_cell hbx 6
      have hc7 : w5.cell? ⟨pc, 7, none⟩ = some (.int .u32 ch.f7) := blk_cell hbx 7
      have hc8 : w5.cell? ⟨pc, 8, none⟩ = some (.int .u16 ch.f8) := blk_cell hbx 8
      have hc9 : w5.cell? ⟨pc, 9, none⟩ = some (.int .u16 ch.f9) := blk_cell hbx 9
      have hc10 : w5.cell? ⟨pc, 10, none⟩ = some (.slice A10 ch.f10.length c10) := blk_cell hbx 10
      have hc11 : w5.cell? ⟨pc, 11, none⟩ = some (.slice A11 ch.f11.length c11) := blk_cell hbx 11
      have hc12 : w5.cell? ⟨pc, 12, none⟩ = some (.slice A12 ch.f12.length c12) := blk_cell hbx 12
      have hc13 : w5.cell? ⟨pc, 13, none⟩ = some (.slice A13 ch.f13.length c13) := blk_cell hbx 13
      clear hbx h10 h11 h12 h13 hb5 hk5
      go_wp2_with (first | ((with_reducible refine gate_builtin (b := .append) (xs := #[.tmp 49, .tmp 51]) rfl ?_); at_builtin; refine Kd.R_append k29 (w0 := w5) w.heap.size rfl (.tmp 49) (.tmp 51) 37 29 (.agg #[(.int .u8 0), (.int .u8 0), (.int .u32 0), (.int .u16 0), (.int .u16 0), (.int .u32 0), (.int .u32 0), (.int .u32 0), (.int .u16 0), (.int .u16 0), (.slice none 0 0), (.slice none 0 0), (.slice none 0 0), (.slice none 0 0)]) 128 rfl Try.underlying37 info29 rfl (by decide) (by omega) (.slice A3' out.length c3') out ch [.int .u8 ch.f0, .int .u8 ch.f1, .int .u32 ch.f2, .int .u16 ch.f3, .int .u16 ch.f4, .int .u32 ch.f5, .int .u32 ch.f6, .int .u32 ch.f7, .int .u16 ch.f8, .int .u16 ch.f9, .slice A10 ch.f10.length c10, .slice A11 ch.f11.length c11, .slice A12 ch.f12.length c12, .slice A13 ch.f13.length c13] (fun k_ => w.heap.size ≤ k_) (fun k_ => wz.heap.size ≤ k_) rfl rfl (k29_mkM _ _ _ ch (Kd.R_lower HG10.out HZW.out) (Kd.R_lower HG11.out HZW.out) (Kd.R_lower HG12.out HZW.out) (Kd.R_lower HG13.out HZW.out)) (fun k hk => ⟨Nat.le_trans HZW.out hk, fun e => absurd (own_lt (Kd.R_own HOZ.out).choose_spec k e.symm) (Nat.not_lt.mpr hk)⟩) (fun k hk => Nat.le_trans HKW.out.1 hk) HO5.out (Below.refl _ _) HKW.out.1 HLIM.out ?_; intro v7 w7 ho7 hb7 hg7 ha7; have HO7 := Aside0.mk ho7; have HX7 := Aside0.mk (HX5.out.under hb7 HGL.out); have HB7 := Aside0.mk (HB5.out.trans (hb7.mono HWS.out)); have HK7 := Aside0.mk (show Kept w w7 (fun k => k = g) from ⟨Nat.le_trans HKW.out.1 hb7.size, fun k hk hn => (hb7.block k hk).trans (HKW.out.2 k hk hn)⟩); clear ho7 hb7 hg7 ha7))
      go_roundg gk
      case measure => omega
      case rel => exact ⟨lr.drop ((n.toNat + 3) / 4 * 4), out ++ [ch], ⟨by rw [← HP.out, HSE.out]⟩, ⟨by rw [List.length_drop]; have := HGK.out; have := HE.out; have := HC1_.out; omega⟩, ⟨by rw [List.length_drop]; have := HLR.out; omega⟩, ⟨HBR.out.drop _⟩, ⟨by rw [List.length_append]; show out.length + 1 ≤ 32; have := HC4_.out; omega⟩, HO7, by rw [show lr.drop ((n.toNat + 3) / 4 * 4) = l5 by rw [HL5.out, HL4.out, List.drop_drop]; have h1 := HPN.out; have h2 := HPM.out; have h3 := HM0.out; congr 1; omega]; exact HX7, HB7, HK7⟩
end Go.Proofs.Ytaahkggbjpdofaa.M
end
section
/- Take in general: the head and the chunks of bytes, or the fault. -/
namespace Go.Proofs.Ytaahkggbjpdofaa.M
open Go.RowKit Go.Proofs.YtaahkggbjpdofaaW.PrintWords Go.Proofs.YtaahkggbjpdofaaW.PrintLast Go.Proofs.YtaahkggbjpdofaaW.PrintMore
open Go.Proofs.Ytaahkggbjpdofaa.Pure
set_option linter.unusedVariables false
set_option linter.unusedSimpArgs false
/-- What Take tells. -/
def TakeOut (w : World) (r1 r2 r3 : Int) (r4 : List S29) (r5 : Int) (e : Ending) (w' : World) : Prop := ∃ v1_ : Value, e = .returned (.tuple #[.agg #[.int .u16 r1, .int .u16 r2, .int .u32 r3], v1_, .int .i64 r5]) ∧ Kd.R k29 29 w' w.heap.size (fun _ => True) v1_ r4 ∧ Below w.heap.size w w'
set_option maxHeartbeats 4000000 in
set_option maxRecDepth 100000 in
theorem take_short (k : Nat) (A0 : Option Addr) (c0 : Nat) (l0 : List Int) (w : World) (hr0 : Kd.C (Kd.int .u8) w A0 l0.length l0) (hc0 : l0.length ≤ c0) (hl : l0.length < 16) :
    Calls Try.prog 18 #[.slice A0 l0.length c0] w (TakeOut w 0 0 0 [] 3) := by
  have hmf : ∀ (fn : Fn) (first cap : Array Value) (w : World), (Instr.makeFunc fn first cap).run Try.prog w = .ok (.func fn first cap) w := fun _ _ _ _ => rfl
  have HR := Aside0.mk hr0
  have HC := Aside0.mk hc0
  have hge : decide ((16 : Int) ≤ (l0.length : Int)) = false := decide_eq_false (by omega)
  have hge2 : decide ((l0.length : Int) ≥ 16) = false := decide_eq_false (by omega)
  have hge' : decide (16 ≤ l0.length) = false := decide_eq_false (by omega)
  clear hr0 hc0 hl
  go_enter_defers Try.func18, Try.ntmps18
  go_wp2_with (first | ((with_reducible refine gate_dst (N := 2) rfl ?_); refine box_event ?hg (N := 2) ?hd (cs := #[.int .u16 0, .int .u16 0, .int .u32 0]) (t := 36) ?hr ?_; (case hd => rfl); (case hg => rfl); (case hr => first | (go_simp; done) | (go_simp; rfl)); intro gh hgh w1 hbox hb; have GH := Aside0.mk (show w.heap.size ≤ gh by omega); have BH1 := Aside0.mk hbox; have HB1 := Aside0.mk hb; clear hgh hbox hb) | ((with_reducible refine gate_dst (N := 3) rfl ?_); refine box_event ?hg (N := 3) ?hd (cs := #[.slice none 0 0]) (t := 37) ?hr ?_; (case hd => rfl); (case hg => rfl); (case hr => first | (go_simp; done) | (go_simp; rfl)); intro gl hgl w2 hbox hb; have GL := Aside0.mk (show w.heap.size ≤ gl by have := HB1.out.size; omega); have EHL := Aside0.mk (show gh ≠ gl by have := blk_lt BH1.out; omega); have BH2 := Aside0.mk (blk_below BH1.out hb); have BL2 := Aside0.mk hbox; have HB2 := Aside0.mk (below_step HB1.out hb); clear hgl hbox hb) | ((with_reducible refine gate_dst (N := 4) rfl ?_); refine box_event ?hg (N := 4) ?hd (cs := #[.int .i64 0]) (t := 31) ?hr ?_; (case hd => rfl); (case hg => rfl); (case hr => first | (go_simp; done) | (go_simp; rfl)); intro ge hge w3 hbox hb; have GE := Aside0.mk (show w.heap.size ≤ ge by have := HB2.out.size; omega); have EHE := Aside0.mk (show gh ≠ ge by have := blk_lt BH2.out; omega); have ELE := Aside0.mk (show gl ≠ ge by have := blk_lt BL2.out; omega); have BH3 := Aside0.mk (blk_below BH2.out hb); have BL3 := Aside0.mk (blk_below BL2.out hb); have BE3 := Aside0.mk hbox; have HB3 := Aside0.mk (below_step HB2.out hb); clear hge hbox hb) | (go_at_call 38; (with_reducible refine (must_bad _ _).mono ?_); rintro e wm ⟨rfl, hwm⟩; have hwm := hwm.symm; subst hwm))
  refine leaves_cons (f := 37) (args := #[.pointer (some ⟨gh, 0, none⟩), .pointer (some ⟨gl, 0, none⟩), .pointer (some ⟨ge, 0, none⟩)]) (by simp) (by simp [go_sem]) ?_
  refine (catch_fault gh gl ge 3 _ _ _ _ _ w _ HB3.out BH3.out BL3.out BE3.out EHL.out EHE.out ELE.out GH.out GL.out GE.out).mono ?_
  rintro y u' w'' ⟨rfl, hu, hb, hbh, hbl, hbe⟩
  have hh0 := blk_cell hbh 0
  have hh1 := blk_cell hbh 1
  have hh2 := blk_cell hbh 2
  have hl0 := blk_cell hbl 0
  have he0 := blk_cell hbe 0
  simp only [Leaves, hu]
  refine ⟨_, ?_, _, rfl, Kd.R_nil _ _ _ _ _, hb⟩
  simp [results, Try.results18, go_sem, hh0, hh1, hh2, hl0, he0]
set_option maxHeartbeats 4000000 in
set_option maxRecDepth 100000 in
theorem take_long (k : Nat) (A0 : Option Addr) (c0 : Nat) (l0 : List Int) (w : World) (hr0 : Kd.C (Kd.int .u8) w A0 l0.length l0) (hc0 : l0.length ≤ c0) (hl : 16 ≤ l0.length) (hl2 : 1480 < l0.length) :
    Calls Try.prog 18 #[.slice A0 l0.length c0] w (TakeOut w 0 0 0 [] 6) := by
  have hmf : ∀ (fn : Fn) (first cap : Array Value) (w : World), (Instr.makeFunc fn first cap).run Try.prog w = .ok (.func fn first cap) w := fun _ _ _ _ => rfl
  have HR := Aside0.mk hr0
  have HC := Aside0.mk hc0
  have hge : decide ((16 : Int) ≤ (l0.length : Int)) = true := decide_eq_true (by omega)
  have hge2 : decide ((l0.length : Int) ≥ 16) = true := decide_eq_true (by omega)
  have hge' : decide (16 ≤ l0.length) = true := decide_eq_true (by omega)
  have hle : decide ((l0.length : Int) ≤ 1480) = false := decide_eq_false (by omega)
  have hle' : decide (l0.length ≤ 1480) = false := decide_eq_false (by omega)
  clear hr0 hc0 hl hl2
  go_enter_defers Try.func18, Try.ntmps18
  go_wp2_with (first | ((with_reducible refine gate_dst (N := 2) rfl ?_); refine box_event ?hg (N := 2) ?hd (cs := #[.int .u16 0, .int .u16 0, .int .u32 0]) (t := 36) ?hr ?_; (case hd => rfl); (case hg => rfl); (case hr => first | (go_simp; done) | (go_simp; rfl)); intro gh hgh w1 hbox hb; have GH := Aside0.mk (show w.heap.size ≤ gh by omega); have BH1 := Aside0.mk hbox; have HB1 := Aside0.mk hb; clear hgh hbox hb) | ((with_reducible refine gate_dst (N := 3) rfl ?_); refine box_event ?hg (N := 3) ?hd (cs := #[.slice none 0 0]) (t := 37) ?hr ?_; (case hd => rfl); (case hg => rfl); (case hr => first | (go_simp; done) | (go_simp; rfl)); intro gl hgl w2 hbox hb; have GL := Aside0.mk (show w.heap.size ≤ gl by have := HB1.out.size; omega); have EHL := Aside0.mk (show gh ≠ gl by have := blk_lt BH1.out; omega); have BH2 := Aside0.mk (blk_below BH1.out hb); have BL2 := Aside0.mk hbox; have HB2 := Aside0.mk (below_step HB1.out hb); clear hgl hbox hb) | ((with_reducible refine gate_dst (N := 4) rfl ?_); refine box_event ?hg (N := 4) ?hd (cs := #[.int .i64 0]) (t := 31) ?hr ?_; (case hd => rfl); (case hg => rfl); (case hr => first | (go_simp; done) | (go_simp; rfl)); intro ge hge w3 hbox hb; have GE := Aside0.mk (show w.heap.size ≤ ge by have := HB2.out.size; omega); have EHE := Aside0.mk (show gh ≠ ge by have := blk_lt BH2.out; omega); have ELE := Aside0.mk (show gl ≠ ge by have := blk_lt BL2.out; omega); have BH3 := Aside0.mk (blk_below BH2.out hb); have BL3 := Aside0.mk (blk_below BL2.out hb); have BE3 := Aside0.mk hbox; have HB3 := Aside0.mk (below_step HB2.out hb); clear hge hbox hb) | (go_at_call 38; (with_reducible refine (must_ok 3 _).mono ?_); rintro e wm ⟨rfl, hwm⟩; have hwm := hwm.symm; subst hwm) | (go_at_call 38; (with_reducible refine (must_bad _ _).mono ?_); rintro e wm ⟨rfl, hwm⟩; have hwm := hwm.symm; subst hwm))
  refine leaves_cons (f := 37) (args := #[.pointer (some ⟨gh, 0, none⟩), .pointer (some ⟨gl, 0, none⟩), .pointer (some ⟨ge, 0, none⟩)]) (by simp) (by simp [go_sem]) ?_
  refine (catch_fault gh gl ge 6 _ _ _ _ _ w _ HB3.out BH3.out BL3.out BE3.out EHL.out EHE.out ELE.out GH.out GL.out GE.out).mono ?_
  rintro y u' w'' ⟨rfl, hu, hb, hbh, hbl, hbe⟩
  have hh0 := blk_cell hbh 0
  have hh1 := blk_cell hbh 1
  have hh2 := blk_cell hbh 2
  have hl0 := blk_cell hbl 0
  have he0 := blk_cell hbe 0
  simp only [Leaves, hu]
  refine ⟨_, ?_, _, rfl, Kd.R_nil _ _ _ _ _, hb⟩
  simp [results, Try.results18, go_sem, hh0, hh1, hh2, hl0, he0]
set_option maxHeartbeats 4000000 in
set_option maxRecDepth 100000 in
theorem take_sum (k : Nat) (A0 : Option Addr) (c0 : Nat) (l0 : List Int) (w : World) (hr0 : Kd.C (Kd.int .u8) w A0 l0.length l0) (hc0 : l0.length ≤ c0) (hl : 16 ≤ l0.length) (hl2 : l0.length ≤ 1480) (hs : sums_Stamped.f k l0 = some false) :
    Calls Try.prog 18 #[.slice A0 l0.length c0] w (TakeOut w 0 0 0 [] 5) := by
  have hmf : ∀ (fn : Fn) (first cap : Array Value) (w : World), (Instr.makeFunc fn first cap).run Try.prog w = .ok (.func fn first cap) w := fun _ _ _ _ => rfl
  have HR := Aside0.mk hr0
  have HC := Aside0.mk hc0
  have hge : decide ((16 : Int) ≤ (l0.length : Int)) = true := decide_eq_true (by omega)
  have hge2 : decide ((l0.length : Int) ≥ 16) = true := decide_eq_true (by omega)
  have hge' : decide (16 ≤ l0.length) = true := decide_eq_true (by omega)
  have hle : decide ((l0.length : Int) ≤ 1480) = true := decide_eq_true (by omega)
  have hle' : decide (l0.length ≤ 1480) = true := decide_eq_true (by omega)
  have HS := Aside0.mk hs
  clear hr0 hc0 hl hl2 hs
  go_enter_defers Try.func18, Try.ntmps18
  go_wp2_with (first | ((with_reducible refine gate_dst (N := 2) rfl ?_); refine box_event ?hg (N := 2) ?hd (cs := #[.int .u16 0, .int .u16 0, .int .u32 0]) (t := 36) ?hr ?_; (case hd => rfl); (case hg => rfl); (case hr => first | (go_simp; done) | (go_simp; rfl)); intro gh hgh w1 hbox hb; have GH := Aside0.mk (show w.heap.size ≤ gh by omega); have BH1 := Aside0.mk hbox; have HB1 := Aside0.mk hb; clear hgh hbox hb) | ((with_reducible refine gate_dst (N := 3) rfl ?_); refine box_event ?hg (N := 3) ?hd (cs := #[.slice none 0 0]) (t := 37) ?hr ?_; (case hd => rfl); (case hg => rfl); (case hr => first | (go_simp; done) | (go_simp; rfl)); intro gl hgl w2 hbox hb; have GL := Aside0.mk (show w.heap.size ≤ gl by have := HB1.out.size; omega); have EHL := Aside0.mk (show gh ≠ gl by have := blk_lt BH1.out; omega); have BH2 := Aside0.mk (blk_below BH1.out hb); have BL2 := Aside0.mk hbox; have HB2 := Aside0.mk (below_step HB1.out hb); clear hgl hbox hb) | ((with_reducible refine gate_dst (N := 4) rfl ?_); refine box_event ?hg (N := 4) ?hd (cs := #[.int .i64 0]) (t := 31) ?hr ?_; (case hd => rfl); (case hg => rfl); (case hr => first | (go_simp; done) | (go_simp; rfl)); intro ge hge w3 hbox hb; have GE := Aside0.mk (show w.heap.size ≤ ge by have := HB2.out.size; omega); have EHE := Aside0.mk (show gh ≠ ge by have := blk_lt BH2.out; omega); have ELE := Aside0.mk (show gl ≠ ge by have := blk_lt BL2.out; omega); have BH3 := Aside0.mk (blk_below BH2.out hb); have BL3 := Aside0.mk (blk_below BL2.out hb); have BE3 := Aside0.mk hbox; have HB3 := Aside0.mk (below_step HB2.out hb); clear hge hbox hb) | (go_at_call 38; (with_reducible refine (must_ok 3 _).mono ?_); rintro e wm ⟨rfl, hwm⟩; have hwm := hwm.symm; subst hwm) | (go_at_call 38; (with_reducible refine (must_ok 6 _).mono ?_); rintro e wm ⟨rfl, hwm⟩; have hwm := hwm.symm; subst hwm) | (go_at_call 39; (with_reducible refine (sums_Stamped.calls k A0 c0 l0 false w3 (Kd.C_below HR.out HB3.out) HC.out HS.out).mono ?_); rintro e w4 ⟨rfl, hb⟩; have BH4 := Aside0.mk (blk_below BH3.out hb); have BL4 := Aside0.mk (blk_below BL3.out hb); have BE4 := Aside0.mk (blk_below BE3.out hb); have HB4 := Aside0.mk (below_step HB3.out hb); clear hb) | (go_at_call 38; (with_reducible refine (must_bad _ _).mono ?_); rintro e wm ⟨rfl, hwm⟩; have hwm := hwm.symm; subst hwm))
  refine leaves_cons (f := 37) (args := #[.pointer (some ⟨gh, 0, none⟩), .pointer (some ⟨gl, 0, none⟩), .pointer (some ⟨ge, 0, none⟩)]) (by simp) (by simp [go_sem]) ?_
  refine (catch_fault gh gl ge 5 _ _ _ _ _ w _ HB4.out BH4.out BL4.out BE4.out EHL.out EHE.out ELE.out GH.out GL.out GE.out).mono ?_
  rintro y u' w'' ⟨rfl, hu, hb, hbh, hbl, hbe⟩
  have hh0 := blk_cell hbh 0
  have hh1 := blk_cell hbh 1
  have hh2 := blk_cell hbh 2
  have hl0 := blk_cell hbl 0
  have he0 := blk_cell hbe 0
  simp only [Leaves, hu]
  refine ⟨_, ?_, _, rfl, Kd.R_nil _ _ _ _ _, hb⟩
  simp [results, Try.results18, go_sem, hh0, hh1, hh2, hl0, he0]
set_option maxHeartbeats 4000000 in
set_option maxRecDepth 100000 in
theorem take_bad2 (k : Nat) (A0 : Option Addr) (c0 : Nat) (l0 : List Int) (w : World) (hr0 : Kd.C (Kd.int .u8) w A0 l0.length l0) (hc0 : l0.length ≤ c0) (hby : Bytes l0) (hl : 16 ≤ l0.length) (hl2 : l0.length ≤ 1480) (hs : sums_Stamped.f k l0 = some true) (e : Int) (hsp : chunksV ((l0.drop 12).length + 1) (l0.drop 12) [] = .error e) :
    Calls Try.prog 18 #[.slice A0 l0.length c0] w (TakeOut w 0 0 0 [] e) := by
  have hmf : ∀ (fn : Fn) (first cap : Array Value) (w : World), (Instr.makeFunc fn first cap).run Try.prog w = .ok (.func fn first cap) w := fun _ _ _ _ => rfl
  have HR := Aside0.mk hr0
  have HC := Aside0.mk hc0
  have hge : decide ((16 : Int) ≤ (l0.length : Int)) = true := decide_eq_true (by omega)
  have hge2 : decide ((l0.length : Int) ≥ 16) = true := decide_eq_true (by omega)
  have hge' : decide (16 ≤ l0.length) = true := decide_eq_true (by omega)
  have hle : decide ((l0.length : Int) ≤ 1480) = true := decide_eq_true (by omega)
  have hle' : decide (l0.length ≤ 1480) = true := decide_eq_true (by omega)
  obtain ⟨l2, hl2'⟩ : ∃ l2, l2 = l0.drop 2 := ⟨_, rfl⟩
  obtain ⟨l3, hl3'⟩ : ∃ l3, l3 = l2.drop 2 := ⟨_, rfl⟩
  obtain ⟨l4, hl4'⟩ : ∃ l4, l4 = l3.drop 4 := ⟨_, rfl⟩
  obtain ⟨l5, hl5'⟩ : ∃ l5, l5 = l4.drop 4 := ⟨_, rfl⟩
  obtain ⟨n1, hn1'⟩ : ∃ n1, n1 = numN l0 2 := ⟨_, rfl⟩
  obtain ⟨n2, hn2'⟩ : ∃ n2, n2 = numN l2 2 := ⟨_, rfl⟩
  obtain ⟨n3, hn3'⟩ : ∃ n3, n3 = numN l3 4 := ⟨_, rfl⟩
  obtain ⟨n4, hn4'⟩ : ∃ n4, n4 = numN l4 4 := ⟨_, rfl⟩
  have HD1 := Aside0.mk hl2'
  have HD2 := Aside0.mk hl3'
  have HD3 := Aside0.mk hl4'
  have HD4 := Aside0.mk hl5'
  have HV1 := Aside0.mk hn1'
  have HV2 := Aside0.mk hn2'
  have HV3 := Aside0.mk hn3'
  have HV4 := Aside0.mk hn4'
  have HY1 := Aside0.mk hby
  have HY2 := Aside0.mk (show Bytes l2 by rw [hl2']; exact hby.drop 2)
  have HY3 := Aside0.mk (show Bytes l3 by rw [hl3']; exact HY2.out.drop 2)
  have HY4 := Aside0.mk (show Bytes l4 by rw [hl4']; exact HY3.out.drop 4)
  have HY5 := Aside0.mk (show Bytes l5 by rw [hl5']; exact HY4.out.drop 4)
  have hq2 : l2.length = l0.length - 2 := by rw [hl2', List.length_drop]
  have hq3 : l3.length = l0.length - 4 := by rw [hl3', List.length_drop]; omega
  have hq4 : l4.length = l0.length - 8 := by rw [hl4', List.length_drop]; omega
  have hq5 : l5.length = l0.length - 12 := by rw [hl5', List.length_drop]; omega
  have HM1 := Aside0.mk (show 2 ≤ l0.length by omega)
  have HM2 := Aside0.mk (show 2 ≤ l2.length by omega)
  have HM3 := Aside0.mk (show 4 ≤ l3.length by omega)
  have HM4 := Aside0.mk (show 4 ≤ l4.length by omega)
  have HL5 := Aside0.mk (show l5.length ≤ 65536 by omega)
  have hr1 : 0 ≤ n1 ∧ n1 < 65536 := by rw [hn1']; exact num2_range HY1.out
  have hr2 : 0 ≤ n2 ∧ n2 < 65536 := by rw [hn2']; exact num2_range HY2.out
  have hr3 : 0 ≤ n3 ∧ n3 < 4294967296 := by rw [hn3']; exact numN_range HY3.out 4 (by decide)
  have hu1 : IntKind.u16.wrap n1 = n1 := u16w hr1
  have hu2 : IntKind.u16.wrap n2 = n2 := u16w hr2
  have hu3 : IntKind.u32.wrap n3 = n3 := by
    have : IntKind.u32.wrap n3 = n3 % 4294967296 := by simp [IntKind.wrap, IntKind.bits, IntKind.signed]
    rw [this]; omega
  have hm1 : n1 % 65536 = n1 := by omega
  have hm2 : n2 % 65536 = n2 := by omega
  have hm3 : n3 % 4294967296 = n3 := by omega
  have HSP := Aside0.mk (show chunksV (l5.length + 1) l5 [] = .error e by rw [hl5', hl4', hl3', hl2', List.drop_drop, List.drop_drop, List.drop_drop]; exact hsp)
  have HHD := Aside0.mk (show n1 = numN l0 2 ∧ n2 = numN (l0.drop 2) 2 ∧ n3 = numN (l0.drop 4) 4 from ⟨hn1', by rw [hn2', hl2'], by rw [hn3', hl3', hl2', List.drop_drop]⟩)
  have HS := Aside0.mk hs
  clear hr0 hc0 hl hl2 hs hby hsp hl2' hl3' hl4' hl5' hn1' hn2' hn3' hn4' hq2 hq3 hq4 hq5 hr1 hr2 hr3
  go_enter_defers Try.func18, Try.ntmps18
  go_wp2_with (first | ((with_reducible refine gate_dst (N := 2) rfl ?_); refine box_event ?hg (N := 2) ?hd (cs := #[.int .u16 0, .int .u16 0, .int .u32 0]) (t := 36) ?hr ?_; (case hd => rfl); (case hg => rfl); (case hr => first | (go_simp; done) | (go_simp; rfl)); intro gh hgh w1 hbox hb; have GH := Aside0.mk (show w.heap.size ≤ gh by omega); have BH1 := Aside0.mk hbox; have HB1 := Aside0.mk hb; clear hgh hbox hb) | ((with_reducible refine gate_dst (N := 3) rfl ?_); refine box_event ?hg (N := 3) ?hd (cs := #[.slice none 0 0]) (t := 37) ?hr ?_; (case hd => rfl); (case hg => rfl); (case hr => first | (go_simp; done) | (go_simp; rfl)); intro gl hgl w2 hbox hb; have GL := Aside0.mk (show w.heap.size ≤ gl by have := HB1.out.size; omega); have EHL := Aside0.mk (show gh ≠ gl by have := blk_lt BH1.out; omega); have BH2 := Aside0.mk (blk_below BH1.out hb); have BL2 := Aside0.mk hbox; have HB2 := Aside0.mk (below_step HB1.out hb); clear hgl hbox hb) | ((with_reducible refine gate_dst (N := 4) rfl ?_); refine box_event ?hg (N := 4) ?hd (cs := #[.int .i64 0]) (t := 31) ?hr ?_; (case hd => rfl); (case hg => rfl); (case hr => first | (go_simp; done) | (go_simp; rfl)); intro ge hge w3 hbox hb; have GE := Aside0.mk (show w.heap.size ≤ ge by have := HB2.out.size; omega); have EHE := Aside0.mk (show gh ≠ ge by have := blk_lt BH2.out; omega); have ELE := Aside0.mk (show gl ≠ ge by have := blk_lt BL2.out; omega); have BH3 := Aside0.mk (blk_below BH2.out hb); have BL3 := Aside0.mk (blk_below BL2.out hb); have BE3 := Aside0.mk hbox; have HB3 := Aside0.mk (below_step HB2.out hb); clear hge hbox hb) | (go_at_call 38; (with_reducible refine (must_ok 3 _).mono ?_); rintro e wm ⟨rfl, hwm⟩; have hwm := hwm.symm; subst hwm) | (go_at_call 38; (with_reducible refine (must_ok 6 _).mono ?_); rintro e wm ⟨rfl, hwm⟩; have hwm := hwm.symm; subst hwm) | (go_at_call 39; (with_reducible refine (sums_Stamped.calls k A0 c0 l0 true w3 (Kd.C_below HR.out HB3.out) HC.out HS.out).mono ?_); rintro e w4 ⟨rfl, hb⟩; have BH4 := Aside0.mk (blk_below BH3.out hb); have BL4 := Aside0.mk (blk_below BL3.out hb); have BE4 := Aside0.mk (blk_below BE3.out hb); have HB4 := Aside0.mk (below_step HB3.out hb); clear hb) | (go_at_call 38; (with_reducible refine (must_ok 5 _).mono ?_); rintro e wm ⟨rfl, hwm⟩; have hwm := hwm.symm; subst hwm) | ((with_reducible refine gate_dst (N := 20) rfl ?_); refine box_event ?hg (N := 20) ?hd (cs := #[.slice A0 l0.length c0]) (t := 73) ?hr ?_; (case hd => rfl); (case hg => rfl); (case hr => first | (go_simp; done) | (go_simp; rfl)); intro g hg w5 hbox hb; have EH := Aside0.mk (show gh ≠ g by have := blk_lt BH4.out; omega); have EL := Aside0.mk (show gl ≠ g by have := blk_lt BL4.out; omega); have EE := Aside0.mk (show ge ≠ g by have := blk_lt BE4.out; omega); have HX5 := Aside0.mk (show RdrOf w w5 g l0 from ⟨by have := HB4.out.size; omega, A0, c0, hbox, HC.out, HR.out⟩); have BH5 := Aside0.mk (blk_below BH4.out hb); have BL5 := Aside0.mk (blk_below BL4.out hb); have BE5 := Aside0.mk (blk_below BE4.out hb); have HB5 := Aside0.mk (below_step HB4.out hb); clear hg hbox hb) | (go_at_call 40; (with_reducible refine (num2_ok g l0 n1 w w5 HB5.out HX5.out HY1.out HV1.out HM1.out).mono ?_); rintro e w6 ⟨rfl, hx, hb, hk⟩; have HX6 := Aside0.mk (show RdrOf w w6 g l2 by rw [HD1.out]; exact hx); have HB6 := Aside0.mk hb; have BH6 := Aside0.mk (blk_kept BH5.out hk EH.out); have BL6 := Aside0.mk (blk_kept BL5.out hk EL.out); have BE6 := Aside0.mk (blk_kept BE5.out hk EE.out); clear hx hb hk) | (go_at_call 40; (with_reducible refine (num2_ok g l2 n2 w w6 HB6.out HX6.out HY2.out HV2.out HM2.out).mono ?_); rintro e w7 ⟨rfl, hx, hb, hk⟩; have HX7 := Aside0.mk (show RdrOf w w7 g l3 by rw [HD2.out]; exact hx); have HB7 := Aside0.mk hb; have BH7 := Aside0.mk (blk_kept BH6.out hk EH.out); have BL7 := Aside0.mk (blk_kept BL6.out hk EL.out); have BE7 := Aside0.mk (blk_kept BE6.out hk EE.out); clear hx hb hk) | (go_at_call 40; (with_reducible refine (num4_ok g l3 n3 w w7 HB7.out HX7.out HY3.out HV3.out HM3.out).mono ?_); rintro e w8 ⟨rfl, hx, hb, hk⟩; have HX8 := Aside0.mk (show RdrOf w w8 g l4 by rw [HD3.out]; exact hx); have HB8 := Aside0.mk hb; have hbh := blk_kept BH7.out hk EH.out; have hh0 : w8.cell? ⟨gh, 0, none⟩ = some (.int .u16 0) := blk_cell hbh 0; have hh1 : w8.cell? ⟨gh, 1, none⟩ = some (.int .u16 0) := blk_cell hbh 1; have hh2 : w8.cell? ⟨gh, 2, none⟩ = some (.int .u32 0) := blk_cell hbh 2; have hf0 : w8.frozen? ⟨gh, 0, none⟩ = false := blk_frozen hbh 0; have hf1 : w8.frozen? ⟨gh, 1, none⟩ = false := blk_frozen hbh 1; have hf2 : w8.frozen? ⟨gh, 2, none⟩ = false := blk_frozen hbh 2; have BH8 := Aside0.mk hbh; have BL8 := Aside0.mk (blk_kept BL7.out hk EL.out); have BE8 := Aside0.mk (blk_kept BE7.out hk EE.out); clear hx hb hk hbh))
  obtain ⟨W, hW⟩ : ∃ W, W = ((w8.setCell { block := gh, off := 0 } (Value.int IntKind.u16 n1)).setCell { block := gh, off := 1 } (Value.int IntKind.u16 n2)).setCell { block := gh, off := 2 } (Value.int IntKind.u32 n3) := ⟨_, rfl⟩
  have BHW := Aside0.mk (show W.heap[gh]? = some (.cells #[.int .u16 n1, .int .u16 n2, .int .u32 n3] 36 (0, 0)) by rw [hW]; exact blk_put (blk_put (blk_put BH8.out 0 _ rfl) 1 _ rfl) 2 _ rfl)
  have BLW := Aside0.mk (show W.heap[gl]? = some (.cells #[.slice none 0 0] 37 (0, 0)) by rw [hW]; exact blk_far (blk_far (blk_far BL8.out (Ne.symm EHL.out) _) (Ne.symm EHL.out) _) (Ne.symm EHL.out) _)
  have BEW := Aside0.mk (show W.heap[ge]? = some (.cells #[.int .i64 0] 31 (0, 0)) by rw [hW]; exact blk_far (blk_far (blk_far BE8.out (Ne.symm EHE.out) _) (Ne.symm EHE.out) _) (Ne.symm EHE.out) _)
  have HBW := Aside0.mk (show Below w.heap.size w W by rw [hW]; exact below_set (below_set (below_set HB8.out GH.out) GH.out) GH.out)
  have HXW := Aside0.mk (show RdrOf w W g l4 by rw [hW]; exact HX8.out.kept (S := fun k => k = gh) (Kept.setCell (Kept.setCell (Kept.setCell (Kept.refl w8 (fun k => k = gh)) (p := ⟨gh, 0, none⟩) (.inl rfl) _) (p := ⟨gh, 1, none⟩) (.inl rfl) _) (p := ⟨gh, 2, none⟩) (.inl rfl) _) (Ne.symm EH.out))
  rw [← hW]
  clear hW hh0 hh1 hh2 hf0 hf1 hf2
  go_wp2_with (first | (go_at_call 40; (with_reducible refine (num4_ok g l4 n4 w W HBW.out HXW.out HY4.out HV4.out HM4.out).mono ?_); rintro e w9 ⟨rfl, hx, hb, hk⟩; have HX9 := Aside0.mk (show RdrOf w w9 g l5 by rw [HD4.out]; exact hx); have HB9 := Aside0.mk hb; have hbh := blk_kept BHW.out hk EH.out; have hbl := blk_kept BLW.out hk EL.out; have hbe := blk_kept BEW.out hk EE.out; have hh0 : w9.cell? ⟨gh, 0, none⟩ = some (.int .u16 n1) := blk_cell hbh 0; have hf0 : w9.frozen? ⟨gh, 0, none⟩ = false := blk_frozen hbh 0; have hh1 : w9.cell? ⟨gh, 1, none⟩ = some (.int .u16 n2) := blk_cell hbh 1; have hf1 : w9.frozen? ⟨gh, 1, none⟩ = false := blk_frozen hbh 1; have hh2 : w9.cell? ⟨gh, 2, none⟩ = some (.int .u32 n3) := blk_cell hbh 2; have hf2 : w9.frozen? ⟨gh, 2, none⟩ = false := blk_frozen hbh 2; have hl0 : w9.cell? ⟨gl, 0, none⟩ = some (.slice none 0 0) := blk_cell hbl 0; have hlf : w9.frozen? ⟨gl, 0, none⟩ = false := blk_frozen hbl 0; have he0 : w9.cell? ⟨ge, 0, none⟩ = some (.int .i64 0) := blk_cell hbe 0; have hef : w9.frozen? ⟨ge, 0, none⟩ = false := blk_frozen hbe 0; have BH9 := Aside0.mk hbh; have BL9 := Aside0.mk hbl; have BE9 := Aside0.mk hbe; clear hx hb hk hbh hbl hbe))
  have hn1 : gh ≠ gl := EHL.out
  have hn1' : gl ≠ gh := Ne.symm EHL.out
  have hn2 : gh ≠ ge := EHE.out
  have hn2' : ge ≠ gh := Ne.symm EHE.out
  have hn3 : gl ≠ ge := ELE.out
  have hn3' : ge ≠ gl := Ne.symm ELE.out
  first | (go_region_with (first | (go_at_call 41; (first | (with_reducible refine (chunks_calls g l5 w w9 HB9.out HX9.out HY5.out HL5.out).mono ?_) | (with_reducible refine (chunks_calls g l5 w w9.drew HB9.out.drew (HX9.out.below (Below.refl _ _).drew) HY5.out HL5.out).mono ?_)); rintro e2 w10 ⟨hb, hk, ho⟩; rw [HSP.out] at ho; have ho : e2 = .panicked [{ v := faultV e, recovered := false }] := ho; subst ho; have BH10 := Aside0.mk (blk_kept BH9.out hk EH.out); have BL10 := Aside0.mk (blk_kept BL9.out hk EL.out); have BE10 := Aside0.mk (blk_kept BE9.out hk EE.out); have HB10 := Aside0.mk hb; clear hb hk; refine wpAny_hook (P := Try.prog) (w := w10) ?_))) | fail
  all_goals
    refine leaves_cons (f := 37) (args := #[.pointer (some ⟨gh, 0, none⟩), .pointer (some ⟨gl, 0, none⟩), .pointer (some ⟨ge, 0, none⟩)]) (by simp) (by simp [go_sem]) ?_
    refine (catch_fault gh gl ge e _ _ _ _ _ w _ HB10.out BH10.out BL10.out BE10.out EHL.out EHE.out ELE.out GH.out GL.out GE.out).mono ?_
    rintro y u' w'' ⟨rfl, hu, hb, hbh, hbl, hbe⟩
    have hh0 := blk_cell hbh 0
    have hh1 := blk_cell hbh 1
    have hh2 := blk_cell hbh 2
    have hl0 := blk_cell hbl 0
    have he0 := blk_cell hbe 0
    simp only [Leaves, hu]
    refine ⟨_, ?_, _, rfl, Kd.R_nil _ _ _ _ _, hb⟩
    simp [results, Try.results18, go_sem, hh0, hh1, hh2, hl0, he0]
set_option maxHeartbeats 4000000 in
set_option maxRecDepth 100000 in
theorem take_good (k : Nat) (A0 : Option Addr) (c0 : Nat) (l0 : List Int) (w : World) (hr0 : Kd.C (Kd.int .u8) w A0 l0.length l0) (hc0 : l0.length ≤ c0) (hby : Bytes l0) (hl : 16 ≤ l0.length) (hl2 : l0.length ≤ 1480) (hs : sums_Stamped.f k l0 = some true) (cs : List S29) (hsp : chunksV ((l0.drop 12).length + 1) (l0.drop 12) [] = .ok cs) :
    Calls Try.prog 18 #[.slice A0 l0.length c0] w (TakeOut w (numN l0 2) (numN (l0.drop 2) 2) (numN (l0.drop 4) 4) cs 0) := by
  have hmf : ∀ (fn : Fn) (first cap : Array Value) (w : World), (Instr.makeFunc fn first cap).run Try.prog w = .ok (.func fn first cap) w := fun _ _ _ _ => rfl
  have HR := Aside0.mk hr0
  have HC := Aside0.mk hc0
  have hge : decide ((16 : Int) ≤ (l0.length : Int)) = true := decide_eq_true (by omega)
  have hge2 : decide ((l0.length : Int) ≥ 16) = true := decide_eq_true (by omega)
  have hge' : decide (16 ≤ l0.length) = true := decide_eq_true (by omega)
  have hle : decide ((l0.length : Int) ≤ 1480) = true := decide_eq_true (by omega)
  have hle' : decide (l0.length ≤ 1480) = true := decide_eq_true (by omega)
  obtain ⟨l2, hl2'⟩ : ∃ l2, l2 = l0.drop 2 := ⟨_, rfl⟩
  obtain ⟨l3, hl3'⟩ : ∃ l3, l3 = l2.drop 2 := ⟨_, rfl⟩
  obtain ⟨l4, hl4'⟩ : ∃ l4, l4 = l3.drop 4 := ⟨_, rfl⟩
  obtain ⟨l5, hl5'⟩ : ∃ l5, l5 = l4.drop 4 := ⟨_, rfl⟩
  obtain ⟨n1, hn1'⟩ : ∃ n1, n1 = numN l0 2 := ⟨_, rfl⟩
  obtain ⟨n2, hn2'⟩ : ∃ n2, n2 = numN l2 2 := ⟨_, rfl⟩
  obtain ⟨n3, hn3'⟩ : ∃ n3, n3 = numN l3 4 := ⟨_, rfl⟩
  obtain ⟨n4, hn4'⟩ : ∃ n4, n4 = numN l4 4 := ⟨_, rfl⟩
  have HD1 := Aside0.mk hl2'
  have HD2 := Aside0.mk hl3'
  have HD3 := Aside0.mk hl4'
  have HD4 := Aside0.mk hl5'
  have HV1 := Aside0.mk hn1'
  have HV2 := Aside0.mk hn2'
  have HV3 := Aside0.mk hn3'
  have HV4 := Aside0.mk hn4'
  have HY1 := Aside0.mk hby
  have HY2 := Aside0.mk (show Bytes l2 by rw [hl2']; exact hby.drop 2)
  have HY3 := Aside0.mk (show Bytes l3 by rw [hl3']; exact HY2.out.drop 2)
  have HY4 := Aside0.mk (show Bytes l4 by rw [hl4']; exact HY3.out.drop 4)
  have HY5 := Aside0.mk (show Bytes l5 by rw [hl5']; exact HY4.out.drop 4)
  have hq2 : l2.length = l0.length - 2 := by rw [hl2', List.length_drop]
  have hq3 : l3.length = l0.length - 4 := by rw [hl3', List.length_drop]; omega
  have hq4 : l4.length = l0.length - 8 := by rw [hl4', List.length_drop]; omega
  have hq5 : l5.length = l0.length - 12 := by rw [hl5', List.length_drop]; omega
  have HM1 := Aside0.mk (show 2 ≤ l0.length by omega)
  have HM2 := Aside0.mk (show 2 ≤ l2.length by omega)
  have HM3 := Aside0.mk (show 4 ≤ l3.length by omega)
  have HM4 := Aside0.mk (show 4 ≤ l4.length by omega)
  have HL5 := Aside0.mk (show l5.length ≤ 65536 by omega)
  have hr1 : 0 ≤ n1 ∧ n1 < 65536 := by rw [hn1']; exact num2_range HY1.out
  have hr2 : 0 ≤ n2 ∧ n2 < 65536 := by rw [hn2']; exact num2_range HY2.out
  have hr3 : 0 ≤ n3 ∧ n3 < 4294967296 := by rw [hn3']; exact numN_range HY3.out 4 (by decide)
  have hu1 : IntKind.u16.wrap n1 = n1 := u16w hr1
  have hu2 : IntKind.u16.wrap n2 = n2 := u16w hr2
  have hu3 : IntKind.u32.wrap n3 = n3 := by
    have : IntKind.u32.wrap n3 = n3 % 4294967296 := by simp [IntKind.wrap, IntKind.bits, IntKind.signed]
    rw [this]; omega
  have hm1 : n1 % 65536 = n1 := by omega
  have hm2 : n2 % 65536 = n2 := by omega
  have hm3 : n3 % 4294967296 = n3 := by omega
  have HSP := Aside0.mk (show chunksV (l5.length + 1) l5 [] = .ok cs by rw [hl5', hl4', hl3', hl2', List.drop_drop, List.drop_drop, List.drop_drop]; exact hsp)
  have HHD := Aside0.mk (show n1 = numN l0 2 ∧ n2 = numN (l0.drop 2) 2 ∧ n3 = numN (l0.drop 4) 4 from ⟨hn1', by rw [hn2', hl2'], by rw [hn3', hl3', hl2', List.drop_drop]⟩)
  have HS := Aside0.mk hs
  clear hr0 hc0 hl hl2 hs hby hsp hl2' hl3' hl4' hl5' hn1' hn2' hn3' hn4' hq2 hq3 hq4 hq5 hr1 hr2 hr3
  go_enter_defers Try.func18, Try.ntmps18
  go_wp2_with (first | ((with_reducible refine gate_dst (N := 2) rfl ?_); refine box_event ?hg (N := 2) ?hd (cs := #[.int .u16 0, .int .u16 0, .int .u32 0]) (t := 36) ?hr ?_; (case hd => rfl); (case hg => rfl); (case hr => first | (go_simp; done) | (go_simp; rfl)); intro gh hgh w1 hbox hb; have GH := Aside0.mk (show w.heap.size ≤ gh by omega); have BH1 := Aside0.mk hbox; have HB1 := Aside0.mk hb; clear hgh hbox hb) | ((with_reducible refine gate_dst (N := 3) rfl ?_); refine box_event ?hg (N := 3) ?hd (cs := #[.slice none 0 0]) (t := 37) ?hr ?_; (case hd => rfl); (case hg => rfl); (case hr => first | (go_simp; done) | (go_simp; rfl)); intro gl hgl w2 hbox hb; have GL := Aside0.mk (show w.heap.size ≤ gl by have := HB1.out.size; omega); have EHL := Aside0.mk (show gh ≠ gl by have := blk_lt BH1.out; omega); have BH2 := Aside0.mk (blk_below BH1.out hb); have BL2 := Aside0.mk hbox; have HB2 := Aside0.mk (below_step HB1.out hb); clear hgl hbox hb) | ((with_reducible refine gate_dst (N := 4) rfl ?_); refine box_event ?hg (N := 4) ?hd (cs := #[.int .i64 0]) (t := 31) ?hr ?_; (case hd => rfl); (case hg => rfl); (case hr => first | (go_simp; done) | (go_simp; rfl)); intro ge hge w3 hbox hb; have GE := Aside0.mk (show w.heap.size ≤ ge by have := HB2.out.size; omega); have EHE := Aside0.mk (show gh ≠ ge by have := blk_lt BH2.out; omega); have ELE := Aside0.mk (show gl ≠ ge by have := blk_lt BL2.out; omega); have BH3 := Aside0.mk (blk_below BH2.out hb); have BL3 := Aside0.mk (blk_below BL2.out hb); have BE3 := Aside0.mk hbox; have HB3 := Aside0.mk (below_step HB2.out hb); clear hge hbox hb) | (go_at_call 38; (with_reducible refine (must_ok 3 _).mono ?_); rintro e wm ⟨rfl, hwm⟩; have hwm := hwm.symm; subst hwm) | (go_at_call 38; (with_reducible refine (must_ok 6 _).mono ?_); rintro e wm ⟨rfl, hwm⟩; have hwm := hwm.symm; subst hwm) | (go_at_call 39; (with_reducible refine (sums_Stamped.calls k A0 c0 l0 true w3 (Kd.C_below HR.out HB3.out) HC.out HS.out).mono ?_); rintro e w4 ⟨rfl, hb⟩; have BH4 := Aside0.mk (blk_below BH3.out hb); have BL4 := Aside0.mk (blk_below BL3.out hb); have BE4 := Aside0.mk (blk_below BE3.out hb); have HB4 := Aside0.mk (below_step HB3.out hb); clear hb) | (go_at_call 38; (with_reducible refine (must_ok 5 _).mono ?_); rintro e wm ⟨rfl, hwm⟩; have hwm := hwm.symm; subst hwm) | ((with_reducible refine gate_dst (N := 20) rfl ?_); refine box_event ?hg (N := 20) ?hd (cs := #[.slice A0 l0.length c0]) (t := 73) ?hr ?_; (case hd => rfl); (case hg => rfl); (case hr => first | (go_simp; done) | (go_simp; rfl)); intro g hg w5 hbox hb; have EH := Aside0.mk (show gh ≠ g by have := blk_lt BH4.out; omega); have EL := Aside0.mk (show gl ≠ g by have := blk_lt BL4.out; omega); have EE := Aside0.mk (show ge ≠ g by have := blk_lt BE4.out; omega); have HX5 := Aside0.mk (show RdrOf w w5 g l0 from ⟨by have := HB4.out.size; omega, A0, c0, hbox, HC.out, HR.out⟩); have BH5 := Aside0.mk (blk_below BH4.out hb); have BL5 := Aside0.mk (blk_below BL4.out hb); have BE5 := Aside0.mk (blk_below BE4.out hb); have HB5 := Aside0.mk (below_step HB4.out hb); clear hg hbox hb) | (go_at_call 40; (with_reducible refine (num2_ok g l0 n1 w w5 HB5.out HX5.out HY1.out HV1.out HM1.out).mono ?_); rintro e w6 ⟨rfl, hx, hb, hk⟩; have HX6 := Aside0.mk (show RdrOf w w6 g l2 by rw [HD1.out]; exact hx); have HB6 := Aside0.mk hb; have BH6 := Aside0.mk (blk_kept BH5.out hk EH.out); have BL6 := Aside0.mk (blk_kept BL5.out hk EL.out); have BE6 := Aside0.mk (blk_kept BE5.out hk EE.out); clear hx hb hk) | (go_at_call 40; (with_reducible refine (num2_ok g l2 n2 w w6 HB6.out HX6.out HY2.out HV2.out HM2.out).mono ?_); rintro e w7 ⟨rfl, hx, hb, hk⟩; have HX7 := Aside0.mk (show RdrOf w w7 g l3 by rw [HD2.out]; exact hx); have HB7 := Aside0.mk hb; have BH7 := Aside0.mk (blk_kept BH6.out hk EH.out); have BL7 := Aside0.mk (blk_kept BL6.out hk EL.out); have BE7 := Aside0.mk (blk_kept BE6.out hk EE.out); clear hx hb hk) | (go_at_call 40; (with_reducible refine (num4_ok g l3 n3 w w7 HB7.out HX7.out HY3.out HV3.out HM3.out).mono ?_); rintro e w8 ⟨rfl, hx, hb, hk⟩; have HX8 := Aside0.mk (show RdrOf w w8 g l4 by rw [HD3.out]; exact hx); have HB8 := Aside0.mk hb; have hbh := blk_kept BH7.out hk EH.out; have hh0 : w8.cell? ⟨gh, 0, none⟩ = some (.int .u16 0) := blk_cell hbh 0; have hh1 : w8.cell? ⟨gh, 1, none⟩ = some (.int .u16 0) := blk_cell hbh 1; have hh2 : w8.cell? ⟨gh, 2, none⟩ = some (.int .u32 0) := blk_cell hbh 2; have hf0 : w8.frozen? ⟨gh, 0, none⟩ = false := blk_frozen hbh 0; have hf1 : w8.frozen? ⟨gh, 1, none⟩ = false := blk_frozen hbh 1; have hf2 : w8.frozen? ⟨gh, 2, none⟩ = false := blk_frozen hbh 2; have BH8 := Aside0.mk hbh; have BL8 := Aside0.mk (blk_kept BL7.out hk EL.out); have BE8 := Aside0.mk (blk_kept BE7.out hk EE.out); clear hx hb hk hbh))
  obtain ⟨W, hW⟩ : ∃ W, W = ((w8.setCell { block := gh, off := 0 } (Value.int IntKind.u16 n1)).setCell { block := gh, off := 1 } (Value.int IntKind.u16 n2)).setCell { block := gh, off := 2 } (Value.int IntKind.u32 n3) := ⟨_, rfl⟩
  have BHW := Aside0.mk (show W.heap[gh]? = some (.cells #[.int .u16 n1, .int .u16 n2, .int .u32 n3] 36 (0, 0)) by rw [hW]; exact blk_put (blk_put (blk_put BH8.out 0 _ rfl) 1 _ rfl) 2 _ rfl)
  have BLW := Aside0.mk (show W.heap[gl]? = some (.cells #[.slice none 0 0] 37 (0, 0)) by rw [hW]; exact blk_far (blk_far (blk_far BL8.out (Ne.symm EHL.out) _) (Ne.symm EHL.out) _) (Ne.symm EHL.out) _)
  have BEW := Aside0.mk (show W.heap[ge]? = some (.cells #[.int .i64 0] 31 (0, 0)) by rw [hW]; exact blk_far (blk_far (blk_far BE8.out (Ne.symm EHE.out) _) (Ne.symm EHE.out) _) (Ne.symm EHE.out) _)
  have HBW := Aside0.mk (show Below w.heap.size w W by rw [hW]; exact below_set (below_set (below_set HB8.out GH.out) GH.out) GH.out)
  have HXW := Aside0.mk (show RdrOf w W g l4 by rw [hW]; exact HX8.out.kept (S := fun k => k = gh) (Kept.setCell (Kept.setCell (Kept.setCell (Kept.refl w8 (fun k => k = gh)) (p := ⟨gh, 0, none⟩) (.inl rfl) _) (p := ⟨gh, 1, none⟩) (.inl rfl) _) (p := ⟨gh, 2, none⟩) (.inl rfl) _) (Ne.symm EH.out))
  rw [← hW]
  clear hW hh0 hh1 hh2 hf0 hf1 hf2
  go_wp2_with (first | (go_at_call 40; (with_reducible refine (num4_ok g l4 n4 w W HBW.out HXW.out HY4.out HV4.out HM4.out).mono ?_); rintro e w9 ⟨rfl, hx, hb, hk⟩; have HX9 := Aside0.mk (show RdrOf w w9 g l5 by rw [HD4.out]; exact hx); have HB9 := Aside0.mk hb; have hbh := blk_kept BHW.out hk EH.out; have hbl := blk_kept BLW.out hk EL.out; have hbe := blk_kept BEW.out hk EE.out; have hh0 : w9.cell? ⟨gh, 0, none⟩ = some (.int .u16 n1) := blk_cell hbh 0; have hf0 : w9.frozen? ⟨gh, 0, none⟩ = false := blk_frozen hbh 0; have hh1 : w9.cell? ⟨gh, 1, none⟩ = some (.int .u16 n2) := blk_cell hbh 1; have hf1 : w9.frozen? ⟨gh, 1, none⟩ = false := blk_frozen hbh 1; have hh2 : w9.cell? ⟨gh, 2, none⟩ = some (.int .u32 n3) := blk_cell hbh 2; have hf2 : w9.frozen? ⟨gh, 2, none⟩ = false := blk_frozen hbh 2; have hl0 : w9.cell? ⟨gl, 0, none⟩ = some (.slice none 0 0) := blk_cell hbl 0; have hlf : w9.frozen? ⟨gl, 0, none⟩ = false := blk_frozen hbl 0; have he0 : w9.cell? ⟨ge, 0, none⟩ = some (.int .i64 0) := blk_cell hbe 0; have hef : w9.frozen? ⟨ge, 0, none⟩ = false := blk_frozen hbe 0; have BH9 := Aside0.mk hbh; have BL9 := Aside0.mk hbl; have BE9 := Aside0.mk hbe; clear hx hb hk hbh hbl hbe))
  have hn1 : gh ≠ gl := EHL.out
  have hn1' : gl ≠ gh := Ne.symm EHL.out
  have hn2 : gh ≠ ge := EHE.out
  have hn2' : ge ≠ gh := Ne.symm EHE.out
  have hn3 : gl ≠ ge := ELE.out
  have hn3' : ge ≠ gl := Ne.symm ELE.out
  first | (go_region_with (first | (go_at_call 41; (first | (with_reducible refine (chunks_calls g l5 w w9 HB9.out HX9.out HY5.out HL5.out).mono ?_) | (with_reducible refine (chunks_calls g l5 w w9.drew HB9.out.drew (HX9.out.below (Below.refl _ _).drew) HY5.out HL5.out).mono ?_)); rintro e2 w10 ⟨hb, hk, ho⟩; rw [HSP.out] at ho; obtain ⟨v, rfl, ho⟩ := ho; obtain ⟨Av, cv, ev⟩ := Kd.R_slice ho; subst ev; have ho : Kd.R k29 29 w10 w.heap.size (fun _ => True) (.slice Av cs.length cv) cs := Kd.R_lower ho HB9.out.size; have hbh := blk_kept BH9.out hk EH.out; have hbl := blk_kept BL9.out hk EL.out; have hbe := blk_kept BE9.out hk EE.out; clear hh0 hf0 hh1 hf1 hh2 hf2 hl0 hlf he0 hef; have hh0 : w10.cell? ⟨gh, 0, none⟩ = some (.int .u16 n1) := blk_cell hbh 0; have hf0 : w10.frozen? ⟨gh, 0, none⟩ = false := blk_frozen hbh 0; have hh1 : w10.cell? ⟨gh, 1, none⟩ = some (.int .u16 n2) := blk_cell hbh 1; have hf1 : w10.frozen? ⟨gh, 1, none⟩ = false := blk_frozen hbh 1; have hh2 : w10.cell? ⟨gh, 2, none⟩ = some (.int .u32 n3) := blk_cell hbh 2; have hf2 : w10.frozen? ⟨gh, 2, none⟩ = false := blk_frozen hbh 2; have hl0 : w10.cell? ⟨gl, 0, none⟩ = some (.slice none 0 0) := blk_cell hbl 0; have hlf : w10.frozen? ⟨gl, 0, none⟩ = false := blk_frozen hbl 0; have he0 : w10.cell? ⟨ge, 0, none⟩ = some (.int .i64 0) := blk_cell hbe 0; have hef : w10.frozen? ⟨ge, 0, none⟩ = false := blk_frozen hbe 0; have BH10 := Aside0.mk hbh; have BL10 := Aside0.mk hbl; have BE10 := Aside0.mk hbe; have HB10 := Aside0.mk hb; have HO10 := Aside0.mk ho; clear ho hb hk hbh hbl hbe))) | fail
  all_goals
    refine exit_cut (P := Try.prog) (fun wz => wz.heap[gh]? = some (.cells #[.int .u16 n1, .int .u16 n2, .int .u32 n3] 36 (0, 0)) ∧ wz.heap[gl]? = some (.cells #[.slice Av cs.length cv] 37 (0, 0)) ∧ wz.heap[ge]? = some (.cells #[.int .i64 0] 31 (0, 0)) ∧ Below w.heap.size w wz ∧ Kd.R k29 29 wz w.heap.size (fun _ => True) (.slice Av cs.length cv) cs) ⟨?_, ?_, ?_, ?_, ?_⟩ ?_
    · exact blk_far (blk_far (blk_put (blk_put (blk_put BH10.out 0 _ rfl) 1 _ rfl) 2 _ rfl) EHL.out _) EHE.out _
    · exact blk_far (blk_put (blk_far (blk_far (blk_far BL10.out (Ne.symm EHL.out) _) (Ne.symm EHL.out) _) (Ne.symm EHL.out) _) 0 _ rfl) ELE.out _
    · exact blk_put (blk_far (blk_far (blk_far (blk_far BE10.out (Ne.symm EHE.out) _) (Ne.symm EHE.out) _) (Ne.symm EHE.out) _) (Ne.symm ELE.out) _) 0 _ rfl
    · exact below_set (below_set (below_set (below_set (below_set HB10.out GH.out) GH.out) GH.out) GL.out) GE.out
    · refine Kd.R_mono (Kd.R_step (Kd.R_types (Kd.R_types (Kd.R_types HO10.out BH10.out (by decide)) BL10.out (by decide)) BE10.out (by decide)) (fun k_ hk hlt => ?_)) (fun _ _ => trivial)
      exact (Below.heap_setCell _ _ _ _ hk.2).trans ((Below.heap_setCell _ _ _ _ hk.1.2).trans ((Below.heap_setCell _ _ _ _ hk.1.1.2).trans ((Below.heap_setCell _ _ _ _ hk.1.1.2).trans (Below.heap_setCell _ _ _ _ hk.1.1.2))))
    clear hh0 hf0 hh1 hf1 hh2 hf2 hl0 hlf he0 hef
    rintro wz ⟨hbh, hbl, hbe, hb, ho⟩
    have BHZ := Aside0.mk hbh
    have BLZ := Aside0.mk hbl
    have BEZ := Aside0.mk hbe
    have HBZ := Aside0.mk hb
    have HOZ := Aside0.mk ho
    clear hbh hbl hbe hb ho
    go_wp2
    refine leaves_cons (f := 37) (args := #[.pointer (some ⟨gh, 0, none⟩), .pointer (some ⟨gl, 0, none⟩), .pointer (some ⟨ge, 0, none⟩)]) (by simp) (by simp [go_sem]) ?_
    refine (catch_idle _ _ _ _).mono ?_
    rintro e u' w'' ⟨rfl, rfl, hb⟩
    have hbh := blk_below BHZ.out hb
    have hbl := blk_below BLZ.out hb
    have hbe := blk_below BEZ.out hb
    have hh0 := blk_cell hbh 0
    have hh1 := blk_cell hbh 1
    have hh2 := blk_cell hbh 2
    have hl0 := blk_cell hbl 0
    have he0 := blk_cell hbe 0
    simp only [Leaves, settle]
    rw [← HHD.out.1, ← HHD.out.2.1, ← HHD.out.2.2]
    refine ⟨_, ?_, _, rfl, Kd.R_below HOZ.out hb, below_step HBZ.out hb⟩
    simp [results, Try.results18, go_sem, hh0, hh1, hh2, hl0, he0]
/-- What Take tells of bytes whose sum is right. -/
def takeT (l : List Int) : Except Int (List S29) → Int × Int × Int × List S29 × Int
  | .error e => (0, 0, 0, [], e)
  | .ok cs => (numN l 2, numN (l.drop 2) 2, numN (l.drop 4) 4, cs, 0)
def chunk_Take.f (k : Nat) (l0 : List Int) : Option (Int × Int × Int × List S29 × Int) :=
  if ∀ x ∈ l0, 0 ≤ x ∧ x ≤ 255 then
    if l0.length < 16 then some (0, 0, 0, [], 3)
    else if 1480 < l0.length then some (0, 0, 0, [], 6)
    else (sums_Stamped.f k l0).bind fun t => some (if t = true then takeT l0 (chunksV ((l0.drop 12).length + 1) (l0.drop 12) []) else (0, 0, 0, [], 5))
  else none
theorem chunk_Take.mono : ∀ a0 k, LeO (chunk_Take.f k a0) (chunk_Take.f (k + 1) a0) := by
  intro a0 k
  unfold chunk_Take.f
  exact LeO.ite (LeO.ite (LeO.refl _) (LeO.ite (LeO.refl _) (LeO.bind (sums_Stamped.mono _ _) (fun t => LeO.refl _)))) (LeO.refl _)
theorem chunk_Take.calls (k : Nat) (A0 : Option Addr) (c0 : Nat) (l0 : List Int) (r1 : Int) (r2 : Int) (r3 : Int) (r4 : List S29) (r5 : Int) (w : World) (hr0 : Kd.C (Kd.int .u8) w A0 l0.length l0) (hc0 : l0.length ≤ c0) (h : chunk_Take.f k l0 = some (r1, r2, r3, r4, r5)) :
    Calls Try.prog 18 #[.slice A0 l0.length c0] w fun e w' => ∃ v1_ : Value, e = .returned (.tuple #[.agg #[.int .u16 r1, .int .u16 r2, .int .u32 r3], v1_, .int .i64 r5]) ∧ Kd.R k29 29 w' w.heap.size (fun _ => True) v1_ r4 ∧ Below w.heap.size w w' := by
  show Calls _ _ _ _ (TakeOut w r1 r2 r3 r4 r5)
  unfold chunk_Take.f at h
  split at h
  · rename_i hby
    split at h
    · rename_i h1
      simp only [Option.some.injEq, Prod.mk.injEq] at h
      obtain ⟨rfl, rfl, rfl, rfl, rfl⟩ := h
      exact take_short k A0 c0 l0 w hr0 hc0 h1
    · rename_i h1
      split at h
      · rename_i h2
        simp only [Option.some.injEq, Prod.mk.injEq] at h
        obtain ⟨rfl, rfl, rfl, rfl, rfl⟩ := h
        exact take_long k A0 c0 l0 w hr0 hc0 (by omega) h2
      · rename_i h2
        obtain ⟨t, hs, h⟩ := Option.bind_eq_some_iff.mp h
        cases t with
        | false =>
          simp only [Bool.false_eq_true, ↓reduceIte, Option.some.injEq, Prod.mk.injEq] at h
          obtain ⟨rfl, rfl, rfl, rfl, rfl⟩ := h
          exact take_sum k A0 c0 l0 w hr0 hc0 (by omega) (by omega) hs
        | true =>
          simp only [↓reduceIte, Option.some.injEq] at h
          cases hsp : chunksV ((l0.drop 12).length + 1) (l0.drop 12) [] with
          | error e =>
            rw [hsp] at h
            simp only [takeT, Prod.mk.injEq] at h
            obtain ⟨rfl, rfl, rfl, rfl, rfl⟩ := h
            exact take_bad2 k A0 c0 l0 w hr0 hc0 hby (by omega) (by omega) hs e hsp
          | ok cs =>
            rw [hsp] at h
            simp only [takeT, Prod.mk.injEq] at h
            obtain ⟨rfl, rfl, rfl, rfl, rfl⟩ := h
            exact take_good k A0 c0 l0 w hr0 hc0 hby (by omega) (by omega) hs cs hsp
  · cases h
end Go.Proofs.Ytaahkggbjpdofaa.M
end
