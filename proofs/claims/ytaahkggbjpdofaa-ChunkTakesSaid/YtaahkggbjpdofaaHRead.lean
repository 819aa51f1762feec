/- The reader of packets, told with its faults: num, rest, params. -/
import Derived.Test.YtaahkggbjpdofaaM12
import Derived.Test.YtaahkggbjpdofaaPNumB
import Derived.WalkSpells
import Derived.LoopN
namespace Go.Proofs.Ytaahkggbjpdofaa.M
open Go.RowKit Go.Proofs.YtaahkggbjpdofaaW.PrintWords Go.Proofs.YtaahkggbjpdofaaW.PrintLast Go.Proofs.YtaahkggbjpdofaaW.PrintMore
open Go.Proofs.Ytaahkggbjpdofaa.Pure
set_option linter.unusedVariables false
set_option linter.unusedSimpArgs false
abbrev Bytes (l : List Int) : Prop := ∀ x ∈ l, 0 ≤ x ∧ x ≤ 255
theorem Bytes.drop {l : List Int} (h : Bytes l) (n : Nat) : Bytes (l.drop n) := fun x hx => h x (List.mem_of_mem_drop hx)
theorem Bytes.take {l : List Int} (h : Bytes l) (n : Nat) : Bytes (l.take n) := fun x hx => h x (List.mem_of_mem_take hx)
/-- A number of the first n bytes. -/
def numN (l : List Int) (n : Nat) : Int := numL 0 (l.take n)
theorem numN_range {l : List Int} (h : Bytes l) (n : Nat) (hn : n ≤ 4) : 0 ≤ numN l n ∧ numN l n < 4294967296 := by
  have h1 := numL_range (l.take n) 0 0 (h.take n) (by decide) (by decide)
  have h2 : (l.take n).length ≤ 4 := by rw [List.length_take]; omega
  unfold numN
  have hp : ∀ m : Fin 5, (256 : Int) ^ (0 + m.val) ≤ 4294967296 := by decide
  have := hp ⟨(l.take n).length, by omega⟩
  exact ⟨h1.1, Int.lt_of_lt_of_le h1.2 this⟩
theorem num2_range {l : List Int} (h : Bytes l) : 0 ≤ numN l 2 ∧ numN l 2 < 65536 := by
  have h1 := numL_range (l.take 2) 0 0 (h.take 2) (by decide) (by decide)
  have h2 : (l.take 2).length ≤ 2 := by rw [List.length_take]; omega
  unfold numN
  have hp : ∀ m : Fin 3, (256 : Int) ^ (0 + m.val) ≤ 65536 := by decide
  have := hp ⟨(l.take 2).length, by omega⟩
  exact ⟨h1.1, Int.lt_of_lt_of_le h1.2 this⟩
theorem num_tell {l : List Int} (h : Bytes l) (n : Nat) (hn : 1 ≤ n) (h4 : n ≤ 4) (hl : n ≤ l.length) : octet_Num.f 9 (l.take n) 0 n = some (numN l n, 0) := by
  have e : (l.take n).length = n := by rw [List.length_take]; omega
  rw [num_f (l.take n) 0 n (by rw [e]; omega) (h.take n) (i64_wf (by decide) (by decide)) (i64_wf (by omega) (by omega)) (Nat.le_refl _)]
  unfold numS numN
  rw [if_pos (by omega), if_pos (by omega), if_pos (by rw [e]; omega), show (0 : Int).toNat = 0 from rfl, List.drop_zero, Int.toNat_natCast, List.take_take, Nat.min_self]
/-- num, both ways. -/
theorem num_both (g : Nat) (l : List Int) (n : Nat) (r : Int) (w0 w : World) (hB : Below w0.heap.size w0 w) (h : RdrOf w0 w g l) (hb : Bytes l) (hr : r = numN l n) (hn : 1 ≤ n) (h4 : n ≤ 4) :
    Calls Try.prog 40 #[.pointer (some ⟨g, 0, none⟩), .int .i64 n] w fun x w' => (n ≤ l.length ∧ x = .returned (.int .i64 r) ∧ RdrOf w0 w' g (l.drop n) ∧ Below w0.heap.size w0 w' ∧ Kept w w' (fun k => k = g)) ∨ (l.length < n ∧ x = .panicked [{ v := faultV 4, recovered := false }] ∧ w' = w) := by
  subst hr
  by_cases hl : n ≤ l.length
  · refine (num_ok 9 g l n (numN l n) 0 w0 w hB h (by omega) (by omega) (by rw [Int.toNat_natCast]; exact num_tell hb n hn h4 hl)).mono ?_
    rintro x w' ⟨rfl, hx, hB', hk⟩
    have hr := numN_range hb n h4
    rw [Int.toNat_natCast] at hx
    exact .inl ⟨hl, by rw [w64 (by omega) (by omega)], hx, hB', hk⟩
  · refine (num_bad g l n w0 w h (by omega)).mono ?_
    rintro x w' ⟨rfl, rfl⟩
    exact .inr ⟨by omega, rfl, rfl⟩
theorem num2_both (g : Nat) (l : List Int) (r : Int) (w0 w : World) (hB : Below w0.heap.size w0 w) (h : RdrOf w0 w g l) (hb : Bytes l) (hr : r = numN l 2) :
    Calls Try.prog 40 #[.pointer (some ⟨g, 0, none⟩), .int .i64 2] w fun x w' => (2 ≤ l.length ∧ x = .returned (.int .i64 r) ∧ RdrOf w0 w' g (l.drop 2) ∧ Below w0.heap.size w0 w' ∧ Kept w w' (fun k => k = g)) ∨ (l.length < 2 ∧ x = .panicked [{ v := faultV 4, recovered := false }] ∧ w' = w) :=
  num_both g l 2 r w0 w hB h hb hr (by decide) (by decide)
theorem num4_both (g : Nat) (l : List Int) (r : Int) (w0 w : World) (hB : Below w0.heap.size w0 w) (h : RdrOf w0 w g l) (hb : Bytes l) (hr : r = numN l 4) :
    Calls Try.prog 40 #[.pointer (some ⟨g, 0, none⟩), .int .i64 4] w fun x w' => (4 ≤ l.length ∧ x = .returned (.int .i64 r) ∧ RdrOf w0 w' g (l.drop 4) ∧ Below w0.heap.size w0 w' ∧ Kept w w' (fun k => k = g)) ∨ (l.length < 4 ∧ x = .panicked [{ v := faultV 4, recovered := false }] ∧ w' = w) :=
  num_both g l 4 r w0 w hB h hb hr (by decide) (by decide)
theorem num2_ok (g : Nat) (l : List Int) (r : Int) (w0 w : World) (hB : Below w0.heap.size w0 w) (h : RdrOf w0 w g l) (hb : Bytes l) (hr : r = numN l 2) (hl : 2 ≤ l.length) :
    Calls Try.prog 40 #[.pointer (some ⟨g, 0, none⟩), .int .i64 2] w fun x w' => x = .returned (.int .i64 r) ∧ RdrOf w0 w' g (l.drop 2) ∧ Below w0.heap.size w0 w' ∧ Kept w w' (fun k => k = g) :=
  (num2_both g l r w0 w hB h hb hr).mono (fun x w' hh => hh.elim (fun h1 => h1.2) (fun h1 => absurd h1.1 (by omega)))
theorem num4_ok (g : Nat) (l : List Int) (r : Int) (w0 w : World) (hB : Below w0.heap.size w0 w) (h : RdrOf w0 w g l) (hb : Bytes l) (hr : r = numN l 4) (hl : 4 ≤ l.length) :
    Calls Try.prog 40 #[.pointer (some ⟨g, 0, none⟩), .int .i64 4] w fun x w' => x = .returned (.int .i64 r) ∧ RdrOf w0 w' g (l.drop 4) ∧ Below w0.heap.size w0 w' ∧ Kept w w' (fun k => k = g) :=
  (num4_both g l r w0 w hB h hb hr).mono (fun x w' hh => hh.elim (fun h1 => h1.2) (fun h1 => absurd h1.1 (by omega)))
set_option maxHeartbeats 1600000 in
set_option maxRecDepth 100000 in
theorem copied_calls (A0 : Option Addr) (c0 : Nat) (l0 : List Int) (w : World) (hr0 : Kd.C (Kd.int .u8) w A0 l0.length l0) (hc0 : l0.length ≤ c0) (hl : l0.length < 140737488355328) :
    Calls Try.prog 92 #[.slice A0 l0.length c0] w fun e w' => ∃ v0_ : Value, e = .returned v0_ ∧ Kd.R (Kd.int .u8) 5 w' w.heap.size (fun _ => True) v0_ l0 ∧ Below w.heap.size w w' := by
  have HR := Aside0.mk hr0
  have HC := Aside0.mk hc0
  have HF := Aside0.mk (show slices_Clone_byte_byte.f l0 = some l0 by unfold slices_Clone_byte_byte.f; rw [if_pos hl])
  clear hr0 hc0 hl
  go_enter Try.func92, Try.ntmps92
  go_wp2_with (first | (go_at_call 50; (with_reducible refine (slices_Clone_byte_byte.calls A0 c0 l0 l0 w HR.out HC.out HF.out).mono ?_); rintro e w2 ⟨v2, rfl, ho2, hb2⟩; have HO := Aside0.mk ho2; have HB := Aside0.mk hb2; clear ho2 hb2))
  go_ret
  exact ⟨v2, rfl, HO.out, HB.out⟩
set_option maxHeartbeats 1600000 in
set_option maxRecDepth 100000 in
theorem rest_calls (g : Nat) (l : List Int) (w0 w : World) (hB : Below w0.heap.size w0 w) (h : RdrOf w0 w g l) (hl : l.length < 140737488355328) :
    Calls Try.prog 91 #[.pointer (some ⟨g, 0, none⟩)] w fun x w' => ∃ v, x = .returned v ∧ Kd.R (Kd.int .u8) 5 w' w.heap.size (fun _ => True) v l ∧ RdrOf w0 w' g [] ∧ Below w0.heap.size w0 w' ∧ Kept w w' (fun k => k = g) := by
  obtain ⟨hg, A, c, hx, hc, hC⟩ := h
  have hc0 : w.cell? ⟨g, 0, none⟩ = some (.slice A l.length c) := blk_cell hx 0
  have HX := Aside0.mk (show RdrOf w0 w g l from ⟨hg, A, c, hx, hc, hC⟩)
  have HB := Aside0.mk hB
  have HL := Aside0.mk hl
  obtain ⟨y, hy⟩ : ∃ y, y = l := ⟨_, rfl⟩
  have HY := Aside0.mk (show y = l.take ((l.length : Int)).toNat by rw [hy, Int.toNat_natCast, List.take_length])
  have HYE := Aside0.mk hy
  have H0 := Aside0.mk (show (0 : Int) ≤ (l.length : Int) by omega)
  have HM := Aside0.mk (Int.le_refl (l.length : Int))
  clear hg hx hc hC hB hl hy
  go_enter Try.func91, Try.ntmps91
  go_wp2_with (first | (go_at_call 57; (with_reducible refine (take_y g l y (l.length : Int) 0 w0 w HY.out HB.out HX.out H0.out HM.out).mono ?_); rintro e w1 ⟨A1, c1, rfl, hc1, hC1, hx1, hb1, hk1⟩; have HC1 := Aside0.mk hC1; have HD1 := Aside0.mk hc1; have HB1 := Aside0.mk hb1; have HX1 := Aside0.mk hx1; have HK1 := Aside0.mk hk1; clear hC1 hc1 hb1 hx1 hk1) | (go_at_call 92; (with_reducible refine (copied_calls A1 c1 y w1 (Kd.C_below HC1.out HB1.out) HD1.out (by rw [HYE.out]; exact HL.out)).mono ?_); rintro e w2 ⟨v2, rfl, ho2, hb2⟩; have HO2 := Aside0.mk ho2; have HB2 := Aside0.mk hb2; clear ho2 hb2))
  go_ret
  refine ⟨v2, rfl, ?_, ?_, below_step HB1.out HB2.out, HK1.out.below HB2.out⟩
  · have h := HO2.out
    rw [HYE.out] at h
    exact Kd.R_lower h HK1.out.1
  · have h := HX1.out.below HB2.out
    rw [Int.toNat_natCast, List.drop_length] at h
    exact h
/-- What comes behind a region, told once for all its ways. -/
theorem region_to {P : Program} {c : Code} {a : Act} {w : World} {Q : Exit → Act → World → Prop} (F : Act → World → Prop) (h : ∀ K1 : Act → World → Prop, Aside0 (∀ a' w', F a' w' → K1 a' w') → c.wp P (Exit.then K1 (fun _ _ _ => False)) a w) (k : ∀ a' w', F a' w' → Q .normal a' w') : c.wp P Q a w :=
  Code.wp_mono (fun e a' w' q => by cases e with | normal => exact k _ _ q | _ => exact q.elim) (h F ⟨fun _ _ h => h⟩)
theorem RdrOf.under {w0 w W : World} {g n : Nat} {l : List Int} (h : RdrOf w0 w g l) (hb : Below n w W) (hg : g < n) : RdrOf w0 W g l := by
  obtain ⟨h1, A, c, h2, h3, h4⟩ := h
  exact ⟨h1, A, c, (hb.block g hg).trans h2, h3, h4⟩
/-- The parameters of bytes, behind those that were taken; or the fault. -/
def parsV : Nat → List Int → List S48 → Except Int (List S48)
  | 0, _, out => .ok out
  | f + 1, l, out =>
    if l.length = 0 then .ok out
    else if l.length < 4 then .error 4
    else if numN (l.drop 2) 2 < 4 ∨ (l.length : Int) < numN (l.drop 2) 2 then .error 4
    else if 16 ≤ out.length then .error 6
    else parsV f (l.drop (((numN (l.drop 2) 2).toNat + 3) / 4 * 4)) (out ++ [⟨numN l 2, (l.drop 4).take ((numN (l.drop 2) 2).toNat - 4)⟩])
/-- What params tells. -/
def ParsOut (w0 w w' : World) (g : Nat) (x : Ending) : Except Int (List S48) → Prop
  | .ok ps => ∃ v, x = .returned v ∧ Kd.R k48 48 w' w.heap.size (fun _ => True) v ps ∧ RdrOf w0 w' g [] ∧ Kept w w' (fun k => k = g)
  | .error e => x = .panicked [{ v := faultV e, recovered := false }]
theorem padded_calls (n : Int) (w : World) (h0 : 0 ≤ n) (h1 : n ≤ 1000000) : Calls Try.prog 30 #[.int .i64 n] w fun e w' => e = .returned (.int .i64 ((n + 3) / 4 * 4)) ∧ w' = w := by
  have e1 : Int.tdiv (n + 3) 4 = (n + 3) / 4 := Int.tdiv_eq_ediv_of_nonneg (by omega)
  have w1 : wrap64 (n + 3) = n + 3 := w64 (by omega) (by omega)
  have w2 : wrap64 ((n + 3) / 4) = (n + 3) / 4 := w64 (by omega) (by omega)
  have w3 : wrap64 ((n + 3) / 4 * 4) = (n + 3) / 4 * 4 := w64 (by omega) (by omega)
  have W3 := Aside0.mk w3
  clear h0 h1 w3
  go_enter Try.func30, Try.ntmps30
  go_wp2
  go_ret
  exact ⟨congrArg (fun z => Ending.returned (.int .i64 z)) W3.out, rfl⟩
theorem padded_is (n r : Int) (w : World) (hr : r = (n + 3) / 4 * 4) (h0 : 0 ≤ n) (h1 : n ≤ 1000000) : Calls Try.prog 30 #[.int .i64 n] w fun e w' => e = .returned (.int .i64 r) ∧ w' = w := by
  subst hr
  exact padded_calls n w h0 h1
attribute [local go_sem] max2_int min2_int max_two min_two
set_option maxHeartbeats 4000000 in
set_option maxRecDepth 100000 in
theorem params_calls (g : Nat) (l : List Int) (w0 w : World) (hB : Below w0.heap.size w0 w) (hx : RdrOf w0 w g l) (hb : Bytes l) (hl : l.length ≤ 65536) :
    Calls Try.prog 96 #[.pointer (some ⟨g, 0, none⟩)] w fun x w' => Below w0.heap.size w0 w' ∧ ParsOut w0 w w' g x (parsV (l.length + 1) l []) := by
  have HB := Aside0.mk hB
  have HX := Aside0.mk hx
  have HBY := Aside0.mk hb
  have HL := Aside0.mk hl
  have HGL := Aside0.mk hx.lt
  have OKG := Aside0.mk (show ∀ k, w.heap.size ≤ k → ¬ k = g from fun k hk e => by have := HGL.out; omega)
  clear hB hx hb hl
  go_enter Try.func96, Try.ntmps96
  go_wp2
  go_loopg [3] (l.length + 1) (fun gk v3 wr => ∃ lr : List Int, ∃ out : List S48, Aside0 (parsV gk lr out = parsV (l.length + 1) l []) ∧ Aside0 (lr.length < gk) ∧ Aside0 (lr.length ≤ l.length) ∧ Aside0 (Bytes lr) ∧ Aside0 (out.length ≤ 16) ∧ Aside0 (Kd.R k48 48 wr w.heap.size (fun k_ => w.heap.size ≤ k_) v3 out) ∧ Aside0 (RdrOf w0 wr g lr) ∧ Aside0 (Below w0.heap.size w0 wr) ∧ Aside0 (Kept w wr (fun k => k = g)))
  case atStart => exact ⟨l, [], ⟨rfl⟩, ⟨by omega⟩, ⟨Nat.le_refl _⟩, HBY, ⟨by decide⟩, ⟨Kd.R_nil _ _ _ _ _⟩, HX, HB, ⟨Kept.refl _ _⟩⟩
  case round =>
    obtain ⟨lr, out, HP, HGK, HLR, HBR, HOL, HO, HXR, HBB, HKK⟩ := hrel
    cases gk with
    | zero => exact absurd HGK.out (by omega)
    | succ gk =>
    obtain ⟨l2, hl2⟩ : ∃ l2, l2 = lr.drop 2 := ⟨_, rfl⟩
    obtain ⟨l4, hl4⟩ : ∃ l4, l4 = l2.drop 2 := ⟨_, rfl⟩
    obtain ⟨kd, hkd⟩ : ∃ kd, kd = numN lr 2 := ⟨_, rfl⟩
    obtain ⟨n, hn⟩ : ∃ n, n = numN l2 2 := ⟨_, rfl⟩
    have HL2 := Aside0.mk hl2
    have HL4 := Aside0.mk hl4
    have HKD := Aside0.mk hkd
    have HN := Aside0.mk hn
    have HB2 := Aside0.mk (show Bytes l2 by rw [hl2]; exact HBR.out.drop 2)
    have HKR := Aside0.mk (show 0 ≤ kd ∧ kd < 65536 by rw [hkd]; exact num2_range HBR.out)
    have HNR := Aside0.mk (show 0 ≤ n ∧ n < 65536 by rw [hn]; exact num2_range HB2.out)
    have HY2 := Aside0.mk (show l2.length = lr.length - 2 by rw [hl2, List.length_drop])
    have HY4 := Aside0.mk (show l4.length = lr.length - 4 by rw [hl4, hl2, List.length_drop, List.length_drop]; omega)
    -- what the spec says of this round
    have HS := Aside0.mk (show parsV (gk + 1) lr out = if lr.length = 0 then .ok out else if lr.length < 4 then .error 4 else if n < 4 ∨ (lr.length : Int) < n then .error 4 else if 16 ≤ out.length then .error 6 else parsV gk (lr.drop ((n.toNat + 3) / 4 * 4)) (out ++ [⟨kd, (lr.drop 4).take (n.toNat - 4)⟩]) by rw [parsV, hn, hl2, hkd])
    clear hl2 hl4 hkd hn
    by_cases e0 : lr.length = 0
    · have HE := Aside0.mk e0
      have b0 : decide (0 < lr.length) = false := decide_eq_false (by omega)
      have HB0 := Aside0.mk b0
      clear e0 b0
      go_wp2_with (first | (go_at_call 58; (with_reducible refine (left_calls g lr false w0 _ HXR.out HB0.out).mono ?_); rintro e w2 ⟨rfl, hw2⟩; have hw2 := hw2.symm; subst hw2))
      go_ret
      refine ⟨HBB.out, ?_⟩
      rw [← HP.out, HS.out, if_pos HE.out]
      have hnil : lr = [] := List.eq_nil_of_length_eq_zero HE.out
      exact ⟨_, rfl, Kd.R_mono HO.out (fun _ _ => trivial), by rw [← hnil]; exact HXR.out, HKK.out⟩
    have b0 : decide (0 < lr.length) = true := decide_eq_true (by omega)
    have HB0 := Aside0.mk b0
    have HE := Aside0.mk e0
    clear b0 e0
    by_cases ef : lr.length < 4
    · have HF := Aside0.mk ef
      clear ef
      go_wp2_with (first | (go_at_call 58; (with_reducible refine (left_calls g lr true w0 _ HXR.out HB0.out).mono ?_); rintro e w2 ⟨rfl, hw2⟩; have hw2 := hw2.symm; subst hw2) | (go_at_call 40; (with_reducible refine (num2_both g lr kd w0 _ HBB.out HXR.out HBR.out HKD.out).mono ?_); rintro e w3 (⟨hle, rfl, hx3, hb3, hk3⟩ | ⟨hlt, rfl, hw3⟩); (have HX3 := Aside0.mk (show RdrOf w0 w3 g l2 by rw [HL2.out]; exact hx3); have HB3 := Aside0.mk hb3; clear hle hx3 hb3 hk3); rotate_left; (have hw3 := hw3.symm; subst hw3; refine ⟨rfl, HBB.out, ?_⟩; rw [← HP.out, HS.out, if_neg HE.out, if_pos HF.out]; rfl)) | (go_at_call 40; (with_reducible refine (num_bad g l2 2 w0 w3 HX3.out (by have := HF.out; have := HE.out; have := HY2.out; omega)).mono ?_); rintro e w4 ⟨rfl, hw4⟩; have hw4 := hw4.symm; subst hw4; refine ⟨rfl, HB3.out, ?_⟩; rw [← HP.out, HS.out, if_neg HE.out, if_pos HF.out]; rfl))
    have HF := Aside0.mk ef
    have hn4 : wrap64 (n - 4) = n - 4 := w64 (by have := HNR.out; omega) (by have := HNR.out; omega)
    clear ef
    by_cases c1 : n < 4
    · have c1b : decide (n ≥ 4) = false := decide_eq_false (by omega)
      have c1c : decide (4 ≤ n) = false := decide_eq_false (by omega)
      have HC1 := Aside0.mk c1
      clear c1
      go_wp2_with (first | (go_at_call 58; (with_reducible refine (left_calls g lr true w0 _ HXR.out HB0.out).mono ?_); rintro e w2 ⟨rfl, hw2⟩; have hw2 := hw2.symm; subst hw2) | (go_at_call 40; (with_reducible refine (num2_ok g lr kd w0 _ HBB.out HXR.out HBR.out HKD.out (by have := HF.out; omega)).mono ?_); rintro e w3 ⟨rfl, hx3, hb3, hk3⟩; have HX3 := Aside0.mk (show RdrOf w0 w3 g l2 by rw [HL2.out]; exact hx3); have HB3 := Aside0.mk hb3; have HK3 := Aside0.mk (Kept.then_ HKK.out hk3 (fun k hk => .inl hk)); have HO3 := Aside0.mk (Kd.R_kept HO.out hk3 (fun k hk => by exact OKG.out k hk)); clear hx3 hb3 hk3) | (go_at_call 40; (with_reducible refine (num2_ok g l2 n w0 w3 HB3.out HX3.out HB2.out HN.out (by have := HF.out; have := HY2.out; omega)).mono ?_); rintro e w4 ⟨rfl, hx4, hb4, hk4⟩; have HX4 := Aside0.mk (show RdrOf w0 w4 g l4 by rw [HL4.out]; exact hx4); have HB4 := Aside0.mk hb4; have HK4 := Aside0.mk (Kept.then_ HK3.out hk4 (fun k hk => .inl hk)); have HO4 := Aside0.mk (Kd.R_kept HO3.out hk4 (fun k hk => by exact OKG.out k hk)); obtain ⟨hg4_, A4, c4, hbx4, hcl4, hC4⟩ := hx4; rw [← HL4.out] at hbx4 hcl4 hC4; have hq4 : w4.cell? ⟨g, 0, none⟩ = some (.slice A4 l4.length c4) := blk_cell hbx4 0; clear hg4_ hbx4 hcl4 hC4 hb4 hk4) | (go_at_call 38; (with_reducible refine (must_bad _ _).mono ?_); rintro e wm ⟨rfl, hwm⟩; have hwm := hwm.symm; subst hwm))
      refine ⟨rfl, HB4.out, ?_⟩
      rw [← HP.out, HS.out, if_neg HE.out, if_neg HF.out, if_pos (.inl HC1.out)]
      rfl
    have c1b : decide (n ≥ 4) = true := decide_eq_true (by omega)
    have c1c : decide (4 ≤ n) = true := decide_eq_true (by omega)
    by_cases c2 : (lr.length : Int) < n
    · have c2b : decide (n - 4 ≤ (l4.length : Int)) = false := decide_eq_false (by have := HY4.out; have := HF.out; omega)
      have HC2 := Aside0.mk c2
      clear c1 c2
      go_wp2_with (first | (go_at_call 58; (with_reducible refine (left_calls g lr true w0 _ HXR.out HB0.out).mono ?_); rintro e w2 ⟨rfl, hw2⟩; have hw2 := hw2.symm; subst hw2) | (go_at_call 40; (with_reducible refine (num2_ok g lr kd w0 _ HBB.out HXR.out HBR.out HKD.out (by have := HF.out; omega)).mono ?_); rintro e w3 ⟨rfl, hx3, hb3, hk3⟩; have HX3 := Aside0.mk (show RdrOf w0 w3 g l2 by rw [HL2.out]; exact hx3); have HB3 := Aside0.mk hb3; have HK3 := Aside0.mk (Kept.then_ HKK.out hk3 (fun k hk => .inl hk)); have HO3 := Aside0.mk (Kd.R_kept HO.out hk3 (fun k hk => by exact OKG.out k hk)); clear hx3 hb3 hk3) | (go_at_call 40; (with_reducible refine (num2_ok g l2 n w0 w3 HB3.out HX3.out HB2.out HN.out (by have := HF.out; have := HY2.out; omega)).mono ?_); rintro e w4 ⟨rfl, hx4, hb4, hk4⟩; have HX4 := Aside0.mk (show RdrOf w0 w4 g l4 by rw [HL4.out]; exact hx4); have HB4 := Aside0.mk hb4; have HK4 := Aside0.mk (Kept.then_ HK3.out hk4 (fun k hk => .inl hk)); have HO4 := Aside0.mk (Kd.R_kept HO3.out hk4 (fun k hk => by exact OKG.out k hk)); obtain ⟨hg4_, A4, c4, hbx4, hcl4, hC4⟩ := hx4; rw [← HL4.out] at hbx4 hcl4 hC4; have hq4 : w4.cell? ⟨g, 0, none⟩ = some (.slice A4 l4.length c4) := blk_cell hbx4 0; clear hg4_ hbx4 hcl4 hC4 hb4 hk4) | (go_at_call 38; (with_reducible refine (must_bad _ _).mono ?_); rintro e wm ⟨rfl, hwm⟩; have hwm := hwm.symm; subst hwm))
      refine ⟨rfl, HB4.out, ?_⟩
      rw [← HP.out, HS.out, if_neg HE.out, if_neg HF.out, if_pos (.inr HC2.out)]
      rfl
    have c2b : decide (n - 4 ≤ (l4.length : Int)) = true := decide_eq_true (by have := HY4.out; have := HF.out; omega)
    have HC1 := Aside0.mk (show ¬ (n < 4 ∨ (lr.length : Int) < n) by omega)
    clear c1 c2
    by_cases c3 : 16 ≤ out.length
    · have c3b : decide ((out.length : Int) < 16) = false := decide_eq_false (by omega)
      have HC3 := Aside0.mk c3
      clear c3
      obtain ⟨A3, c3', he3⟩ := Kd.R_slice HO.out
      subst he3
      go_wp2_with (first | (go_at_call 58; (with_reducible refine (left_calls g lr true w0 _ HXR.out HB0.out).mono ?_); rintro e w2 ⟨rfl, hw2⟩; have hw2 := hw2.symm; subst hw2) | (go_at_call 40; (with_reducible refine (num2_ok g lr kd w0 _ HBB.out HXR.out HBR.out HKD.out (by have := HF.out; omega)).mono ?_); rintro e w3 ⟨rfl, hx3, hb3, hk3⟩; have HX3 := Aside0.mk (show RdrOf w0 w3 g l2 by rw [HL2.out]; exact hx3); have HB3 := Aside0.mk hb3; have HK3 := Aside0.mk (Kept.then_ HKK.out hk3 (fun k hk => .inl hk)); have HO3 := Aside0.mk (Kd.R_kept HO.out hk3 (fun k hk => by exact OKG.out k hk)); clear hx3 hb3 hk3) | (go_at_call 40; (with_reducible refine (num2_ok g l2 n w0 w3 HB3.out HX3.out HB2.out HN.out (by have := HF.out; have := HY2.out; omega)).mono ?_); rintro e w4 ⟨rfl, hx4, hb4, hk4⟩; have HX4 := Aside0.mk (show RdrOf w0 w4 g l4 by rw [HL4.out]; exact hx4); have HB4 := Aside0.mk hb4; have HK4 := Aside0.mk (Kept.then_ HK3.out hk4 (fun k hk => .inl hk)); have HO4 := Aside0.mk (Kd.R_kept HO3.out hk4 (fun k hk => by exact OKG.out k hk)); obtain ⟨hg4_, A4, c4, hbx4, hcl4, hC4⟩ := hx4; rw [← HL4.out] at hbx4 hcl4 hC4; have hq4 : w4.cell? ⟨g, 0, none⟩ = some (.slice A4 l4.length c4) := blk_cell hbx4 0; clear hg4_ hbx4 hcl4 hC4 hb4 hk4) | (go_at_call 38; (with_reducible refine (must_ok 4 _).mono ?_); rintro e wm ⟨rfl, hwm⟩; have hwm := hwm.symm; subst hwm) | (go_at_call 38; (with_reducible refine (must_bad _ _).mono ?_); rintro e wm ⟨rfl, hwm⟩; have hwm := hwm.symm; subst hwm))
      refine ⟨rfl, HB4.out, ?_⟩
      rw [← HP.out, HS.out, if_neg HE.out, if_neg HF.out, if_neg HC1.out, if_pos HC3.out]
      rfl
    have c3b : decide ((out.length : Int) < 16) = true := decide_eq_true (by omega)
    have HC3 := Aside0.mk c3
    clear c3
    obtain ⟨A3, c3', he3⟩ := Kd.R_slice HO.out
    subst he3
    obtain ⟨y, hy⟩ : ∃ y, y = l4.take (n - 4).toNat := ⟨_, rfl⟩
    obtain ⟨l5, hl5⟩ : ∃ l5, l5 = l4.drop (n - 4).toNat := ⟨_, rfl⟩
    have HYE := Aside0.mk hy
    have HL5 := Aside0.mk hl5
    have HYL := Aside0.mk (show y.length < 140737488355328 by rw [hy, List.length_take]; have := HY4.out; have := HLR.out; have := HL.out; omega)
    have HY5 := Aside0.mk (show (l5.length : Int) = (lr.length : Int) - n by rw [hl5, List.length_drop]; have := HY4.out; have := HF.out; have := HC1.out; omega)
    have HM0 := Aside0.mk (show (0 : Int) ≤ n - 4 by have := HC1.out; omega)
    have HM4 := Aside0.mk (show n - 4 ≤ (l4.length : Int) by have := HY4.out; have := HF.out; have := HC1.out; omega)
    have HLIM := Aside0.mk (show (out.length + 1) * 32 ≤ 140737488355328 by have := HOL.out; omega)
    have hku : IntKind.u16.wrap kd = kd := by
      have h := HKR.out
      have : IntKind.u16.wrap kd = kd % 65536 := by simp [IntKind.wrap, IntKind.bits, IntKind.signed]
      rw [this]; omega
    have hku2 : kd % 65536 = kd := by have h := HKR.out; omega
    have HWS := Aside0.mk HB.out.size
    clear hy hl5
    go_wp2_with (first | (go_at_call 58; (with_reducible refine (left_calls g lr true w0 _ HXR.out HB0.out).mono ?_); rintro e w2 ⟨rfl, hw2⟩; have hw2 := hw2.symm; subst hw2) | (go_at_call 40; (with_reducible refine (num2_ok g lr kd w0 _ HBB.out HXR.out HBR.out HKD.out (by have := HF.out; omega)).mono ?_); rintro e w3 ⟨rfl, hx3, hb3, hk3⟩; have HX3 := Aside0.mk (show RdrOf w0 w3 g l2 by rw [HL2.out]; exact hx3); have HB3 := Aside0.mk hb3; have HK3 := Aside0.mk (Kept.then_ HKK.out hk3 (fun k hk => .inl hk)); have HO3 := Aside0.mk (Kd.R_kept HO.out hk3 (fun k hk => by exact OKG.out k hk)); clear hx3 hb3 hk3) | (go_at_call 40; (with_reducible refine (num2_ok g l2 n w0 w3 HB3.out HX3.out HB2.out HN.out (by have := HF.out; have := HY2.out; omega)).mono ?_); rintro e w4 ⟨rfl, hx4, hb4, hk4⟩; have HX4 := Aside0.mk (show RdrOf w0 w4 g l4 by rw [HL4.out]; exact hx4); have HB4 := Aside0.mk hb4; have HK4 := Aside0.mk (Kept.then_ HK3.out hk4 (fun k hk => .inl hk)); have HO4 := Aside0.mk (Kd.R_kept HO3.out hk4 (fun k hk => by exact OKG.out k hk)); obtain ⟨hg4_, A4, c4, hbx4, hcl4, hC4⟩ := hx4; rw [← HL4.out] at hbx4 hcl4 hC4; have hq4 : w4.cell? ⟨g, 0, none⟩ = some (.slice A4 l4.length c4) := blk_cell hbx4 0; clear hg4_ hbx4 hcl4 hC4 hb4 hk4) | (go_at_call 38; (with_reducible refine (must_ok _ _).mono ?_); rintro e wm ⟨rfl, hwm⟩; have hwm := hwm.symm; subst hwm) | (go_at_call 57; (with_reducible refine (take_y g l4 y (n - 4) 4 w0 w4 HYE.out HB4.out HX4.out HM0.out HM4.out).mono ?_); rintro e w5 ⟨A5, c5, rfl, hc5, hC5, hx5, hb5, hk5⟩; have HC5 := Aside0.mk hC5; have HD5 := Aside0.mk hc5; have HB5 := Aside0.mk hb5; have HX5 := Aside0.mk (show RdrOf w0 w5 g l5 by rw [HL5.out]; exact hx5); have HK5 := Aside0.mk (Kept.then_ HK4.out hk5 (fun k hk => .inl hk)); have HO5 := Aside0.mk (Kd.R_kept HO4.out hk5 (fun k hk => OKG.out k hk)); clear hC5 hc5 hx5 hb5 hk5 hq4) | (go_at_call 92; (with_reducible refine (copied_calls A5 c5 y w5 (Kd.C_below HC5.out HB5.out) HD5.out HYL.out).mono ?_); rintro e w6 ⟨v6, rfl, ho6, hb6⟩; obtain ⟨A6, c6, e6⟩ := Kd.R_slice ho6; subst e6; have HV6 := Aside0.mk ho6; have HB6 := Aside0.mk (below_step HB5.out hb6); have HX6 := Aside0.mk (HX5.out.below hb6); have HK6 := Aside0.mk (HK5.out.below hb6); have HO6 := Aside0.mk (Kd.R_below HO5.out hb6); have HS6 := Aside0.mk hb6.size; clear ho6 hb6) | ((with_reducible refine gate_builtin (b := .append) (xs := #[.tmp 29, .tmp 38]) rfl ?_); at_builtin; refine Kd.R_append k48 (w0 := w6) w.heap.size rfl (.tmp 29) (.tmp 38) 26 48 (.agg #[(.int .u16 0), (.slice none 0 0)]) 32 rfl Try.underlying26 info48 rfl (by decide) (by omega) (.slice A3 out.length c3') out (⟨kd, y⟩ : S48) [.int .u16 kd, .slice A6 y.length c6] (fun k_ => w.heap.size ≤ k_) (fun k_ => w5.heap.size ≤ k_) rfl rfl (k48_mkM _ _ _ (⟨kd, y⟩ : S48) (Kd.R_lower (Kd.R_mono (Kd.R_bound HV6.out) (fun k hk => hk.2.1)) HK5.out.1)) (fun k hk => ⟨Nat.le_trans HK5.out.1 hk, fun e => absurd (own_lt (Kd.R_own HO5.out).choose_spec k e.symm) (Nat.not_lt.mpr hk)⟩) (fun k hk => Nat.le_trans HK6.out.1 hk) HO6.out (Below.refl _ _) HK6.out.1 HLIM.out ?_; intro v7 w7 ho7 hb7 hg7 ha7; have HO7 := Aside0.mk ho7; have HX7 := Aside0.mk (HX6.out.under hb7 HGL.out); have HB7 := Aside0.mk (HB6.out.trans (hb7.mono HWS.out)); have HK7 := Aside0.mk (show Kept w w7 (fun k => k = g) from ⟨Nat.le_trans HK6.out.1 hb7.size, fun k hk hn => (hb7.block k hk).trans (HK6.out.2 k hk hn)⟩); obtain ⟨hg7_, A7, c7, hbx7, hcl7, hC7⟩ := HX7.out; have hq7 : w7.cell? ⟨g, 0, none⟩ = some (.slice A7 l5.length c7) := blk_cell hbx7 0; clear hg7_ hbx7 hcl7 hC7 ho7 hb7 hg7 ha7))
    obtain ⟨pq, hpq⟩ : ∃ pq, pq = (n + 3) / 4 * 4 := ⟨_, rfl⟩
    obtain ⟨pm, hpm⟩ : ∃ pm, pm = pq - n := ⟨_, rfl⟩
    have HPQ := Aside0.mk hpq
    have HN0 := Aside0.mk (show 0 ≤ n by have := HNR.out; omega)
    have HN1 := Aside0.mk (show n ≤ 1000000 by have := HNR.out; omega)
    have hwm : wrap64 (pq - n) = pm := by rw [w64 (by have := HNR.out; omega) (by have := HNR.out; omega), hpm]
    have hwi : IntKind.i64.wrap (pq - n) = pm := (i64_w _).trans hwm
    obtain ⟨m, hm⟩ : ∃ m, m = if (l5.length : Int) < pm then (l5.length : Int) else pm := ⟨_, rfl⟩
    have hmi : (if (l5.length : Int) < pm then (l5.length : Int) else pm) = m := hm.symm
    have HM5 := Aside0.mk (show 0 ≤ m by rw [hm]; split <;> omega)
    have HM6 := Aside0.mk (show m ≤ (l5.length : Int) by rw [hm]; split <;> omega)
    obtain ⟨l6, hl6⟩ : ∃ l6, l6 = l5.take m.toNat := ⟨_, rfl⟩
    obtain ⟨l7, hl7⟩ : ∃ l7, l7 = l5.drop m.toNat := ⟨_, rfl⟩
    have HL6 := Aside0.mk hl6
    have HL7 := Aside0.mk hl7
    have HL8 := Aside0.mk (show l7 = lr.drop ((n.toNat + 3) / 4 * 4) by
      have hnr := HNR.out
      have hc1 := HC1.out
      rw [hl7, HL5.out, HL4.out, HL2.out, List.drop_drop, List.drop_drop, List.drop_drop]
      by_cases hq : (l5.length : Int) < pm
      · rw [if_pos hq] at hm
        have h5 := HY5.out
        rw [List.drop_eq_nil_of_le (by omega), List.drop_eq_nil_of_le (by omega)]
      · rw [if_neg hq] at hm
        congr 1
        omega)
    clear hpq hpm hm hl6 hl7
    obtain ⟨F7, hF⟩ : ∃ F : Act → World → Prop, ∀ a' w', F a' w' ↔ ∃ x4 x5 x6 x7 x8 x9 x10 x11 x12 x13 x14 x15 x16 x17 x18 x19 x20 x21 x22 x23 x24 x25 x26 x27 x28 x29 x30 x31 x32 x33 x34 x35 x36 x37 x38 x39 x40 x41 x42 x43 x44 x45 x46 x47 x48 x49 x50 x51 : Value, a' = { tmps := #[.pointer (some ⟨g, 0, none⟩), undef, .slice none 0 0, v7, x4, x5, x6, x7, x8, x9, x10, x11, x12, x13, x14, x15, x16, x17, x18, x19, x20, x21, x22, x23, x24, x25, x26, x27, x28, x29, x30, x31, x32, x33, x34, x35, x36, x37, x38, x39, x40, x41, x42, x43, x44, x45, x46, x47, x48, x49, x50, x51, undef], defers := [] } ∧ RdrOf w0 w' g l7 ∧ Below w0.heap.size w0 w' ∧ Kept w w' (fun k => k = g) ∧ Kd.R k48 48 w' w.heap.size (fun k_ => w.heap.size ≤ k_) v7 (out ++ [(⟨kd, y⟩ : S48)]) := ⟨_, fun _ _ => Iff.rfl⟩
    have HF7 := Aside0.mk hF
    clear hF
    refine region_to F7 ?_ ?_
    · intro K1 HQ
      first | (go_region_with (first | (go_at_call 30; (with_reducible refine (padded_is n pq _ HPQ.out HN0.out HN1.out).mono ?_); rintro e wp ⟨rfl, hwp⟩; have hwp := hwp.symm; subst hwp) | (go_at_call 57; (first | (with_reducible refine (take_y g l5 l6 m 0 w0 w7.drew HL6.out HB7.out.drew (HX7.out.below (Below.refl _ _).drew) HM5.out HM6.out).mono ?_) | (with_reducible refine (take_y g l5 l6 m 0 w0 w7 HL6.out HB7.out HX7.out HM5.out HM6.out).mono ?_)); rintro e w8 ⟨A8, c8, rfl, hc8, hC8, hx8, hb8, hk8⟩; have HX8 := Aside0.mk (show RdrOf w0 w8 g l7 by rw [HL7.out]; exact hx8); have HB8 := Aside0.mk hb8; have HK8 := Aside0.mk (Kept.then_ (show Kept w _ (fun k => k = g) from HK7.out) hk8 (fun k hk => .inl hk)); have HO8 := Aside0.mk (Kd.R_kept (show Kd.R k48 48 _ w.heap.size (fun k_ => w.heap.size ≤ k_) v7 _ from HO7.out) hk8 (fun k hk => OKG.out k hk)); clear hc8 hC8 hx8 hb8 hk8))) | fail
      all_goals exact HQ.out _ _ ((HF7.out _ _).2 ⟨_, _, _, _, _, _, _, _, _, _, _, _, _, _, _, _, _, _, _, _, _, _, _, _, _, _, _, _, _, _, _, _, _, _, _, _, _, _, _, _, _, _, _, _, _, _, _, _, rfl, HX8.out, HB8.out, HK8.out, HO8.out⟩)
    intro a' w8 hfw
    obtain ⟨x4, x5, x6, x7, x8, x9, x10, x11, x12, x13, x14, x15, x16, x17, x18, x19, x20, x21, x22, x23, x24, x25, x26, x27, x28, x29, x30, x31, x32, x33, x34, x35, x36, x37, x38, x39, x40, x41, x42, x43, x44, x45, x46, x47, x48, x49, x50, x51, rfl, hx8, hb8, hk8, ho8⟩ := (HF7.out _ _).1 hfw
    have HX8 := Aside0.mk hx8
    have HB8 := Aside0.mk hb8
    have HK8 := Aside0.mk hk8
    have HO8 := Aside0.mk ho8
    clear hfw HF7 F7 hx8 hb8 hk8 ho8
    go_wp2
    go_roundg gk
    case measure => omega
    case rel => exact ⟨lr.drop ((n.toNat + 3) / 4 * 4), out ++ [(⟨kd, y⟩ : S48)], ⟨by rw [← HP.out, HS.out, if_neg HE.out, if_neg HF.out, if_neg HC1.out, if_neg HC3.out, HYE.out, HL4.out, HL2.out, List.drop_drop, show (n - 4).toNat = n.toNat - 4 by omega]⟩, ⟨by rw [List.length_drop]; have := HGK.out; have := HE.out; have := HC1.out; omega⟩, ⟨by rw [List.length_drop]; have := HLR.out; omega⟩, ⟨HBR.out.drop _⟩, ⟨by rw [List.length_append]; show out.length + 1 ≤ 16; have := HC3.out; omega⟩, HO8, by rw [← HL8.out]; exact HX8, HB8, HK8⟩
end Go.Proofs.Ytaahkggbjpdofaa.M
