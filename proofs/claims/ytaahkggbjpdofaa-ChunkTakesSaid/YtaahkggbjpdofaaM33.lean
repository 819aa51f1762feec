-- Printed by this session's mp.py over the kit's print (turned in memory). Not trusted: Lean checks it.
import Derived.Test.YtaahkggbjpdofaaM0
import Derived.Test.YtaahkggbjpdofaaM32
import Derived.Test.YtaahkggbjpdofaaHReads
import Derived.WalkSpells
import Derived.LoopN
import Derived.Deep.RegionWith
import Derived.Deep.RegionLaw
section
namespace Go.Proofs.Ytaahkggbjpdofaa.M
open Go.RowKit Go.Proofs.YtaahkggbjpdofaaW.PrintWords Go.Proofs.YtaahkggbjpdofaaW.PrintLast Go.Proofs.YtaahkggbjpdofaaW.PrintMore
attribute [local go_sem] max2_int min2_int max_two min_two max_three min_three max_four min_four   -- for this text's walks alone
set_option linter.unusedVariables false
set_option linter.unusedSimpArgs false

/-! ### trunklineref12_num: function 42 -/
def trunklineref12_num.f (k : Nat) (l0 : List Int) (a1 : Int) (a2 : Int) : Option (Int) := (trunklineref01_Num.f k l0 a1 a2).bind fun bt303 => (some ((bt303.1) % 4294967296))
set_option maxHeartbeats 8000000 in
set_option maxRecDepth 100000 in
theorem trunklineref12_num.calls (k : Nat) (A0 : Option Addr) (c0 : Nat) (l0 : List Int) (a1 : Int) (a2 : Int) (r : Int) (w : World) (hr0 : Kd.C (Kd.int .u8) w A0 l0.length l0) (hc0 : l0.length ≤ c0) (h : trunklineref12_num.f k l0 a1 a2 = some r) :
  Calls Try.prog 42 #[.slice A0 l0.length c0, .int .i64 a1, .int .i64 a2] w fun e w' => e = .returned (.int .u32 r) ∧ Drawn0 w w' := by
 have HR0 := Aside0.mk hr0
 have HC0 := Aside0.mk hc0
 clear hr0 hc0
 have H : ((trunklineref01_Num.f k l0 a1 a2).bind fun bt303 => (some ((bt303.1) % 4294967296))) = some r := h
 clear h
 replace H := Option.bind_eq_some_iff.mp H
 obtain ⟨⟨t303, t304⟩, A40, H⟩ := H
 replace H : (some ((t303) % 4294967296)) = some r := H
 have A4 := Aside0.mk A40
 clear A40
 obtain rfl := Option.some.inj H
 go_enter Try.func42, Try.ntmps42
 go_wp2_with (first | ((with_reducible refine gate_callee (f := 59) rfl ?_); refine goesL_ (some 13) rfl rfl Try.func59 (by kernel_rfl) rfl #[.slice A0 l0.length c0, .int .i64 a1, .int .i64 a2] rfl (by (try simp only [List.map_toArray, List.map_cons, List.map_nil]); first | done | rfl | (simp only [List.length_drop, List.length_take]; rfl)) ?_; (with_reducible refine (trunklineref01_Num.calls k _ _ l0 a1 a2 t303 t304 _ ?side1 ?side2 A4.out).mono ?_); (case side1 => repeat (first | exact HR0.out | (with_reducible refine Kd.C_alloc ?_ _) | (with_reducible refine Kd.C_drewN ?_ _) | (with_reducible refine Kd.C_drew ?_))); (case side2 => exact HC0.out); rintro e w' ⟨rfl, ⟨nd, rfl⟩⟩; refine ⟨_, rfl, ?_⟩))
 go_ret
 exact ⟨by first | rfl | (simp; done) | (simp [*]; done), by repeat (first | exact Drawn0.refl _ | apply Drawn0.step)⟩

end Go.Proofs.Ytaahkggbjpdofaa.M
end
section
/- The document's numbers and parameters of bytes, against parsV. -/
namespace Go.Proofs.Ytaahkggbjpdofaa.M
open Go.RowKit Go.Proofs.YtaahkggbjpdofaaW.PrintWords Go.Proofs.YtaahkggbjpdofaaW.PrintLast Go.Proofs.YtaahkggbjpdofaaW.PrintMore
open Go.Proofs.Ytaahkggbjpdofaa.Pure
set_option linter.unusedVariables false
set_option linter.unusedSimpArgs false
theorem rnum_tell {l : List Int} (h : Bytes l) (at_ : Int) (n : Nat) (hn : 1 ≤ n) (h4 : n ≤ 4) (h0 : 0 ≤ at_) (hl : at_ + n ≤ l.length) (hs : l.length ≤ 65536) : trunklineref12_num.f 10 l at_ n = some (numN (l.drop at_.toNat) n) := by
  unfold trunklineref12_num.f
  rw [rnum_f l at_ n (by omega) h (i64_wf (by omega) (by omega)) (i64_wf (by omega) (by omega)) (Nat.le_refl _), Option.bind_some]
  have hr := numN_range (h.drop at_.toNat) n h4
  unfold numS numN at *
  rw [if_pos (by omega), if_pos (by omega), if_pos (by omega)]
  simp only [Int.toNat_natCast]
  congr 1
  omega
theorem rnum_calls (n : Nat) (A : Option Addr) (c : Nat) (l : List Int) (at_ r : Int) (w : World) (hC : Kd.C (Kd.int .u8) w A l.length l) (hc : l.length ≤ c) (h : Bytes l) (hn : 1 ≤ n) (h4 : n ≤ 4) (h0 : 0 ≤ at_) (hl : at_ + n ≤ l.length) (hs : l.length ≤ 65536) (hr : r = numN (l.drop at_.toNat) n) :
    Calls Try.prog 42 #[.slice A l.length c, .int .i64 at_, .int .i64 (n : Int)] w fun e w' => e = .returned (.int .u32 r) ∧ Below w.heap.size w w' := by
  subst hr
  exact (trunklineref12_num.calls 10 A c l at_ n _ w hC hc (rnum_tell h at_ n hn h4 h0 hl hs)).mono (fun e w' he => ⟨he.1, he.2.below⟩)
theorem rnum2 (A : Option Addr) (c : Nat) (l : List Int) (at_ r : Int) (w : World) (hC : Kd.C (Kd.int .u8) w A l.length l) (hc : l.length ≤ c) (h : Bytes l) (h0 : 0 ≤ at_) (hl : at_ + 2 ≤ l.length) (hs : l.length ≤ 65536) (hr : r = numN (l.drop at_.toNat) 2) :
    Calls Try.prog 42 #[.slice A l.length c, .int .i64 at_, .int .i64 2] w fun e w' => e = .returned (.int .u32 r) ∧ Below w.heap.size w w' := rnum_calls 2 A c l at_ r w hC hc h (by decide) (by decide) h0 hl hs hr
theorem rnum4 (A : Option Addr) (c : Nat) (l : List Int) (at_ r : Int) (w : World) (hC : Kd.C (Kd.int .u8) w A l.length l) (hc : l.length ≤ c) (h : Bytes l) (h0 : 0 ≤ at_) (hl : at_ + 4 ≤ l.length) (hs : l.length ≤ 65536) (hr : r = numN (l.drop at_.toNat) 4) :
    Calls Try.prog 42 #[.slice A l.length c, .int .i64 at_, .int .i64 4] w fun e w' => e = .returned (.int .u32 r) ∧ Below w.heap.size w w' := rnum_calls 4 A c l at_ r w hC hc h (by decide) (by decide) h0 hl hs hr
/-- A literal without elements, as the walk makes it. -/
theorem lit0 (W : World) (base : Nat) (hb : base ≤ W.heap.size) : Kd.R (Kd.int .u8) 5 (W.alloc (.cells #[] 5)) base (fun k_ => base ≤ k_) (.slice (some ⟨W.heap.size, 0, none⟩) 0 0) [] := by
  refine ⟨fun k hk => ?_, [], ?_, Reps.none _ _⟩
  · have : W.heap.size = k := by simpa [Value.ownBlock] using hk
    omega
  · have h2 := World.ownsRow_lit (base := base) (e := 5) (size := (Kd.int .u8).sz) W #[] 0 hb (by decide) (by decide)
    simpa using h2
/-- What Params tells. -/
def RParOut (w w' : World) (x : Ending) : Except Int (List S48) → Prop
  | .ok ps => ∃ v, x = .returned (.tuple #[v, .int .i64 0]) ∧ Kd.R k48 48 w' w.heap.size (fun _ => True) v ps
  | .error e => x = .returned (.tuple #[.slice none 0 0, .int .i64 e])
attribute [local go_sem] max2_int min2_int max_two min_two undef
set_option maxHeartbeats 800000 in
set_option maxRecDepth 100000 in
theorem rparams_calls (A0 : Option Addr) (c0 : Nat) (l : List Int) (w : World) (hr0 : Kd.C (Kd.int .u8) w A0 l.length l) (hc0 : l.length ≤ c0) (hb : Bytes l) (hl : l.length ≤ 65536) :
    Calls Try.prog 62 #[.slice A0 l.length c0] w fun x w' => Below w.heap.size w w' ∧ RParOut w w' x (parsV (l.length + 1) l []) := by
  have HR := Aside0.mk hr0
  have HC := Aside0.mk hc0
  have HBY := Aside0.mk hb
  have HL := Aside0.mk hl
  clear hr0 hc0 hb hl
  go_enter Try.func62, Try.ntmps62
  go_wp2_with (first | ((with_reducible refine gate_dst (N := 7) rfl ?_); (try (refine gate_guard (by rfl) ?_; dsimp only)); refine Kd.R_lit k48 _ 48 ?hg (N := 7) ?hd (xs := ([] : List (S48))) (inner := []) (ok := fun k_ => w.heap.size ≤ k_) (okp := fun k_ => w.heap.size ≤ k_) ?hr ?hp (fun _ hk => hk) (Nat.le_refl _) (Below.refl _ _) (Nat.le_refl _) (by simp) ?_; (case hd => rfl); (case hg => rfl); (case hr => first | (go_simp; done) | (go_simp; rfl)); (case hp => exact (Reps.none _ _)); intro v1 w1 ho hb hg_ hnew_; clear hg_ hnew_; have HO1 := Aside0.mk ho; have HB1 := Aside0.mk hb; clear ho hb))
  go_loopg [4, 5] (l.length + 1) (fun gk v4 v5 wr => ∃ (out : List S48) (x : Int), v5 = .int .i64 x ∧ Aside0 (parsV gk (l.drop x.toNat) out = parsV (l.length + 1) l []) ∧ Aside0 (0 ≤ x ∧ x ≤ l.length) ∧ Aside0 ((l.length : Int) - x < gk) ∧ Aside0 (x % 4 = 0 ∨ x = l.length) ∧ Aside0 (out.length ≤ 16) ∧ Aside0 (Kd.R k48 48 wr w.heap.size (fun k_ => w.heap.size ≤ k_) v4 out) ∧ Aside0 (Below w.heap.size w wr))
  case atStart => exact ⟨[], 0, (by first | rfl | (simp; done)), ⟨rfl⟩, ⟨by omega⟩, ⟨by omega⟩, ⟨.inl rfl⟩, ⟨by decide⟩, HO1, HB1⟩
  case round =>
    obtain ⟨out, x, rfl, HP, HX, HGK, HM4, HOL, HO, HBB⟩ := hrel
    cases gk with
    | zero => exact absurd HGK.out (by have := HX.out; omega)
    | succ gko =>
    obtain ⟨n, hn⟩ : ∃ n, n = numN (l.drop (x + 2).toNat) 2 := ⟨_, rfl⟩
    have HNR := Aside0.mk (show 0 ≤ n ∧ n < 65536 by rw [hn]; exact num2_range (HBY.out.drop _))
    have HLR := Aside0.mk (show ((l.drop x.toNat).length : Int) = (l.length : Int) - x by rw [List.length_drop]; have := HX.out; omega)
    have HD2 := Aside0.mk (show (l.drop x.toNat).drop 2 = l.drop (x + 2).toNat by rw [List.drop_drop]; have := HX.out; congr 1; omega)
    obtain ⟨lr, hlr⟩ : ∃ lr, lr = l.drop x.toNat := ⟨_, rfl⟩
    have HS := Aside0.mk (show parsV (gko + 1) lr out = if lr.length = 0 then .ok out else if lr.length < 4 then .error 4 else if n < 4 ∨ (lr.length : Int) < n then .error 4 else if 16 ≤ out.length then .error 6 else parsV gko (lr.drop ((n.toNat + 3) / 4 * 4)) (out ++ [⟨numN lr 2, (lr.drop 4).take (n.toNat - 4)⟩]) by rw [parsV, hlr, HD2.out, hn])
    have HP := Aside0.mk (show parsV (gko + 1) lr out = parsV (l.length + 1) l [] by rw [hlr]; exact HP.out)
    have HLR := Aside0.mk (show (lr.length : Int) = (l.length : Int) - x by rw [hlr]; exact HLR.out)
    have HLE := Aside0.mk hlr
    obtain ⟨q2, hq2⟩ : ∃ q2, q2 = x + 2 := ⟨_, rfl⟩
    have HNE := Aside0.mk (show n = numN (l.drop q2.toNat) 2 by rw [hq2]; exact hn)
    have hxr := HX.out
    have hll := HL.out
    have hw2 : wrap64 (x + 2) = q2 := by rw [w64 (by omega) (by omega), hq2]
    have hw2i : IntKind.i64.wrap (x + 2) = q2 := (i64_w _).trans hw2
    have hwx : wrap64 ((l.length : Int) - x) = (l.length : Int) - x := w64 (by omega) (by omega)
    have hwxi : IntKind.i64.wrap ((l.length : Int) - x) = (l.length : Int) - x := (i64_w _).trans hwx
    have HQ20 := Aside0.mk (show 0 ≤ q2 by omega)
    clear hn hlr
    by_cases e0 : x < (l.length : Int)
    case neg =>
      have b0 : decide (x < (l.length : Int)) = false := decide_eq_false e0
      have HE := Aside0.mk (show lr.length = 0 by have := HLR.out; omega)
      clear e0 hxr hll hq2
      go_wp2
      go_ret2
      refine ⟨HBB.out, ?_⟩
      rw [← HP.out, HS.out, if_pos HE.out]
      exact ⟨_, rfl, Kd.R_mono HO.out (fun _ _ => trivial)⟩
    have b0 : decide (x < (l.length : Int)) = true := decide_eq_true e0
    have HE := Aside0.mk (show ¬ lr.length = 0 by have := HLR.out; omega)
    have HX4 := Aside0.mk (show x % 4 = 0 by have := HM4.out; omega)
    by_cases ef : (l.length : Int) - x < 4
    · have b1 : decide ((l.length : Int) - x < 4) = true := decide_eq_true ef
      have HF := Aside0.mk (show lr.length < 4 by have := HLR.out; omega)
      clear e0 ef hxr hll hq2
      go_wp2
      go_ret2
      refine ⟨HBB.out, ?_⟩
      rw [← HP.out, HS.out, if_neg HE.out, if_pos HF.out]
      rfl
    have b1 : decide ((l.length : Int) - x < 4) = false := decide_eq_false ef
    have HF := Aside0.mk (show ¬ lr.length < 4 by have := HLR.out; omega)
    have HQ2 := Aside0.mk (show q2 + 2 ≤ (l.length : Int) by omega)
    have hwn : wrap64 n = n := w64 (by have := HNR.out; omega) (by have := HNR.out; omega)
    have hwni : IntKind.i64.wrap n = n := (i64_w _).trans hwn
    have HX2 := Aside0.mk hq2
    have HXB := Aside0.mk (show x < (l.length : Int) ∧ ¬ (l.length : Int) - x < 4 from ⟨e0, ef⟩)
    clear e0 ef hxr hll hq2
    by_cases c1 : n < 4
    · have c1b : decide (n < 4) = true := decide_eq_true c1
      have HC1 := Aside0.mk (show n < 4 ∨ (lr.length : Int) < n from .inl c1)
      clear c1
      go_wp2_with (first | (go_at_call 42; (with_reducible refine (rnum2 A0 c0 l q2 n _ (Kd.C_below HR.out HBB.out) HC.out HBY.out HQ20.out HQ2.out HL.out HNE.out).mono ?_); rintro e w3 ⟨rfl, hb⟩; have HB3 := Aside0.mk (below_step HBB.out hb); have HO3 := Aside0.mk (Kd.R_below HO.out hb); clear hb))
      go_ret2
      refine ⟨HB3.out, ?_⟩
      rw [← HP.out, HS.out, if_neg HE.out, if_neg HF.out, if_pos HC1.out]
      rfl
    have c1b : decide (n < 4) = false := decide_eq_false c1
    by_cases c2 : (l.length : Int) - x < n
    · have c2b : decide (n > (l.length : Int) - x) = true := decide_eq_true c2
      have c2c : decide ((l.length : Int) - x < n) = true := decide_eq_true c2
      have HC1 := Aside0.mk (show n < 4 ∨ (lr.length : Int) < n from .inr (by have := HLR.out; omega))
      clear c1 c2
      go_wp2_with (first | (go_at_call 42; (with_reducible refine (rnum2 A0 c0 l q2 n _ (Kd.C_below HR.out HBB.out) HC.out HBY.out HQ20.out HQ2.out HL.out HNE.out).mono ?_); rintro e w3 ⟨rfl, hb⟩; have HB3 := Aside0.mk (below_step HBB.out hb); have HO3 := Aside0.mk (Kd.R_below HO.out hb); clear hb))
      go_ret2
      refine ⟨HB3.out, ?_⟩
      rw [← HP.out, HS.out, if_neg HE.out, if_neg HF.out, if_pos HC1.out]
      rfl
    have c2b : decide (n > (l.length : Int) - x) = false := decide_eq_false (by omega)
    have c2c : decide ((l.length : Int) - x < n) = false := decide_eq_false (by omega)
    have HC1 := Aside0.mk (show ¬ (n < 4 ∨ (lr.length : Int) < n) by have := HLR.out; omega)
    have HNX := Aside0.mk (show 4 ≤ n ∧ n ≤ (l.length : Int) - x by omega)
    clear c1 c2
    obtain ⟨A3, c3', he3⟩ := Kd.R_slice HO.out
    subst he3
    by_cases c3 : 16 ≤ out.length
    · have c3b : decide (16 ≤ out.length) = true := decide_eq_true c3
      have c3c : decide ((16 : Int) ≤ (out.length : Int)) = true := decide_eq_true (by omega)
      have c3d : decide ((out.length : Int) ≥ 16) = true := decide_eq_true (by omega)
      have HC3 := Aside0.mk c3
      clear c3
      go_wp2_with (first | (go_at_call 42; (with_reducible refine (rnum2 A0 c0 l q2 n _ (Kd.C_below HR.out HBB.out) HC.out HBY.out HQ20.out HQ2.out HL.out HNE.out).mono ?_); rintro e w3 ⟨rfl, hb⟩; have HB3 := Aside0.mk (below_step HBB.out hb); have HO3 := Aside0.mk (Kd.R_below HO.out hb); clear hb))
      go_ret2
      refine ⟨HB3.out, ?_⟩
      rw [← HP.out, HS.out, if_neg HE.out, if_neg HF.out, if_neg HC1.out, if_pos HC3.out]
      rfl
    have c3b : decide (16 ≤ out.length) = false := decide_eq_false c3
    have c3c : decide ((16 : Int) ≤ (out.length : Int)) = false := decide_eq_false (by omega)
    have c3d : decide ((out.length : Int) ≥ 16) = false := decide_eq_false (by omega)
    have HC3 := Aside0.mk c3
    clear c3
    obtain ⟨q4, hq4⟩ : ∃ q4, q4 = x + 4 := ⟨_, rfl⟩
    obtain ⟨qn, hqn⟩ : ∃ qn, qn = x + n := ⟨_, rfl⟩
    obtain ⟨kd, hkd⟩ : ∃ kd, kd = numN (l.drop x.toNat) 2 := ⟨_, rfl⟩
    obtain ⟨y, hy⟩ : ∃ y, y = (l.take qn.toNat).drop q4.toNat := ⟨_, rfl⟩
    have hxr := HX.out
    have hll := HL.out
    have hnx := HNX.out
    have hw4 : wrap64 (x + 4) = q4 := by rw [w64 (by omega) (by omega), hq4]
    have hw4i : IntKind.i64.wrap (x + 4) = q4 := (i64_w _).trans hw4
    have hwq : wrap64 (x + n) = qn := by rw [w64 (by omega) (by omega), hqn]
    have hwqi : IntKind.i64.wrap (x + n) = qn := (i64_w _).trans hwq
    have HKD := Aside0.mk hkd
    have HKR := Aside0.mk (show 0 ≤ kd ∧ kd < 65536 by rw [hkd]; exact num2_range (HBY.out.drop _))
    have hku : IntKind.u16.wrap kd = kd := u16w HKR.out
    have hku2 : kd % 65536 = kd := by have h := HKR.out; omega
    have HYL := Aside0.mk (show y.length = qn.toNat - q4.toNat by rw [hy, List.length_drop, List.length_take]; omega)
    have HYE := Aside0.mk (show (lr.drop 4).take (n.toNat - 4) = y by rw [hy, HLE.out, List.drop_drop, List.drop_take]; congr 1 <;> first | omega | (congr 1; omega))
    have HYB := Aside0.mk (show y.length < 140737488355328 by rw [hy, List.length_drop, List.length_take]; omega)
    have HY0 := Aside0.mk hy
    have HX0 := Aside0.mk (show 0 ≤ x by omega)
    have HX2' := Aside0.mk (show x + 2 ≤ (l.length : Int) by omega)
    have HLIM := Aside0.mk (show (out.length + 1) * 32 ≤ 140737488355328 by have := HOL.out; omega)
    have q0 : (0 : Int) ≤ q4 := by omega
    have q1 : q4 ≤ qn := by omega
    have q2' : qn ≤ (l.length : Int) := by omega
    obtain ⟨i0, hi0, _, hsz, _⟩ := info_parts info5
    have hcut := cut_mid (P := Try.prog) 27 5 .i64 .i64 Try.underlying27 hi0 1 hsz A0 l.length c0 q4 qn q0 q1 q2' HC.out
    obtain ⟨A2, hA2⟩ : ∃ A1, A1 = (if c0 = q4.toNat then A0 else A0.map (·.add (q4.toNat * 1))) := ⟨_, rfl⟩
    obtain ⟨c2, hc2⟩ : ∃ c1, c1 = c0 - q4.toNat := ⟨_, rfl⟩
    rw [← HYL.out, ← hA2, ← hc2] at hcut
    have HCM := Aside0.mk (show ∀ W, Below w.heap.size w W → Kd.C (Kd.int .u8) W A2 y.length y by
      intro W hW
      have h := Kd.C_mid (lo := q4.toNat) (hi := qn.toNat) (c := c0) (Kd.C_below HR.out hW) (by omega) (by omega) HC.out
      rw [hA2, hy]
      rw [List.length_drop, List.length_take] at h ⊢
      first | exact h | (rw [show min qn.toNat l.length = qn.toNat by omega] at h ⊢; exact h) | (rw [show min qn.toNat l.length = qn.toNat by omega] at h; exact h))
    have HQN := Aside0.mk (show qn = x + n ∧ 0 ≤ qn ∧ qn ≤ (l.length : Int) from ⟨hqn, by omega, q2'⟩)
    clear hxr hll hnx hq4 hqn hkd hy hi0 hsz hA2 hc2 q0 q1 q2' HX2
    go_wp2_with (first | (go_at_call 42; (with_reducible refine (rnum2 A0 c0 l q2 n _ (Kd.C_below HR.out HBB.out) HC.out HBY.out HQ20.out HQ2.out HL.out HNE.out).mono ?_); rintro e w3 ⟨rfl, hb⟩; have HB3 := Aside0.mk (below_step HBB.out hb); have HO3 := Aside0.mk (Kd.R_below HO.out hb); clear hb))
    obtain ⟨FF, hF⟩ : ∃ F : Act → World → Prop, ∀ a' w', F a' w' ↔ ∃ x2 x3 v4 x8 x9 x10 x11 x12 x13 x14 x15 x16 x17 x18 x19 x20 x21 x22 x23 x24 x25 x26 x27 x28 x29 x30 x31 x32 x33 x34 x35 x36 x37 x38 x39 x40 x41 x42 x43 x44 x45 x46 x47 x48 x49 x50 x51 x52 x53 x54 x55 x56 x57 x58 x59 x60 x61 x62 x63 x64 x65 : Value, a' = { tmps := #[.slice A0 l.length c0, undef, x2, x3, v4, .int .i64 x, .int .i64 n, v1, x8, x9, x10, x11, x12, x13, x14, x15, x16, x17, x18, x19, x20, x21, x22, x23, x24, x25, x26, x27, x28, x29, x30, x31, x32, x33, x34, x35, x36, x37, x38, x39, x40, x41, x42, x43, x44, x45, x46, x47, x48, x49, x50, x51, x52, x53, x54, x55, x56, x57, x58, x59, x60, x61, x62, x63, x64, x65, undef], defers := [] } ∧ Below w.heap.size w w' ∧ Kd.R k48 48 w' w.heap.size (fun k_ => w.heap.size ≤ k_) v4 (out ++ [(⟨kd, y⟩ : S48)]) := ⟨_, fun _ _ => Iff.rfl⟩
    have HFF := Aside0.mk hF
    clear hF
    refine region_to FF ?_ ?_
    · intro K1 HQ
      first | (go_region_law (first | (refine goes_ Try.func42 (by kernel_rfl) rfl #[.slice A0 l.length c0, .int .i64 x, .int .i64 2] (by rfl) rfl rfl (by first | rfl | kernel_rfl | (simp [Act.eval]; done) | (go_simp; rfl) | (simp [Act.eval, Act.put]; rfl)) ?_; (with_reducible refine (rnum2 A0 c0 l x kd w3.drew (Kd.C_below HR.out (below_step HB3.out (Below.refl w3.heap.size w3).drew)) HC.out HBY.out HX0.out HX2'.out HL.out HKD.out).mono ?_); rintro e w31 ⟨rfl, hb⟩; refine ⟨_, rfl, ?_⟩; have HT31 := Aside0.mk (below_step (Below.refl w3.heap.size w3).drew hb); have HT40 := Aside0.mk (below_alloc HT31.out (.cells #[] 5)); have HV40 := Aside0.mk (lit0 w31 w3.heap.size HT31.out.size); clear hb) | (refine goes_ Try.func42 (by kernel_rfl) rfl #[.slice A0 l.length c0, .int .i64 x, .int .i64 2] (by rfl) rfl rfl (by first | rfl | kernel_rfl | (simp [Act.eval]; done) | (go_simp; rfl) | (simp [Act.eval, Act.put]; rfl)) ?_; (with_reducible refine (rnum2 A0 c0 l x kd (w3.alloc (.cells #[] 5)).drew (Kd.C_below HR.out (below_step HB3.out (below_alloc (Below.refl w3.heap.size w3) (.cells #[] 5)).drew)) HC.out HBY.out HX0.out HX2'.out HL.out HKD.out).mono ?_); rintro e w40 ⟨rfl, hb⟩; refine ⟨_, rfl, ?_⟩; have HT40 := Aside0.mk (below_step (below_alloc (Below.refl w3.heap.size w3) (.cells #[] 5)).drew hb); have HV40 := Aside0.mk (Kd.R_below (Kd.R_drew (lit0 w3 w3.heap.size (Nat.le_refl _))) hb); clear hb) | (refine goes_ Try.func42 (by kernel_rfl) rfl #[.slice A0 l.length c0, .int .i64 x, .int .i64 2] (by rfl) rfl rfl (by first | rfl | kernel_rfl | (simp [Act.eval]; done) | (go_simp; rfl) | (simp [Act.eval, Act.put]; rfl)) ?_; (with_reducible refine (rnum2 A0 c0 l x kd (w3.drew.alloc (.cells #[] 5)) (Kd.C_below HR.out (below_step HB3.out (below_alloc (Below.refl w3.heap.size w3).drew (.cells #[] 5)))) HC.out HBY.out HX0.out HX2'.out HL.out HKD.out).mono ?_); rintro e w40 ⟨rfl, hb⟩; refine ⟨_, rfl, ?_⟩; have HT40 := Aside0.mk (below_step (below_alloc (Below.refl w3.heap.size w3).drew (.cells #[] 5)) hb); have HV40 := Aside0.mk (Kd.R_below (lit0 w3.drew w3.heap.size (Nat.le_refl _)) hb); clear hb) | (refine Kd.R_append_rows_step (Kd.int .u8) (w0 := w3) w3.heap.size (by rfl) (.tmp 40) (.tmp 47) 27 5 (.int .u8 0) 1 rfl Try.underlying27 info5 rfl (by decide) (by omega) (.slice (some ⟨w31.heap.size, 0, none⟩) 0 0) [] y _ _ _ (fun k_ => w3.heap.size ≤ k_) (fun _ => False) rfl rfl ?aO ?aR (fun _ _ h => h) (fun _ h => h.elim) ?aF ?aB ?aS ?aL ?_; (case aB => exact HT40.out); (case aO => exact HV40.out); (case aR => exact HCM.out _ (below_step HB3.out HT40.out)); (case aF => exact (fun k hk => Nat.le_trans HT40.out.size hk)); (case aS => exact HT40.out.size); (case aL => have := HYB.out; simp only [List.length_nil]; omega); intro v48 w48 ho hb hg hat; rw [List.nil_append] at ho; obtain ⟨A48, c48, e48⟩ := Kd.R_slice ho; subst e48; have HV48 := Aside0.mk ho; have HT48 := Aside0.mk hb; have HO48 := Aside0.mk (Kd.R_below HO3.out hb); have HB48 := Aside0.mk (below_step HB3.out hb); clear ho hb hg hat) | (refine Kd.R_append_rows_step (Kd.int .u8) (w0 := w3) w3.heap.size (by rfl) (.tmp 40) (.tmp 47) 27 5 (.int .u8 0) 1 rfl Try.underlying27 info5 rfl (by decide) (by omega) (.slice (some ⟨w3.heap.size, 0, none⟩) 0 0) [] y _ _ _ (fun k_ => w3.heap.size ≤ k_) (fun _ => False) rfl rfl ?aO ?aR (fun _ _ h => h) (fun _ h => h.elim) ?aF ?aB ?aS ?aL ?_; (case aB => exact HT40.out); (case aO => exact HV40.out); (case aR => exact HCM.out _ (below_step HB3.out HT40.out)); (case aF => exact (fun k hk => Nat.le_trans HT40.out.size hk)); (case aS => exact HT40.out.size); (case aL => have := HYB.out; simp only [List.length_nil]; omega); intro v48 w48 ho hb hg hat; rw [List.nil_append] at ho; obtain ⟨A48, c48, e48⟩ := Kd.R_slice ho; subst e48; have HV48 := Aside0.mk ho; have HT48 := Aside0.mk hb; have HO48 := Aside0.mk (Kd.R_below HO3.out hb); have HB48 := Aside0.mk (below_step HB3.out hb); clear ho hb hg hat) | (refine Kd.R_append_step k48 (w0 := w) w.heap.size (by rfl) (.tmp 35) (.tmp 50) 26 48 (.agg #[(.int .u16 0), (.slice none 0 0)]) 32 rfl Try.underlying26 info48 rfl (by decide) (by omega) (.slice A3 out.length c3') out (⟨kd, y⟩ : S48) [.int .u16 kd, .slice A48 y.length c48] (fun k_ => w.heap.size ≤ k_) (fun k_ => w3.heap.size ≤ k_) rfl rfl (k48_mkM _ _ _ (⟨kd, y⟩ : S48) (Kd.R_lower HV48.out HB3.out.size)) (fun k hk => ⟨Nat.le_trans HB3.out.size hk, fun e => absurd (own_lt (Kd.R_own HO3.out).choose_spec k e.symm) (Nat.not_lt.mpr hk)⟩) (fun k hk => Nat.le_trans HB48.out.size hk) HO48.out HB48.out HB48.out.size HLIM.out ?_; intro v7 w7 ho hb hg hat; have HO7 := Aside0.mk ho; have HB7 := Aside0.mk hb; clear ho hb hg hat))) | fail
      all_goals exact HQ.out _ _ ((HFF.out _ _).2 ⟨_, _, _, _, _, _, _, _, _, _, _, _, _, _, _, _, _, _, _, _, _, _, _, _, _, _, _, _, _, _, _, _, _, _, _, _, _, _, _, _, _, _, _, _, _, _, _, _, _, _, _, _, _, _, _, _, _, _, _, _, _, rfl, HB7.out, HO7.out⟩)
    intro a' w8 hfw
    obtain ⟨x2, x3, v4, x8, x9, x10, x11, x12, x13, x14, x15, x16, x17, x18, x19, x20, x21, x22, x23, x24, x25, x26, x27, x28, x29, x30, x31, x32, x33, x34, x35, x36, x37, x38, x39, x40, x41, x42, x43, x44, x45, x46, x47, x48, x49, x50, x51, x52, x53, x54, x55, x56, x57, x58, x59, x60, x61, x62, x63, x64, x65, rfl, hb8, ho8⟩ := (HFF.out _ _).1 hfw
    have HB8 := Aside0.mk hb8
    obtain ⟨A8, c8, e8⟩ := Kd.R_slice ho8
    subst e8
    have HO8 := Aside0.mk ho8
    clear hfw HFF FF hb8 ho8 hcut
    obtain ⟨tg, htg⟩ : ∃ tg : Int, tg = if x + (n + 3) / 4 * 4 ≤ (l.length : Int) then x + (n + 3) / 4 * 4 else (l.length : Int) := ⟨_, rfl⟩
    have HTG := Aside0.mk (show qn ≤ tg ∧ tg ≤ (l.length : Int) ∧ tg < qn + 4 ∧ (∀ z : Int, qn ≤ z → z ≤ tg → ((z % 4 = 0 ∨ z = (l.length : Int)) ↔ z = tg)) by
      have h1 := HQN.out
      have h2 := HX4.out
      have h3 := HNX.out
      refine ⟨?_, ?_, ?_, ?_⟩
      · rw [htg]; split <;> omega
      · rw [htg]; split <;> omega
      · rw [htg]; split <;> omega
      · intro z hz1 hz2
        rw [htg] at hz2 ⊢
        split at hz2 <;> rename_i hc
        · rw [if_pos hc]; omega
        · rw [if_neg hc]; omega)
    have HTG2 := Aside0.mk (show l.drop tg.toNat = lr.drop ((n.toNat + 3) / 4 * 4) by
      have h1 := HQN.out
      have h3 := HNX.out
      have h4 := HX0.out
      rw [HLE.out, List.drop_drop, htg]
      split
      · congr 1; omega
      · rw [List.drop_eq_nil_of_le (by omega), List.drop_eq_nil_of_le (by omega)])
    clear htg
    go_wp2
    go_loopg [5] 4 (fun gi v5 wr' => ∃ z : Int, v5 = .int .i64 z ∧ wr' = w8 ∧ Aside0 (qn ≤ z ∧ z ≤ tg) ∧ Aside0 (tg - z < gi))
    case atStart => exact ⟨qn, rfl, rfl, ⟨⟨Int.le_refl _, HTG.out.1⟩⟩, ⟨by have := HTG.out; omega⟩⟩
    case round =>
      obtain ⟨z, rfl, rfl, HZ, HGI⟩ := hrel
      have hz := HZ.out
      have htg := HTG.out
      have hqn := HQN.out
      have hll := HL.out
      have htm : Int.tmod z 4 = z % 4 := Int.tmod_eq_emod_of_nonneg (by omega)
      by_cases e1 : z = tg
      · -- the end
        have HZT := Aside0.mk e1
        have hend := (htg.2.2.2 z hz.1 hz.2).2 e1
        by_cases e2 : z % 4 = 0
        · have m1 : (z % 4 != 0) = false := by rw [e2]; rfl
          have m2 : (Int.tmod z 4 != 0) = false := by rw [htm, e2]; rfl
          have m3 : decide (z % 4 ≠ 0) = false := by rw [e2]; rfl
          clear hz htg hqn hll e1 hend
          go_wp2
          go_roundg gko
          case measure => omega
          case rel => exact ⟨out ++ [(⟨kd, y⟩ : S48)], z, rfl, ⟨by rw [← HP.out, HS.out, if_neg HE.out, if_neg HF.out, if_neg HC1.out, if_neg HC3.out, HYE.out, HLE.out, ← HKD.out, ← HLE.out, ← HTG2.out, HZT.out]⟩, ⟨by have h1 := HTG.out; have h2 := HQN.out; have h3 := HZT.out; omega⟩, ⟨by have h1 := HTG.out; have h2 := HQN.out; have h3 := HZT.out; have h4 := HGK.out; have h5 := HNX.out; omega⟩, ⟨(HTG.out.2.2.2 z (by have h1 := HTG.out; have h3 := HZT.out; omega) (by have h3 := HZT.out; omega)).2 HZT.out⟩, ⟨by rw [List.length_append]; show out.length + 1 ≤ 16; have := HC3.out; omega⟩, HO8, HB8⟩
        · have m1 : (z % 4 != 0) = true := by simp [e2]
          have m2 : (Int.tmod z 4 != 0) = true := by rw [htm]; simp [e2]
          have m4 : decide (z < (l.length : Int)) = false := decide_eq_false (by omega)
          clear hz htg hqn hll e1 hend
          go_wp2
          go_roundg gko
          case measure => omega
          case rel => exact ⟨out ++ [(⟨kd, y⟩ : S48)], z, rfl, ⟨by rw [← HP.out, HS.out, if_neg HE.out, if_neg HF.out, if_neg HC1.out, if_neg HC3.out, HYE.out, HLE.out, ← HKD.out, ← HLE.out, ← HTG2.out, HZT.out]⟩, ⟨by have h1 := HTG.out; have h2 := HQN.out; have h3 := HZT.out; omega⟩, ⟨by have h1 := HTG.out; have h2 := HQN.out; have h3 := HZT.out; have h4 := HGK.out; have h5 := HNX.out; omega⟩, ⟨(HTG.out.2.2.2 z (by have h1 := HTG.out; have h3 := HZT.out; omega) (by have h3 := HZT.out; omega)).2 HZT.out⟩, ⟨by rw [List.length_append]; show out.length + 1 ≤ 16; have := HC3.out; omega⟩, HO8, HB8⟩
      · have hne : ¬ (z % 4 = 0 ∨ z = (l.length : Int)) := fun h => e1 ((htg.2.2.2 z hz.1 hz.2).1 h)
        have m1 : (z % 4 != 0) = true := by simp; omega
        have m2 : (Int.tmod z 4 != 0) = true := by rw [htm]; simp; omega
        have m4 : decide (z < (l.length : Int)) = true := decide_eq_true (by omega)
        have hz1 : wrap64 (z + 1) = z + 1 := w64 (by omega) (by omega)
        have hz1i : IntKind.i64.wrap (z + 1) = z + 1 := (i64_w _).trans hz1
        have HZ1 := Aside0.mk (show qn ≤ z + 1 ∧ z + 1 ≤ tg by omega)
        have hgi := HGI.out
        cases gk with
        | zero => exact absurd hgi (by omega)
        | succ gi =>
        clear hz htg hqn hll e1 hne
        go_wp2
        go_roundg gi
        case measure => omega
        case rel => exact ⟨z + 1, rfl, rfl, HZ1, ⟨by omega⟩⟩
end Go.Proofs.Ytaahkggbjpdofaa.M
end
