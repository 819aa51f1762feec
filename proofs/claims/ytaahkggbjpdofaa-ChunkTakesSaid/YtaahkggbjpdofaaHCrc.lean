/- sums.Crc: its contract, in the printed form. -/
import Derived.Test.YtaahkggbjpdofaaM0
import Derived.WalkSpells
namespace Go.Proofs.Ytaahkggbjpdofaa.M
open Go.RowKit Go.Proofs.YtaahkggbjpdofaaW.PrintWords Go.Proofs.YtaahkggbjpdofaaW.PrintLast Go.Proofs.YtaahkggbjpdofaaW.PrintMore
set_option linter.unusedVariables false
set_option linter.unusedSimpArgs false

/-- A bit's step. -/
def crcBit (r bit : Int) : Int := Go.bits .xor .u32 (r / 2) (Go.bits .and .u32 (-Go.bits .xor .u32 (Go.bits .and .u32 r 1) bit % 4294967296) 2197175160)
/-- A byte's first bits. -/
def crcN (x r : Int) : Nat → Int
  | 0 => r
  | j + 1 => crcBit (crcN x r j) (Go.bits .and .u32 (x / 2 ^ j % 4294967296) 1)
def crcL : List Int → Int → Int
  | [], r => r
  | x :: xs, r => crcL xs (crcN x r 8)
set_option maxHeartbeats 800000 in
set_option maxRecDepth 100000 in
theorem crc1_calls (bit r : Int) (pb : Nat) (w : World) (hbox : w.heap[pb]? = some (.cells #[.int .u32 r] 22 (0, 0))) :
    Calls Try.prog 66 #[.int .u32 bit, .pointer (some ⟨pb, 0, none⟩)] w fun e w' => e = .returned (.tuple #[]) ∧ w' = w.setCell ⟨pb, 0, none⟩ (.int .u32 (crcBit r bit)) := by
  have hcell : w.cell? ⟨pb, 0, none⟩ = some (.int .u32 r) := blk_cell hbox 0
  have hfrozen : w.frozen? ⟨pb, 0, none⟩ = false := blk_frozen hbox 0
  go_enter Try.func66, Try.ntmps66
  go_wp2
  go_end0
  exact ⟨rfl, rfl⟩
theorem crc_box {w : World} {pb : Nat} {r v : Int} (h : w.heap[pb]? = some (.cells #[.int .u32 r] 22 (0, 0))) : (w.setCell ⟨pb, 0, none⟩ (.int .u32 v)).heap[pb]? = some (.cells #[.int .u32 v] 22 (0, 0)) := blk_set h 0 _
theorem crc_below {w0 w : World} {pb : Nat} {v : Value} (h : Below w0.heap.size w0 w) (hp : w0.heap.size ≤ pb) : Below w0.heap.size w0 (w.setCell ⟨pb, 0, none⟩ v) := below_set h hp
set_option maxHeartbeats 1600000 in
set_option maxRecDepth 100000 in
theorem each_calls (A0 : Option Addr) (c0 : Nat) (l0 : List Int) (r : Int) (pb : Nat) (w0 w : World) (hr0 : Kd.C (Kd.int .u8) w0 A0 l0.length l0) (hc0 : l0.length ≤ 140737488355328) (hb : Below w0.heap.size w0 w) (hp : w0.heap.size ≤ pb) (hbox : w.heap[pb]? = some (.cells #[.int .u32 r] 22 (0, 0))) :
    Calls Try.prog 65 #[.slice A0 l0.length c0, .func (.func 66) #[] #[.pointer (some ⟨pb, 0, none⟩)]] w fun e w' => e = .returned (.tuple #[]) ∧ w'.heap[pb]? = some (.cells #[.int .u32 (crcL l0 r)] 22 (0, 0)) ∧ Below w0.heap.size w0 w' := by
  have HR := Aside0.mk hr0
  have HC0 := Aside0.mk hc0
  have HB := Aside0.mk hb
  have HP := Aside0.mk hp
  have HX := Aside0.mk hbox
  clear hr0 hc0 hb hp hbox
  go_enter Try.func65, Try.ntmps65
  go_wp2
  go_loopg [9] (l0.length + 1) (fun gk v9 wr => ∃ k : Nat, ∃ rk : Int, k + gk = l0.length + 1 ∧ k ≤ l0.length ∧ v9 = .int .i64 k ∧ Aside0 (crcL (l0.drop k) rk = crcL l0 r) ∧ Aside0 (wr.heap[pb]? = some (.cells #[.int .u32 rk] 22 (0, 0))) ∧ Aside0 (Below w0.heap.size w0 wr))
  case atStart => exact ⟨0, r, by omega, by omega, rfl, ⟨by simp⟩, HX, HB⟩
  case round =>
    obtain ⟨k, rk, hgk, hk, rfl, HI, HXk, HBk⟩ := hrel
    by_cases hlt : k < l0.length
    · cases gk with
      | zero => omega
      | succ gk0 =>
        obtain ⟨ad, e1, hcell0⟩ := Kd.at_int (Kd.C_below HR.out HBk.out) (k : Int) (by omega) (by omega)
        obtain ⟨x, hx⟩ : ∃ x, x = rd l0 (k : Int) := ⟨_, rfl⟩
        have hcell : wr.cell? (ad.add k) = some (.int .u8 x) := by rw [hx]; simpa using hcell0
        have hst : crcL (l0.drop k) rk = crcL (l0.drop (k + 1)) (crcN x rk 8) := by
          rw [List.drop_eq_getElem_cons hlt, crcL, hx]
          have e : rd l0 k = l0[k] := by simp [rd, List.getD_eq_getElem?_getD, List.getElem?_eq_getElem hlt]
          rw [e]
        have hi := Aside0.mk (show crcL (l0.drop (k + 1)) (crcN x rk 8) = crcL l0 r by rw [← HI.out, hst])
        clear hcell0 hst hx HI
        cases e1
        have hb : decide ((k : Int) < (l0.length : Int)) = true := decide_eq_true (by omega)
        have hb' : decide (k < l0.length) = true := decide_eq_true hlt
        have hw : wrap64 ((k : Int) + 1) = ((k + 1 : Nat) : Int) := by have := HC0.out; unfold wrap64; omega
        go_wp2
        go_loopg [13] 9 (fun gk v13 wj => ∃ j : Nat, j + gk = 9 ∧ j ≤ 8 ∧ v13 = .int .i64 j ∧ Aside0 (wj.heap[pb]? = some (.cells #[.int .u32 (crcN x rk j)] 22 (0, 0))) ∧ Aside0 (Below w0.heap.size w0 wj))
        case atStart => exact ⟨0, by omega, by omega, rfl, HXk, HBk⟩
        case round =>
          obtain ⟨j, hgj, hj, rfl, HXj, HBj⟩ := hrel
          by_cases hjl : j < 8
          · cases gk with
            | zero => omega
            | succ gk =>
              have cb : decide ((j : Int) < 8) = true := decide_eq_true (by omega)
              have cb' : decide (j < 8) = true := decide_eq_true hjl
              have cw : wrap64 ((j : Int) + 1) = ((j + 1 : Nat) : Int) := by unfold wrap64; omega
              have c0 : (0 : Int) ≤ (j : Int) := by omega
              go_wp2_with (first | (go_at_call 66; (with_reducible refine (crc1_calls _ (crcN x rk j) pb _ HXj.out).mono ?_); rintro e w2 ⟨rfl, hw2⟩; have HW2 := Aside0.mk hw2; clear hw2))
              go_wp2
              go_roundg gk
              case measure => omega
              case rel => exact ⟨j + 1, by omega, by omega, by first | rfl | go_num, ⟨by rw [HW2.out]; exact crc_box HXj.out⟩, ⟨by rw [HW2.out]; exact crc_below HBj.out HP.out⟩⟩
          · have hje : j = 8 := by omega
            subst hje
            have cb : decide ((8 : Int) < 8) = false := decide_eq_false (by omega)
            go_wp2
            go_roundg gk0
            case measure => omega
            case rel => exact ⟨k + 1, _, by omega, by omega, by first | rfl | go_num, hi, HXj, HBj⟩
    · have hke : k = l0.length := by omega
      subst hke
      have hb : decide ((l0.length : Int) < (l0.length : Int)) = false := decide_eq_false (by omega)
      have hi := Aside0.mk (show rk = crcL l0 r by rw [← HI.out, List.drop_length]; rfl)
      clear HI hlt
      go_wp2
      go_end0
      exact ⟨rfl, by rw [← hi.out]; exact HXk.out, HBk.out⟩

/-- What Crc tells. -/
def sums_Crc.f (l0 : List Int) : Option Int := if l0.length ≤ 140737488355328 then some (Go.bits .xor .u32 IntKind.u32.max (crcL l0 4294967295)) else none
set_option maxHeartbeats 1600000 in
set_option maxRecDepth 100000 in
theorem sums_Crc.calls (A0 : Option Addr) (c0 : Nat) (l0 : List Int) (r : Int) (w : World) (hr0 : Kd.C (Kd.int .u8) w A0 l0.length l0) (hc0 : l0.length ≤ c0) (h : sums_Crc.f l0 = some r) :
    Calls Try.prog 51 #[.slice A0 l0.length c0] w fun e w' => e = .returned (.int .u32 r) ∧ Below w.heap.size w w' := by
  have hlen : l0.length ≤ 140737488355328 := by
    unfold sums_Crc.f at h
    split at h
    · assumption
    · cases h
  have HR := Aside0.mk hr0
  have HC0 := Aside0.mk hc0
  have HL := Aside0.mk hlen
  have hr : Go.bits .xor .u32 IntKind.u32.max (crcL l0 4294967295) = r := by
    unfold sums_Crc.f at h
    rw [if_pos hlen] at h
    exact Option.some.inj h
  have HF := Aside0.mk hr
  clear hr hr0 hc0 hlen h
  go_enter Try.func51, Try.ntmps51
  go_wp2_with (first | ((with_reducible refine gate_dst (N := 3) rfl ?_); refine box_event ?hg (N := 3) ?hd (cs := #[.int .u32 0]) (t := 22) ?hr ?_; (case hd => rfl); (case hg => rfl); (case hr => first | (go_simp; done) | (go_simp; rfl)); intro pb hg0 w1 hbox0 hb0; have hc1 : w1.cell? ⟨pb, 0, none⟩ = some (.int .u32 0) := blk_cell hbox0 0; have hf1 : w1.frozen? ⟨pb, 0, none⟩ = false := blk_frozen hbox0 0; have HG := Aside0.mk hg0; have HX := Aside0.mk hbox0; have HB := Aside0.mk hb0; clear hg0 hbox0 hb0) | (go_at_call 65; (with_reducible refine (each_calls _ _ l0 4294967295 pb w _ HR.out HL.out (crc_below HB.out (Nat.le_of_eq HG.out.symm)) (Nat.le_of_eq HG.out.symm) (crc_box HX.out)).mono ?_); rintro e w2 ⟨rfl, hx2, hb2⟩; have hc2 : w2.cell? ⟨pb, 0, none⟩ = some (.int .u32 (crcL l0 4294967295)) := blk_cell hx2 0; have HB2 := Aside0.mk hb2; clear hx2 hb2))
  go_ret
  exact ⟨by rw [← HF.out]; rfl, HB2.out⟩
end Go.Proofs.Ytaahkggbjpdofaa.M
