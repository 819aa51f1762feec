/- The document's sum (trunklineref02.Crc): its contract; it is the program's bit by bit. -/
import Derived.Test.YtaahkggbjpdofaaPCrc
import Derived.WalkSpells
namespace Go.Proofs.Ytaahkggbjpdofaa.M
open Go.RowKit Go.Proofs.YtaahkggbjpdofaaW.PrintWords Go.Proofs.YtaahkggbjpdofaaW.PrintLast Go.Proofs.YtaahkggbjpdofaaW.PrintMore
set_option linter.unusedVariables false
set_option linter.unusedSimpArgs false
/-- What the document's Crc tells (of bytes). -/
def trunklineref02_Crc.f (l0 : List Int) : Option Int := if l0.length ≤ 140737488355328 ∧ (l0.all fun x => decide (0 ≤ x ∧ x ≤ 255)) = true then some (4294967295 - crcL l0 4294967295) else none
theorem rcrc_q (x : Int) (j : Nat) (hj : j < 8) (h0 : 0 ≤ x) (h1 : x ≤ 255) : IntKind.u32.wrap (Int.tdiv (x % 4294967296) (IntKind.u32.wrap (1 * 2 ^ j))) = x / 2 ^ j := by
  have hx : x % 4294967296 = x := by omega
  rw [hx]
  have hc : j = 0 ∨ j = 1 ∨ j = 2 ∨ j = 3 ∨ j = 4 ∨ j = 5 ∨ j = 6 ∨ j = 7 := by omega
  rcases hc with h | h | h | h | h | h | h | h <;> subst h <;> (rw [Int.tdiv_eq_ediv_of_nonneg h0]; first | (rw [show IntKind.u32.wrap (1 * 2 ^ _) = 2 ^ _ by decide]; rw [Pure.w32 (by omega) (by omega)]) | (simp [IntKind.wrap, IntKind.bits, IntKind.signed]; omega))
set_option maxHeartbeats 1600000 in
set_option maxRecDepth 100000 in
theorem trunklineref02_Crc.calls (A0 : Option Addr) (c0 : Nat) (l0 : List Int) (r : Int) (w : World) (hr0 : Kd.C (Kd.int .u8) w A0 l0.length l0) (hc0 : l0.length ≤ c0) (h : trunklineref02_Crc.f l0 = some r) :
    Calls Try.prog 54 #[.slice A0 l0.length c0] w fun e w' => e = .returned (.int .u32 r) ∧ Drawn0 w w' := by
  unfold trunklineref02_Crc.f at h
  split at h
  case isFalse => cases h
  rename_i hg
  obtain rfl := Option.some.inj h
  have HR := Aside0.mk hr0
  have HC0 := Aside0.mk hg.1
  have HA0 := Aside0.mk (show ∀ x ∈ l0, 0 ≤ x ∧ x ≤ 255 from fun x hx => of_decide_eq_true (List.all_eq_true.mp hg.2 x hx))
  clear h hr0 hc0 hg
  go_enter Try.func54, Try.ntmps54
  go_wp2
  go_loopg [3, 4] (l0.length + 1) (fun gk v3 v4 wr => ∃ k : Nat, ∃ rk : Int, k + gk = l0.length + 1 ∧ k ≤ l0.length ∧ v3 = .int .u32 rk ∧ v4 = .int .i64 k ∧ Aside0 (crcL (l0.drop k) rk = crcL l0 4294967295) ∧ Aside0 (0 ≤ rk ∧ rk < 4294967296) ∧ Drawn0 w wr)
  case atStart => exact ⟨0, 4294967295, by omega, by omega, rfl, rfl, ⟨by simp⟩, ⟨by decide, by decide⟩, Drawn0.refl _⟩
  case round =>
    obtain ⟨k, rk, hgk, hk, rfl, rfl, HI, HRK, ⟨m1, rfl⟩⟩ := hrel
    by_cases hlt : k < l0.length
    · cases gk with
      | zero => omega
      | succ gk0 =>
        have hx0 := HA0.out l0[k] (List.getElem_mem hlt)
        obtain ⟨x, hx⟩ : ∃ x, x = rd l0 (k : Int) := ⟨_, rfl⟩
        have e : rd l0 k = l0[k] := by simp [rd, List.getD_eq_getElem?_getD, List.getElem?_eq_getElem hlt]
        have HXR := Aside0.mk (show 0 ≤ x ∧ x ≤ 255 by rw [hx, e]; exact hx0)
        have hst : crcL (l0.drop k) rk = crcL (l0.drop (k + 1)) (crcN x rk 8) := by
          rw [List.drop_eq_getElem_cons hlt, crcL, hx, e]
        have hi := Aside0.mk (show crcL (l0.drop (k + 1)) (crcN x rk 8) = crcL l0 4294967295 by rw [← HI.out, hst])
        have HXE := Aside0.mk hx
        have HLT := Aside0.mk hlt
        clear hst hx HI e hx0
        have hb : decide ((k : Int) < (l0.length : Int)) = true := decide_eq_true (by omega)
        have hb' : decide (k < l0.length) = true := decide_eq_true hlt
        have hw : wrap64 ((k : Int) + 1) = ((k + 1 : Nat) : Int) := by have := HC0.out; unfold wrap64; omega
        go_wp2
        go_loopg [3, 5] 9 (fun gk v3 v5 wj => ∃ j : Nat, j + gk = 9 ∧ j ≤ 8 ∧ v3 = .int .u32 (crcN x rk j) ∧ v5 = .int .i64 j ∧ Drawn0 w wj)
        case atStart => exact ⟨0, by omega, by omega, rfl, rfl, ⟨_, rfl⟩⟩
        case round =>
          obtain ⟨j, hgj, hj, rfl, rfl, ⟨m2, rfl⟩⟩ := hrel
          by_cases hjl : j < 8
          · cases gk with
            | zero => omega
            | succ gk =>
              obtain ⟨ad, e1, hcell0⟩ := Kd.at_int HR.out (k : Int) (by omega) (by omega)
              have hcell : w.cell? (ad.add k) = some (.int .u8 x) := by rw [HXE.out]; simpa using hcell0
              cases e1
              clear hcell0
              have cb : decide ((j : Int) < 8) = true := decide_eq_true (by omega)
              have cb' : decide (j < 8) = true := decide_eq_true hjl
              have cw : wrap64 ((j : Int) + 1) = ((j + 1 : Nat) : Int) := by unfold wrap64; omega
              have c0 : (0 : Int) ≤ (j : Int) := by omega
              obtain ⟨pj, hpj⟩ : ∃ pj : Int, IntKind.u32.wrap (1 * 2 ^ j) = pj := ⟨_, rfl⟩
              have hmin : min j 32 = j := Nat.min_eq_left (by omega)
              have p1 : IntKind.u32.wrap (1 * 2 ^ min j 32) = pj := by rw [hmin]; exact hpj
              have p2 : IntKind.u32.wrap (2 ^ min j 32) = pj := by rw [hmin, ← Int.one_mul (2 ^ j)]; exact hpj
              have p3 : IntKind.u32.wrap (2 ^ j) = pj := by rw [← Int.one_mul (2 ^ j)]; exact hpj
              have hpz : pj ≠ 0 := by
                rw [← hpj]
                have hc : j = 0 ∨ j = 1 ∨ j = 2 ∨ j = 3 ∨ j = 4 ∨ j = 5 ∨ j = 6 ∨ j = 7 := by omega
                rcases hc with h | h | h | h | h | h | h | h <;> subst h <;> decide
              have hpz' : (pj = 0) = False := eq_false hpz
              have HPJ := Aside0.mk hpj
              clear hpj hmin
              have HCR := Aside0.mk (Pure.crcN_range x rk HXR.out.1 HXR.out.2 HRK.out.1 HRK.out.2 j)
              have hT : Int.tmod (crcN x rk j) 2 = crcN x rk j % 2 := Int.tmod_eq_emod_of_nonneg HCR.out.1
              have hD : Int.tdiv (x % 4294967296) pj % 2 = x / 2 ^ j % 2 := by
                have h := rcrc_q x j hjl HXR.out.1 HXR.out.2
                rw [HPJ.out] at h
                have hw32 : ∀ y : Int, IntKind.u32.wrap y = y % 4294967296 := fun y => by simp [IntKind.wrap, IntKind.bits, IntKind.signed]
                rw [hw32] at h
                omega
              have hsc := Aside0.mk (Pure.crcN_succ x rk j HXR.out.1 HXR.out.2 HRK.out.1 HRK.out.2)
              have hT2 := Aside0.mk (show Int.tdiv (crcN x rk j) 2 % 4294967296 = crcN x rk j / 2 by rw [Int.tdiv_eq_ediv_of_nonneg HCR.out.1]; have := HCR.out; omega)
              by_cases hq : crcN x rk j % 2 = x / 2 ^ j % 2
              · have t1 : (Int.tmod (crcN x rk j) 2 != Int.tdiv (x % 4294967296) pj % 2) = false := by rw [hT, hD, hq, bne_self_eq_false]
                have t2 : (Int.tmod (crcN x rk j) 2 = Int.tdiv (x % 4294967296) pj % 2) = True := eq_true (by rw [hT, hD, hq])
                have HQ := Aside0.mk hq
                clear hT hD hq
                go_wp2
                go_region
                all_goals go_wp2
                all_goals go_roundg gk
                case measure => omega
                case rel => exact ⟨j + 1, by omega, by omega, congrArg (Value.int .u32) (by rw [hsc.out, if_pos HQ.out, hT2.out]), by first | rfl | go_num, by repeat (first | exact ⟨_, rfl⟩ | exact Drawn0.refl _ | apply Drawn0.step)⟩
              · have t1 : (Int.tmod (crcN x rk j) 2 != Int.tdiv (x % 4294967296) pj % 2) = true := by rw [hT, hD, bne_iff_ne]; exact hq
                have t2 : (Int.tmod (crcN x rk j) 2 = Int.tdiv (x % 4294967296) pj % 2) = False := eq_false (by rw [hT, hD]; exact hq)
                have HQ := Aside0.mk hq
                clear hT hD hq
                go_wp2
                go_region
                all_goals go_wp2
                all_goals go_roundg gk
                case measure => omega
                case rel => exact ⟨j + 1, by omega, by omega, congrArg (Value.int .u32) (by rw [hsc.out, if_neg HQ.out, hT2.out]), by first | rfl | go_num, by repeat (first | exact ⟨_, rfl⟩ | exact Drawn0.refl _ | apply Drawn0.step)⟩
          · have hj8 : j = 8 := by omega
            subst hj8
            go_wp2
            obtain ⟨k1, hk1⟩ : ∃ k1, gk0 = k1 + 1 := ⟨gk0 - 1, by omega⟩
            subst hk1
            go_roundg (k1 + 1)
            case measure => omega
            case rel => exact ⟨k + 1, crcN x rk 8, by omega, by have := HLT.out; omega, rfl, by first | rfl | go_num, hi, ⟨Pure.crcN_range x rk HXR.out.1 HXR.out.2 HRK.out.1 HRK.out.2 8⟩, ⟨_, rfl⟩⟩
    · have hke : k = l0.length := by omega
      subst hke
      have hb : decide ((l0.length : Int) < (l0.length : Int)) = false := decide_eq_false (by omega)
      have hi := Aside0.mk (show rk = crcL l0 4294967295 by rw [← HI.out, List.drop_length]; rfl)
      have hs := Aside0.mk (show (4294967295 - rk) % 4294967296 = 4294967295 - rk by have := HRK.out; omega)
      clear HI hlt
      go_wp2
      go_ret
      exact ⟨by rw [hs.out, hi.out]; rfl, ⟨_, rfl⟩⟩
end Go.Proofs.Ytaahkggbjpdofaa.M
