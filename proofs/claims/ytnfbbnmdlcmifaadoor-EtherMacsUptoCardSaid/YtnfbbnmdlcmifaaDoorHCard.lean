/- ether.card: whether each number of a row lies below 2^48; with the two library functions that it calls. -/
import Derived.Test.YtnfbbnmdlcmifaaDoorM0
import Derived.WalkSpells
namespace Go.Proofs.YtnfbbnmdlcmifaaDoor.M
open Go.RowKit Go.Proofs.YtnfbbnmdlcmifaaDoorW.PrintWords Go.Proofs.YtnfbbnmdlcmifaaDoorW.PrintLast Go.Proofs.YtnfbbnmdlcmifaaDoorW.PrintMore
set_option linter.unusedVariables false
set_option linter.unusedSimpArgs false

/-- Where the first number stands that is none; -1: nowhere. -/
def cardI : List Int → Int → Int
  | [], _ => -1
  | x :: xs, i => if x / 281474976710656 != 0 then i else cardI xs (i + 1)
theorem drawn_trans {w1 w2 w3 : World} (h1 : Drawn0 w1 w2) (h2 : Drawn0 w2 w3) : Drawn0 w1 w3 := by
  obtain ⟨n, rfl⟩ := h2.out
  exact h1.step n
def ether_card.f (l0 : List Int) : Option Bool := if l0.length ≤ 1000 then some (!decide (cardI l0 0 ≥ 0)) else none

set_option maxHeartbeats 800000 in
set_option maxRecDepth 100000 in
theorem card1_calls (m : Int) (w : World) :
    Calls Tryd.prog 20 #[.int .u64 m] w fun e w' => e = .returned (.bool (m / 281474976710656 != 0)) ∧ Drawn0 w w' := by
  by_cases h : m / 281474976710656 = 0
  · have h1 : (m / 281474976710656 == 0) = true := beq_iff_eq.mpr h
    have h2 : (m / 281474976710656 != 0) = false := bne_eq_false_iff_eq.mpr h
    rw [h2]
    go_enter Tryd.func20, Tryd.ntmps20
    go_wp2
    go_ret
    exact ⟨by first | rfl | (simp; done) | (simp [*]; done), by repeat (first | exact Drawn0.refl _ | apply Drawn0.step)⟩
  · have h1 : (m / 281474976710656 == 0) = false := beq_eq_false_iff_ne.mpr h
    have h2 : (m / 281474976710656 != 0) = true := bne_iff_ne.mpr h
    rw [h2]
    go_enter Tryd.func20, Tryd.ntmps20
    go_wp2
    go_ret
    exact ⟨by first | rfl | (simp; done) | (simp [*]; done), by repeat (first | exact Drawn0.refl _ | apply Drawn0.step)⟩

set_option maxHeartbeats 800000 in
set_option maxRecDepth 100000 in
theorem index1_calls (A0 : Option Addr) (c0 : Nat) (l0 : List Int) (w : World) (hr0 : Kd.C (Kd.int .u64) w A0 l0.length l0) (hc0 : l0.length ≤ c0) (hlen : l0.length ≤ 1000) :
    Calls Tryd.prog 24 #[.slice A0 l0.length c0, .func (.func 20) #[] #[]] w fun e w' => e = .returned (.int .i64 (cardI l0 0)) ∧ Drawn0 w w' := by
  have HR := Aside0.mk hr0
  have HC0 := Aside0.mk hc0
  clear hr0 hc0
  go_enter Tryd.func24, Tryd.ntmps24
  go_wp2
  go_loopg [8] (l0.length + 1) (fun gk v8 wr => ∃ k : Nat, k + gk = l0.length + 1 ∧ k ≤ l0.length ∧ v8 = .int .i64 k ∧ Aside0 (cardI (l0.drop k) k = cardI l0 0) ∧ Aside0 (Drawn0 w wr))
  case atStart => exact ⟨0, by omega, by omega, rfl, ⟨by simp⟩, ⟨Drawn0.refl _⟩⟩
  case round =>
    obtain ⟨k, hgk, hk, rfl, HI, HD⟩ := hrel
    by_cases hlt : k < l0.length
    · cases gk with
      | zero => omega
      | succ gk =>
        obtain ⟨ad, e1, hcell0⟩ := Kd.at_int (Kd.C_below HR.out (Drawn0.below HD.out)) (k : Int) (by omega) (by omega)
        obtain ⟨x, hx⟩ : ∃ x, x = rd l0 (k : Int) := ⟨_, rfl⟩
        have hcell : wr.cell? (ad.add k) = some (.int .u64 x) := by rw [hx]; simpa using hcell0
        have hst : cardI (l0.drop k) k = if x / 281474976710656 != 0 then (k : Int) else cardI (l0.drop (k + 1)) (k + 1) := by
          rw [List.drop_eq_getElem_cons hlt, cardI, hx]
          have e : rd l0 k = l0[k] := by simp [rd, List.getD_eq_getElem?_getD, List.getElem?_eq_getElem hlt]
          rw [e]
        have HST := Aside0.mk hst
        clear hcell0 hst hx
        cases e1
        have hb : decide ((k : Int) < (l0.length : Int)) = true := decide_eq_true (by omega)
        have hb' : decide (k < l0.length) = true := decide_eq_true hlt
        by_cases hx0 : x / 281474976710656 != 0
        · have hi := Aside0.mk (show (k : Int) = cardI l0 0 by rw [← HI.out, HST.out, if_pos hx0])
          clear HI HST
          go_wp2_with (first | (go_at_call 20; refine (card1_calls x _).mono ?_; rw [hx0]; rintro e w2 ⟨rfl, hd⟩; have HD2 := Aside0.mk hd; clear hd))
          go_ret
          exact ⟨by rw [hi.out]; rfl, drawn_trans HD.out HD2.out⟩
        · have hx1 : (x / 281474976710656 != 0) = false := by simpa using hx0
          have hi := Aside0.mk (show cardI (l0.drop (k + 1)) ((k : Int) + 1) = cardI l0 0 by rw [← HI.out, HST.out, if_neg hx0])
          have hw : wrap64 ((k : Int) + 1) = ((k + 1 : Nat) : Int) := by unfold wrap64; omega
          clear HI HST
          go_wp2_with (first | (go_at_call 20; refine (card1_calls x _).mono ?_; rw [hx1]; rintro e w2 ⟨rfl, hd⟩; have HD2 := Aside0.mk hd; clear hd))
          go_roundg gk
          case measure => omega
          case rel => exact ⟨k + 1, by omega, by omega, by first | rfl | go_num, ⟨by have := hi.out; simpa using this⟩, ⟨drawn_trans HD.out HD2.out⟩⟩
    · have hke : k = l0.length := by omega
      subst hke
      have hb : decide ((l0.length : Int) < (l0.length : Int)) = false := decide_eq_false (by omega)
      have hi := Aside0.mk (show (-1 : Int) = cardI l0 0 by rw [← HI.out, List.drop_length]; rfl)
      clear HI hlt
      go_wp2
      go_ret
      exact ⟨by rw [hi.out]; rfl, HD.out⟩

set_option maxHeartbeats 800000 in
set_option maxRecDepth 100000 in
theorem contains1_calls (A0 : Option Addr) (c0 : Nat) (l0 : List Int) (w : World) (hr0 : Kd.C (Kd.int .u64) w A0 l0.length l0) (hc0 : l0.length ≤ c0) (hlen : l0.length ≤ 1000) (b : Bool) (hb : decide (cardI l0 0 ≥ 0) = b) :
    Calls Tryd.prog 19 #[.slice A0 l0.length c0, .func (.func 20) #[] #[]] w fun e w' => e = .returned (.bool b) ∧ Drawn0 w w' := by
  have HR := Aside0.mk hr0
  have HC0 := Aside0.mk hc0
  clear hr0 hc0
  obtain ⟨z, hz⟩ : ∃ z, z = cardI l0 0 := ⟨_, rfl⟩
  have HZ := Aside0.mk hz
  rw [← hz] at hb
  clear hz
  have hb' : decide (0 ≤ z) = b := hb
  go_enter Tryd.func19, Tryd.ntmps19
  go_wp2_with (first | (go_at_call 24; refine (index1_calls _ _ l0 _ HR.out HC0.out hlen).mono ?_; rw [← HZ.out]; rintro e w2 ⟨rfl, hd⟩; have HD2 := Aside0.mk hd; clear hd))
  go_ret
  exact ⟨by first | rfl | (simp; done) | (simp [*]; done), HD2.out⟩

set_option maxHeartbeats 800000 in
set_option maxRecDepth 100000 in
theorem ether_card.calls (A0 : Option Addr) (c0 : Nat) (l0 : List Int) (r : Bool) (w : World) (hr0 : Kd.C (Kd.int .u64) w A0 l0.length l0) (hc0 : l0.length ≤ c0) (h : ether_card.f l0 = some r) :
    Calls Tryd.prog 9 #[.slice A0 l0.length c0] w fun e w' => e = .returned (.bool r) ∧ Drawn0 w w' := by
  have hlen : l0.length ≤ 1000 := by
    unfold ether_card.f at h
    split at h
    · assumption
    · cases h
  have hr : (!decide (cardI l0 0 ≥ 0)) = r := by
    unfold ether_card.f at h
    rw [if_pos hlen] at h
    exact Option.some.inj h
  clear h
  obtain ⟨b, hb⟩ : ∃ b, decide (cardI l0 0 ≥ 0) = b := ⟨_, rfl⟩
  rw [hb] at hr
  have HB := Aside0.mk hb
  have HR := Aside0.mk hr0
  have HC0 := Aside0.mk hc0
  clear hr0 hc0 hb
  go_enter Tryd.func9, Tryd.ntmps9
  go_wp2_with (first | (go_at_call 19; refine (contains1_calls _ _ l0 _ HR.out HC0.out hlen b HB.out).mono ?_; rintro e w2 ⟨rfl, hd⟩; have HD2 := Aside0.mk hd; clear hd))
  go_ret
  exact ⟨by first | rfl | (simp; done) | (simp [*]; done), HD2.out⟩
#print axioms ether_card.calls
end Go.Proofs.YtnfbbnmdlcmifaaDoor.M
