/- octet.Hex: its function, and its contract in the printed form. -/
import Derived.Test.YtnfbbnmdlcmifaaDoorM0
import Derived.Deep.RegionLaw
import Derived.WalkSpells
namespace Go.Proofs.YtnfbbnmdlcmifaaDoor.M
open Go.RowKit Go.Proofs.YtnfbbnmdlcmifaaDoorW.PrintWords Go.Proofs.YtnfbbnmdlcmifaaDoorW.PrintLast Go.Proofs.YtnfbbnmdlcmifaaDoorW.PrintMore
set_option linter.unusedVariables false
set_option linter.unusedSimpArgs false

def hexD (i : Int) : Int := if i < 10 then 48 + i else 87 + i
def hexL : List Int → List Int
  | [] => []
  | x :: xs => hexD (x / 16) :: hexD (x % 16) :: hexL xs
def octet_Hex.f (l0 : List Int) : Option ByteArray := if l0.length ≤ 140737488355328 ∧ (∀ x ∈ l0, 0 ≤ x ∧ x ≤ 255) then some (strOfNums (hexL l0)) else none

theorem hexL_append (xs ys : List Int) : hexL (xs ++ ys) = hexL xs ++ hexL ys := by
  induction xs with
  | nil => rfl
  | cons x xs ih => simp [hexL, ih]
theorem hexL_length (xs : List Int) : (hexL xs).length = 2 * xs.length := by
  induction xs with
  | nil => rfl
  | cons x xs ih => simp [hexL, ih]; omega
theorem hexL_take (l : List Int) (k : Nat) (h : k < l.length) : hexL (l.take (k + 1)) = hexL (l.take k) ++ [hexD (rd l k / 16), hexD (rd l k % 16)] := by
  rw [List.take_succ_eq_append_getElem h, hexL_append]
  have e : rd l k = l[k] := by simp [rd, List.getD_eq_getElem?_getD, List.getElem?_eq_getElem h]
  rw [e]
  rfl

def HEXS : ByteArray := ⟨#[48, 49, 50, 51, 52, 53, 54, 55, 56, 57, 97, 98, 99, 100, 101, 102]⟩
theorem hex_at (n : Nat) (h : n < 16) : ((HEXS[n]'h).toNat : Int) = hexD n := by
  have : ∀ m : Fin 16, ((HEXS[m.val]'m.isLt).toNat : Int) = hexD m.val := by decide
  exact this ⟨n, h⟩
theorem hex_index (x : Int) (h0 : 0 ≤ x) (h1 : x < 16) (w : World) : (Instr.index 9 (.string ⟨#[48, 49, 50, 51, 52, 53, 54, 55, 56, 57, 97, 98, 99, 100, 101, 102]⟩) (.int .u8 x)).run Tryd.prog w = .ok (.int .u8 (hexD x)) w := by
  rw [run_index_string w 9 _ .u8 x Tryd.underlying9]
  have hs : (⟨#[48, 49, 50, 51, 52, 53, 54, 55, 56, 57, 97, 98, 99, 100, 101, 102]⟩ : ByteArray).size = 16 := rfl
  rw [dif_pos ⟨h0, by rw [hs]; exact h1⟩]
  obtain ⟨n, rfl⟩ := Int.eq_ofNat_of_zero_le h0
  have := hex_at n (by omega)
  unfold HEXS at this
  simp only [Int.toNat_natCast]
  rw [this]

theorem hx_info : (Tryd.prog.info? 5).map (fun i => (i.zero, i.size, i.bytes)) = some (some (.int .u8 0), 1, 1) := by kernel_rfl

/-- The append of two bytes onto a row with room, as one step of a region that draws; the two lie in a new block, some orders having been drawn. -/
theorem hx_append {ops : Array Oper} {o : Oper} {a : Act} {w0 w : World} {K : Act → World → Prop} {Q : Exit → Act → World → Prop} {E : Prop} {B g k cap : Nat} {xs : List Value} {y1 y2 : Int}
    (hg : o.guard = none) (s x : Operand) (hop : o.op = Op.call { callee := Callee.builtin Builtin.append, args := #[s, x], argTypes := #[31, 31] })
    (hs : a.eval s = .slice (some ⟨g, 0, none⟩) k cap) (hw : w = (w0.alloc (.cells #[.int .u8 y1, .int .u8 y2] 5)).drew) (hx : a.eval x = .slice (some ⟨w0.heap.size, 0, none⟩) 2 2)
    (hown : w0.ownsRow B 5 1 (.slice (some ⟨g, 0, none⟩) k cap) k xs) (hB : B ≤ g) (hB2 : B ≤ w0.heap.size) (b1 : k + 2 ≤ cap)
    (hK : ∀ w', w'.ownsRow B 5 1 (.slice (some ⟨g, 0, none⟩) (k + 2) cap) (k + 2) (xs ++ [.int .u8 y1, .int .u8 y2]) → Below B w0 w' → K (a.put o.dst (.slice (some ⟨g, 0, none⟩) (k + 2) cap)) w') :
    if Region.wanted o (yielded ops a.tmps) = true then Oper.wp Tryd.prog o a w K Q else E := by
  have hwant : Region.wanted o (yielded ops a.tmps) = true := by simp [Region.wanted, hg]
  rw [if_pos hwant]
  obtain ⟨i0, hi0, hz0, hz1, hz2⟩ := info_parts hx_info
  subst hw
  have hc0 : ((w0.alloc (.cells #[.int .u8 y1, .int .u8 y2] 5)).drew).heap[w0.heap.size]? = some (.cells #[.int .u8 y1, .int .u8 y2] 5 (0, 0)) := heap_alloc_new w0 _
  obtain ⟨w', hrun, r1, r2⟩ := run_append_fits (P := Tryd.prog) ((w0.alloc (.cells #[.int .u8 y1, .int .u8 y2] 5)).drew) B 31 o.type 5 i0 1 Tryd.underlying31 hi0 hz1 g k cap xs (hown.alloc _) ⟨w0.heap.size, 0, none⟩ 2 2 [.int .u8 y1, .int .u8 y2] rfl
    (World.news_of_block (cs := #[.int .u8 y1, .int .u8 y2]) (t := 5) (fr := (0, 0)) hc0) (by intro u hu; simp at hu; rcases hu with rfl | rfl <;> rfl) b1
  unfold Oper.wp
  simp [execOp, hop, resolve, invoke, builtin, hs, hx, hrun, Result.andThen]
  refine hK w' r1 ?_
  refine Below.grown (((Below.refl _ _).alloc hB2 _).drew) r2 ?_ (fun j hj => by have := Option.some.inj hj; omega)
  show B ≤ (w0.heap.push _).size
  simp
  omega

set_option maxHeartbeats 4000000 in
set_option maxRecDepth 100000 in
theorem octet_Hex.calls (A0 : Option Addr) (c0 : Nat) (l0 : List Int) (r : ByteArray) (w : World) (hr0 : Kd.C (Kd.int .u8) w A0 l0.length l0) (hc0 : l0.length ≤ c0) (h : octet_Hex.f l0 = some r) :
    Calls Tryd.prog 11 #[.slice A0 l0.length c0] w fun e w' => e = .returned (.string r) ∧ Below w.heap.size w w' := by
  have hcond : l0.length ≤ 140737488355328 ∧ (∀ x ∈ l0, 0 ≤ x ∧ x ≤ 255) := by
    unfold octet_Hex.f at h
    split at h
    · assumption
    · cases h
  have hr : strOfNums (hexL l0) = r := by
    unfold octet_Hex.f at h
    rw [if_pos hcond] at h
    exact Option.some.inj h
  clear h
  have HF := Aside0.mk hr
  have HR := Aside0.mk hr0
  have HC0 := Aside0.mk hc0
  obtain ⟨hlen, hwf⟩ := hcond
  have HWF := Aside0.mk hwf
  clear hr hr0 hc0 hwf
  obtain ⟨i0, hi0, hz0, hz1, hz2⟩ := info_parts hx_info
  have hii : (2 : Int) * (l0.length : Int) ≤ 281474976710656 := by omega
  go_enter Tryd.func11, Tryd.ntmps11
  go_wp2_with (first | (at_make; refine wpList_make_own _ rfl (.const (.int .i64 0)) (.tmp 8) 31 rfl w.heap.size 5 i0 _ 1 Tryd.underlying31 hi0 hz0 hz1 .i64 .i64 _ (2 * l0.length) rfl rfl (by omega) (by rw [hz2]; omega) (by unfold maxLen; omega) (Nat.le_refl _) ?_; intro w1 hown hg; have HB := Aside0.mk (show Below w.heap.size w w1 from (Below.refl _ _).grown hg (Nat.le_refl _) (by intro k hk; cases hk)); have HO := Aside0.mk hown; clear hown hg))
  go_loopg [3, 12] (l0.length + 1) (fun gk v3 v12 wr => ∃ k : Nat, k + gk = l0.length + 1 ∧ k ≤ l0.length ∧ v12 = .int .i64 k ∧ v3 = .slice (some ⟨w.heap.size, 0, none⟩) (2 * k) (2 * l0.length) ∧ Aside0 (wr.ownsRow w.heap.size 5 1 (.slice (some ⟨w.heap.size, 0, none⟩) (2 * k) (2 * l0.length)) (2 * k) (nums .u8 (hexL (l0.take k)))) ∧ Aside0 (Below w.heap.size w wr))
  case atStart => exact ⟨0, by omega, by omega, rfl, rfl, ⟨by simpa [hexL, nums] using HO.out⟩, HB⟩
  case round =>
    clear HO HB
    obtain ⟨k, hgk, hk, rfl, rfl, HO, HB⟩ := hrel
    by_cases hlt : k < l0.length
    · cases gk with
      | zero => omega
      | succ gk =>
        obtain ⟨ad, e1, hcell0⟩ := Kd.at_int (Kd.C_below HR.out HB.out) (k : Int) (by omega) (by omega)
        obtain ⟨x, hx⟩ : ∃ x, x = rd l0 (k : Int) := ⟨_, rfl⟩
        have hcell : wr.cell? (ad.add k) = some (.int .u8 x) := by rw [hx]; simpa using hcell0
        have hxr : 0 ≤ x ∧ x ≤ 255 := by
          rw [hx]
          have e : rd l0 k = l0[k] := by simp [rd, List.getD_eq_getElem?_getD, List.getElem?_eq_getElem hlt]
          rw [e]
          exact HWF.out _ (List.getElem_mem hlt)
        have hst := hexL_take l0 k hlt
        rw [← hx] at hst
        have HST := Aside0.mk hst
        have HX := Aside0.mk hx
        clear hcell0 hst hx
        cases e1
        obtain ⟨hx0, hx1⟩ := hxr
        have hi1 : ∀ W, (Instr.index 9 (.string ⟨#[48, 49, 50, 51, 52, 53, 54, 55, 56, 57, 97, 98, 99, 100, 101, 102]⟩) (.int .u8 (x / 16))).run Tryd.prog W = .ok (.int .u8 (hexD (x / 16))) W := fun W => hex_index _ (by omega) (by omega) W
        have hi2 : ∀ W, (Instr.index 9 (.string ⟨#[48, 49, 50, 51, 52, 53, 54, 55, 56, 57, 97, 98, 99, 100, 101, 102]⟩) (.int .u8 (x % 16))).run Tryd.prog W = .ok (.int .u8 (hexD (x % 16))) W := fun W => hex_index _ (by omega) (by omega) W
        have hand15 : Go.bits .and .u8 x 15 = x % 16 := u8_and15 x hx0 (by omega)
        have hb : decide ((k : Int) < (l0.length : Int)) = true := decide_eq_true (by omega)
        have hb' : decide (k < l0.length) = true := decide_eq_true hlt
        go_wp2_with fail
        go_region_law (first | (refine hx_append (w0 := wr) (B := w.heap.size) (g := w.heap.size) (k := 2 * k) (cap := 2 * l0.length) (xs := nums .u8 (hexL (l0.take k))) (y1 := hexD (x / 16)) (y2 := hexD (x % 16)) rfl (.tmp 16) (.tmp 23) rfl rfl rfl rfl HO.out (Nat.le_refl _) HB.out.size (by omega) ?_; intro w3 ho3 hb3; have HO3 := Aside0.mk ho3; have HB3 := Aside0.mk (HB.out.trans hb3); clear ho3 hb3))
        all_goals
          have hrel3 : Aside0 (w3.ownsRow w.heap.size 5 1 (.slice (some ⟨w.heap.size, 0, none⟩) (2 * (k + 1)) (2 * l0.length)) (2 * (k + 1)) (nums .u8 (hexL (l0.take (k + 1))))) := ⟨by
            have h1 := HO3.out
            rw [HST.out, nums_append, show 2 * (k + 1) = 2 * k + 2 by omega]
            exact h1⟩
          clear HO3
          go_wp2
          go_roundg gk
          case measure => omega
          case rel => exact ⟨k + 1, by omega, by omega, by first | rfl | go_num, by rw [show 2 * (k + 1) = 2 * k + 2 by omega], hrel3, HB3⟩
    · have hke : k = l0.length := by omega
      subst hke
      have hcv := own_string (P := Tryd.prog) (src := 31) (dst := 9) Tryd.underlying31 Tryd.underlying5 Tryd.underlying9 HO.out
      rw [List.take_length, HF.out] at hcv
      have hb : decide ((l0.length : Int) < (l0.length : Int)) = false := decide_eq_false (by omega)
      clear HO hlt
      go_wp2
      go_ret
      exact ⟨rfl, HB.out⟩
#print axioms octet_Hex.calls
end Go.Proofs.YtnfbbnmdlcmifaaDoor.M
