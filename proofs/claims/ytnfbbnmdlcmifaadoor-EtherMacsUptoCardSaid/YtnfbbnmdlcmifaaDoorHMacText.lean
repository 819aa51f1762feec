/- ether.MacText: its function over a row's bytes, and its contract in the printed form. -/
import Derived.Test.YtnfbbnmdlcmifaaDoorM3
import Derived.Test.YtnfbbnmdlcmifaaDoorHCard
import Derived.Test.YtnfbbnmdlcmifaaDoorHHex
import Derived.WalkSpells
namespace Go.Proofs.YtnfbbnmdlcmifaaDoor.M
open Go.RowKit Go.Proofs.YtnfbbnmdlcmifaaDoorW.PrintWords Go.Proofs.YtnfbbnmdlcmifaaDoorW.PrintLast Go.Proofs.YtnfbbnmdlcmifaaDoorW.PrintMore
set_option linter.unusedVariables false
set_option linter.unusedSimpArgs false

/-- Bytes as digits, a colon between any two. -/
def macT : Bool → List Int → List Int
  | _, [] => []
  | b, x :: xs => (if b = true then [] else [58]) ++ (hexL [x] ++ macT false xs)
def ether_MacText.f (k : Nat) (a0 : Int) : Option (ByteArray × Int) :=
  (ether_card.f [a0]).bind fun t1 => if t1 = true then (ether_lay.f k [] [(⟨6, a0⟩ : S33)]).bind fun t2 => (if t2.length ≤ 100 ∧ (∀ x ∈ t2, 0 ≤ x ∧ x ≤ 255) then some (strOfNums (macT true t2), 0) else none) else some (⟨#[]⟩, 2)
theorem ether_MacText.mono : ∀ a0 k, LeO (ether_MacText.f k a0) (ether_MacText.f (k + 1) a0) := by
  intro a0 k
  unfold ether_MacText.f
  refine LeO.bind (LeO.refl _) (fun t1 => ?_)
  refine LeO.ite ?_ (LeO.refl _)
  exact LeO.bind (ether_lay.mono _ _ _) (fun _ => LeO.refl _)

theorem macT_false : ∀ (xs : List Int) (x : Int), macT false (xs ++ [x]) = macT false xs ++ ([58] ++ hexL [x])
  | [], x => by simp [macT]
  | y :: xs, x => by
    have := macT_false xs x
    simp only [List.cons_append, macT, this]
    simp
theorem macT_take (l : List Int) (k : Nat) (h : k < l.length) : macT true (l.take (k + 1)) = (if k = 0 then [] else macT true (l.take k) ++ [58]) ++ hexL [rd l k] := by
  have e : rd l (k : Int) = l[k] := by simp [rd, List.getD_eq_getElem?_getD, List.getElem?_eq_getElem h]
  rw [List.take_succ_eq_append_getElem h, e]
  cases l with
  | nil => simp at h
  | cons y ys =>
    cases k with
    | zero => simp [macT]
    | succ k =>
      rw [if_neg (by omega)]
      simp only [List.take_succ_cons, List.cons_append, macT]
      have := macT_false (ys.take k) ((y :: ys)[k + 1])
      simp only [if_true, List.nil_append]
      rw [this]
      simp
theorem macT_len : ∀ (b : Bool) (l : List Int), (macT b l).length ≤ 3 * l.length
  | b, [] => by simp [macT]
  | b, x :: xs => by
    have := macT_len false xs
    cases b <;> simp [macT, hexL] <;> omega

set_option maxHeartbeats 8000000 in
set_option maxRecDepth 100000 in
theorem ether_MacText.calls (k : Nat) (a0 : Int) (r1 : ByteArray) (r2 : Int) (w : World) (h : ether_MacText.f k a0 = some (r1, r2)) :
    Calls Tryd.prog 4 #[.int .u64 a0] w fun e w' => e = .returned (.tuple #[.string r1, .int .i64 r2]) ∧ Below w.heap.size w w' := by
  have hu53 := Tryd.underlying33
  have HB := Aside0.mk (Below.refl w.heap.size w)
  unfold ether_MacText.f at h
  obtain ⟨t1, hc, h⟩ := Option.bind_eq_some_iff.mp h
  have HCA := Aside0.mk hc
  clear hc
  cases t1 with
  | false =>
    rw [if_neg (by decide)] at h
    obtain ⟨rfl, rfl⟩ := Prod.mk.inj (Option.some.inj h)
    clear h
    go_enter Tryd.func4, Tryd.ntmps4
    go_wp2_with (first | ((with_reducible refine gate_dst (N := 8) rfl ?_); refine Kd.R_lit (Kd.int .u64) _ 22 ?hg (N := 8) ?hd (xs := ([a0] : List Int)) (inner := [.int .u64 a0]) (ok := fun _ => True) (okp := fun _ => True) ?hr ?hp (fun _ hk => hk) trivial (Below.refl _ _) (Nat.le_refl _) (by simp) ?_; (case hd => rfl); (case hg => rfl); (case hr => first | (go_simp; done) | (go_simp; rfl)); (case hp => exact (Reps.one (show Kd.M (Kd.int .u64) _ _ _ a0 [.int .u64 a0] from rfl) (Reps.none _ _))); intro v1 w1 ho hb hg_ hnew_; have HO := Aside0.mk ho; have HB1 := Aside0.mk hb; clear ho hb hg_ hnew_; obtain ⟨Ao, co, eo⟩ := Kd.R_slice HO.out; subst eo) | (go_at_call 9; (refine (ether_card.calls _ _ [a0] false _ (Kd.R_reads' HO.out).2.2 (Kd.R_reads' HO.out).2.1 HCA.out).mono ?_); rintro e w' ⟨rfl, hd⟩; have HB2 := Aside0.mk (HB1.out.trans (hd.below.mono HB1.out.size)); clear hd))
    go_ret2
    exact ⟨rfl, HB2.out⟩
  | true =>
    rw [if_pos rfl] at h
    obtain ⟨t2, hl, h⟩ := Option.bind_eq_some_iff.mp h
    have HLA := Aside0.mk hl
    clear hl
    by_cases hcond : t2.length ≤ 100 ∧ (∀ x ∈ t2, 0 ≤ x ∧ x ≤ 255)
    · rw [if_pos hcond] at h
      obtain ⟨hr, rfl⟩ := Prod.mk.inj (Option.some.inj h)
      have HR_ := Aside0.mk hr
      clear h hr
      obtain ⟨hlen, hby⟩ := hcond
      have HBY := Aside0.mk hby
      clear hby
      go_enter Tryd.func4, Tryd.ntmps4
      go_wp2_with (first | ((with_reducible refine gate_dst (N := 8) rfl ?_); refine Kd.R_lit (Kd.int .u64) _ 22 ?hg (N := 8) ?hd (xs := ([a0] : List Int)) (inner := [.int .u64 a0]) (ok := fun _ => True) (okp := fun _ => True) ?hr ?hp (fun _ hk => hk) trivial (Below.refl _ _) (Nat.le_refl _) (by simp) ?_; (case hd => rfl); (case hg => rfl); (case hr => first | (go_simp; done) | (go_simp; rfl)); (case hp => exact (Reps.one (show Kd.M (Kd.int .u64) _ _ _ a0 [.int .u64 a0] from rfl) (Reps.none _ _))); intro v1 w1 ho hb hg_ hnew_; have HO := Aside0.mk ho; have HB1 := Aside0.mk hb; clear ho hb hg_ hnew_; obtain ⟨Ao, co, eo⟩ := Kd.R_slice HO.out; subst eo) | (go_at_call 9; (refine (ether_card.calls _ _ [a0] true _ (Kd.R_reads' HO.out).2.2 (Kd.R_reads' HO.out).2.1 HCA.out).mono ?_); rintro e w' ⟨rfl, hd⟩; have HB2 := Aside0.mk (HB1.out.trans (hd.below.mono HB1.out.size)); clear hd)
                                   | ((with_reducible refine gate_dst (N := 13) rfl ?_); refine Kd.R_lit k33 _ 33 ?hg (N := 13) ?hd (xs := ([(⟨6, a0⟩ : S33)] : List S33)) (inner := [.int .u64 6, .int .u64 a0]) (ok := fun _ => True) (okp := fun _ => True) ?hr ?hp (fun _ hk => hk) trivial (Below.refl _ _) (Nat.le_refl _) (by simp) ?_; (case hd => rfl); (case hg => rfl); (case hr => first | (go_simp; done) | (go_simp; rfl)); (case hp => exact (Reps.c2 (show Kd.M k33 _ _ _ (⟨6, a0⟩ : S33) [.int .u64 6, .int .u64 a0] from (k33_mkM _ _ _ (⟨6, a0⟩ : S33))) (Reps.none _ _))); intro v3 w3 ho hb hg_ hnew_; have HO3 := Aside0.mk ho; have HB3 := Aside0.mk (HB2.out.trans (hb.mono HB2.out.size)); clear ho hb hg_ hnew_; obtain ⟨Ao3, co3, eo3⟩ := Kd.R_slice HO3.out; subst eo3)
                                   | (go_at_call 10; (refine (ether_lay.calls k (fun k_ => some k_ = (.slice none 0 0 : Value).ownBlock) (.slice none 0 0) ([] : List Int) _ _ [(⟨6, a0⟩ : S33)] t2 w _ HB3.out (Kd.R_nil _ _ _ _ _) (Kd.C_kept_own (HO3.out) (fun k_ hk_ hs_ => (fun e_ => by simp [Value.ownBlock] at e_) hs_)) (Kd.R_reads' HO3.out).2.1 HLA.out).mono ?_); rintro e w4 ⟨v4, rfl, ho0, hb, hkp⟩; have HO4 := Aside0.mk (Kd.R_mono (ok' := fun k_ => True) ho0 (fun k_ hk_ => trivial)); have HB4 := Aside0.mk hb; clear ho0 hb hkp; obtain ⟨Ao4, co4, eo4⟩ := Kd.R_slice HO4.out; subst eo4))
      go_loopg [4, 16] (t2.length + 1) (fun gk v4_ v16_ wr => ∃ k : Nat, k + gk = t2.length + 1 ∧ k ≤ t2.length ∧ v16_ = .int .i64 k ∧ Aside0 (Kd.R (Kd.int .u8) 5 wr w4.heap.size (fun _ => True) v4_ (macT true (t2.take k))) ∧ Aside0 (Below w4.heap.size w4 wr))
      case atStart => exact ⟨0, by omega, by omega, rfl, ⟨by simpa [macT] using Kd.R_nil _ _ _ _ _⟩, ⟨Below.refl _ _⟩⟩
      case round =>
        obtain ⟨k, hgk, hk, rfl, HV, HBR⟩ := hrel
        by_cases hlt : k < t2.length
        · cases gk with
          | zero => omega
          | succ gk =>
            obtain ⟨ad, e1, hcell0⟩ := Kd.at_int (Kd.C_below (Kd.R_reads' HO4.out).2.2 HBR.out) (k : Int) (by omega) (by omega)
            obtain ⟨x, hx⟩ : ∃ x, x = rd t2 (k : Int) := ⟨_, rfl⟩
            have hcell : wr.cell? (ad.add k) = some (.int .u8 x) := by rw [hx]; simpa using hcell0
            have hxr : 0 ≤ x ∧ x ≤ 255 := by
              rw [hx]
              have e : rd t2 k = t2[k] := by simp [rd, List.getD_eq_getElem?_getD, List.getElem?_eq_getElem hlt]
              rw [e]
              exact HBY.out _ (List.getElem_mem hlt)
            have hst := macT_take t2 k hlt
            rw [← hx] at hst
            have HST := Aside0.mk hst
            have hml := macT_len true (t2.take k)
            have HHX := Aside0.mk (show octet_Hex.f [x] = some (strOfNums (hexL [x])) by unfold octet_Hex.f; rw [if_pos ⟨by simp, by intro y hy; simp at hy; omega⟩])
            have HSZ := Aside0.mk (show (strOfNums (hexL [x])).size = 2 by simp [strOfNums, ByteArray.size, hexL])
            have hw : wrap64 ((k : Int) + 1) = ((k + 1 : Nat) : Int) := by unfold wrap64; omega
            have hb : decide ((k : Int) < (t2.length : Int)) = true := decide_eq_true (by omega)
            have hb' : decide (k < t2.length) = true := decide_eq_true hlt
            have hbn : bytesOf (strOfNums (hexL [x])) = hexL [x] := by
              have a1 : (0 : Int) ≤ hexD (x / 16) ∧ hexD (x / 16) ≤ 255 := by unfold hexD; split <;> omega
              have a2 : (0 : Int) ≤ hexD (x % 16) ∧ hexD (x % 16) ≤ 255 := by unfold hexD; split <;> omega
              simp only [hexL, bytesOf, strOfNums, List.map_cons, List.map_nil, UInt8.toNat_ofNat', List.cons.injEq, and_true]
              omega
            have HBN := Aside0.mk hbn
            have HLM := Aside0.mk (show (macT true (t2.take k)).length ≤ 1000 by rw [List.length_take] at hml; omega)
            clear hcell0 hst hx hml hbn
            cases e1
            by_cases hk0 : k = 0
            · have c0 : decide (0 < (k : Int)) = false := decide_eq_false (by omega)
              have c1 : decide (0 < k) = false := decide_eq_false (by omega)
              have hmt : macT true (t2.take k) = [] := by rw [hk0]; rfl
              have HMT := Aside0.mk hmt
              rw [hmt] at HV
              have HK0 := Aside0.mk hk0
              clear hmt hk0
              go_wp2_with (first | ((with_reducible refine gate_dst (N := 28) rfl ?_); refine Kd.R_lit (Kd.int .u8) _ 5 ?hg (N := 28) ?hd (xs := ([x] : List Int)) (inner := [.int .u8 x]) (ok := fun _ => True) (okp := fun _ => True) ?hr ?hp (fun _ hk => hk) trivial (Below.refl _ _) (Nat.le_refl _) (by simp) ?_; (case hd => rfl); (case hg => rfl); (case hr => first | (go_simp; done) | (go_simp; rfl)); (case hp => exact (Reps.one (show Kd.M (Kd.int .u8) _ _ _ x [.int .u8 x] from rfl) (Reps.none _ _))); intro v6 w6 ho hb hg_ hnew_; have HO6 := Aside0.mk ho; have HV6 := Aside0.mk (Kd.R_below HV.out hb); have HB6 := Aside0.mk (HBR.out.trans (hb.mono HBR.out.size)); clear ho hb hg_ hnew_; obtain ⟨Ao6, co6, eo6⟩ := Kd.R_slice HO6.out; subst eo6) | (go_at_call 11; (refine (octet_Hex.calls _ _ [x] _ _ (Kd.R_reads' HO6.out).2.2 (Kd.R_reads' HO6.out).2.1 HHX.out).mono ?_); rintro e w7 ⟨rfl, hb⟩; have HV7 := Aside0.mk (Kd.R_below HV6.out hb); have HB7 := Aside0.mk (HB6.out.trans (hb.mono HB6.out.size)); clear hb) | ((with_reducible refine gate_builtin (b := .append) (xs := #[.tmp 26, .tmp 29]) rfl ?_); at_builtin; refine print_append_str (w0 := w4) w4.heap.size rfl (.tmp 26) (.tmp 29) 31 9 5 rfl Tryd.underlying31 Tryd.underlying9 info5 u4 ([]) (strOfNums (hexL [x])) rfl rfl (Kd.own_of_R HV7.out) HB7.out HB7.out.size (by have := HLM.out; have := HSZ.out; (try simp only [List.length_append, List.length_cons, List.length_nil]); omega) ?_; intro v8 w8 ho hb hg; have HO8 := Aside0.mk ho; have HB8 := Aside0.mk hb; clear ho hb hg))
              go_roundg gk
              case measure => omega
              case rel => exact ⟨k + 1, by omega, by omega, by first | rfl | go_num, ⟨by rw [HST.out, if_pos HK0.out, List.nil_append]; have h_ := HO8.out; rw [HBN.out] at h_; exact Kd.R_of_own h_ (fun _ _ => trivial)⟩, HB8⟩
            · have c0 : decide (0 < (k : Int)) = true := decide_eq_true (by omega)
              have c1 : decide (0 < k) = true := decide_eq_true (by omega)
              go_wp2_with (first | ((with_reducible refine gate_dst (N := 24) rfl ?_); refine Kd.R_lit (Kd.int .u8) _ 5 ?hg (N := 24) ?hd (xs := ([58] : List Int)) (inner := [.int .u8 58]) (ok := fun _ => True) (okp := fun _ => True) ?hr ?hp (fun _ hk => hk) trivial (Below.refl _ _) (Nat.le_refl _) (by simp) ?_; (case hd => rfl); (case hg => rfl); (case hr => first | (go_simp; done) | (go_simp; rfl)); (case hp => exact (Reps.one (show Kd.M (Kd.int .u8) _ _ _ 58 [.int .u8 58] from rfl) (Reps.none _ _))); intro v9 w9 ho hb hg_ hnew_; have HO9 := Aside0.mk ho; have HV9 := Aside0.mk (Kd.R_below HV.out hb); have HB9 := Aside0.mk (HBR.out.trans (hb.mono HBR.out.size)); clear ho hb hg_ hnew_; obtain ⟨Ao9, co9, eo9⟩ := Kd.R_slice HO9.out; subst eo9) | ((with_reducible refine gate_builtin (b := .append) (xs := #[.tmp 23, .tmp 24]) rfl ?_); at_builtin; refine Kd.R_append_row (Value.int .u8) (0 : Int) (w0 := w4) w4.heap.size rfl (.tmp 23) (.tmp 24) 31 5 (.int .u8 0) 1 rfl Tryd.underlying31 info5 rfl (by decide) u4 (macT true (t2.take k)) [58] Ao9 _ co9 (fun _ => True) rfl rfl (fun _ _ => trivial) HV9.out (Kd.R_reads' HO9.out).2.2 HB9.out HB9.out.size (by have := HLM.out; (try simp only [List.length_cons, List.length_nil]); omega) ?_; intro v10 w10 ho hb hg hat; have HO10 := Aside0.mk ho; have HB10 := Aside0.mk hb; clear ho hb hg hat) | ((with_reducible refine gate_dst (N := 28) rfl ?_); refine Kd.R_lit (Kd.int .u8) _ 5 ?hg (N := 28) ?hd (xs := ([x] : List Int)) (inner := [.int .u8 x]) (ok := fun _ => True) (okp := fun _ => True) ?hr ?hp (fun _ hk => hk) trivial (Below.refl _ _) (Nat.le_refl _) (by simp) ?_; (case hd => rfl); (case hg => rfl); (case hr => first | (go_simp; done) | (go_simp; rfl)); (case hp => exact (Reps.one (show Kd.M (Kd.int .u8) _ _ _ x [.int .u8 x] from rfl) (Reps.none _ _))); intro v6 w6 ho hb hg_ hnew_; have HO6 := Aside0.mk ho; have HV6 := Aside0.mk (Kd.R_below HO10.out hb); have HB6 := Aside0.mk (HB10.out.trans (hb.mono HB10.out.size)); clear ho hb hg_ hnew_; obtain ⟨Ao6, co6, eo6⟩ := Kd.R_slice HO6.out; subst eo6) | (go_at_call 11; (refine (octet_Hex.calls _ _ [x] _ _ (Kd.R_reads' HO6.out).2.2 (Kd.R_reads' HO6.out).2.1 HHX.out).mono ?_); rintro e w7 ⟨rfl, hb⟩; have HV7 := Aside0.mk (Kd.R_below HV6.out hb); have HB7 := Aside0.mk (HB6.out.trans (hb.mono HB6.out.size)); clear hb) | ((with_reducible refine gate_builtin (b := .append) (xs := #[.tmp 26, .tmp 29]) rfl ?_); at_builtin; refine print_append_str (w0 := w4) w4.heap.size rfl (.tmp 26) (.tmp 29) 31 9 5 rfl Tryd.underlying31 Tryd.underlying9 info5 v10 (macT true (t2.take k) ++ [58]) (strOfNums (hexL [x])) rfl rfl (Kd.own_of_R HV7.out) HB7.out HB7.out.size (by have := HLM.out; have := HSZ.out; (try simp only [List.length_append, List.length_cons, List.length_nil]); omega) ?_; intro v8 w8 ho hb hg; have HO8 := Aside0.mk ho; have HB8 := Aside0.mk hb; clear ho hb hg))
              go_roundg gk
              case measure => omega
              case rel => exact ⟨k + 1, by omega, by omega, by first | rfl | go_num, ⟨by rw [HST.out, if_neg hk0]; have h_ := HO8.out; rw [HBN.out] at h_; exact Kd.R_of_own h_ (fun _ _ => trivial)⟩, HB8⟩
        · have hke : k = t2.length := by omega
          subst hke
          have hb : decide ((t2.length : Int) < (t2.length : Int)) = false := decide_eq_false (by omega)
          have hcv := own_string (P := Tryd.prog) (src := 31) (dst := 9) Tryd.underlying31 Tryd.underlying5 Tryd.underlying9 (Kd.own_of_R HV.out)
          rw [List.take_length, HR_.out] at hcv
          clear hlt HV
          go_wp2
          go_ret2
          exact ⟨rfl, HB4.out.trans (HBR.out.mono HB4.out.size)⟩
    · rw [if_neg hcond] at h
      cases h
#print axioms ether_MacText.calls
end Go.Proofs.YtnfbbnmdlcmifaaDoor.M
