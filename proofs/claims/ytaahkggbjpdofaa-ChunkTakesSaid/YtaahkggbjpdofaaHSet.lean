/- slices.Replace at []byte where the new bytes are as many as the old; octet.Set: their contracts. -/
import Derived.Test.YtaahkggbjpdofaaM6
import Derived.Test.YtaahkggbjpdofaaM3
import Derived.Test.YtaahkggbjpdofaaHClone
import Derived.Laws.CopyOwn
import Derived.StillTailTactics
import Derived.WalkSpells
namespace Go.Proofs.Ytaahkggbjpdofaa.M
open Go.RowKit Go.Proofs.YtaahkggbjpdofaaW.PrintWords Go.Proofs.YtaahkggbjpdofaaW.PrintLast Go.Proofs.YtaahkggbjpdofaaW.PrintMore
set_option linter.unusedVariables false
set_option linter.unusedSimpArgs false

theorem st_info : (Try.prog.info? 5).map (fun i => (i.zero, i.size, i.bytes)) = some (some (.int .u8 0), 1, 1) := by kernel_rfl

theorem own_cut {W : World} {B g n cap : Nat} {xs : List Int} (h : W.ownsRow B 5 1 (.slice (some ⟨g, 0, none⟩) n cap) n (nums .u8 xs)) (hl : xs.length = n) (m : Nat) (hm : m ≤ n) : W.ownsRow B 5 1 (.slice (some ⟨g, 0, none⟩) m cap) m (nums .u8 (xs.take m)) := by
  subst hl
  have h1 : Kd.R (Kd.int .u8) 5 W B (fun _ => True) (.slice (some ⟨g, 0, none⟩) xs.length cap) xs := Kd.R_of_own h (fun _ _ => trivial)
  have h2 := Kd.own_of_R (Kd.R_take h1 hm)
  rw [List.length_take, Nat.min_eq_left hm] at h2
  exact h2
theorem own_cells {W : World} {B g n cap : Nat} {xs : List Value} (h : W.ownsRow B 5 1 (.slice (some ⟨g, 0, none⟩) n cap) n xs) : ∃ cur : List Value, W.heap[g]? = some (.cells cur.toArray 5 (0, 0)) ∧ cap ≤ maxLen ∧ cur.length = cap ∧ cur.take n = xs := by
  rcases h.2 with ⟨h1, _⟩ | ⟨g', cap', cur, h1, hbg, hg, hnc, hcm, hcs, htake⟩
  · cases h1
  · simp only [Value.slice.injEq, Option.some.injEq, Addr.mk.injEq, and_true, true_and] at h1
    obtain ⟨rfl, rfl⟩ := h1
    exact ⟨cur.toList, by simpa using hg, hcm, by simpa using hcs, by simpa using htake⟩
theorem own_back {W : World} {B g n cap : Nat} {cur : List Value} (hg : W.heap[g]? = some (.cells cur.toArray 5 (0, 0))) (hB : B ≤ g) (hn : n ≤ cap) (hc : cap ≤ maxLen) (hl : cur.length = cap) : W.ownsRow B 5 1 (.slice (some ⟨g, 0, none⟩) n cap) n (cur.take n) :=
  ⟨by simp; omega, .inr ⟨g, cap, cur.toArray, rfl, hB, hg, hn, hc, by simpa using hl, by simp⟩⟩
theorem cells_drop {W : World} {g k len : Nat} {cur : List Value} (hg : W.heap[g]? = some (.cells cur.toArray 5 (0, 0))) : ∀ j v, ((cur.drop k).take len)[j]? = some v → W.cell? ((⟨g, k, none⟩ : Addr).add j) = some v := by
  intro j v hv
  have ha : (⟨g, k, none⟩ : Addr).add j = ⟨g, k + j, none⟩ := by unfold Addr.add; split <;> simp_all
  rw [ha, blk_cell hg]
  rw [List.getElem?_take] at hv
  split at hv
  · rw [List.getElem?_drop] at hv
    simpa using hv
  · cases hv
theorem splice_self {α : Type} (L : List α) (k len : Nat) (h : k + len ≤ L.length) : splice L k ((L.drop k).take len) = L := by
  unfold splice
  have e : ((L.drop k).take len).length = len := by simp; omega
  rw [e, ← List.append_assoc]
  have h2 : L.take k ++ (L.drop k).take len = L.take (k + len) := by rw [List.take_add]
  rw [h2, List.take_append_drop]
theorem splice_take (cur : List Value) (xs ys : List Int) (i m n : Nat) (hx : cur.take n = nums .u8 xs) (hxl : xs.length = n) (hy : ys.length = m) (hi : i + m ≤ n) (hc : n ≤ cur.length) : (splice cur i (nums .u8 ys)).take n = nums .u8 (xs.take i ++ ys ++ xs.drop (i + m)) := by
  have hcur : cur = nums .u8 xs ++ cur.drop n := by rw [← hx, List.take_append_drop]
  have hnl : (nums .u8 xs).length = n := by rw [nums_length, hxl]
  rw [hcur]
  unfold splice
  have e1 : (nums .u8 xs ++ cur.drop n).take i = nums .u8 (xs.take i) := by
    rw [List.take_append_of_le_length (by omega)]
    simp [nums, List.map_take]
  have e2 : (nums .u8 xs ++ cur.drop n).drop (i + (nums .u8 ys).length) = nums .u8 (xs.drop (i + m)) ++ cur.drop n := by
    rw [nums_length, hy, List.drop_append_of_le_length (by omega)]
    simp [nums, List.map_drop]
  rw [e1, e2]
  have e3 : nums .u8 (xs.take i) ++ (nums .u8 ys ++ (nums .u8 (xs.drop (i + m)) ++ cur.drop n)) = nums .u8 (xs.take i ++ ys ++ xs.drop (i + m)) ++ cur.drop n := by
    simp [nums]
  rw [e3, List.take_append_of_le_length (by simp [nums]; omega)]
  refine List.take_of_length_le ?_
  simp [nums]
  omega
theorem nums_one (ys : List Int) : ∀ u ∈ nums .u8 ys, u.oneCell' = true := by
  intro u hu
  obtain ⟨x, _, rfl⟩ := List.mem_map.1 hu
  rfl
theorem news_of {W : World} {ys : List Int} {m : Nat} {ad : Addr} (hy : ys.length = m) (h : ∀ q, q < m → W.cell? (ad.add q) = some (.int .u8 (rd ys q))) : ∀ j u, (nums .u8 ys)[j]? = some u → W.cell? (ad.add j) = some u := by
  intro j u hu
  have hj : j < ys.length := by
    have := (List.getElem?_eq_some_iff.1 hu).1
    simpa [nums] using this
  rw [h j (by omega)]
  have : (nums .u8 ys)[j]? = some (.int .u8 (rd ys j)) := by simp [nums, rd, List.getElem?_eq_getElem hj, List.getD_eq_getElem?_getD]
  rw [this] at hu
  exact hu

set_option maxHeartbeats 4000000 in
set_option maxRecDepth 100000 in
theorem replace_end (B g cap n : Nat) (i j : Int) (xs ys : List Int) (ad : Addr) (m c : Nat) (w0 W : World) (h0 : 0 ≤ i) (hij : i < j) (hj : j = (n : Int)) (hm : i + (m : Int) = j) (hn : n ≤ 9223372036854775807)
    (hown : W.ownsRow B 5 1 (.slice (some ⟨g, 0, none⟩) n cap) n (nums .u8 xs)) (hb : Below B w0 W) (hBg : B ≤ g) (hy : ys.length = m) (hyc : ∀ q, q < m → W.cell? (ad.add q) = some (.int .u8 (rd ys q))) :
    Calls Try.prog 63 #[.slice (some ⟨g, 0, none⟩) n cap, .int .i64 i, .int .i64 j, .slice (some ad) m c] W fun e w' =>
      e = .returned (.slice (some ⟨g, 0, none⟩) n cap) ∧ w'.ownsRow B 5 1 (.slice (some ⟨g, 0, none⟩) n cap) n (nums .u8 (xs.take i.toNat ++ ys ++ xs.drop j.toNat)) ∧ Below B w0 w' := by
  have hcap : n ≤ cap := own_cap hown
  have hxl : xs.length = n := by have := hown.1; simpa [nums] using this
  have howni := own_cut hown hxl i.toNat (by omega)
  have HO := Aside0.mk howni
  have HB := Aside0.mk hb
  have HY := Aside0.mk hy
  have HYC := Aside0.mk hyc
  have HM := Aside0.mk hm
  have HJ := Aside0.mk hj
  have HX := Aside0.mk hxl
  have hjc : 0 ≤ j ∧ j ≤ (cap : Int) := ⟨by omega, by omega⟩
  have hci : ¬ cap = i.toNat := by omega
  have hij' : i ≤ j := by omega
  clear hown hb hy hyc hxl howni
  have t1 : (i == j) = false := beq_eq_false_iff_ne.mpr (by omega)
  have t2 : (j == (n : Int)) = true := beq_iff_eq.mpr hj
  have hfit : i.toNat + m ≤ cap := by omega
  have hnn : i.toNat + m = n := by omega
  have HNN := Aside0.mk hnn
  clear hj hm hnn
  obtain ⟨i0, hi0, hz0, hz1, hz2⟩ := info_parts st_info
  go_enter Try.func63, Try.ntmps63
  go_wp2_with (first | ((with_reducible refine gate_builtin (b := .append) (xs := #[.tmp 32, .tmp 33]) rfl ?_); at_builtin; refine wpList_append_fits _ rfl (.tmp 32) (.tmp 33) 27 rfl B 5 i0 1 Try.underlying27 hi0 hz1 g i.toNat cap (nums .u8 (xs.take i.toNat)) rfl HO.out ad m c (nums .u8 ys) rfl (by rw [nums_length, HY.out, Nat.mul_one]) (news_of HY.out HYC.out) (nums_one ys) hfit ?_; intro w1 ho1 hg1; rw [HNN.out]; rw [HNN.out] at ho1; have HO1 := Aside0.mk ho1; have HB1 := Aside0.mk (HB.out.grown hg1 (by have := own_lt ho1 g rfl; have := own_lt HO.out g rfl; omega) (fun k hk => by have := Option.some.inj hk; omega)); clear ho1 hg1))
  go_ret
  refine ⟨rfl, ?_, HB1.out⟩
  have h1 := HO1.out
  rw [← nums_append] at h1
  have e : xs.drop j.toNat = [] := List.drop_eq_nil_of_le (by have := HX.out; have := HJ.out; omega)
  rw [e, List.append_nil]
  exact h1

theorem clear_none (w : World) (a : Option Addr) (c : Nat) (ty : TypeId) : (Builtin.clear_ #[27] ty #[.slice a 0 c]).run Try.prog w = .ok (.tuple #[]) w := by
  cases a <;> simp [Builtin.clear_, run_underlying Try.underlying27]

set_option maxHeartbeats 1000000 in
set_option maxRecDepth 100000 in
theorem replace_mid (B g cap n : Nat) (i j : Int) (xs ys : List Int) (ad : Addr) (m c : Nat) (w0 W : World) (h0 : 0 ≤ i) (hij : i < j) (hj : j < (n : Int)) (hm : i + (m : Int) = j) (hn : n ≤ 9223372036854775807)
    (hown : W.ownsRow B 5 1 (.slice (some ⟨g, 0, none⟩) n cap) n (nums .u8 xs)) (hb : Below B w0 W) (hBg : B ≤ g) (hy : ys.length = m) (hyc : ∀ q, q < m → W.cell? (ad.add q) = some (.int .u8 (rd ys q))) :
    Calls Try.prog 63 #[.slice (some ⟨g, 0, none⟩) n cap, .int .i64 i, .int .i64 j, .slice (some ad) m c] W fun e w' =>
      e = .returned (.slice (some ⟨g, 0, none⟩) n cap) ∧ w'.ownsRow B 5 1 (.slice (some ⟨g, 0, none⟩) n cap) n (nums .u8 (xs.take i.toNat ++ ys ++ xs.drop j.toNat)) ∧ Below B w0 w' := by
  have hcap : n ≤ cap := own_cap hown
  have hxl : xs.length = n := by have := hown.1; simpa [nums] using this
  obtain ⟨cur, hg0, hcm, hcs, htk⟩ := own_cells hown
  have HG := Aside0.mk hg0
  have HCM := Aside0.mk hcm
  have HCS := Aside0.mk hcs
  have HTK := Aside0.mk htk
  have HB := Aside0.mk hb
  have HY := Aside0.mk hy
  have HYC := Aside0.mk hyc
  have HM := Aside0.mk hm
  have HJ := Aside0.mk hj
  have HX := Aside0.mk hxl
  have hjc : 0 ≤ j ∧ j ≤ (cap : Int) := ⟨by omega, by omega⟩
  have hci : ¬ cap = i.toNat := by omega
  have hcj : ¬ cap = j.toNat := by omega
  have hij' : i ≤ j := by omega
  have hcap9 : cap ≤ 9223372036854775807 := by simpa [maxLen] using hcm
  clear hown hb hy hyc hxl hg0 hcm hcs htk
  have t1 : (i == j) = false := beq_eq_false_iff_ne.mpr (by omega)
  have t2 : (j == (n : Int)) = false := beq_eq_false_iff_ne.mpr (by omega)
  have hclr := fun (a : Option Addr) (c : Nat) (ty : TypeId) (w : World) => clear_none w a c ty
  clear hj hm
  have hic : 0 ≤ i ∧ i ≤ (cap : Int) := ⟨by omega, by omega⟩
  have hjn : 0 ≤ j ∧ j ≤ (n : Int) := ⟨by omega, by have := HJ.out; omega⟩
  have hic2 : i ≤ (cap : Int) := hic.2
  have hjn2 : j ≤ (n : Int) := hjn.2
  have h0j : 0 ≤ j := hjn.1
  go_enter Try.func63, Try.ntmps63
  go_wp2_with fail
  go_quiet (fail)
  have htot : wrap64 (wrap64 (max i 0 + (m : Int)) + ((n - j.toNat : Nat) : Int)) = (n : Int) := by
    have := HM.out
    have := HJ.out
    unfold wrap64
    omega
  rw [htot]
  clear htot
  have hsum : i + (m : Int) = j := HM.out
  have hmn : (nums .u8 ys).length = m := by rw [nums_length, HY.out]
  have htn : decide ((cap : Int) < (n : Int)) = false := decide_eq_false (by omega)
  have htn' : decide (cap < n) = false := decide_eq_false (by omega)
  have HMN := Aside0.mk hmn
  clear hmn
  go_wp2_with (first | ((with_reducible refine gate_builtin (b := .copy) (xs := #[.tmp 95, .tmp 96]) rfl ?_); refine wpList_copy_splice rfl (.tmp 95) (.tmp 96) 27 27 rfl 5 Try.underlying27 (by kernel_rfl) (some ⟨g, i.toNat, none⟩) (some ad) (n - i.toNat) (cap - i.toNat) m c rfl rfl g i.toNat cur 5 HG.out (nums .u8 ys) (by rw [HMN.out]; exact (Nat.min_eq_left (by have := HM.out; have := HJ.out; omega)).symm) (fun _ => ⟨rfl, ad, rfl, news_of HY.out HYC.out⟩) (by rw [HMN.out, HCS.out]; have := HM.out; have := HJ.out; omega) (nums_one ys) B w0 (pw_below_drewN HB.out nq) hBg ?_; intro w1 hh hb1; have HG1 := Aside0.mk hh.out; have HB1 := Aside0.mk hb1; clear hh hb1))
  obtain ⟨L, hL⟩ : ∃ L, L = splice cur i.toNat (nums .u8 ys) := ⟨_, rfl⟩
  have hnat : i.toNat + m = j.toNat := by omega
  have htake : L.take n = nums .u8 (xs.take i.toNat ++ ys ++ xs.drop j.toNat) := by
    rw [hL, ← hnat]
    exact splice_take cur xs ys i.toNat m n HTK.out HX.out HY.out (by have := HJ.out; omega) (by rw [HCS.out]; exact hcap)
  have hLl : L.length = cap := by
    rw [hL, length_splice _ _ _ (by rw [HMN.out, HCS.out]; have := HJ.out; omega), HCS.out]
  have hcs : (L.drop j.toNat).take (n - j.toNat) = nums .u8 (xs.drop j.toNat) := by
    rw [← List.drop_take, htake]
    have e : j.toNat = (nums .u8 (xs.take i.toNat ++ ys)).length := by
      rw [nums_length, List.length_append, List.length_take, HX.out, HY.out, Nat.min_eq_left (by have := HJ.out; omega), hnat]
    rw [nums_append, e, List.drop_left]
  have hg1 := HG1.out
  rw [← hL] at hg1
  have HG2 := Aside0.mk hg1
  have HTA := Aside0.mk htake
  have HLL := Aside0.mk hLl
  have HCC := Aside0.mk hcs
  have HXJ := Aside0.mk (show (nums .u8 (xs.drop j.toNat)).length = n - j.toNat by rw [nums_length, List.length_drop, HX.out])
  clear HG1 hL htake hLl hcs hg1 hnat
  have hwj : IntKind.i64.wrap j = j := by rw [i64_w]; unfold wrap64; have := HJ.out; omega
  simp only [Act.put, List.setIfInBounds_toArray, List.set_cons_succ, List.set_cons_zero]
  go_wp2_with fail
  go_still_tail 9, (by kernel_rfl)
  change wpList _ _ _ _ _ w1.drew
  clear hwj
  refine wpList_copy_splice rfl (.tmp 103) (.tmp 106) 27 27 rfl 5 Try.underlying27 (by kernel_rfl) (some ⟨g, j.toNat, none⟩) (some ⟨g, j.toNat, none⟩) (n - j.toNat) (cap - j.toNat) (n - j.toNat) (cap - j.toNat) rfl rfl g j.toNat L 5 HG2.out (nums .u8 (xs.drop j.toNat)) (by rw [HXJ.out]; exact (Nat.min_self _).symm) (fun _ => ⟨rfl, _, rfl, by rw [← HCC.out]; exact cells_drop HG2.out⟩) (by rw [HXJ.out, HLL.out]; have := HJ.out; omega) (nums_one _) B w0 (HB1.out.drew) hBg ?_
  intro w3 hh hb3
  have hsp : splice L j.toNat (nums .u8 (xs.drop j.toNat)) = L := by
    rw [← HCC.out]
    exact splice_self L j.toNat (n - j.toNat) (by rw [HLL.out]; have := HJ.out; omega)
  have hg3 := hh.out
  rw [hsp] at hg3
  have HG3 := Aside0.mk hg3
  have HB3 := Aside0.mk hb3
  clear hh hb3 hsp hg3
  simp only [Act.put, List.setIfInBounds_toArray, List.set_cons_succ, List.set_cons_zero]
  go_wp2
  all_goals
    go_ret
    have hfin := own_back HG3.out hBg hcap HCM.out HLL.out
    rw [HTA.out, List.append_assoc] at hfin
    refine ⟨rfl, ?_, HB3.out⟩
    first | exact hfin | (rw [h] at hfin; exact hfin)

def octet_Set.f (k : Nat) (l0 : List Int) (a1 : Int) (a2 : Int) (a3 : Int) : Option (List Int × Int) :=
  (octet_Num.f k l0 a1 a3).bind fun b => if b.2 = 0 then ((octet_Bytes.f k a2 a3).bind fun c => if c.2 = 0 then (if 0 ≤ a1 ∧ 0 < a3 ∧ a1 + a3 ≤ (l0.length : Int) ∧ (c.1.length : Int) = a3 ∧ l0.length < 140737488355328 then some (l0.take a1.toNat ++ c.1 ++ l0.drop (a1 + a3).toNat, 0) else none) else some ([], c.2)) else some ([], b.2)
theorem octet_Set.mono : ∀ a0 a1 a2 a3 k, LeO (octet_Set.f k a0 a1 a2 a3) (octet_Set.f (k + 1) a0 a1 a2 a3) := by
  intro a0 a1 a2 a3 k
  unfold octet_Set.f
  refine LeO.bind (octet_Num.mono _ _ _ _) (fun b => LeO.ite (LeO.bind (octet_Bytes.mono _ _ _) (fun c => LeO.refl _)) (LeO.refl _))

theorem row_cells {W : World} {B g cap : Nat} {ys : List Int} (h : Kd.R (Kd.int .u8) 5 W B (fun _ => True) (.slice (some ⟨g, 0, none⟩) ys.length cap) ys) : ∀ q, q < ys.length → W.cell? ((⟨g, 0, none⟩ : Addr).add q) = some (.int .u8 (rd ys q)) := by
  intro q hq
  have ha : (⟨g, 0, none⟩ : Addr).add q = ⟨g, q, none⟩ := add_plain g q
  rw [ha]
  have := (Kd.R_celln (0 : Int) h (q : Int) (by omega) (by omega)).1
  rw [Int.toNat_natCast] at this
  exact this

set_option maxHeartbeats 4000000 in
set_option maxRecDepth 100000 in
theorem octet_Set.calls (k : Nat) (A0 : Option Addr) (c0 : Nat) (l0 : List Int) (a1 : Int) (a2 : Int) (a3 : Int) (r1 : List Int) (r2 : Int) (w : World) (hr0 : Kd.C (Kd.int .u8) w A0 l0.length l0) (hc0 : l0.length ≤ c0) (h : octet_Set.f k l0 a1 a2 a3 = some (r1, r2)) :
    Calls Try.prog 48 #[.slice A0 l0.length c0, .int .i64 a1, .int .u64 a2, .int .i64 a3] w fun e w' => ∃ v0_ : Value, e = .returned (.tuple #[v0_, .int .i64 r2]) ∧ Kd.R (Kd.int .u8) 5 w' w.heap.size (fun _ => True) v0_ r1 ∧ Below w.heap.size w w' := by
  unfold octet_Set.f at h
  obtain ⟨⟨b1, b2⟩, hN, h⟩ := Option.bind_eq_some_iff.mp h
  dsimp only at h
  have HN := Aside0.mk hN
  have HR := Aside0.mk hr0
  have HC := Aside0.mk hc0
  clear hN hr0 hc0
  by_cases hb2 : b2 = 0
  · rw [if_pos hb2] at h
    subst hb2
    obtain ⟨⟨y, c2⟩, hBy, h⟩ := Option.bind_eq_some_iff.mp h
    dsimp only at h
    have HBY := Aside0.mk hBy
    clear hBy
    by_cases hc2 : c2 = 0
    · rw [if_pos hc2] at h
      subst hc2
      have hcond : 0 ≤ a1 ∧ 0 < a3 ∧ a1 + a3 ≤ (l0.length : Int) ∧ (y.length : Int) = a3 ∧ l0.length < 140737488355328 := by
        split at h
        · assumption
        · cases h
      rw [if_pos hcond] at h
      simp only [Option.some.injEq, Prod.mk.injEq] at h
      obtain ⟨hr1, rfl⟩ := h
      obtain ⟨g0, g1, g2, g3, g4⟩ := hcond
      have HR1 := Aside0.mk hr1
      have HYL := Aside0.mk g3
      have HCL := Aside0.mk (show slices_Clone_byte_byte.f l0 = some l0 by unfold slices_Clone_byte_byte.f; rw [if_pos g4])
      have hw13 : wrap64 (a1 + a3) = a1 + a3 := by unfold wrap64; omega
      clear hr1 g3
      go_enter Try.func48, Try.ntmps48
      go_wp2_with (first | (go_at_call 56; refine (octet_Num.calls k A0 c0 l0 a1 a3 b1 0 _ HR.out HC.out HN.out).mono ?_; rintro e w1 ⟨rfl, hd⟩; have HB1 := Aside0.mk hd.below; clear hd) | (go_at_call 49; refine (octet_Bytes.calls k a2 a3 y 0 _ HBY.out).mono ?_; rintro e w2 ⟨v2, rfl, ho2, hb2⟩; have HB2 := Aside0.mk (below_step HB1.out hb2); have HO2 := Aside0.mk (Kd.R_lower ho2 HB1.out.size); clear ho2 hb2) | (go_at_call 50; refine (slices_Clone_byte_byte.calls A0 c0 l0 l0 _ (Kd.C_below HR.out HB2.out) HC.out HCL.out).mono ?_; rintro e w3 ⟨v3, rfl, ho3, hb3⟩; have HB3 := Aside0.mk (below_step HB2.out hb3); have HO3 := Aside0.mk (Kd.R_lower ho3 HB2.out.size); have HO2b := Aside0.mk (Kd.R_below HO2.out hb3); clear ho3 hb3))
      have hln : (l0.take a1.toNat ++ y ++ l0.drop (a1 + a3).toNat).length = l0.length := by
        have := HYL.out
        simp only [List.length_append, List.length_take, List.length_drop]
        omega
      have HLN := Aside0.mk hln
      clear hln
      obtain ⟨g3, cap3, hv3, gb3, gl3, _⟩ := Kd.R_form HO3.out (by omega)
      obtain ⟨g2, cap2, hv2, gb2, gl2, _⟩ := Kd.R_form HO2b.out (by have := HYL.out; omega)
      subst hv3
      subst hv2
      by_cases hend : a1 + a3 = (l0.length : Int)
      · refine (replace_end w.heap.size g3 cap3 l0.length a1 (a1 + a3) l0 y ⟨g2, 0, none⟩ y.length cap2 w _ g0 (by omega) hend (by have := HYL.out; omega) (by omega) (Kd.own_of_R HO3.out) HB3.out gb3 rfl (row_cells HO2b.out)).mono ?_
        rintro e w4 ⟨rfl, ho4, hb4⟩
        have hfin := Kd.R_of_own (enc := Value.int .u8) (h1 := fun _ => rfl) (ok := fun _ => True) (xs := l0.take a1.toNat ++ y ++ l0.drop (a1 + a3).toNat) (by rw [HLN.out]; exact ho4) (fun _ _ => trivial)
        rw [HR1.out] at hfin
        have HF4 := Aside0.mk hfin
        have HB4 := Aside0.mk hb4
        clear ho4 hb4 hfin
        go_wp2
        go_ret2
        exact ⟨_, rfl, HF4.out, HB4.out⟩
      · refine (replace_mid w.heap.size g3 cap3 l0.length a1 (a1 + a3) l0 y ⟨g2, 0, none⟩ y.length cap2 w _ g0 (by omega) (by omega) (by have := HYL.out; omega) (by omega) (Kd.own_of_R HO3.out) HB3.out gb3 rfl (row_cells HO2b.out)).mono ?_
        rintro e w4 ⟨rfl, ho4, hb4⟩
        have hfin := Kd.R_of_own (enc := Value.int .u8) (h1 := fun _ => rfl) (ok := fun _ => True) (xs := l0.take a1.toNat ++ y ++ l0.drop (a1 + a3).toNat) (by rw [HLN.out]; exact ho4) (fun _ _ => trivial)
        rw [HR1.out] at hfin
        have HF4 := Aside0.mk hfin
        have HB4 := Aside0.mk hb4
        clear ho4 hb4 hfin
        go_wp2
        go_ret2
        exact ⟨_, rfl, HF4.out, HB4.out⟩
    · rw [if_neg hc2] at h
      simp only [Option.some.injEq, Prod.mk.injEq] at h
      obtain ⟨rfl, rfl⟩ := h
      have hb : (c2 != 0) = true := by simpa using hc2
      clear hc2
      go_enter Try.func48, Try.ntmps48
      go_wp2_with (first | (go_at_call 56; refine (octet_Num.calls k A0 c0 l0 a1 a3 b1 0 _ HR.out HC.out HN.out).mono ?_; rintro e w1 ⟨rfl, hd⟩; have HB1 := Aside0.mk hd.below; clear hd) | (go_at_call 49; refine (octet_Bytes.calls k a2 a3 y c2 _ HBY.out).mono ?_; rintro e w2 ⟨v2, rfl, ho2, hb2⟩; have HB2 := Aside0.mk (below_step HB1.out hb2); clear ho2 hb2))
      go_ret2
      exact ⟨_, rfl, Kd.R_nil _ _ _ _ _, HB2.out⟩
  · rw [if_neg hb2] at h
    simp only [Option.some.injEq, Prod.mk.injEq] at h
    obtain ⟨rfl, rfl⟩ := h
    have hb : (b2 != 0) = true := by simpa using hb2
    clear hb2
    go_enter Try.func48, Try.ntmps48
    go_wp2_with (first | (go_at_call 56; refine (octet_Num.calls k A0 c0 l0 a1 a3 b1 b2 _ HR.out HC.out HN.out).mono ?_; rintro e w1 ⟨rfl, hd⟩; have HB1 := Aside0.mk hd.below; clear hd))
    go_ret2
    exact ⟨_, rfl, Kd.R_nil _ _ _ _ _, HB1.out⟩
end Go.Proofs.Ytaahkggbjpdofaa.M
