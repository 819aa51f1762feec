/- sums.Stamp: its contract, in the printed form. -/
import Derived.Test.YtaahkggbjpdofaaM3
import Derived.Test.YtaahkggbjpdofaaM7
import Derived.Test.YtaahkggbjpdofaaHClone
import Derived.Test.YtaahkggbjpdofaaHSet
import Derived.Test.YtaahkggbjpdofaaHCrc
import Derived.Laws.CopyOwn
import Derived.StillTailTactics
import Derived.WalkSpells
namespace Go.Proofs.Ytaahkggbjpdofaa.M
open Go.RowKit Go.Proofs.YtaahkggbjpdofaaW.PrintWords Go.Proofs.YtaahkggbjpdofaaW.PrintLast Go.Proofs.YtaahkggbjpdofaaW.PrintMore
set_option linter.unusedVariables false
set_option linter.unusedSimpArgs false

def sums_Stamp.f (k : Nat) (l0 : List Int) : Option (List Int × Int) :=
  if l0.length < 12 then some ([], 3) else if l0.length < 140737488355328 then
    (sums_Crc.f (l0.take 8 ++ [0, 0, 0, 0] ++ l0.drop 12)).bind fun c => (octet_Bytes.f k (IntKind.u64.wrap c) 4).bind fun b => (slices_Reverse_byte_byte.f k b.1).bind fun y => if y.length = 4 then some (l0.take 8 ++ y ++ l0.drop 12, 0) else none
  else none
theorem sums_Stamp.mono : ∀ a0 k, LeO (sums_Stamp.f k a0) (sums_Stamp.f (k + 1) a0) := by
  intro a0 k
  unfold sums_Stamp.f
  refine LeO.ite (LeO.refl _) (LeO.ite ?_ (LeO.refl _))
  exact LeO.bind (LeO.refl _) (fun c => LeO.bind (octet_Bytes.mono _ _ _) (fun b => LeO.bind (slices_Reverse_byte_byte.mono _ _) (fun y => LeO.refl _)))

/-- A row of bytes of one's own, laid open: its block's cells. -/
def RowAt (W : World) (g cap n : Nat) (xs : List Int) : Prop := ∃ cur : List Value, W.heap[g]? = some (.cells cur.toArray 5 (0, 0)) ∧ cap ≤ maxLen ∧ cur.length = cap ∧ cur.take n = nums .u8 xs ∧ n ≤ cap ∧ xs.length = n
theorem rowAt_of_R {W : World} {B g cap : Nat} {xs : List Int} {ok : Nat → Prop} (h : Kd.R (Kd.int .u8) 5 W B ok (.slice (some ⟨g, 0, none⟩) xs.length cap) xs) : RowAt W g cap xs.length xs := by
  obtain ⟨cur, hg, hcm, hcs, htk⟩ := own_cells (Kd.own_of_R h)
  exact ⟨cur, hg, hcm, hcs, htk, own_cap (Kd.own_of_R h), rfl⟩
theorem rowAt_R {W : World} {B g cap n : Nat} {xs : List Int} (h : RowAt W g cap n xs) (hB : B ≤ g) : Kd.R (Kd.int .u8) 5 W B (fun _ => True) (.slice (some ⟨g, 0, none⟩) n cap) xs := by
  obtain ⟨cur, hg, hcm, hcs, htk, hn, rfl⟩ := h
  have ho := own_back hg hB hn hcm hcs
  rw [htk] at ho
  exact Kd.R_of_own (enc := Value.int .u8) (h1 := fun _ => rfl) ho (fun _ _ => trivial)
theorem rowAt_same {W W2 : World} {g cap n : Nat} {xs : List Int} (h : RowAt W g cap n xs) (hs : W.heap[g]? = W2.heap[g]?) : RowAt W2 g cap n xs := by
  obtain ⟨cur, hg, r⟩ := h
  exact ⟨cur, hs ▸ hg, r⟩
theorem rowAt_lt {W : World} {g cap n : Nat} {xs : List Int} (h : RowAt W g cap n xs) : g < W.heap.size := by
  obtain ⟨cur, hg, r⟩ := h
  exact blk_lt hg
theorem rowAt_below {W W2 : World} {g cap n : Nat} {xs : List Int} (h : RowAt W g cap n xs) (hb : Below W.heap.size W W2) : RowAt W2 g cap n xs := rowAt_same h (hb.block g (rowAt_lt h)).symm
theorem rowAt_grown {W W2 : World} {g cap n : Nat} {xs : List Int} (h : RowAt W g cap n xs) (hb : W.grownBy W2 none) : RowAt W2 g cap n xs := rowAt_same h (hb.block g (rowAt_lt h) (by simp)).symm
theorem rowAt_kept {W W2 : World} {g cap n : Nat} {xs : List Int} {S : Nat → Prop} (h : RowAt W g cap n xs) (hb : Kept W W2 S) (hn : ¬ S g) : RowAt W2 g cap n xs := rowAt_same h (hb.2 g (rowAt_lt h) hn).symm
theorem copy_row {w w0 : World} {ops : Array Oper} {rest : List Oper} {o : Oper} {a : Act} {Q : Exit → Act → World → Prop} (hgd : o.guard = none) (d s : Operand)
    (ho : o.op = .call { callee := .builtin .copy, args := #[d, s], argTypes := #[27, 27] }) (g off m m' dcap c cap n B : Nat) (ad : Addr) (xs ys : List Int) (hd : a.eval d = .slice (some ⟨g, off, none⟩) m dcap) (hs : a.eval s = .slice (some ad) m' c) (hmm : m' = m)
    (hrow : RowAt w g cap n xs) (hy : ys.length = m) (hyc : ∀ q, q < m → w.cell? (ad.add q) = some (.int .u8 (rd ys q))) (hoff : off + m ≤ n) (hb : Below B w0 w) (hBg : B ≤ g)
    (h : ∀ w', RowAt w' g cap n (xs.take off ++ ys ++ xs.drop (off + m)) → Below B w0 w' → wpList Try.prog ops Q rest (a.put o.dst (goInt m)) w') : wpList Try.prog ops Q (o :: rest) a w := by
  subst hmm
  obtain ⟨cur, hg, hcm, hcs, htk, hnc, hxl⟩ := hrow
  have hl : (nums .u8 ys).length = m' := by rw [nums_length, hy]
  refine wpList_copy_splice hgd d s 27 27 ho 5 Try.underlying27 (by kernel_rfl) (some ⟨g, off, none⟩) (some ad) m' dcap m' c hd hs g off cur 5 hg (nums .u8 ys) (by rw [hl]; exact (Nat.min_self m').symm) (fun _ => ⟨rfl, ad, rfl, news_of hy hyc⟩) (by rw [hl]; omega) (nums_one ys) B w0 hb hBg ?_
  intro w' hh hb'
  rw [hl]
  refine h w' ⟨_, hh.out, hcm, ?_, splice_take cur xs ys off m' n htk hxl hy hoff (by omega), hnc, ?_⟩ hb'
  · rw [length_splice _ _ _ (by rw [hl]; omega), hcs]
  · simp only [List.length_append, List.length_take, List.length_drop]; omega
theorem crc_row {W : World} {g cap n : Nat} {xs : List Int} {c : Int} (h : RowAt W g cap n xs) (hf : sums_Crc.f xs = some c) : Calls Try.prog 51 #[.slice (some ⟨g, 0, none⟩) n cap] W fun e w' => e = .returned (.int .u32 c) ∧ Below W.heap.size W w' := by
  obtain ⟨h1, h2, h3⟩ := Kd.R_reads' (rowAt_R h (Nat.zero_le g))
  have := sums_Crc.calls (some ⟨g, 0, none⟩) cap xs c W h3 (by omega) hf
  rw [← h1] at this
  exact this
theorem newer {w6 w7 : World} {v : Value} {ys : List Int} {B : Nat} {ok : Nat → Prop} (h : Kd.R (Kd.int .u8) 5 w7 B ok v ys) : Kd.R (Kd.int .u8) 5 w7 B (fun k_ => B ≤ k_) v ys :=
  Kd.R_of_own (enc := Value.int .u8) (h1 := fun _ => rfl) (Kd.own_of_R h) (fun k hk => own_base (Kd.own_of_R h) k hk)
theorem stamp_row (l0 y : List Int) (h : 12 ≤ l0.length) : (l0.take 8 ++ [0, 0, 0, 0] ++ l0.drop 12).take 8 ++ y ++ (l0.take 8 ++ [0, 0, 0, 0] ++ l0.drop 12).drop 12 = l0.take 8 ++ y ++ l0.drop 12 := by
  have e1 : (l0.take 8 ++ [0, 0, 0, 0] ++ l0.drop 12).take 8 = l0.take 8 := by
    rw [List.append_assoc, List.take_append_of_le_length (by simp; omega), List.take_take, Nat.min_self]
  have e2 : (l0.take 8 ++ [0, 0, 0, 0] ++ l0.drop 12).drop 12 = l0.drop 12 := by
    have hl : (l0.take 8 ++ [0, 0, 0, 0]).length = 12 := by simp; omega
    rw [List.drop_append, hl, List.drop_of_length_le (by omega), Nat.sub_self, List.drop_zero, List.nil_append]
  rw [e1, e2]

set_option maxHeartbeats 4000000 in
set_option maxRecDepth 100000 in
theorem sums_Stamp.calls (k : Nat) (A0 : Option Addr) (c0 : Nat) (l0 : List Int) (r1 : List Int) (r2 : Int) (w : World) (hr0 : Kd.C (Kd.int .u8) w A0 l0.length l0) (hc0 : l0.length ≤ c0) (h : sums_Stamp.f k l0 = some (r1, r2)) :
    Calls Try.prog 34 #[.slice A0 l0.length c0] w fun e w' => ∃ v0_ : Value, e = .returned (.tuple #[v0_, .int .i64 r2]) ∧ Kd.R (Kd.int .u8) 5 w' w.heap.size (fun _ => True) v0_ r1 ∧ Below w.heap.size w w' := by
  unfold sums_Stamp.f at h
  have HR := Aside0.mk hr0
  have HC := Aside0.mk hc0
  clear hr0 hc0
  by_cases hlt : l0.length < 12
  · rw [if_pos hlt] at h
    simp only [Option.some.injEq, Prod.mk.injEq] at h
    obtain ⟨rfl, rfl⟩ := h
    have c1 : decide ((l0.length : Int) < 12) = true := decide_eq_true (by omega)
    have c2 : decide (l0.length < 12) = true := decide_eq_true hlt
    go_enter Try.func34, Try.ntmps34
    go_wp2
    go_ret2
    exact ⟨_, rfl, Kd.R_nil _ _ _ _ _, Below.refl _ _⟩
  · rw [if_neg hlt] at h
    have hm : l0.length < 140737488355328 := by
      split at h
      · assumption
      · cases h
    rw [if_pos hm] at h
    obtain ⟨c, hC, h⟩ := Option.bind_eq_some_iff.mp h
    obtain ⟨⟨b1, b2⟩, hBy, h⟩ := Option.bind_eq_some_iff.mp h
    obtain ⟨y, hRv, h⟩ := Option.bind_eq_some_iff.mp h
    dsimp only at h hRv
    have hy4 : y.length = 4 := by
      split at h
      · assumption
      · cases h
    rw [if_pos hy4] at h
    simp only [Option.some.injEq, Prod.mk.injEq] at h
    obtain ⟨hr1, rfl⟩ := h
    have HR1 := Aside0.mk hr1
    have HCR := Aside0.mk hC
    have HBY := Aside0.mk hBy
    have HRV := Aside0.mk hRv
    have HY4 := Aside0.mk hy4
    have HM := Aside0.mk hm
    have HLT := Aside0.mk hlt
    have HCL := Aside0.mk (show slices_Clone_byte_byte.f l0 = some l0 by unfold slices_Clone_byte_byte.f; rw [if_pos hm])
    have c1 : decide ((l0.length : Int) < 12) = false := decide_eq_false (by omega)
    have c2 : decide (l0.length < 12) = false := decide_eq_false hlt
    clear hr1 hC hBy hRv hy4 hm hlt
    go_enter Try.func34, Try.ntmps34
    have hzl : (l0.take 8 ++ [0, 0, 0, 0] ++ l0.drop 12).length = l0.length := by
      have := HLT.out
      simp only [List.length_append, List.length_take, List.length_drop, List.length_cons, List.length_nil]; omega
    have HZL := Aside0.mk hzl
    clear hzl
    go_wp2_with (first | (go_at_call 50; (with_reducible refine (slices_Clone_byte_byte.calls A0 c0 l0 l0 _ HR.out HC.out HCL.out).mono ?_); rintro e w3 ⟨v3, rfl, ho3, hb3⟩; have HB3 := Aside0.mk hb3; obtain ⟨g3, cap3, hv3, gb3, gl3, hcm3⟩ := Kd.R_form ho3 (by have := HLT.out; omega); subst hv3; have hcap3 : l0.length ≤ cap3 := own_cap (Kd.own_of_R ho3); have hq12 : (12 : Int) ≤ (cap3 : Int) := (by have := HLT.out; omega); have HROW := Aside0.mk (rowAt_of_R ho3); have HGB := Aside0.mk gb3; have HCP := Aside0.mk hcap3; clear ho3 hb3 gl3 hcm3 gb3 hcap3)
                                        | ((with_reducible refine gate_dst (N := 14) rfl ?_); refine Kd.R_lit (Kd.int .u8) w.heap.size 5 ?hg (N := 14) ?hd (xs := ([0, 0, 0, 0] : List Int)) (inner := [.int .u8 0, .int .u8 0, .int .u8 0, .int .u8 0]) (ok := fun _ => True) (okp := fun _ => True) ?hr ?hp (fun _ hk => hk) trivial HB3.out HB3.out.size (by simp) ?_; (case hd => rfl); (case hg => rfl); (case hr => first | (go_simp; done) | (go_simp; rfl)); (case hp => exact (Reps.one (show Kd.M (Kd.int .u8) _ _ _ 0 [.int .u8 0] from rfl) (Reps.one (show Kd.M (Kd.int .u8) _ _ _ 0 [.int .u8 0] from rfl) (Reps.one (show Kd.M (Kd.int .u8) _ _ _ 0 [.int .u8 0] from rfl) (Reps.one (show Kd.M (Kd.int .u8) _ _ _ 0 [.int .u8 0] from rfl) (Reps.none _ _)))))); intro v14 w4 ho hb hg_ hnew_; have HB4 := Aside0.mk hb; have HROW4 := Aside0.mk (rowAt_grown HROW.out hg_); obtain ⟨g14, cap14, hv14, gb14, gl14, hcm14⟩ := Kd.R_form ho (by simp); have hv14' : v14 = .slice (some ⟨g14, 0, none⟩) 4 cap14 := hv14; subst hv14'; have HZC := Aside0.mk (row_cells ho); clear ho hb hg_ hnew_ hv14 gb14 gl14 hcm14)
                                        | ((with_reducible refine gate_builtin (b := .copy) (xs := #[.tmp 13, .tmp 14]) rfl ?_); refine copy_row rfl (.tmp 13) (.tmp 14) rfl g3 8 4 4 (cap3 - 8) cap14 cap3 l0.length w.heap.size ⟨g14, 0, none⟩ l0 [0, 0, 0, 0] rfl rfl rfl HROW4.out rfl (fun q hq => HZC.out q hq) (by have := HLT.out; omega) HB4.out HGB.out ?_; intro w5 hrow5 hb5; have HROW5 := Aside0.mk (show RowAt w5 g3 cap3 l0.length (l0.take 8 ++ [0, 0, 0, 0] ++ l0.drop 12) from hrow5); have HB5 := Aside0.mk hb5; clear hrow5 hb5)
                                        | (go_at_call 51; (with_reducible refine (crc_row HROW5.out HCR.out).mono ?_); rintro e w6 ⟨rfl, hb6⟩; have HROW6 := Aside0.mk (rowAt_below HROW5.out hb6); have HB6 := Aside0.mk (below_step HB5.out hb6); clear hb6)
                                        | (go_at_call 49; (with_reducible refine (octet_Bytes.calls k (IntKind.u64.wrap c) 4 b1 b2 _ HBY.out).mono ?_); rintro e w7 ⟨v7, rfl, ho7, hb7⟩; have HROW7 := Aside0.mk (rowAt_below HROW6.out hb7); have HB67 := Aside0.mk hb7; have HO7 := Aside0.mk (newer (w6 := w6) ho7); clear ho7 hb7)
                                        | (go_at_call 52; (with_reducible refine (slices_Reverse_byte_byte.calls k (fun k_ => w6.heap.size ≤ k_) v7 b1 y w6 w7 HB67.out HO7.out HRV.out).mono ?_); rintro e w8 ⟨rfl, ho8, hb8, hk8⟩; have HROW8 := Aside0.mk (rowAt_kept HROW7.out hk8 (by have := rowAt_lt HROW6.out; omega)); have HB8 := Aside0.mk (below_step HB6.out hb8); obtain ⟨g8, cap8, hv8, gb8, gl8, hcm8⟩ := Kd.R_form ho8 (by have := HY4.out; omega); subst hv8; have HYC := Aside0.mk (row_cells (Kd.R_mono ho8 (fun _ _ => trivial))); clear ho8 hb8 hk8 gb8 gl8 hcm8)
                                        | ((with_reducible refine gate_builtin (b := .copy) (xs := #[.tmp 26, .tmp 27]) rfl ?_); refine copy_row rfl (.tmp 26) (.tmp 27) rfl g3 8 4 y.length (cap3 - 8) cap8 cap3 l0.length w.heap.size ⟨g8, 0, none⟩ (l0.take 8 ++ [0, 0, 0, 0] ++ l0.drop 12) y rfl rfl HY4.out HROW8.out HY4.out (fun q hq => HYC.out q (by have := HY4.out; omega)) (by have := HLT.out; omega) HB8.out HGB.out ?_; intro w9 hrow9 hb9; have HROW9 := Aside0.mk (show RowAt w9 g3 cap3 l0.length ((l0.take 8 ++ [0, 0, 0, 0] ++ l0.drop 12).take 8 ++ y ++ (l0.take 8 ++ [0, 0, 0, 0] ++ l0.drop 12).drop 12) from hrow9); have HB9 := Aside0.mk hb9; clear hrow9 hb9))
    go_ret2
    have hfin := rowAt_R HROW9.out HGB.out
    rw [stamp_row l0 y (by have := HLT.out; omega), HR1.out] at hfin
    exact ⟨_, rfl, hfin, HB9.out⟩
end Go.Proofs.Ytaahkggbjpdofaa.M
