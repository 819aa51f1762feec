/- ip.Take: its function, and its contract in the printed form. -/
import Derived.Test.YtdligcofjfdhbaaM8
import Derived.Test.YtdligcofjfdhbaaM5
import Derived.Test.YtdligcofjfdhbaaM1
import Derived.Test.YtdligcofjfdhbaaHClone
import Derived.Test.YtdligcofjfdhbaaWAll
import Derived.WalkSpells
namespace Go.Proofs.Ytdligcofjfdhbaa.M
open Go.RowKit Go.Proofs.YtdligcofjfdhbaaW.PrintWords Go.Proofs.YtdligcofjfdhbaaW.PrintLast Go.Proofs.YtdligcofjfdhbaaW.PrintMore
set_option linter.unusedVariables false
set_option linter.unusedSimpArgs false

def ip_Take.f (k : Nat) (l0 : List Int) : Option (Int × Int × Int × Int × Int × Bool × Bool × Int × List Int × Int) :=
  if (l0.length : Int) < 20 then some (0, 0, 0, 0, 0, false, false, 0, ([] : List Int), 3) else
  (octet_Num.f k l0 2 2).bind fun t1 => if rd l0 0 / 16 = 4 then (if wrap64 (4 * wrap64 (Go.bits .and .u8 (rd l0 0) 15)) < 20 then some (0, 0, 0, 0, 0, false, false, 0, ([] : List Int), 4) else
    if (l0.length : Int) < wrap64 (4 * wrap64 (Go.bits .and .u8 (rd l0 0) 15)) then some (0, 0, 0, 0, 0, false, false, 0, ([] : List Int), 3) else if wrap64 t1.1 < wrap64 (4 * wrap64 (Go.bits .and .u8 (rd l0 0) 15)) then some (0, 0, 0, 0, 0, false, false, 0, ([] : List Int), 4) else if (l0.length : Int) < wrap64 t1.1 then some (0, 0, 0, 0, 0, false, false, 0, ([] : List Int), 3) else
    (sums_Net.f k (l0.take (wrap64 (4 * wrap64 (Go.bits .and .u8 (rd l0 0) 15))).toNat)).bind fun t2 => if t2 = 0 then
      (octet_Num.f k l0 6 2).bind fun t3 => (octet_Num.f k l0 12 4).bind fun t4 => (octet_Num.f k l0 16 4).bind fun t5 => (octet_Num.f k l0 4 2).bind fun t6 => (slices_Clone_byte_byte.f ((l0.take (wrap64 t1.1).toNat).drop (wrap64 (4 * wrap64 (Go.bits .and .u8 (rd l0 0) 15))).toNat)).bind fun t8 =>
      (ip_may.f k (wrap64 t4.1 % 4294967296) (wrap64 t5.1 % 4294967296) (rd l0 9) (rd l0 8) (IntKind.u16.wrap (wrap64 t6.1)) (Go.bits .and .i64 (wrap64 t3.1) 16384 != 0) (Go.bits .and .i64 (wrap64 t3.1) 8192 != 0) (wrap64 (Go.bits .and .i64 (wrap64 t3.1) 8191 * 8)) t8).bind fun t7 =>
        if (Go.bits .and .i64 (wrap64 t3.1) 32768) = 0 then (if t7 = 2 then some (0, 0, 0, 0, 0, false, false, 0, ([] : List Int), 4) else if t7 = 0 then some (wrap64 t4.1 % 4294967296, wrap64 t5.1 % 4294967296, rd l0 9, rd l0 8, IntKind.u16.wrap (wrap64 t6.1), Go.bits .and .i64 (wrap64 t3.1) 16384 != 0, Go.bits .and .i64 (wrap64 t3.1) 8192 != 0, wrap64 (Go.bits .and .i64 (wrap64 t3.1) 8191 * 8), t8, 0) else some (0, 0, 0, 0, 0, false, false, 0, ([] : List Int), t7)) else some (0, 0, 0, 0, 0, false, false, 0, ([] : List Int), 4)
      else some (0, 0, 0, 0, 0, false, false, 0, ([] : List Int), 5)) else some (0, 0, 0, 0, 0, false, false, 0, ([] : List Int), 4)
theorem ip_Take.mono : ∀ a0 k, LeO (ip_Take.f k a0) (ip_Take.f (k + 1) a0) := by
  intro a0 k
  unfold ip_Take.f
  refine LeO.ite (LeO.refl _) ?_
  refine LeO.bind (octet_Num.mono _ _ _ _) (fun t1 => ?_)
  refine LeO.ite ?_ (LeO.refl _)
  refine LeO.ite (LeO.refl _) ?_
  refine LeO.ite (LeO.refl _) ?_
  refine LeO.ite (LeO.refl _) ?_
  refine LeO.ite (LeO.refl _) ?_
  refine LeO.bind (sums_Net.mono _ _) (fun t2 => ?_)
  refine LeO.ite ?_ (LeO.refl _)
  refine LeO.bind (octet_Num.mono _ _ _ _) (fun t3 => ?_)
  refine LeO.bind (octet_Num.mono _ _ _ _) (fun t4 => ?_)
  refine LeO.bind (octet_Num.mono _ _ _ _) (fun t5 => ?_)
  refine LeO.bind (octet_Num.mono _ _ _ _) (fun t6 => ?_)
  refine LeO.bind (LeO.refl _) (fun t8 => ?_)
  refine LeO.bind (ip_may.mono _ _ _ _ _ _ _ _ _ _) (fun t7 => ?_)
  exact LeO.refl _

theorem ipt_cut {next : Act → World → Prop} {Q : Exit → Act → World → Prop} {x : Exit} {a : Act} {W : World} (F : World → Prop) (h : F W) (k : ∀ wz, F wz → Exit.then next Q x a wz) : Exit.then next Q x a W := k W h
theorem ipt_blk {w wq : World} {n g : Nat} {o : Obj} (h : World.drewN w n = wq) (b : w.heap[g]? = some o) : wq.heap[g]? = some o := by subst h; exact blk_drewN b n
theorem ipt_below {B n : Nat} {w W wq : World} (h : World.drewN W n = wq) (b : Below B w W) : Below B w wq := by subst h; exact pw_below_drewN b n

set_option maxHeartbeats 2000000 in
set_option maxRecDepth 100000 in
theorem ipnum_calls (k pb : Nat) (A0 : Option Addr) (c0 : Nat) (l0 : List Int) (p n v e1 : Int) (w : World) (hpb : w.heap[pb]? = some (.cells #[.slice A0 l0.length c0] 24 (0, 0)))
    (hr0 : Kd.C (Kd.int .u8) w A0 l0.length l0) (hc0 : l0.length ≤ c0) (h : octet_Num.f k l0 p n = some (v, e1)) :
    Calls Try.prog 37 #[.int .i64 p, .int .i64 n, .pointer (some ⟨pb, 0, none⟩)] w fun e w' => e = .returned (.int .i64 (wrap64 v)) ∧ Drawn0 w w' := by
  have HR := Aside0.mk hr0
  have HC0 := Aside0.mk hc0
  have HF := Aside0.mk h
  clear hr0 hc0 h
  have hcb : w.cell? ⟨pb, 0, none⟩ = some (.slice A0 l0.length c0) := (blk_cell hpb 0).trans rfl
  clear hpb
  go_enter Try.func37, Try.ntmps37
  go_wp2_with (first | (go_at_call 38; (refine (octet_Num.calls k _ _ l0 _ _ _ _ _ HR.out HC0.out HF.out).mono ?_); rintro e w2 ⟨rfl, ⟨nd, rfl⟩⟩))
  go_ret
  exact ⟨rfl, ⟨_, rfl⟩⟩
set_option maxHeartbeats 2000000 in
set_option maxRecDepth 100000 in
theorem ip_Take.s1 (k : Nat) (A0 : Option Addr) (c0 : Nat) (l0 : List Int) (w : World) (hr0 : Kd.C (Kd.int .u8) w A0 l0.length l0) (hc0 : l0.length ≤ c0) (c1 : (l0.length : Int) < 20) : Calls Try.prog 16 #[.slice A0 l0.length c0] w fun e w' => (e = .returned (.tuple #[.agg #[.int .u32 0, .int .u32 0, .int .u8 0, .int .u8 0, .int .u16 0, .bool false, .bool false, .int .i64 0, .slice none 0 0], .int .i64 3]) ∧ Below w.heap.size w w') := by
  have hu26 := Try.underlying26
  have HR := Aside0.mk hr0
  have HC0 := Aside0.mk hc0
  clear hr0 hc0
  have c1b0 : decide ((l0.length : Int) < 20) = true := decide_eq_true c1
  have c1b1 : decide (l0.length < 20) = true := decide_eq_true (by omega)
  clear c1
  go_enter Try.func16, Try.ntmps16
  go_wp2_with (first | ((with_reducible refine gate_dst (N := 1) rfl ?_); refine box_event ?hg (N := 1) ?hd (cs := #[.slice A0 l0.length c0]) (t := 24) ?hr ?_; (case hd => rfl); (case hg => rfl); (case hr => first | (go_simp; done) | (go_simp; rfl)); intro pb hg0 w0 hbox0 hb0; have HPB0 := Aside0.mk hbox0; have HB0 := Aside0.mk hb0; clear hg0 hbox0 hb0) | ((with_reducible refine gate_dst (N := 2) rfl ?_); refine box_event ?hg (N := 2) ?hd (cs := #[.int .u32 0, .int .u32 0, .int .u8 0, .int .u8 0, .int .u16 0, .bool false, .bool false, .int .i64 0, .slice none 0 0]) (t := 26) ?hr ?_; (case hd => rfl); (case hg => rfl); (case hr => first | (go_simp; done) | (go_simp; rfl)); intro gb hg w1 hbox hb; have HPB := Aside0.mk (blk_below HPB0.out hb); have BK := Aside0.mk hbox; have HGB := Aside0.mk (show w.heap.size ≤ gb by rw [hg]; exact HB0.out.size); have HB := Aside0.mk (HB0.out.trans (hb.mono HB0.out.size)); clear hg hbox hb HPB0 HB0; have hcpb : w1.cell? ⟨pb, 0, none⟩ = some (.slice A0 l0.length c0) := (blk_cell HPB.out 0).trans rfl; obtain ⟨hcza_0, hcza_1, hcza_2, hcza_3, hcza_4, hcza_5, hcza_6, hcza_7, hcza_8⟩ := blk9 BK.out; obtain ⟨hfza_0, hfza_1, hfza_2, hfza_3, hfza_4, hfza_5, hfza_6, hfza_7, hfza_8⟩ := frz9 BK.out))
  refine bodyPost_ret (results_ct rfl _ _ gb 26 #[.int .u32 0, .int .u32 0, .int .u8 0, .int .u8 0, .int .u16 0, .bool false, .bool false, .int .i64 0, .slice none 0 0] (0, 0) _ rfl (by refine blk_put (cs := #[.int .u32 0, .int .u32 0, .int .u8 0, .int .u8 0, .int .u16 0, .bool false, .bool false, .int .i64 0, .slice none 0 0]) ?_ 8 _ rfl; refine blk_put (cs := #[.int .u32 0, .int .u32 0, .int .u8 0, .int .u8 0, .int .u16 0, .bool false, .bool false, .int .i64 0, .slice none 0 0]) ?_ 7 _ rfl; refine blk_put (cs := #[.int .u32 0, .int .u32 0, .int .u8 0, .int .u8 0, .int .u16 0, .bool false, .bool false, .int .i64 0, .slice none 0 0]) ?_ 6 _ rfl; refine blk_put (cs := #[.int .u32 0, .int .u32 0, .int .u8 0, .int .u8 0, .int .u16 0, .bool false, .bool false, .int .i64 0, .slice none 0 0]) ?_ 5 _ rfl; refine blk_put (cs := #[.int .u32 0, .int .u32 0, .int .u8 0, .int .u8 0, .int .u16 0, .bool false, .bool false, .int .i64 0, .slice none 0 0]) ?_ 4 _ rfl; refine blk_put (cs := #[.int .u32 0, .int .u32 0, .int .u8 0, .int .u8 0, .int .u16 0, .bool false, .bool false, .int .i64 0, .slice none 0 0]) ?_ 3 _ rfl; refine blk_put (cs := #[.int .u32 0, .int .u32 0, .int .u8 0, .int .u8 0, .int .u16 0, .bool false, .bool false, .int .i64 0, .slice none 0 0]) ?_ 2 _ rfl; refine blk_put (cs := #[.int .u32 0, .int .u32 0, .int .u8 0, .int .u8 0, .int .u16 0, .bool false, .bool false, .int .i64 0, .slice none 0 0]) ?_ 1 _ rfl; refine blk_put (cs := #[.int .u32 0, .int .u32 0, .int .u8 0, .int .u8 0, .int .u16 0, .bool false, .bool false, .int .i64 0, .slice none 0 0]) ?_ 0 _ rfl; (with_reducible repeat (first | refine blk_drewN ?_ _)); exact BK.out) Try.underlying26 rfl (by kernel_rfl)) rfl ?_
  exact ⟨rfl, by refine below_set (g := gb) ?_ HGB.out; refine below_set (g := gb) ?_ HGB.out; refine below_set (g := gb) ?_ HGB.out; refine below_set (g := gb) ?_ HGB.out; refine below_set (g := gb) ?_ HGB.out; refine below_set (g := gb) ?_ HGB.out; refine below_set (g := gb) ?_ HGB.out; refine below_set (g := gb) ?_ HGB.out; refine below_set (g := gb) ?_ HGB.out; (with_reducible repeat (first | apply pw_below_drewN)); exact HB.out⟩
set_option maxHeartbeats 2000000 in
set_option maxRecDepth 100000 in
theorem ip_Take.s2 (k : Nat) (A0 : Option Addr) (c0 : Nat) (l0 : List Int) (w : World) (hr0 : Kd.C (Kd.int .u8) w A0 l0.length l0) (hc0 : l0.length ≤ c0) (c1 : ¬ ((l0.length : Int) < 20)) (t1 e1 : Int) (hn1 : octet_Num.f k l0 2 2 = some (t1, e1)) (c2 : ¬ (rd l0 0 / 16 = 4)) : Calls Try.prog 16 #[.slice A0 l0.length c0] w fun e w' => (e = .returned (.tuple #[.agg #[.int .u32 0, .int .u32 0, .int .u8 0, .int .u8 0, .int .u16 0, .bool false, .bool false, .int .i64 0, .slice none 0 0], .int .i64 4]) ∧ Below w.heap.size w w') := by
  have hu26 := Try.underlying26
  have HR := Aside0.mk hr0
  have HC0 := Aside0.mk hc0
  clear hr0 hc0
  have c1' : (20 : Int) ≤ (l0.length : Int) := by omega
  have c1b0 : decide ((l0.length : Int) < 20) = false := decide_eq_false c1
  have c1b1 : decide (l0.length < 20) = false := decide_eq_false (by omega)
  obtain ⟨ad, e1', hcell0⟩ := Kd.at_int HR.out (0 : Int) (by omega) (by omega)
  obtain ⟨_, e2', hcell8⟩ := Kd.at_int HR.out (8 : Int) (by omega) (by omega)
  obtain ⟨_, e3', hcell9⟩ := Kd.at_int HR.out (9 : Int) (by omega) (by omega)
  subst e1'
  cases e2'
  cases e3'
  have qi0 : (0 < l0.length) = True := eq_true (by omega)
  have qi8 : (8 < l0.length) = True := eq_true (by omega)
  have qi9 : (9 < l0.length) = True := eq_true (by omega)
  have qj8 : ((8 : Int) < (l0.length : Int)) = True := eq_true (by omega)
  have qj9 : ((9 : Int) < (l0.length : Int)) = True := eq_true (by omega)
  (try simp only [show (0 : Int).toNat = 0 from rfl, Nat.reduceMul, Nat.reduceEqDiff, Go.Addr.add, ↓reduceIte] at hcell0)
  (try simp only [show (8 : Int).toNat = 8 from rfl, Nat.reduceMul, Nat.reduceEqDiff, Go.Addr.add, ↓reduceIte] at hcell8)
  (try simp only [show (9 : Int).toNat = 9 from rfl, Nat.reduceMul, Nat.reduceEqDiff, Go.Addr.add, ↓reduceIte] at hcell9)
  have HX0 := Aside0.mk hcell0
  have HX8 := Aside0.mk hcell8
  have HX9 := Aside0.mk hcell9
  clear hcell0 hcell8 hcell9 c1 c1'
  have HN1 := Aside0.mk hn1
  clear hn1
  have c2b0 : (rd l0 0 / 16 == 4) = false := beq_eq_false_iff_ne.mpr c2
  have c2b1 : (rd l0 0 / 16 != 4) = true := bne_iff_ne.mpr c2
  have HC2 := Aside0.mk c2
  clear c2
  go_enter Try.func16, Try.ntmps16
  go_wp2_with (first | ((with_reducible refine gate_dst (N := 1) rfl ?_); refine box_event ?hg (N := 1) ?hd (cs := #[.slice (some ad) l0.length c0]) (t := 24) ?hr ?_; (case hd => rfl); (case hg => rfl); (case hr => first | (go_simp; done) | (go_simp; rfl)); intro pb hg0 w0 hbox0 hb0; have HPB0 := Aside0.mk hbox0; have HB0 := Aside0.mk hb0; clear hg0 hbox0 hb0) | ((with_reducible refine gate_dst (N := 2) rfl ?_); refine box_event ?hg (N := 2) ?hd (cs := #[.int .u32 0, .int .u32 0, .int .u8 0, .int .u8 0, .int .u16 0, .bool false, .bool false, .int .i64 0, .slice none 0 0]) (t := 26) ?hr ?_; (case hd => rfl); (case hg => rfl); (case hr => first | (go_simp; done) | (go_simp; rfl)); intro gb hg w1 hbox hb; have HPB := Aside0.mk (blk_below HPB0.out hb); have BK := Aside0.mk hbox; have HGB := Aside0.mk (show w.heap.size ≤ gb by rw [hg]; exact HB0.out.size); have HB := Aside0.mk (HB0.out.trans (hb.mono HB0.out.size)); clear hg hbox hb HPB0 HB0; have hcpb : w1.cell? ⟨pb, 0, none⟩ = some (.slice (some ad) l0.length c0) := (blk_cell HPB.out 0).trans rfl; have hc0' := (HB.out.cell (World.block_lt_of_cell? w _ HX0.out)).trans HX0.out; obtain ⟨hcza_0, hcza_1, hcza_2, hcza_3, hcza_4, hcza_5, hcza_6, hcza_7, hcza_8⟩ := blk9 BK.out; obtain ⟨hfza_0, hfza_1, hfza_2, hfza_3, hfza_4, hfza_5, hfza_6, hfza_7, hfza_8⟩ := frz9 BK.out) | (go_at_call 37; (with_reducible refine (ipnum_calls k pb _ _ l0 2 2 t1 _ _ (by (with_reducible repeat (first | refine blk_drewN ?_ _)); exact HPB.out) (Kd.C_below HR.out (by (with_reducible repeat (first | apply pw_below_drewN)); exact HB.out)) HC0.out HN1.out).mono ?_); rintro e w' ⟨rfl, ⟨nd, rfl⟩⟩))
  refine bodyPost_ret (results_ct rfl _ _ gb 26 #[.int .u32 0, .int .u32 0, .int .u8 0, .int .u8 0, .int .u16 0, .bool false, .bool false, .int .i64 0, .slice none 0 0] (0, 0) _ rfl (by refine blk_put (cs := #[.int .u32 0, .int .u32 0, .int .u8 0, .int .u8 0, .int .u16 0, .bool false, .bool false, .int .i64 0, .slice none 0 0]) ?_ 8 _ rfl; refine blk_put (cs := #[.int .u32 0, .int .u32 0, .int .u8 0, .int .u8 0, .int .u16 0, .bool false, .bool false, .int .i64 0, .slice none 0 0]) ?_ 7 _ rfl; refine blk_put (cs := #[.int .u32 0, .int .u32 0, .int .u8 0, .int .u8 0, .int .u16 0, .bool false, .bool false, .int .i64 0, .slice none 0 0]) ?_ 6 _ rfl; refine blk_put (cs := #[.int .u32 0, .int .u32 0, .int .u8 0, .int .u8 0, .int .u16 0, .bool false, .bool false, .int .i64 0, .slice none 0 0]) ?_ 5 _ rfl; refine blk_put (cs := #[.int .u32 0, .int .u32 0, .int .u8 0, .int .u8 0, .int .u16 0, .bool false, .bool false, .int .i64 0, .slice none 0 0]) ?_ 4 _ rfl; refine blk_put (cs := #[.int .u32 0, .int .u32 0, .int .u8 0, .int .u8 0, .int .u16 0, .bool false, .bool false, .int .i64 0, .slice none 0 0]) ?_ 3 _ rfl; refine blk_put (cs := #[.int .u32 0, .int .u32 0, .int .u8 0, .int .u8 0, .int .u16 0, .bool false, .bool false, .int .i64 0, .slice none 0 0]) ?_ 2 _ rfl; refine blk_put (cs := #[.int .u32 0, .int .u32 0, .int .u8 0, .int .u8 0, .int .u16 0, .bool false, .bool false, .int .i64 0, .slice none 0 0]) ?_ 1 _ rfl; refine blk_put (cs := #[.int .u32 0, .int .u32 0, .int .u8 0, .int .u8 0, .int .u16 0, .bool false, .bool false, .int .i64 0, .slice none 0 0]) ?_ 0 _ rfl; (with_reducible repeat (first | refine blk_drewN ?_ _)); exact BK.out) Try.underlying26 rfl (by kernel_rfl)) rfl ?_
  exact ⟨rfl, by refine below_set (g := gb) ?_ HGB.out; refine below_set (g := gb) ?_ HGB.out; refine below_set (g := gb) ?_ HGB.out; refine below_set (g := gb) ?_ HGB.out; refine below_set (g := gb) ?_ HGB.out; refine below_set (g := gb) ?_ HGB.out; refine below_set (g := gb) ?_ HGB.out; refine below_set (g := gb) ?_ HGB.out; refine below_set (g := gb) ?_ HGB.out; (with_reducible repeat (first | apply pw_below_drewN)); exact HB.out⟩
set_option maxHeartbeats 2000000 in
set_option maxRecDepth 100000 in
theorem ip_Take.s3 (k : Nat) (A0 : Option Addr) (c0 : Nat) (l0 : List Int) (w : World) (hr0 : Kd.C (Kd.int .u8) w A0 l0.length l0) (hc0 : l0.length ≤ c0) (c1 : ¬ ((l0.length : Int) < 20)) (t1 e1 : Int) (hn1 : octet_Num.f k l0 2 2 = some (t1, e1)) (c2 : rd l0 0 / 16 = 4) (c3 : wrap64 (4 * wrap64 (Go.bits .and .u8 (rd l0 0) 15)) < 20) : Calls Try.prog 16 #[.slice A0 l0.length c0] w fun e w' => (e = .returned (.tuple #[.agg #[.int .u32 0, .int .u32 0, .int .u8 0, .int .u8 0, .int .u16 0, .bool false, .bool false, .int .i64 0, .slice none 0 0], .int .i64 4]) ∧ Below w.heap.size w w') := by
  have hu26 := Try.underlying26
  have HR := Aside0.mk hr0
  have HC0 := Aside0.mk hc0
  clear hr0 hc0
  have c1' : (20 : Int) ≤ (l0.length : Int) := by omega
  have c1b0 : decide ((l0.length : Int) < 20) = false := decide_eq_false c1
  have c1b1 : decide (l0.length < 20) = false := decide_eq_false (by omega)
  obtain ⟨ad, e1', hcell0⟩ := Kd.at_int HR.out (0 : Int) (by omega) (by omega)
  obtain ⟨_, e2', hcell8⟩ := Kd.at_int HR.out (8 : Int) (by omega) (by omega)
  obtain ⟨_, e3', hcell9⟩ := Kd.at_int HR.out (9 : Int) (by omega) (by omega)
  subst e1'
  cases e2'
  cases e3'
  have qi0 : (0 < l0.length) = True := eq_true (by omega)
  have qi8 : (8 < l0.length) = True := eq_true (by omega)
  have qi9 : (9 < l0.length) = True := eq_true (by omega)
  have qj8 : ((8 : Int) < (l0.length : Int)) = True := eq_true (by omega)
  have qj9 : ((9 : Int) < (l0.length : Int)) = True := eq_true (by omega)
  (try simp only [show (0 : Int).toNat = 0 from rfl, Nat.reduceMul, Nat.reduceEqDiff, Go.Addr.add, ↓reduceIte] at hcell0)
  (try simp only [show (8 : Int).toNat = 8 from rfl, Nat.reduceMul, Nat.reduceEqDiff, Go.Addr.add, ↓reduceIte] at hcell8)
  (try simp only [show (9 : Int).toNat = 9 from rfl, Nat.reduceMul, Nat.reduceEqDiff, Go.Addr.add, ↓reduceIte] at hcell9)
  have HX0 := Aside0.mk hcell0
  have HX8 := Aside0.mk hcell8
  have HX9 := Aside0.mk hcell9
  clear hcell0 hcell8 hcell9 c1 c1'
  have HN1 := Aside0.mk hn1
  clear hn1
  have c2b0 : (rd l0 0 / 16 == 4) = true := beq_iff_eq.mpr c2
  have c2b1 : (rd l0 0 / 16 != 4) = false := bne_eq_false_iff_eq.mpr c2
  have HC2 := Aside0.mk c2
  have c3b0 : decide (wrap64 (4 * wrap64 (Go.bits .and .u8 (rd l0 0) 15)) < 20) = true := decide_eq_true c3
  have HC3 := Aside0.mk c3
  clear c2 c3
  go_enter Try.func16, Try.ntmps16
  go_wp2_with (first | ((with_reducible refine gate_dst (N := 1) rfl ?_); refine box_event ?hg (N := 1) ?hd (cs := #[.slice (some ad) l0.length c0]) (t := 24) ?hr ?_; (case hd => rfl); (case hg => rfl); (case hr => first | (go_simp; done) | (go_simp; rfl)); intro pb hg0 w0 hbox0 hb0; have HPB0 := Aside0.mk hbox0; have HB0 := Aside0.mk hb0; clear hg0 hbox0 hb0) | ((with_reducible refine gate_dst (N := 2) rfl ?_); refine box_event ?hg (N := 2) ?hd (cs := #[.int .u32 0, .int .u32 0, .int .u8 0, .int .u8 0, .int .u16 0, .bool false, .bool false, .int .i64 0, .slice none 0 0]) (t := 26) ?hr ?_; (case hd => rfl); (case hg => rfl); (case hr => first | (go_simp; done) | (go_simp; rfl)); intro gb hg w1 hbox hb; have HPB := Aside0.mk (blk_below HPB0.out hb); have BK := Aside0.mk hbox; have HGB := Aside0.mk (show w.heap.size ≤ gb by rw [hg]; exact HB0.out.size); have HB := Aside0.mk (HB0.out.trans (hb.mono HB0.out.size)); clear hg hbox hb HPB0 HB0; have hcpb : w1.cell? ⟨pb, 0, none⟩ = some (.slice (some ad) l0.length c0) := (blk_cell HPB.out 0).trans rfl; have hc0' := (HB.out.cell (World.block_lt_of_cell? w _ HX0.out)).trans HX0.out; obtain ⟨hcza_0, hcza_1, hcza_2, hcza_3, hcza_4, hcza_5, hcza_6, hcza_7, hcza_8⟩ := blk9 BK.out; obtain ⟨hfza_0, hfza_1, hfza_2, hfza_3, hfza_4, hfza_5, hfza_6, hfza_7, hfza_8⟩ := frz9 BK.out) | (go_at_call 37; (with_reducible refine (ipnum_calls k pb _ _ l0 2 2 t1 _ _ (by (with_reducible repeat (first | refine blk_drewN ?_ _)); exact HPB.out) (Kd.C_below HR.out (by (with_reducible repeat (first | apply pw_below_drewN)); exact HB.out)) HC0.out HN1.out).mono ?_); rintro e w' ⟨rfl, ⟨nd, rfl⟩⟩))
  refine bodyPost_ret (results_ct rfl _ _ gb 26 #[.int .u32 0, .int .u32 0, .int .u8 0, .int .u8 0, .int .u16 0, .bool false, .bool false, .int .i64 0, .slice none 0 0] (0, 0) _ rfl (by refine blk_put (cs := #[.int .u32 0, .int .u32 0, .int .u8 0, .int .u8 0, .int .u16 0, .bool false, .bool false, .int .i64 0, .slice none 0 0]) ?_ 8 _ rfl; refine blk_put (cs := #[.int .u32 0, .int .u32 0, .int .u8 0, .int .u8 0, .int .u16 0, .bool false, .bool false, .int .i64 0, .slice none 0 0]) ?_ 7 _ rfl; refine blk_put (cs := #[.int .u32 0, .int .u32 0, .int .u8 0, .int .u8 0, .int .u16 0, .bool false, .bool false, .int .i64 0, .slice none 0 0]) ?_ 6 _ rfl; refine blk_put (cs := #[.int .u32 0, .int .u32 0, .int .u8 0, .int .u8 0, .int .u16 0, .bool false, .bool false, .int .i64 0, .slice none 0 0]) ?_ 5 _ rfl; refine blk_put (cs := #[.int .u32 0, .int .u32 0, .int .u8 0, .int .u8 0, .int .u16 0, .bool false, .bool false, .int .i64 0, .slice none 0 0]) ?_ 4 _ rfl; refine blk_put (cs := #[.int .u32 0, .int .u32 0, .int .u8 0, .int .u8 0, .int .u16 0, .bool false, .bool false, .int .i64 0, .slice none 0 0]) ?_ 3 _ rfl; refine blk_put (cs := #[.int .u32 0, .int .u32 0, .int .u8 0, .int .u8 0, .int .u16 0, .bool false, .bool false, .int .i64 0, .slice none 0 0]) ?_ 2 _ rfl; refine blk_put (cs := #[.int .u32 0, .int .u32 0, .int .u8 0, .int .u8 0, .int .u16 0, .bool false, .bool false, .int .i64 0, .slice none 0 0]) ?_ 1 _ rfl; refine blk_put (cs := #[.int .u32 0, .int .u32 0, .int .u8 0, .int .u8 0, .int .u16 0, .bool false, .bool false, .int .i64 0, .slice none 0 0]) ?_ 0 _ rfl; (with_reducible repeat (first | refine blk_drewN ?_ _)); exact BK.out) Try.underlying26 rfl (by kernel_rfl)) rfl ?_
  exact ⟨rfl, by refine below_set (g := gb) ?_ HGB.out; refine below_set (g := gb) ?_ HGB.out; refine below_set (g := gb) ?_ HGB.out; refine below_set (g := gb) ?_ HGB.out; refine below_set (g := gb) ?_ HGB.out; refine below_set (g := gb) ?_ HGB.out; refine below_set (g := gb) ?_ HGB.out; refine below_set (g := gb) ?_ HGB.out; refine below_set (g := gb) ?_ HGB.out; (with_reducible repeat (first | apply pw_below_drewN)); exact HB.out⟩
set_option maxHeartbeats 2000000 in
set_option maxRecDepth 100000 in
theorem ip_Take.s4 (k : Nat) (A0 : Option Addr) (c0 : Nat) (l0 : List Int) (w : World) (hr0 : Kd.C (Kd.int .u8) w A0 l0.length l0) (hc0 : l0.length ≤ c0) (c1 : ¬ ((l0.length : Int) < 20)) (t1 e1 : Int) (hn1 : octet_Num.f k l0 2 2 = some (t1, e1)) (c2 : rd l0 0 / 16 = 4) (c3 : ¬ (wrap64 (4 * wrap64 (Go.bits .and .u8 (rd l0 0) 15)) < 20)) (c4 : (l0.length : Int) < wrap64 (4 * wrap64 (Go.bits .and .u8 (rd l0 0) 15))) : Calls Try.prog 16 #[.slice A0 l0.length c0] w fun e w' => (e = .returned (.tuple #[.agg #[.int .u32 0, .int .u32 0, .int .u8 0, .int .u8 0, .int .u16 0, .bool false, .bool false, .int .i64 0, .slice none 0 0], .int .i64 3]) ∧ Below w.heap.size w w') := by
  have hu26 := Try.underlying26
  have HR := Aside0.mk hr0
  have HC0 := Aside0.mk hc0
  clear hr0 hc0
  have c1' : (20 : Int) ≤ (l0.length : Int) := by omega
  have c1b0 : decide ((l0.length : Int) < 20) = false := decide_eq_false c1
  have c1b1 : decide (l0.length < 20) = false := decide_eq_false (by omega)
  obtain ⟨ad, e1', hcell0⟩ := Kd.at_int HR.out (0 : Int) (by omega) (by omega)
  obtain ⟨_, e2', hcell8⟩ := Kd.at_int HR.out (8 : Int) (by omega) (by omega)
  obtain ⟨_, e3', hcell9⟩ := Kd.at_int HR.out (9 : Int) (by omega) (by omega)
  subst e1'
  cases e2'
  cases e3'
  have qi0 : (0 < l0.length) = True := eq_true (by omega)
  have qi8 : (8 < l0.length) = True := eq_true (by omega)
  have qi9 : (9 < l0.length) = True := eq_true (by omega)
  have qj8 : ((8 : Int) < (l0.length : Int)) = True := eq_true (by omega)
  have qj9 : ((9 : Int) < (l0.length : Int)) = True := eq_true (by omega)
  (try simp only [show (0 : Int).toNat = 0 from rfl, Nat.reduceMul, Nat.reduceEqDiff, Go.Addr.add, ↓reduceIte] at hcell0)
  (try simp only [show (8 : Int).toNat = 8 from rfl, Nat.reduceMul, Nat.reduceEqDiff, Go.Addr.add, ↓reduceIte] at hcell8)
  (try simp only [show (9 : Int).toNat = 9 from rfl, Nat.reduceMul, Nat.reduceEqDiff, Go.Addr.add, ↓reduceIte] at hcell9)
  have HX0 := Aside0.mk hcell0
  have HX8 := Aside0.mk hcell8
  have HX9 := Aside0.mk hcell9
  clear hcell0 hcell8 hcell9 c1 c1'
  have HN1 := Aside0.mk hn1
  clear hn1
  have c2b0 : (rd l0 0 / 16 == 4) = true := beq_iff_eq.mpr c2
  have c2b1 : (rd l0 0 / 16 != 4) = false := bne_eq_false_iff_eq.mpr c2
  have HC2 := Aside0.mk c2
  have c3b0 : decide (wrap64 (4 * wrap64 (Go.bits .and .u8 (rd l0 0) 15)) < 20) = false := decide_eq_false c3
  have HC3 := Aside0.mk c3
  have c4b0 : decide ((l0.length : Int) < wrap64 (4 * wrap64 (Go.bits .and .u8 (rd l0 0) 15))) = true := decide_eq_true c4
  have HC4 := Aside0.mk c4
  clear c2 c3 c4
  go_enter Try.func16, Try.ntmps16
  go_wp2_with (first | ((with_reducible refine gate_dst (N := 1) rfl ?_); refine box_event ?hg (N := 1) ?hd (cs := #[.slice (some ad) l0.length c0]) (t := 24) ?hr ?_; (case hd => rfl); (case hg => rfl); (case hr => first | (go_simp; done) | (go_simp; rfl)); intro pb hg0 w0 hbox0 hb0; have HPB0 := Aside0.mk hbox0; have HB0 := Aside0.mk hb0; clear hg0 hbox0 hb0) | ((with_reducible refine gate_dst (N := 2) rfl ?_); refine box_event ?hg (N := 2) ?hd (cs := #[.int .u32 0, .int .u32 0, .int .u8 0, .int .u8 0, .int .u16 0, .bool false, .bool false, .int .i64 0, .slice none 0 0]) (t := 26) ?hr ?_; (case hd => rfl); (case hg => rfl); (case hr => first | (go_simp; done) | (go_simp; rfl)); intro gb hg w1 hbox hb; have HPB := Aside0.mk (blk_below HPB0.out hb); have BK := Aside0.mk hbox; have HGB := Aside0.mk (show w.heap.size ≤ gb by rw [hg]; exact HB0.out.size); have HB := Aside0.mk (HB0.out.trans (hb.mono HB0.out.size)); clear hg hbox hb HPB0 HB0; have hcpb : w1.cell? ⟨pb, 0, none⟩ = some (.slice (some ad) l0.length c0) := (blk_cell HPB.out 0).trans rfl; have hc0' := (HB.out.cell (World.block_lt_of_cell? w _ HX0.out)).trans HX0.out; obtain ⟨hcza_0, hcza_1, hcza_2, hcza_3, hcza_4, hcza_5, hcza_6, hcza_7, hcza_8⟩ := blk9 BK.out; obtain ⟨hfza_0, hfza_1, hfza_2, hfza_3, hfza_4, hfza_5, hfza_6, hfza_7, hfza_8⟩ := frz9 BK.out) | (go_at_call 37; (with_reducible refine (ipnum_calls k pb _ _ l0 2 2 t1 _ _ (by (with_reducible repeat (first | refine blk_drewN ?_ _)); exact HPB.out) (Kd.C_below HR.out (by (with_reducible repeat (first | apply pw_below_drewN)); exact HB.out)) HC0.out HN1.out).mono ?_); rintro e w' ⟨rfl, ⟨nd, rfl⟩⟩))
  refine bodyPost_ret (results_ct rfl _ _ gb 26 #[.int .u32 0, .int .u32 0, .int .u8 0, .int .u8 0, .int .u16 0, .bool false, .bool false, .int .i64 0, .slice none 0 0] (0, 0) _ rfl (by refine blk_put (cs := #[.int .u32 0, .int .u32 0, .int .u8 0, .int .u8 0, .int .u16 0, .bool false, .bool false, .int .i64 0, .slice none 0 0]) ?_ 8 _ rfl; refine blk_put (cs := #[.int .u32 0, .int .u32 0, .int .u8 0, .int .u8 0, .int .u16 0, .bool false, .bool false, .int .i64 0, .slice none 0 0]) ?_ 7 _ rfl; refine blk_put (cs := #[.int .u32 0, .int .u32 0, .int .u8 0, .int .u8 0, .int .u16 0, .bool false, .bool false, .int .i64 0, .slice none 0 0]) ?_ 6 _ rfl; refine blk_put (cs := #[.int .u32 0, .int .u32 0, .int .u8 0, .int .u8 0, .int .u16 0, .bool false, .bool false, .int .i64 0, .slice none 0 0]) ?_ 5 _ rfl; refine blk_put (cs := #[.int .u32 0, .int .u32 0, .int .u8 0, .int .u8 0, .int .u16 0, .bool false, .bool false, .int .i64 0, .slice none 0 0]) ?_ 4 _ rfl; refine blk_put (cs := #[.int .u32 0, .int .u32 0, .int .u8 0, .int .u8 0, .int .u16 0, .bool false, .bool false, .int .i64 0, .slice none 0 0]) ?_ 3 _ rfl; refine blk_put (cs := #[.int .u32 0, .int .u32 0, .int .u8 0, .int .u8 0, .int .u16 0, .bool false, .bool false, .int .i64 0, .slice none 0 0]) ?_ 2 _ rfl; refine blk_put (cs := #[.int .u32 0, .int .u32 0, .int .u8 0, .int .u8 0, .int .u16 0, .bool false, .bool false, .int .i64 0, .slice none 0 0]) ?_ 1 _ rfl; refine blk_put (cs := #[.int .u32 0, .int .u32 0, .int .u8 0, .int .u8 0, .int .u16 0, .bool false, .bool false, .int .i64 0, .slice none 0 0]) ?_ 0 _ rfl; (with_reducible repeat (first | refine blk_drewN ?_ _)); exact BK.out) Try.underlying26 rfl (by kernel_rfl)) rfl ?_
  exact ⟨rfl, by refine below_set (g := gb) ?_ HGB.out; refine below_set (g := gb) ?_ HGB.out; refine below_set (g := gb) ?_ HGB.out; refine below_set (g := gb) ?_ HGB.out; refine below_set (g := gb) ?_ HGB.out; refine below_set (g := gb) ?_ HGB.out; refine below_set (g := gb) ?_ HGB.out; refine below_set (g := gb) ?_ HGB.out; refine below_set (g := gb) ?_ HGB.out; (with_reducible repeat (first | apply pw_below_drewN)); exact HB.out⟩
set_option maxHeartbeats 2000000 in
set_option maxRecDepth 100000 in
theorem ip_Take.s5 (k : Nat) (A0 : Option Addr) (c0 : Nat) (l0 : List Int) (w : World) (hr0 : Kd.C (Kd.int .u8) w A0 l0.length l0) (hc0 : l0.length ≤ c0) (c1 : ¬ ((l0.length : Int) < 20)) (t1 e1 : Int) (hn1 : octet_Num.f k l0 2 2 = some (t1, e1)) (c2 : rd l0 0 / 16 = 4) (c3 : ¬ (wrap64 (4 * wrap64 (Go.bits .and .u8 (rd l0 0) 15)) < 20)) (c4 : ¬ ((l0.length : Int) < wrap64 (4 * wrap64 (Go.bits .and .u8 (rd l0 0) 15)))) (c5 : wrap64 t1 < wrap64 (4 * wrap64 (Go.bits .and .u8 (rd l0 0) 15))) : Calls Try.prog 16 #[.slice A0 l0.length c0] w fun e w' => (e = .returned (.tuple #[.agg #[.int .u32 0, .int .u32 0, .int .u8 0, .int .u8 0, .int .u16 0, .bool false, .bool false, .int .i64 0, .slice none 0 0], .int .i64 4]) ∧ Below w.heap.size w w') := by
  have hu26 := Try.underlying26
  have HR := Aside0.mk hr0
  have HC0 := Aside0.mk hc0
  clear hr0 hc0
  have c1' : (20 : Int) ≤ (l0.length : Int) := by omega
  have c1b0 : decide ((l0.length : Int) < 20) = false := decide_eq_false c1
  have c1b1 : decide (l0.length < 20) = false := decide_eq_false (by omega)
  obtain ⟨ad, e1', hcell0⟩ := Kd.at_int HR.out (0 : Int) (by omega) (by omega)
  obtain ⟨_, e2', hcell8⟩ := Kd.at_int HR.out (8 : Int) (by omega) (by omega)
  obtain ⟨_, e3', hcell9⟩ := Kd.at_int HR.out (9 : Int) (by omega) (by omega)
  subst e1'
  cases e2'
  cases e3'
  have qi0 : (0 < l0.length) = True := eq_true (by omega)
  have qi8 : (8 < l0.length) = True := eq_true (by omega)
  have qi9 : (9 < l0.length) = True := eq_true (by omega)
  have qj8 : ((8 : Int) < (l0.length : Int)) = True := eq_true (by omega)
  have qj9 : ((9 : Int) < (l0.length : Int)) = True := eq_true (by omega)
  (try simp only [show (0 : Int).toNat = 0 from rfl, Nat.reduceMul, Nat.reduceEqDiff, Go.Addr.add, ↓reduceIte] at hcell0)
  (try simp only [show (8 : Int).toNat = 8 from rfl, Nat.reduceMul, Nat.reduceEqDiff, Go.Addr.add, ↓reduceIte] at hcell8)
  (try simp only [show (9 : Int).toNat = 9 from rfl, Nat.reduceMul, Nat.reduceEqDiff, Go.Addr.add, ↓reduceIte] at hcell9)
  have HX0 := Aside0.mk hcell0
  have HX8 := Aside0.mk hcell8
  have HX9 := Aside0.mk hcell9
  clear hcell0 hcell8 hcell9 c1 c1'
  have HN1 := Aside0.mk hn1
  clear hn1
  have c2b0 : (rd l0 0 / 16 == 4) = true := beq_iff_eq.mpr c2
  have c2b1 : (rd l0 0 / 16 != 4) = false := bne_eq_false_iff_eq.mpr c2
  have HC2 := Aside0.mk c2
  have c3b0 : decide (wrap64 (4 * wrap64 (Go.bits .and .u8 (rd l0 0) 15)) < 20) = false := decide_eq_false c3
  have HC3 := Aside0.mk c3
  have c4b0 : decide ((l0.length : Int) < wrap64 (4 * wrap64 (Go.bits .and .u8 (rd l0 0) 15))) = false := decide_eq_false c4
  have HC4 := Aside0.mk c4
  have c5b0 : decide (wrap64 t1 < wrap64 (4 * wrap64 (Go.bits .and .u8 (rd l0 0) 15))) = true := decide_eq_true c5
  have HC5 := Aside0.mk c5
  clear c2 c3 c4 c5
  go_enter Try.func16, Try.ntmps16
  go_wp2_with (first | ((with_reducible refine gate_dst (N := 1) rfl ?_); refine box_event ?hg (N := 1) ?hd (cs := #[.slice (some ad) l0.length c0]) (t := 24) ?hr ?_; (case hd => rfl); (case hg => rfl); (case hr => first | (go_simp; done) | (go_simp; rfl)); intro pb hg0 w0 hbox0 hb0; have HPB0 := Aside0.mk hbox0; have HB0 := Aside0.mk hb0; clear hg0 hbox0 hb0) | ((with_reducible refine gate_dst (N := 2) rfl ?_); refine box_event ?hg (N := 2) ?hd (cs := #[.int .u32 0, .int .u32 0, .int .u8 0, .int .u8 0, .int .u16 0, .bool false, .bool false, .int .i64 0, .slice none 0 0]) (t := 26) ?hr ?_; (case hd => rfl); (case hg => rfl); (case hr => first | (go_simp; done) | (go_simp; rfl)); intro gb hg w1 hbox hb; have HPB := Aside0.mk (blk_below HPB0.out hb); have BK := Aside0.mk hbox; have HGB := Aside0.mk (show w.heap.size ≤ gb by rw [hg]; exact HB0.out.size); have HB := Aside0.mk (HB0.out.trans (hb.mono HB0.out.size)); clear hg hbox hb HPB0 HB0; have hcpb : w1.cell? ⟨pb, 0, none⟩ = some (.slice (some ad) l0.length c0) := (blk_cell HPB.out 0).trans rfl; have hc0' := (HB.out.cell (World.block_lt_of_cell? w _ HX0.out)).trans HX0.out; obtain ⟨hcza_0, hcza_1, hcza_2, hcza_3, hcza_4, hcza_5, hcza_6, hcza_7, hcza_8⟩ := blk9 BK.out; obtain ⟨hfza_0, hfza_1, hfza_2, hfza_3, hfza_4, hfza_5, hfza_6, hfza_7, hfza_8⟩ := frz9 BK.out) | (go_at_call 37; (with_reducible refine (ipnum_calls k pb _ _ l0 2 2 t1 _ _ (by (with_reducible repeat (first | refine blk_drewN ?_ _)); exact HPB.out) (Kd.C_below HR.out (by (with_reducible repeat (first | apply pw_below_drewN)); exact HB.out)) HC0.out HN1.out).mono ?_); rintro e w' ⟨rfl, ⟨nd, rfl⟩⟩))
  refine bodyPost_ret (results_ct rfl _ _ gb 26 #[.int .u32 0, .int .u32 0, .int .u8 0, .int .u8 0, .int .u16 0, .bool false, .bool false, .int .i64 0, .slice none 0 0] (0, 0) _ rfl (by refine blk_put (cs := #[.int .u32 0, .int .u32 0, .int .u8 0, .int .u8 0, .int .u16 0, .bool false, .bool false, .int .i64 0, .slice none 0 0]) ?_ 8 _ rfl; refine blk_put (cs := #[.int .u32 0, .int .u32 0, .int .u8 0, .int .u8 0, .int .u16 0, .bool false, .bool false, .int .i64 0, .slice none 0 0]) ?_ 7 _ rfl; refine blk_put (cs := #[.int .u32 0, .int .u32 0, .int .u8 0, .int .u8 0, .int .u16 0, .bool false, .bool false, .int .i64 0, .slice none 0 0]) ?_ 6 _ rfl; refine blk_put (cs := #[.int .u32 0, .int .u32 0, .int .u8 0, .int .u8 0, .int .u16 0, .bool false, .bool false, .int .i64 0, .slice none 0 0]) ?_ 5 _ rfl; refine blk_put (cs := #[.int .u32 0, .int .u32 0, .int .u8 0, .int .u8 0, .int .u16 0, .bool false, .bool false, .int .i64 0, .slice none 0 0]) ?_ 4 _ rfl; refine blk_put (cs := #[.int .u32 0, .int .u32 0, .int .u8 0, .int .u8 0, .int .u16 0, .bool false, .bool false, .int .i64 0, .slice none 0 0]) ?_ 3 _ rfl; refine blk_put (cs := #[.int .u32 0, .int .u32 0, .int .u8 0, .int .u8 0, .int .u16 0, .bool false, .bool false, .int .i64 0, .slice none 0 0]) ?_ 2 _ rfl; refine blk_put (cs := #[.int .u32 0, .int .u32 0, .int .u8 0, .int .u8 0, .int .u16 0, .bool false, .bool false, .int .i64 0, .slice none 0 0]) ?_ 1 _ rfl; refine blk_put (cs := #[.int .u32 0, .int .u32 0, .int .u8 0, .int .u8 0, .int .u16 0, .bool false, .bool false, .int .i64 0, .slice none 0 0]) ?_ 0 _ rfl; (with_reducible repeat (first | refine blk_drewN ?_ _)); exact BK.out) Try.underlying26 rfl (by kernel_rfl)) rfl ?_
  exact ⟨rfl, by refine below_set (g := gb) ?_ HGB.out; refine below_set (g := gb) ?_ HGB.out; refine below_set (g := gb) ?_ HGB.out; refine below_set (g := gb) ?_ HGB.out; refine below_set (g := gb) ?_ HGB.out; refine below_set (g := gb) ?_ HGB.out; refine below_set (g := gb) ?_ HGB.out; refine below_set (g := gb) ?_ HGB.out; refine below_set (g := gb) ?_ HGB.out; (with_reducible repeat (first | apply pw_below_drewN)); exact HB.out⟩
set_option maxHeartbeats 2000000 in
set_option maxRecDepth 100000 in
theorem ip_Take.s6 (k : Nat) (A0 : Option Addr) (c0 : Nat) (l0 : List Int) (w : World) (hr0 : Kd.C (Kd.int .u8) w A0 l0.length l0) (hc0 : l0.length ≤ c0) (c1 : ¬ ((l0.length : Int) < 20)) (t1 e1 : Int) (hn1 : octet_Num.f k l0 2 2 = some (t1, e1)) (c2 : rd l0 0 / 16 = 4) (c3 : ¬ (wrap64 (4 * wrap64 (Go.bits .and .u8 (rd l0 0) 15)) < 20)) (c4 : ¬ ((l0.length : Int) < wrap64 (4 * wrap64 (Go.bits .and .u8 (rd l0 0) 15)))) (c5 : ¬ (wrap64 t1 < wrap64 (4 * wrap64 (Go.bits .and .u8 (rd l0 0) 15)))) (c6 : (l0.length : Int) < wrap64 t1) : Calls Try.prog 16 #[.slice A0 l0.length c0] w fun e w' => (e = .returned (.tuple #[.agg #[.int .u32 0, .int .u32 0, .int .u8 0, .int .u8 0, .int .u16 0, .bool false, .bool false, .int .i64 0, .slice none 0 0], .int .i64 3]) ∧ Below w.heap.size w w') := by
  have hu26 := Try.underlying26
  have HR := Aside0.mk hr0
  have HC0 := Aside0.mk hc0
  clear hr0 hc0
  have c1' : (20 : Int) ≤ (l0.length : Int) := by omega
  have c1b0 : decide ((l0.length : Int) < 20) = false := decide_eq_false c1
  have c1b1 : decide (l0.length < 20) = false := decide_eq_false (by omega)
  obtain ⟨ad, e1', hcell0⟩ := Kd.at_int HR.out (0 : Int) (by omega) (by omega)
  obtain ⟨_, e2', hcell8⟩ := Kd.at_int HR.out (8 : Int) (by omega) (by omega)
  obtain ⟨_, e3', hcell9⟩ := Kd.at_int HR.out (9 : Int) (by omega) (by omega)
  subst e1'
  cases e2'
  cases e3'
  have qi0 : (0 < l0.length) = True := eq_true (by omega)
  have qi8 : (8 < l0.length) = True := eq_true (by omega)
  have qi9 : (9 < l0.length) = True := eq_true (by omega)
  have qj8 : ((8 : Int) < (l0.length : Int)) = True := eq_true (by omega)
  have qj9 : ((9 : Int) < (l0.length : Int)) = True := eq_true (by omega)
  (try simp only [show (0 : Int).toNat = 0 from rfl, Nat.reduceMul, Nat.reduceEqDiff, Go.Addr.add, ↓reduceIte] at hcell0)
  (try simp only [show (8 : Int).toNat = 8 from rfl, Nat.reduceMul, Nat.reduceEqDiff, Go.Addr.add, ↓reduceIte] at hcell8)
  (try simp only [show (9 : Int).toNat = 9 from rfl, Nat.reduceMul, Nat.reduceEqDiff, Go.Addr.add, ↓reduceIte] at hcell9)
  have HX0 := Aside0.mk hcell0
  have HX8 := Aside0.mk hcell8
  have HX9 := Aside0.mk hcell9
  clear hcell0 hcell8 hcell9 c1 c1'
  have HN1 := Aside0.mk hn1
  clear hn1
  have c2b0 : (rd l0 0 / 16 == 4) = true := beq_iff_eq.mpr c2
  have c2b1 : (rd l0 0 / 16 != 4) = false := bne_eq_false_iff_eq.mpr c2
  have HC2 := Aside0.mk c2
  have c3b0 : decide (wrap64 (4 * wrap64 (Go.bits .and .u8 (rd l0 0) 15)) < 20) = false := decide_eq_false c3
  have HC3 := Aside0.mk c3
  have c4b0 : decide ((l0.length : Int) < wrap64 (4 * wrap64 (Go.bits .and .u8 (rd l0 0) 15))) = false := decide_eq_false c4
  have HC4 := Aside0.mk c4
  have c5b0 : decide (wrap64 t1 < wrap64 (4 * wrap64 (Go.bits .and .u8 (rd l0 0) 15))) = false := decide_eq_false c5
  have HC5 := Aside0.mk c5
  have c6b0 : decide ((l0.length : Int) < wrap64 t1) = true := decide_eq_true c6
  have HC6 := Aside0.mk c6
  clear c2 c3 c4 c5 c6
  go_enter Try.func16, Try.ntmps16
  go_wp2_with (first | ((with_reducible refine gate_dst (N := 1) rfl ?_); refine box_event ?hg (N := 1) ?hd (cs := #[.slice (some ad) l0.length c0]) (t := 24) ?hr ?_; (case hd => rfl); (case hg => rfl); (case hr => first | (go_simp; done) | (go_simp; rfl)); intro pb hg0 w0 hbox0 hb0; have HPB0 := Aside0.mk hbox0; have HB0 := Aside0.mk hb0; clear hg0 hbox0 hb0) | ((with_reducible refine gate_dst (N := 2) rfl ?_); refine box_event ?hg (N := 2) ?hd (cs := #[.int .u32 0, .int .u32 0, .int .u8 0, .int .u8 0, .int .u16 0, .bool false, .bool false, .int .i64 0, .slice none 0 0]) (t := 26) ?hr ?_; (case hd => rfl); (case hg => rfl); (case hr => first | (go_simp; done) | (go_simp; rfl)); intro gb hg w1 hbox hb; have HPB := Aside0.mk (blk_below HPB0.out hb); have BK := Aside0.mk hbox; have HGB := Aside0.mk (show w.heap.size ≤ gb by rw [hg]; exact HB0.out.size); have HB := Aside0.mk (HB0.out.trans (hb.mono HB0.out.size)); clear hg hbox hb HPB0 HB0; have hcpb : w1.cell? ⟨pb, 0, none⟩ = some (.slice (some ad) l0.length c0) := (blk_cell HPB.out 0).trans rfl; have hc0' := (HB.out.cell (World.block_lt_of_cell? w _ HX0.out)).trans HX0.out; obtain ⟨hcza_0, hcza_1, hcza_2, hcza_3, hcza_4, hcza_5, hcza_6, hcza_7, hcza_8⟩ := blk9 BK.out; obtain ⟨hfza_0, hfza_1, hfza_2, hfza_3, hfza_4, hfza_5, hfza_6, hfza_7, hfza_8⟩ := frz9 BK.out) | (go_at_call 37; (with_reducible refine (ipnum_calls k pb _ _ l0 2 2 t1 _ _ (by (with_reducible repeat (first | refine blk_drewN ?_ _)); exact HPB.out) (Kd.C_below HR.out (by (with_reducible repeat (first | apply pw_below_drewN)); exact HB.out)) HC0.out HN1.out).mono ?_); rintro e w' ⟨rfl, ⟨nd, rfl⟩⟩))
  refine bodyPost_ret (results_ct rfl _ _ gb 26 #[.int .u32 0, .int .u32 0, .int .u8 0, .int .u8 0, .int .u16 0, .bool false, .bool false, .int .i64 0, .slice none 0 0] (0, 0) _ rfl (by refine blk_put (cs := #[.int .u32 0, .int .u32 0, .int .u8 0, .int .u8 0, .int .u16 0, .bool false, .bool false, .int .i64 0, .slice none 0 0]) ?_ 8 _ rfl; refine blk_put (cs := #[.int .u32 0, .int .u32 0, .int .u8 0, .int .u8 0, .int .u16 0, .bool false, .bool false, .int .i64 0, .slice none 0 0]) ?_ 7 _ rfl; refine blk_put (cs := #[.int .u32 0, .int .u32 0, .int .u8 0, .int .u8 0, .int .u16 0, .bool false, .bool false, .int .i64 0, .slice none 0 0]) ?_ 6 _ rfl; refine blk_put (cs := #[.int .u32 0, .int .u32 0, .int .u8 0, .int .u8 0, .int .u16 0, .bool false, .bool false, .int .i64 0, .slice none 0 0]) ?_ 5 _ rfl; refine blk_put (cs := #[.int .u32 0, .int .u32 0, .int .u8 0, .int .u8 0, .int .u16 0, .bool false, .bool false, .int .i64 0, .slice none 0 0]) ?_ 4 _ rfl; refine blk_put (cs := #[.int .u32 0, .int .u32 0, .int .u8 0, .int .u8 0, .int .u16 0, .bool false, .bool false, .int .i64 0, .slice none 0 0]) ?_ 3 _ rfl; refine blk_put (cs := #[.int .u32 0, .int .u32 0, .int .u8 0, .int .u8 0, .int .u16 0, .bool false, .bool false, .int .i64 0, .slice none 0 0]) ?_ 2 _ rfl; refine blk_put (cs := #[.int .u32 0, .int .u32 0, .int .u8 0, .int .u8 0, .int .u16 0, .bool false, .bool false, .int .i64 0, .slice none 0 0]) ?_ 1 _ rfl; refine blk_put (cs := #[.int .u32 0, .int .u32 0, .int .u8 0, .int .u8 0, .int .u16 0, .bool false, .bool false, .int .i64 0, .slice none 0 0]) ?_ 0 _ rfl; (with_reducible repeat (first | refine blk_drewN ?_ _)); exact BK.out) Try.underlying26 rfl (by kernel_rfl)) rfl ?_
  exact ⟨rfl, by refine below_set (g := gb) ?_ HGB.out; refine below_set (g := gb) ?_ HGB.out; refine below_set (g := gb) ?_ HGB.out; refine below_set (g := gb) ?_ HGB.out; refine below_set (g := gb) ?_ HGB.out; refine below_set (g := gb) ?_ HGB.out; refine below_set (g := gb) ?_ HGB.out; refine below_set (g := gb) ?_ HGB.out; refine below_set (g := gb) ?_ HGB.out; (with_reducible repeat (first | apply pw_below_drewN)); exact HB.out⟩
set_option maxHeartbeats 2000000 in
set_option maxRecDepth 100000 in
theorem ip_Take.s7 (k : Nat) (A0 : Option Addr) (c0 : Nat) (l0 : List Int) (w : World) (hr0 : Kd.C (Kd.int .u8) w A0 l0.length l0) (hc0 : l0.length ≤ c0) (c1 : ¬ ((l0.length : Int) < 20)) (t1 e1 : Int) (hn1 : octet_Num.f k l0 2 2 = some (t1, e1)) (c2 : rd l0 0 / 16 = 4) (c3 : ¬ (wrap64 (4 * wrap64 (Go.bits .and .u8 (rd l0 0) 15)) < 20)) (c4 : ¬ ((l0.length : Int) < wrap64 (4 * wrap64 (Go.bits .and .u8 (rd l0 0) 15)))) (c5 : ¬ (wrap64 t1 < wrap64 (4 * wrap64 (Go.bits .and .u8 (rd l0 0) 15)))) (c6 : ¬ ((l0.length : Int) < wrap64 t1)) (t2 : Int) (hn2 : sums_Net.f k (l0.take (wrap64 (4 * wrap64 (Go.bits .and .u8 (rd l0 0) 15))).toNat) = some t2) (c7 : ¬ (t2 = 0)) : Calls Try.prog 16 #[.slice A0 l0.length c0] w fun e w' => (e = .returned (.tuple #[.agg #[.int .u32 0, .int .u32 0, .int .u8 0, .int .u8 0, .int .u16 0, .bool false, .bool false, .int .i64 0, .slice none 0 0], .int .i64 5]) ∧ Below w.heap.size w w') := by
  have hu26 := Try.underlying26
  have HR := Aside0.mk hr0
  have HC0 := Aside0.mk hc0
  clear hr0 hc0
  have c1' : (20 : Int) ≤ (l0.length : Int) := by omega
  have c1b0 : decide ((l0.length : Int) < 20) = false := decide_eq_false c1
  have c1b1 : decide (l0.length < 20) = false := decide_eq_false (by omega)
  obtain ⟨ad, e1', hcell0⟩ := Kd.at_int HR.out (0 : Int) (by omega) (by omega)
  obtain ⟨_, e2', hcell8⟩ := Kd.at_int HR.out (8 : Int) (by omega) (by omega)
  obtain ⟨_, e3', hcell9⟩ := Kd.at_int HR.out (9 : Int) (by omega) (by omega)
  subst e1'
  cases e2'
  cases e3'
  have qi0 : (0 < l0.length) = True := eq_true (by omega)
  have qi8 : (8 < l0.length) = True := eq_true (by omega)
  have qi9 : (9 < l0.length) = True := eq_true (by omega)
  have qj8 : ((8 : Int) < (l0.length : Int)) = True := eq_true (by omega)
  have qj9 : ((9 : Int) < (l0.length : Int)) = True := eq_true (by omega)
  (try simp only [show (0 : Int).toNat = 0 from rfl, Nat.reduceMul, Nat.reduceEqDiff, Go.Addr.add, ↓reduceIte] at hcell0)
  (try simp only [show (8 : Int).toNat = 8 from rfl, Nat.reduceMul, Nat.reduceEqDiff, Go.Addr.add, ↓reduceIte] at hcell8)
  (try simp only [show (9 : Int).toNat = 9 from rfl, Nat.reduceMul, Nat.reduceEqDiff, Go.Addr.add, ↓reduceIte] at hcell9)
  have HX0 := Aside0.mk hcell0
  have HX8 := Aside0.mk hcell8
  have HX9 := Aside0.mk hcell9
  clear hcell0 hcell8 hcell9 c1 c1'
  have HN1 := Aside0.mk hn1
  clear hn1
  have c2b0 : (rd l0 0 / 16 == 4) = true := beq_iff_eq.mpr c2
  have c2b1 : (rd l0 0 / 16 != 4) = false := bne_eq_false_iff_eq.mpr c2
  have HC2 := Aside0.mk c2
  have c3b0 : decide (wrap64 (4 * wrap64 (Go.bits .and .u8 (rd l0 0) 15)) < 20) = false := decide_eq_false c3
  have HC3 := Aside0.mk c3
  have c4b0 : decide ((l0.length : Int) < wrap64 (4 * wrap64 (Go.bits .and .u8 (rd l0 0) 15))) = false := decide_eq_false c4
  have HC4 := Aside0.mk c4
  have c5b0 : decide (wrap64 t1 < wrap64 (4 * wrap64 (Go.bits .and .u8 (rd l0 0) 15))) = false := decide_eq_false c5
  have HC5 := Aside0.mk c5
  have c6b0 : decide ((l0.length : Int) < wrap64 t1) = false := decide_eq_false c6
  have HC6 := Aside0.mk c6
  have c7b0 : (t2 == 0) = false := beq_eq_false_iff_ne.mpr c7
  have c7b1 : (t2 != 0) = true := bne_iff_ne.mpr c7
  have HC7 := Aside0.mk c7
  clear c2 c3 c4 c5 c6 c7
  obtain ⟨ws, hws⟩ : ∃ ws, ws = wrap64 (4 * wrap64 (Go.bits .and .u8 (rd l0 0) 15)) := ⟨_, rfl⟩
  have h0w : 0 ≤ ws := by have := HC3.out; omega
  have hwl : ws ≤ (l0.length : Int) := by have := HC4.out; omega
  obtain ⟨ys, hys⟩ : ∃ ys, ys = l0.take ws.toNat := ⟨_, rfl⟩
  rw [← hws, ← hys] at hn2
  rw [← hws] at c3b0 c4b0 c5b0
  have HNET := Aside0.mk hn2
  clear hn2
  obtain ⟨i0, hi0, _, hsz, _⟩ := info_parts cl_info
  have hcutS := cut_to (P := Try.prog) 24 5 .i64 Try.underlying24 hi0 (some ad) l0.length c0 ws h0w hwl HC0.out
  have hlS : ys.length = ws.toNat := by rw [hys, List.length_take]; omega
  rw [← hlS] at hcutS
  have hCS := Kd.C_take (m := ws.toNat) HR.out (by omega)
  rw [← hys] at hCS
  have HRS := Aside0.mk hCS
  have HCS := Aside0.mk (show ys.length ≤ c0 by have := HC0.out; omega)
  have HYS := Aside0.mk hys
  have hwsr := hws.symm
  clear hws hys hlS hCS hi0 hsz h0w hwl HYS
  go_enter Try.func16, Try.ntmps16
  go_wp2_with (first | ((with_reducible refine gate_dst (N := 1) rfl ?_); refine box_event ?hg (N := 1) ?hd (cs := #[.slice (some ad) l0.length c0]) (t := 24) ?hr ?_; (case hd => rfl); (case hg => rfl); (case hr => first | (go_simp; done) | (go_simp; rfl)); intro pb hg0 w0 hbox0 hb0; have HPB0 := Aside0.mk hbox0; have HB0 := Aside0.mk hb0; clear hg0 hbox0 hb0) | ((with_reducible refine gate_dst (N := 2) rfl ?_); refine box_event ?hg (N := 2) ?hd (cs := #[.int .u32 0, .int .u32 0, .int .u8 0, .int .u8 0, .int .u16 0, .bool false, .bool false, .int .i64 0, .slice none 0 0]) (t := 26) ?hr ?_; (case hd => rfl); (case hg => rfl); (case hr => first | (go_simp; done) | (go_simp; rfl)); intro gb hg w1 hbox hb; have HPB := Aside0.mk (blk_below HPB0.out hb); have BK := Aside0.mk hbox; have HGB := Aside0.mk (show w.heap.size ≤ gb by rw [hg]; exact HB0.out.size); have HB := Aside0.mk (HB0.out.trans (hb.mono HB0.out.size)); clear hg hbox hb HPB0 HB0; have hcpb : w1.cell? ⟨pb, 0, none⟩ = some (.slice (some ad) l0.length c0) := (blk_cell HPB.out 0).trans rfl; have hc0' := (HB.out.cell (World.block_lt_of_cell? w _ HX0.out)).trans HX0.out; obtain ⟨hcza_0, hcza_1, hcza_2, hcza_3, hcza_4, hcza_5, hcza_6, hcza_7, hcza_8⟩ := blk9 BK.out; obtain ⟨hfza_0, hfza_1, hfza_2, hfza_3, hfza_4, hfza_5, hfza_6, hfza_7, hfza_8⟩ := frz9 BK.out) | (go_at_call 37; (with_reducible refine (ipnum_calls k pb _ _ l0 2 2 t1 _ _ (by (with_reducible repeat (first | refine blk_drewN ?_ _)); exact HPB.out) (Kd.C_below HR.out (by (with_reducible repeat (first | apply pw_below_drewN)); exact HB.out)) HC0.out HN1.out).mono ?_); rintro e w' ⟨rfl, ⟨nd, rfl⟩⟩) | (go_at_call 33; (with_reducible refine (sums_Net.calls k _ _ ys t2 _ (Kd.C_below HRS.out (by (with_reducible repeat (first | apply pw_below_drewN)); exact HB.out)) HCS.out HNET.out).mono ?_); rintro e w' ⟨rfl, ⟨nd, rfl⟩⟩))
  refine bodyPost_ret (results_ct rfl _ _ gb 26 #[.int .u32 0, .int .u32 0, .int .u8 0, .int .u8 0, .int .u16 0, .bool false, .bool false, .int .i64 0, .slice none 0 0] (0, 0) _ rfl (by refine blk_put (cs := #[.int .u32 0, .int .u32 0, .int .u8 0, .int .u8 0, .int .u16 0, .bool false, .bool false, .int .i64 0, .slice none 0 0]) ?_ 8 _ rfl; refine blk_put (cs := #[.int .u32 0, .int .u32 0, .int .u8 0, .int .u8 0, .int .u16 0, .bool false, .bool false, .int .i64 0, .slice none 0 0]) ?_ 7 _ rfl; refine blk_put (cs := #[.int .u32 0, .int .u32 0, .int .u8 0, .int .u8 0, .int .u16 0, .bool false, .bool false, .int .i64 0, .slice none 0 0]) ?_ 6 _ rfl; refine blk_put (cs := #[.int .u32 0, .int .u32 0, .int .u8 0, .int .u8 0, .int .u16 0, .bool false, .bool false, .int .i64 0, .slice none 0 0]) ?_ 5 _ rfl; refine blk_put (cs := #[.int .u32 0, .int .u32 0, .int .u8 0, .int .u8 0, .int .u16 0, .bool false, .bool false, .int .i64 0, .slice none 0 0]) ?_ 4 _ rfl; refine blk_put (cs := #[.int .u32 0, .int .u32 0, .int .u8 0, .int .u8 0, .int .u16 0, .bool false, .bool false, .int .i64 0, .slice none 0 0]) ?_ 3 _ rfl; refine blk_put (cs := #[.int .u32 0, .int .u32 0, .int .u8 0, .int .u8 0, .int .u16 0, .bool false, .bool false, .int .i64 0, .slice none 0 0]) ?_ 2 _ rfl; refine blk_put (cs := #[.int .u32 0, .int .u32 0, .int .u8 0, .int .u8 0, .int .u16 0, .bool false, .bool false, .int .i64 0, .slice none 0 0]) ?_ 1 _ rfl; refine blk_put (cs := #[.int .u32 0, .int .u32 0, .int .u8 0, .int .u8 0, .int .u16 0, .bool false, .bool false, .int .i64 0, .slice none 0 0]) ?_ 0 _ rfl; (with_reducible repeat (first | refine blk_drewN ?_ _)); exact BK.out) Try.underlying26 rfl (by kernel_rfl)) rfl ?_
  exact ⟨rfl, by refine below_set (g := gb) ?_ HGB.out; refine below_set (g := gb) ?_ HGB.out; refine below_set (g := gb) ?_ HGB.out; refine below_set (g := gb) ?_ HGB.out; refine below_set (g := gb) ?_ HGB.out; refine below_set (g := gb) ?_ HGB.out; refine below_set (g := gb) ?_ HGB.out; refine below_set (g := gb) ?_ HGB.out; refine below_set (g := gb) ?_ HGB.out; (with_reducible repeat (first | apply pw_below_drewN)); exact HB.out⟩
set_option maxHeartbeats 8000000 in
set_option maxRecDepth 100000 in
theorem ip_Take.s8 (k : Nat) (A0 : Option Addr) (c0 : Nat) (l0 : List Int) (w : World) (hr0 : Kd.C (Kd.int .u8) w A0 l0.length l0) (hc0 : l0.length ≤ c0) (c1 : ¬ ((l0.length : Int) < 20)) (t1 e1 : Int) (hn1 : octet_Num.f k l0 2 2 = some (t1, e1)) (c2 : rd l0 0 / 16 = 4) (c3 : ¬ (wrap64 (4 * wrap64 (Go.bits .and .u8 (rd l0 0) 15)) < 20)) (c4 : ¬ ((l0.length : Int) < wrap64 (4 * wrap64 (Go.bits .and .u8 (rd l0 0) 15)))) (c5 : ¬ (wrap64 t1 < wrap64 (4 * wrap64 (Go.bits .and .u8 (rd l0 0) 15)))) (c6 : ¬ ((l0.length : Int) < wrap64 t1)) (t2 : Int) (hn2 : sums_Net.f k (l0.take (wrap64 (4 * wrap64 (Go.bits .and .u8 (rd l0 0) 15))).toNat) = some t2) (c7 : t2 = 0) (t3 e3 t4 e4 t5 e5 t6 e6 : Int) (hn3 : octet_Num.f k l0 6 2 = some (t3, e3)) (hn4 : octet_Num.f k l0 12 4 = some (t4, e4)) (hn5 : octet_Num.f k l0 16 4 = some (t5, e5)) (hn6 : octet_Num.f k l0 4 2 = some (t6, e6)) (t7 : Int) (y : List Int) (hy : y = (l0.take (wrap64 t1).toNat).drop (wrap64 (4 * wrap64 (Go.bits .and .u8 (rd l0 0) 15))).toNat) (hcl : slices_Clone_byte_byte.f y = some y) (hn7 : ip_may.f k (wrap64 t4 % 4294967296) (wrap64 t5 % 4294967296) (rd l0 9) (rd l0 8) (IntKind.u16.wrap (wrap64 t6)) (Go.bits .and .i64 (wrap64 t3) 16384 != 0) (Go.bits .and .i64 (wrap64 t3) 8192 != 0) (wrap64 (Go.bits .and .i64 (wrap64 t3) 8191 * 8)) y = some t7) (r1 r2 r3 r4 r5 : Int) (r6 r7 : Bool) (r8 : Int) (r9 : List Int) (r10 : Int) (h : (if (Go.bits .and .i64 (wrap64 t3) 32768) = 0 then (if t7 = 2 then some (0, 0, 0, 0, 0, false, false, 0, ([] : List Int), 4) else if t7 = 0 then some (wrap64 t4 % 4294967296, wrap64 t5 % 4294967296, rd l0 9, rd l0 8, IntKind.u16.wrap (wrap64 t6), Go.bits .and .i64 (wrap64 t3) 16384 != 0, Go.bits .and .i64 (wrap64 t3) 8192 != 0, wrap64 (Go.bits .and .i64 (wrap64 t3) 8191 * 8), y, 0) else some (0, 0, 0, 0, 0, false, false, 0, ([] : List Int), t7)) else some (0, 0, 0, 0, 0, false, false, 0, ([] : List Int), 4)) = some (r1, r2, r3, r4, r5, r6, r7, r8, r9, r10)) : Calls Try.prog 16 #[.slice A0 l0.length c0] w fun e w' => ∃ v8_ : Value, e = .returned (.tuple #[.agg #[.int .u32 r1, .int .u32 r2, .int .u8 r3, .int .u8 r4, .int .u16 r5, .bool r6, .bool r7, .int .i64 r8, v8_], .int .i64 r10]) ∧ Kd.R (Kd.int .u8) 5 w' w.heap.size (fun _ => True) v8_ r9 ∧ Below w.heap.size w w' := by
  have hu26 := Try.underlying26
  have HR := Aside0.mk hr0
  have HC0 := Aside0.mk hc0
  clear hr0 hc0
  have c1' : (20 : Int) ≤ (l0.length : Int) := by omega
  have c1b0 : decide ((l0.length : Int) < 20) = false := decide_eq_false c1
  have c1b1 : decide (l0.length < 20) = false := decide_eq_false (by omega)
  obtain ⟨ad, e1', hcell0⟩ := Kd.at_int HR.out (0 : Int) (by omega) (by omega)
  obtain ⟨_, e2', hcell8⟩ := Kd.at_int HR.out (8 : Int) (by omega) (by omega)
  obtain ⟨_, e3', hcell9⟩ := Kd.at_int HR.out (9 : Int) (by omega) (by omega)
  subst e1'
  cases e2'
  cases e3'
  have qi0 : (0 < l0.length) = True := eq_true (by omega)
  have qi8 : (8 < l0.length) = True := eq_true (by omega)
  have qi9 : (9 < l0.length) = True := eq_true (by omega)
  have qj8 : ((8 : Int) < (l0.length : Int)) = True := eq_true (by omega)
  have qj9 : ((9 : Int) < (l0.length : Int)) = True := eq_true (by omega)
  (try simp only [show (0 : Int).toNat = 0 from rfl, Nat.reduceMul, Nat.reduceEqDiff, Go.Addr.add, ↓reduceIte] at hcell0)
  (try simp only [show (8 : Int).toNat = 8 from rfl, Nat.reduceMul, Nat.reduceEqDiff, Go.Addr.add, ↓reduceIte] at hcell8)
  (try simp only [show (9 : Int).toNat = 9 from rfl, Nat.reduceMul, Nat.reduceEqDiff, Go.Addr.add, ↓reduceIte] at hcell9)
  have HX0 := Aside0.mk hcell0
  have HX8 := Aside0.mk hcell8
  have HX9 := Aside0.mk hcell9
  clear hcell0 hcell8 hcell9 c1 c1'
  have HN1 := Aside0.mk hn1
  clear hn1
  have c2b0 : (rd l0 0 / 16 == 4) = true := beq_iff_eq.mpr c2
  have c2b1 : (rd l0 0 / 16 != 4) = false := bne_eq_false_iff_eq.mpr c2
  have HC2 := Aside0.mk c2
  have c3b0 : decide (wrap64 (4 * wrap64 (Go.bits .and .u8 (rd l0 0) 15)) < 20) = false := decide_eq_false c3
  have HC3 := Aside0.mk c3
  have c4b0 : decide ((l0.length : Int) < wrap64 (4 * wrap64 (Go.bits .and .u8 (rd l0 0) 15))) = false := decide_eq_false c4
  have HC4 := Aside0.mk c4
  have c5b0 : decide (wrap64 t1 < wrap64 (4 * wrap64 (Go.bits .and .u8 (rd l0 0) 15))) = false := decide_eq_false c5
  have HC5 := Aside0.mk c5
  have c6b0 : decide ((l0.length : Int) < wrap64 t1) = false := decide_eq_false c6
  have HC6 := Aside0.mk c6
  have c7b0 : (t2 == 0) = true := beq_iff_eq.mpr c7
  have c7b1 : (t2 != 0) = false := bne_eq_false_iff_eq.mpr c7
  have HC7 := Aside0.mk c7
  clear c2 c3 c4 c5 c6 c7
  obtain ⟨ws, hws⟩ : ∃ ws, ws = wrap64 (4 * wrap64 (Go.bits .and .u8 (rd l0 0) 15)) := ⟨_, rfl⟩
  have h0w : 0 ≤ ws := by have := HC3.out; omega
  have hwl : ws ≤ (l0.length : Int) := by have := HC4.out; omega
  obtain ⟨ys, hys⟩ : ∃ ys, ys = l0.take ws.toNat := ⟨_, rfl⟩
  rw [← hws, ← hys] at hn2
  rw [← hws] at c3b0 c4b0 c5b0
  have HNET := Aside0.mk hn2
  clear hn2
  obtain ⟨i0, hi0, _, hsz, _⟩ := info_parts cl_info
  have hcutS := cut_to (P := Try.prog) 24 5 .i64 Try.underlying24 hi0 (some ad) l0.length c0 ws h0w hwl HC0.out
  have hlS : ys.length = ws.toNat := by rw [hys, List.length_take]; omega
  rw [← hlS] at hcutS
  have hCS := Kd.C_take (m := ws.toNat) HR.out (by omega)
  rw [← hys] at hCS
  have HRS := Aside0.mk hCS
  have HCS := Aside0.mk (show ys.length ≤ c0 by have := HC0.out; omega)
  have HYS := Aside0.mk hys
  have hwa : ws ≤ wrap64 t1 := by have := HC5.out; omega
  have hal : wrap64 t1 ≤ (l0.length : Int) := by have := HC6.out; omega
  rw [← hws] at hy
  have hcutY0 := cut_mid (P := Try.prog) 24 5 .i64 .i64 Try.underlying24 hi0 1 hsz (some ad) l0.length c0 ws (wrap64 t1) h0w hwa hal HC0.out
  have hCY := Kd.C_mid (lo := ws.toNat) (hi := (wrap64 t1).toNat) HR.out (by omega) (by omega) HC0.out
  obtain ⟨Ay, hAy⟩ : ∃ A, A = (if c0 = ws.toNat then some ad else (some ad : Option Addr).map (·.add (ws.toNat * 1))) := ⟨_, rfl⟩
  obtain ⟨cy, hcy⟩ : ∃ c, c = c0 - ws.toNat := ⟨_, rfl⟩
  have hlY : y.length = (wrap64 t1).toNat - ws.toNat := by rw [hy, List.length_drop, List.length_take]; omega
  rw [← hAy, ← hcy, ← hlY] at hcutY0
  have hCY2 : Kd.C (Kd.int .u8) w Ay y.length y := by rw [hAy, hy]; exact hCY
  have HRY := Aside0.mk hCY2
  have HCY := Aside0.mk (show y.length ≤ cy by rw [hcy, hlY]; have := HC0.out; omega)
  have HCL := Aside0.mk hcl
  have HY := Aside0.mk hy
  clear hcl hwa hal hCY hCY2 hAy hcy hlY hy
  have HMAY := Aside0.mk hn7
  have HN3 := Aside0.mk hn3
  have HN4 := Aside0.mk hn4
  have HN5 := Aside0.mk hn5
  have HN6 := Aside0.mk hn6
  clear hn3 hn4 hn5 hn6 hn7
  have hwsr := hws.symm
  clear hws hys hlS hCS hi0 hsz h0w hwl HYS
  go_enter Try.func16, Try.ntmps16
  go_wp2_with (first | ((with_reducible refine gate_dst (N := 1) rfl ?_); refine box_event ?hg (N := 1) ?hd (cs := #[.slice (some ad) l0.length c0]) (t := 24) ?hr ?_; (case hd => rfl); (case hg => rfl); (case hr => first | (go_simp; done) | (go_simp; rfl)); intro pb hg0 w0 hbox0 hb0; have HPB0 := Aside0.mk hbox0; have HB0 := Aside0.mk hb0; clear hg0 hbox0 hb0) | ((with_reducible refine gate_dst (N := 2) rfl ?_); refine box_event ?hg (N := 2) ?hd (cs := #[.int .u32 0, .int .u32 0, .int .u8 0, .int .u8 0, .int .u16 0, .bool false, .bool false, .int .i64 0, .slice none 0 0]) (t := 26) ?hr ?_; (case hd => rfl); (case hg => rfl); (case hr => first | (go_simp; done) | (go_simp; rfl)); intro gb hg w1 hbox hb; have HPB := Aside0.mk (blk_below HPB0.out hb); have BK := Aside0.mk hbox; have HGB := Aside0.mk (show w.heap.size ≤ gb by rw [hg]; exact HB0.out.size); have HB := Aside0.mk (HB0.out.trans (hb.mono HB0.out.size)); clear hg hbox hb HPB0 HB0; have hcpb : w1.cell? ⟨pb, 0, none⟩ = some (.slice (some ad) l0.length c0) := (blk_cell HPB.out 0).trans rfl; have hc0' := (HB.out.cell (World.block_lt_of_cell? w _ HX0.out)).trans HX0.out; obtain ⟨hcza_0, hcza_1, hcza_2, hcza_3, hcza_4, hcza_5, hcza_6, hcza_7, hcza_8⟩ := blk9 BK.out; obtain ⟨hfza_0, hfza_1, hfza_2, hfza_3, hfza_4, hfza_5, hfza_6, hfza_7, hfza_8⟩ := frz9 BK.out) | (go_at_call 37; (with_reducible refine (ipnum_calls k pb _ _ l0 2 2 t1 _ _ (by (with_reducible repeat (first | refine blk_drewN ?_ _)); exact HPB.out) (Kd.C_below HR.out (by (with_reducible repeat (first | apply pw_below_drewN)); exact HB.out)) HC0.out HN1.out).mono ?_); rintro e w' ⟨rfl, ⟨nd, rfl⟩⟩) | (go_at_call 37; (with_reducible refine (ipnum_calls k pb _ _ l0 6 2 t3 _ _ (by (with_reducible repeat (first | refine blk_drewN ?_ _)); exact HPB.out) (Kd.C_below HR.out (by (with_reducible repeat (first | apply pw_below_drewN)); exact HB.out)) HC0.out HN3.out).mono ?_); rintro e w' ⟨rfl, ⟨nd, rfl⟩⟩) | (go_at_call 33; (with_reducible refine (sums_Net.calls k _ _ ys t2 _ (Kd.C_below HRS.out (by (with_reducible repeat (first | apply pw_below_drewN)); exact HB.out)) HCS.out HNET.out).mono ?_); rintro e w' ⟨rfl, ⟨nd, rfl⟩⟩))
  generalize hwd0 : World.drewN w1 _ = wq
  have n0_ := Aside0.mk (blk_drew (ipt_blk hwd0 BK.out))
  have n1_ := Aside0.mk (blk_drew (ipt_blk hwd0 HPB.out))
  have n2_ := Aside0.mk (below_drew1 (ipt_below hwd0 HB.out))
  clear BK HPB HB
  have BK := n0_
  have HPB := n1_
  have HB := n2_
  clear n0_ n1_ n2_
  clear hwd0 hfza_0 hfza_1 hfza_2 hfza_3 hfza_4 hfza_5 hfza_6 hfza_7 hfza_8 hcza_0 hcza_1 hcza_2 hcza_3 hcza_4 hcza_5 hcza_6 hcza_7 hcza_8 hcpb hc0'
  refine start_ (n := 32) (S := fun w' => w'.cell? ⟨pb, 0, none⟩ = some (.slice (some ad) l0.length c0) ∧ w'.cell? ⟨ad.block, ad.off + 9, none⟩ = some (.int .u8 (rd l0 9)) ∧ w'.cell? ⟨ad.block, ad.off + 8, none⟩ = some (.int .u8 (rd l0 8))) (ds := [31]) #[false, false, false, false, false, false, false, false, false, false, false, false, false, false, false, false, false, false, false, false, false, false, false, false, false, false, false, false, false, false, false, false] (by kernel_rfl) rfl rfl ⟨(blk_cell HPB.out 0).trans rfl, (HB.out.cell (World.block_lt_of_cell? w _ HX9.out)).trans HX9.out, (HB.out.cell (World.block_lt_of_cell? w _ HX8.out)).trans HX8.out⟩ (fun hHeld => ?_)
  generalize hwd : World.drew _ = wd at BK HPB HB hHeld ⊢
  clear hwd
  refine pure_ (i := 0) (N := some 60) (v := ?_) (a' := ?_) #[true, false, false, false, false, false, false, false, false, false, false, false, false, false, false, false, false, false, false, false, false, false, false, false, false, false, false, false, false, false, false, false] rfl rfl (by kernel_rfl) (fun _ _ _ h => h) (Or.inl ⟨by rfl, ?_⟩) ?_ ?_
  rotate_left
  · intro w'
    go_simp
    with_reducible rfl
  rotate_left
  · simp only [Act.put, List.setIfInBounds_toArray, List.set_cons_zero, List.set_cons_succ, i64_w, i32_w]
    rfl
  refine pure_ (i := 3) (N := some 63) (v := ?_) (a' := ?_) #[true, false, false, true, false, false, false, false, false, false, false, false, false, false, false, false, false, false, false, false, false, false, false, false, false, false, false, false, false, false, false, false] rfl rfl (by kernel_rfl) (fun _ _ _ h => h) (Or.inl ⟨by rfl, ?_⟩) ?_ ?_
  rotate_left
  · intro w'
    go_simp
    with_reducible rfl
  rotate_left
  · simp only [Act.put, List.setIfInBounds_toArray, List.set_cons_zero, List.set_cons_succ, i64_w, i32_w]
    rfl
  refine pure_ (i := 12) (N := some 72) (v := ?_) (a' := ?_) #[true, false, false, true, false, false, false, false, false, false, false, false, true, false, false, false, false, false, false, false, false, false, false, false, false, false, false, false, false, false, false, false] rfl rfl (by kernel_rfl) (fun _ _ _ h => h) (Or.inl ⟨by rfl, ?_⟩) ?_ ?_
  rotate_left
  · intro w'
    go_simp
    with_reducible rfl
  rotate_left
  · simp only [Act.put, List.setIfInBounds_toArray, List.set_cons_zero, List.set_cons_succ, i64_w, i32_w]
    rfl
  refine pure_ (i := 15) (N := some 75) (v := ?_) (a' := ?_) #[true, false, false, true, false, false, false, false, false, false, false, false, true, false, false, true, false, false, false, false, false, false, false, false, false, false, false, false, false, false, false, false] rfl rfl (by kernel_rfl) (fun _ _ _ h => h) (Or.inl ⟨by rfl, ?_⟩) ?_ ?_
  rotate_left
  · intro w'
    go_simp
    with_reducible rfl
  rotate_left
  · simp only [Act.put, List.setIfInBounds_toArray, List.set_cons_zero, List.set_cons_succ, i64_w, i32_w]
    rfl
  refine pure_ (i := 16) (N := some 76) (v := ?_) (a' := ?_) #[true, false, false, true, false, false, false, false, false, false, false, false, true, false, false, true, true, false, false, false, false, false, false, false, false, false, false, false, false, false, false, false] rfl rfl (by kernel_rfl) (fun _ _ _ h => h) (Or.inl ⟨by rfl, ?_⟩) ?_ ?_
  rotate_left
  · intro w'
    go_simp
    with_reducible rfl
  rotate_left
  · simp only [Act.put, List.setIfInBounds_toArray, List.set_cons_zero, List.set_cons_succ, i64_w, i32_w]
    rfl
  refine pure_ (i := 17) (N := some 77) (v := ?_) (a' := ?_) #[true, false, false, true, false, false, false, false, false, false, false, false, true, false, false, true, true, true, false, false, false, false, false, false, false, false, false, false, false, false, false, false] rfl rfl (by kernel_rfl) (fun _ _ _ h => h) (Or.inl ⟨by rfl, ?_⟩) ?_ ?_
  rotate_left
  · intro w'
    go_simp
    with_reducible rfl
  rotate_left
  · simp only [Act.put, List.setIfInBounds_toArray, List.set_cons_zero, List.set_cons_succ, i64_w, i32_w]
    rfl
  refine pure_ (i := 18) (N := some 78) (v := ?_) (a' := ?_) #[true, false, false, true, false, false, false, false, false, false, false, false, true, false, false, true, true, true, true, false, false, false, false, false, false, false, false, false, false, false, false, false] rfl rfl (by kernel_rfl) (fun _ _ _ h => h) (Or.inl ⟨by rfl, ?_⟩) ?_ ?_
  rotate_left
  · intro w'
    go_simp
    with_reducible rfl
  rotate_left
  · simp only [Act.put, List.setIfInBounds_toArray, List.set_cons_zero, List.set_cons_succ, i64_w, i32_w]
    rfl
  refine pure_ (i := 19) (N := some 79) (v := ?_) (a' := ?_) #[true, false, false, true, false, false, false, false, false, false, false, false, true, false, false, true, true, true, true, true, false, false, false, false, false, false, false, false, false, false, false, false] rfl rfl (by kernel_rfl) (fun _ _ _ h => h) (Or.inl ⟨by rfl, ?_⟩) ?_ ?_
  rotate_left
  · intro w'
    go_simp
    with_reducible rfl
  rotate_left
  · simp only [Act.put, List.setIfInBounds_toArray, List.set_cons_zero, List.set_cons_succ, i64_w, i32_w]
    rfl
  refine pure_ (i := 20) (N := some 80) (v := ?_) (a' := ?_) #[true, false, false, true, false, false, false, false, false, false, false, false, true, false, false, true, true, true, true, true, true, false, false, false, false, false, false, false, false, false, false, false] rfl rfl (by kernel_rfl) (fun _ _ _ h => h) (Or.inl ⟨by rfl, ?_⟩) ?_ ?_
  rotate_left
  · intro w'
    go_simp
    with_reducible rfl
  rotate_left
  · simp only [Act.put, List.setIfInBounds_toArray, List.set_cons_zero, List.set_cons_succ, i64_w, i32_w]
    rfl
  refine pure_ (i := 21) (N := some 81) (v := ?_) (a' := ?_) #[true, false, false, true, false, false, false, false, false, false, false, false, true, false, false, true, true, true, true, true, true, true, false, false, false, false, false, false, false, false, false, false] rfl rfl (by kernel_rfl) (fun _ _ _ h => h) (Or.inl ⟨by rfl, ?_⟩) ?_ ?_
  rotate_left
  · intro w'
    go_simp
    with_reducible rfl
  rotate_left
  · simp only [Act.put, List.setIfInBounds_toArray, List.set_cons_zero, List.set_cons_succ, i64_w, i32_w]
    rfl
  refine pure_ (i := 22) (N := some 82) (v := ?_) (a' := ?_) #[true, false, false, true, false, false, false, false, false, false, false, false, true, false, false, true, true, true, true, true, true, true, true, false, false, false, false, false, false, false, false, false] rfl rfl (by kernel_rfl) (fun _ _ _ h => h) (Or.inl ⟨by rfl, ?_⟩) ?_ ?_
  rotate_left
  · intro w'
    go_simp
    with_reducible rfl
  rotate_left
  · simp only [Act.put, List.setIfInBounds_toArray, List.set_cons_zero, List.set_cons_succ, i64_w, i32_w]
    rfl
  refine pure_ (i := 23) (N := some 83) (v := ?_) (a' := ?_) #[true, false, false, true, false, false, false, false, false, false, false, false, true, false, false, true, true, true, true, true, true, true, true, true, false, false, false, false, false, false, false, false] rfl rfl (by kernel_rfl) (fun _ _ _ h => h) (Or.inl ⟨by rfl, ?_⟩) ?_ ?_
  rotate_left
  · intro w'
    go_simp
    with_reducible rfl
  rotate_left
  · simp only [Act.put, List.setIfInBounds_toArray, List.set_cons_zero, List.set_cons_succ, i64_w, i32_w]
    rfl
  refine pure_ (i := 25) (N := some 85) (v := ?_) (a' := ?_) #[true, false, false, true, false, false, false, false, false, false, false, false, true, false, false, true, true, true, true, true, true, true, true, true, false, true, false, false, false, false, false, false] rfl rfl (by kernel_rfl) (fun _ _ _ h => h) (Or.inl ⟨by rfl, ?_⟩) ?_ ?_
  rotate_left
  · intro w'
    go_simp
    with_reducible rfl
  rotate_left
  · simp only [Act.put, List.setIfInBounds_toArray, List.set_cons_zero, List.set_cons_succ, i64_w, i32_w]
    rfl
  refine pure_ (i := 26) (N := some 86) (v := ?_) (a' := ?_) #[true, false, false, true, false, false, false, false, false, false, false, false, true, false, false, true, true, true, true, true, true, true, true, true, false, true, true, false, false, false, false, false] rfl rfl (by kernel_rfl) (fun _ _ _ h => h) (Or.inl ⟨by rfl, ?_⟩) ?_ ?_
  rotate_left
  · intro w'
    go_simp
    with_reducible rfl
  rotate_left
  · simp only [Act.put, List.setIfInBounds_toArray, List.set_cons_zero, List.set_cons_succ, i64_w, i32_w]
    rfl
  refine take_ (i := 6) (N := some 66) (v := ?_) (a' := ?_) #[true, false, false, true, false, false, true, false, false, false, false, false, true, false, false, true, true, true, true, true, true, true, true, true, false, true, true, false, false, false, false, false] rfl rfl (by kernel_rfl) (fun _ _ _ h => h) (Or.inl ⟨by rfl, ?_⟩) hHeld ?_ ?_
  rotate_left
  · rintro w' ⟨s0, s1, s2⟩
    go_simp
    with_reducible rfl
  rotate_left
  · simp only [Act.put, List.setIfInBounds_toArray, List.set_cons_zero, List.set_cons_succ, i64_w, i32_w]
    rfl
  refine pure_ (i := 7) (N := some 67) (v := ?_) (a' := ?_) #[true, false, false, true, false, false, true, true, false, false, false, false, true, false, false, true, true, true, true, true, true, true, true, true, false, true, true, false, false, false, false, false] rfl rfl (by kernel_rfl) (fun _ _ _ h => h) (Or.inl ⟨by rfl, ?_⟩) ?_ ?_
  rotate_left
  · intro w'
    go_simp
    with_reducible rfl
  rotate_left
  · simp only [Act.put, List.setIfInBounds_toArray, List.set_cons_zero, List.set_cons_succ, i64_w, i32_w]
    rfl
  refine take_ (i := 8) (N := some 68) (v := ?_) (a' := ?_) #[true, false, false, true, false, false, true, true, true, false, false, false, true, false, false, true, true, true, true, true, true, true, true, true, false, true, true, false, false, false, false, false] rfl rfl (by kernel_rfl) (fun _ _ _ h => h) (Or.inl ⟨by rfl, ?_⟩) hHeld ?_ ?_
  rotate_left
  · rintro w' ⟨s0, s1, s2⟩
    go_simp
    with_reducible rfl
  rotate_left
  · simp only [Act.put, List.setIfInBounds_toArray, List.set_cons_zero, List.set_cons_succ, i64_w, i32_w]
    rfl
  refine take_ (i := 9) (N := some 69) (v := ?_) (a' := ?_) #[true, false, false, true, false, false, true, true, true, true, false, false, true, false, false, true, true, true, true, true, true, true, true, true, false, true, true, false, false, false, false, false] rfl rfl (by kernel_rfl) (fun _ _ _ h => h) (Or.inl ⟨by rfl, ?_⟩) hHeld ?_ ?_
  rotate_left
  · rintro w' ⟨s0, s1, s2⟩
    go_simp
    with_reducible rfl
  rotate_left
  · simp only [Act.put, List.setIfInBounds_toArray, List.set_cons_zero, List.set_cons_succ, i64_w, i32_w]
    rfl
  refine pure_ (i := 10) (N := some 70) (v := ?_) (a' := ?_) #[true, false, false, true, false, false, true, true, true, true, true, false, true, false, false, true, true, true, true, true, true, true, true, true, false, true, true, false, false, false, false, false] rfl rfl (by kernel_rfl) (fun _ _ _ h => h) (Or.inl ⟨by rfl, ?_⟩) ?_ ?_
  rotate_left
  · intro w'
    go_simp
    with_reducible rfl
  rotate_left
  · simp only [Act.put, List.setIfInBounds_toArray, List.set_cons_zero, List.set_cons_succ, i64_w, i32_w]
    rfl
  refine take_ (i := 11) (N := some 71) (v := ?_) (a' := ?_) #[true, false, false, true, false, false, true, true, true, true, true, true, true, false, false, true, true, true, true, true, true, true, true, true, false, true, true, false, false, false, false, false] rfl rfl (by kernel_rfl) (fun _ _ _ h => h) (Or.inl ⟨by rfl, ?_⟩) hHeld ?_ ?_
  rotate_left
  · rintro w' ⟨s0, s1, s2⟩
    go_simp
    with_reducible rfl
  rotate_left
  · simp only [Act.put, List.setIfInBounds_toArray, List.set_cons_zero, List.set_cons_succ, i64_w, i32_w]
    rfl
  refine take_ (i := 24) (N := some 84) (v := ?_) (a' := ?_) #[true, false, false, true, false, false, true, true, true, true, true, true, true, false, false, true, true, true, true, true, true, true, true, true, true, true, true, false, false, false, false, false] rfl rfl (by kernel_rfl) (fun _ _ _ h => h) (Or.inl ⟨by rfl, ?_⟩) hHeld ?_ ?_
  rotate_left
  · rintro w' ⟨s0, s1, s2⟩
    go_simp
    with_reducible rfl
  rotate_left
  · simp only [Act.put, List.setIfInBounds_toArray, List.set_cons_zero, List.set_cons_succ, i64_w, i32_w]
    rfl
  refine pure_ (i := 27) (N := some 87) (v := ?_) (a' := ?_) #[true, false, false, true, false, false, true, true, true, true, true, true, true, false, false, true, true, true, true, true, true, true, true, true, true, true, true, true, false, false, false, false] rfl rfl (by kernel_rfl) (fun _ _ _ h => h) (Or.inl ⟨by rfl, ?_⟩) ?_ ?_
  rotate_left
  · intro w'
    go_simp
    with_reducible rfl
  rotate_left
  · simp only [Act.put, List.setIfInBounds_toArray, List.set_cons_zero, List.set_cons_succ, i64_w, i32_w]
    rfl
  refine join_ (σ := Nat × Option Addr × Nat) 1 #[true, true, true, true, true, true, true, true, true, true, true, true, true, true, true, true, true, true, true, true, true, true, true, true, true, true, true, true, true, true, true, false] (fun s => [(61, .int .i64 (wrap64 t4)), (64, .int .i64 (wrap64 t5)), (73, .int .i64 (wrap64 t6)), (88, .slice s.2.1 y.length s.2.2), (8, .pointer (some ⟨s.1, 0, none⟩)), (62, .int .u32 (IntKind.u32.wrap (wrap64 t4))), (65, .int .u32 (IntKind.u32.wrap (wrap64 t5))), (74, .int .u16 (IntKind.u16.wrap (wrap64 t6))), (89, .agg #[.int .u32 (IntKind.u32.wrap (wrap64 t4)), .int .u32 (IntKind.u32.wrap (wrap64 t5)), .int .u8 (rd l0 9), .int .u8 (rd l0 8), .int .u16 (IntKind.u16.wrap (wrap64 t6)), .bool (Go.bits .and .i64 (wrap64 t3) 16384 != 0), .bool (Go.bits .and .i64 (wrap64 t3) 8192 != 0), .int .i64 (wrap64 (Go.bits .and .i64 (wrap64 t3) 8191 * 8)), .slice s.2.1 y.length s.2.2])]) (fun s w' => (w'.cell? ⟨pb, 0, none⟩ = some (.slice (some ad) l0.length c0) ∧ w'.cell? ⟨ad.block, ad.off + 9, none⟩ = some (.int .u8 (rd l0 9)) ∧ w'.cell? ⟨ad.block, ad.off + 8, none⟩ = some (.int .u8 (rd l0 8))) ∧ w.heap.size ≤ s.1 ∧ gb ≠ s.1 ∧ w'.heap[s.1]? = some (.cells #[.int .u32 0, .int .u32 0, .int .u8 0, .int .u8 0, .int .u16 0, .bool false, .bool false, .int .i64 0, .slice none 0 0] 26 (0, 0)) ∧ w'.heap[gb]? = some (.cells #[.int .u32 0, .int .u32 0, .int .u8 0, .int .u8 0, .int .u16 0, .bool false, .bool false, .int .i64 0, .slice none 0 0] 26 (0, 0)) ∧ w'.heap[pb]? = some (.cells #[.slice (some ad) l0.length c0] 24 (0, 0)) ∧ Kd.R (Kd.int .u8) 5 w' w.heap.size (fun _ => True) (.slice s.2.1 y.length s.2.2) y ∧ Below w.heap.size w w') ?_ ?_
  rotate_left
  · intro hCont
    refine two_ (i := 1) (j := 30) (Ni := some 61) (Nj := some 8) #[true, true, false, true, false, false, true, true, true, true, true, true, true, false, false, true, true, true, true, true, true, true, true, true, true, true, true, true, false, false, false, false] #[true, false, false, true, false, false, true, true, true, true, true, true, true, false, false, true, true, true, true, true, true, true, true, true, true, true, true, true, false, false, true, false] rfl rfl rfl rfl (by kernel_rfl) (by decide) (by decide) (fun K hK => ?_) (fun K hK => ?_)
    · skip
      refine goesC_ Try.func37 (by kernel_rfl) rfl #[.int .i64 12, .int .i64 4, .pointer (some ⟨pb, 0, none⟩)] (by rfl) rfl rfl (by rfl) (by simp [Act.eval]) ?_
      with_reducible refine (ipnum_calls k pb _ _ l0 12 4 t4 _ _ HPB.out (Kd.C_below HR.out HB.out) HC0.out HN4.out).mono ?_
      rintro e wn ⟨rfl, hd⟩
      refine ⟨_, rfl, ?_⟩
      have hb := hd.below
      have n0_ := Aside0.mk (blk_below BK.out hb)
      have n1_ := Aside0.mk (blk_below HPB.out hb)
      have n2_ := Aside0.mk (HB.out.trans (hb.mono HB.out.size))
      clear BK HPB HB
      have BK := n0_
      have HPB := n1_
      have HB := n2_
      clear n0_ n1_ n2_
      clear hd hb
      refine hK.out _ _ ⟨(blk_cell HPB.out 0).trans rfl, (HB.out.cell (World.block_lt_of_cell? w _ HX9.out)).trans HX9.out, (HB.out.cell (World.block_lt_of_cell? w _ HX8.out)).trans HX8.out⟩ (fun hHeld => ?_)
      clear hK K
      refine norm_ (a' := ?_) ?_ ?_
      rotate_left
      · show Act.put _ (some 61) _ = _
        simp only [Act.put, List.setIfInBounds_toArray, List.set_cons_zero, List.set_cons_succ, i64_w, i32_w]
        rfl
      refine pure_ (i := 2) (N := some 62) (v := ?_) (a' := ?_) #[true, true, true, true, false, false, true, true, true, true, true, true, true, false, false, true, true, true, true, true, true, true, true, true, true, true, true, true, false, false, false, false] rfl rfl (by kernel_rfl) (fun _ _ _ h => h) (Or.inl ⟨by rfl, ?_⟩) ?_ ?_
      rotate_left
      · intro w'
        go_simp
        with_reducible rfl
      rotate_left
      · simp only [Act.put, List.setIfInBounds_toArray, List.set_cons_zero, List.set_cons_succ, i64_w, i32_w]
        rfl
      refine two_ (i := 4) (j := 30) (Ni := some 64) (Nj := some 8) #[true, true, true, true, true, false, true, true, true, true, true, true, true, false, false, true, true, true, true, true, true, true, true, true, true, true, true, true, false, false, false, false] #[true, true, true, true, false, false, true, true, true, true, true, true, true, false, false, true, true, true, true, true, true, true, true, true, true, true, true, true, false, false, true, false] rfl rfl rfl rfl (by kernel_rfl) (by decide) (by decide) (fun K hK => ?_) (fun K hK => ?_)
      · skip
        refine goesC_ Try.func37 (by kernel_rfl) rfl #[.int .i64 16, .int .i64 4, .pointer (some ⟨pb, 0, none⟩)] (by rfl) rfl rfl (by rfl) (by simp [Act.eval]) ?_
        with_reducible refine (ipnum_calls k pb _ _ l0 16 4 t5 _ _ HPB.out (Kd.C_below HR.out HB.out) HC0.out HN5.out).mono ?_
        rintro e wn ⟨rfl, hd⟩
        refine ⟨_, rfl, ?_⟩
        have hb := hd.below
        have n0_ := Aside0.mk (blk_below BK.out hb)
        have n1_ := Aside0.mk (blk_below HPB.out hb)
        have n2_ := Aside0.mk (HB.out.trans (hb.mono HB.out.size))
        clear BK HPB HB
        have BK := n0_
        have HPB := n1_
        have HB := n2_
        clear n0_ n1_ n2_
        clear hd hb
        refine hK.out _ _ ⟨(blk_cell HPB.out 0).trans rfl, (HB.out.cell (World.block_lt_of_cell? w _ HX9.out)).trans HX9.out, (HB.out.cell (World.block_lt_of_cell? w _ HX8.out)).trans HX8.out⟩ (fun hHeld => ?_)
        clear hK K
        refine norm_ (a' := ?_) ?_ ?_
        rotate_left
        · show Act.put _ (some 64) _ = _
          simp only [Act.put, List.setIfInBounds_toArray, List.set_cons_zero, List.set_cons_succ, i64_w, i32_w]
          rfl
        refine pure_ (i := 5) (N := some 65) (v := ?_) (a' := ?_) #[true, true, true, true, true, true, true, true, true, true, true, true, true, false, false, true, true, true, true, true, true, true, true, true, true, true, true, true, false, false, false, false] rfl rfl (by kernel_rfl) (fun _ _ _ h => h) (Or.inl ⟨by rfl, ?_⟩) ?_ ?_
        rotate_left
        · intro w'
          go_simp
          with_reducible rfl
        rotate_left
        · simp only [Act.put, List.setIfInBounds_toArray, List.set_cons_zero, List.set_cons_succ, i64_w, i32_w]
          rfl
        refine two_ (i := 13) (j := 30) (Ni := some 73) (Nj := some 8) #[true, true, true, true, true, true, true, true, true, true, true, true, true, true, false, true, true, true, true, true, true, true, true, true, true, true, true, true, false, false, false, false] #[true, true, true, true, true, true, true, true, true, true, true, true, true, false, false, true, true, true, true, true, true, true, true, true, true, true, true, true, false, false, true, false] rfl rfl rfl rfl (by kernel_rfl) (by decide) (by decide) (fun K hK => ?_) (fun K hK => ?_)
        · skip
          refine goesC_ Try.func37 (by kernel_rfl) rfl #[.int .i64 4, .int .i64 2, .pointer (some ⟨pb, 0, none⟩)] (by rfl) rfl rfl (by rfl) (by simp [Act.eval]) ?_
          with_reducible refine (ipnum_calls k pb _ _ l0 4 2 t6 _ _ HPB.out (Kd.C_below HR.out HB.out) HC0.out HN6.out).mono ?_
          rintro e wn ⟨rfl, hd⟩
          refine ⟨_, rfl, ?_⟩
          have hb := hd.below
          have n0_ := Aside0.mk (blk_below BK.out hb)
          have n1_ := Aside0.mk (blk_below HPB.out hb)
          have n2_ := Aside0.mk (HB.out.trans (hb.mono HB.out.size))
          clear BK HPB HB
          have BK := n0_
          have HPB := n1_
          have HB := n2_
          clear n0_ n1_ n2_
          clear hd hb
          refine hK.out _ _ ⟨(blk_cell HPB.out 0).trans rfl, (HB.out.cell (World.block_lt_of_cell? w _ HX9.out)).trans HX9.out, (HB.out.cell (World.block_lt_of_cell? w _ HX8.out)).trans HX8.out⟩ (fun hHeld => ?_)
          clear hK K
          refine norm_ (a' := ?_) ?_ ?_
          rotate_left
          · show Act.put _ (some 73) _ = _
            simp only [Act.put, List.setIfInBounds_toArray, List.set_cons_zero, List.set_cons_succ, i64_w, i32_w]
            rfl
          refine pure_ (i := 14) (N := some 74) (v := ?_) (a' := ?_) #[true, true, true, true, true, true, true, true, true, true, true, true, true, true, true, true, true, true, true, true, true, true, true, true, true, true, true, true, false, false, false, false] rfl rfl (by kernel_rfl) (fun _ _ _ h => h) (Or.inl ⟨by rfl, ?_⟩) ?_ ?_
          rotate_left
          · intro w'
            go_simp
            with_reducible rfl
          rotate_left
          · simp only [Act.put, List.setIfInBounds_toArray, List.set_cons_zero, List.set_cons_succ, i64_w, i32_w]
            rfl
          refine two_ (i := 28) (j := 30) (Ni := some 88) (Nj := some 8) #[true, true, true, true, true, true, true, true, true, true, true, true, true, true, true, true, true, true, true, true, true, true, true, true, true, true, true, true, true, false, false, false] #[true, true, true, true, true, true, true, true, true, true, true, true, true, true, true, true, true, true, true, true, true, true, true, true, true, true, true, true, false, false, true, false] rfl rfl rfl rfl (by kernel_rfl) (by decide) (by decide) (fun K hK => ?_) (fun K hK => ?_)
          · skip
            refine goes_ Try.func39 (by kernel_rfl) rfl #[.slice Ay y.length cy] (by rfl) rfl rfl (by (try simp only [List.map_toArray, List.map_cons, List.map_nil]); first | done | rfl) ?_
            with_reducible refine (slices_Clone_byte_byte.calls _ _ y y _ (Kd.C_below HRY.out HB.out) HCY.out HCL.out).mono ?_
            rintro e wc ⟨vb, rfl, hv, hb⟩
            obtain ⟨Av, cv, ev⟩ := Kd.R_slice hv
            subst ev
            refine ⟨_, rfl, ?_⟩
            have n0_ := Aside0.mk (Kd.R_lower hv HB.out.size)
            have n1_ := Aside0.mk (blk_below BK.out hb)
            have n2_ := Aside0.mk (blk_below HPB.out hb)
            have n3_ := Aside0.mk (HB.out.trans (hb.mono HB.out.size))
            clear BK HPB HB
            have VR := n0_
            have BK := n1_
            have HPB := n2_
            have HB := n3_
            clear n0_ n1_ n2_ n3_
            clear hv hb
            refine hK.out _ _ ⟨(blk_cell HPB.out 0).trans rfl, (HB.out.cell (World.block_lt_of_cell? w _ HX9.out)).trans HX9.out, (HB.out.cell (World.block_lt_of_cell? w _ HX8.out)).trans HX8.out⟩ (fun hHeld => ?_)
            clear hK K
            refine norm_ (a' := ?_) ?_ ?_
            rotate_left
            · show Act.put _ (some 88) _ = _
              simp only [Act.put, List.setIfInBounds_toArray, List.set_cons_zero, List.set_cons_succ, i64_w, i32_w]
              rfl
            refine pure_ (i := 29) (N := some 89) (v := ?_) (a' := ?_) #[true, true, true, true, true, true, true, true, true, true, true, true, true, true, true, true, true, true, true, true, true, true, true, true, true, true, true, true, true, true, false, false] rfl rfl (by kernel_rfl) (fun _ _ _ h => h) (Or.inl ⟨by rfl, ?_⟩) ?_ ?_
            rotate_left
            · intro w'
              go_simp
              with_reducible rfl
            rotate_left
            · simp only [Act.put, List.setIfInBounds_toArray, List.set_cons_zero, List.set_cons_succ, i64_w, i32_w]
              rfl
            refine one_ (i := 30) (N := some 8) #[true, true, true, true, true, true, true, true, true, true, true, true, true, true, true, true, true, true, true, true, true, true, true, true, true, true, true, true, true, true, true, false] rfl rfl (by kernel_rfl) (by decide) (fun K hK => ?_)
            refine boxR_ (cs := #[.int .u32 0, .int .u32 0, .int .u8 0, .int .u8 0, .int .u16 0, .bool false, .bool false, .int .i64 0, .slice none 0 0]) (t := 26) (by rfl) rfl (by first | (go_simp; done) | (go_simp; rfl)) ?_
            intro ga wa hgg hbox hb
            have n0_ := Aside0.mk (show w.heap.size ≤ ga by rw [hgg]; exact HB.out.size)
            have n1_ := Aside0.mk (show gb ≠ ga by have := blk_lt BK.out; omega)
            have n2_ := Aside0.mk (hbox)
            have n3_ := Aside0.mk (blk_below BK.out hb)
            have n4_ := Aside0.mk (blk_below HPB.out hb)
            have n5_ := Aside0.mk (Kd.R_below VR.out hb)
            have n6_ := Aside0.mk (HB.out.trans (hb.mono HB.out.size))
            clear BK HPB VR HB
            have HGA := n0_
            have HNE := n1_
            have BA := n2_
            have BK := n3_
            have HPB := n4_
            have VR := n5_
            have HB := n6_
            clear n0_ n1_ n2_ n3_ n4_ n5_ n6_
            clear hgg hbox hb
            refine hK.out _ _ ⟨(blk_cell HPB.out 0).trans rfl, (HB.out.cell (World.block_lt_of_cell? w _ HX9.out)).trans HX9.out, (HB.out.cell (World.block_lt_of_cell? w _ HX8.out)).trans HX8.out⟩ (fun hHeld => ?_)
            clear hK K
            refine norm_ (a' := ?_) ?_ ?_
            rotate_left
            · show Act.put _ (some 8) _ = _
              simp only [Act.put, List.setIfInBounds_toArray, List.set_cons_zero, List.set_cons_succ, i64_w, i32_w]
              rfl
            exact norm_ (by simp only [putAll, Act.put, List.setIfInBounds_toArray, List.set_cons_zero, List.set_cons_succ]) (hCont (ga, Av, cv) _ ⟨⟨(blk_cell HPB.out 0).trans rfl, (HB.out.cell (World.block_lt_of_cell? w _ HX9.out)).trans HX9.out, (HB.out.cell (World.block_lt_of_cell? w _ HX8.out)).trans HX8.out⟩, HGA.out, HNE.out, BA.out, BK.out, HPB.out, VR.out, HB.out⟩)
          · skip
            refine boxR_ (cs := #[.int .u32 0, .int .u32 0, .int .u8 0, .int .u8 0, .int .u16 0, .bool false, .bool false, .int .i64 0, .slice none 0 0]) (t := 26) (by rfl) rfl (by first | (go_simp; done) | (go_simp; rfl)) ?_
            intro ga wa hgg hbox hb
            have n0_ := Aside0.mk (show w.heap.size ≤ ga by rw [hgg]; exact HB.out.size)
            have n1_ := Aside0.mk (show gb ≠ ga by have := blk_lt BK.out; omega)
            have n2_ := Aside0.mk (hbox)
            have n3_ := Aside0.mk (blk_below BK.out hb)
            have n4_ := Aside0.mk (blk_below HPB.out hb)
            have n5_ := Aside0.mk (HB.out.trans (hb.mono HB.out.size))
            clear BK HPB HB
            have HGA := n0_
            have HNE := n1_
            have BA := n2_
            have BK := n3_
            have HPB := n4_
            have HB := n5_
            clear n0_ n1_ n2_ n3_ n4_ n5_
            clear hgg hbox hb
            refine hK.out _ _ ⟨(blk_cell HPB.out 0).trans rfl, (HB.out.cell (World.block_lt_of_cell? w _ HX9.out)).trans HX9.out, (HB.out.cell (World.block_lt_of_cell? w _ HX8.out)).trans HX8.out⟩ (fun hHeld => ?_)
            clear hK K
            refine norm_ (a' := ?_) ?_ ?_
            rotate_left
            · show Act.put _ (some 8) _ = _
              simp only [Act.put, List.setIfInBounds_toArray, List.set_cons_zero, List.set_cons_succ, i64_w, i32_w]
              rfl
            refine one_ (i := 28) (N := some 88) #[true, true, true, true, true, true, true, true, true, true, true, true, true, true, true, true, true, true, true, true, true, true, true, true, true, true, true, true, true, false, true, false] rfl rfl (by kernel_rfl) (by decide) (fun K hK => ?_)
            refine goes_ Try.func39 (by kernel_rfl) rfl #[.slice Ay y.length cy] (by rfl) rfl rfl (by (try simp only [List.map_toArray, List.map_cons, List.map_nil]); first | done | rfl) ?_
            with_reducible refine (slices_Clone_byte_byte.calls _ _ y y _ (Kd.C_below HRY.out HB.out) HCY.out HCL.out).mono ?_
            rintro e wc ⟨vb, rfl, hv, hb⟩
            obtain ⟨Av, cv, ev⟩ := Kd.R_slice hv
            subst ev
            refine ⟨_, rfl, ?_⟩
            have n0_ := Aside0.mk (Kd.R_lower hv HB.out.size)
            have n1_ := Aside0.mk (blk_below BK.out hb)
            have n2_ := Aside0.mk (blk_below HPB.out hb)
            have n3_ := Aside0.mk (blk_below BA.out hb)
            have n4_ := Aside0.mk (HB.out.trans (hb.mono HB.out.size))
            clear BK HPB BA HB
            have VR := n0_
            have BK := n1_
            have HPB := n2_
            have BA := n3_
            have HB := n4_
            clear n0_ n1_ n2_ n3_ n4_
            clear hv hb
            refine hK.out _ _ ⟨(blk_cell HPB.out 0).trans rfl, (HB.out.cell (World.block_lt_of_cell? w _ HX9.out)).trans HX9.out, (HB.out.cell (World.block_lt_of_cell? w _ HX8.out)).trans HX8.out⟩ (fun hHeld => ?_)
            clear hK K
            refine norm_ (a' := ?_) ?_ ?_
            rotate_left
            · show Act.put _ (some 88) _ = _
              simp only [Act.put, List.setIfInBounds_toArray, List.set_cons_zero, List.set_cons_succ, i64_w, i32_w]
              rfl
            refine pure_ (i := 29) (N := some 89) (v := ?_) (a' := ?_) #[true, true, true, true, true, true, true, true, true, true, true, true, true, true, true, true, true, true, true, true, true, true, true, true, true, true, true, true, true, true, true, false] rfl rfl (by kernel_rfl) (fun _ _ _ h => h) (Or.inl ⟨by rfl, ?_⟩) ?_ ?_
            rotate_left
            · intro w'
              go_simp
              with_reducible rfl
            rotate_left
            · simp only [Act.put, List.setIfInBounds_toArray, List.set_cons_zero, List.set_cons_succ, i64_w, i32_w]
              rfl
            exact norm_ (by simp only [putAll, Act.put, List.setIfInBounds_toArray, List.set_cons_zero, List.set_cons_succ]) (hCont (ga, Av, cv) _ ⟨⟨(blk_cell HPB.out 0).trans rfl, (HB.out.cell (World.block_lt_of_cell? w _ HX9.out)).trans HX9.out, (HB.out.cell (World.block_lt_of_cell? w _ HX8.out)).trans HX8.out⟩, HGA.out, HNE.out, BA.out, BK.out, HPB.out, VR.out, HB.out⟩)
        · skip
          refine boxR_ (cs := #[.int .u32 0, .int .u32 0, .int .u8 0, .int .u8 0, .int .u16 0, .bool false, .bool false, .int .i64 0, .slice none 0 0]) (t := 26) (by rfl) rfl (by first | (go_simp; done) | (go_simp; rfl)) ?_
          intro ga wa hgg hbox hb
          have n0_ := Aside0.mk (show w.heap.size ≤ ga by rw [hgg]; exact HB.out.size)
          have n1_ := Aside0.mk (show gb ≠ ga by have := blk_lt BK.out; omega)
          have n2_ := Aside0.mk (hbox)
          have n3_ := Aside0.mk (blk_below BK.out hb)
          have n4_ := Aside0.mk (blk_below HPB.out hb)
          have n5_ := Aside0.mk (HB.out.trans (hb.mono HB.out.size))
          clear BK HPB HB
          have HGA := n0_
          have HNE := n1_
          have BA := n2_
          have BK := n3_
          have HPB := n4_
          have HB := n5_
          clear n0_ n1_ n2_ n3_ n4_ n5_
          clear hgg hbox hb
          refine hK.out _ _ ⟨(blk_cell HPB.out 0).trans rfl, (HB.out.cell (World.block_lt_of_cell? w _ HX9.out)).trans HX9.out, (HB.out.cell (World.block_lt_of_cell? w _ HX8.out)).trans HX8.out⟩ (fun hHeld => ?_)
          clear hK K
          refine norm_ (a' := ?_) ?_ ?_
          rotate_left
          · show Act.put _ (some 8) _ = _
            simp only [Act.put, List.setIfInBounds_toArray, List.set_cons_zero, List.set_cons_succ, i64_w, i32_w]
            rfl
          refine one_ (i := 13) (N := some 73) #[true, true, true, true, true, true, true, true, true, true, true, true, true, true, false, true, true, true, true, true, true, true, true, true, true, true, true, true, false, false, true, false] rfl rfl (by kernel_rfl) (by decide) (fun K hK => ?_)
          refine goesC_ Try.func37 (by kernel_rfl) rfl #[.int .i64 4, .int .i64 2, .pointer (some ⟨pb, 0, none⟩)] (by rfl) rfl rfl (by rfl) (by simp [Act.eval]) ?_
          with_reducible refine (ipnum_calls k pb _ _ l0 4 2 t6 _ _ HPB.out (Kd.C_below HR.out HB.out) HC0.out HN6.out).mono ?_
          rintro e wn ⟨rfl, hd⟩
          refine ⟨_, rfl, ?_⟩
          have hb := hd.below
          have n0_ := Aside0.mk (blk_below BK.out hb)
          have n1_ := Aside0.mk (blk_below HPB.out hb)
          have n2_ := Aside0.mk (blk_below BA.out hb)
          have n3_ := Aside0.mk (HB.out.trans (hb.mono HB.out.size))
          clear BK HPB BA HB
          have BK := n0_
          have HPB := n1_
          have BA := n2_
          have HB := n3_
          clear n0_ n1_ n2_ n3_
          clear hd hb
          refine hK.out _ _ ⟨(blk_cell HPB.out 0).trans rfl, (HB.out.cell (World.block_lt_of_cell? w _ HX9.out)).trans HX9.out, (HB.out.cell (World.block_lt_of_cell? w _ HX8.out)).trans HX8.out⟩ (fun hHeld => ?_)
          clear hK K
          refine norm_ (a' := ?_) ?_ ?_
          rotate_left
          · show Act.put _ (some 73) _ = _
            simp only [Act.put, List.setIfInBounds_toArray, List.set_cons_zero, List.set_cons_succ, i64_w, i32_w]
            rfl
          refine pure_ (i := 14) (N := some 74) (v := ?_) (a' := ?_) #[true, true, true, true, true, true, true, true, true, true, true, true, true, true, true, true, true, true, true, true, true, true, true, true, true, true, true, true, false, false, true, false] rfl rfl (by kernel_rfl) (fun _ _ _ h => h) (Or.inl ⟨by rfl, ?_⟩) ?_ ?_
          rotate_left
          · intro w'
            go_simp
            with_reducible rfl
          rotate_left
          · simp only [Act.put, List.setIfInBounds_toArray, List.set_cons_zero, List.set_cons_succ, i64_w, i32_w]
            rfl
          refine one_ (i := 28) (N := some 88) #[true, true, true, true, true, true, true, true, true, true, true, true, true, true, true, true, true, true, true, true, true, true, true, true, true, true, true, true, true, false, true, false] rfl rfl (by kernel_rfl) (by decide) (fun K hK => ?_)
          refine goes_ Try.func39 (by kernel_rfl) rfl #[.slice Ay y.length cy] (by rfl) rfl rfl (by (try simp only [List.map_toArray, List.map_cons, List.map_nil]); first | done | rfl) ?_
          with_reducible refine (slices_Clone_byte_byte.calls _ _ y y _ (Kd.C_below HRY.out HB.out) HCY.out HCL.out).mono ?_
          rintro e wc ⟨vb, rfl, hv, hb⟩
          obtain ⟨Av, cv, ev⟩ := Kd.R_slice hv
          subst ev
          refine ⟨_, rfl, ?_⟩
          have n0_ := Aside0.mk (Kd.R_lower hv HB.out.size)
          have n1_ := Aside0.mk (blk_below BK.out hb)
          have n2_ := Aside0.mk (blk_below HPB.out hb)
          have n3_ := Aside0.mk (blk_below BA.out hb)
          have n4_ := Aside0.mk (HB.out.trans (hb.mono HB.out.size))
          clear BK HPB BA HB
          have VR := n0_
          have BK := n1_
          have HPB := n2_
          have BA := n3_
          have HB := n4_
          clear n0_ n1_ n2_ n3_ n4_
          clear hv hb
          refine hK.out _ _ ⟨(blk_cell HPB.out 0).trans rfl, (HB.out.cell (World.block_lt_of_cell? w _ HX9.out)).trans HX9.out, (HB.out.cell (World.block_lt_of_cell? w _ HX8.out)).trans HX8.out⟩ (fun hHeld => ?_)
          clear hK K
          refine norm_ (a' := ?_) ?_ ?_
          rotate_left
          · show Act.put _ (some 88) _ = _
            simp only [Act.put, List.setIfInBounds_toArray, List.set_cons_zero, List.set_cons_succ, i64_w, i32_w]
            rfl
          refine pure_ (i := 29) (N := some 89) (v := ?_) (a' := ?_) #[true, true, true, true, true, true, true, true, true, true, true, true, true, true, true, true, true, true, true, true, true, true, true, true, true, true, true, true, true, true, true, false] rfl rfl (by kernel_rfl) (fun _ _ _ h => h) (Or.inl ⟨by rfl, ?_⟩) ?_ ?_
          rotate_left
          · intro w'
            go_simp
            with_reducible rfl
          rotate_left
          · simp only [Act.put, List.setIfInBounds_toArray, List.set_cons_zero, List.set_cons_succ, i64_w, i32_w]
            rfl
          exact norm_ (by simp only [putAll, Act.put, List.setIfInBounds_toArray, List.set_cons_zero, List.set_cons_succ]) (hCont (ga, Av, cv) _ ⟨⟨(blk_cell HPB.out 0).trans rfl, (HB.out.cell (World.block_lt_of_cell? w _ HX9.out)).trans HX9.out, (HB.out.cell (World.block_lt_of_cell? w _ HX8.out)).trans HX8.out⟩, HGA.out, HNE.out, BA.out, BK.out, HPB.out, VR.out, HB.out⟩)
      · skip
        refine boxR_ (cs := #[.int .u32 0, .int .u32 0, .int .u8 0, .int .u8 0, .int .u16 0, .bool false, .bool false, .int .i64 0, .slice none 0 0]) (t := 26) (by rfl) rfl (by first | (go_simp; done) | (go_simp; rfl)) ?_
        intro ga wa hgg hbox hb
        have n0_ := Aside0.mk (show w.heap.size ≤ ga by rw [hgg]; exact HB.out.size)
        have n1_ := Aside0.mk (show gb ≠ ga by have := blk_lt BK.out; omega)
        have n2_ := Aside0.mk (hbox)
        have n3_ := Aside0.mk (blk_below BK.out hb)
        have n4_ := Aside0.mk (blk_below HPB.out hb)
        have n5_ := Aside0.mk (HB.out.trans (hb.mono HB.out.size))
        clear BK HPB HB
        have HGA := n0_
        have HNE := n1_
        have BA := n2_
        have BK := n3_
        have HPB := n4_
        have HB := n5_
        clear n0_ n1_ n2_ n3_ n4_ n5_
        clear hgg hbox hb
        refine hK.out _ _ ⟨(blk_cell HPB.out 0).trans rfl, (HB.out.cell (World.block_lt_of_cell? w _ HX9.out)).trans HX9.out, (HB.out.cell (World.block_lt_of_cell? w _ HX8.out)).trans HX8.out⟩ (fun hHeld => ?_)
        clear hK K
        refine norm_ (a' := ?_) ?_ ?_
        rotate_left
        · show Act.put _ (some 8) _ = _
          simp only [Act.put, List.setIfInBounds_toArray, List.set_cons_zero, List.set_cons_succ, i64_w, i32_w]
          rfl
        refine one_ (i := 4) (N := some 64) #[true, true, true, true, true, false, true, true, true, true, true, true, true, false, false, true, true, true, true, true, true, true, true, true, true, true, true, true, false, false, true, false] rfl rfl (by kernel_rfl) (by decide) (fun K hK => ?_)
        refine goesC_ Try.func37 (by kernel_rfl) rfl #[.int .i64 16, .int .i64 4, .pointer (some ⟨pb, 0, none⟩)] (by rfl) rfl rfl (by rfl) (by simp [Act.eval]) ?_
        with_reducible refine (ipnum_calls k pb _ _ l0 16 4 t5 _ _ HPB.out (Kd.C_below HR.out HB.out) HC0.out HN5.out).mono ?_
        rintro e wn ⟨rfl, hd⟩
        refine ⟨_, rfl, ?_⟩
        have hb := hd.below
        have n0_ := Aside0.mk (blk_below BK.out hb)
        have n1_ := Aside0.mk (blk_below HPB.out hb)
        have n2_ := Aside0.mk (blk_below BA.out hb)
        have n3_ := Aside0.mk (HB.out.trans (hb.mono HB.out.size))
        clear BK HPB BA HB
        have BK := n0_
        have HPB := n1_
        have BA := n2_
        have HB := n3_
        clear n0_ n1_ n2_ n3_
        clear hd hb
        refine hK.out _ _ ⟨(blk_cell HPB.out 0).trans rfl, (HB.out.cell (World.block_lt_of_cell? w _ HX9.out)).trans HX9.out, (HB.out.cell (World.block_lt_of_cell? w _ HX8.out)).trans HX8.out⟩ (fun hHeld => ?_)
        clear hK K
        refine norm_ (a' := ?_) ?_ ?_
        rotate_left
        · show Act.put _ (some 64) _ = _
          simp only [Act.put, List.setIfInBounds_toArray, List.set_cons_zero, List.set_cons_succ, i64_w, i32_w]
          rfl
        refine pure_ (i := 5) (N := some 65) (v := ?_) (a' := ?_) #[true, true, true, true, true, true, true, true, true, true, true, true, true, false, false, true, true, true, true, true, true, true, true, true, true, true, true, true, false, false, true, false] rfl rfl (by kernel_rfl) (fun _ _ _ h => h) (Or.inl ⟨by rfl, ?_⟩) ?_ ?_
        rotate_left
        · intro w'
          go_simp
          with_reducible rfl
        rotate_left
        · simp only [Act.put, List.setIfInBounds_toArray, List.set_cons_zero, List.set_cons_succ, i64_w, i32_w]
          rfl
        refine one_ (i := 13) (N := some 73) #[true, true, true, true, true, true, true, true, true, true, true, true, true, true, false, true, true, true, true, true, true, true, true, true, true, true, true, true, false, false, true, false] rfl rfl (by kernel_rfl) (by decide) (fun K hK => ?_)
        refine goesC_ Try.func37 (by kernel_rfl) rfl #[.int .i64 4, .int .i64 2, .pointer (some ⟨pb, 0, none⟩)] (by rfl) rfl rfl (by rfl) (by simp [Act.eval]) ?_
        with_reducible refine (ipnum_calls k pb _ _ l0 4 2 t6 _ _ HPB.out (Kd.C_below HR.out HB.out) HC0.out HN6.out).mono ?_
        rintro e wn ⟨rfl, hd⟩
        refine ⟨_, rfl, ?_⟩
        have hb := hd.below
        have n0_ := Aside0.mk (blk_below BK.out hb)
        have n1_ := Aside0.mk (blk_below HPB.out hb)
        have n2_ := Aside0.mk (blk_below BA.out hb)
        have n3_ := Aside0.mk (HB.out.trans (hb.mono HB.out.size))
        clear BK HPB BA HB
        have BK := n0_
        have HPB := n1_
        have BA := n2_
        have HB := n3_
        clear n0_ n1_ n2_ n3_
        clear hd hb
        refine hK.out _ _ ⟨(blk_cell HPB.out 0).trans rfl, (HB.out.cell (World.block_lt_of_cell? w _ HX9.out)).trans HX9.out, (HB.out.cell (World.block_lt_of_cell? w _ HX8.out)).trans HX8.out⟩ (fun hHeld => ?_)
        clear hK K
        refine norm_ (a' := ?_) ?_ ?_
        rotate_left
        · show Act.put _ (some 73) _ = _
          simp only [Act.put, List.setIfInBounds_toArray, List.set_cons_zero, List.set_cons_succ, i64_w, i32_w]
          rfl
        refine pure_ (i := 14) (N := some 74) (v := ?_) (a' := ?_) #[true, true, true, true, true, true, true, true, true, true, true, true, true, true, true, true, true, true, true, true, true, true, true, true, true, true, true, true, false, false, true, false] rfl rfl (by kernel_rfl) (fun _ _ _ h => h) (Or.inl ⟨by rfl, ?_⟩) ?_ ?_
        rotate_left
        · intro w'
          go_simp
          with_reducible rfl
        rotate_left
        · simp only [Act.put, List.setIfInBounds_toArray, List.set_cons_zero, List.set_cons_succ, i64_w, i32_w]
          rfl
        refine one_ (i := 28) (N := some 88) #[true, true, true, true, true, true, true, true, true, true, true, true, true, true, true, true, true, true, true, true, true, true, true, true, true, true, true, true, true, false, true, false] rfl rfl (by kernel_rfl) (by decide) (fun K hK => ?_)
        refine goes_ Try.func39 (by kernel_rfl) rfl #[.slice Ay y.length cy] (by rfl) rfl rfl (by (try simp only [List.map_toArray, List.map_cons, List.map_nil]); first | done | rfl) ?_
        with_reducible refine (slices_Clone_byte_byte.calls _ _ y y _ (Kd.C_below HRY.out HB.out) HCY.out HCL.out).mono ?_
        rintro e wc ⟨vb, rfl, hv, hb⟩
        obtain ⟨Av, cv, ev⟩ := Kd.R_slice hv
        subst ev
        refine ⟨_, rfl, ?_⟩
        have n0_ := Aside0.mk (Kd.R_lower hv HB.out.size)
        have n1_ := Aside0.mk (blk_below BK.out hb)
        have n2_ := Aside0.mk (blk_below HPB.out hb)
        have n3_ := Aside0.mk (blk_below BA.out hb)
        have n4_ := Aside0.mk (HB.out.trans (hb.mono HB.out.size))
        clear BK HPB BA HB
        have VR := n0_
        have BK := n1_
        have HPB := n2_
        have BA := n3_
        have HB := n4_
        clear n0_ n1_ n2_ n3_ n4_
        clear hv hb
        refine hK.out _ _ ⟨(blk_cell HPB.out 0).trans rfl, (HB.out.cell (World.block_lt_of_cell? w _ HX9.out)).trans HX9.out, (HB.out.cell (World.block_lt_of_cell? w _ HX8.out)).trans HX8.out⟩ (fun hHeld => ?_)
        clear hK K
        refine norm_ (a' := ?_) ?_ ?_
        rotate_left
        · show Act.put _ (some 88) _ = _
          simp only [Act.put, List.setIfInBounds_toArray, List.set_cons_zero, List.set_cons_succ, i64_w, i32_w]
          rfl
        refine pure_ (i := 29) (N := some 89) (v := ?_) (a' := ?_) #[true, true, true, true, true, true, true, true, true, true, true, true, true, true, true, true, true, true, true, true, true, true, true, true, true, true, true, true, true, true, true, false] rfl rfl (by kernel_rfl) (fun _ _ _ h => h) (Or.inl ⟨by rfl, ?_⟩) ?_ ?_
        rotate_left
        · intro w'
          go_simp
          with_reducible rfl
        rotate_left
        · simp only [Act.put, List.setIfInBounds_toArray, List.set_cons_zero, List.set_cons_succ, i64_w, i32_w]
          rfl
        exact norm_ (by simp only [putAll, Act.put, List.setIfInBounds_toArray, List.set_cons_zero, List.set_cons_succ]) (hCont (ga, Av, cv) _ ⟨⟨(blk_cell HPB.out 0).trans rfl, (HB.out.cell (World.block_lt_of_cell? w _ HX9.out)).trans HX9.out, (HB.out.cell (World.block_lt_of_cell? w _ HX8.out)).trans HX8.out⟩, HGA.out, HNE.out, BA.out, BK.out, HPB.out, VR.out, HB.out⟩)
    · skip
      refine boxR_ (cs := #[.int .u32 0, .int .u32 0, .int .u8 0, .int .u8 0, .int .u16 0, .bool false, .bool false, .int .i64 0, .slice none 0 0]) (t := 26) (by rfl) rfl (by first | (go_simp; done) | (go_simp; rfl)) ?_
      intro ga wa hgg hbox hb
      have n0_ := Aside0.mk (show w.heap.size ≤ ga by rw [hgg]; exact HB.out.size)
      have n1_ := Aside0.mk (show gb ≠ ga by have := blk_lt BK.out; omega)
      have n2_ := Aside0.mk (hbox)
      have n3_ := Aside0.mk (blk_below BK.out hb)
      have n4_ := Aside0.mk (blk_below HPB.out hb)
      have n5_ := Aside0.mk (HB.out.trans (hb.mono HB.out.size))
      clear BK HPB HB
      have HGA := n0_
      have HNE := n1_
      have BA := n2_
      have BK := n3_
      have HPB := n4_
      have HB := n5_
      clear n0_ n1_ n2_ n3_ n4_ n5_
      clear hgg hbox hb
      refine hK.out _ _ ⟨(blk_cell HPB.out 0).trans rfl, (HB.out.cell (World.block_lt_of_cell? w _ HX9.out)).trans HX9.out, (HB.out.cell (World.block_lt_of_cell? w _ HX8.out)).trans HX8.out⟩ (fun hHeld => ?_)
      clear hK K
      refine norm_ (a' := ?_) ?_ ?_
      rotate_left
      · show Act.put _ (some 8) _ = _
        simp only [Act.put, List.setIfInBounds_toArray, List.set_cons_zero, List.set_cons_succ, i64_w, i32_w]
        rfl
      refine one_ (i := 1) (N := some 61) #[true, true, false, true, false, false, true, true, true, true, true, true, true, false, false, true, true, true, true, true, true, true, true, true, true, true, true, true, false, false, true, false] rfl rfl (by kernel_rfl) (by decide) (fun K hK => ?_)
      refine goesC_ Try.func37 (by kernel_rfl) rfl #[.int .i64 12, .int .i64 4, .pointer (some ⟨pb, 0, none⟩)] (by rfl) rfl rfl (by rfl) (by simp [Act.eval]) ?_
      with_reducible refine (ipnum_calls k pb _ _ l0 12 4 t4 _ _ HPB.out (Kd.C_below HR.out HB.out) HC0.out HN4.out).mono ?_
      rintro e wn ⟨rfl, hd⟩
      refine ⟨_, rfl, ?_⟩
      have hb := hd.below
      have n0_ := Aside0.mk (blk_below BK.out hb)
      have n1_ := Aside0.mk (blk_below HPB.out hb)
      have n2_ := Aside0.mk (blk_below BA.out hb)
      have n3_ := Aside0.mk (HB.out.trans (hb.mono HB.out.size))
      clear BK HPB BA HB
      have BK := n0_
      have HPB := n1_
      have BA := n2_
      have HB := n3_
      clear n0_ n1_ n2_ n3_
      clear hd hb
      refine hK.out _ _ ⟨(blk_cell HPB.out 0).trans rfl, (HB.out.cell (World.block_lt_of_cell? w _ HX9.out)).trans HX9.out, (HB.out.cell (World.block_lt_of_cell? w _ HX8.out)).trans HX8.out⟩ (fun hHeld => ?_)
      clear hK K
      refine norm_ (a' := ?_) ?_ ?_
      rotate_left
      · show Act.put _ (some 61) _ = _
        simp only [Act.put, List.setIfInBounds_toArray, List.set_cons_zero, List.set_cons_succ, i64_w, i32_w]
        rfl
      refine pure_ (i := 2) (N := some 62) (v := ?_) (a' := ?_) #[true, true, true, true, false, false, true, true, true, true, true, true, true, false, false, true, true, true, true, true, true, true, true, true, true, true, true, true, false, false, true, false] rfl rfl (by kernel_rfl) (fun _ _ _ h => h) (Or.inl ⟨by rfl, ?_⟩) ?_ ?_
      rotate_left
      · intro w'
        go_simp
        with_reducible rfl
      rotate_left
      · simp only [Act.put, List.setIfInBounds_toArray, List.set_cons_zero, List.set_cons_succ, i64_w, i32_w]
        rfl
      refine one_ (i := 4) (N := some 64) #[true, true, true, true, true, false, true, true, true, true, true, true, true, false, false, true, true, true, true, true, true, true, true, true, true, true, true, true, false, false, true, false] rfl rfl (by kernel_rfl) (by decide) (fun K hK => ?_)
      refine goesC_ Try.func37 (by kernel_rfl) rfl #[.int .i64 16, .int .i64 4, .pointer (some ⟨pb, 0, none⟩)] (by rfl) rfl rfl (by rfl) (by simp [Act.eval]) ?_
      with_reducible refine (ipnum_calls k pb _ _ l0 16 4 t5 _ _ HPB.out (Kd.C_below HR.out HB.out) HC0.out HN5.out).mono ?_
      rintro e wn ⟨rfl, hd⟩
      refine ⟨_, rfl, ?_⟩
      have hb := hd.below
      have n0_ := Aside0.mk (blk_below BK.out hb)
      have n1_ := Aside0.mk (blk_below HPB.out hb)
      have n2_ := Aside0.mk (blk_below BA.out hb)
      have n3_ := Aside0.mk (HB.out.trans (hb.mono HB.out.size))
      clear BK HPB BA HB
      have BK := n0_
      have HPB := n1_
      have BA := n2_
      have HB := n3_
      clear n0_ n1_ n2_ n3_
      clear hd hb
      refine hK.out _ _ ⟨(blk_cell HPB.out 0).trans rfl, (HB.out.cell (World.block_lt_of_cell? w _ HX9.out)).trans HX9.out, (HB.out.cell (World.block_lt_of_cell? w _ HX8.out)).trans HX8.out⟩ (fun hHeld => ?_)
      clear hK K
      refine norm_ (a' := ?_) ?_ ?_
      rotate_left
      · show Act.put _ (some 64) _ = _
        simp only [Act.put, List.setIfInBounds_toArray, List.set_cons_zero, List.set_cons_succ, i64_w, i32_w]
        rfl
      refine pure_ (i := 5) (N := some 65) (v := ?_) (a' := ?_) #[true, true, true, true, true, true, true, true, true, true, true, true, true, false, false, true, true, true, true, true, true, true, true, true, true, true, true, true, false, false, true, false] rfl rfl (by kernel_rfl) (fun _ _ _ h => h) (Or.inl ⟨by rfl, ?_⟩) ?_ ?_
      rotate_left
      · intro w'
        go_simp
        with_reducible rfl
      rotate_left
      · simp only [Act.put, List.setIfInBounds_toArray, List.set_cons_zero, List.set_cons_succ, i64_w, i32_w]
        rfl
      refine one_ (i := 13) (N := some 73) #[true, true, true, true, true, true, true, true, true, true, true, true, true, true, false, true, true, true, true, true, true, true, true, true, true, true, true, true, false, false, true, false] rfl rfl (by kernel_rfl) (by decide) (fun K hK => ?_)
      refine goesC_ Try.func37 (by kernel_rfl) rfl #[.int .i64 4, .int .i64 2, .pointer (some ⟨pb, 0, none⟩)] (by rfl) rfl rfl (by rfl) (by simp [Act.eval]) ?_
      with_reducible refine (ipnum_calls k pb _ _ l0 4 2 t6 _ _ HPB.out (Kd.C_below HR.out HB.out) HC0.out HN6.out).mono ?_
      rintro e wn ⟨rfl, hd⟩
      refine ⟨_, rfl, ?_⟩
      have hb := hd.below
      have n0_ := Aside0.mk (blk_below BK.out hb)
      have n1_ := Aside0.mk (blk_below HPB.out hb)
      have n2_ := Aside0.mk (blk_below BA.out hb)
      have n3_ := Aside0.mk (HB.out.trans (hb.mono HB.out.size))
      clear BK HPB BA HB
      have BK := n0_
      have HPB := n1_
      have BA := n2_
      have HB := n3_
      clear n0_ n1_ n2_ n3_
      clear hd hb
      refine hK.out _ _ ⟨(blk_cell HPB.out 0).trans rfl, (HB.out.cell (World.block_lt_of_cell? w _ HX9.out)).trans HX9.out, (HB.out.cell (World.block_lt_of_cell? w _ HX8.out)).trans HX8.out⟩ (fun hHeld => ?_)
      clear hK K
      refine norm_ (a' := ?_) ?_ ?_
      rotate_left
      · show Act.put _ (some 73) _ = _
        simp only [Act.put, List.setIfInBounds_toArray, List.set_cons_zero, List.set_cons_succ, i64_w, i32_w]
        rfl
      refine pure_ (i := 14) (N := some 74) (v := ?_) (a' := ?_) #[true, true, true, true, true, true, true, true, true, true, true, true, true, true, true, true, true, true, true, true, true, true, true, true, true, true, true, true, false, false, true, false] rfl rfl (by kernel_rfl) (fun _ _ _ h => h) (Or.inl ⟨by rfl, ?_⟩) ?_ ?_
      rotate_left
      · intro w'
        go_simp
        with_reducible rfl
      rotate_left
      · simp only [Act.put, List.setIfInBounds_toArray, List.set_cons_zero, List.set_cons_succ, i64_w, i32_w]
        rfl
      refine one_ (i := 28) (N := some 88) #[true, true, true, true, true, true, true, true, true, true, true, true, true, true, true, true, true, true, true, true, true, true, true, true, true, true, true, true, true, false, true, false] rfl rfl (by kernel_rfl) (by decide) (fun K hK => ?_)
      refine goes_ Try.func39 (by kernel_rfl) rfl #[.slice Ay y.length cy] (by rfl) rfl rfl (by (try simp only [List.map_toArray, List.map_cons, List.map_nil]); first | done | rfl) ?_
      with_reducible refine (slices_Clone_byte_byte.calls _ _ y y _ (Kd.C_below HRY.out HB.out) HCY.out HCL.out).mono ?_
      rintro e wc ⟨vb, rfl, hv, hb⟩
      obtain ⟨Av, cv, ev⟩ := Kd.R_slice hv
      subst ev
      refine ⟨_, rfl, ?_⟩
      have n0_ := Aside0.mk (Kd.R_lower hv HB.out.size)
      have n1_ := Aside0.mk (blk_below BK.out hb)
      have n2_ := Aside0.mk (blk_below HPB.out hb)
      have n3_ := Aside0.mk (blk_below BA.out hb)
      have n4_ := Aside0.mk (HB.out.trans (hb.mono HB.out.size))
      clear BK HPB BA HB
      have VR := n0_
      have BK := n1_
      have HPB := n2_
      have BA := n3_
      have HB := n4_
      clear n0_ n1_ n2_ n3_ n4_
      clear hv hb
      refine hK.out _ _ ⟨(blk_cell HPB.out 0).trans rfl, (HB.out.cell (World.block_lt_of_cell? w _ HX9.out)).trans HX9.out, (HB.out.cell (World.block_lt_of_cell? w _ HX8.out)).trans HX8.out⟩ (fun hHeld => ?_)
      clear hK K
      refine norm_ (a' := ?_) ?_ ?_
      rotate_left
      · show Act.put _ (some 88) _ = _
        simp only [Act.put, List.setIfInBounds_toArray, List.set_cons_zero, List.set_cons_succ, i64_w, i32_w]
        rfl
      refine pure_ (i := 29) (N := some 89) (v := ?_) (a' := ?_) #[true, true, true, true, true, true, true, true, true, true, true, true, true, true, true, true, true, true, true, true, true, true, true, true, true, true, true, true, true, true, true, false] rfl rfl (by kernel_rfl) (fun _ _ _ h => h) (Or.inl ⟨by rfl, ?_⟩) ?_ ?_
      rotate_left
      · intro w'
        go_simp
        with_reducible rfl
      rotate_left
      · simp only [Act.put, List.setIfInBounds_toArray, List.set_cons_zero, List.set_cons_succ, i64_w, i32_w]
        rfl
      exact norm_ (by simp only [putAll, Act.put, List.setIfInBounds_toArray, List.set_cons_zero, List.set_cons_succ]) (hCont (ga, Av, cv) _ ⟨⟨(blk_cell HPB.out 0).trans rfl, (HB.out.cell (World.block_lt_of_cell? w _ HX9.out)).trans HX9.out, (HB.out.cell (World.block_lt_of_cell? w _ HX8.out)).trans HX8.out⟩, HGA.out, HNE.out, BA.out, BK.out, HPB.out, VR.out, HB.out⟩)
  rintro ⟨ga, Av, cv⟩ wj ⟨hHeld, hga, hne, hba, hbk, hpb, hvr, hb⟩
  have HGA := Aside0.mk hga
  have BA := Aside0.mk hba
  have BK := Aside0.mk hbk
  have HPB := Aside0.mk hpb
  have VR := Aside0.mk hvr
  have HB := Aside0.mk hb
  have hne1 := hne
  have hne2 := hne.symm
  clear hga hne hba hbk hvr hb hpb
  obtain ⟨hczb_0, hczb_1, hczb_2, hczb_3, hczb_4, hczb_5, hczb_6, hczb_7, hczb_8⟩ := blk9 BA.out
  obtain ⟨hfzb_0, hfzb_1, hfzb_2, hfzb_3, hfzb_4, hfzb_5, hfzb_6, hfzb_7, hfzb_8⟩ := frz9 BA.out
  refine norm_ (a' := ?_) ?_ ?_
  rotate_left
  · simp only [putAll, Act.put, List.setIfInBounds_toArray, List.set_cons_zero, List.set_cons_succ]
    rfl
  refine last_ (i := 31) (N := none) #[true, true, true, true, true, true, true, true, true, true, true, true, true, true, true, true, true, true, true, true, true, true, true, true, true, true, true, true, true, true, true, true] rfl rfl (by kernel_rfl) (by decide) (fun K hK => ?_)
  refine skip_ (w1 := ?_) (by rfl) rfl ?_ ?_
  rotate_left
  · go_simp
    rfl
  refine hK.out _ _ ?_
  clear hK K
  refine done_ (by kernel_rfl) ?_
  have e4_ : IntKind.u32.wrap (wrap64 t4) = wrap64 t4 % 4294967296 := rfl
  have e5_ : IntKind.u32.wrap (wrap64 t5) = wrap64 t5 % 4294967296 := rfl
  refine ipt_cut (fun wz => wz.heap[ga]? = some (.cells #[.int .u32 (wrap64 t4 % 4294967296), .int .u32 (wrap64 t5 % 4294967296), .int .u8 (rd l0 9), .int .u8 (rd l0 8), .int .u16 (IntKind.u16.wrap (wrap64 t6)), .bool (Go.bits .and .i64 (wrap64 t3) 16384 != 0), .bool (Go.bits .and .i64 (wrap64 t3) 8192 != 0), .int .i64 (wrap64 (Go.bits .and .i64 (wrap64 t3) 8191 * 8)), .slice Av y.length cv] 26 (0, 0)) ∧ wz.heap[gb]? = some (.cells #[.int .u32 0, .int .u32 0, .int .u8 0, .int .u8 0, .int .u16 0, .bool false, .bool false, .int .i64 0, .slice none 0 0] 26 (0, 0)) ∧ Kd.R (Kd.int .u8) 5 wz w.heap.size (fun _ => True) (.slice Av y.length cv) y ∧ Below w.heap.size w wz) ⟨by rw [← e4_, ← e5_]; refine blk_put (cs := #[.int .u32 (IntKind.u32.wrap (wrap64 t4)), .int .u32 (IntKind.u32.wrap (wrap64 t5)), .int .u8 (rd l0 9), .int .u8 (rd l0 8), .int .u16 (IntKind.u16.wrap (wrap64 t6)), .bool (Go.bits .and .i64 (wrap64 t3) 16384 != 0), .bool (Go.bits .and .i64 (wrap64 t3) 8192 != 0), .int .i64 (wrap64 (Go.bits .and .i64 (wrap64 t3) 8191 * 8)), .slice none 0 0]) ?_ 8 _ rfl; refine blk_put (cs := #[.int .u32 (IntKind.u32.wrap (wrap64 t4)), .int .u32 (IntKind.u32.wrap (wrap64 t5)), .int .u8 (rd l0 9), .int .u8 (rd l0 8), .int .u16 (IntKind.u16.wrap (wrap64 t6)), .bool (Go.bits .and .i64 (wrap64 t3) 16384 != 0), .bool (Go.bits .and .i64 (wrap64 t3) 8192 != 0), .int .i64 0, .slice none 0 0]) ?_ 7 _ rfl; refine blk_put (cs := #[.int .u32 (IntKind.u32.wrap (wrap64 t4)), .int .u32 (IntKind.u32.wrap (wrap64 t5)), .int .u8 (rd l0 9), .int .u8 (rd l0 8), .int .u16 (IntKind.u16.wrap (wrap64 t6)), .bool (Go.bits .and .i64 (wrap64 t3) 16384 != 0), .bool false, .int .i64 0, .slice none 0 0]) ?_ 6 _ rfl; refine blk_put (cs := #[.int .u32 (IntKind.u32.wrap (wrap64 t4)), .int .u32 (IntKind.u32.wrap (wrap64 t5)), .int .u8 (rd l0 9), .int .u8 (rd l0 8), .int .u16 (IntKind.u16.wrap (wrap64 t6)), .bool false, .bool false, .int .i64 0, .slice none 0 0]) ?_ 5 _ rfl; refine blk_put (cs := #[.int .u32 (IntKind.u32.wrap (wrap64 t4)), .int .u32 (IntKind.u32.wrap (wrap64 t5)), .int .u8 (rd l0 9), .int .u8 (rd l0 8), .int .u16 0, .bool false, .bool false, .int .i64 0, .slice none 0 0]) ?_ 4 _ rfl; refine blk_put (cs := #[.int .u32 (IntKind.u32.wrap (wrap64 t4)), .int .u32 (IntKind.u32.wrap (wrap64 t5)), .int .u8 (rd l0 9), .int .u8 0, .int .u16 0, .bool false, .bool false, .int .i64 0, .slice none 0 0]) ?_ 3 _ rfl; refine blk_put (cs := #[.int .u32 (IntKind.u32.wrap (wrap64 t4)), .int .u32 (IntKind.u32.wrap (wrap64 t5)), .int .u8 0, .int .u8 0, .int .u16 0, .bool false, .bool false, .int .i64 0, .slice none 0 0]) ?_ 2 _ rfl; refine blk_put (cs := #[.int .u32 (IntKind.u32.wrap (wrap64 t4)), .int .u32 0, .int .u8 0, .int .u8 0, .int .u16 0, .bool false, .bool false, .int .i64 0, .slice none 0 0]) ?_ 1 _ rfl; refine blk_put (cs := #[.int .u32 0, .int .u32 0, .int .u8 0, .int .u8 0, .int .u16 0, .bool false, .bool false, .int .i64 0, .slice none 0 0]) ?_ 0 _ rfl; exact BA.out, by refine blk_far (p := ⟨ga, 8, none⟩) ?_ hne1 _; refine blk_far (p := ⟨ga, 7, none⟩) ?_ hne1 _; refine blk_far (p := ⟨ga, 6, none⟩) ?_ hne1 _; refine blk_far (p := ⟨ga, 5, none⟩) ?_ hne1 _; refine blk_far (p := ⟨ga, 4, none⟩) ?_ hne1 _; refine blk_far (p := ⟨ga, 3, none⟩) ?_ hne1 _; refine blk_far (p := ⟨ga, 2, none⟩) ?_ hne1 _; refine blk_far (p := ⟨ga, 1, none⟩) ?_ hne1 _; refine blk_far (p := ⟨ga, 0, none⟩) ?_ hne1 _; exact BK.out, by refine Kd.R_mono (ok := fun k => True ∧ k ≠ ga) ?_ (fun _ _ => trivial); refine Kd.R_far (p := ⟨ga, _, none⟩) ?_ (fun k hk => hk.2) _; refine Kd.R_far (p := ⟨ga, _, none⟩) ?_ (fun k hk => hk.2) _; refine Kd.R_far (p := ⟨ga, _, none⟩) ?_ (fun k hk => hk.2) _; refine Kd.R_far (p := ⟨ga, _, none⟩) ?_ (fun k hk => hk.2) _; refine Kd.R_far (p := ⟨ga, _, none⟩) ?_ (fun k hk => hk.2) _; refine Kd.R_far (p := ⟨ga, _, none⟩) ?_ (fun k hk => hk.2) _; refine Kd.R_far (p := ⟨ga, _, none⟩) ?_ (fun k hk => hk.2) _; refine Kd.R_far (p := ⟨ga, _, none⟩) ?_ (fun k hk => hk.2) _; refine Kd.R_far (p := ⟨ga, _, none⟩) ?_ (fun k hk => hk.2) _; exact Kd.R_types VR.out BA.out (by decide), by refine below_set (g := ga) ?_ HGA.out; refine below_set (g := ga) ?_ HGA.out; refine below_set (g := ga) ?_ HGA.out; refine below_set (g := ga) ?_ HGA.out; refine below_set (g := ga) ?_ HGA.out; refine below_set (g := ga) ?_ HGA.out; refine below_set (g := ga) ?_ HGA.out; refine below_set (g := ga) ?_ HGA.out; refine below_set (g := ga) ?_ HGA.out; (with_reducible repeat (first | apply pw_below_drewN)); exact HB.out⟩ ?_
  rintro wz ⟨BA2, BK2, VR2, HB2⟩
  clear e4_ e5_
  clear BA BK VR HB HPB hHeld hczb_0 hfzb_0 hczb_1 hfzb_1 hczb_2 hfzb_2 hczb_3 hfzb_3 hczb_4 hfzb_4 hczb_5 hfzb_5 hczb_6 hfzb_6 hczb_7 hfzb_7 hczb_8 hfzb_8
  have BA := Aside0.mk BA2
  have BK := Aside0.mk BK2
  have HB := Aside0.mk HB2
  have HCV := Aside0.mk (Kd.R_reads' VR2).2.2
  have HCC := Aside0.mk (Kd.R_reads' VR2).2.1
  have VR := Aside0.mk VR2
  clear BA2 BK2 VR2 HB2
  clear hcutS hcutY0 HRS HCS HNET HRY HCY HX0 HX8 HX9
  obtain ⟨hczd_0, hczd_1, hczd_2, hczd_3, hczd_4, hczd_5, hczd_6, hczd_7, hczd_8⟩ := blk9 BA.out
  obtain ⟨hfzd_0, hfzd_1, hfzd_2, hfzd_3, hfzd_4, hfzd_5, hfzd_6, hfzd_7, hfzd_8⟩ := frz9 BA.out
  by_cases c8 : (Go.bits .and .i64 (wrap64 t3) 32768) = 0
  · rw [if_pos c8] at h
    have c8b0 : ((Go.bits .and .i64 (wrap64 t3) 32768) == 0) = true := beq_iff_eq.mpr c8
    have c8b1 : ((Go.bits .and .i64 (wrap64 t3) 32768) != 0) = false := bne_eq_false_iff_eq.mpr c8
    clear c8
    by_cases c9 : t7 = 2
    · rw [if_pos c9] at h
      have c9b0 : (t7 == 2) = true := beq_iff_eq.mpr c9
      have c9b1 : (t7 != 2) = false := bne_eq_false_iff_eq.mpr c9
      clear c9
      simp only [Option.some.injEq, Prod.mk.injEq] at h
      obtain ⟨rfl, rfl, rfl, rfl, rfl, rfl, rfl, rfl, rfl, rfl⟩ := h
      go_wp2_with (first | (go_at_call 30; (with_reducible refine (ip_may.calls k _ _ _ _ _ _ _ _ Av cv y t7 _ (Kd.C_below HCV.out (by (with_reducible repeat (first | apply pw_below_drewN)); exact Below.refl _ _)) HCC.out HMAY.out).mono ?_); rintro e wm ⟨rfl, hbm⟩; have BKm := Aside0.mk (blk_below (o := .cells #[.int .u32 0, .int .u32 0, .int .u8 0, .int .u8 0, .int .u16 0, .bool false, .bool false, .int .i64 0, .slice none 0 0] 26 (0, 0)) (by (with_reducible repeat (first | refine blk_drewN ?_ _)); exact BK.out) hbm); have BAm := Aside0.mk (blk_below (o := .cells #[.int .u32 (wrap64 t4 % 4294967296), .int .u32 (wrap64 t5 % 4294967296), .int .u8 (rd l0 9), .int .u8 (rd l0 8), .int .u16 (IntKind.u16.wrap (wrap64 t6)), .bool (Go.bits .and .i64 (wrap64 t3) 16384 != 0), .bool (Go.bits .and .i64 (wrap64 t3) 8192 != 0), .int .i64 (wrap64 (Go.bits .and .i64 (wrap64 t3) 8191 * 8)), .slice Av y.length cv] 26 (0, 0)) (by (with_reducible repeat (first | refine blk_drewN ?_ _)); exact BA.out) hbm); have VRm : Aside0 (Kd.R (Kd.int .u8) 5 wm w.heap.size (fun _ => True) (.slice Av y.length cv) y) := Aside0.mk (Kd.R_below VR.out (Below.trans (by (with_reducible repeat (first | apply pw_below_drewN)); exact Below.refl _ _) (hbm.mono (Nat.le_refl _)))); have HBm : Aside0 (Below w.heap.size w wm) := Aside0.mk (Below.trans HB.out (Below.trans (by (with_reducible repeat (first | apply pw_below_drewN)); exact Below.refl _ _) (hbm.mono HB.out.size))); clear hbm; obtain ⟨hczf_0, hczf_1, hczf_2, hczf_3, hczf_4, hczf_5, hczf_6, hczf_7, hczf_8⟩ := blk9 BAm.out; obtain ⟨hfzf_0, hfzf_1, hfzf_2, hfzf_3, hfzf_4, hfzf_5, hfzf_6, hfzf_7, hfzf_8⟩ := frz9 BAm.out; obtain ⟨hcze_0, hcze_1, hcze_2, hcze_3, hcze_4, hcze_5, hcze_6, hcze_7, hcze_8⟩ := blk9 BKm.out; obtain ⟨hfze_0, hfze_1, hfze_2, hfze_3, hfze_4, hfze_5, hfze_6, hfze_7, hfze_8⟩ := frz9 BKm.out))
      refine bodyPost_ret (results_ct rfl _ _ gb 26 #[.int .u32 0, .int .u32 0, .int .u8 0, .int .u8 0, .int .u16 0, .bool false, .bool false, .int .i64 0, .slice none 0 0] (0, 0) _ rfl (by refine blk_put (cs := #[.int .u32 0, .int .u32 0, .int .u8 0, .int .u8 0, .int .u16 0, .bool false, .bool false, .int .i64 0, .slice none 0 0]) ?_ 8 _ rfl; refine blk_put (cs := #[.int .u32 0, .int .u32 0, .int .u8 0, .int .u8 0, .int .u16 0, .bool false, .bool false, .int .i64 0, .slice none 0 0]) ?_ 7 _ rfl; refine blk_put (cs := #[.int .u32 0, .int .u32 0, .int .u8 0, .int .u8 0, .int .u16 0, .bool false, .bool false, .int .i64 0, .slice none 0 0]) ?_ 6 _ rfl; refine blk_put (cs := #[.int .u32 0, .int .u32 0, .int .u8 0, .int .u8 0, .int .u16 0, .bool false, .bool false, .int .i64 0, .slice none 0 0]) ?_ 5 _ rfl; refine blk_put (cs := #[.int .u32 0, .int .u32 0, .int .u8 0, .int .u8 0, .int .u16 0, .bool false, .bool false, .int .i64 0, .slice none 0 0]) ?_ 4 _ rfl; refine blk_put (cs := #[.int .u32 0, .int .u32 0, .int .u8 0, .int .u8 0, .int .u16 0, .bool false, .bool false, .int .i64 0, .slice none 0 0]) ?_ 3 _ rfl; refine blk_put (cs := #[.int .u32 0, .int .u32 0, .int .u8 0, .int .u8 0, .int .u16 0, .bool false, .bool false, .int .i64 0, .slice none 0 0]) ?_ 2 _ rfl; refine blk_put (cs := #[.int .u32 0, .int .u32 0, .int .u8 0, .int .u8 0, .int .u16 0, .bool false, .bool false, .int .i64 0, .slice none 0 0]) ?_ 1 _ rfl; refine blk_put (cs := #[.int .u32 0, .int .u32 0, .int .u8 0, .int .u8 0, .int .u16 0, .bool false, .bool false, .int .i64 0, .slice none 0 0]) ?_ 0 _ rfl; (with_reducible repeat (first | refine blk_drewN ?_ _)); exact BKm.out) Try.underlying26 rfl (by kernel_rfl)) rfl ?_
      exact ⟨_, rfl, Kd.R_nil _ _ _ _ _, by refine below_set (g := gb) ?_ HGB.out; refine below_set (g := gb) ?_ HGB.out; refine below_set (g := gb) ?_ HGB.out; refine below_set (g := gb) ?_ HGB.out; refine below_set (g := gb) ?_ HGB.out; refine below_set (g := gb) ?_ HGB.out; refine below_set (g := gb) ?_ HGB.out; refine below_set (g := gb) ?_ HGB.out; refine below_set (g := gb) ?_ HGB.out; (with_reducible repeat (first | apply pw_below_drewN)); exact HBm.out⟩
    · rw [if_neg c9] at h
      have c9b0 : (t7 == 2) = false := beq_eq_false_iff_ne.mpr c9
      have c9b1 : (t7 != 2) = true := bne_iff_ne.mpr c9
      clear c9
      by_cases c10 : t7 = 0
      · rw [if_pos c10] at h
        have c10b0 : (t7 == 0) = true := beq_iff_eq.mpr c10
        have c10b1 : (t7 != 0) = false := bne_eq_false_iff_eq.mpr c10
        clear c10
        simp only [Option.some.injEq, Prod.mk.injEq] at h
        obtain ⟨rfl, rfl, rfl, rfl, rfl, rfl, rfl, rfl, rfl, rfl⟩ := h
        go_wp2_with (first | (go_at_call 30; (with_reducible refine (ip_may.calls k _ _ _ _ _ _ _ _ Av cv y t7 _ (Kd.C_below HCV.out (by (with_reducible repeat (first | apply pw_below_drewN)); exact Below.refl _ _)) HCC.out HMAY.out).mono ?_); rintro e wm ⟨rfl, hbm⟩; have BKm := Aside0.mk (blk_below (o := .cells #[.int .u32 0, .int .u32 0, .int .u8 0, .int .u8 0, .int .u16 0, .bool false, .bool false, .int .i64 0, .slice none 0 0] 26 (0, 0)) (by (with_reducible repeat (first | refine blk_drewN ?_ _)); exact BK.out) hbm); have BAm := Aside0.mk (blk_below (o := .cells #[.int .u32 (wrap64 t4 % 4294967296), .int .u32 (wrap64 t5 % 4294967296), .int .u8 (rd l0 9), .int .u8 (rd l0 8), .int .u16 (IntKind.u16.wrap (wrap64 t6)), .bool (Go.bits .and .i64 (wrap64 t3) 16384 != 0), .bool (Go.bits .and .i64 (wrap64 t3) 8192 != 0), .int .i64 (wrap64 (Go.bits .and .i64 (wrap64 t3) 8191 * 8)), .slice Av y.length cv] 26 (0, 0)) (by (with_reducible repeat (first | refine blk_drewN ?_ _)); exact BA.out) hbm); have VRm : Aside0 (Kd.R (Kd.int .u8) 5 wm w.heap.size (fun _ => True) (.slice Av y.length cv) y) := Aside0.mk (Kd.R_below VR.out (Below.trans (by (with_reducible repeat (first | apply pw_below_drewN)); exact Below.refl _ _) (hbm.mono (Nat.le_refl _)))); have HBm : Aside0 (Below w.heap.size w wm) := Aside0.mk (Below.trans HB.out (Below.trans (by (with_reducible repeat (first | apply pw_below_drewN)); exact Below.refl _ _) (hbm.mono HB.out.size))); clear hbm; obtain ⟨hczf_0, hczf_1, hczf_2, hczf_3, hczf_4, hczf_5, hczf_6, hczf_7, hczf_8⟩ := blk9 BAm.out; obtain ⟨hfzf_0, hfzf_1, hfzf_2, hfzf_3, hfzf_4, hfzf_5, hfzf_6, hfzf_7, hfzf_8⟩ := frz9 BAm.out; obtain ⟨hcze_0, hcze_1, hcze_2, hcze_3, hcze_4, hcze_5, hcze_6, hcze_7, hcze_8⟩ := blk9 BKm.out; obtain ⟨hfze_0, hfze_1, hfze_2, hfze_3, hfze_4, hfze_5, hfze_6, hfze_7, hfze_8⟩ := frz9 BKm.out))
        refine bodyPost_ret (results_ct rfl _ _ gb 26 #[.int .u32 (wrap64 t4 % 4294967296), .int .u32 (wrap64 t5 % 4294967296), .int .u8 (rd l0 9), .int .u8 (rd l0 8), .int .u16 (IntKind.u16.wrap (wrap64 t6)), .bool (Go.bits .and .i64 (wrap64 t3) 16384 != 0), .bool (Go.bits .and .i64 (wrap64 t3) 8192 != 0), .int .i64 (wrap64 (Go.bits .and .i64 (wrap64 t3) 8191 * 8)), .slice Av y.length cv] (0, 0) _ rfl (by refine blk_put (cs := #[.int .u32 (wrap64 t4 % 4294967296), .int .u32 (wrap64 t5 % 4294967296), .int .u8 (rd l0 9), .int .u8 (rd l0 8), .int .u16 (IntKind.u16.wrap (wrap64 t6)), .bool (Go.bits .and .i64 (wrap64 t3) 16384 != 0), .bool (Go.bits .and .i64 (wrap64 t3) 8192 != 0), .int .i64 (wrap64 (Go.bits .and .i64 (wrap64 t3) 8191 * 8)), .slice none 0 0]) ?_ 8 _ rfl; refine blk_put (cs := #[.int .u32 (wrap64 t4 % 4294967296), .int .u32 (wrap64 t5 % 4294967296), .int .u8 (rd l0 9), .int .u8 (rd l0 8), .int .u16 (IntKind.u16.wrap (wrap64 t6)), .bool (Go.bits .and .i64 (wrap64 t3) 16384 != 0), .bool (Go.bits .and .i64 (wrap64 t3) 8192 != 0), .int .i64 0, .slice none 0 0]) ?_ 7 _ rfl; refine blk_put (cs := #[.int .u32 (wrap64 t4 % 4294967296), .int .u32 (wrap64 t5 % 4294967296), .int .u8 (rd l0 9), .int .u8 (rd l0 8), .int .u16 (IntKind.u16.wrap (wrap64 t6)), .bool (Go.bits .and .i64 (wrap64 t3) 16384 != 0), .bool false, .int .i64 0, .slice none 0 0]) ?_ 6 _ rfl; refine blk_put (cs := #[.int .u32 (wrap64 t4 % 4294967296), .int .u32 (wrap64 t5 % 4294967296), .int .u8 (rd l0 9), .int .u8 (rd l0 8), .int .u16 (IntKind.u16.wrap (wrap64 t6)), .bool false, .bool false, .int .i64 0, .slice none 0 0]) ?_ 5 _ rfl; refine blk_put (cs := #[.int .u32 (wrap64 t4 % 4294967296), .int .u32 (wrap64 t5 % 4294967296), .int .u8 (rd l0 9), .int .u8 (rd l0 8), .int .u16 0, .bool false, .bool false, .int .i64 0, .slice none 0 0]) ?_ 4 _ rfl; refine blk_put (cs := #[.int .u32 (wrap64 t4 % 4294967296), .int .u32 (wrap64 t5 % 4294967296), .int .u8 (rd l0 9), .int .u8 0, .int .u16 0, .bool false, .bool false, .int .i64 0, .slice none 0 0]) ?_ 3 _ rfl; refine blk_put (cs := #[.int .u32 (wrap64 t4 % 4294967296), .int .u32 (wrap64 t5 % 4294967296), .int .u8 0, .int .u8 0, .int .u16 0, .bool false, .bool false, .int .i64 0, .slice none 0 0]) ?_ 2 _ rfl; refine blk_put (cs := #[.int .u32 (wrap64 t4 % 4294967296), .int .u32 0, .int .u8 0, .int .u8 0, .int .u16 0, .bool false, .bool false, .int .i64 0, .slice none 0 0]) ?_ 1 _ rfl; refine blk_put (cs := #[.int .u32 0, .int .u32 0, .int .u8 0, .int .u8 0, .int .u16 0, .bool false, .bool false, .int .i64 0, .slice none 0 0]) ?_ 0 _ rfl; (with_reducible repeat (first | refine blk_drewN ?_ _)); exact BKm.out) Try.underlying26 rfl (by kernel_rfl)) rfl ?_
        exact ⟨_, rfl, by refine Kd.R_mono (ok := fun k => True ∧ k ≠ gb) ?_ (fun _ _ => trivial); refine Kd.R_far (p := ⟨gb, _, none⟩) ?_ (fun k hk => hk.2) _; refine Kd.R_far (p := ⟨gb, _, none⟩) ?_ (fun k hk => hk.2) _; refine Kd.R_far (p := ⟨gb, _, none⟩) ?_ (fun k hk => hk.2) _; refine Kd.R_far (p := ⟨gb, _, none⟩) ?_ (fun k hk => hk.2) _; refine Kd.R_far (p := ⟨gb, _, none⟩) ?_ (fun k hk => hk.2) _; refine Kd.R_far (p := ⟨gb, _, none⟩) ?_ (fun k hk => hk.2) _; refine Kd.R_far (p := ⟨gb, _, none⟩) ?_ (fun k hk => hk.2) _; refine Kd.R_far (p := ⟨gb, _, none⟩) ?_ (fun k hk => hk.2) _; refine Kd.R_far (p := ⟨gb, _, none⟩) ?_ (fun k hk => hk.2) _; exact Kd.R_types VRm.out BKm.out (by decide), by refine below_set (g := gb) ?_ HGB.out; refine below_set (g := gb) ?_ HGB.out; refine below_set (g := gb) ?_ HGB.out; refine below_set (g := gb) ?_ HGB.out; refine below_set (g := gb) ?_ HGB.out; refine below_set (g := gb) ?_ HGB.out; refine below_set (g := gb) ?_ HGB.out; refine below_set (g := gb) ?_ HGB.out; refine below_set (g := gb) ?_ HGB.out; (with_reducible repeat (first | apply pw_below_drewN)); exact HBm.out⟩
      · rw [if_neg c10] at h
        have c10b0 : (t7 == 0) = false := beq_eq_false_iff_ne.mpr c10
        have c10b1 : (t7 != 0) = true := bne_iff_ne.mpr c10
        clear c10
        simp only [Option.some.injEq, Prod.mk.injEq] at h
        obtain ⟨rfl, rfl, rfl, rfl, rfl, rfl, rfl, rfl, rfl, rfl⟩ := h
        go_wp2_with (first | (go_at_call 30; (with_reducible refine (ip_may.calls k _ _ _ _ _ _ _ _ Av cv y t7 _ (Kd.C_below HCV.out (by (with_reducible repeat (first | apply pw_below_drewN)); exact Below.refl _ _)) HCC.out HMAY.out).mono ?_); rintro e wm ⟨rfl, hbm⟩; have BKm := Aside0.mk (blk_below (o := .cells #[.int .u32 0, .int .u32 0, .int .u8 0, .int .u8 0, .int .u16 0, .bool false, .bool false, .int .i64 0, .slice none 0 0] 26 (0, 0)) (by (with_reducible repeat (first | refine blk_drewN ?_ _)); exact BK.out) hbm); have BAm := Aside0.mk (blk_below (o := .cells #[.int .u32 (wrap64 t4 % 4294967296), .int .u32 (wrap64 t5 % 4294967296), .int .u8 (rd l0 9), .int .u8 (rd l0 8), .int .u16 (IntKind.u16.wrap (wrap64 t6)), .bool (Go.bits .and .i64 (wrap64 t3) 16384 != 0), .bool (Go.bits .and .i64 (wrap64 t3) 8192 != 0), .int .i64 (wrap64 (Go.bits .and .i64 (wrap64 t3) 8191 * 8)), .slice Av y.length cv] 26 (0, 0)) (by (with_reducible repeat (first | refine blk_drewN ?_ _)); exact BA.out) hbm); have VRm : Aside0 (Kd.R (Kd.int .u8) 5 wm w.heap.size (fun _ => True) (.slice Av y.length cv) y) := Aside0.mk (Kd.R_below VR.out (Below.trans (by (with_reducible repeat (first | apply pw_below_drewN)); exact Below.refl _ _) (hbm.mono (Nat.le_refl _)))); have HBm : Aside0 (Below w.heap.size w wm) := Aside0.mk (Below.trans HB.out (Below.trans (by (with_reducible repeat (first | apply pw_below_drewN)); exact Below.refl _ _) (hbm.mono HB.out.size))); clear hbm; obtain ⟨hczf_0, hczf_1, hczf_2, hczf_3, hczf_4, hczf_5, hczf_6, hczf_7, hczf_8⟩ := blk9 BAm.out; obtain ⟨hfzf_0, hfzf_1, hfzf_2, hfzf_3, hfzf_4, hfzf_5, hfzf_6, hfzf_7, hfzf_8⟩ := frz9 BAm.out; obtain ⟨hcze_0, hcze_1, hcze_2, hcze_3, hcze_4, hcze_5, hcze_6, hcze_7, hcze_8⟩ := blk9 BKm.out; obtain ⟨hfze_0, hfze_1, hfze_2, hfze_3, hfze_4, hfze_5, hfze_6, hfze_7, hfze_8⟩ := frz9 BKm.out))
        refine bodyPost_ret (results_ct rfl _ _ gb 26 #[.int .u32 0, .int .u32 0, .int .u8 0, .int .u8 0, .int .u16 0, .bool false, .bool false, .int .i64 0, .slice none 0 0] (0, 0) _ rfl (by refine blk_put (cs := #[.int .u32 0, .int .u32 0, .int .u8 0, .int .u8 0, .int .u16 0, .bool false, .bool false, .int .i64 0, .slice none 0 0]) ?_ 8 _ rfl; refine blk_put (cs := #[.int .u32 0, .int .u32 0, .int .u8 0, .int .u8 0, .int .u16 0, .bool false, .bool false, .int .i64 0, .slice none 0 0]) ?_ 7 _ rfl; refine blk_put (cs := #[.int .u32 0, .int .u32 0, .int .u8 0, .int .u8 0, .int .u16 0, .bool false, .bool false, .int .i64 0, .slice none 0 0]) ?_ 6 _ rfl; refine blk_put (cs := #[.int .u32 0, .int .u32 0, .int .u8 0, .int .u8 0, .int .u16 0, .bool false, .bool false, .int .i64 0, .slice none 0 0]) ?_ 5 _ rfl; refine blk_put (cs := #[.int .u32 0, .int .u32 0, .int .u8 0, .int .u8 0, .int .u16 0, .bool false, .bool false, .int .i64 0, .slice none 0 0]) ?_ 4 _ rfl; refine blk_put (cs := #[.int .u32 0, .int .u32 0, .int .u8 0, .int .u8 0, .int .u16 0, .bool false, .bool false, .int .i64 0, .slice none 0 0]) ?_ 3 _ rfl; refine blk_put (cs := #[.int .u32 0, .int .u32 0, .int .u8 0, .int .u8 0, .int .u16 0, .bool false, .bool false, .int .i64 0, .slice none 0 0]) ?_ 2 _ rfl; refine blk_put (cs := #[.int .u32 0, .int .u32 0, .int .u8 0, .int .u8 0, .int .u16 0, .bool false, .bool false, .int .i64 0, .slice none 0 0]) ?_ 1 _ rfl; refine blk_put (cs := #[.int .u32 0, .int .u32 0, .int .u8 0, .int .u8 0, .int .u16 0, .bool false, .bool false, .int .i64 0, .slice none 0 0]) ?_ 0 _ rfl; (with_reducible repeat (first | refine blk_drewN ?_ _)); exact BKm.out) Try.underlying26 rfl (by kernel_rfl)) rfl ?_
        exact ⟨_, rfl, Kd.R_nil _ _ _ _ _, by refine below_set (g := gb) ?_ HGB.out; refine below_set (g := gb) ?_ HGB.out; refine below_set (g := gb) ?_ HGB.out; refine below_set (g := gb) ?_ HGB.out; refine below_set (g := gb) ?_ HGB.out; refine below_set (g := gb) ?_ HGB.out; refine below_set (g := gb) ?_ HGB.out; refine below_set (g := gb) ?_ HGB.out; refine below_set (g := gb) ?_ HGB.out; (with_reducible repeat (first | apply pw_below_drewN)); exact HBm.out⟩
  · rw [if_neg c8] at h
    have c8b0 : ((Go.bits .and .i64 (wrap64 t3) 32768) == 0) = false := beq_eq_false_iff_ne.mpr c8
    have c8b1 : ((Go.bits .and .i64 (wrap64 t3) 32768) != 0) = true := bne_iff_ne.mpr c8
    clear c8
    simp only [Option.some.injEq, Prod.mk.injEq] at h
    obtain ⟨rfl, rfl, rfl, rfl, rfl, rfl, rfl, rfl, rfl, rfl⟩ := h
    go_wp2_with (first | (go_at_call 30; (with_reducible refine (ip_may.calls k _ _ _ _ _ _ _ _ Av cv y t7 _ (Kd.C_below HCV.out (by (with_reducible repeat (first | apply pw_below_drewN)); exact Below.refl _ _)) HCC.out HMAY.out).mono ?_); rintro e wm ⟨rfl, hbm⟩; have BKm := Aside0.mk (blk_below (o := .cells #[.int .u32 0, .int .u32 0, .int .u8 0, .int .u8 0, .int .u16 0, .bool false, .bool false, .int .i64 0, .slice none 0 0] 26 (0, 0)) (by (with_reducible repeat (first | refine blk_drewN ?_ _)); exact BK.out) hbm); have BAm := Aside0.mk (blk_below (o := .cells #[.int .u32 (wrap64 t4 % 4294967296), .int .u32 (wrap64 t5 % 4294967296), .int .u8 (rd l0 9), .int .u8 (rd l0 8), .int .u16 (IntKind.u16.wrap (wrap64 t6)), .bool (Go.bits .and .i64 (wrap64 t3) 16384 != 0), .bool (Go.bits .and .i64 (wrap64 t3) 8192 != 0), .int .i64 (wrap64 (Go.bits .and .i64 (wrap64 t3) 8191 * 8)), .slice Av y.length cv] 26 (0, 0)) (by (with_reducible repeat (first | refine blk_drewN ?_ _)); exact BA.out) hbm); have VRm : Aside0 (Kd.R (Kd.int .u8) 5 wm w.heap.size (fun _ => True) (.slice Av y.length cv) y) := Aside0.mk (Kd.R_below VR.out (Below.trans (by (with_reducible repeat (first | apply pw_below_drewN)); exact Below.refl _ _) (hbm.mono (Nat.le_refl _)))); have HBm : Aside0 (Below w.heap.size w wm) := Aside0.mk (Below.trans HB.out (Below.trans (by (with_reducible repeat (first | apply pw_below_drewN)); exact Below.refl _ _) (hbm.mono HB.out.size))); clear hbm; obtain ⟨hczf_0, hczf_1, hczf_2, hczf_3, hczf_4, hczf_5, hczf_6, hczf_7, hczf_8⟩ := blk9 BAm.out; obtain ⟨hfzf_0, hfzf_1, hfzf_2, hfzf_3, hfzf_4, hfzf_5, hfzf_6, hfzf_7, hfzf_8⟩ := frz9 BAm.out; obtain ⟨hcze_0, hcze_1, hcze_2, hcze_3, hcze_4, hcze_5, hcze_6, hcze_7, hcze_8⟩ := blk9 BKm.out; obtain ⟨hfze_0, hfze_1, hfze_2, hfze_3, hfze_4, hfze_5, hfze_6, hfze_7, hfze_8⟩ := frz9 BKm.out))
    refine bodyPost_ret (results_ct rfl _ _ gb 26 #[.int .u32 0, .int .u32 0, .int .u8 0, .int .u8 0, .int .u16 0, .bool false, .bool false, .int .i64 0, .slice none 0 0] (0, 0) _ rfl (by refine blk_put (cs := #[.int .u32 0, .int .u32 0, .int .u8 0, .int .u8 0, .int .u16 0, .bool false, .bool false, .int .i64 0, .slice none 0 0]) ?_ 8 _ rfl; refine blk_put (cs := #[.int .u32 0, .int .u32 0, .int .u8 0, .int .u8 0, .int .u16 0, .bool false, .bool false, .int .i64 0, .slice none 0 0]) ?_ 7 _ rfl; refine blk_put (cs := #[.int .u32 0, .int .u32 0, .int .u8 0, .int .u8 0, .int .u16 0, .bool false, .bool false, .int .i64 0, .slice none 0 0]) ?_ 6 _ rfl; refine blk_put (cs := #[.int .u32 0, .int .u32 0, .int .u8 0, .int .u8 0, .int .u16 0, .bool false, .bool false, .int .i64 0, .slice none 0 0]) ?_ 5 _ rfl; refine blk_put (cs := #[.int .u32 0, .int .u32 0, .int .u8 0, .int .u8 0, .int .u16 0, .bool false, .bool false, .int .i64 0, .slice none 0 0]) ?_ 4 _ rfl; refine blk_put (cs := #[.int .u32 0, .int .u32 0, .int .u8 0, .int .u8 0, .int .u16 0, .bool false, .bool false, .int .i64 0, .slice none 0 0]) ?_ 3 _ rfl; refine blk_put (cs := #[.int .u32 0, .int .u32 0, .int .u8 0, .int .u8 0, .int .u16 0, .bool false, .bool false, .int .i64 0, .slice none 0 0]) ?_ 2 _ rfl; refine blk_put (cs := #[.int .u32 0, .int .u32 0, .int .u8 0, .int .u8 0, .int .u16 0, .bool false, .bool false, .int .i64 0, .slice none 0 0]) ?_ 1 _ rfl; refine blk_put (cs := #[.int .u32 0, .int .u32 0, .int .u8 0, .int .u8 0, .int .u16 0, .bool false, .bool false, .int .i64 0, .slice none 0 0]) ?_ 0 _ rfl; (with_reducible repeat (first | refine blk_drewN ?_ _)); exact BKm.out) Try.underlying26 rfl (by kernel_rfl)) rfl ?_
    exact ⟨_, rfl, Kd.R_nil _ _ _ _ _, by refine below_set (g := gb) ?_ HGB.out; refine below_set (g := gb) ?_ HGB.out; refine below_set (g := gb) ?_ HGB.out; refine below_set (g := gb) ?_ HGB.out; refine below_set (g := gb) ?_ HGB.out; refine below_set (g := gb) ?_ HGB.out; refine below_set (g := gb) ?_ HGB.out; refine below_set (g := gb) ?_ HGB.out; refine below_set (g := gb) ?_ HGB.out; (with_reducible repeat (first | apply pw_below_drewN)); exact HBm.out⟩
theorem ip_Take.calls (k : Nat) (A0 : Option Addr) (c0 : Nat) (l0 : List Int) (r1 r2 r3 r4 r5 : Int) (r6 r7 : Bool) (r8 : Int) (r9 : List Int) (r10 : Int) (w : World) (hr0 : Kd.C (Kd.int .u8) w A0 l0.length l0) (hc0 : l0.length ≤ c0) (h : ip_Take.f k l0 = some (r1, r2, r3, r4, r5, r6, r7, r8, r9, r10)) : Calls Try.prog 16 #[.slice A0 l0.length c0] w fun e w' => ∃ v8_ : Value, e = .returned (.tuple #[.agg #[.int .u32 r1, .int .u32 r2, .int .u8 r3, .int .u8 r4, .int .u16 r5, .bool r6, .bool r7, .int .i64 r8, v8_], .int .i64 r10]) ∧ Kd.R (Kd.int .u8) 5 w' w.heap.size (fun _ => True) v8_ r9 ∧ Below w.heap.size w w' := by
  unfold ip_Take.f at h
  by_cases c1 : (l0.length : Int) < 20
  case pos =>
    rw [if_pos c1] at h
    simp only [Option.some.injEq, Prod.mk.injEq] at h
    obtain ⟨rfl, rfl, rfl, rfl, rfl, rfl, rfl, rfl, rfl, rfl⟩ := h
    refine (ip_Take.s1 k A0 c0 l0 w hr0 hc0 c1).mono ?_
    rintro e w' ⟨rfl, hb⟩
    exact ⟨_, rfl, Kd.R_nil _ _ _ _ _, hb⟩
  rw [if_neg c1] at h
  obtain ⟨⟨t1, e1⟩, hn1, h⟩ := Option.bind_eq_some_iff.mp h
  dsimp only at h
  by_cases c2 : rd l0 0 / 16 = 4
  case neg =>
    rw [if_neg c2] at h
    simp only [Option.some.injEq, Prod.mk.injEq] at h
    obtain ⟨rfl, rfl, rfl, rfl, rfl, rfl, rfl, rfl, rfl, rfl⟩ := h
    refine (ip_Take.s2 k A0 c0 l0 w hr0 hc0 c1 t1 e1 hn1 c2).mono ?_
    rintro e w' ⟨rfl, hb⟩
    exact ⟨_, rfl, Kd.R_nil _ _ _ _ _, hb⟩
  rw [if_pos c2] at h
  by_cases c3 : wrap64 (4 * wrap64 (Go.bits .and .u8 (rd l0 0) 15)) < 20
  case pos =>
    rw [if_pos c3] at h
    simp only [Option.some.injEq, Prod.mk.injEq] at h
    obtain ⟨rfl, rfl, rfl, rfl, rfl, rfl, rfl, rfl, rfl, rfl⟩ := h
    refine (ip_Take.s3 k A0 c0 l0 w hr0 hc0 c1 t1 e1 hn1 c2 c3).mono ?_
    rintro e w' ⟨rfl, hb⟩
    exact ⟨_, rfl, Kd.R_nil _ _ _ _ _, hb⟩
  rw [if_neg c3] at h
  by_cases c4 : (l0.length : Int) < wrap64 (4 * wrap64 (Go.bits .and .u8 (rd l0 0) 15))
  case pos =>
    rw [if_pos c4] at h
    simp only [Option.some.injEq, Prod.mk.injEq] at h
    obtain ⟨rfl, rfl, rfl, rfl, rfl, rfl, rfl, rfl, rfl, rfl⟩ := h
    refine (ip_Take.s4 k A0 c0 l0 w hr0 hc0 c1 t1 e1 hn1 c2 c3 c4).mono ?_
    rintro e w' ⟨rfl, hb⟩
    exact ⟨_, rfl, Kd.R_nil _ _ _ _ _, hb⟩
  rw [if_neg c4] at h
  by_cases c5 : wrap64 t1 < wrap64 (4 * wrap64 (Go.bits .and .u8 (rd l0 0) 15))
  case pos =>
    rw [if_pos c5] at h
    simp only [Option.some.injEq, Prod.mk.injEq] at h
    obtain ⟨rfl, rfl, rfl, rfl, rfl, rfl, rfl, rfl, rfl, rfl⟩ := h
    refine (ip_Take.s5 k A0 c0 l0 w hr0 hc0 c1 t1 e1 hn1 c2 c3 c4 c5).mono ?_
    rintro e w' ⟨rfl, hb⟩
    exact ⟨_, rfl, Kd.R_nil _ _ _ _ _, hb⟩
  rw [if_neg c5] at h
  by_cases c6 : (l0.length : Int) < wrap64 t1
  case pos =>
    rw [if_pos c6] at h
    simp only [Option.some.injEq, Prod.mk.injEq] at h
    obtain ⟨rfl, rfl, rfl, rfl, rfl, rfl, rfl, rfl, rfl, rfl⟩ := h
    refine (ip_Take.s6 k A0 c0 l0 w hr0 hc0 c1 t1 e1 hn1 c2 c3 c4 c5 c6).mono ?_
    rintro e w' ⟨rfl, hb⟩
    exact ⟨_, rfl, Kd.R_nil _ _ _ _ _, hb⟩
  rw [if_neg c6] at h
  obtain ⟨t2, hn2, h⟩ := Option.bind_eq_some_iff.mp h
  by_cases c7 : t2 = 0
  case neg =>
    rw [if_neg c7] at h
    simp only [Option.some.injEq, Prod.mk.injEq] at h
    obtain ⟨rfl, rfl, rfl, rfl, rfl, rfl, rfl, rfl, rfl, rfl⟩ := h
    refine (ip_Take.s7 k A0 c0 l0 w hr0 hc0 c1 t1 e1 hn1 c2 c3 c4 c5 c6 t2 hn2 c7).mono ?_
    rintro e w' ⟨rfl, hb⟩
    exact ⟨_, rfl, Kd.R_nil _ _ _ _ _, hb⟩
  rw [if_pos c7] at h
  obtain ⟨⟨t3, e3⟩, hn3, h⟩ := Option.bind_eq_some_iff.mp h
  dsimp only at h
  obtain ⟨⟨t4, e4⟩, hn4, h⟩ := Option.bind_eq_some_iff.mp h
  dsimp only at h
  obtain ⟨⟨t5, e5⟩, hn5, h⟩ := Option.bind_eq_some_iff.mp h
  dsimp only at h
  obtain ⟨⟨t6, e6⟩, hn6, h⟩ := Option.bind_eq_some_iff.mp h
  dsimp only at h
  obtain ⟨y, hcl, h⟩ := Option.bind_eq_some_iff.mp h
  obtain ⟨t7, hn7, h⟩ := Option.bind_eq_some_iff.mp h
  have hy : y = (l0.take (wrap64 t1).toNat).drop (wrap64 (4 * wrap64 (Go.bits .and .u8 (rd l0 0) 15))).toNat := by unfold slices_Clone_byte_byte.f at hcl; split at hcl; (exact (Option.some.inj hcl).symm); (cases hcl)
  exact ip_Take.s8 k A0 c0 l0 w hr0 hc0 c1 t1 e1 hn1 c2 c3 c4 c5 c6 t2 hn2 c7 t3 e3 t4 e4 t5 e5 t6 e6 hn3 hn4 hn5 hn6 t7 y hy ((congrArg slices_Clone_byte_byte.f hy).trans hcl) hn7 r1 r2 r3 r4 r5 r6 r7 r8 r9 r10 h
end Go.Proofs.Ytdligcofjfdhbaa.M
