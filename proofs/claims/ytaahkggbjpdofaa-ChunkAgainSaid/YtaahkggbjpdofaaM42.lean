-- Printed by this session's mp.py over the kit's print (turned in memory). Not trusted: Lean checks it.
import Derived.Test.YtaahkggbjpdofaaM0
import Derived.Test.YtaahkggbjpdofaaM10
import Derived.Test.YtaahkggbjpdofaaM9
import Derived.Test.YtaahkggbjpdofaaM15
import Derived.Test.YtaahkggbjpdofaaHSame
import Derived.Test.YtaahkggbjpdofaaHCatch
namespace Go.Proofs.Ytaahkggbjpdofaa.M
open Go.RowKit Go.Proofs.YtaahkggbjpdofaaW.PrintWords Go.Proofs.YtaahkggbjpdofaaW.PrintLast Go.Proofs.YtaahkggbjpdofaaW.PrintMore
attribute [local go_sem] max2_int min2_int max_two min_two max_three min_three max_four min_four   -- for this text's walks alone
set_option linter.unusedVariables false
set_option linter.unusedSimpArgs false

attribute [local go_sem high] eqA36
/-! ### trunklinelaw12_ChunkAgain: function 8 -/
def trunklinelaw12_ChunkAgain.f (k : Nat) (l0 : List Int) : Option (Bool) := (chunk_Take.f k l0).bind fun bt464 => (if bt464.2.2.2.2 = 0 then ((chunk_Put.f k bt464.1 bt464.2.1 bt464.2.2.1 bt464.2.2.2.1).bind fun bt473 => ((chunk_Take.f k bt473.1).bind fun bt477 => ((trunklinelaw12_live.f k).bind fun t485 => (if t485 = true then (if bt473.2 = 0 then (if bt477.2.2.2.2 = 0 then (if (bt473.1.length : Int) ≤ (l0.length : Int) then (if (bt477.1 == bt464.1 && (bt477.2.1 == bt464.2.1 && (bt477.2.2.1 == bt464.2.2.1))) = true then ((trunklineref12_SameAll.f k bt464.2.2.2.1 bt477.2.2.2.1).bind fun t486 => (some t486)) else (some false)) else (some false)) else (some false)) else (some false)) else (some false))))) else ((trunklinelaw12_live.f k).bind fun t472 => (if t472 = true then (if (bt464.2.2.2.1.length : Int) = 0 then (some (bt464.1 == 0 && (bt464.2.1 == 0 && (bt464.2.2.1 == 0)))) else (some false)) else (some false))))
theorem trunklinelaw12_ChunkAgain.mono : ∀ a0 k, LeO (trunklinelaw12_ChunkAgain.f k a0) (trunklinelaw12_ChunkAgain.f (k + 1) a0) := by
  intro a0 k
  unfold trunklinelaw12_ChunkAgain.f
  repeat' first
      | (with_reducible exact chunk_Put.mono _ _ _ _ _)
      | (with_reducible exact chunk_Take.mono _ _)
      | (with_reducible exact trunklinelaw12_live.mono _)
      | (with_reducible exact trunklineref12_SameAll.mono _ _ _)
      | (with_reducible exact LeO.refl _)
      | (with_reducible exact LeO.none _)
      | (with_reducible refine LeO.ite ?_ ?_)
      | (with_reducible refine LeO.bind ?_ (fun _ => ?_))
      | exact chunk_Put.mono _ _ _ _ _
      | exact chunk_Take.mono _ _
      | exact trunklinelaw12_live.mono _
      | exact trunklineref12_SameAll.mono _ _ _
      | exact LeO.none _
      | refine LeO.ite ?_ ?_
      | refine LeO.bind ?_ (fun _ => ?_)
set_option maxHeartbeats 8000000 in
set_option maxRecDepth 100000 in
theorem trunklinelaw12_ChunkAgain.calls (k : Nat) (A0 : Option Addr) (c0 : Nat) (l0 : List Int) (r : Bool) (w : World) (hr0 : Kd.C (Kd.int .u8) w A0 l0.length l0) (hc0 : l0.length ≤ c0) (hr_ : r = true) (h : trunklinelaw12_ChunkAgain.f k l0 = some r) :
    Calls Try.prog 8 #[.slice A0 l0.length c0] w fun e w' => e = .returned (.bool r) ∧ Below w.heap.size w w' := by
  have HRT := Aside0.mk hr_
  clear hr_
  have hu36 := Try.underlying36
  have HR0 := Aside0.mk hr0
  have HC0 := Aside0.mk hc0
  clear hr0 hc0
  have HB := Aside0.mk (Below.refl w.heap.size w)
  have H : ((chunk_Take.f k l0).bind fun bt464 => (if bt464.2.2.2.2 = 0 then ((chunk_Put.f k bt464.1 bt464.2.1 bt464.2.2.1 bt464.2.2.2.1).bind fun bt473 => ((chunk_Take.f k bt473.1).bind fun bt477 => ((trunklinelaw12_live.f k).bind fun t485 => (if t485 = true then (if bt473.2 = 0 then (if bt477.2.2.2.2 = 0 then (if (bt473.1.length : Int) ≤ (l0.length : Int) then (if (bt477.1 == bt464.1 && (bt477.2.1 == bt464.2.1 && (bt477.2.2.1 == bt464.2.2.1))) = true then ((trunklineref12_SameAll.f k bt464.2.2.2.1 bt477.2.2.2.1).bind fun t486 => (some t486)) else (some false)) else (some false)) else (some false)) else (some false)) else (some false))))) else ((trunklinelaw12_live.f k).bind fun t472 => (if t472 = true then (if (bt464.2.2.2.1.length : Int) = 0 then (some (bt464.1 == 0 && (bt464.2.1 == 0 && (bt464.2.2.1 == 0)))) else (some false)) else (some false))))) = some r := h
  clear h
  replace H := Option.bind_eq_some_iff.mp H
  obtain ⟨⟨t464, t465, t466, t467, t470⟩, A20, H⟩ := H
  replace H : (if t470 = 0 then ((chunk_Put.f k t464 t465 t466 t467).bind fun bt473 => ((chunk_Take.f k bt473.1).bind fun bt477 => ((trunklinelaw12_live.f k).bind fun t485 => (if t485 = true then (if bt473.2 = 0 then (if bt477.2.2.2.2 = 0 then (if (bt473.1.length : Int) ≤ (l0.length : Int) then (if (bt477.1 == t464 && (bt477.2.1 == t465 && (bt477.2.2.1 == t466))) = true then ((trunklineref12_SameAll.f k t467 bt477.2.2.2.1).bind fun t486 => (some t486)) else (some false)) else (some false)) else (some false)) else (some false)) else (some false))))) else ((trunklinelaw12_live.f k).bind fun t472 => (if t472 = true then (if (t467.length : Int) = 0 then (some (t464 == 0 && (t465 == 0 && (t466 == 0)))) else (some false)) else (some false)))) = some r := H
  have A2 := Aside0.mk A20
  clear A20
  by_cases c3 : t470 = 0
  · rw [if_pos c3] at H
    have c3b0 : (t470 == 0) = true := beq_iff_eq.mpr c3
    have c3b1 : (t470 != 0) = false := bne_eq_false_iff_eq.mpr c3
    clear c3
    replace H := Option.bind_eq_some_iff.mp H
    obtain ⟨⟨t473, t476⟩, A40, H⟩ := H
    replace H : ((chunk_Take.f k t473).bind fun bt477 => ((trunklinelaw12_live.f k).bind fun t485 => (if t485 = true then (if t476 = 0 then (if bt477.2.2.2.2 = 0 then (if (t473.length : Int) ≤ (l0.length : Int) then (if (bt477.1 == t464 && (bt477.2.1 == t465 && (bt477.2.2.1 == t466))) = true then ((trunklineref12_SameAll.f k t467 bt477.2.2.2.1).bind fun t486 => (some t486)) else (some false)) else (some false)) else (some false)) else (some false)) else (some false)))) = some r := H
    have A4 := Aside0.mk A40
    clear A40
    replace H := Option.bind_eq_some_iff.mp H
    obtain ⟨⟨t477, t478, t479, t480, t483⟩, A50, H⟩ := H
    replace H : ((trunklinelaw12_live.f k).bind fun t485 => (if t485 = true then (if t476 = 0 then (if t483 = 0 then (if (t473.length : Int) ≤ (l0.length : Int) then (if (t477 == t464 && (t478 == t465 && (t479 == t466))) = true then ((trunklineref12_SameAll.f k t467 t480).bind fun t486 => (some t486)) else (some false)) else (some false)) else (some false)) else (some false)) else (some false))) = some r := H
    have A5 := Aside0.mk A50
    clear A50
    replace H := Option.bind_eq_some_iff.mp H
    obtain ⟨t485, A60, H⟩ := H
    replace H : (if t485 = true then (if t476 = 0 then (if t483 = 0 then (if (t473.length : Int) ≤ (l0.length : Int) then (if (t477 == t464 && (t478 == t465 && (t479 == t466))) = true then ((trunklineref12_SameAll.f k t467 t480).bind fun t486 => (some t486)) else (some false)) else (some false)) else (some false)) else (some false)) else (some false)) = some r := H
    have A6 := Aside0.mk A60
    clear A60
    by_cases c7 : t485 = true
    · subst c7
      have H1 : (if t476 = 0 then (if t483 = 0 then (if (t473.length : Int) ≤ (l0.length : Int) then (if (t477 == t464 && (t478 == t465 && (t479 == t466))) = true then ((trunklineref12_SameAll.f k t467 t480).bind fun t486 => (some t486)) else (some false)) else (some false)) else (some false)) else (some false)) = some r := by rw [if_pos rfl] at H; exact H
      clear H
      have H := H1
      clear H1
      by_cases c8 : t476 = 0
      · rw [if_pos c8] at H
        have c8b0 : (t476 == 0) = true := beq_iff_eq.mpr c8
        have c8b1 : (t476 != 0) = false := bne_eq_false_iff_eq.mpr c8
        clear c8
        by_cases c9 : t483 = 0
        · rw [if_pos c9] at H
          have c9b0 : (t483 == 0) = true := beq_iff_eq.mpr c9
          have c9b1 : (t483 != 0) = false := bne_eq_false_iff_eq.mpr c9
          clear c9
          by_cases c10 : (t473.length : Int) ≤ (l0.length : Int)
          · rw [if_pos c10] at H
            have c10b0 : decide ((t473.length : Int) ≤ (l0.length : Int)) = true := decide_eq_true c10
            have c10b1 : decide (t473.length ≤ l0.length) = true := decide_eq_true (Int.ofNat_le.mp c10)
            clear c10
            by_cases c11 : (t477 == t464 && (t478 == t465 && (t479 == t466))) = true
            · rw [if_pos c11] at H
              have c11b0 : (t477 == t464 && (t478 == t465 && (t479 == t466))) = true := c11
              (try (have c11b1 : decide (t477 = t464 && (t478 == t465 && (t479 == t466))) = true := by simpa using c11))
              (try (have c11b2 : (t477 == t464 && (t478 == t465 && (t479 == t466))) = true := by simpa using c11))
              clear c11
              replace H := Option.bind_eq_some_iff.mp H
              obtain ⟨t486, A120, H⟩ := H
              replace H : (some t486) = some r := H
              have A12 := Aside0.mk A120
              clear A120
              obtain rfl := Option.some.inj H
              go_enter Try.func8, Try.ntmps8
              go_wp2_with (first | ((with_reducible refine gate_callee (f := 18) rfl ?_); refine goesL_ (some 13) rfl rfl Try.func18 (by kernel_rfl) rfl #[.slice A0 l0.length c0] rfl (by (try simp only [List.map_toArray, List.map_cons, List.map_nil]); first | done | rfl | (simp only [List.length_drop, List.length_take]; rfl)) ?_; (with_reducible refine (chunk_Take.calls k _ _ l0 t464 t465 t466 t467 t470 _ ?side1 ?side2 A2.out).mono ?_); (case side1 => repeat (first | exact HR0.out | (with_reducible refine Kd.C_alloc ?_ _) | (with_reducible refine Kd.C_drewN ?_ _) | (with_reducible refine Kd.C_drew ?_))); (case side2 => exact HC0.out); rintro e w13 ⟨v468, rfl, ho0, hb⟩; refine ⟨_, rfl, ?_⟩; have n0_ := Aside0.mk (Kd.R_lower ho0 (below_size (by repeat (first | (with_reducible first | exact HB.out | apply below_alloc | apply pw_below_drewN | apply below_drew1) | exact HB.out)))); have n1_ := Aside0.mk (below_step (by repeat (first | (with_reducible first | exact HB.out | apply below_alloc | apply pw_below_drewN | apply below_drew1) | exact HB.out)) hb); clear HB; have HO469 := n0_; have HB := n1_; clear n0_ n1_; (try clear hb); (try clear hb2); (try clear hk); (try clear hi); (try clear ho0)) | ((with_reducible refine gate_dst (N := 3) rfl ?_); (try (refine gate_guard (by rfl) ?_; dsimp only)); refine box_event ?hg (N := 3) ?hd (cs := #[.int .u16 0, .int .u16 0, .int .u32 0]) (t := 36) ?hr ?_; (case hd => rfl); (case hg => rfl); (case hr => first | (go_simp; done) | (go_simp; rfl)); intro gb471 hg w14 hbox hb; have n0_ := Aside0.mk (Kd.R_below (by (with_reducible repeat (first | apply Kd.R_alloc | apply Kd.R_drewN | apply Kd.R_drew)); exact HO469.out) hb); have n1_ := Aside0.mk (below_step (by repeat (first | (with_reducible first | exact HB.out | apply below_alloc | apply pw_below_drewN | apply below_drew1) | exact HB.out)) hb); have n2_ := Aside0.mk (hbox); have n3_ := Aside0.mk ((by rw [hg]; exact (below_size (by repeat (first | (with_reducible first | exact HB.out | apply below_alloc | apply pw_below_drewN | apply below_drew1) | exact HB.out))) : w.heap.size ≤ gb471)); have n4_ := Aside0.mk ((by rw [hg]; exact (below_size (by repeat (first | (with_reducible first | exact HB.out | apply below_alloc | apply pw_below_drewN | apply below_drew1) | exact HB.out))) : w.heap.size ≤ gb471)); clear HO469; clear HB; have HO469 := n0_; have HB := n1_; have BK471 := n2_; have GW471 := n3_; have GE471 := n4_; clear n0_ n1_ n2_ n3_ n4_; clear hb hbox hg; have hcz15_0 : w14.cell? ⟨gb471, 0, none⟩ = some (.int .u16 0) := (blk_cell BK471.out 0).trans rfl; have hcz15_1 : w14.cell? ⟨gb471, 1, none⟩ = some (.int .u16 0) := (blk_cell BK471.out 1).trans rfl; have hcz15_2 : w14.cell? ⟨gb471, 2, none⟩ = some (.int .u32 0) := (blk_cell BK471.out 2).trans rfl; have hfz15_0 := blk_frozen BK471.out 0; have hfz15_1 := blk_frozen BK471.out 1; have hfz15_2 := blk_frozen BK471.out 2; obtain ⟨Ao16, co16, eo16⟩ := Kd.R_slice HO469.out; subst eo16) | ((with_reducible refine gate_callee (f := 16) rfl ?_); refine goesL_ (some 33) rfl rfl Try.func16 (by kernel_rfl) rfl #[.agg #[.int .u16 t464, .int .u16 t465, .int .u32 t466], .slice Ao16 t467.length co16] rfl (by (try simp only [List.map_toArray, List.map_cons, List.map_nil]); first | done | rfl | (simp only [List.length_drop, List.length_take]; rfl)) ?_; (with_reducible refine (chunk_Put.calls k t464 t465 t466 _ _ t467 t473 t476 _ ?side1 ?side2 A4.out).mono ?_); (case side1 => refine (Kd.R_reads' (e := 29) (base := w.heap.size) (ok := fun k_ => True) (n := t467.length) (c := co16) ?_).2.2; exact (by (with_reducible repeat (first | apply Kd.R_alloc | apply Kd.R_drewN | apply Kd.R_drew)); exact (Kd.R_mono (Kd.R_far (p := ⟨gb471, 2, none⟩) (Kd.R_far (p := ⟨gb471, 1, none⟩) (Kd.R_far (p := ⟨gb471, 0, none⟩) (Kd.R_types HO469.out BK471.out (by decide)) (fun _ hk => hk.2) (.int .u16 t464)) (fun _ hk => hk.2) (.int .u16 t465)) (fun _ hk => hk.2) (.int .u32 t466)) (fun _ h_ => h_.1)))); (case side2 => exact (Kd.R_reads' HO469.out).2.1); rintro e w17 ⟨v474, rfl, ho0, hb⟩; refine ⟨_, rfl, ?_⟩; have n0_ := Aside0.mk (Kd.R_elder' (by (with_reducible repeat (first | apply Kd.R_alloc | apply Kd.R_drewN | apply Kd.R_drew)); exact (Kd.R_mono (Kd.R_far (p := ⟨gb471, 2, none⟩) (Kd.R_far (p := ⟨gb471, 1, none⟩) (Kd.R_far (p := ⟨gb471, 0, none⟩) (Kd.R_types HO469.out BK471.out (by decide)) (fun _ hk => hk.2) (.int .u16 t464)) (fun _ hk => hk.2) (.int .u16 t465)) (fun _ hk => hk.2) (.int .u32 t466)) (fun _ h_ => h_.1))) (Kd.R_base ho0) hb); have n1_ := Aside0.mk (Kd.R_lower ho0 (below_size (by repeat (first | (with_reducible first | exact HB.out | apply below_alloc | apply pw_below_drewN | apply below_drew1 | refine below_set ?_ GE471.out) | exact HB.out)))); have n2_ := Aside0.mk (blk_below (g := gb471) (o := .cells #[.int .u16 t464, .int .u16 t465, .int .u32 t466] 36 (0, 0)) (by (with_reducible repeat (first | refine blk_drewN ?_ _ | refine blk_drew ?_ | refine blk_alloc ?_ _)); refine blk_put (cs := #[.int .u16 t464, .int .u16 t465, .int .u32 0]) ?_ 2 _ rfl; (with_reducible repeat (first | refine blk_drewN ?_ _ | refine blk_drew ?_ | refine blk_alloc ?_ _)); refine blk_put (cs := #[.int .u16 t464, .int .u16 0, .int .u32 0]) ?_ 1 _ rfl; (with_reducible repeat (first | refine blk_drewN ?_ _ | refine blk_drew ?_ | refine blk_alloc ?_ _)); refine blk_put (cs := #[.int .u16 0, .int .u16 0, .int .u32 0]) ?_ 0 _ rfl; (with_reducible repeat (first | refine blk_drewN ?_ _ | refine blk_drew ?_ | refine blk_alloc ?_ _)); exact BK471.out) hb); have n3_ := Aside0.mk (below_step (by repeat (first | (with_reducible first | exact HB.out | apply below_alloc | apply pw_below_drewN | apply below_drew1 | refine below_set ?_ GE471.out) | exact HB.out)) hb); clear HO469; clear BK471; clear HB; have HO469 := n0_; have HO475 := n1_; have BK471 := n2_; have HB := n3_; clear n0_ n1_ n2_ n3_; (try clear hb); (try clear hb2); (try clear hk); (try clear hi); (try clear ho0); obtain ⟨Ao18, co18, eo18⟩ := Kd.R_slice HO475.out; subst eo18) | ((with_reducible refine gate_callee (f := 18) rfl ?_); refine goesL_ (some 38) rfl rfl Try.func18 (by kernel_rfl) rfl #[.slice Ao18 t473.length co18] rfl (by (try simp only [List.map_toArray, List.map_cons, List.map_nil]); first | done | rfl | (simp only [List.length_drop, List.length_take]; rfl)) ?_; (with_reducible refine (chunk_Take.calls k _ _ t473 t477 t478 t479 t480 t483 _ ?side1 ?side2 A5.out).mono ?_); (case side1 => repeat (first | exact (Kd.R_reads' HO475.out).2.2 | (with_reducible refine Kd.C_alloc ?_ _) | (with_reducible refine Kd.C_drewN ?_ _) | (with_reducible refine Kd.C_drew ?_))); (case side2 => exact (Kd.R_reads' HO475.out).2.1); rintro e w19 ⟨v481, rfl, ho0, hb⟩; refine ⟨_, rfl, ?_⟩; have n0_ := Aside0.mk (Kd.R_elder' (by (with_reducible repeat (first | apply Kd.R_alloc | apply Kd.R_drewN | apply Kd.R_drew)); exact HO469.out) (Kd.R_base ho0) hb); have n1_ := Aside0.mk (Kd.R_below (by (with_reducible repeat (first | apply Kd.R_alloc | apply Kd.R_drewN | apply Kd.R_drew)); exact HO475.out) hb); have n2_ := Aside0.mk (Kd.R_lower (Kd.R_new' (Kd.R_new' ho0 (Kd.R_lt (by (with_reducible repeat (first | apply Kd.R_alloc | apply Kd.R_drewN | apply Kd.R_drew)); exact HO469.out))) (Kd.R_lt (by (with_reducible repeat (first | apply Kd.R_alloc | apply Kd.R_drewN | apply Kd.R_drew)); exact HO475.out))) (below_size (by repeat (first | (with_reducible first | exact HB.out | apply below_alloc | apply pw_below_drewN | apply below_drew1 | refine below_set ?_ GE471.out) | exact HB.out)))); have n3_ := Aside0.mk (blk_below (g := gb471) (o := .cells #[.int .u16 t464, .int .u16 t465, .int .u32 t466] 36 (0, 0)) (by (with_reducible repeat (first | refine blk_drewN ?_ _ | refine blk_drew ?_ | refine blk_alloc ?_ _)); exact BK471.out) hb); have n4_ := Aside0.mk (below_step (by repeat (first | (with_reducible first | exact HB.out | apply below_alloc | apply pw_below_drewN | apply below_drew1 | refine below_set ?_ GE471.out) | exact HB.out)) hb); clear HO469; clear HO475; clear BK471; clear HB; have HO469 := n0_; have HO475 := n1_; have HO482 := n2_; have BK471 := n3_; have HB := n4_; clear n0_ n1_ n2_ n3_ n4_; (try clear hb); (try clear hb2); (try clear hk); (try clear hi); (try clear ho0)) | ((with_reducible refine gate_dst (N := 8) rfl ?_); (try (refine gate_guard (by rfl) ?_; dsimp only)); refine box_event ?hg (N := 8) ?hd (cs := #[.int .u16 0, .int .u16 0, .int .u32 0]) (t := 36) ?hr ?_; (case hd => rfl); (case hg => rfl); (case hr => first | (go_simp; done) | (go_simp; rfl)); intro gb484 hg w20 hbox hb; have n0_ := Aside0.mk (Kd.R_below (by (with_reducible repeat (first | apply Kd.R_alloc | apply Kd.R_drewN | apply Kd.R_drew)); exact HO469.out) hb); have n1_ := Aside0.mk (Kd.R_below (by (with_reducible repeat (first | apply Kd.R_alloc | apply Kd.R_drewN | apply Kd.R_drew)); exact HO475.out) hb); have n2_ := Aside0.mk (Kd.R_below (by (with_reducible repeat (first | apply Kd.R_alloc | apply Kd.R_drewN | apply Kd.R_drew)); exact HO482.out) hb); have n3_ := Aside0.mk (blk_below (g := gb471) (o := .cells #[.int .u16 t464, .int .u16 t465, .int .u32 t466] 36 (0, 0)) (by (with_reducible repeat (first | refine blk_drewN ?_ _ | refine blk_drew ?_ | refine blk_alloc ?_ _)); exact BK471.out) hb); have n4_ := Aside0.mk (below_step (by repeat (first | (with_reducible first | exact HB.out | apply below_alloc | apply pw_below_drewN | apply below_drew1 | refine below_set ?_ GE471.out) | exact HB.out)) hb); have n5_ := Aside0.mk (hbox); have n6_ := Aside0.mk ((by rw [hg]; exact (below_size (by repeat (first | (with_reducible first | exact HB.out | apply below_alloc | apply pw_below_drewN | apply below_drew1 | refine below_set ?_ GE471.out) | exact HB.out))) : w.heap.size ≤ gb484)); have n7_ := Aside0.mk ((by rw [hg]; exact (below_size (by repeat (first | (with_reducible first | exact HB.out | apply below_alloc | apply pw_below_drewN | apply below_drew1 | refine below_set ?_ GE471.out) | exact HB.out))) : w.heap.size ≤ gb484)); have n8_ := Aside0.mk ((by rw [hg]; exact Nat.ne_of_lt (blk_lt (g := gb471) (o := .cells #[.int .u16 t464, .int .u16 t465, .int .u32 t466] 36 (0, 0)) (by (with_reducible repeat (first | refine blk_drewN ?_ _ | refine blk_drew ?_ | refine blk_alloc ?_ _)); exact BK471.out)) : gb471 ≠ gb484)); have n9_ := Aside0.mk ((by rw [hg]; exact Nat.ne_of_gt (blk_lt (g := gb471) (o := .cells #[.int .u16 t464, .int .u16 t465, .int .u32 t466] 36 (0, 0)) (by (with_reducible repeat (first | refine blk_drewN ?_ _ | refine blk_drew ?_ | refine blk_alloc ?_ _)); exact BK471.out)) : gb484 ≠ gb471)); clear HO469; clear HO475; clear HO482; clear BK471; clear HB; have HO469 := n0_; have HO475 := n1_; have HO482 := n2_; have BK471 := n3_; have HB := n4_; have BK484 := n5_; have GW484 := n6_; have GE484 := n7_; have NB471_484 := n8_; have NB484_471 := n9_; clear n0_ n1_ n2_ n3_ n4_ n5_ n6_ n7_ n8_ n9_; clear hb hbox hg; have hnb21 := NB484_471.out; have hnc21 := NB471_484.out; have hcz22_0 : w20.cell? ⟨gb484, 0, none⟩ = some (.int .u16 0) := (blk_cell BK484.out 0).trans rfl; have hcz22_1 : w20.cell? ⟨gb484, 1, none⟩ = some (.int .u16 0) := (blk_cell BK484.out 1).trans rfl; have hcz22_2 : w20.cell? ⟨gb484, 2, none⟩ = some (.int .u32 0) := (blk_cell BK484.out 2).trans rfl; have hfz22_0 := blk_frozen BK484.out 0; have hfz22_1 := blk_frozen BK484.out 1; have hfz22_2 := blk_frozen BK484.out 2) | ((with_reducible refine gate_callee (f := 11) rfl ?_); refine goesL_ (some 42) rfl rfl Try.func11 (by kernel_rfl) rfl #[] rfl (by (try simp only [List.map_toArray, List.map_cons, List.map_nil]); first | done | rfl | (simp only [List.length_drop, List.length_take]; rfl)) ?_; (with_reducible refine (trunklinelaw12_live.calls k  true _ (by first | rfl | exact HRT.out) A6.out).mono ?_); rintro e w23 ⟨rfl, hb⟩; refine ⟨_, rfl, ?_⟩; have n0_ := Aside0.mk (Kd.R_below (by (with_reducible repeat (first | apply Kd.R_alloc | apply Kd.R_drewN | apply Kd.R_drew)); exact (Kd.R_mono (Kd.R_far (p := ⟨gb484, 2, none⟩) (Kd.R_far (p := ⟨gb484, 1, none⟩) (Kd.R_far (p := ⟨gb484, 0, none⟩) (Kd.R_types HO469.out BK484.out (by decide)) (fun _ hk => hk.2) (.int .u16 t477)) (fun _ hk => hk.2) (.int .u16 t478)) (fun _ hk => hk.2) (.int .u32 t479)) (fun _ h_ => h_.1))) hb); have n1_ := Aside0.mk (Kd.R_below (by (with_reducible repeat (first | apply Kd.R_alloc | apply Kd.R_drewN | apply Kd.R_drew)); exact (Kd.R_mono (Kd.R_far (p := ⟨gb484, 2, none⟩) (Kd.R_far (p := ⟨gb484, 1, none⟩) (Kd.R_far (p := ⟨gb484, 0, none⟩) (Kd.R_types HO475.out BK484.out (by decide)) (fun _ hk => hk.2) (.int .u16 t477)) (fun _ hk => hk.2) (.int .u16 t478)) (fun _ hk => hk.2) (.int .u32 t479)) (fun _ h_ => h_.1))) hb); have n2_ := Aside0.mk (Kd.R_below (by (with_reducible repeat (first | apply Kd.R_alloc | apply Kd.R_drewN | apply Kd.R_drew)); exact (Kd.R_mono (Kd.R_far (p := ⟨gb484, 2, none⟩) (Kd.R_far (p := ⟨gb484, 1, none⟩) (Kd.R_far (p := ⟨gb484, 0, none⟩) (Kd.R_types HO482.out BK484.out (by decide)) (fun _ hk => hk.2) (.int .u16 t477)) (fun _ hk => hk.2) (.int .u16 t478)) (fun _ hk => hk.2) (.int .u32 t479)) (fun _ h_ => h_.1))) hb); have n3_ := Aside0.mk (blk_below (g := gb471) (o := .cells #[.int .u16 t464, .int .u16 t465, .int .u32 t466] 36 (0, 0)) (by (with_reducible repeat (first | refine blk_drewN ?_ _ | refine blk_drew ?_ | refine blk_alloc ?_ _)); refine blk_far ?_ NB471_484.out _; (with_reducible repeat (first | refine blk_drewN ?_ _ | refine blk_drew ?_ | refine blk_alloc ?_ _)); refine blk_far ?_ NB471_484.out _; (with_reducible repeat (first | refine blk_drewN ?_ _ | refine blk_drew ?_ | refine blk_alloc ?_ _)); refine blk_far ?_ NB471_484.out _; (with_reducible repeat (first | refine blk_drewN ?_ _ | refine blk_drew ?_ | refine blk_alloc ?_ _)); exact BK471.out) hb); have n4_ := Aside0.mk (blk_below (g := gb484) (o := .cells #[.int .u16 t477, .int .u16 t478, .int .u32 t479] 36 (0, 0)) (by (with_reducible repeat (first | refine blk_drewN ?_ _ | refine blk_drew ?_ | refine blk_alloc ?_ _)); refine blk_put (cs := #[.int .u16 t477, .int .u16 t478, .int .u32 0]) ?_ 2 _ rfl; (with_reducible repeat (first | refine blk_drewN ?_ _ | refine blk_drew ?_ | refine blk_alloc ?_ _)); refine blk_put (cs := #[.int .u16 t477, .int .u16 0, .int .u32 0]) ?_ 1 _ rfl; (with_reducible repeat (first | refine blk_drewN ?_ _ | refine blk_drew ?_ | refine blk_alloc ?_ _)); refine blk_put (cs := #[.int .u16 0, .int .u16 0, .int .u32 0]) ?_ 0 _ rfl; (with_reducible repeat (first | refine blk_drewN ?_ _ | refine blk_drew ?_ | refine blk_alloc ?_ _)); exact BK484.out) hb); have n5_ := Aside0.mk (below_step (by repeat (first | (with_reducible first | exact HB.out | apply below_alloc | apply pw_below_drewN | apply below_drew1 | refine below_set ?_ GE471.out | refine below_set ?_ GE484.out) | exact HB.out)) hb); clear HO469; clear HO475; clear HO482; clear BK471; clear BK484; clear HB; have HO469 := n0_; have HO475 := n1_; have HO482 := n2_; have BK471 := n3_; have BK484 := n4_; have HB := n5_; clear n0_ n1_ n2_ n3_ n4_ n5_; (try clear hb); (try clear hb2); (try clear hk); (try clear hi); have hcz24_0 : w23.cell? ⟨gb484, 0, none⟩ = some (.int .u16 t477) := (blk_cell BK484.out 0).trans rfl; have hcz24_1 : w23.cell? ⟨gb484, 1, none⟩ = some (.int .u16 t478) := (blk_cell BK484.out 1).trans rfl; have hcz24_2 : w23.cell? ⟨gb484, 2, none⟩ = some (.int .u32 t479) := (blk_cell BK484.out 2).trans rfl; have hfz24_0 := blk_frozen BK484.out 0; have hfz24_1 := blk_frozen BK484.out 1; have hfz24_2 := blk_frozen BK484.out 2; have hcz25_0 : w23.cell? ⟨gb471, 0, none⟩ = some (.int .u16 t464) := (blk_cell BK471.out 0).trans rfl; have hcz25_1 : w23.cell? ⟨gb471, 1, none⟩ = some (.int .u16 t465) := (blk_cell BK471.out 1).trans rfl; have hcz25_2 : w23.cell? ⟨gb471, 2, none⟩ = some (.int .u32 t466) := (blk_cell BK471.out 2).trans rfl; have hfz25_0 := blk_frozen BK471.out 0; have hfz25_1 := blk_frozen BK471.out 1; have hfz25_2 := blk_frozen BK471.out 2; obtain ⟨Ao26, co26, eo26⟩ := Kd.R_slice HO482.out; subst eo26) | (go_at_call 20; (with_reducible refine (trunklineref12_SameAll.calls k _ _ t467 _ _ t480 t486 _ ?side1 ?side2 ?side3 ?side4 (by first | rfl | exact HRT.out) A12.out).mono ?_); (case side1 => repeat (first | exact (Kd.R_reads' HO469.out).2.2 | (with_reducible refine Kd.C_alloc ?_ _) | (with_reducible refine Kd.C_drewN ?_ _) | (with_reducible refine Kd.C_drew ?_))); (case side2 => exact (Kd.R_reads' HO469.out).2.1); (case side3 => repeat (first | exact (Kd.R_reads' HO482.out).2.2 | (with_reducible refine Kd.C_alloc ?_ _) | (with_reducible refine Kd.C_drewN ?_ _) | (with_reducible refine Kd.C_drew ?_))); (case side4 => exact (Kd.R_reads' HO482.out).2.1); rintro e w27 ⟨rfl, hb⟩; have n0_ := Aside0.mk (Kd.R_below (by (with_reducible repeat (first | apply Kd.R_alloc | apply Kd.R_drewN | apply Kd.R_drew)); exact HO469.out) hb); have n1_ := Aside0.mk (Kd.R_below (by (with_reducible repeat (first | apply Kd.R_alloc | apply Kd.R_drewN | apply Kd.R_drew)); exact HO475.out) hb); have n2_ := Aside0.mk (Kd.R_below (by (with_reducible repeat (first | apply Kd.R_alloc | apply Kd.R_drewN | apply Kd.R_drew)); exact HO482.out) hb); have n3_ := Aside0.mk (blk_below (g := gb471) (o := .cells #[.int .u16 t464, .int .u16 t465, .int .u32 t466] 36 (0, 0)) (by (with_reducible repeat (first | refine blk_drewN ?_ _ | refine blk_drew ?_ | refine blk_alloc ?_ _)); exact BK471.out) hb); have n4_ := Aside0.mk (blk_below (g := gb484) (o := .cells #[.int .u16 t477, .int .u16 t478, .int .u32 t479] 36 (0, 0)) (by (with_reducible repeat (first | refine blk_drewN ?_ _ | refine blk_drew ?_ | refine blk_alloc ?_ _)); exact BK484.out) hb); have n5_ := Aside0.mk (below_step (by repeat (first | (with_reducible first | exact HB.out | apply below_alloc | apply pw_below_drewN | apply below_drew1 | refine below_set ?_ GE471.out | refine below_set ?_ GE484.out) | exact HB.out)) hb); clear HO469; clear HO475; clear HO482; clear BK471; clear BK484; clear HB; have HO469 := n0_; have HO475 := n1_; have HO482 := n2_; have BK471 := n3_; have BK484 := n4_; have HB := n5_; clear n0_ n1_ n2_ n3_ n4_ n5_; (try clear hb); (try clear hb2); (try clear hk); (try clear hi)))
              go_ret
              exact ⟨by first | rfl | (simp [errW_none, errW_some] <;> rfl) | (simp [*, errW_none, errW_some] <;> rfl), by repeat (first | (with_reducible first | exact HB.out | apply below_alloc | apply pw_below_drewN | apply below_drew1 | refine below_set ?_ GE471.out | refine below_set ?_ GE484.out) | exact HB.out)⟩
            · rw [if_neg c11] at H
              have c11b0 : (t477 == t464 && (t478 == t465 && (t479 == t466))) = false := by simpa using c11
              (try (have c11b1 : decide (t477 = t464 && (t478 == t465 && (t479 == t466))) = false := by simpa using c11))
              (try (have c11b2 : (t477 == t464 && (t478 == t465 && (t479 == t466))) = false := by simpa using c11))
              (try (have c11b3 : ¬ (t477 = t464 && (t478 == t465 && (t479 == t466))) := by simpa using c11))
              clear c11
              rw [HRT.out] at H
              exact absurd H (by simp)
          · rw [if_neg c10] at H
            have c10b0 : decide ((t473.length : Int) ≤ (l0.length : Int)) = false := decide_eq_false c10
            have c10b1 : decide (t473.length ≤ l0.length) = false := decide_eq_false (fun h => c10 (Int.ofNat_le.mpr h))
            clear c10
            rw [HRT.out] at H
            exact absurd H (by simp)
        · rw [if_neg c9] at H
          have c9b0 : (t483 == 0) = false := beq_eq_false_iff_ne.mpr c9
          have c9b1 : (t483 != 0) = true := bne_iff_ne.mpr c9
          rw [HRT.out] at H
          exact absurd H (by simp)
      · rw [if_neg c8] at H
        have c8b0 : (t476 == 0) = false := beq_eq_false_iff_ne.mpr c8
        have c8b1 : (t476 != 0) = true := bne_iff_ne.mpr c8
        rw [HRT.out] at H
        exact absurd H (by simp)
    · replace c7 := Bool.eq_false_iff.mpr c7
      subst c7
      have H1 : (some false) = some r := by rw [if_neg (show ¬ (false = true) by decide)] at H; exact H
      clear H
      have H := H1
      clear H1
      rw [HRT.out] at H
      exact absurd H (by simp)
  · rw [if_neg c3] at H
    have c3b0 : (t470 == 0) = false := beq_eq_false_iff_ne.mpr c3
    have c3b1 : (t470 != 0) = true := bne_iff_ne.mpr c3
    replace H := Option.bind_eq_some_iff.mp H
    obtain ⟨t472, A280, H⟩ := H
    replace H : (if t472 = true then (if (t467.length : Int) = 0 then (some (t464 == 0 && (t465 == 0 && (t466 == 0)))) else (some false)) else (some false)) = some r := H
    have A28 := Aside0.mk A280
    clear A280
    by_cases c29 : t472 = true
    · subst c29
      have H1 : (if (t467.length : Int) = 0 then (some (t464 == 0 && (t465 == 0 && (t466 == 0)))) else (some false)) = some r := by rw [if_pos rfl] at H; exact H
      clear H
      have H := H1
      clear H1
      by_cases c30 : (t467.length : Int) = 0
      · rw [if_pos c30] at H
        have c30b0 : ((t467.length : Int) == 0) = true := beq_iff_eq.mpr c30
        have c30b1 : ((t467.length : Int) != 0) = false := bne_eq_false_iff_eq.mpr c30
        clear c30
        obtain rfl := Option.some.inj H
        go_enter Try.func8, Try.ntmps8
        go_wp2_with (first | ((with_reducible refine gate_callee (f := 18) rfl ?_); refine goesL_ (some 13) rfl rfl Try.func18 (by kernel_rfl) rfl #[.slice A0 l0.length c0] rfl (by (try simp only [List.map_toArray, List.map_cons, List.map_nil]); first | done | rfl | (simp only [List.length_drop, List.length_take]; rfl)) ?_; (with_reducible refine (chunk_Take.calls k _ _ l0 t464 t465 t466 t467 t470 _ ?side1 ?side2 A2.out).mono ?_); (case side1 => repeat (first | exact HR0.out | (with_reducible refine Kd.C_alloc ?_ _) | (with_reducible refine Kd.C_drewN ?_ _) | (with_reducible refine Kd.C_drew ?_))); (case side2 => exact HC0.out); rintro e w31 ⟨v468, rfl, ho0, hb⟩; refine ⟨_, rfl, ?_⟩; have n0_ := Aside0.mk (Kd.R_lower ho0 (below_size (by repeat (first | (with_reducible first | exact HB.out | apply below_alloc | apply pw_below_drewN | apply below_drew1) | exact HB.out)))); have n1_ := Aside0.mk (below_step (by repeat (first | (with_reducible first | exact HB.out | apply below_alloc | apply pw_below_drewN | apply below_drew1) | exact HB.out)) hb); clear HB; have HO469 := n0_; have HB := n1_; clear n0_ n1_; (try clear hb); (try clear hb2); (try clear hk); (try clear hi); (try clear ho0)) | ((with_reducible refine gate_dst (N := 3) rfl ?_); (try (refine gate_guard (by rfl) ?_; dsimp only)); refine box_event ?hg (N := 3) ?hd (cs := #[.int .u16 0, .int .u16 0, .int .u32 0]) (t := 36) ?hr ?_; (case hd => rfl); (case hg => rfl); (case hr => first | (go_simp; done) | (go_simp; rfl)); intro gb471 hg w32 hbox hb; have n0_ := Aside0.mk (Kd.R_below (by (with_reducible repeat (first | apply Kd.R_alloc | apply Kd.R_drewN | apply Kd.R_drew)); exact HO469.out) hb); have n1_ := Aside0.mk (below_step (by repeat (first | (with_reducible first | exact HB.out | apply below_alloc | apply pw_below_drewN | apply below_drew1) | exact HB.out)) hb); have n2_ := Aside0.mk (hbox); have n3_ := Aside0.mk ((by rw [hg]; exact (below_size (by repeat (first | (with_reducible first | exact HB.out | apply below_alloc | apply pw_below_drewN | apply below_drew1) | exact HB.out))) : w.heap.size ≤ gb471)); have n4_ := Aside0.mk ((by rw [hg]; exact (below_size (by repeat (first | (with_reducible first | exact HB.out | apply below_alloc | apply pw_below_drewN | apply below_drew1) | exact HB.out))) : w.heap.size ≤ gb471)); clear HO469; clear HB; have HO469 := n0_; have HB := n1_; have BK471 := n2_; have GW471 := n3_; have GE471 := n4_; clear n0_ n1_ n2_ n3_ n4_; clear hb hbox hg; have hcz33_0 : w32.cell? ⟨gb471, 0, none⟩ = some (.int .u16 0) := (blk_cell BK471.out 0).trans rfl; have hcz33_1 : w32.cell? ⟨gb471, 1, none⟩ = some (.int .u16 0) := (blk_cell BK471.out 1).trans rfl; have hcz33_2 : w32.cell? ⟨gb471, 2, none⟩ = some (.int .u32 0) := (blk_cell BK471.out 2).trans rfl; have hfz33_0 := blk_frozen BK471.out 0; have hfz33_1 := blk_frozen BK471.out 1; have hfz33_2 := blk_frozen BK471.out 2) | ((with_reducible refine gate_callee (f := 11) rfl ?_); refine goesL_ (some 19) rfl rfl Try.func11 (by kernel_rfl) rfl #[] rfl (by (try simp only [List.map_toArray, List.map_cons, List.map_nil]); first | done | rfl | (simp only [List.length_drop, List.length_take]; rfl)) ?_; (with_reducible refine (trunklinelaw12_live.calls k  true _ (by first | rfl | exact HRT.out) A28.out).mono ?_); rintro e w34 ⟨rfl, hb⟩; refine ⟨_, rfl, ?_⟩; have n0_ := Aside0.mk (Kd.R_below (by (with_reducible repeat (first | apply Kd.R_alloc | apply Kd.R_drewN | apply Kd.R_drew)); exact (Kd.R_mono (Kd.R_far (p := ⟨gb471, 2, none⟩) (Kd.R_far (p := ⟨gb471, 1, none⟩) (Kd.R_far (p := ⟨gb471, 0, none⟩) (Kd.R_types HO469.out BK471.out (by decide)) (fun _ hk => hk.2) (.int .u16 t464)) (fun _ hk => hk.2) (.int .u16 t465)) (fun _ hk => hk.2) (.int .u32 t466)) (fun _ h_ => h_.1))) hb); have n1_ := Aside0.mk (blk_below (g := gb471) (o := .cells #[.int .u16 t464, .int .u16 t465, .int .u32 t466] 36 (0, 0)) (by (with_reducible repeat (first | refine blk_drewN ?_ _ | refine blk_drew ?_ | refine blk_alloc ?_ _)); refine blk_put (cs := #[.int .u16 t464, .int .u16 t465, .int .u32 0]) ?_ 2 _ rfl; (with_reducible repeat (first | refine blk_drewN ?_ _ | refine blk_drew ?_ | refine blk_alloc ?_ _)); refine blk_put (cs := #[.int .u16 t464, .int .u16 0, .int .u32 0]) ?_ 1 _ rfl; (with_reducible repeat (first | refine blk_drewN ?_ _ | refine blk_drew ?_ | refine blk_alloc ?_ _)); refine blk_put (cs := #[.int .u16 0, .int .u16 0, .int .u32 0]) ?_ 0 _ rfl; (with_reducible repeat (first | refine blk_drewN ?_ _ | refine blk_drew ?_ | refine blk_alloc ?_ _)); exact BK471.out) hb); have n2_ := Aside0.mk (below_step (by repeat (first | (with_reducible first | exact HB.out | apply below_alloc | apply pw_below_drewN | apply below_drew1 | refine below_set ?_ GE471.out) | exact HB.out)) hb); clear HO469; clear BK471; clear HB; have HO469 := n0_; have BK471 := n1_; have HB := n2_; clear n0_ n1_ n2_; (try clear hb); (try clear hb2); (try clear hk); (try clear hi); obtain ⟨Ao35, co35, eo35⟩ := Kd.R_slice HO469.out; subst eo35; have hcz36_0 : w34.cell? ⟨gb471, 0, none⟩ = some (.int .u16 t464) := (blk_cell BK471.out 0).trans rfl; have hcz36_1 : w34.cell? ⟨gb471, 1, none⟩ = some (.int .u16 t465) := (blk_cell BK471.out 1).trans rfl; have hcz36_2 : w34.cell? ⟨gb471, 2, none⟩ = some (.int .u32 t466) := (blk_cell BK471.out 2).trans rfl; have hfz36_0 := blk_frozen BK471.out 0; have hfz36_1 := blk_frozen BK471.out 1; have hfz36_2 := blk_frozen BK471.out 2))
        go_ret
        exact ⟨by first | rfl | (simp [errW_none, errW_some] <;> rfl) | (simp [*, errW_none, errW_some] <;> rfl), by repeat (first | (with_reducible first | exact HB.out | apply below_alloc | apply pw_below_drewN | apply below_drew1 | refine below_set ?_ GE471.out) | exact HB.out)⟩
      · rw [if_neg c30] at H
        have c30b0 : ((t467.length : Int) == 0) = false := beq_eq_false_iff_ne.mpr c30
        have c30b1 : ((t467.length : Int) != 0) = true := bne_iff_ne.mpr c30
        have c30b2 : ¬ (t467 = []) := fun h_ => c30 (by rw [h_]; rfl)
        rw [HRT.out] at H
        exact absurd H (by simp)
    · replace c29 := Bool.eq_false_iff.mpr c29
      subst c29
      have H1 : (some false) = some r := by rw [if_neg (show ¬ (false = true) by decide)] at H; exact H
      clear H
      have H := H1
      clear H1
      rw [HRT.out] at H
      exact absurd H (by simp)

/-- THE ONE PURE STATEMENT of trunklinelaw12_ChunkAgain: yours. -/
def trunklinelaw12_ChunkAgain.Pure : Prop := ∀ (l0 : List Int), l0.length ≤ maxLen → l0.length * 1 ≤ 140737488351232 → (∀ x ∈ l0, (Lit.int .u8 x).wf = true) → ∃ k, trunklinelaw12_ChunkAgain.f k l0 = some true
theorem trunklinelaw12_ChunkAgain.walk (P : trunklinelaw12_ChunkAgain.Pure) (a0 : Option Addr) (len0 cap0 : Nat) (z0 : List Int) (w : World) (w0 : (a0 = none ∧ len0 = 0 ∧ cap0 = 0 ∧ z0 = []) ∨ ∃ x, a0 = some x ∧ len0 ≤ cap0 ∧ cap0 ≤ maxLen ∧ z0.length = cap0 ∧ (∀ i, i < z0.length → w.cell? (x.add i) = some (.int .u8 (z0.getD i 0))) ∧ ∀ n ∈ z0, (Lit.int .u8 n).wf = true) (y0 : len0 * 1 ≤ 140737488351232) :
    Calls Try.prog 8 #[.slice a0 len0 cap0] w fun e w' => e = .returned (.bool true) ∧ Below w.heap.size w w' := by
  obtain ⟨l0, rfl, hr0, hm0, hw0, hc0⟩ := ReadsInt.ofRowC w0
  obtain ⟨k, h⟩ := P l0 hm0 y0 hw0
  refine (trunklinelaw12_ChunkAgain.calls k _ _ l0 true w (Kd.C_of_reads (d := (0 : Int)) (h1 := fun _ => rfl) hr0) hc0 rfl h).mono ?_
  rintro e w' ⟨rfl, hd⟩
  exact ⟨rfl, hd⟩

end Go.Proofs.Ytaahkggbjpdofaa.M
