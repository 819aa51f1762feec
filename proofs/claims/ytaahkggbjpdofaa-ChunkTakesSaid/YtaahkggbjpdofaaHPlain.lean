/- chunk.plain at every kind. -/
import Derived.Test.YtaahkggbjpdofaaHOfAll
import Derived.WalkSpells
import Derived.Deep.RegionWith
namespace Go.Proofs.Ytaahkggbjpdofaa.M
open Go.RowKit Go.Proofs.YtaahkggbjpdofaaW.PrintWords Go.Proofs.YtaahkggbjpdofaaW.PrintLast Go.Proofs.YtaahkggbjpdofaaW.PrintMore
set_option linter.unusedVariables false
set_option linter.unusedSimpArgs false
attribute [local go_sem] as_53_53 as_53_80 as_53_81 as_53_82 as_53_83 as_53_85 as_80_53 as_80_80 as_80_81 as_80_82 as_80_83 as_80_85 as_81_53 as_81_80 as_81_81 as_81_82 as_81_83 as_81_85 as_82_53 as_82_80 as_82_81 as_82_82 as_82_83 as_82_85 as_83_53 as_83_80 as_83_81 as_83_82 as_83_83 as_83_85 as_84_53 as_84_80 as_84_81 as_84_82 as_84_83 as_84_85 as_85_53 as_85_80 as_85_81 as_85_82 as_85_83 as_85_85
set_option maxHeartbeats 1600000 in
set_option maxRecDepth 100000 in
theorem plain_53 (t a1 a2 a3 a4 a5 a6 a7 a8 a9 : Int) (A10 A11 A12 A13 : Option Addr) (n10 n11 n12 n13 c10 c11 c12 c13 : Nat) (w : World) (hT : ofT t = 53) :
    Calls Try.prog 27 #[.agg #[.int .u8 t, .int .u8 a1, .int .u32 a2, .int .u16 a3, .int .u16 a4, .int .u32 a5, .int .u32 a6, .int .u32 a7, .int .u16 a8, .int .u16 a9, .slice A10 n10 c10, .slice A11 n11 c11, .slice A12 n12 c12, .slice A13 n13 c13]] w fun e w' => e = .returned (.agg #[.int .u8 t, .int .u8 a1, .int .u32 a2, .int .u16 a3, .int .u16 a4, .int .u32 a5, .int .u32 0, .int .u32 0, .int .u16 0, .int .u16 0, .slice none 0 0, .slice none 0 0, .slice none 0 0, .slice A13 n13 c13]) ∧ Below w.heap.size w w' := by
  have HT := Aside0.mk hT
  clear hT
  go_enter Try.func27, Try.ntmps27
  go_wp2_with (first | (go_at_call 25; (with_reducible refine (of_all 53 _ t _ HT.out ?hc0).mono ?_); (case hc0 => first | (go_simp; done) | (simp; done)); rintro e w2 ⟨rfl, rfl⟩))
  go_region
  go_wp2
  refine bodyPost_ret (v := .agg #[.int .u8 t, .int .u8 a1, .int .u32 a2, .int .u16 a3, .int .u16 a4, .int .u32 a5, .int .u32 0, .int .u32 0, .int .u16 0, .int .u16 0, .slice none 0 0, .slice none 0 0, .slice none 0 0, .slice A13 n13 c13]) (by simp [results, Try.results27, go_sem]) rfl ⟨rfl, ?_⟩
  repeat (first | exact Below.refl _ _ | refine below_alloc ?_ _ | refine Below.setCell ?_ ?_ _ | refine Below.drew ?_)
  all_goals first | (exact Below.refl _ _) | omega | (simp; done) | (simp; omega)
set_option maxHeartbeats 1600000 in
set_option maxRecDepth 100000 in
theorem plain_80 (t a1 a2 a3 a4 a5 a6 a7 a8 a9 : Int) (A10 A11 A12 A13 : Option Addr) (n10 n11 n12 n13 c10 c11 c12 c13 : Nat) (w : World) (hT : ofT t = 80) :
    Calls Try.prog 27 #[.agg #[.int .u8 t, .int .u8 a1, .int .u32 a2, .int .u16 a3, .int .u16 a4, .int .u32 a5, .int .u32 a6, .int .u32 a7, .int .u16 a8, .int .u16 a9, .slice A10 n10 c10, .slice A11 n11 c11, .slice A12 n12 c12, .slice A13 n13 c13]] w fun e w' => e = .returned (.agg #[.int .u8 t, .int .u8 a1, .int .u32 a2, .int .u16 0, .int .u16 0, .int .u32 0, .int .u32 a6, .int .u32 a7, .int .u16 a8, .int .u16 a9, .slice none 0 0, .slice none 0 0, .slice A12 n12 c12, .slice none 0 0]) ∧ Below w.heap.size w w' := by
  have HT := Aside0.mk hT
  clear hT
  go_enter Try.func27, Try.ntmps27
  go_wp2_with (first | (go_at_call 25; (with_reducible refine (of_all 80 _ t _ HT.out ?hc0).mono ?_); (case hc0 => first | (go_simp; done) | (simp; done)); rintro e w2 ⟨rfl, rfl⟩))
  go_region
  go_wp2
  refine bodyPost_ret (v := .agg #[.int .u8 t, .int .u8 a1, .int .u32 a2, .int .u16 0, .int .u16 0, .int .u32 0, .int .u32 a6, .int .u32 a7, .int .u16 a8, .int .u16 a9, .slice none 0 0, .slice none 0 0, .slice A12 n12 c12, .slice none 0 0]) (by simp [results, Try.results27, go_sem]) rfl ⟨rfl, ?_⟩
  repeat (first | exact Below.refl _ _ | refine below_alloc ?_ _ | refine Below.setCell ?_ ?_ _ | refine Below.drew ?_)
  all_goals first | (exact Below.refl _ _) | omega | (simp; done) | (simp; omega)
set_option maxHeartbeats 1600000 in
set_option maxRecDepth 100000 in
theorem plain_81 (t a1 a2 a3 a4 a5 a6 a7 a8 a9 : Int) (A10 A11 A12 A13 : Option Addr) (n10 n11 n12 n13 c10 c11 c12 c13 : Nat) (w : World) (hT : ofT t = 81) :
    Calls Try.prog 27 #[.agg #[.int .u8 t, .int .u8 a1, .int .u32 a2, .int .u16 a3, .int .u16 a4, .int .u32 a5, .int .u32 a6, .int .u32 a7, .int .u16 a8, .int .u16 a9, .slice A10 n10 c10, .slice A11 n11 c11, .slice A12 n12 c12, .slice A13 n13 c13]] w fun e w' => e = .returned (.agg #[.int .u8 t, .int .u8 a1, .int .u32 a2, .int .u16 0, .int .u16 0, .int .u32 0, .int .u32 0, .int .u32 a7, .int .u16 0, .int .u16 0, .slice A10 n10 c10, .slice A11 n11 c11, .slice none 0 0, .slice none 0 0]) ∧ Below w.heap.size w w' := by
  have HT := Aside0.mk hT
  clear hT
  go_enter Try.func27, Try.ntmps27
  go_wp2_with (first | (go_at_call 25; (with_reducible refine (of_all 81 _ t _ HT.out ?hc0).mono ?_); (case hc0 => first | (go_simp; done) | (simp; done)); rintro e w2 ⟨rfl, rfl⟩))
  go_region
  go_wp2
  refine bodyPost_ret (v := .agg #[.int .u8 t, .int .u8 a1, .int .u32 a2, .int .u16 0, .int .u16 0, .int .u32 0, .int .u32 0, .int .u32 a7, .int .u16 0, .int .u16 0, .slice A10 n10 c10, .slice A11 n11 c11, .slice none 0 0, .slice none 0 0]) (by simp [results, Try.results27, go_sem]) rfl ⟨rfl, ?_⟩
  repeat (first | exact Below.refl _ _ | refine below_alloc ?_ _ | refine Below.setCell ?_ ?_ _ | refine Below.drew ?_)
  all_goals first | (exact Below.refl _ _) | omega | (simp; done) | (simp; omega)
set_option maxHeartbeats 1600000 in
set_option maxRecDepth 100000 in
theorem plain_82 (t a1 a2 a3 a4 a5 a6 a7 a8 a9 : Int) (A10 A11 A12 A13 : Option Addr) (n10 n11 n12 n13 c10 c11 c12 c13 : Nat) (w : World) (hT : ofT t = 82) :
    Calls Try.prog 27 #[.agg #[.int .u8 t, .int .u8 a1, .int .u32 a2, .int .u16 a3, .int .u16 a4, .int .u32 a5, .int .u32 a6, .int .u32 a7, .int .u16 a8, .int .u16 a9, .slice A10 n10 c10, .slice A11 n11 c11, .slice A12 n12 c12, .slice A13 n13 c13]] w fun e w' => e = .returned (.agg #[.int .u8 t, .int .u8 a1, .int .u32 0, .int .u16 0, .int .u16 0, .int .u32 0, .int .u32 0, .int .u32 0, .int .u16 0, .int .u16 0, .slice none 0 0, .slice none 0 0, .slice A12 n12 c12, .slice none 0 0]) ∧ Below w.heap.size w w' := by
  have HT := Aside0.mk hT
  clear hT
  go_enter Try.func27, Try.ntmps27
  go_wp2_with (first | (go_at_call 25; (with_reducible refine (of_all 82 _ t _ HT.out ?hc0).mono ?_); (case hc0 => first | (go_simp; done) | (simp; done)); rintro e w2 ⟨rfl, rfl⟩))
  refine bodyPost_ret (v := .agg #[.int .u8 t, .int .u8 a1, .int .u32 0, .int .u16 0, .int .u16 0, .int .u32 0, .int .u32 0, .int .u32 0, .int .u16 0, .int .u16 0, .slice none 0 0, .slice none 0 0, .slice A12 n12 c12, .slice none 0 0]) (by simp [results, Try.results27, go_sem]) rfl ⟨rfl, ?_⟩
  repeat (first | exact Below.refl _ _ | refine below_alloc ?_ _ | refine Below.setCell ?_ ?_ _ | refine Below.drew ?_)
  all_goals first | (exact Below.refl _ _) | omega | (simp; done) | (simp; omega)
set_option maxHeartbeats 1600000 in
set_option maxRecDepth 100000 in
theorem plain_83 (t a1 a2 a3 a4 a5 a6 a7 a8 a9 : Int) (A10 A11 A12 A13 : Option Addr) (n10 n11 n12 n13 c10 c11 c12 c13 : Nat) (w : World) (hT : ofT t = 83) :
    Calls Try.prog 27 #[.agg #[.int .u8 t, .int .u8 a1, .int .u32 a2, .int .u16 a3, .int .u16 a4, .int .u32 a5, .int .u32 a6, .int .u32 a7, .int .u16 a8, .int .u16 a9, .slice A10 n10 c10, .slice A11 n11 c11, .slice A12 n12 c12, .slice A13 n13 c13]] w fun e w' => e = .returned (.agg #[.int .u8 t, .int .u8 a1, .int .u32 a2, .int .u16 0, .int .u16 0, .int .u32 0, .int .u32 0, .int .u32 0, .int .u16 0, .int .u16 0, .slice none 0 0, .slice none 0 0, .slice none 0 0, .slice none 0 0]) ∧ Below w.heap.size w w' := by
  have HT := Aside0.mk hT
  clear hT
  go_enter Try.func27, Try.ntmps27
  go_wp2_with (first | (go_at_call 25; (with_reducible refine (of_all 83 _ t _ HT.out ?hc0).mono ?_); (case hc0 => first | (go_simp; done) | (simp; done)); rintro e w2 ⟨rfl, rfl⟩))
  refine bodyPost_ret (v := .agg #[.int .u8 t, .int .u8 a1, .int .u32 a2, .int .u16 0, .int .u16 0, .int .u32 0, .int .u32 0, .int .u32 0, .int .u16 0, .int .u16 0, .slice none 0 0, .slice none 0 0, .slice none 0 0, .slice none 0 0]) (by simp [results, Try.results27, go_sem]) rfl ⟨rfl, ?_⟩
  repeat (first | exact Below.refl _ _ | refine below_alloc ?_ _ | refine Below.setCell ?_ ?_ _ | refine Below.drew ?_)
  all_goals first | (exact Below.refl _ _) | omega | (simp; done) | (simp; omega)
set_option maxHeartbeats 1600000 in
set_option maxRecDepth 100000 in
theorem plain_84 (t a1 a2 a3 a4 a5 a6 a7 a8 a9 : Int) (A10 A11 A12 A13 : Option Addr) (n10 n11 n12 n13 c10 c11 c12 c13 : Nat) (w : World) (hT : ofT t = 84) :
    Calls Try.prog 27 #[.agg #[.int .u8 t, .int .u8 a1, .int .u32 a2, .int .u16 a3, .int .u16 a4, .int .u32 a5, .int .u32 a6, .int .u32 a7, .int .u16 a8, .int .u16 a9, .slice A10 n10 c10, .slice A11 n11 c11, .slice A12 n12 c12, .slice A13 n13 c13]] w fun e w' => e = .returned (.agg #[.int .u8 t, .int .u8 a1, .int .u32 0, .int .u16 0, .int .u16 0, .int .u32 0, .int .u32 0, .int .u32 0, .int .u16 0, .int .u16 0, .slice none 0 0, .slice none 0 0, .slice none 0 0, .slice none 0 0]) ∧ Below w.heap.size w w' := by
  have HT := Aside0.mk hT
  clear hT
  go_enter Try.func27, Try.ntmps27
  go_wp2_with (first | (go_at_call 25; (with_reducible refine (of_all 84 _ t _ HT.out ?hc0).mono ?_); (case hc0 => first | (go_simp; done) | (simp; done)); rintro e w2 ⟨rfl, rfl⟩))
  refine bodyPost_ret (v := .agg #[.int .u8 t, .int .u8 a1, .int .u32 0, .int .u16 0, .int .u16 0, .int .u32 0, .int .u32 0, .int .u32 0, .int .u16 0, .int .u16 0, .slice none 0 0, .slice none 0 0, .slice none 0 0, .slice none 0 0]) (by simp [results, Try.results27, go_sem]) rfl ⟨rfl, ?_⟩
  repeat (first | exact Below.refl _ _ | refine below_alloc ?_ _ | refine Below.setCell ?_ ?_ _ | refine Below.drew ?_)
  all_goals first | (exact Below.refl _ _) | omega | (simp; done) | (simp; omega)
set_option maxHeartbeats 1600000 in
set_option maxRecDepth 100000 in
theorem plain_85 (t a1 a2 a3 a4 a5 a6 a7 a8 a9 : Int) (A10 A11 A12 A13 : Option Addr) (n10 n11 n12 n13 c10 c11 c12 c13 : Nat) (w : World) (hT : ofT t = 85) :
    Calls Try.prog 27 #[.agg #[.int .u8 t, .int .u8 a1, .int .u32 a2, .int .u16 a3, .int .u16 a4, .int .u32 a5, .int .u32 a6, .int .u32 a7, .int .u16 a8, .int .u16 a9, .slice A10 n10 c10, .slice A11 n11 c11, .slice A12 n12 c12, .slice A13 n13 c13]] w fun e w' => e = .returned (.agg #[.int .u8 t, .int .u8 a1, .int .u32 0, .int .u16 0, .int .u16 0, .int .u32 0, .int .u32 0, .int .u32 0, .int .u16 0, .int .u16 0, .slice none 0 0, .slice none 0 0, .slice none 0 0, .slice A13 n13 c13]) ∧ Below w.heap.size w w' := by
  have HT := Aside0.mk hT
  clear hT
  go_enter Try.func27, Try.ntmps27
  go_wp2_with (first | (go_at_call 25; (with_reducible refine (of_all 85 _ t _ HT.out ?hc0).mono ?_); (case hc0 => first | (go_simp; done) | (simp; done)); rintro e w2 ⟨rfl, rfl⟩))
  refine bodyPost_ret (v := .agg #[.int .u8 t, .int .u8 a1, .int .u32 0, .int .u16 0, .int .u16 0, .int .u32 0, .int .u32 0, .int .u32 0, .int .u16 0, .int .u16 0, .slice none 0 0, .slice none 0 0, .slice none 0 0, .slice A13 n13 c13]) (by simp [results, Try.results27, go_sem]) rfl ⟨rfl, ?_⟩
  repeat (first | exact Below.refl _ _ | refine below_alloc ?_ _ | refine Below.setCell ?_ ?_ _ | refine Below.drew ?_)
  all_goals first | (exact Below.refl _ _) | omega | (simp; done) | (simp; omega)
end Go.Proofs.Ytaahkggbjpdofaa.M
