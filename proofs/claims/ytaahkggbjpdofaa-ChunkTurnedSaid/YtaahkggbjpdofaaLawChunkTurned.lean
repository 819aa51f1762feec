-- Turned by program from the law printed for ChunkBack. Not trusted: Lean checks it.
import Derived.Test.YtaahkggbjpdofaaRows
import Derived.Test.YtaahkggbjpdofaaHTurned
import Derived.Test.YtaahkggbjpdofaaPureChunkTurned
import Derived.Test.YtaahkggbjpdofaaOpens
import Derived.WalkKit
import Derived.ProofKit
import Derived.OpenShut
import Derived.ShutString
import Derived.ChangeOld
import Derived.Below
import Derived.SizedLaws
import Derived.Carry
namespace Go.Proofs.Ytaahkggbjpdofaa.chunkTurned
open Go.ChangeShapes Go.WideShapes Go.ChangeAt Go.RowKit
open Go.ChangeMaps (open_string shut_string)
set_option linter.unusedVariables false
theorem own : ownKnob Try.prog.godebug = none := by kernel_rfl
theorem laidOut : laidOutB Try.prog = true := by kernel_rfl
theorem opn45 : Opens.Opens Try.prog 45 M.k45 M.ok45 := Opens.array Try.underlying45 (by kernel_rfl) (Opens.amore (by kernel_rfl) (Opens.int Try.underlying5) (Opens.amore (by kernel_rfl) (Opens.int Try.underlying5) (Opens.amore (by kernel_rfl) (Opens.int Try.underlying5) (Opens.amore (by kernel_rfl) (Opens.int Try.underlying5) (Opens.aone (by kernel_rfl) (Opens.int Try.underlying5)))))) (fun x : M.S45 => (x.f0, x.f1, x.f2, x.f3, x.f4)) (fun p => (⟨p.1, p.2.1, p.2.2.1, p.2.2.2.1, p.2.2.2.2⟩ : M.S45)) (fun _ => rfl) _ (fun _ h => h)
theorem opn36 : Opens.Opens Try.prog 36 M.k36 M.ok36 := Opens.struct Try.underlying36 (by kernel_rfl) (Opens.fmore rfl (by kernel_rfl) (Opens.int Try.underlying23) (Opens.fmore rfl (by kernel_rfl) (Opens.int Try.underlying23) (Opens.fone rfl (by kernel_rfl) (Opens.int Try.underlying22)))) (fun x : M.S36 => (x.f0, x.f1, x.f2)) (fun p => (⟨p.1, p.2.1, p.2.2⟩ : M.S36)) (fun _ => rfl) _ (fun _ h => h)
theorem opn101 : Opens.Opens Try.prog 101 M.k101 M.ok101 := Opens.array Try.underlying101 (by kernel_rfl) (Opens.amore (by kernel_rfl) (Opens.int Try.underlying23) (Opens.aone (by kernel_rfl) (Opens.int Try.underlying23))) (fun x : M.S101 => (x.f0, x.f1)) (fun p => (⟨p.1, p.2⟩ : M.S101)) (fun _ => rfl) _ (fun _ h => h)
theorem opn48 : Opens.Opens Try.prog 48 M.k48 M.ok48 := Opens.struct Try.underlying48 (by kernel_rfl) (Opens.fmore rfl (by kernel_rfl) (Opens.int Try.underlying23) (Opens.fone rfl (by kernel_rfl) (Opens.slice Try.underlying27 (by kernel_rfl) (B := 1) (by kernel_rfl) (Opens.int Try.underlying5)))) (fun x : M.S48 => (x.f0, x.f1)) (fun p => (⟨p.1, p.2⟩ : M.S48)) (fun _ => rfl) _ (fun _ h => h)
theorem opn29 : Opens.Opens Try.prog 29 M.k29 M.ok29 := Opens.struct Try.underlying29 (by kernel_rfl) (Opens.fmore rfl (by kernel_rfl) (Opens.int Try.underlying5) (Opens.fmore rfl (by kernel_rfl) (Opens.int Try.underlying5) (Opens.fmore rfl (by kernel_rfl) (Opens.int Try.underlying22) (Opens.fmore rfl (by kernel_rfl) (Opens.int Try.underlying23) (Opens.fmore rfl (by kernel_rfl) (Opens.int Try.underlying23) (Opens.fmore rfl (by kernel_rfl) (Opens.int Try.underlying22) (Opens.fmore rfl (by kernel_rfl) (Opens.int Try.underlying22) (Opens.fmore rfl (by kernel_rfl) (Opens.int Try.underlying22) (Opens.fmore rfl (by kernel_rfl) (Opens.int Try.underlying23) (Opens.fmore rfl (by kernel_rfl) (Opens.int Try.underlying23) (Opens.fmore rfl (by kernel_rfl) (Opens.slice Try.underlying24 (by kernel_rfl) (B := 4) (by kernel_rfl) opn101) (Opens.fmore rfl (by kernel_rfl) (Opens.slice Try.underlying25 (by kernel_rfl) (B := 4) (by kernel_rfl) (Opens.int Try.underlying22)) (Opens.fmore rfl (by kernel_rfl) (Opens.slice Try.underlying26 (by kernel_rfl) (B := 32) (by kernel_rfl) opn48) (Opens.fone rfl (by kernel_rfl) (Opens.slice Try.underlying27 (by kernel_rfl) (B := 1) (by kernel_rfl) (Opens.int Try.underlying5)))))))))))))))) (fun x : M.S29 => (x.f0, x.f1, x.f2, x.f3, x.f4, x.f5, x.f6, x.f7, x.f8, x.f9, x.f10, x.f11, x.f12, x.f13)) (fun p => (⟨p.1, p.2.1, p.2.2.1, p.2.2.2.1, p.2.2.2.2.1, p.2.2.2.2.2.1, p.2.2.2.2.2.2.1, p.2.2.2.2.2.2.2.1, p.2.2.2.2.2.2.2.2.1, p.2.2.2.2.2.2.2.2.2.1, p.2.2.2.2.2.2.2.2.2.2.1, p.2.2.2.2.2.2.2.2.2.2.2.1, p.2.2.2.2.2.2.2.2.2.2.2.2.1, p.2.2.2.2.2.2.2.2.2.2.2.2.2⟩ : M.S29)) (fun _ => rfl) _ (fun _ h => h)
set_option maxRecDepth 100000 in
set_option maxHeartbeats 1600000 in
theorem lifted (os : Os) (started : os.Started) (H : Type) (enc : TypeId × Value → H) :
    ReturnsInHanded {} Try.checked os 7 .any (Rows.chunkTurnedSpec.pre6 enc Try.prog Try.f7 Rows.chunkTurnedRow.domain false) (Rows.chunkTurnedSpec.post enc Try.prog Try.f7 false true false false) := by
  refine returnsInHanded_of_change_sized (C := Try.checked) own started (by kernel_rfl) Try.func7
    (ChangeSpec.witness6 (enc := enc) (C := Try.checked) false ⟨#[], #[.agg #[(.int .u16 0), (.int .u16 0), (.int .u32 0)], .slice none 0 0, .agg #[(.int .u8 0), (.int .u8 0), (.int .u8 0), (.int .u8 0), (.int .u8 0)]], []⟩ 8 (by kernel_rfl) (by kernel_rfl) (by kernel_rfl) (by kernel_rfl)) ?_
  intro W base args ds gs before hval0 hW hcnd hsz0 _
  have hsz : (DataW.weightsEach Try.prog (Try.f7.params.toList ++ Rows.chunkTurnedSpec.plain.varTypes Try.prog) (ds ++ gs)).all (· ≤ reachBytes) = true := hsz0
  have hval : ∀ (j : Nat) t v, Try.f7.params[j]? = some t → args[j]? = some v → Value.okWide Try.prog W .any base t v := hval0
  have hW' := hW
  obtain ⟨p, q, hA0, hV, rfl, hfz, hnd⟩ := hW
  have hA : DataW.TrodAll enc Try.prog W 0 (fun _ => true) true Try.f7.params.toList args.toList ds p := hA0
  rw [Try.params7] at hA hval hsz
  obtain ⟨v0, vs0, d0, ds0, p0, q0, hargs, rfl, rfl, h0, r0⟩ := trodAll_cons hA
  obtain ⟨v1, vs1, d1, ds1, p1, q1, rfl, rfl, rfl, h1, r1⟩ := trodAll_cons r0
  obtain ⟨v2, vs2, d2, ds2, p2, q2, rfl, rfl, rfl, h2, r2⟩ := trodAll_cons r1
  obtain ⟨rfl, rfl, rfl⟩ := trodAll_nil r2
  obtain rfl : args = #[v0, v1, v2] := by cases args; simp_all
  obtain ⟨rfl, rfl⟩ := trodVars_none hV
  have k0 := h0
  have lt0 : ∀ x ∈ p0, x.block < W.heap.size := by obtain ⟨m, hm⟩ := k0; exact DataW.trod_lt m _ _ _ hm
  obtain ⟨x0, hK0, ok0⟩ := Opens.arg opn36 hsz (j := 0) (t := 36) rfl rfl h0
  obtain e0 := M.k36_open hK0
  obtain rfl := Opens.agg_of Try.underlying36 (hval 0 36 v0 rfl rfl) e0
  have k1 := h1
  have lt1 : ∀ x ∈ p1, x.block < W.heap.size := by obtain ⟨m, hm⟩ := k1; exact DataW.trod_lt m _ _ _ hm
  obtain ⟨x1, hK1, ok1⟩ := Opens.arg (Opens.slice Try.underlying37 (by kernel_rfl) (B := 128) (by kernel_rfl) opn29) hsz (j := 1) (t := 37) rfl rfl h1
  obtain ⟨A1, c1, e1, l1, g1⟩ := hK1
  obtain ⟨a1, n1, m1, rfl⟩ := okWide_slice Try.underlying37 (hval 1 37 v1 rfl rfl)
  simp only [Value.cells, List.cons.injEq, Value.slice.injEq, and_true] at e1
  obtain ⟨rfl, rfl, rfl⟩ := e1
  have k2 := h2
  have lt2 : ∀ x ∈ p2, x.block < W.heap.size := by obtain ⟨m, hm⟩ := k2; exact DataW.trod_lt m _ _ _ hm
  obtain ⟨x2, hK2, ok2⟩ := Opens.arg opn45 hsz (j := 2) (t := 45) rfl rfl h2
  obtain e2 := M.k45_open hK2
  obtain rfl := Opens.agg_arr Try.underlying45 (hval 2 45 v2 rfl rfl) e2
  clear hA0 hval0 hsz0 hsz
  obtain ⟨kk, H⟩ := Pure.ChunkTurned x0.f0 x0.f1 x0.f2 x1 x2.f0 x2.f1 x2.f2 x2.f3 x2.f4 ok0.1 ok0.2.1 ok0.2.2 ok1.2.1 ok1.1 ok1.2.2 ok2.1 ok2.2.1 ok2.2.2.1 ok2.2.2.2.1 ok2.2.2.2.2
  refine (M.trunklinelaw12_ChunkTurned.calls kk x0.f0 x0.f1 x0.f2 _ _ x1 x2.f0 x2.f1 x2.f2 x2.f3 x2.f4 true W g1 l1 rfl H).mono ?_
  rintro e W' ⟨rfl, hd⟩
  have bel := hd
  exact ⟨_, rfl, _, _, _, [], _, [], hW', trodAll_mk1 (shut_bool Try.underlying4 _), (trodAll_cons_mk (Below.trod laidOut (by kernel_rfl) (of_decide_eq_true (by kernel_rfl)) k0 bel lt0) (trodAll_cons_mk (Below.trod laidOut (by kernel_rfl) (of_decide_eq_true (by kernel_rfl)) k1 bel lt1) (trodAll_cons_mk (Below.trod laidOut (by kernel_rfl) (of_decide_eq_true (by kernel_rfl)) k2 bel lt2) trodAll_mk0))), rfl, bel.frame _, fun h => by cases h⟩
theorem over : Rows.chunkTurnedRow.holds Try.pinned (OpenSpec.ofChange Rows.chunkTurnedSpec) :=
  OpenClaim.holds_of_wide 7 Try.f7 rfl rfl rfl rfl rfl rfl rfl ⟨rfl, rfl, rfl, rfl, rfl⟩ rfl rfl rfl rfl rfl (by kernel_rfl) Try.func7 (by kernel_rfl)
    (of_decide_eq_true (by kernel_rfl)) (by unfold Func.isWrapper; first | (rw [if_pos (by decide +kernel)]; kernel_rfl) | (rw [if_neg (by decide +kernel)]; exact ⟨rfl, rfl⟩))
    (fun os started H enc _ => lifted os started H enc)
theorem proved : Rows.ChunkTurnedSaid := over
#print axioms proved
end Go.Proofs.Ytaahkggbjpdofaa.chunkTurned
namespace Go.Proofs.Ytaahkggbjpdofaa
/-- The row, under a short name, for the claim. -/
theorem chunkTurned_holds : Rows.ChunkTurnedSaid := chunkTurned.proved
end Go.Proofs.Ytaahkggbjpdofaa
