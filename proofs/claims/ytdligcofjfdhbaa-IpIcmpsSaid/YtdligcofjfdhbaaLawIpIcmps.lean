-- Printed by this session's mp.py over the kit's print (turned in memory). Not trusted: Lean checks it.
import Derived.Test.YtdligcofjfdhbaaRows
import Derived.Test.YtdligcofjfdhbaaM35
import Derived.Test.YtdligcofjfdhbaaPureIpIcmps
import Derived.Test.YtdligcofjfdhbaaOpens
import Derived.WalkKit
import Derived.ProofKit
import Derived.OpenShut
import Derived.ShutString
import Derived.ChangeOld
import Derived.Below
import Derived.SizedLaws
import Derived.Carry
namespace Go.Proofs.Ytdligcofjfdhbaa.ipIcmps
open Go.ChangeShapes Go.WideShapes Go.ChangeAt Go.RowKit
open Go.ChangeMaps (open_string shut_string)
set_option linter.unusedVariables false
theorem own : ownKnob Try.prog.godebug = none := by kernel_rfl
theorem laidOut : laidOutB Try.prog = true := by kernel_rfl
theorem opn44 : Opens.Opens Try.prog 44 M.k44 M.ok44 := Opens.struct Try.underlying44 (by kernel_rfl) (Opens.fmore rfl (by kernel_rfl) (Opens.int Try.underlying5) (Opens.fmore rfl (by kernel_rfl) (Opens.int Try.underlying5) (Opens.fmore rfl (by kernel_rfl) (Opens.int Try.underlying22) (Opens.fone rfl (by kernel_rfl) (Opens.slice Try.underlying24 (by kernel_rfl) (B := 1) (by kernel_rfl) (Opens.int Try.underlying5)))))) (fun x : M.S44 => (x.f0, x.f1, x.f2, x.f3)) (fun p => (⟨p.1, p.2.1, p.2.2.1, p.2.2.2⟩ : M.S44)) (fun _ => rfl) _ (fun _ h => h)
set_option maxRecDepth 100000 in
set_option maxHeartbeats 1600000 in
theorem lifted (os : Os) (started : os.Started) (H : Type) (enc : TypeId × Value → H) :
    ReturnsInHanded {} Try.checked os 10 .any (Rows.ipIcmpsSpec.pre6 enc Try.prog Try.f10 Rows.ipIcmpsRow.domain false) (Rows.ipIcmpsSpec.post enc Try.prog Try.f10 false true false false) := by
  refine returnsInHanded_of_change_sized (C := Try.checked) own started (by kernel_rfl) Try.func10
    (ChangeSpec.witness6 (enc := enc) (C := Try.checked) false ⟨#[], #[.agg #[(.int .u8 0), (.int .u8 0), (.int .u32 0), (.slice none 0 0)], .slice none 0 0], []⟩ 8 (by kernel_rfl) (by kernel_rfl) (by kernel_rfl) (by kernel_rfl)) ?_
  intro W base args ds gs before hval0 hW hcnd hsz0 _
  have hsz : (DataW.weightsEach Try.prog (Try.f10.params.toList ++ Rows.ipIcmpsSpec.plain.varTypes Try.prog) (ds ++ gs)).all (· ≤ reachBytes) = true := hsz0
  have hval : ∀ (j : Nat) t v, Try.f10.params[j]? = some t → args[j]? = some v → Value.okWide Try.prog W .any base t v := hval0
  have hW' := hW
  obtain ⟨p, q, hA0, hV, rfl, hfz, hnd⟩ := hW
  have hA : DataW.TrodAll enc Try.prog W 0 (fun _ => true) true Try.f10.params.toList args.toList ds p := hA0
  rw [Try.params10] at hA hval hsz
  obtain ⟨v0, vs0, d0, ds0, p0, q0, hargs, rfl, rfl, h0, r0⟩ := trodAll_cons hA
  obtain ⟨v1, vs1, d1, ds1, p1, q1, rfl, rfl, rfl, h1, r1⟩ := trodAll_cons r0
  obtain ⟨rfl, rfl, rfl⟩ := trodAll_nil r1
  obtain rfl : args = #[v0, v1] := by cases args; simp_all
  obtain ⟨rfl, rfl⟩ := trodVars_none hV
  have k0 := h0
  have lt0 : ∀ x ∈ p0, x.block < W.heap.size := by obtain ⟨m, hm⟩ := k0; exact DataW.trod_lt m _ _ _ hm
  obtain ⟨x0, hK0, ok0⟩ := Opens.arg opn44 hsz (j := 0) (t := 44) rfl rfl h0
  obtain ⟨A0_3, c0_3, e0, l0_3, g0_3⟩ := M.k44_open hK0
  obtain rfl := Opens.agg_of Try.underlying44 (hval 0 44 v0 rfl rfl) e0
  have k1 := h1
  have lt1 : ∀ x ∈ p1, x.block < W.heap.size := by obtain ⟨m, hm⟩ := k1; exact DataW.trod_lt m _ _ _ hm
  obtain ⟨x1, hK1, ok1⟩ := Opens.arg (Opens.slice Try.underlying24 (by kernel_rfl) (B := 1) (by kernel_rfl) (Opens.int Try.underlying5)) hsz (j := 1) (t := 24) rfl rfl h1
  obtain ⟨A1, c1, e1, l1, g1⟩ := hK1
  obtain ⟨a1, n1, m1, rfl⟩ := okWide_slice Try.underlying24 (hval 1 24 v1 rfl rfl)
  simp only [Value.cells, List.cons.injEq, Value.slice.injEq, and_true] at e1
  obtain ⟨rfl, rfl, rfl⟩ := e1
  clear hA0 hval0 hsz0 hsz
  obtain ⟨kk, H⟩ := Pure.IpIcmps x0.f0 x0.f1 x0.f2 x0.f3 x1 ok0.1 ok0.2.1 ok0.2.2.1 ok0.2.2.2.2.1 ok0.2.2.2.1 ok0.2.2.2.2.2 ok1.2.1 ok1.1 ok1.2.2
  refine (M.trunklinelaw10_IpIcmps.calls kk x0.f0 x0.f1 x0.f2 _ _ x0.f3 _ _ x1 true W g0_3 l0_3 g1 l1 rfl H).mono ?_
  rintro e W' ⟨rfl, hd⟩
  have bel := hd
  exact ⟨_, rfl, _, _, _, [], _, [], hW', trodAll_mk1 (shut_bool Try.underlying4 _), (trodAll_cons_mk (Below.trod laidOut (by kernel_rfl) (of_decide_eq_true (by kernel_rfl)) k0 bel lt0) (trodAll_cons_mk (Below.trod laidOut (by kernel_rfl) (of_decide_eq_true (by kernel_rfl)) k1 bel lt1) trodAll_mk0)), rfl, bel.frame _, fun h => by cases h⟩
theorem over : Rows.ipIcmpsRow.holds Try.pinned (OpenSpec.ofChange Rows.ipIcmpsSpec) :=
  OpenClaim.holds_of_wide 10 Try.f10 rfl rfl rfl rfl rfl rfl rfl ⟨rfl, rfl, rfl, rfl, rfl⟩ rfl rfl rfl rfl rfl (by kernel_rfl) Try.func10 (by kernel_rfl)
    (of_decide_eq_true (by kernel_rfl)) (by unfold Func.isWrapper; first | (rw [if_pos (by decide +kernel)]; kernel_rfl) | (rw [if_neg (by decide +kernel)]; exact ⟨rfl, rfl⟩))
    (fun os started H enc _ => lifted os started H enc)
theorem proved : Rows.IpIcmpsSaid := over
#print axioms proved
end Go.Proofs.Ytdligcofjfdhbaa.ipIcmps
namespace Go.Proofs.Ytdligcofjfdhbaa
/-- The row, under a short name, for the claim. -/
theorem ipIcmps_holds : Rows.IpIcmpsSaid := ipIcmps.proved
end Go.Proofs.Ytdligcofjfdhbaa
