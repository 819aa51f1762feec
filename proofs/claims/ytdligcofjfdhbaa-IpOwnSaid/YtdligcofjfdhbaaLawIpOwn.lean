-- Printed by this session's mp.py over the kit's print (turned in memory). Not trusted: Lean checks it.
import Derived.Test.YtdligcofjfdhbaaRows
import Derived.Test.YtdligcofjfdhbaaM30
import Derived.Test.YtdligcofjfdhbaaPureIpOwn
import Derived.Test.YtdligcofjfdhbaaOpens
import Derived.WalkKit
import Derived.ProofKit
import Derived.OpenShut
import Derived.ShutString
import Derived.ChangeOld
import Derived.Below
import Derived.SizedLaws
import Derived.Carry
namespace Go.Proofs.Ytdligcofjfdhbaa.ipOwn
open Go.ChangeShapes Go.WideShapes Go.ChangeAt Go.RowKit
open Go.ChangeMaps (open_string shut_string)
set_option linter.unusedVariables false
theorem own : ownKnob Try.prog.godebug = none := by kernel_rfl
theorem laidOut : laidOutB Try.prog = true := by kernel_rfl
theorem opn26 : Opens.Opens Try.prog 26 M.k26 M.ok26 := Opens.struct Try.underlying26 (by kernel_rfl) (Opens.fmore rfl (by kernel_rfl) (Opens.int Try.underlying22) (Opens.fmore rfl (by kernel_rfl) (Opens.int Try.underlying22) (Opens.fmore rfl (by kernel_rfl) (Opens.int Try.underlying5) (Opens.fmore rfl (by kernel_rfl) (Opens.int Try.underlying5) (Opens.fmore rfl (by kernel_rfl) (Opens.int Try.underlying23) (Opens.fmore rfl (by kernel_rfl) (Opens.bool Try.underlying4) (Opens.fmore rfl (by kernel_rfl) (Opens.bool Try.underlying4) (Opens.fmore rfl (by kernel_rfl) (Opens.int Try.underlying3) (Opens.fone rfl (by kernel_rfl) (Opens.slice Try.underlying24 (by kernel_rfl) (B := 1) (by kernel_rfl) (Opens.int Try.underlying5))))))))))) (fun x : M.S26 => (x.f0, x.f1, x.f2, x.f3, x.f4, x.f5, x.f6, x.f7, x.f8)) (fun p => (⟨p.1, p.2.1, p.2.2.1, p.2.2.2.1, p.2.2.2.2.1, p.2.2.2.2.2.1, p.2.2.2.2.2.2.1, p.2.2.2.2.2.2.2.1, p.2.2.2.2.2.2.2.2⟩ : M.S26)) (fun _ => rfl) _ (fun _ h => h)
set_option maxRecDepth 100000 in
set_option maxHeartbeats 1600000 in
theorem lifted (os : Os) (started : os.Started) (H : Type) (enc : TypeId × Value → H) :
    ReturnsInHanded {} Try.checked os 9 .any (Rows.ipOwnSpec.pre6 enc Try.prog Try.f9 Rows.ipOwnRow.domain false) (Rows.ipOwnSpec.post enc Try.prog Try.f9 false true false false) := by
  refine returnsInHanded_of_change_sized (C := Try.checked) own started (by kernel_rfl) Try.func9
    (ChangeSpec.witness6 (enc := enc) (C := Try.checked) false ⟨#[], #[.agg #[(.int .u32 0), (.int .u32 0), (.int .u8 0), (.int .u8 0), (.int .u16 0), (.bool false), (.bool false), (.int .i64 0), (.slice none 0 0)], .int .i64 0], []⟩ 8 (by kernel_rfl) (by kernel_rfl) (by kernel_rfl) (by kernel_rfl)) ?_
  intro W base args ds gs before hval0 hW hcnd hsz0 _
  have hsz : (DataW.weightsEach Try.prog (Try.f9.params.toList ++ Rows.ipOwnSpec.plain.varTypes Try.prog) (ds ++ gs)).all (· ≤ reachBytes) = true := hsz0
  have hval : ∀ (j : Nat) t v, Try.f9.params[j]? = some t → args[j]? = some v → Value.okWide Try.prog W .any base t v := hval0
  have hW' := hW
  obtain ⟨p, q, hA0, hV, rfl, hfz, hnd⟩ := hW
  have hA : DataW.TrodAll enc Try.prog W 0 (fun _ => true) true Try.f9.params.toList args.toList ds p := hA0
  rw [Try.params9] at hA hval hsz
  obtain ⟨v0, vs0, d0, ds0, p0, q0, hargs, rfl, rfl, h0, r0⟩ := trodAll_cons hA
  obtain ⟨v1, vs1, d1, ds1, p1, q1, rfl, rfl, rfl, h1, r1⟩ := trodAll_cons r0
  obtain ⟨rfl, rfl, rfl⟩ := trodAll_nil r1
  obtain rfl : args = #[v0, v1] := by cases args; simp_all
  obtain ⟨rfl, rfl⟩ := trodVars_none hV
  have k0 := h0
  have lt0 : ∀ x ∈ p0, x.block < W.heap.size := by obtain ⟨m, hm⟩ := k0; exact DataW.trod_lt m _ _ _ hm
  obtain ⟨x0, hK0, ok0⟩ := Opens.arg opn26 hsz (j := 0) (t := 26) rfl rfl h0
  obtain ⟨A0_8, c0_8, e0, l0_8, g0_8⟩ := M.k26_open hK0
  obtain rfl := Opens.agg_of Try.underlying26 (hval 0 26 v0 rfl rfl) e0
  obtain ⟨a1, rfl, rfl, rfl, w1⟩ := open_int Try.underlying3 (hval 1 3 v1 rfl rfl) h1
  clear hA0 hval0 hsz0 hsz
  obtain ⟨kk, H⟩ := Pure.IpOwn x0.f0 x0.f1 x0.f2 x0.f3 x0.f4 x0.f5 x0.f6 x0.f7 x0.f8 a1 ok0.1 ok0.2.1 ok0.2.2.1 ok0.2.2.2.1 ok0.2.2.2.2.1 ok0.2.2.2.2.2.2.2.1 ok0.2.2.2.2.2.2.2.2.2.1 ok0.2.2.2.2.2.2.2.2.1 ok0.2.2.2.2.2.2.2.2.2.2 w1
  refine (M.trunklinelaw10_IpOwn.calls kk x0.f0 x0.f1 x0.f2 x0.f3 x0.f4 x0.f5 x0.f6 x0.f7 _ _ x0.f8 a1 true W g0_8 l0_8 rfl H).mono ?_
  rintro e W' ⟨rfl, hd⟩
  have bel := hd
  exact ⟨_, rfl, _, _, _, [], _, [], hW', trodAll_mk1 (shut_bool Try.underlying4 _), (trodAll_cons_mk (Below.trod laidOut (by kernel_rfl) (of_decide_eq_true (by kernel_rfl)) k0 bel lt0) (trodAll_cons_mk (shut_int Try.underlying3 w1) trodAll_mk0)), rfl, bel.frame _, fun h => by cases h⟩
theorem over : Rows.ipOwnRow.holds Try.pinned (OpenSpec.ofChange Rows.ipOwnSpec) :=
  OpenClaim.holds_of_wide 9 Try.f9 rfl rfl rfl rfl rfl rfl rfl ⟨rfl, rfl, rfl, rfl, rfl⟩ rfl rfl rfl rfl rfl (by kernel_rfl) Try.func9 (by kernel_rfl)
    (of_decide_eq_true (by kernel_rfl)) (by unfold Func.isWrapper; first | (rw [if_pos (by decide +kernel)]; kernel_rfl) | (rw [if_neg (by decide +kernel)]; exact ⟨rfl, rfl⟩))
    (fun os started H enc _ => lifted os started H enc)
theorem proved : Rows.IpOwnSaid := over
#print axioms proved
end Go.Proofs.Ytdligcofjfdhbaa.ipOwn
namespace Go.Proofs.Ytdligcofjfdhbaa
/-- The row, under a short name, for the claim. -/
theorem ipOwn_holds : Rows.IpOwnSaid := ipOwn.proved
end Go.Proofs.Ytdligcofjfdhbaa
