-- Printed by this session's mp.py over the kit's print (turned in memory). Not trusted: Lean checks it.
import Derived.Test.YtdligcofjfdhbaaRows
import Derived.Test.YtdligcofjfdhbaaM42
import Derived.Test.YtdligcofjfdhbaaPureIpEchoes
import Derived.Test.YtdligcofjfdhbaaOpens
import Derived.WalkKit
import Derived.ProofKit
import Derived.OpenShut
import Derived.ShutString
import Derived.ChangeOld
import Derived.Below
import Derived.SizedLaws
import Derived.Carry
namespace Go.Proofs.Ytdligcofjfdhbaa.ipEchoes
open Go.ChangeShapes Go.WideShapes Go.ChangeAt Go.RowKit
open Go.ChangeMaps (open_string shut_string)
set_option linter.unusedVariables false
theorem own : ownKnob Try.prog.godebug = none := by kernel_rfl
theorem laidOut : laidOutB Try.prog = true := by kernel_rfl
theorem opn26 : Opens.Opens Try.prog 26 M.k26 M.ok26 := Opens.struct Try.underlying26 (by kernel_rfl) (Opens.fmore rfl (by kernel_rfl) (Opens.int Try.underlying22) (Opens.fmore rfl (by kernel_rfl) (Opens.int Try.underlying22) (Opens.fmore rfl (by kernel_rfl) (Opens.int Try.underlying5) (Opens.fmore rfl (by kernel_rfl) (Opens.int Try.underlying5) (Opens.fmore rfl (by kernel_rfl) (Opens.int Try.underlying23) (Opens.fmore rfl (by kernel_rfl) (Opens.bool Try.underlying4) (Opens.fmore rfl (by kernel_rfl) (Opens.bool Try.underlying4) (Opens.fmore rfl (by kernel_rfl) (Opens.int Try.underlying3) (Opens.fone rfl (by kernel_rfl) (Opens.slice Try.underlying24 (by kernel_rfl) (B := 1) (by kernel_rfl) (Opens.int Try.underlying5))))))))))) (fun x : M.S26 => (x.f0, x.f1, x.f2, x.f3, x.f4, x.f5, x.f6, x.f7, x.f8)) (fun p => (⟨p.1, p.2.1, p.2.2.1, p.2.2.2.1, p.2.2.2.2.1, p.2.2.2.2.2.1, p.2.2.2.2.2.2.1, p.2.2.2.2.2.2.2.1, p.2.2.2.2.2.2.2.2⟩ : M.S26)) (fun _ => rfl) _ (fun _ h => h)
theorem opn44 : Opens.Opens Try.prog 44 M.k44 M.ok44 := Opens.struct Try.underlying44 (by kernel_rfl) (Opens.fmore rfl (by kernel_rfl) (Opens.int Try.underlying5) (Opens.fmore rfl (by kernel_rfl) (Opens.int Try.underlying5) (Opens.fmore rfl (by kernel_rfl) (Opens.int Try.underlying22) (Opens.fone rfl (by kernel_rfl) (Opens.slice Try.underlying24 (by kernel_rfl) (B := 1) (by kernel_rfl) (Opens.int Try.underlying5)))))) (fun x : M.S44 => (x.f0, x.f1, x.f2, x.f3)) (fun p => (⟨p.1, p.2.1, p.2.2.1, p.2.2.2⟩ : M.S44)) (fun _ => rfl) _ (fun _ h => h)
set_option maxRecDepth 100000 in
set_option maxHeartbeats 1600000 in
theorem lifted (os : Os) (started : os.Started) (H : Type) (enc : TypeId × Value → H) :
    ReturnsInHanded {} Try.checked os 12 .any (Rows.ipEchoesSpec.pre6 enc Try.prog Try.f12 Rows.ipEchoesRow.domain false) (Rows.ipEchoesSpec.post enc Try.prog Try.f12 false true false false) := by
  refine returnsInHanded_of_change_sized (C := Try.checked) own started (by kernel_rfl) Try.func12
    (ChangeSpec.witness6 (enc := enc) (C := Try.checked) false ⟨#[], #[.agg #[(.int .u32 0), (.int .u32 0), (.int .u8 0), (.int .u8 0), (.int .u16 0), (.bool false), (.bool false), (.int .i64 0), (.slice none 0 0)], .agg #[(.int .u8 0), (.int .u8 0), (.int .u32 0), (.slice none 0 0)], .bool false], []⟩ 8 (by kernel_rfl) (by kernel_rfl) (by kernel_rfl) (by kernel_rfl)) ?_
  intro W base args ds gs before hval0 hW hcnd hsz0 _
  have hsz : (DataW.weightsEach Try.prog (Try.f12.params.toList ++ Rows.ipEchoesSpec.plain.varTypes Try.prog) (ds ++ gs)).all (· ≤ reachBytes) = true := hsz0
  have hval : ∀ (j : Nat) t v, Try.f12.params[j]? = some t → args[j]? = some v → Value.okWide Try.prog W .any base t v := hval0
  have hW' := hW
  obtain ⟨p, q, hA0, hV, rfl, hfz, hnd⟩ := hW
  have hA : DataW.TrodAll enc Try.prog W 0 (fun _ => true) true Try.f12.params.toList args.toList ds p := hA0
  rw [Try.params12] at hA hval hsz
  obtain ⟨v0, vs0, d0, ds0, p0, q0, hargs, rfl, rfl, h0, r0⟩ := trodAll_cons hA
  obtain ⟨v1, vs1, d1, ds1, p1, q1, rfl, rfl, rfl, h1, r1⟩ := trodAll_cons r0
  obtain ⟨v2, vs2, d2, ds2, p2, q2, rfl, rfl, rfl, h2, r2⟩ := trodAll_cons r1
  obtain ⟨rfl, rfl, rfl⟩ := trodAll_nil r2
  obtain rfl : args = #[v0, v1, v2] := by cases args; simp_all
  obtain ⟨rfl, rfl⟩ := trodVars_none hV
  have k0 := h0
  have lt0 : ∀ x ∈ p0, x.block < W.heap.size := by obtain ⟨m, hm⟩ := k0; exact DataW.trod_lt m _ _ _ hm
  obtain ⟨x0, hK0, ok0⟩ := Opens.arg opn26 hsz (j := 0) (t := 26) rfl rfl h0
  obtain ⟨A0_8, c0_8, e0, l0_8, g0_8⟩ := M.k26_open hK0
  obtain rfl := Opens.agg_of Try.underlying26 (hval 0 26 v0 rfl rfl) e0
  have k1 := h1
  have lt1 : ∀ x ∈ p1, x.block < W.heap.size := by obtain ⟨m, hm⟩ := k1; exact DataW.trod_lt m _ _ _ hm
  obtain ⟨x1, hK1, ok1⟩ := Opens.arg opn44 hsz (j := 1) (t := 44) rfl rfl h1
  obtain ⟨A1_3, c1_3, e1, l1_3, g1_3⟩ := M.k44_open hK1
  obtain rfl := Opens.agg_of Try.underlying44 (hval 1 44 v1 rfl rfl) e1
  obtain ⟨a2, rfl, rfl, rfl⟩ := open_bool Try.underlying4 (hval 2 4 v2 rfl rfl) h2
  clear hA0 hval0 hsz0 hsz
  obtain ⟨kk, H⟩ := Pure.IpEchoes x0.f0 x0.f1 x0.f2 x0.f3 x0.f4 x0.f5 x0.f6 x0.f7 x0.f8 x1.f0 x1.f1 x1.f2 x1.f3 a2 ok0.1 ok0.2.1 ok0.2.2.1 ok0.2.2.2.1 ok0.2.2.2.2.1 ok0.2.2.2.2.2.2.2.1 ok0.2.2.2.2.2.2.2.2.2.1 ok0.2.2.2.2.2.2.2.2.1 ok0.2.2.2.2.2.2.2.2.2.2 ok1.1 ok1.2.1 ok1.2.2.1 ok1.2.2.2.2.1 ok1.2.2.2.1 ok1.2.2.2.2.2
  refine (M.trunklinelaw10_IpEchoes.calls kk x0.f0 x0.f1 x0.f2 x0.f3 x0.f4 x0.f5 x0.f6 x0.f7 _ _ x0.f8 x1.f0 x1.f1 x1.f2 _ _ x1.f3 a2 true W g0_8 l0_8 g1_3 l1_3 rfl H).mono ?_
  rintro e W' ⟨rfl, hd⟩
  have bel := hd
  exact ⟨_, rfl, _, _, _, [], _, [], hW', trodAll_mk1 (shut_bool Try.underlying4 _), (trodAll_cons_mk (Below.trod laidOut (by kernel_rfl) (of_decide_eq_true (by kernel_rfl)) k0 bel lt0) (trodAll_cons_mk (Below.trod laidOut (by kernel_rfl) (of_decide_eq_true (by kernel_rfl)) k1 bel lt1) (trodAll_cons_mk (shut_bool Try.underlying4 _) trodAll_mk0))), rfl, bel.frame _, fun h => by cases h⟩
theorem over : Rows.ipEchoesRow.holds Try.pinned (OpenSpec.ofChange Rows.ipEchoesSpec) :=
  OpenClaim.holds_of_wide 12 Try.f12 rfl rfl rfl rfl rfl rfl rfl ⟨rfl, rfl, rfl, rfl, rfl⟩ rfl rfl rfl rfl rfl (by kernel_rfl) Try.func12 (by kernel_rfl)
    (of_decide_eq_true (by kernel_rfl)) (by unfold Func.isWrapper; first | (rw [if_pos (by decide +kernel)]; kernel_rfl) | (rw [if_neg (by decide +kernel)]; exact ⟨rfl, rfl⟩))
    (fun os started H enc _ => lifted os started H enc)
theorem proved : Rows.IpEchoesSaid := over
#print axioms proved
end Go.Proofs.Ytdligcofjfdhbaa.ipEchoes
namespace Go.Proofs.Ytdligcofjfdhbaa
/-- The row, under a short name, for the claim. -/
theorem ipEchoes_holds : Rows.IpEchoesSaid := ipEchoes.proved
end Go.Proofs.Ytdligcofjfdhbaa
