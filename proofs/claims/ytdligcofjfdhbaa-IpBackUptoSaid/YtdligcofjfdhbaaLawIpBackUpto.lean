-- Printed by this session's mp.py over the kit's print (turned in memory). Not trusted: Lean checks it.
import Derived.Test.YtdligcofjfdhbaaRows
import Derived.Test.YtdligcofjfdhbaaM24
import Derived.Test.YtdligcofjfdhbaaPureIpBackUpto
import Derived.Test.YtdligcofjfdhbaaOpens
import Derived.WalkKit
import Derived.ProofKit
import Derived.OpenShut
import Derived.ShutString
import Derived.ChangeOld
import Derived.Below
import Derived.SizedLaws
import Derived.Deep.CondSized
import Derived.Deep.Slices
import Derived.Carry
namespace Go.Proofs.Ytdligcofjfdhbaa.ipBackUpto
open Go.ChangeShapes Go.WideShapes Go.ChangeAt Go.RowKit
open Go.ChangeMaps (open_string shut_string)
set_option linter.unusedVariables false
theorem own : ownKnob Try.prog.godebug = none := by kernel_rfl
theorem laidOut : laidOutB Try.prog = true := by kernel_rfl
theorem opn26 : Opens.Opens Try.prog 26 M.k26 M.ok26 := Opens.struct Try.underlying26 (by kernel_rfl) (Opens.fmore rfl (by kernel_rfl) (Opens.int Try.underlying22) (Opens.fmore rfl (by kernel_rfl) (Opens.int Try.underlying22) (Opens.fmore rfl (by kernel_rfl) (Opens.int Try.underlying5) (Opens.fmore rfl (by kernel_rfl) (Opens.int Try.underlying5) (Opens.fmore rfl (by kernel_rfl) (Opens.int Try.underlying23) (Opens.fmore rfl (by kernel_rfl) (Opens.bool Try.underlying4) (Opens.fmore rfl (by kernel_rfl) (Opens.bool Try.underlying4) (Opens.fmore rfl (by kernel_rfl) (Opens.int Try.underlying3) (Opens.fone rfl (by kernel_rfl) (Opens.slice Try.underlying24 (by kernel_rfl) (B := 1) (by kernel_rfl) (Opens.int Try.underlying5))))))))))) (fun x : M.S26 => (x.f0, x.f1, x.f2, x.f3, x.f4, x.f5, x.f6, x.f7, x.f8)) (fun p => (⟨p.1, p.2.1, p.2.2.1, p.2.2.2.1, p.2.2.2.2.1, p.2.2.2.2.2.1, p.2.2.2.2.2.2.1, p.2.2.2.2.2.2.2.1, p.2.2.2.2.2.2.2.2⟩ : M.S26)) (fun _ => rfl) _ (fun _ h => h)
theorem bulks_le {H : Type} (l : List (DataW H)) : l.length ≤ Rows.uptoBulkAll l := by
  induction l with
  | nil => simp [Rows.uptoBulkAll]
  | cons x r ih =>
    have h1 : 1 ≤ Rows.uptoBulk x := by cases x with
      | lit l => cases l <;> simp [Rows.uptoBulk]
      | _ => simp [Rows.uptoBulk]
    simp only [Rows.uptoBulkAll, List.length_cons]; omega
theorem bulk_part {H : Type} {d : DataW H} {l : List (DataW H)} (h : d ∈ l) : Rows.uptoBulk d ≤ Rows.uptoBulkAll l := by
  induction l with
  | nil => cases h
  | cons x r ih =>
    simp only [Rows.uptoBulkAll]
    cases List.mem_cons.1 h with
    | inl e => subst e; omega
    | inr e => have := ih e; omega
theorem bulk_slice {H : Type} {enc : TypeId × Value → H} {W : World} {base m : Nat} {spare : Nat → Bool} {held : Bool} {t e : TypeId} {A : Option Addr} {n c : Nat} {d : DataW H} {p : List MemPlace} (ht : Try.prog.underlying t = some (.slice e)) (h : DataW.trod enc Try.prog W base spare held m t [.slice A n c] = some (d, p)) : n ≤ Rows.uptoBulk d := by
  rcases Deep.open_slice ht h with ⟨h0, hx⟩ | ⟨a, len, cap, m, n', D, Pl, h0, hb, hl, hm, hmm, hx, hel⟩
  · simp only [List.cons.injEq, Value.slice.injEq, and_true] at h0
    omega
  · simp only [List.cons.injEq, Value.slice.injEq, and_true] at h0
    injection hx with hx _
    subst hx
    have := bulks_le ((List.range len).map D)
    simp only [Rows.uptoBulk]
    simp at this
    omega
set_option maxRecDepth 100000 in
set_option maxHeartbeats 1600000 in
theorem lifted (os : Os) (started : os.Started) (H : Type) (enc : TypeId × Value → H) (F : Stop.Interp) :
    ReturnsInHanded {} Try.checked os 5 .any ((Rows.OpenSpec.upto Rows.ipBackSpec).pre6 enc Try.prog Try.f5 Rows.ipBackUptoRow.domain false) (((Rows.OpenSpec.upto Rows.ipBackSpec).at F).post enc Try.prog Try.f5 false true false false) := by
  refine returnsInHanded_of_cond_sized (C := Try.checked) (s := (Rows.OpenSpec.upto Rows.ipBackSpec)) (k := Rows.uptoSmall) rfl own started (by kernel_rfl) Try.func5
    (OpenSpec.witness (enc := enc) (C := Try.checked) (s := (Rows.OpenSpec.upto Rows.ipBackSpec)) (k := Rows.uptoSmall) rfl false ⟨#[], #[.agg #[(.int .u32 0), (.int .u32 0), (.int .u8 0), (.int .u8 0), (.int .u16 0), (.bool false), (.bool false), (.int .i64 0), (.slice none 0 0)], .slice none 0 0], []⟩ 8 (by kernel_rfl) (by kernel_rfl) (by kernel_rfl) (x := ([.agg [.lit (.int .u32 0), .lit (.int .u32 0), .lit (.int .u8 0), .lit (.int .u8 0), .lit (.int .u16 0), .lit (.bool false), .lit (.bool false), .lit (.int .i64 0), .nil], .nil], [], [])) (by kernel_rfl) rfl (by kernel_rfl)) ?_
  intro W base args ds gs before hval0 hW hcnd hkk hsz0 _
  have hsz : (DataW.weightsEach Try.prog (Try.f5.params.toList ++ Rows.ipBackSpec.plain.varTypes Try.prog) (ds ++ gs)).all (· ≤ reachBytes) = true := hsz0
  have hval : ∀ (j : Nat) t v, Try.f5.params[j]? = some t → args[j]? = some v → Value.okWide Try.prog W .any base t v := hval0
  have hW' := hW
  obtain ⟨p, q, hA0, hV, rfl, hfz, hnd⟩ := hW
  have hA : DataW.TrodAll enc Try.prog W 0 (fun _ => true) true Try.f5.params.toList args.toList ds p := hA0
  rw [Try.params5] at hA hval hsz
  obtain ⟨v0, vs0, d0, ds0, p0, q0, hargs, rfl, rfl, h0, r0⟩ := trodAll_cons hA
  obtain ⟨v1, vs1, d1, ds1, p1, q1, rfl, rfl, rfl, h1, r1⟩ := trodAll_cons r0
  obtain ⟨rfl, rfl, rfl⟩ := trodAll_nil r1
  obtain rfl : args = #[v0, v1] := by cases args; simp_all
  obtain ⟨rfl, rfl⟩ := trodVars_none hV
  have k0 := h0
  have lt0 : ∀ x ∈ p0, x.block < W.heap.size := by obtain ⟨m, hm⟩ := k0; exact DataW.trod_lt m _ _ _ hm
  obtain ⟨x0, hK0, ok0⟩ := Opens.arg opn26 hsz (j := 0) (t := 26) rfl rfl h0
  obtain ⟨A0_8, c0_8, e0, l0_8, g0_8⟩ := M.k26_open hK0
  obtain rfl := Opens.agg_of Try.underlying26 (hval 0 26 v0 rfl rfl) e0
  have k1 := h1
  have lt1 : ∀ x ∈ p1, x.block < W.heap.size := by obtain ⟨m, hm⟩ := k1; exact DataW.trod_lt m _ _ _ hm
  obtain ⟨x1, hK1, ok1⟩ := Opens.arg (Opens.slice Try.underlying24 (by kernel_rfl) (B := 1) (by kernel_rfl) (Opens.int Try.underlying5)) hsz (j := 1) (t := 24) rfl rfl h1
  obtain ⟨A1, c1, e1, l1, g1⟩ := hK1
  obtain ⟨a1, n1, m1, rfl⟩ := okWide_slice Try.underlying24 (hval 1 24 v1 rfl rfl)
  simp only [Value.cells, List.cons.injEq, Value.slice.injEq, and_true] at e1
  obtain ⟨rfl, rfl, rfl⟩ := e1
  clear hA0 hval0 hsz0 hsz
  have hbd : x1.length ≤ 1048576 := by
    obtain ⟨mm, hmm⟩ := k1
    have h1 := bulk_slice Try.underlying24 hmm
    have h3 : Rows.uptoBulkAll _ ≤ 1048576 := of_decide_eq_true hkk
    have h2 := Nat.le_trans (bulk_part (d := d1) (by simp)) h3
    omega
  obtain ⟨kk, H⟩ := Pure.IpBackUpto x0.f0 x0.f1 x0.f2 x0.f3 x0.f4 x0.f5 x0.f6 x0.f7 x0.f8 x1 ok0.1 ok0.2.1 ok0.2.2.1 ok0.2.2.2.1 ok0.2.2.2.2.1 ok0.2.2.2.2.2.2.2.1 ok0.2.2.2.2.2.2.2.2.2.1 ok0.2.2.2.2.2.2.2.2.1 ok0.2.2.2.2.2.2.2.2.2.2 ok1.2.1 ok1.1 ok1.2.2 hbd
  refine (M.trunklinelaw10_IpBack.calls kk x0.f0 x0.f1 x0.f2 x0.f3 x0.f4 x0.f5 x0.f6 x0.f7 _ _ x0.f8 _ _ x1 true W g0_8 l0_8 g1 l1 rfl H).mono ?_
  rintro e W' ⟨rfl, hd⟩
  have bel := hd
  exact ⟨_, rfl, _, _, _, [], _, [], hW', trodAll_mk1 (shut_bool Try.underlying4 _), (trodAll_cons_mk (Below.trod laidOut (by kernel_rfl) (of_decide_eq_true (by kernel_rfl)) k0 bel lt0) (trodAll_cons_mk (Below.trod laidOut (by kernel_rfl) (of_decide_eq_true (by kernel_rfl)) k1 bel lt1) trodAll_mk0)), rfl, bel.frame _, fun h => by cases h⟩
theorem over : Rows.ipBackUptoRow.holds Try.pinned (Rows.OpenSpec.upto Rows.ipBackSpec) :=
  OpenClaim.holds_of_cond 5 Try.f5 rfl rfl rfl rfl rfl rfl rfl ⟨rfl, rfl, rfl, rfl, rfl⟩ rfl rfl rfl rfl rfl (by kernel_rfl) Try.func5 (by kernel_rfl)
    (of_decide_eq_true (by kernel_rfl)) (by unfold Func.isWrapper; first | (rw [if_pos (by decide +kernel)]; kernel_rfl) | (rw [if_neg (by decide +kernel)]; exact ⟨rfl, rfl⟩))
    (fun os started H enc _ F => lifted os started H enc F)
theorem proved : Rows.IpBackUptoSaid := over
#print axioms proved
end Go.Proofs.Ytdligcofjfdhbaa.ipBackUpto
namespace Go.Proofs.Ytdligcofjfdhbaa
/-- The row, under a short name, for the claim. -/
theorem ipBackUpto_holds : Rows.IpBackUptoSaid := ipBackUpto.proved
end Go.Proofs.Ytdligcofjfdhbaa
