/- IpBack: the plain law, where the bytes behind are at most 1048576. -/
import Derived.Test.YtdligcofjfdhbaaM24
import Derived.Test.YtdligcofjfdhbaaPIpTake
import Derived.Test.YtdligcofjfdhbaaPIpLive
namespace Go.Proofs.Ytdligcofjfdhbaa.Pure
open Go.RowKit Go.Proofs.Ytdligcofjfdhbaa.M Go.Proofs.YtdligcofjfdhbaaW.PrintWords Go.Proofs.YtdligcofjfdhbaaW.PrintLast Go.Proofs.YtdligcofjfdhbaaW.PrintMore
set_option linter.unusedVariables false
set_option linter.unusedSimpArgs false

theorem Same_one (a0 a1 a2 a3 a4 : Int) (a5 a6 : Bool) (a7 : Int) (l : List Int) : trunklineref10_Same.f a0 a1 a2 a3 a4 a5 a6 a7 l a0 a1 a2 a3 a4 a5 a6 a7 l = some true := by
  unfold trunklineref10_Same.f; simp
theorem IpBackUpto : ∀ (a0_0 : Int) (a0_1 : Int) (a0_2 : Int) (a0_3 : Int) (a0_4 : Int) (a0_5 : Bool) (a0_6 : Bool) (a0_7 : Int) (l0_8 : List Int) (l1 : List Int), (Lit.int .u32 a0_0).wf = true → (Lit.int .u32 a0_1).wf = true → (Lit.int .u8 a0_2).wf = true → (Lit.int .u8 a0_3).wf = true → (Lit.int .u16 a0_4).wf = true → (Lit.int .i64 a0_7).wf = true → l0_8.length ≤ maxLen → l0_8.length * 1 ≤ 140737488351232 → (∀ y ∈ l0_8, (Lit.int .u8 y).wf = true) → l1.length ≤ maxLen → l1.length * 1 ≤ 140737488351232 → (∀ y ∈ l1, (Lit.int .u8 y).wf = true) → l1.length ≤ 1048576 → ∃ k, trunklinelaw10_IpBack.f k a0_0 a0_1 a0_2 a0_3 a0_4 a0_5 a0_6 a0_7 l0_8 l1 = some true := by
  intro a0 a1 a2 a3 a4 a5 a6 a7 l more h0 h1 h2 h3 h4 h7 _ hl hb _ _ hb2 hl2
  have s0 := wf_u32 h0
  have s1 := wf_u32 h1
  have s2 := wf_u8 h2
  have s3 := wf_u8 h3
  have s4 := wf_u16 h4
  have s7 := wf_i64 h7
  have hb' := wf_bytes hb
  have hb2' := wf_bytes hb2
  refine ⟨100, ?_⟩
  unfold trunklinelaw10_IpBack.f
  rw [put_f a0 a1 a2 a3 a4 a5 a6 a7 l s0 s1 s2 s3 s4 s7 (by omega) (by omega), Option.bind_some, live_f (by omega)]
  by_cases hm : mayS a6 a7 l.length = 0
  · obtain ⟨m1, m2, m3, m4, m5⟩ := mayS_zero hm
    have hlen := putS_len a0 a1 a2 a3 a4 a5 a6 a7 l hm
    have e2 : (putS a0 a1 a2 a3 a4 a5 a6 a7 l).2 = 0 := by unfold putS; rw [if_pos hm]
    have T := take_put a0 a1 a2 a3 a4 a5 a6 a7 l more s0 s1 s2 s3 s4 hb' hb2' (by omega) hm (k := 100) (by omega)
    rw [if_pos e2, Option.bind_some, if_pos (by simp; omega), Option.bind_some, if_pos (by simp; omega), List.nil_append, T, Option.bind_some, Option.bind_some, if_pos rfl, if_pos rfl]
    dsimp only
    rw [Same_one]
    rfl
  · have e2 : (putS a0 a1 a2 a3 a4 a5 a6 a7 l).2 ≠ 0 := by unfold putS; rw [if_neg hm]; exact hm
    have e1 : (putS a0 a1 a2 a3 a4 a5 a6 a7 l).1 = [] := by unfold putS; rw [if_neg hm]
    rw [if_neg e2, Option.bind_some, if_pos rfl, e1]
    rfl

end Go.Proofs.Ytdligcofjfdhbaa.Pure
