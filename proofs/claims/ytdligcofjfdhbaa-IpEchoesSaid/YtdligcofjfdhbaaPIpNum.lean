/- Numbers out of bytes, as the packets' readers take them. -/
import Derived.Test.YtdligcofjfdhbaaPNumB
import Derived.Test.YtdligcofjfdhbaaM20
namespace Go.Proofs.Ytdligcofjfdhbaa.Pure
open Go.RowKit Go.Proofs.Ytdligcofjfdhbaa.M Go.Proofs.YtdligcofjfdhbaaW.PrintWords Go.Proofs.YtdligcofjfdhbaaW.PrintLast Go.Proofs.YtdligcofjfdhbaaW.PrintMore
set_option linter.unusedVariables false
set_option linter.unusedSimpArgs false

theorem numS_r (L : List Int) (hr : ∀ x ∈ L, 0 ≤ x ∧ x ≤ 255) (p n : Nat) (h1 : 1 ≤ n) (h8 : n ≤ 8) (h : p + n ≤ L.length) : ∃ v, numS L p n = (v, 0) ∧ 0 ≤ v ∧ v < 256 ^ n := by
  have hl : ((L.drop p).take n).length = n := by simp; omega
  have := numL_range ((L.drop p).take n) 0 0 (fun x hx => hr x (List.mem_of_mem_drop (List.mem_of_mem_take hx))) (by omega) (by decide)
  rw [hl, Nat.zero_add] at this
  refine ⟨_, ?_, this.1, this.2⟩
  unfold numS
  rw [if_pos (by omega), if_pos (by omega), if_pos (by omega), Int.toNat_natCast, Int.toNat_natCast]
theorem rnumber_f (L : List Int) (hr : ∀ x ∈ L, 0 ≤ x ∧ x ≤ 255) (hl : (L.length : Int) ≤ 4611686018427387904) (p n v : Int) (hp : (Lit.int .i64 p).wf = true) (hn : (Lit.int .i64 n).wf = true) (h : numS L p n = (v, 0)) (h0 : 0 ≤ v) (h1 : v ≤ 4294967295) {k : Nat} (hk : 10 ≤ k) : trunklineref10_number.f k L p n = some v := by
  unfold trunklineref10_number.f
  rw [rnum_f L p n hl hr hp hn hk, Option.bind_some, h, w64 (by omega) (by omega)]

end Go.Proofs.Ytdligcofjfdhbaa.Pure
