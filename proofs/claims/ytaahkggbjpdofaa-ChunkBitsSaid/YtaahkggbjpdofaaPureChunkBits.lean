/- ChunkBits: the plain law. -/
import Derived.Test.YtaahkggbjpdofaaM21
import Derived.Test.YtaahkggbjpdofaaPChunkLive
namespace Go.Proofs.Ytaahkggbjpdofaa.Pure
open Go.RowKit Go.Proofs.Ytaahkggbjpdofaa.M Go.Proofs.YtaahkggbjpdofaaW.PrintWords Go.Proofs.YtaahkggbjpdofaaW.PrintLast

theorem stops_all : ∀ n : Nat, n < 256 → (((n : Int) / 128) == 0) = decide ((n : Int) < 128) := by decide +kernel
theorem tells_all : ∀ n : Nat, n < 256 → ((Go.bits .and .u8 ((n : Int) / 64) 1) == 1) = ((((Int.tdiv (n : Int) 64) % 256) % 2) == 1) := by decide +kernel
theorem name_low : ∀ n : Nat, n < 15 → chunk_Name.f n = trunklineref12_Name.f n := by
  intro n hn
  match n, hn with
  | 0, _ => exact (show chunk_Name.f ((0 : Nat) : Int) = trunklineref12_Name.f ((0 : Nat) : Int) from by kernel_rfl)
  | 1, _ => exact (show chunk_Name.f ((1 : Nat) : Int) = trunklineref12_Name.f ((1 : Nat) : Int) from by kernel_rfl)
  | 2, _ => exact (show chunk_Name.f ((2 : Nat) : Int) = trunklineref12_Name.f ((2 : Nat) : Int) from by kernel_rfl)
  | 3, _ => exact (show chunk_Name.f ((3 : Nat) : Int) = trunklineref12_Name.f ((3 : Nat) : Int) from by kernel_rfl)
  | 4, _ => exact (show chunk_Name.f ((4 : Nat) : Int) = trunklineref12_Name.f ((4 : Nat) : Int) from by kernel_rfl)
  | 5, _ => exact (show chunk_Name.f ((5 : Nat) : Int) = trunklineref12_Name.f ((5 : Nat) : Int) from by kernel_rfl)
  | 6, _ => exact (show chunk_Name.f ((6 : Nat) : Int) = trunklineref12_Name.f ((6 : Nat) : Int) from by kernel_rfl)
  | 7, _ => exact (show chunk_Name.f ((7 : Nat) : Int) = trunklineref12_Name.f ((7 : Nat) : Int) from by kernel_rfl)
  | 8, _ => exact (show chunk_Name.f ((8 : Nat) : Int) = trunklineref12_Name.f ((8 : Nat) : Int) from by kernel_rfl)
  | 9, _ => exact (show chunk_Name.f ((9 : Nat) : Int) = trunklineref12_Name.f ((9 : Nat) : Int) from by kernel_rfl)
  | 10, _ => exact (show chunk_Name.f ((10 : Nat) : Int) = trunklineref12_Name.f ((10 : Nat) : Int) from by kernel_rfl)
  | 11, _ => exact (show chunk_Name.f ((11 : Nat) : Int) = trunklineref12_Name.f ((11 : Nat) : Int) from by kernel_rfl)
  | 12, _ => exact (show chunk_Name.f ((12 : Nat) : Int) = trunklineref12_Name.f ((12 : Nat) : Int) from by kernel_rfl)
  | 13, _ => exact (show chunk_Name.f ((13 : Nat) : Int) = trunklineref12_Name.f ((13 : Nat) : Int) from by kernel_rfl)
  | 14, _ => exact (show chunk_Name.f ((14 : Nat) : Int) = trunklineref12_Name.f ((14 : Nat) : Int) from by kernel_rfl)
theorem name_high (a : Int) (h : 14 < a) (h2 : a < 256) : chunk_Name.f a = some (⟨#[85, 78, 75, 78, 79, 87, 78]⟩ : ByteArray) ∧ trunklineref12_Name.f a = some (⟨#[85, 78, 75, 78, 79, 87, 78]⟩ : ByteArray) := by
  constructor
  · unfold chunk_Name.f
    rw [Option.bind_some, if_neg, if_neg]
    · omega
    · show ¬ wrap64 a < 12
      unfold wrap64
      omega
  · unfold trunklineref12_Name.f
    rw [Option.bind_some, if_pos h]
theorem name_some (n : Nat) (hn : n < 15) : ∃ t, trunklineref12_Name.f n = some t := by
  match n, hn with
  | 0, _ => exact Option.isSome_iff_exists.mp (show (trunklineref12_Name.f ((0 : Nat) : Int)).isSome = true from by kernel_rfl)
  | 1, _ => exact Option.isSome_iff_exists.mp (show (trunklineref12_Name.f ((1 : Nat) : Int)).isSome = true from by kernel_rfl)
  | 2, _ => exact Option.isSome_iff_exists.mp (show (trunklineref12_Name.f ((2 : Nat) : Int)).isSome = true from by kernel_rfl)
  | 3, _ => exact Option.isSome_iff_exists.mp (show (trunklineref12_Name.f ((3 : Nat) : Int)).isSome = true from by kernel_rfl)
  | 4, _ => exact Option.isSome_iff_exists.mp (show (trunklineref12_Name.f ((4 : Nat) : Int)).isSome = true from by kernel_rfl)
  | 5, _ => exact Option.isSome_iff_exists.mp (show (trunklineref12_Name.f ((5 : Nat) : Int)).isSome = true from by kernel_rfl)
  | 6, _ => exact Option.isSome_iff_exists.mp (show (trunklineref12_Name.f ((6 : Nat) : Int)).isSome = true from by kernel_rfl)
  | 7, _ => exact Option.isSome_iff_exists.mp (show (trunklineref12_Name.f ((7 : Nat) : Int)).isSome = true from by kernel_rfl)
  | 8, _ => exact Option.isSome_iff_exists.mp (show (trunklineref12_Name.f ((8 : Nat) : Int)).isSome = true from by kernel_rfl)
  | 9, _ => exact Option.isSome_iff_exists.mp (show (trunklineref12_Name.f ((9 : Nat) : Int)).isSome = true from by kernel_rfl)
  | 10, _ => exact Option.isSome_iff_exists.mp (show (trunklineref12_Name.f ((10 : Nat) : Int)).isSome = true from by kernel_rfl)
  | 11, _ => exact Option.isSome_iff_exists.mp (show (trunklineref12_Name.f ((11 : Nat) : Int)).isSome = true from by kernel_rfl)
  | 12, _ => exact Option.isSome_iff_exists.mp (show (trunklineref12_Name.f ((12 : Nat) : Int)).isSome = true from by kernel_rfl)
  | 13, _ => exact Option.isSome_iff_exists.mp (show (trunklineref12_Name.f ((13 : Nat) : Int)).isSome = true from by kernel_rfl)
  | 14, _ => exact Option.isSome_iff_exists.mp (show (trunklineref12_Name.f ((14 : Nat) : Int)).isSome = true from by kernel_rfl)
theorem names (n : Nat) (hn : n < 256) : ∃ t, chunk_Name.f n = some t ∧ trunklineref12_Name.f n = some t := by
  by_cases h : n < 15
  · obtain ⟨t, ht⟩ := name_some n h
    exact ⟨t, (name_low n h).trans ht, ht⟩
  · obtain ⟨h1, h2⟩ := name_high n (by omega) (by omega)
    exact ⟨_, h1, h2⟩
theorem ChunkBits : trunklinelaw12_ChunkBits.Pure := by
  intro a0 hw
  have hr : 0 ≤ a0 ∧ a0 < 256 := by
    have h := hw
    simp [Lit.wf, IntKind.min, IntKind.max, IntKind.signed, IntKind.bits] at h
    omega
  obtain ⟨n, rfl⟩ := Int.eq_ofNat_of_zero_le hr.1
  have hn : n < 256 := by omega
  refine ⟨60, ?_⟩
  obtain ⟨t, h1, h2⟩ := names n hn
  unfold trunklinelaw12_ChunkBits.f
  rw [live_at, Option.bind_some, if_pos rfl]
  unfold chunk_Stops.f chunk_Tells.f
  rw [Option.bind_some, if_pos (by rw [stops_all n hn]; exact beq_self_eq_true _), Option.bind_some, if_pos (by rw [tells_all n hn]; exact beq_self_eq_true _), h1, Option.bind_some, h2, Option.bind_some]
  exact congrArg some (beq_self_eq_true _)

end Go.Proofs.Ytaahkggbjpdofaa.Pure
