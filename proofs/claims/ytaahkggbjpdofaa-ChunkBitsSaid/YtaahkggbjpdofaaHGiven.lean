/- chunk.Check and chunk.bytes in the printed form: told at the two kinds that live meets, none elsewhere. -/
import Derived.Test.YtaahkggbjpdofaaHCheckD
import Derived.Test.YtaahkggbjpdofaaM9
namespace Go.Proofs.Ytaahkggbjpdofaa.M
open Go.RowKit Go.Proofs.YtaahkggbjpdofaaW.PrintWords Go.Proofs.YtaahkggbjpdofaaW.PrintLast Go.Proofs.YtaahkggbjpdofaaW.PrintMore
set_option linter.unusedVariables false
set_option linter.unusedSimpArgs false
def chunk_Check.f (k : Nat) (a0_0 a0_1 a0_2 a0_3 a0_4 a0_5 a0_6 a0_7 a0_8 a0_9 : Int) (l0_10 : List (S101)) (l0_11 : List Int) (l0_12 : List (S48)) (l0_13 : List Int) : Option Int :=
  if a0_0 = 11 ∧ a0_2 = 0 ∧ a0_3 = 0 ∧ a0_4 = 0 ∧ a0_5 = 0 ∧ a0_6 = 0 ∧ a0_7 = 0 ∧ a0_8 = 0 ∧ a0_9 = 0 ∧ l0_10.length = 0 ∧ l0_11.length = 0 ∧ l0_12.length = 0 ∧ l0_13.length = 0 then some 0 else if a0_0 = 0 ∧ a0_6 = 0 ∧ a0_7 = 0 ∧ a0_8 = 0 ∧ a0_9 = 0 ∧ l0_10.length = 0 ∧ l0_11.length = 0 ∧ l0_12.length = 0 ∧ l0_13.length = 1 then (chunk_lay.f k [0, 0, 0, 0] 4 [wrap64 a0_2]).bind fun r1 => (chunk_lay.f k r1 2 [IntKind.i64.wrap a0_3, IntKind.i64.wrap a0_4]).bind fun r2 => (chunk_lay.f k r2 4 [IntKind.i64.wrap a0_5]).bind fun r3 => if r3.length = 16 then some 0 else none else none
def chunk_bytes.f (k : Nat) (a0_0 a0_1 a0_2 a0_3 a0_4 a0_5 a0_6 a0_7 a0_8 a0_9 : Int) (l0_10 : List (S101)) (l0_11 : List Int) (l0_12 : List (S48)) (l0_13 : List Int) : Option (List Int) :=
  if a0_0 = 11 ∧ a0_2 = 0 ∧ a0_3 = 0 ∧ a0_4 = 0 ∧ a0_5 = 0 ∧ a0_6 = 0 ∧ a0_7 = 0 ∧ a0_8 = 0 ∧ a0_9 = 0 ∧ l0_10.length = 0 ∧ l0_11.length = 0 ∧ l0_12.length = 0 ∧ l0_13.length = 0 then (octet_Set.f k [11, a0_1, 0, 0] 2 4 2).bind fun q => some q.1 else if a0_0 = 0 ∧ a0_6 = 0 ∧ a0_7 = 0 ∧ a0_8 = 0 ∧ a0_9 = 0 ∧ l0_10.length = 0 ∧ l0_11.length = 0 ∧ l0_12.length = 0 ∧ l0_13.length = 1 then (chunk_lay.f k [0, a0_1, 0, 0] 4 [wrap64 a0_2]).bind fun r1 => (chunk_lay.f k r1 2 [IntKind.i64.wrap a0_3, IntKind.i64.wrap a0_4]).bind fun r2 => (chunk_lay.f k r2 4 [IntKind.i64.wrap a0_5]).bind fun r3 => if r3.length = 16 then (octet_Set.f k (r3 ++ l0_13) 2 17 2).bind fun q => some q.1 else none else none
theorem chunk_Check.mono : ∀ b0 b1 b2 b3 b4 b5 b6 b7 b8 b9 b10 b11 b12 b13 k, LeO (chunk_Check.f k b0 b1 b2 b3 b4 b5 b6 b7 b8 b9 b10 b11 b12 b13) (chunk_Check.f (k + 1) b0 b1 b2 b3 b4 b5 b6 b7 b8 b9 b10 b11 b12 b13) := by
  intro b0 b1 b2 b3 b4 b5 b6 b7 b8 b9 b10 b11 b12 b13 k
  unfold chunk_Check.f
  refine LeO.ite ?_ (LeO.ite ?_ (LeO.refl _))
  · exact LeO.refl _
  · exact LeO.bind (chunk_lay.mono _ _ _ _) (fun r1 => LeO.bind (chunk_lay.mono _ _ _ _) (fun r2 => LeO.bind (chunk_lay.mono _ _ _ _) (fun r3 => LeO.ite (LeO.refl _) (LeO.refl _))))
theorem chunk_bytes.mono : ∀ b0 b1 b2 b3 b4 b5 b6 b7 b8 b9 b10 b11 b12 b13 k, LeO (chunk_bytes.f k b0 b1 b2 b3 b4 b5 b6 b7 b8 b9 b10 b11 b12 b13) (chunk_bytes.f (k + 1) b0 b1 b2 b3 b4 b5 b6 b7 b8 b9 b10 b11 b12 b13) := by
  intro b0 b1 b2 b3 b4 b5 b6 b7 b8 b9 b10 b11 b12 b13 k
  unfold chunk_bytes.f
  refine LeO.ite ?_ (LeO.ite ?_ (LeO.refl _))
  · exact LeO.bind (octet_Set.mono _ _ _ _ _) (fun _ => LeO.refl _)
  · exact LeO.bind (chunk_lay.mono _ _ _ _) (fun r1 => LeO.bind (chunk_lay.mono _ _ _ _) (fun r2 => LeO.bind (chunk_lay.mono _ _ _ _) (fun r3 => LeO.ite (LeO.bind (octet_Set.mono _ _ _ _ _) (fun _ => LeO.refl _)) (LeO.refl _))))
theorem chunk_Check.calls (k : Nat) (a0_0 : Int) (a0_1 : Int) (a0_2 : Int) (a0_3 : Int) (a0_4 : Int) (a0_5 : Int) (a0_6 : Int) (a0_7 : Int) (a0_8 : Int) (a0_9 : Int) (A0_10 : Option Addr) (c0_10 : Nat) (l0_10 : List (S101)) (A0_11 : Option Addr) (c0_11 : Nat) (l0_11 : List Int) (A0_12 : Option Addr) (c0_12 : Nat) (l0_12 : List (S48)) (A0_13 : Option Addr) (c0_13 : Nat) (l0_13 : List Int) (r : Int) (w : World) (hr0_10 : Kd.C k101 w A0_10 l0_10.length l0_10) (hc0_10 : l0_10.length ≤ c0_10) (hr0_11 : Kd.C (Kd.int .u32) w A0_11 l0_11.length l0_11) (hc0_11 : l0_11.length ≤ c0_11) (hr0_12 : Kd.C k48 w A0_12 l0_12.length l0_12) (hc0_12 : l0_12.length ≤ c0_12) (hr0_13 : Kd.C (Kd.int .u8) w A0_13 l0_13.length l0_13) (hc0_13 : l0_13.length ≤ c0_13) (h : chunk_Check.f k a0_0 a0_1 a0_2 a0_3 a0_4 a0_5 a0_6 a0_7 a0_8 a0_9 l0_10 l0_11 l0_12 l0_13 = some r) :
    Calls Try.prog 12 #[.agg #[.int .u8 a0_0, .int .u8 a0_1, .int .u32 a0_2, .int .u16 a0_3, .int .u16 a0_4, .int .u32 a0_5, .int .u32 a0_6, .int .u32 a0_7, .int .u16 a0_8, .int .u16 a0_9, .slice A0_10 l0_10.length c0_10, .slice A0_11 l0_11.length c0_11, .slice A0_12 l0_12.length c0_12, .slice A0_13 l0_13.length c0_13]] w fun e w' => e = .returned (.int .i64 r) ∧ Below w.heap.size w w' := by
  unfold chunk_Check.f at h
  split at h
  · rename_i hc
    obtain ⟨rfl, rfl, rfl, rfl, rfl, rfl, rfl, rfl, rfl, h10, h11, h12, h13⟩ := hc
    obtain rfl := List.length_eq_zero_iff.1 h10
    obtain rfl := List.length_eq_zero_iff.1 h11
    obtain rfl := List.length_eq_zero_iff.1 h12
    obtain rfl := List.length_eq_zero_iff.1 h13
    injection h with h
    subst h
    exact check_bare a0_1 A0_10 A0_11 A0_12 A0_13 c0_10 c0_11 c0_12 c0_13 w
  · split at h
    · rename_i hc
      obtain ⟨rfl, rfl, rfl, rfl, rfl, h10, h11, h12, h13⟩ := hc
      obtain rfl := List.length_eq_zero_iff.1 h10
      obtain rfl := List.length_eq_zero_iff.1 h11
      obtain rfl := List.length_eq_zero_iff.1 h12
      obtain ⟨x, rfl⟩ := List.length_eq_one_iff.1 h13
      obtain ⟨r1, h1, h⟩ := Option.bind_eq_some_iff.mp h
      obtain ⟨r2, h2, h⟩ := Option.bind_eq_some_iff.mp h
      obtain ⟨r3, h3, h⟩ := Option.bind_eq_some_iff.mp h
      split at h
      · rename_i hl
        injection h with h
        subst h
        exact check_data k a0_1 a0_2 a0_3 a0_4 a0_5 x A0_10 A0_11 A0_12 A0_13 c0_10 c0_11 c0_12 c0_13 r1 r2 r3 w hr0_13 hc0_13 h1 h2 h3 hl
      · cases h
    · cases h
theorem chunk_bytes.calls (k : Nat) (a0_0 : Int) (a0_1 : Int) (a0_2 : Int) (a0_3 : Int) (a0_4 : Int) (a0_5 : Int) (a0_6 : Int) (a0_7 : Int) (a0_8 : Int) (a0_9 : Int) (A0_10 : Option Addr) (c0_10 : Nat) (l0_10 : List (S101)) (A0_11 : Option Addr) (c0_11 : Nat) (l0_11 : List Int) (A0_12 : Option Addr) (c0_12 : Nat) (l0_12 : List (S48)) (A0_13 : Option Addr) (c0_13 : Nat) (l0_13 : List Int) (r : List Int) (w : World) (hr0_10 : Kd.C k101 w A0_10 l0_10.length l0_10) (hc0_10 : l0_10.length ≤ c0_10) (hr0_11 : Kd.C (Kd.int .u32) w A0_11 l0_11.length l0_11) (hc0_11 : l0_11.length ≤ c0_11) (hr0_12 : Kd.C k48 w A0_12 l0_12.length l0_12) (hc0_12 : l0_12.length ≤ c0_12) (hr0_13 : Kd.C (Kd.int .u8) w A0_13 l0_13.length l0_13) (hc0_13 : l0_13.length ≤ c0_13) (h : chunk_bytes.f k a0_0 a0_1 a0_2 a0_3 a0_4 a0_5 a0_6 a0_7 a0_8 a0_9 l0_10 l0_11 l0_12 l0_13 = some r) :
    Calls Try.prog 31 #[.agg #[.int .u8 a0_0, .int .u8 a0_1, .int .u32 a0_2, .int .u16 a0_3, .int .u16 a0_4, .int .u32 a0_5, .int .u32 a0_6, .int .u32 a0_7, .int .u16 a0_8, .int .u16 a0_9, .slice A0_10 l0_10.length c0_10, .slice A0_11 l0_11.length c0_11, .slice A0_12 l0_12.length c0_12, .slice A0_13 l0_13.length c0_13]] w fun e w' => ∃ v0_ : Value, e = .returned (v0_) ∧ Kd.R (Kd.int .u8) 5 w' w.heap.size (fun _ => True) v0_ r ∧ Below w.heap.size w w' := by
  unfold chunk_bytes.f at h
  split at h
  · rename_i hc
    obtain ⟨rfl, rfl, rfl, rfl, rfl, rfl, rfl, rfl, rfl, h10, h11, h12, h13⟩ := hc
    obtain rfl := List.length_eq_zero_iff.1 h10
    obtain rfl := List.length_eq_zero_iff.1 h11
    obtain rfl := List.length_eq_zero_iff.1 h12
    obtain rfl := List.length_eq_zero_iff.1 h13
    obtain ⟨⟨q1, q2⟩, hq, h⟩ := Option.bind_eq_some_iff.mp h
    injection h with h
    subst h
    exact bytes_bare k a0_1 0 0 0 0 0 0 0 0 A0_10 A0_11 A0_12 A0_13 0 0 0 0 c0_10 c0_11 c0_12 c0_13 q1 q2 w hq
  · split at h
    · rename_i hc
      obtain ⟨rfl, rfl, rfl, rfl, rfl, h10, h11, h12, h13⟩ := hc
      obtain rfl := List.length_eq_zero_iff.1 h10
      obtain rfl := List.length_eq_zero_iff.1 h11
      obtain rfl := List.length_eq_zero_iff.1 h12
      obtain ⟨x, rfl⟩ := List.length_eq_one_iff.1 h13
      obtain ⟨r1, h1, h⟩ := Option.bind_eq_some_iff.mp h
      obtain ⟨r2, h2, h⟩ := Option.bind_eq_some_iff.mp h
      obtain ⟨r3, h3, h⟩ := Option.bind_eq_some_iff.mp h
      split at h
      · rename_i hl
        obtain ⟨⟨q1, q2⟩, hq, h⟩ := Option.bind_eq_some_iff.mp h
        injection h with h
        subst h
        exact bytes_data k a0_1 a0_2 a0_3 a0_4 a0_5 0 0 0 0 x A0_10 A0_11 A0_12 A0_13 0 0 0 c0_10 c0_11 c0_12 c0_13 r1 r2 r3 q1 q2 w hr0_13 hc0_13 h1 h2 h3 hl hq
      · cases h
    · cases h
#print axioms chunk_Check.calls
end Go.Proofs.Ytaahkggbjpdofaa.M
