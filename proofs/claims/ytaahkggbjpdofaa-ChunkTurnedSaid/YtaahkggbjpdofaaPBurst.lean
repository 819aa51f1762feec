/- A burst of up to 32 bits changes the packet's sum; in plain Lean. -/
import Derived.Test.YtaahkggbjpdofaaPCrc
import Derived.Laws.BitsAllLaws
namespace Go.Proofs.Ytaahkggbjpdofaa.Pure
open Go.RowKit Go.Proofs.Ytaahkggbjpdofaa.M Go.Proofs.YtaahkggbjpdofaaW.PrintWords Go.Proofs.YtaahkggbjpdofaaW.PrintLast Go.Proofs.YtaahkggbjpdofaaW.PrintMore
set_option linter.unusedVariables false
set_option linter.unusedSimpArgs false
/-- The register's step with a bit. -/
def stepN (r b : Nat) : Nat := if r % 2 = b then r / 2 else (r / 2) ^^^ 2197175160
def runN : List Nat → Nat → Nat
  | [], r => r
  | b :: bs, r => runN bs (stepN r b)
theorem runN_app : ∀ (u v : List Nat) (r : Nat), runN (u ++ v) r = runN v (runN u r)
  | [], v, r => rfl
  | b :: bs, v, r => runN_app bs v (stepN r b)
def Agree (j s s' : Nat) : Prop := ∀ i, j ≤ i → s.testBit i = s'.testBit i
theorem step_lt {r b : Nat} (h : r < 4294967296) : stepN r b < 4294967296 := by
  unfold stepN
  split
  · omega
  · exact Nat.xor_lt_two_pow (n := 32) (by omega) (by decide)
theorem step_bit (r b i : Nat) : (stepN r b).testBit i = ((r.testBit (i + 1)) ^^ (decide (r % 2 ≠ b) && Nat.testBit 2197175160 i)) := by
  unfold stepN
  rw [Nat.testBit_succ]
  by_cases h : r % 2 = b
  · rw [if_pos h]
    simp [h]
  · rw [if_neg h, Nat.testBit_xor]
    simp [h]
theorem step_top (r b : Nat) (h : r < 4294967296) : (stepN r b).testBit 31 = decide (r % 2 ≠ b) := by
  rw [step_bit, Nat.testBit_lt_two_pow (i := 31 + 1) (show r < 2 ^ (31 + 1) by simpa using h), show Nat.testBit 2197175160 31 = true by decide]
  simp
theorem step_back {r r' b b' j : Nat} (hr : r < 4294967296) (hr' : r' < 4294967296) (hj : j ≤ 31) (h : Agree j (stepN r b) (stepN r' b')) : decide (r % 2 ≠ b) = decide (r' % 2 ≠ b') ∧ Agree (j + 1) r r' := by
  have h31 := h 31 hj
  rw [step_top r b hr, step_top r' b' hr'] at h31
  refine ⟨h31, fun i hi => ?_⟩
  obtain ⟨m, rfl⟩ : ∃ m, i = m + 1 := ⟨i - 1, by omega⟩
  have hm := h m (by omega)
  rw [step_bit, step_bit, h31] at hm
  generalize r.testBit (m + 1) = A at hm ⊢
  generalize r'.testBit (m + 1) = B at hm ⊢
  generalize (decide (r' % 2 ≠ b') && Nat.testBit 2197175160 m) = C at hm
  cases A <;> cases B <;> cases C <;> simp_all
/-- What is taken away at each step. -/
def decs : List Nat → Nat → List Bool
  | [], _ => []
  | b :: bs, r => decide (r % 2 ≠ b) :: decs bs (stepN r b)
theorem runs_back : ∀ (u v : List Nat) (r r' j : Nat), u.length = v.length → r < 4294967296 → r' < 4294967296 → j + u.length ≤ 32 → Agree j (runN u r) (runN v r') → decs u r = decs v r' ∧ Agree (j + u.length) r r'
  | [], [], r, r', j, hl, hr, hr', hj, h => ⟨rfl, by simpa [runN] using h⟩
  | [], _ :: _, r, r', j, hl, hr, hr', hj, h => by simp at hl
  | _ :: _, [], r, r', j, hl, hr, hr', hj, h => by simp at hl
  | b :: u, b' :: v, r, r', j, hl, hr, hr', hj, h => by
    simp only [List.length_cons] at hl hj
    have ih := runs_back u v (stepN r b) (stepN r' b') j (by omega) (step_lt hr) (step_lt hr') (by omega) h
    have hb := step_back hr hr' (by omega) ih.2
    refine ⟨?_, by simpa [Nat.add_assoc] using hb.2⟩
    rw [decs, decs, hb.1, ih.1]
theorem decs_fwd : ∀ (u v : List Nat) (r : Nat), (∀ b ∈ u, b < 2) → (∀ b ∈ v, b < 2) → decs u r = decs v r → u = v
  | [], [], r, hu, hv, h => rfl
  | [], _ :: _, r, hu, hv, h => by simp [decs] at h
  | _ :: _, [], r, hu, hv, h => by simp [decs] at h
  | b :: u, b' :: v, r, hu, hv, h => by
    rw [decs, decs] at h
    injection h with h1 h2
    have hb := hu b (by simp)
    have hb' := hv b' (by simp)
    have h1' : (r % 2 ≠ b) ↔ (r % 2 ≠ b') := decide_eq_decide.mp h1
    have e : b = b' := by omega
    subst e
    rw [decs_fwd u v _ (fun x hx => hu x (by simp [hx])) (fun x hx => hv x (by simp [hx])) h2]
theorem run_burst (u v : List Nat) (r : Nat) (hu : ∀ b ∈ u, b < 2) (hv : ∀ b ∈ v, b < 2) (hl : u.length = v.length) (h32 : u.length ≤ 32) (hr : r < 4294967296) (h : runN u r = runN v r) : u = v :=
  decs_fwd u v r hu hv (runs_back u v r r 0 hl hr hr (by omega) (fun i _ => by rw [h])).1
theorem step_inj {r r' b : Nat} (hb : b < 2) (hr : r < 4294967296) (hr' : r' < 4294967296) (h : stepN r b = stepN r' b) : r = r' := by
  have h1 := step_back (j := 0) hr hr' (by omega) (fun i _ => by rw [h])
  have h2 : (r % 2 ≠ b) ↔ (r' % 2 ≠ b) := decide_eq_decide.mp h1.1
  refine Nat.eq_of_testBit_eq (fun i => ?_)
  cases i with
  | zero => rw [Nat.testBit_zero, Nat.testBit_zero, show r % 2 = r' % 2 by omega]
  | succ i => exact h1.2 (i + 1) (by omega)
theorem run_inj : ∀ (u : List Nat) (r r' : Nat), (∀ b ∈ u, b < 2) → r < 4294967296 → r' < 4294967296 → runN u r = runN u r' → r = r'
  | [], r, r', hu, hr, hr', h => h
  | b :: u, r, r', hu, hr, hr', h => step_inj (hu b (by simp)) hr hr' (run_inj u _ _ (fun x hx => hu x (by simp [hx])) (step_lt hr) (step_lt hr') h)
theorem run_lt : ∀ (u : List Nat) (r : Nat), r < 4294967296 → runN u r < 4294967296
  | [], r, h => h
  | b :: u, r, h => run_lt u _ (step_lt h)
/-- A byte's bits. -/
def bitsB (x : Nat) : List Nat := (List.range 8).map fun i => x / 2 ^ i % 2
theorem crcN_nat (x r : Nat) (hx : x ≤ 255) (hr : r < 4294967296) : ∀ j, crcN (x : Int) (r : Int) j = ((runN ((List.range j).map fun i => x / 2 ^ i % 2) r : Nat) : Int)
  | 0 => rfl
  | j + 1 => by
    have ih := crcN_nat x r hx hr j
    have hlt := run_lt ((List.range j).map fun i => x / 2 ^ i % 2) r hr
    rw [crcN_succ (x : Int) (r : Int) j (by omega) (by omega) (by omega) (by omega), ih, List.range_succ, List.map_append, runN_app]
    obtain ⟨s, hs⟩ : ∃ s, s = runN ((List.range j).map fun i => x / 2 ^ i % 2) r := ⟨_, rfl⟩
    rw [← hs] at hlt ⊢
    have hbit : (x : Int) / 2 ^ j % 2 = ((x / 2 ^ j % 2 : Nat) : Int) := by
      rw [Int.natCast_emod, Int.natCast_ediv, Int.natCast_pow]
      rfl
    rw [hbit]
    show _ = ((stepN s (x / 2 ^ j % 2) : Nat) : Int)
    unfold stepN
    by_cases h : s % 2 = x / 2 ^ j % 2
    · rw [if_pos h, if_pos (by omega)]
      omega
    · rw [if_neg h, if_neg (by omega), ← xor_nat (s / 2) 2197175160 (by omega) (by decide)]
      rfl
def bitsL : List Int → List Nat
  | [] => []
  | x :: xs => bitsB x.toNat ++ bitsL xs
theorem crcL_run : ∀ (l : List Int) (r : Nat), (∀ x ∈ l, 0 ≤ x ∧ x ≤ 255) → r < 4294967296 → crcL l (r : Int) = ((runN (bitsL l) r : Nat) : Int)
  | [], r, h, hr => rfl
  | x :: xs, r, h, hr => by
    have hx := h x (by simp)
    obtain ⟨m, hm⟩ := Int.eq_ofNat_of_zero_le hx.1
    subst hm
    have hn := crcN_nat m r (by omega) hr 8
    rw [crcL, hn, crcL_run xs _ (fun y hy => h y (by simp [hy])) (run_lt _ _ hr), bitsL, runN_app]
    rfl
theorem bitsL_len : ∀ (l : List Int), (bitsL l).length = 8 * l.length
  | [] => rfl
  | x :: xs => by rw [bitsL, List.length_append, bitsL_len xs, List.length_cons]; unfold bitsB; simp; omega
theorem bitsL_two : ∀ (l : List Int), ∀ b ∈ bitsL l, b < 2
  | [], b, h => by cases h
  | x :: xs, b, h => by
    rcases List.mem_append.mp h with h | h
    · obtain ⟨i, _, rfl⟩ := List.mem_map.mp h
      omega
    · exact bitsL_two xs b h
theorem bitsB_inj {x y : Nat} (hx : x ≤ 255) (hy : y ≤ 255) (h : bitsB x = bitsB y) : x = y := by
  have h' : [x / 2 ^ 0 % 2, x / 2 ^ 1 % 2, x / 2 ^ 2 % 2, x / 2 ^ 3 % 2, x / 2 ^ 4 % 2, x / 2 ^ 5 % 2, x / 2 ^ 6 % 2, x / 2 ^ 7 % 2] = [y / 2 ^ 0 % 2, y / 2 ^ 1 % 2, y / 2 ^ 2 % 2, y / 2 ^ 3 % 2, y / 2 ^ 4 % 2, y / 2 ^ 5 % 2, y / 2 ^ 6 % 2, y / 2 ^ 7 % 2] := h
  simp only [List.cons.injEq, and_true] at h'
  omega
theorem bitsL_inj : ∀ (l m : List Int), l.length = m.length → (∀ x ∈ l, 0 ≤ x ∧ x ≤ 255) → (∀ x ∈ m, 0 ≤ x ∧ x ≤ 255) → bitsL l = bitsL m → l = m
  | [], [], hl, h, h', e => rfl
  | [], _ :: _, hl, h, h', e => by simp at hl
  | _ :: _, [], hl, h, h', e => by simp at hl
  | x :: l, y :: m, hl, h, h', e => by
    have hx := h x (by simp)
    have hy := h' y (by simp)
    rw [bitsL, bitsL] at e
    have hlen : (bitsB x.toNat).length = (bitsB y.toNat).length := by unfold bitsB; simp
    obtain ⟨e1, e2⟩ := List.append_inj e hlen
    have := bitsB_inj (by omega) (by omega) e1
    rw [show x = y by omega, bitsL_inj l m (by simpa using hl) (fun z hz => h z (by simp [hz])) (fun z hz => h' z (by simp [hz])) e2]
theorem crcL_app : ∀ (a b : List Int) (r : Int), crcL (a ++ b) r = crcL b (crcL a r)
  | [], b, r => rfl
  | x :: xs, b, r => crcL_app xs b _
/-- Of two lists that differ within four bytes the sums differ. -/
theorem crc_burst (P W W' S : List Int) (hP : ∀ x ∈ P, 0 ≤ x ∧ x ≤ 255) (hW : ∀ x ∈ W, 0 ≤ x ∧ x ≤ 255) (hW' : ∀ x ∈ W', 0 ≤ x ∧ x ≤ 255) (hS : ∀ x ∈ S, 0 ≤ x ∧ x ≤ 255) (hl : W.length = W'.length) (h4 : W.length ≤ 4)
    (h : crcL (P ++ W ++ S) 4294967295 = crcL (P ++ W' ++ S) 4294967295) : W = W' := by
  rw [crcL_app, crcL_app, crcL_app (P ++ W'), crcL_app P W'] at h
  have hp := crcL_run P 4294967295 hP (by decide)
  have e0 : ((4294967295 : Nat) : Int) = 4294967295 := rfl
  rw [e0] at hp
  rw [hp] at h
  obtain ⟨r, hr⟩ : ∃ r, r = runN (bitsL P) 4294967295 := ⟨_, rfl⟩
  have hrl := run_lt (bitsL P) 4294967295 (by decide)
  rw [← hr] at h hrl
  rw [crcL_run W r hW hrl, crcL_run W' r hW' hrl, crcL_run S _ hS (run_lt _ _ hrl), crcL_run S _ hS (run_lt _ _ hrl)] at h
  have h1 := run_inj (bitsL S) _ _ (bitsL_two S) (run_lt _ _ hrl) (run_lt _ _ hrl) (by exact_mod_cast h)
  have h2 := run_burst (bitsL W) (bitsL W') r (bitsL_two W) (bitsL_two W') (by rw [bitsL_len, bitsL_len, hl]) (by rw [bitsL_len]; omega) hrl h1
  exact bitsL_inj W W' hl hW hW' h2
end Go.Proofs.Ytaahkggbjpdofaa.Pure
