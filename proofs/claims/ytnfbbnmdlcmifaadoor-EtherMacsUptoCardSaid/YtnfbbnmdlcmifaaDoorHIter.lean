/- A range over a string, step by step, with the world as a letter; a string's letters as numbers. -/
import Derived.Test.YtnfbbnmdlcmifaaDoorM0
import Derived.Lib.OthersKept
import Derived.Laws.RangeAny
namespace Go.Proofs.YtnfbbnmdlcmifaaDoor.M
open Go.RowKit Go.Proofs.YtnfbbnmdlcmifaaDoorW.PrintWords Go.Proofs.YtnfbbnmdlcmifaaDoorW.PrintLast Go.Proofs.YtnfbbnmdlcmifaaDoorW.PrintMore
set_option linter.unusedVariables false
set_option linter.unusedSimpArgs false

/-- The letters from a place on, n at most. -/
def cps (s : ByteArray) : Nat → Nat → List Int
  | 0, _ => []
  | n + 1, pos => if pos < s.size then ((Utf8.decode s pos).1 : Int) :: cps s n (pos + (Utf8.decode s pos).2) else []
/-- A string's letters. -/
def letters (s : ByteArray) : List Int := cps s s.size 0

theorem width_pos (s : ByteArray) (pos : Nat) (h : pos < s.size) : 1 ≤ (Utf8.decode s pos).2 := by
  by_cases ha : (s[pos]'h).toNat < 128
  · rw [decode_ascii s pos h ha]
    exact Nat.le_refl _
  · exact (decode_high s pos h (by omega)).2
theorem cps_end (s : ByteArray) (n pos : Nat) (h : ¬ pos < s.size) : cps s n pos = [] := by
  cases n with
  | zero => rfl
  | succ n => simp only [cps]; rw [if_neg h]
theorem cps_more (s : ByteArray) : ∀ (n m pos : Nat), s.size ≤ pos + n → s.size ≤ pos + m → cps s n pos = cps s m pos := by
  intro n
  induction n with
  | zero =>
    intro m pos h1 h2
    rw [cps_end s 0 pos (by omega), cps_end s m pos (by omega)]
  | succ n ih =>
    intro m pos h1 h2
    by_cases hp : pos < s.size
    · have hw := width_pos s pos hp
      cases m with
      | zero => omega
      | succ m =>
        simp only [cps]
        rw [if_pos hp, if_pos hp, ih m _ (by omega) (by omega)]
    · rw [cps_end s _ pos hp, cps_end s _ pos hp]
theorem cps_length (s : ByteArray) : ∀ (n pos : Nat), (cps s n pos).length ≤ n := by
  intro n
  induction n with
  | zero => intro pos; simp [cps]
  | succ n ih =>
    intro pos
    simp only [cps]
    split
    · simp only [List.length_cons]
      have := ih (pos + (Utf8.decode s pos).2)
      omega
    · simp
theorem cps_range (s : ByteArray) : ∀ (n pos : Nat), ∀ c ∈ cps s n pos, 0 ≤ c ∧ c ≤ 2147483647 := by
  intro n
  induction n with
  | zero => intro pos c hc; simp [cps] at hc
  | succ n ih =>
    intro pos c hc
    simp only [cps] at hc
    split at hc
    · rcases List.mem_cons.1 hc with rfl | hc
      · have := decode_le s pos
        omega
      · exact ih _ c hc
    · simp at hc

section
variable {P : Program} {ops : Array Oper} {rest : List Oper} {o : Oper} {a : Act} {Q : Exit → Act → World → Prop}
theorem range_event {W : World} (hgd : o.guard = none) (t : TypeId) (x : Operand) (ho : o.op = .range t x) (ht : P.underlying t = some .string) (s : ByteArray) (hx : a.eval x = .string s)
    (h : ∀ k w1, k = W.heap.size → w1.heap[k]? = some (.stringIter s 0) → Below W.heap.size W w1 → k < w1.heap.size → wpList P ops Q rest (a.put o.dst (.pointer (some ⟨k, 0, none⟩))) w1) : wpList P ops Q (o :: rest) a W := by
  refine Kd.event_run (v := .pointer (some ⟨W.heap.size, 0, none⟩)) (w1 := W.iter s 0) hgd ?_ (h _ _ rfl (World.iter_heap W s 0) ((Below.refl _ _).alloc (Nat.le_refl _) _) ?_)
  · unfold execOp
    simp only [ho, hx]
    simp [run_range_string W t s ht, Sem.run_bind, Result.andThen]
  · show W.heap.size < (W.heap.push _).size
    simp

theorem next_event {W : World} {k : Nat} {s : ByteArray} {pos : Nat} (hgd : o.guard = none) (x : Operand) (ho : o.op = .next x true) (hx : a.eval x = .pointer (some ⟨k, 0, none⟩)) (hk : W.heap[k]? = some (.stringIter s pos)) (hp : pos < s.size)
    (h : ∀ w1, w1.heap[k]? = some (.stringIter s (pos + (Utf8.decode s pos).2)) → W.grownBy w1 (some k) → w1.heap.size = W.heap.size → wpList P ops Q rest (a.put o.dst (.tuple #[.bool true, .int .i64 pos, .int .i32 (Utf8.decode s pos).1])) w1) : wpList P ops Q (o :: rest) a W := by
  refine Kd.event_run (v := .tuple #[.bool true, .int .i64 pos, .int .i32 (Utf8.decode s pos).1]) (w1 := W.iterAt k s (pos + (Utf8.decode s pos).2)) hgd ?_ (h _ (Lib.iterAt_heap W k s pos _ hk) ⟨rfl, rfl, rfl, ?_, ?_⟩ (Lib.iterAt_size W k s _))
  · unfold execOp
    simp only [ho, hx]
    simp [Lib.run_next_any_at W k s pos _ hk hp, Sem.run_bind, Result.andThen]
  · rw [Lib.iterAt_size]; exact Nat.le_refl _
  · intro j hj hne
    exact Lib.iterAt_other W k j s _ (fun e => hne (by rw [e]))

theorem next_end_event {W : World} {k : Nat} {s : ByteArray} {pos : Nat} (hgd : o.guard = none) (x : Operand) (ho : o.op = .next x true) (hx : a.eval x = .pointer (some ⟨k, 0, none⟩)) (hk : W.heap[k]? = some (.stringIter s pos)) (hp : ¬ pos < s.size)
    (h : wpList P ops Q rest (a.put o.dst (.tuple #[.bool false])) W) : wpList P ops Q (o :: rest) a W := by
  refine Kd.event_run (v := .tuple #[.bool false]) (w1 := W) hgd ?_ h
  unfold execOp
  simp only [ho, hx]
  simp [Lib.run_next_end_at W k s pos _ hk hp, Sem.run_bind, Result.andThen]
end
/-- A row of cells is none of an iterator's block. -/
theorem R_iter {α : Type} {d : Kd α} {e : Nat} {w w1 : World} {base k : Nat} {ok : Nat → Prop} {v : Value} {xs : List α} {s : ByteArray} {pos : Nat} (h : d.R e w base ok v xs) (hk : w.heap[k]? = some (.stringIter s pos)) (hg : w.grownBy w1 (some k)) : d.R e w1 base ok v xs := by
  refine Kd.R_mono (Kd.R_grown (Kd.R_mono (ok' := fun j => ok j ∧ j ≠ k) (Kd.R_bound h) (fun j hj => ⟨hj.1, ?_⟩)) hg (fun j hj e => hj.2 (Option.some.inj e))) (fun j hj => hj.1)
  rintro rfl
  obtain ⟨_, _, _, q, _, cells, hc⟩ := hj
  rw [hk] at hc
  cases hc
theorem R_ne_iter {α : Type} {d : Kd α} {e : Nat} {w : World} {base k : Nat} {ok : Nat → Prop} {v : Value} {xs : List α} {s : ByteArray} {pos : Nat} (h : d.R e w base ok v xs) (hk : w.heap[k]? = some (.stringIter s pos)) : some k ≠ v.ownBlock := by
  intro he
  obtain ⟨inner, ho⟩ := Kd.R_own h
  obtain ⟨cells, hc⟩ := own_typed ho k he.symm
  rw [hk] at hc
  cases hc
theorem iter_below {w w1 : World} {k : Nat} {s : ByteArray} {pos : Nat} (hk : w.heap[k]? = some (.stringIter s pos)) (hb : Below w.heap.size w w1) : w1.heap[k]? = some (.stringIter s pos) :=
  (hb.block k (blk_lt hk)).trans hk
theorem below_iter {B : Nat} {w0 w w1 : World} {k : Nat} (h : Below B w0 w) (hB : B ≤ k) (hk : k < w.heap.size) (hg : w.grownBy w1 (some k)) : Below B w0 w1 :=
  h.grown hg (by omega) (fun j hj => by have := Option.some.inj hj; omega)
end Go.Proofs.YtnfbbnmdlcmifaaDoor.M
