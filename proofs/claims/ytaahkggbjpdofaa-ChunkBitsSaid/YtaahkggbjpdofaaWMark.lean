/- A literal of bytes out of a constant text ('[]byte("..")'): made and marked, in one step; it is only read from then on. -/
import Derived.Test.YtaahkggbjpdofaaWWords
import Derived.Test.YtaahkggbjpdofaaWShare
import Derived.Test.YtaahkggbjpdofaaWMore
import Derived.Test.YtaahkggbjpdofaaWApart
import Derived.Lib.SlBytesConst
namespace Go.Proofs.YtaahkggbjpdofaaW.PrintWords
open Go.RowKit
set_option linter.unusedVariables false
set_option linter.unusedSimpArgs false
section
variable {P : Program}
theorem cut_hm (t e : TypeId) (kh : IntKind) {i : TypeInfo} (ht : P.underlying t = some (.slice e)) (hi : P.info? e = some i) (A : Option Addr) (n c : Nat) (j : Int) (h0 : 0 ≤ j) (hm : j ≤ n) (hc : n ≤ c) :
    ∀ W : World, (Instr.slice t (.slice A n c) none (some (.int kh j)) (some (.int kh j))).run P W = .ok (.slice A j.toNat j.toNat) W := by
  intro W
  have hel : P.elem t = e := by simp [Program.elem, ht]
  have hu : P.underlying t = some (.slice (P.elem t)) := by rw [hel]; exact ht
  have ha : (A.map fun x => x.add 0) = A := by cases A <;> simp [Addr.add]
  rw [run_slice_hm W t A n c hu kh kh j j h0 (Int.le_refl _) (by omega), hel]
  simp [sizeOf, typeInfo, hi, sliced, Result.andThen, ha]
end
namespace Kd
theorem C_block {W : World} {g : Nat} {xs : List Int} {k : IntKind} {e : TypeId} {fr : Nat × Nat} (hm : xs.length ≤ 9223372036854775807) (h : W.heap[g]? = some (.cells (nums k xs).toArray e fr)) : Kd.C (Kd.int k) W (some ⟨g, 0, none⟩) xs.length xs := by
  refine ⟨rfl, hm, fun _ => ⟨_, rfl, fun j p hj => ⟨[.int k p], rfl, rfl, fun i u hu => ?_⟩⟩⟩
  cases i with
  | succ i => simp at hu
  | zero =>
    simp only [List.getElem?_cons_zero, Option.some.injEq] at hu
    subst hu
    have ha : (⟨g, 0, none⟩ : Addr).add (j * Kd.sz (Kd.int k) + 0) = ⟨g, j, none⟩ := by
      show (⟨g, 0, none⟩ : Addr).add (j * 1 + 0) = ⟨g, j, none⟩
      unfold Addr.add
      split <;> simp_all
    rw [ha]
    unfold World.cell?
    simp only [h]
    simp [nums, hj]
section
variable {P : Program} {ops : Array Oper} {rest : List Oper} {o o2 : Oper} {a : Act} {Q : Exit → Act → World → Prop}
theorem V_lit2 {w0 W : World} (base e : Nat) (t : TypeId) (ht : P.underlying t = some (.slice e)) (he : P.underlying e = some (.int .u8)) (hgd : o.guard = none) {N : Tmp} (hd : o.dst = some N) (hgd2 : o2.guard = none) (ho2 : o2.op = .convert t t (.tmp N)) {xs : List Int}
    (hrun : (execOp a.eval o).run P W = .ok (.value (.slice (some ⟨W.heap.size, 0, none⟩) xs.length xs.length)) (W.alloc (.cells (nums .u8 xs).toArray e)))
    (hev : ∀ v, (a.put o.dst v).eval (.tmp N) = v) (HB : Below base w0 W) (hbase : base ≤ W.heap.size) (hm : xs.length ≤ 9223372036854775807)
    (h : ∀ v1 w1, V (Kd.int .u8) e w1 base (fun _ => True) v1 xs → Below base w0 w1 → W.grownBy w1 none → (∃ b, v1.ownBlock = some b ∧ W.heap.size ≤ b) → wpList P ops Q rest ((a.put o.dst v1).put o2.dst v1) w1) : wpList P ops Q (o :: o2 :: rest) a W := by
  refine event_run hgd hrun ?_
  refine event_run (v := .slice (some ⟨W.heap.size, 0, none⟩) xs.length xs.length) (w1 := W.alloc (.cells (nums .u8 xs).toArray e ((nums .u8 xs).toArray.size, (nums .u8 xs).toArray.size + 1))) hgd2 ?_ ?_
  · unfold execOp
    simp only [ho2, hev]
    simp [Lib.run_convert_bytes_const (P := P) W t e (nums .u8 xs).toArray xs.length xs.length ht he, Sem.run_bind, Result.andThen]
  · have hnew : (W.alloc (.cells (nums .u8 xs).toArray e ((nums .u8 xs).toArray.size, (nums .u8 xs).toArray.size + 1))).heap[W.heap.size]? = some (.cells (nums .u8 xs).toArray e ((nums .u8 xs).toArray.size, (nums .u8 xs).toArray.size + 1)) := heap_alloc_new W _
    refine h _ _ (V_mk (Nat.le_refl _) (fun W' hW => ?_)) (HB.alloc hbase _) (World.grownBy_alloc W _ none) ⟨W.heap.size, by simp [Value.ownBlock], Nat.le_refl _⟩
    exact C_block hm ((hW _ trivial (by show W.heap.size < (W.heap.push _).size; simp)).trans hnew)
end
section
variable {P : Program} {ops : Array Oper} {rest : List Oper} {o : Oper} {a : Act} {Q : Exit → Act → World → Prop} {Kc : Act → World → Prop} {α : Type}
theorem base_new {v : Value} {n : Nat} (h : ∃ b, v.ownBlock = some b ∧ n ≤ b) : ∀ k, v.ownBlock = some k → n ≤ k := by
  obtain ⟨b, e1, e2⟩ := h
  intro k hk
  rw [e1] at hk
  injection hk with hk
  subst hk
  exact e2
theorem lit1_S (d : Kd α) {W : World} (base e : Nat) {x : α} {inner : List Value} {ok : Nat → Prop} (hM : d.M W base ok x inner) (hfresh : ok W.heap.size) (hbase : base ≤ W.heap.size) :
    S d e (W.alloc (.cells inner.toArray e)) base ok (.slice (some ⟨W.heap.size, 0, none⟩) 1 1) [x] := by
  have hl : inner.length = 1 * d.sz := by rw [Nat.one_mul]; exact d.K_len (d.K_of_M hM)
  refine ⟨fun _ => 0, fun k hk => ?_, inner, ?_, (show inner.length = 1 * d.sz from hl), fun j p hj => ?_⟩
  · have : W.heap.size = k := by simpa [Value.ownBlock] using hk
    subst this
    exact hfresh
  · have h2 := World.ownsRow_lit (base := base) (e := e) (size := d.sz) W inner.toArray 1 hbase (by decide) (by simpa using hl)
    have h3 : (W.alloc (.cells inner.toArray e)).ownsRow base e d.sz (.slice (some ⟨W.heap.size, 0, none⟩) 1 1) 1 inner := by simpa using h2
    exact h3
  · cases j with
    | succ j => simp at hj
    | zero =>
      simp only [List.zipIdx_cons, List.zipIdx_nil, List.getElem?_cons_zero, Option.some.injEq] at hj
      subst hj
      have e1 : (inner.drop (0 * d.sz)).take d.sz = inner := by rw [Nat.zero_mul, List.drop_zero]; exact List.take_of_length_le (by omega)
      show d.M _ base _ x _
      have e2 : (inner.drop (0 * (tag (fun _ => 0) d).sz)).take (tag (fun _ => 0) d).sz = inner := e1
      rw [e2]
      refine d.M_mono (fun k hk => ⟨⟨hk.1, fun he => ?_⟩, rfl⟩) (M_below (d.M_bound hM) (below_alloc (Below.refl _ _) _))
      have h3 : k = W.heap.size := by simpa [Value.ownBlock] using he
      have := hk.2.2.1
      omega
/-- A literal of one element, whose rows it takes over. -/
theorem S_lit1 (d : Kd α) {W : World} (base e : Nat) (hgd : o.guard = none) {N : Tmp} (_hd : o.dst = some N) {x : α} {inner : List Value} {ok : Nat → Prop}
    (hrun : (execOp a.eval o).run P W = .ok (.value (.slice (some ⟨W.heap.size, 0, none⟩) 1 1)) (W.alloc (.cells inner.toArray e)))
    (hM : d.M W base ok x inner) (hfresh : ok W.heap.size) (hbase : base ≤ W.heap.size)
    (h : ∀ v1 w1, S d e w1 base ok v1 [x] → Below W.heap.size W w1 → W.grownBy w1 none → (∃ b, v1.ownBlock = some b ∧ W.heap.size ≤ b) → wpList P ops Q rest (a.put o.dst v1) w1) : wpList P ops Q (o :: rest) a W :=
  event_run hgd hrun (h _ _ (lit1_S d base e hM hfresh hbase) ((Below.refl _ _).alloc (Nat.le_refl _) _) (World.grownBy_alloc W _ none) ⟨W.heap.size, by simp [Value.ownBlock], Nat.le_refl _⟩)
theorem S_lit1_step (d : Kd α) {W : World} (base e : Nat) (hw : Region.wanted o (yielded ops a.tmps) = true) {N : Tmp} (hd : o.dst = some N) {x : α} {inner : List Value} {ok : Nat → Prop}
    (hrun : (execOp a.eval o).run P W = .ok (.value (.slice (some ⟨W.heap.size, 0, none⟩) 1 1)) (W.alloc (.cells inner.toArray e)))
    (hM : d.M W base ok x inner) (hfresh : ok W.heap.size) (hbase : base ≤ W.heap.size)
    (h : ∀ v1 w1, S d e w1 base ok v1 [x] → Below W.heap.size W w1 → W.grownBy w1 none → (∃ b, v1.ownBlock = some b ∧ W.heap.size ≤ b) → Kc (a.put o.dst v1) w1) :
    if Region.wanted o (yielded ops a.tmps) = true then Oper.wp P o a W Kc Q else Kc (a.put o.dst undef) W := by
  rw [hd] at h ⊢
  exact PrintLast.value_ hw hd hrun (h _ _ (lit1_S d base e hM hfresh hbase) ((Below.refl _ _).alloc (Nat.le_refl _) _) (World.grownBy_alloc W _ none) ⟨W.heap.size, by simp [Value.ownBlock], Nat.le_refl _⟩)
end
end Kd
end Go.Proofs.YtaahkggbjpdofaaW.PrintWords
