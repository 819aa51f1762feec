/- What an argument of a law reads as, opened kind by kind: whole numbers, bools, strings, slices, structs and arrays, nested. -/
import Derived.Test.YtaahkggbjpdofaaWAll
import Derived.Deep.Slices
import Derived.SizedLaws
import Derived.OpenShut
import Derived.DataReads
import Derived.WideShapes
import Derived.ChangeOld
import Derived.KernelRfl
namespace Go.Proofs.Ytaahkggbjpdofaa.Opens
open Go.RowKit Go.Proofs.YtaahkggbjpdofaaW.PrintWords
open Go.ChangeShapes Go.WideShapes
set_option linter.unusedVariables false

/-- What reads at type t, within the reach, is a value of kind d of which ok holds. -/
structure Opens {α : Type} (P : Program) (t : TypeId) (d : Kd α) (ok : α → Prop) : Prop where
  out : ∀ {H : Type} {enc : TypeId × Value → H} {W : World} {base : Nat} {spare : Nat → Bool} {held : Bool} {fuel : Nat} {cs : List Value} {dw : DataW H} {ps : List MemPlace},
    DataW.trod enc P W base spare held fuel t cs = some (dw, ps) → (∀ n ∈ dw.weights P t, n ≤ reachBytes) → ∃ x, d.K W x cs ∧ ok x
section
variable {P : Program} {t : TypeId}
theorem int {k : IntKind} (ht : P.underlying t = some (.int k)) : Opens P t (Kd.int k) (fun x => (Lit.int k x).wf = true) := by
  refine ⟨?_⟩
  intro H enc W base spare held fuel cs dw ps h hw
  obtain ⟨n, rfl, hx, hwf⟩ := DataW.trod_int ht h
  exact ⟨n, rfl, hwf⟩
theorem bool (ht : P.underlying t = some .bool) : Opens P t Kd.bool (fun _ => True) := by
  refine ⟨?_⟩
  intro H enc W base spare held fuel cs dw ps h hw
  obtain ⟨n, rfl, hx⟩ := DataW.trod_bool ht h
  exact ⟨n, rfl, trivial⟩
theorem string (ht : P.underlying t = some .string) : Opens P t Kd.string (fun s => s.size ≤ 140737488351232) := by
  refine ⟨?_⟩
  intro H enc W base spare held fuel cs dw ps h hw
  obtain ⟨s, rfl, hx, hm⟩ := DataW.trod_string ht h
  refine ⟨s, rfl, ?_⟩
  injection hx with hx _
  subst hx
  have := hw s.data.toList.length (by simp [DataW.weights])
  simpa [reachBytes] using this

theorem weights_all {H : Type} {P : Program} {e : TypeId} : ∀ {ds : List (DataW H)} {d : DataW H}, d ∈ ds → ∀ n ∈ d.weights P e, n ∈ DataW.weightsAll P e ds
  | d0 :: ds, d, hd, n, hn => by
    simp only [DataW.weightsAll, List.mem_append]
    rcases List.mem_cons.1 hd with rfl | hd
    · exact .inl hn
    · exact .inr (weights_all hd n hn)

theorem slice {α : Type} {e : TypeId} {d : Kd α} {ok : α → Prop} (ht : P.underlying t = some (.slice e)) (hc : P.cellsOf e = d.sz) {B : Nat} (hB : P.bytesOf e = B) (h : Opens P e d ok) :
    Opens P t (Kd.slice e d) (fun xs => xs.length * B ≤ 140737488351232 ∧ xs.length ≤ maxLen ∧ ∀ x ∈ xs, ok x) := by
  refine ⟨?_⟩
  intro H enc W base spare held fuel cs dw ps hr hw
  rcases Deep.open_slice ht hr with ⟨rfl, hx⟩ | ⟨a, len, cap, m, n, D, Pl, rfl, hb, hl, hm, hmm, hx, hel⟩
  · exact ⟨[], ⟨none, 0, rfl, Nat.le_refl _, rfl, by simp, fun hn => absurd hn (by simp)⟩, by simp, by simp, by simp⟩
  · injection hx with hx _
    subst hx
    have hlm : len ≤ m := by rw [hmm]; split <;> omega
    have hw0 : (len + (m - len)) * B ≤ reachBytes := by
      have := hw _ (by simp only [DataW.weights, ht]; exact List.mem_cons_self)
      simpa [hB] using this
    have hwD : ∀ i, i < len → ∀ n ∈ (D i).weights P e, n ≤ reachBytes := by
      intro i hi n hn
      refine hw n ?_
      simp only [DataW.weights, ht]
      refine List.mem_cons_of_mem _ (List.mem_append_left _ (weights_all (d := D i) ?_ n hn))
      exact List.mem_map.2 ⟨i, List.mem_range.2 hi, rfl⟩
    have hall : ∀ i, i < len → ∃ x : α × List Value, d.K W x.1 x.2 ∧ ok x.1 ∧ x.2.length = d.sz ∧ ∀ j u, x.2[j]? = some u → W.cell? (a.add (i * d.sz + j)) = some u := by
      intro i hi
      obtain ⟨cs', h1, h2⟩ := hel i (by omega)
      obtain ⟨x, hK, hok⟩ := h.out h2 (hwD i hi)
      obtain ⟨_, hlen, hcell⟩ := World.cells?_some h1
      refine ⟨(x, cs'), hK, hok, d.K_len hK, fun j u hu => ?_⟩
      have hj : j < P.cellsOf e := by rw [← hlen]; exact (List.getElem?_eq_some_iff.1 hu).1
      have := hcell j hj
      rw [hc, Deep.add_add] at this
      rw [this]
      exact hu
    classical
    let f : Nat → Option α := fun i => if hi : i < len then some (Classical.choose (hall i hi)).1 else none
    have hf : ∀ i (hi : i < len), f i = some (Classical.choose (hall i hi)).1 := fun i hi => dif_pos hi
    obtain ⟨xs, hxl, hxs⟩ : ∃ xs : List α, xs.length = len ∧ ∀ i x, xs[i]? = some x → ∃ cs' : List Value, d.K W x cs' ∧ ok x ∧ cs'.length = d.sz ∧ ∀ j u, cs'[j]? = some u → W.cell? (a.add (i * d.sz + j)) = some u := by
      refine ⟨(List.range len).attach.map fun i => (Classical.choose (hall i.1 (List.mem_range.1 i.2))).1, by simp, ?_⟩
      intro i x hx
      rw [List.getElem?_map] at hx
      obtain ⟨y, hy, rfl⟩ := Option.map_eq_some_iff.1 hx
      obtain ⟨y, hyr⟩ := y
      have hyi : y = i := by
        have h1 : ((List.range len).attach[i]?).map Subtype.val = some y := by rw [hy]; rfl
        rw [← List.getElem?_map, List.attach_map_subtype_val] at h1
        obtain ⟨hlt, he⟩ := List.getElem?_eq_some_iff.1 h1
        simpa using he.symm
      subst hyi
      obtain ⟨h1, h2, h3, h4⟩ := Classical.choose_spec (hall y (List.mem_range.1 hyr))
      exact ⟨_, h1, h2, h3, h4⟩
    refine ⟨xs, ⟨some a, cap, by rw [hxl], by omega, rfl, ?_, fun _ => ⟨a, rfl, fun j x hx => ?_⟩⟩, ?_, by omega, fun x hx => ?_⟩
    · unfold maxLen at hm
      omega
    · obtain ⟨cs', h1, h2, h3, h4⟩ := hxs j x hx
      exact ⟨cs', h3, h1, h4⟩
    · rw [hxl]
      have h1 : len * B ≤ (len + (m - len)) * B := Nat.mul_le_mul_right _ (by omega)
      have h2 : reachBytes = 140737488351232 := by decide
      omega
    · obtain ⟨i, hi, rfl⟩ := List.mem_iff_getElem.1 hx
      obtain ⟨_, _, h2, _⟩ := hxs i xs[i] (List.getElem?_eq_getElem hi)
      exact h2

/-- Fields one behind the other, from cell 'off' on. -/
structure Fs {α : Type} (P : Program) (fs : List Field) (off : Nat) (d : Kd α) (ok : α → Prop) : Prop where
  out : ∀ {H : Type} {enc : TypeId × Value → H} {W : World} {base : Nat} {spare : Nat → Bool} {held : Bool} {fuel : Nat} {cs : List Value} {ys : List (DataW H × List MemPlace)},
    cs.length = off + d.sz → ys.length = fs.length → (∀ (i : Nat) (f : Field), fs[i]? = some f → DataW.trod enc P W base spare held fuel f.type ((cs.drop f.offset).take (P.cellsOf f.type)) = ys[i]?) →
    (∀ n ∈ DataW.weightsEach P (fs.map (·.type)) (ys.map (·.1)), n ≤ reachBytes) → ∃ x, d.K W x (cs.drop off) ∧ ok x
theorem fone {α : Type} {f : Field} {off : Nat} {d : Kd α} {ok : α → Prop} (ho : f.offset = off) (hc : P.cellsOf f.type = d.sz) (h : Opens P f.type d ok) : Fs P [f] off d ok := by
  refine ⟨?_⟩
  intro H enc W base spare held fuel cs ys hl hy hf hw
  match ys, hy with
  | [y], _ =>
    have h1 := hf 0 f rfl
    rw [ho, hc, List.take_of_length_le (by rw [List.length_drop]; omega)] at h1
    obtain ⟨dw, ps⟩ := y
    exact h.out (by simpa using h1) (fun n hn => hw n (by simpa [DataW.weightsEach] using hn))
theorem fmore {α β : Type} {f : Field} {fs : List Field} {off : Nat} {d : Kd α} {d2 : Kd β} {ok : α → Prop} {ok2 : β → Prop} (ho : f.offset = off) (hc : P.cellsOf f.type = d.sz) (h : Opens P f.type d ok) (h2 : Fs P fs (off + d.sz) d2 ok2) :
    Fs P (f :: fs) off (Kd.pair d d2) (fun x => ok x.1 ∧ ok2 x.2) := by
  refine ⟨?_⟩
  intro H enc W base spare held fuel cs ys hl hy hf hw
  match ys, hy with
  | y :: ys, hy =>
    have hsz : (Kd.pair d d2).sz = d.sz + d2.sz := rfl
    rw [hsz] at hl
    have h1 := hf 0 f rfl
    rw [ho, hc] at h1
    obtain ⟨dw, ps⟩ := y
    obtain ⟨x, hK, hok⟩ := h.out (by simpa using h1) (fun n hn => hw n (by simp only [List.map_cons, DataW.weightsEach, List.mem_append]; exact .inl hn))
    obtain ⟨z, hK2, hok2⟩ := h2.out (cs := cs) (by omega) (by simpa using hy) (fun i g hg => by simpa using hf (i + 1) g (by simpa using hg)) (fun n hn => hw n (by simp only [List.map_cons, DataW.weightsEach, List.mem_append]; exact .inr hn))
    refine ⟨(x, z), ⟨_, _, ?_, hK, hK2⟩, hok, hok2⟩
    rw [← List.drop_drop, List.take_append_drop]
theorem struct {α β : Type} {fs : Array Field} {d : Kd α} {ok : α → Prop} (ht : P.underlying t = some (.struct fs)) (hc : P.cellsOf t = d.sz) (h : Fs P fs.toList 0 d ok) (f : β → α) (g : α → β) (hfg : ∀ x, f (g x) = x) (ok2 : β → Prop) (hok2 : ∀ x, ok x → ok2 (g x)) :
    Opens P t (Kd.iso d f) ok2 := by
  refine ⟨?_⟩
  intro H enc W base spare held fuel cs dw ps hr hw
  obtain ⟨xs, n, _, hx, hl, hlen, hf⟩ := DataW.trod_struct ht hr
  injection hx with hx _
  subst hx
  obtain ⟨x, hK, hok⟩ := h.out (cs := cs) (ys := xs) (by rw [hl, hc, Nat.zero_add]) (by simpa using hlen) (fun i f hi => hf i f (by simpa using hi)) (fun m hm => hw m (by simp only [DataW.weights, ht]; exact hm))
  refine ⟨g x, ?_, hok2 x hok⟩
  show d.K W (f (g x)) cs
  rw [hfg]
  exact hK

/-- Elements of an array one behind the other. -/
structure As {α : Type} (P : Program) (e : TypeId) (n : Nat) (off : Nat) (d : Kd α) (ok : α → Prop) : Prop where
  out : ∀ {H : Type} {enc : TypeId × Value → H} {W : World} {base : Nat} {spare : Nat → Bool} {held : Bool} {fuel : Nat} {cs : List Value} {ys : List (DataW H × List MemPlace)},
    cs.length = off * P.cellsOf e + d.sz → ys.length = n → (∀ i, i < n → DataW.trod enc P W base spare held fuel e ((cs.drop ((off + i) * P.cellsOf e)).take (P.cellsOf e)) = ys[i]?) →
    (∀ n ∈ DataW.weightsAll P e (ys.map (·.1)), n ≤ reachBytes) → ∃ x, d.K W x (cs.drop (off * P.cellsOf e)) ∧ ok x
theorem aone {α : Type} {e : TypeId} {off : Nat} {d : Kd α} {ok : α → Prop} (hc : P.cellsOf e = d.sz) (h : Opens P e d ok) : As P e 1 off d ok := by
  refine ⟨?_⟩
  intro H enc W base spare held fuel cs ys hl hy hf hw
  match ys, hy with
  | [y], _ =>
    have h1 := hf 0 (by omega)
    rw [Nat.add_zero, List.take_of_length_le (by rw [List.length_drop]; omega)] at h1
    obtain ⟨dw, ps⟩ := y
    exact h.out (by simpa using h1) (fun n hn => hw n (by simpa [DataW.weightsAll] using hn))
theorem amore {α β : Type} {e : TypeId} {n : Nat} {off : Nat} {d : Kd α} {d2 : Kd β} {ok : α → Prop} {ok2 : β → Prop} (hc : P.cellsOf e = d.sz) (h : Opens P e d ok) (h2 : As P e n (off + 1) d2 ok2) :
    As P e (n + 1) off (Kd.pair d d2) (fun x => ok x.1 ∧ ok2 x.2) := by
  refine ⟨?_⟩
  intro H enc W base spare held fuel cs ys hl hy hf hw
  match ys, hy with
  | y :: ys, hy =>
    have hsz : (Kd.pair d d2).sz = d.sz + d2.sz := rfl
    rw [hsz] at hl
    have h1 := hf 0 (by omega)
    rw [Nat.add_zero] at h1
    obtain ⟨dw, ps⟩ := y
    obtain ⟨x, hK, hok⟩ := h.out (by simpa using h1) (fun n hn => hw n (by simp only [List.map_cons, DataW.weightsAll, List.mem_append]; exact .inl hn))
    have hm : (off + 1) * P.cellsOf e = off * P.cellsOf e + P.cellsOf e := by rw [Nat.add_mul, Nat.one_mul]
    obtain ⟨z, hK2, hok2⟩ := h2.out (cs := cs) (by omega) (by simpa using hy) (fun i hi => by have := hf (i + 1) (by omega); rw [show off + (i + 1) = off + 1 + i by omega] at this; simpa using this) (fun n hn => hw n (by simp only [List.map_cons, DataW.weightsAll, List.mem_append]; exact .inr hn))
    refine ⟨(x, z), ⟨_, _, ?_, hK, hK2⟩, hok, hok2⟩
    rw [hm, ← List.drop_drop, List.take_append_drop]
theorem array {α β : Type} {e : TypeId} {n : Nat} {d : Kd α} {ok : α → Prop} (ht : P.underlying t = some (.array n e)) (hc : P.cellsOf t = d.sz) (h : As P e n 0 d ok) (f : β → α) (g : α → β) (hfg : ∀ x, f (g x) = x) (ok2 : β → Prop) (hok2 : ∀ x, ok x → ok2 (g x)) :
    Opens P t (Kd.iso d f) ok2 := by
  refine ⟨?_⟩
  intro H enc W base spare held fuel cs dw ps hr hw
  obtain ⟨xs, m, _, hx, hl, hlen, hf⟩ := DataW.trod_array ht hr
  injection hx with hx _
  subst hx
  obtain ⟨x, hK, hok⟩ := h.out (cs := cs) (ys := xs) (by rw [hl, hc]; simp) hlen (fun i hi => by rw [Nat.zero_add]; exact hf i hi) (fun m hm => hw m (by simp only [DataW.weights, ht]; exact hm))
  refine ⟨g x, ?_, hok2 x hok⟩
  show d.K W (f (g x)) cs
  rw [hfg]
  simpa using hK
end

/-- An argument, opened. -/
theorem arg {α : Type} {P : Program} {H : Type} {enc : TypeId × Value → H} {W : World} {base : Nat} {spare : Nat → Bool} {held : Bool} {t : TypeId} {v : Value} {dw : DataW H} {ps : List MemPlace} {d : Kd α} {ok : α → Prop} {ts : List TypeId} {ds : List (DataW H)} {j : Nat}
    (ho : Opens P t d ok) (hsz : (DataW.weightsEach P ts ds).all (· ≤ reachBytes) = true) (ht : ts[j]? = some t) (hd : ds[j]? = some dw) (h : DataW.Trod enc P W base spare held t v dw ps) : ∃ x, d.K W x v.cells.toList ∧ ok x := by
  obtain ⟨fuel, hf⟩ := h
  exact ho.out hf (fun n hn => by simpa using List.all_eq_true.1 hsz n (DataW.weights_mem_each ht hd n hn))
/-- A value of a struct's type, or an array's, is its cells. -/
theorem agg_of {P : Program} {W : World} {r : Reach} {b : Nat} {t : TypeId} {fs : Array Field} {v : Value} (ht : P.underlying t = some (.struct fs)) (h : Value.okWide P W r b t v) {l : List Value} (hl : v.cells.toList = l) : v = .agg l.toArray := by
  obtain ⟨cs, rfl, _⟩ := okWide_struct ht h
  subst hl
  simp [Value.cells]
theorem agg_arr {P : Program} {W : World} {r : Reach} {b : Nat} {t : TypeId} {n : Nat} {e : TypeId} {v : Value} (ht : P.underlying t = some (.array n e)) (h : Value.okWide P W r b t v) {l : List Value} (hl : v.cells.toList = l) : v = .agg l.toArray := by
  have h' := h
  simp only [Value.okWide, ht] at h'
  obtain ⟨cs, rfl, _⟩ := h'
  subst hl
  simp [Value.cells]
end Go.Proofs.Ytaahkggbjpdofaa.Opens
