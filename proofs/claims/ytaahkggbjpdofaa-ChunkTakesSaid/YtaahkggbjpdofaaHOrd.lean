/- An ordered region of many guarded operations, walked op by op: each temporary's Bool is told as 'there if e, and then v'. -/
import Derived.Test.YtaahkggbjpdofaaHStamp
import Derived.WalkSpells
namespace Go.Proofs.Ytaahkggbjpdofaa.M
open Go.RowKit Go.Proofs.YtaahkggbjpdofaaW.PrintWords Go.Proofs.YtaahkggbjpdofaaW.PrintLast Go.Proofs.YtaahkggbjpdofaaW.PrintMore
set_option linter.unusedVariables false
set_option linter.unusedSimpArgs false
theorem cells14 {w : World} {p : Nat} {v0 v1 v2 v3 v4 v5 v6 v7 v8 v9 v10 v11 v12 v13 : Value} {t : TypeId} (h : w.heap[p]? = some (.cells #[v0, v1, v2, v3, v4, v5, v6, v7, v8, v9, v10, v11, v12, v13] t (0, 0))) : w.cell? ⟨p, 0, none⟩ = some v0 ∧ w.cell? ⟨p, 1, none⟩ = some v1 ∧ w.cell? ⟨p, 2, none⟩ = some v2 ∧ w.cell? ⟨p, 3, none⟩ = some v3 ∧ w.cell? ⟨p, 4, none⟩ = some v4 ∧ w.cell? ⟨p, 5, none⟩ = some v5 ∧ w.cell? ⟨p, 6, none⟩ = some v6 ∧ w.cell? ⟨p, 7, none⟩ = some v7 ∧ w.cell? ⟨p, 8, none⟩ = some v8 ∧ w.cell? ⟨p, 9, none⟩ = some v9 ∧ w.cell? ⟨p, 10, none⟩ = some v10 ∧ w.cell? ⟨p, 11, none⟩ = some v11 ∧ w.cell? ⟨p, 12, none⟩ = some v12 ∧ w.cell? ⟨p, 13, none⟩ = some v13 :=
  ⟨blk_cell h 0, blk_cell h 1, blk_cell h 2, blk_cell h 3, blk_cell h 4, blk_cell h 5, blk_cell h 6, blk_cell h 7, blk_cell h 8, blk_cell h 9, blk_cell h 10, blk_cell h 11, blk_cell h 12, blk_cell h 13⟩
/-- What a temporary holds: a Bool that is there if e, or a value. -/
inductive Sl where
  | c (e v : Bool)
  | k (v : Value)
def Sl.val : Sl → Value
  | .c e v => bif e then .bool v else undef
  | .k v => v
def upd (T : Nat → Sl) (d : Nat) (s : Sl) (i : Nat) : Sl := bif Nat.beq i d then s else T i
def evT (T : Nat → Sl) : Operand → Value
  | .tmp t => (T t).val
  | .const v => v
  | .global g => .pointer (some ⟨g, 0, none⟩)
  | .func f => .func (.func f) #[] #[]
theorem evc (T : Nat → Sl) (v : Value) : evT T (.const v) = v := rfl
def wantT (O : Nat) (T : Nat → Sl) : Option (Nat × Bool) → Bool
  | none => true
  | some (j, b) => match T (j + O) with
    | .c e v => e && (v == b)
    | .k v => match v with
      | .bool x => x == b
      | _ => false
def gdok (n : Nat) : Option (Nat × Bool) → Bool
  | none => true
  | some (j, _) => Nat.blt j n
structure At (N : Nat) (a : Act) (T : Nat → Sl) : Prop where
  sz : a.tmps.size = N
  val : ∀ i, a.tmps.getD i undef = (T i).val
  df : a.defers = []
structure Dsts (O n N : Nat) (ops : Array Oper) : Prop where
  out : ∀ j, j < n → (ops[j]?).bind (·.dst) = some (j + O)
  le : n + O ≤ N
theorem eval_at {a : Act} {N : Nat} {T} (A : At N a T) : a.eval = evT T := by
  funext x
  cases x with
  | tmp t => exact A.val t
  | const v => rfl
  | global g => rfl
  | func f => rfl
theorem want_at {O n N : Nat} {a : Act} {T} {ops : Array Oper} {o : Oper} (A : At N a T) (D : Dsts O n N ops) (hg : gdok n o.guard = true) : Region.wanted o (yielded ops a.tmps) = wantT O T o.guard := by
  unfold Region.wanted
  cases hgd : o.guard with
  | none => rfl
  | some g =>
    obtain ⟨j, b⟩ := g
    rw [hgd] at hg
    have hj : j < n := Nat.blt_eq.mp hg
    show (yielded ops a.tmps j == some b) = _
    unfold yielded
    rw [D.out j hj]
    have hs : j + O < a.tmps.size := by rw [A.sz]; have := D.le; omega
    have hv := A.val (j + O)
    rw [Array.getD_eq_getD_getElem?, Array.getElem?_eq_getElem hs, Option.getD_some] at hv
    rw [Option.bind_some, Array.getElem?_eq_getElem hs, hv]
    show _ = (match T (j + O) with | .c e v => e && (v == b) | .k v => match v with | .bool x => x == b | _ => false)
    cases T (j + O) with
    | c e v => cases e <;> cases v <;> cases b <;> rfl
    | k v => cases v <;> first | rfl | (rename_i x; cases x <;> cases b <;> rfl)
theorem put_at {N : Nat} {a : Act} {T} {d : Nat} {s : Sl} (A : At N a T) (hd : d < N) : At N (a.put (some d) s.val) (upd T d s) := by
  refine ⟨?_, ?_, A.df⟩
  · show (a.tmps.setIfInBounds d s.val).size = N
    rw [Array.size_setIfInBounds]; exact A.sz
  · intro i
    show (a.tmps.setIfInBounds d s.val).getD i undef = (upd T d s i).val
    rw [Array.getD_eq_getD_getElem?, Array.getElem?_setIfInBounds]
    unfold upd
    by_cases h : d = i
    · subst h
      rw [if_pos rfl, A.sz, if_pos hd, show Nat.beq d d = true from Nat.beq_refl d]; rfl
    · rw [if_neg h, show Nat.beq i d = false from by cases hb : Nat.beq i d with | false => rfl | true => exact absurd (Nat.eq_of_beq_eq_true hb).symm h]
      rw [← Array.getD_eq_getD_getElem?]; exact A.val i
section
variable {P : Program} {ops : Array Oper} {Q : Exit → Act → World → Prop} {a : Act} {w : World} {rest : List Oper} {T : Nat → Sl} {O n N : Nat} (D : Dsts O n N ops)
include D
theorem stp {o : Oper} {d : Nat} (s : Sl) {e : Bool} (A : At N a T) (hdst : o.dst = some d) (hd : Nat.blt d N = true) (hg : gdok n o.guard = true) (he : wantT O T o.guard = e)
    (hrun : e = true → (execOp (evT T) o).run P w = .ok (.value s.val) w) (hoff : e = false → s.val = undef)
    (h : ∀ a', At N a' (upd T d s) → wpList P ops Q rest a' w) : wpList P ops Q (o :: rest) a w := by
  have hd' : d < N := Nat.blt_eq.mp hd
  refine wpList_step fun K hK => ?_
  rw [want_at A D hg, he]
  cases e with
  | true =>
    rw [if_pos rfl]
    unfold Oper.wp
    rw [eval_at A, hrun rfl]
    show K (a.put o.dst s.val) w
    rw [hdst]; exact hK _ _ (h _ (put_at A hd'))
  | false =>
    rw [if_neg (by decide), hdst, ← hoff rfl]
    exact hK _ _ (h _ (put_at A hd'))
theorem r_move {d s : Nat} {ty pos af gd} {e v : Bool} (A : At N a T) (hs : T s = .c e v) (he : wantT O T gd = e) (hd : Nat.blt d N = true) (hg : gdok n gd = true)
    (h : ∀ a', At N a' (upd T d (.c e v)) → wpList P ops Q rest a' w) : wpList P ops Q ({dst := some d, op := .move (.tmp s), type := ty, pos := pos, after := af, guard := gd} :: rest) a w :=
  stp D (.c e v) A rfl hd hg he (fun _ => by show _ = Result.ok (Next.value (Sl.c e v).val) w; rw [← hs]; rfl) (fun h0 => by subst h0; rfl) h
theorem r_asg {d s : Nat} {ty pos af gd} {e v : Bool} (A : At N a T) (hs : T s = .c e v) (he : wantT O T gd = e) (hd : Nat.blt d N = true) (hg : gdok n gd = true)
    (h : ∀ a', At N a' (upd T d (.c e v)) → wpList P ops Q rest a' w) : wpList P ops Q ({dst := some d, op := .assign (.tmp s), type := ty, pos := pos, after := af, guard := gd} :: rest) a w :=
  stp D (.c e v) A rfl hd hg he (fun _ => by show _ = Result.ok (Next.value (Sl.c e v).val) w; rw [← hs]; rfl) (fun h0 => by subst h0; rfl) h
theorem r_and {d c b : Nat} {ty pos af gd} {e v vb eb : Bool} (A : At N a T) (hc : T c = .c e v) (hb : T b = .c eb vb) (heb : eb = (e && (v == true))) (he : wantT O T gd = e) (hd : Nat.blt d N = true) (hg : gdok n gd = true)
    (h : ∀ a', At N a' (upd T d (.c e (v && vb))) → wpList P ops Q rest a' w) : wpList P ops Q ({dst := some d, op := .pick (.tmp c) (.tmp b) (.const (.bool false)), type := ty, pos := pos, after := af, guard := gd} :: rest) a w :=
  stp D (.c e (v && vb)) A rfl hd hg he (fun h1 => by
    subst h1
    have hr : evT T (.tmp c) = .bool v := by show (T c).val = _; rw [hc]; rfl
    cases v with
    | false => simp [go_sem, execOp, hr, Sl.val, evc]
    | true =>
      have hq : evT T (.tmp b) = .bool vb := by show (T b).val = _; rw [hb, heb]; rfl
      simp [go_sem, execOp, hr, hq, Sl.val, evc]) (fun h0 => by subst h0; rfl) h
end
theorem up_at {T : Nat → Sl} {d : Nat} {s : Sl} : upd T d s d = s := by
  show (bif Nat.beq d d then s else T d) = s
  rw [show Nat.beq d d = true from Nat.beq_refl d]; rfl
section
variable {T : Nat → Sl} {w : World}
theorem run_fld {d s : Nat} {k : Nat} {p : Nat} {ty pos af gd} (hk : Nat.blt k 14 = true) (hr : evT T (.tmp s) = .pointer (some ⟨p, 0, none⟩)) :
    (execOp (evT T) { dst := some d, op := .fieldAddr 29 (.tmp s) k, type := ty, pos := pos, after := af, guard := gd }).run Try.prog w = .ok (Next.value (.pointer (some ⟨p, k, none⟩))) w := by
  have hk' : k < 14 := Nat.blt_eq.mp hk
  have h14 : k = 0 ∨ k = 1 ∨ k = 2 ∨ k = 3 ∨ k = 4 ∨ k = 5 ∨ k = 6 ∨ k = 7 ∨ k = 8 ∨ k = 9 ∨ k = 10 ∨ k = 11 ∨ k = 12 ∨ k = 13 := by omega
  rcases h14 with h | h | h | h | h | h | h | h | h | h | h | h | h | h <;> subst h <;> simp [go_sem, execOp, hr]
theorem run_ld {d s ty' : Nat} {p : Addr} {v : Value} {ty pos af gd} (hty : ty' = 22 ∨ ty' = 23 ∨ ty' = 24 ∨ ty' = 25 ∨ ty' = 26 ∨ ty' = 27) (hr : evT T (.tmp s) = .pointer (some p)) (hc : w.cell? p = some v) :
    (execOp (evT T) { dst := some d, op := .load ty' (.tmp s), type := ty, pos := pos, after := af, guard := gd }).run Try.prog w = .ok (Next.value v) w := by
  rcases hty with h | h | h | h | h | h <;> subst h <;> simp [go_sem, execOp, hr, hc]
theorem run_eq {d s s' ty' ty2 : Nat} {K : IntKind} {x y : Int} {ty pos af gd} (hty : (ty' = 3 ∧ K = .i64) ∨ (ty' = 22 ∧ K = .u32) ∨ (ty' = 23 ∧ K = .u16)) (hr : evT T (.tmp s) = .int K x) (hr' : evT T (.tmp s') = .int K y) :
    (execOp (evT T) { dst := some d, op := .binOp .eql ty' (.tmp s) (.tmp s') ty2, type := ty, pos := pos, after := af, guard := gd }).run Try.prog w = .ok (Next.value (.bool (x == y))) w := by
  rcases hty with ⟨h, h'⟩ | ⟨h, h'⟩ | ⟨h, h'⟩ <;> subst h <;> subst h' <;> simp [go_sem, execOp, hr, hr', evc]
theorem run_len {d s ty' n c : Nat} {A : Option Addr} {ty pos af gd} (hty : ty' = 24 ∨ ty' = 25 ∨ ty' = 26 ∨ ty' = 27) (hr : evT T (.tmp s) = .slice A n c) :
    (execOp (evT T) { dst := some d, op := .call { callee := .builtin .len, args := #[.tmp s], argTypes := #[ty'] }, type := ty, pos := pos, after := af, guard := gd }).run Try.prog w = .ok (Next.value (.int .i64 n)) w := by
  rcases hty with h | h | h | h <;> subst h <;> simp [go_sem, execOp, hr, evc]
end
theorem upd_ne {T : Nat → Sl} {d i : Nat} {s : Sl} (h : (d == i) = false) : upd T d s i = T i := by
  show (bif Nat.beq i d then s else T i) = T i
  rw [show Nat.beq i d = false from by cases hb : Nat.beq i d with | false => rfl | true => exact absurd (Nat.eq_of_beq_eq_true hb).symm (beq_eq_false_iff_ne.mp h)]; rfl
/-- A temporary's dead value. -/
def dead (e : Bool) (v : Value) : Sl := .k (bif e then v else undef)
theorem dead_t {e : Bool} {v : Value} (h : e = true) : (dead e v).val = v := by subst h; rfl
theorem dead_f {e : Bool} {v : Value} (h : e = false) : (dead e v).val = undef := by subst h; rfl
theorem ev_up {T : Nat → Sl} {d : Nat} {s : Sl} : evT (upd T d s) (.tmp d) = s.val := by show (upd T d s d).val = _; rw [up_at]
theorem tmp_at {T : Nat → Sl} {s : Nat} {v : Value} (h : T s = .k v) : evT T (.tmp s) = v := by show (T s).val = v; rw [h]; rfl
section
variable {ops : Array Oper} {Q : Exit → Act → World → Prop} {a : Act} {w : World} {rest : List Oper} {T : Nat → Sl} {O n N : Nat} (D : Dsts O n N ops)
include D
/-- Two chunks' fields are compared. -/
theorem r_ef {d1 d2 d3 d4 d5 s s' k ty ty1 ty2 ty3 ty4 ty5 ty6 p p' : Nat} {K : IntKind} {x y : Int} {p1 p2 p3 p4 p5 f1 f2 f3 f4 f5} {gd} {e : Bool} (A : At N a T) (hs : T s = .k (.pointer (some ⟨p, 0, none⟩))) (hs' : T s' = .k (.pointer (some ⟨p', 0, none⟩))) (hc : w.cell? ⟨p, k, none⟩ = some (.int K x)) (hc' : w.cell? ⟨p', k, none⟩ = some (.int K y)) (hk : Nat.blt k 14 = true) (hty : (ty = 22 ∧ K = .u32) ∨ (ty = 23 ∧ K = .u16)) (he : wantT O T gd = e)
    (hn : (d1 == s') = false ∧ (d2 == s') = false ∧ (d3 == d2) = false ∧ (d4 == d2) = false)
    (he1 : ∀ v, wantT O (upd T d1 (dead e v)) gd = e) (he2 : ∀ v v', wantT O (upd (upd T d1 (dead e v)) d2 (dead e v')) gd = e) (he3 : ∀ v v' v2, wantT O (upd (upd (upd T d1 (dead e v)) d2 (dead e v')) d3 (dead e v2)) gd = e) (he4 : ∀ v v' v2 v3, wantT O (upd (upd (upd (upd T d1 (dead e v)) d2 (dead e v')) d3 (dead e v2)) d4 (dead e v3)) gd = e)
    (hd1 : Nat.blt d1 N = true) (hd2 : Nat.blt d2 N = true) (hd3 : Nat.blt d3 N = true) (hd4 : Nat.blt d4 N = true) (hd5 : Nat.blt d5 N = true) (hg : gdok n gd = true)
    (h : ∀ a' (T' : Nat → Value), At N a' (upd (upd (upd (upd (upd T d1 (.k (T' 0))) d2 (.k (T' 1))) d3 (.k (T' 2))) d4 (.k (T' 3))) d5 (.c e (x == y))) → wpList Try.prog ops Q rest a' w) :
    wpList Try.prog ops Q ({dst := some d1, op := .fieldAddr 29 (.tmp s) k, type := ty1, pos := p1, after := f1, guard := gd} :: {dst := some d2, op := .load ty (.tmp d1), type := ty2, pos := p2, after := f2, guard := gd} :: {dst := some d3, op := .fieldAddr 29 (.tmp s') k, type := ty3, pos := p3, after := f3, guard := gd} :: {dst := some d4, op := .load ty (.tmp d3), type := ty4, pos := p4, after := f4, guard := gd} :: {dst := some d5, op := .binOp .eql ty (.tmp d2) (.tmp d4) ty5, type := ty6, pos := p5, after := f5, guard := gd} :: rest) a w := by
  have ne {i j : Nat} {U : Nat → Sl} {s : Sl} (hh : (i == j) = false) : upd U i s j = U j := upd_ne hh
  refine stp D (dead e (.pointer (some ⟨p, k, none⟩))) A rfl hd1 hg he (fun h1 => by rw [dead_t h1]; exact run_fld hk (tmp_at hs)) dead_f fun a1 A1 => ?_
  refine stp D (dead e (.int K x)) A1 rfl hd2 hg (he1 _) (fun h1 => by rw [dead_t h1]; exact run_ld (by omega) (by rw [ev_up, dead_t h1]) hc) dead_f fun a2 A2 => ?_
  refine stp D (dead e (.pointer (some ⟨p', k, none⟩))) A2 rfl hd3 hg (he2 _ _) (fun h1 => by rw [dead_t h1]; exact run_fld hk (tmp_at (by rw [ne hn.2.1, ne hn.1]; exact hs'))) dead_f fun a3 A3 => ?_
  refine stp D (dead e (.int K y)) A3 rfl hd4 hg (he3 _ _ _) (fun h1 => by rw [dead_t h1]; exact run_ld (by omega) (by rw [ev_up, dead_t h1]) hc') dead_f fun a4 A4 => ?_
  refine stp D (.c e (x == y)) A4 rfl hd5 hg (he4 _ _ _ _) (fun h1 => ?_) (fun h0 => by subst h0; rfl) fun a5 A5 => h a5 (fun i => match i with | 0 => bif e then .pointer (some ⟨p, k, none⟩) else undef | 1 => bif e then .int K x else undef | 2 => bif e then .pointer (some ⟨p', k, none⟩) else undef | _ => bif e then .int K y else undef) A5
  have hy : (Sl.c e (x == y)).val = .bool (x == y) := by rw [h1]; rfl
  rw [hy]
  refine run_eq ?_ (by show (upd _ _ _ d2).val = _; rw [ne hn.2.2.2, ne hn.2.2.1, up_at, dead_t h1]) (by rw [ev_up, dead_t h1])
  rcases hty with ⟨h, h'⟩ | ⟨h, h'⟩
  · exact .inr (.inl ⟨h, h'⟩)
  · exact .inr (.inr ⟨h, h'⟩)
/-- Two chunks' rows' lengths are compared. -/
theorem r_el {d1 d2 d3 d4 d5 d6 d7 s s' k ty ty1 ty2 ty3 ty4 ty5 ty6 ty7 ty8 p p' m m' c c' : Nat} {B B' : Option Addr} {p1 p2 p3 p4 p5 p6 p7 f1 f2 f3 f4 f5 f6 f7} {gd} {e : Bool} (A : At N a T) (hs : T s = .k (.pointer (some ⟨p, 0, none⟩))) (hs' : T s' = .k (.pointer (some ⟨p', 0, none⟩))) (hc : w.cell? ⟨p, k, none⟩ = some (.slice B m c)) (hc' : w.cell? ⟨p', k, none⟩ = some (.slice B' m' c')) (hk : Nat.blt k 14 = true) (hty : ty = 24 ∨ ty = 25 ∨ ty = 26 ∨ ty = 27) (he : wantT O T gd = e)
    (hn : (d1 == s') = false ∧ (d2 == s') = false ∧ (d3 == s') = false ∧ (d4 == d3) = false ∧ (d5 == d3) = false ∧ (d6 == d3) = false)
    (he1 : ∀ v, wantT O (upd T d1 (dead e v)) gd = e) (he2 : ∀ v v', wantT O (upd (upd T d1 (dead e v)) d2 (dead e v')) gd = e) (he3 : ∀ v v' v2, wantT O (upd (upd (upd T d1 (dead e v)) d2 (dead e v')) d3 (dead e v2)) gd = e) (he4 : ∀ v v' v2 v3, wantT O (upd (upd (upd (upd T d1 (dead e v)) d2 (dead e v')) d3 (dead e v2)) d4 (dead e v3)) gd = e)
    (he5 : ∀ v v' v2 v3 v4, wantT O (upd (upd (upd (upd (upd T d1 (dead e v)) d2 (dead e v')) d3 (dead e v2)) d4 (dead e v3)) d5 (dead e v4)) gd = e) (he6 : ∀ v v' v2 v3 v4 v5, wantT O (upd (upd (upd (upd (upd (upd T d1 (dead e v)) d2 (dead e v')) d3 (dead e v2)) d4 (dead e v3)) d5 (dead e v4)) d6 (dead e v5)) gd = e)
    (hd1 : Nat.blt d1 N = true) (hd2 : Nat.blt d2 N = true) (hd3 : Nat.blt d3 N = true) (hd4 : Nat.blt d4 N = true) (hd5 : Nat.blt d5 N = true) (hd6 : Nat.blt d6 N = true) (hd7 : Nat.blt d7 N = true) (hg : gdok n gd = true)
    (h : ∀ a' (T' : Nat → Value), At N a' (upd (upd (upd (upd (upd (upd (upd T d1 (.k (T' 0))) d2 (.k (T' 1))) d3 (.k (T' 2))) d4 (.k (T' 3))) d5 (.k (T' 4))) d6 (.k (T' 5))) d7 (.c e ((m : Int) == (m' : Int)))) → wpList Try.prog ops Q rest a' w) :
    wpList Try.prog ops Q ({dst := some d1, op := .fieldAddr 29 (.tmp s) k, type := ty1, pos := p1, after := f1, guard := gd} :: {dst := some d2, op := .load ty (.tmp d1), type := ty2, pos := p2, after := f2, guard := gd} :: {dst := some d3, op := .call { callee := .builtin .len, args := #[.tmp d2], argTypes := #[ty] }, type := ty3, pos := p3, after := f3, guard := gd} :: {dst := some d4, op := .fieldAddr 29 (.tmp s') k, type := ty4, pos := p4, after := f4, guard := gd} :: {dst := some d5, op := .load ty (.tmp d4), type := ty5, pos := p5, after := f5, guard := gd} :: {dst := some d6, op := .call { callee := .builtin .len, args := #[.tmp d5], argTypes := #[ty] }, type := ty6, pos := p6, after := f6, guard := gd} :: {dst := some d7, op := .binOp .eql 3 (.tmp d3) (.tmp d6) ty7, type := ty8, pos := p7, after := f7, guard := gd} :: rest) a w := by
  have ne {i j : Nat} {U : Nat → Sl} {s : Sl} (hh : (i == j) = false) : upd U i s j = U j := upd_ne hh
  refine stp D (dead e (.pointer (some ⟨p, k, none⟩))) A rfl hd1 hg he (fun h1 => by rw [dead_t h1]; exact run_fld hk (tmp_at hs)) dead_f fun a1 A1 => ?_
  refine stp D (dead e (.slice B m c)) A1 rfl hd2 hg (he1 _) (fun h1 => by rw [dead_t h1]; exact run_ld (by omega) (by rw [ev_up, dead_t h1]) hc) dead_f fun a2 A2 => ?_
  refine stp D (dead e (.int .i64 m)) A2 rfl hd3 hg (he2 _ _) (fun h1 => by rw [dead_t h1]; exact run_len hty (by rw [ev_up, dead_t h1])) dead_f fun a3 A3 => ?_
  refine stp D (dead e (.pointer (some ⟨p', k, none⟩))) A3 rfl hd4 hg (he3 _ _ _) (fun h1 => by rw [dead_t h1]; exact run_fld hk (tmp_at (by rw [ne hn.2.2.1, ne hn.2.1, ne hn.1]; exact hs'))) dead_f fun a4 A4 => ?_
  refine stp D (dead e (.slice B' m' c')) A4 rfl hd5 hg (he4 _ _ _ _) (fun h1 => by rw [dead_t h1]; exact run_ld (by omega) (by rw [ev_up, dead_t h1]) hc') dead_f fun a5 A5 => ?_
  refine stp D (dead e (.int .i64 m')) A5 rfl hd6 hg (he5 _ _ _ _ _) (fun h1 => by rw [dead_t h1]; exact run_len hty (by rw [ev_up, dead_t h1])) dead_f fun a6 A6 => ?_
  refine stp D (.c e ((m : Int) == (m' : Int))) A6 rfl hd7 hg (he6 _ _ _ _ _ _) (fun h1 => ?_) (fun h0 => by subst h0; rfl) fun a7 A7 => h a7 (fun i => match i with | 0 => bif e then .pointer (some ⟨p, k, none⟩) else undef | 1 => bif e then .slice B m c else undef | 2 => bif e then .int .i64 m else undef | 3 => bif e then .pointer (some ⟨p', k, none⟩) else undef | 4 => bif e then .slice B' m' c' else undef | _ => bif e then .int .i64 m' else undef) A7
  have hy : (Sl.c e ((m : Int) == (m' : Int))).val = .bool ((m : Int) == (m' : Int)) := by rw [h1]; rfl
  rw [hy]
  exact run_eq (.inl ⟨rfl, rfl⟩) (by show (upd _ _ _ d3).val = _; rw [ne hn.2.2.2.2.2, ne hn.2.2.2.2.1, ne hn.2.2.2.1, up_at, dead_t h1]) (by rw [ev_up, dead_t h1])
end
theorem enter_ordered {P : Program} {id : Nat} {l : List Oper} {y : Code} {Q : Exit → Act → World → Prop} {a : Act} {w : World} (O n N : Nat) (hok : (List.range n).all (fun j => (l[j]?).bind (·.dst) == some (j + O)) = true) (hle : Nat.ble (n + O) N = true)
    (hs : a.tmps.size = N) (hd : a.defers = [])
    (h : ∀ (ops : Array Oper) (T : Nat → Sl) (a' : Act), Dsts O n N ops → At N a' T → (∀ i, T i = .k (a.tmps.getD i undef)) → wpList P ops (Exit.then (y.wp P Q) Q) l a' w) : ((Code.region id l.toArray false).seq y).wp P Q a w := by
  refine wp_seq (wp_region_lit (h _ (fun i => .k (a.tmps.getD i undef)) a ⟨fun j hj => ?_, Nat.ble_eq.mp hle⟩ ⟨hs, fun i => rfl, hd⟩ (fun _ => rfl)))
  have h2 := List.all_eq_true.mp hok j (List.mem_range.mpr hj)
  rw [List.getElem?_toArray]
  exact eq_of_beq h2
theorem upd_self {T : Nat → Sl} {d : Nat} {s : Sl} (h : T d = s) : upd T d s = T := by
  funext i
  unfold upd
  by_cases hi : i = d
  · subst hi; rw [show Nat.beq i i = true from Nat.beq_refl i, ← h]; rfl
  · rw [show Nat.beq i d = false from by cases hb : Nat.beq i d with | false => rfl | true => exact absurd (Nat.eq_of_beq_eq_true hb) hi]; rfl
/-- All temporaries but three are forgotten. -/
theorem cut3 {N : Nat} {a : Act} {T : Nat → Sl} {p t s : Sl} {i j d : Nat} (A : At N a T) (h1 : T i = p) (h3 : T j = t) (hs : T d = s) : ∃ T', At N a (upd (upd (upd T' i p) j t) d s) :=
  ⟨T, by rw [upd_self h1, upd_self h3, upd_self hs]; exact A⟩
end Go.Proofs.Ytaahkggbjpdofaa.M
