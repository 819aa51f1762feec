/- Packets as bytes: what ip.Put and the document's own tell, in plain Lean. -/
import Derived.Test.YtdligcofjfdhbaaPNumB
import Derived.Test.YtdligcofjfdhbaaPIpSum
import Derived.Test.YtdligcofjfdhbaaM12
import Derived.Test.YtdligcofjfdhbaaHSet
import Derived.Test.YtdligcofjfdhbaaM9
namespace Go.Proofs.Ytdligcofjfdhbaa.Pure
open Go.RowKit Go.Proofs.Ytdligcofjfdhbaa.M Go.Proofs.YtdligcofjfdhbaaW.PrintWords Go.Proofs.YtdligcofjfdhbaaW.PrintLast Go.Proofs.YtdligcofjfdhbaaW.PrintMore
set_option linter.unusedVariables false
set_option linter.unusedSimpArgs false

/-- What is wrong with a packet. -/
def mayS (more : Bool) (off n : Int) : Int :=
  if off < 0 ∨ off > 65528 ∨ off % 8 ≠ 0 ∨ (more = true ∧ n % 8 ≠ 0) then 2 else if n > 65515 - off then 6 else 0
theorem mayS_zero {more : Bool} {off n : Int} (h : mayS more off n = 0) : 0 ≤ off ∧ off ≤ 65528 ∧ off % 8 = 0 ∧ (more = true → n % 8 = 0) ∧ n ≤ 65515 - off := by
  unfold mayS at h
  split at h
  · omega
  · rename_i h1
    split at h
    · omega
    · refine ⟨by omega, by omega, by omega, ?_, by omega⟩
      intro hm
      have : ¬ (more = true ∧ n % 8 ≠ 0) := fun q => h1 (.inr (.inr (.inr q)))
      have : ¬ n % 8 ≠ 0 := fun q => this ⟨hm, q⟩
      omega
theorem tmod8 {x : Int} (h : 0 ≤ x) : Int.tmod x 8 = x % 8 := Int.tmod_eq_emod_of_nonneg h
theorem tdiv8 {x : Int} (h : 0 ≤ x) : Int.tdiv x 8 = x / 8 := Int.tdiv_eq_ediv_of_nonneg h
theorem may_f (a0 a1 a2 a3 a4 : Int) (a5 a6 : Bool) (off : Int) (l : List Int) (ho : -9223372036854775808 ≤ off ∧ off ≤ 9223372036854775807) (hl : l.length ≤ 140737488355328) {k : Nat} (hk : 1 ≤ k) : ip_may.f k a0 a1 a2 a3 a4 a5 a6 off l = some (mayS a6 off l.length) := by
  obtain ⟨k, rfl⟩ : ∃ m, k = m + 1 := ⟨k - 1, by omega⟩
  unfold ip_may.f mayS
  have J : ∀ b, ip_may.j0 (k + 1) b a0 a1 a2 a3 a4 a5 a6 off l = if b = true then some 2 else if (l.length : Int) > wrap64 (65515 - off) then some 6 else some 0 := fun b => rfl
  by_cases h1 : off < 0
  · rw [if_pos h1, J, if_pos rfl, if_pos (.inl h1)]
  · rw [if_neg h1]
    by_cases h2 : off > 65528
    · rw [if_pos h2, J, if_pos rfl, if_pos (.inr (.inl h2))]
    · rw [if_neg h2, tmod8 (by omega)]
      by_cases h3 : off % 8 = 0
      · rw [if_pos h3]
        cases a6
        · rw [if_neg (by decide), J, if_neg (by decide), w64 (by omega) (by omega), if_neg (c := off < 0 ∨ _) (by simp; omega)]
          split <;> rfl
        · rw [if_pos rfl, J, w64 (by omega) (by omega)]
          by_cases h4 : (l.length : Int) % 8 = 0
          · rw [if_neg (by simp [h4]), if_neg (c := off < 0 ∨ _) (by simp; omega)]
            split <;> rfl
          · rw [if_pos (by simp [h4]), if_pos (c := off < 0 ∨ _) (by simp; omega)]
      · rw [if_neg h3, J, if_pos rfl, if_pos (.inr (.inr (.inl h3)))]
/-- Numbers' bytes one behind the other. -/
def layL : List S56 → List Int
  | [] => []
  | x :: xs => bytesL x.f0 x.f1.toNat ++ layL xs
def okP (x : S56) : Prop := 1 ≤ x.f1 ∧ x.f1 ≤ 8 ∧ 0 ≤ x.f0 ∧ x.f0 < 256 ^ x.f1.toNat
theorem okP_mk {v n : Int} (h1 : 1 ≤ n) (h8 : n ≤ 8) (h0 : 0 ≤ v) (hv : v < 256 ^ n.toNat) : okP ⟨v, n⟩ := ⟨h1, h8, h0, hv⟩
theorem pow_mono {n : Nat} (h : n ≤ 8) {v : Int} (hv : v < 256 ^ n) : v < 18446744073709551616 := by
  have := (pow256 n h).2
  omega
theorem bytes_ok {v n : Int} (h1 : 1 ≤ n) (h8 : n ≤ 8) (h0 : 0 ≤ v) (hv : v < 256 ^ n.toNat) : bytesS v n = (bytesL v n.toNat, 0) := by
  unfold bytesS
  rw [if_pos ⟨h1, h8⟩, if_neg]
  rw [Int.ediv_eq_zero_of_lt h0 hv]
  decide
/-- What is done when the head is laid. -/
def putEnd (k : Nat) (b body : List Int) : Option (List Int × Int) :=
  (sums_Net.f k b).bind fun t134 => (ip_laid.f k b 10 t134).bind fun t135 => if t135.length + body.length < 140737488355328 then some ((t135 ++ body), 0) else none
theorem lay_l0 (a0 a1 a2 a3 a4 : Int) (a5 a6 : Bool) (a7 : Int) (body : List Int) (l : List S56) (hl : l.length ≤ 1000) (ho : ∀ x ∈ l, okP x) : ∀ (d i k : Nat) (b : List Int), i + d = l.length → 10 ≤ k → b.length + 8 * d < 140737488355328 → ip_Put.l0 (k + d + 1) b l (l.length : Int) (i : Int) a0 a1 a2 a3 a4 a5 a6 a7 body = putEnd k (b ++ layL (l.drop i)) body
  | 0, i, k, b, hi, hk, hb => by
    have : i = l.length := by omega
    subst this
    rw [ip_Put.l0, if_neg (by omega)]
    simp [layL, putEnd]
  | d + 1, i, k, b, hi, hk, hb => by
    have hi' : i < l.length := by omega
    obtain ⟨o1, o2, o3, o4⟩ := ho l[i] (List.getElem_mem hi')
    have e : rd_T56 l (i : Int) = l[i] := by simp [rd_T56, List.getD, hi']
    have hlen : (bytesL l[i].f0 l[i].f1.toNat).length ≤ 8 := by rw [bytesL_length]; omega
    rw [show k + (d + 1) + 1 = (k + d + 1) + 1 by omega, ip_Put.l0]
    rw [if_pos (by omega), if_pos (by omega), if_pos (by omega), e, w64 (x := l[i].f1) (by omega) (by omega), bytes_f _ _ o3 (pow_mono (by omega) o4) (i64_wf (by omega) (by omega)) (by omega), bytes_ok o1 o2 o3 o4]
    simp only [Option.bind_some]
    rw [if_pos (by omega), w64 (by omega) (by omega), show ((i : Int) + 1) = ((i + 1 : Nat) : Int) by omega, lay_l0 a0 a1 a2 a3 a4 a5 a6 a7 body l hl ho d (i + 1) k _ (by omega) (by omega) (by rw [List.length_append]; omega)]
    rw [List.drop_eq_getElem_cons hi', layL, List.append_assoc]

/-- The head ahead of its sum, and behind it. -/
def headA (len id w ttl proto : Int) : List Int := bytesL 17664 2 ++ (bytesL (20 + len) 2 ++ (bytesL id 2 ++ (bytesL w 2 ++ (bytesL ttl 1 ++ bytesL proto 1))))
def headE (src dst : Int) : List Int := bytesL src 4 ++ bytesL dst 4
theorem headA_len (len id w ttl proto : Int) : (headA len id w ttl proto).length = 10 := by simp [headA, bytesL_length]
theorem headE_len (src dst : Int) : (headE src dst).length = 8 := by simp [headE, bytesL_length]
theorem headA_rng (len id w ttl proto : Int) : ∀ x ∈ headA len id w ttl proto, 0 ≤ x ∧ x ≤ 255 := by
  intro x hx
  simp only [headA, List.mem_append] at hx
  rcases hx with h | h | h | h | h | h <;> exact bytesL_range _ _ x h
theorem headE_rng (src dst : Int) : ∀ x ∈ headE src dst, 0 ≤ x ∧ x ≤ 255 := by
  intro x hx
  simp only [headE, List.mem_append] at hx
  rcases hx with h | h <;> exact bytesL_range _ _ x h
def wordS (off : Int) (dont more : Bool) : Int := off / 8 + (if dont then 16384 else 0) + (if more then 8192 else 0)
def sumP (src dst proto ttl id : Int) (dont more : Bool) (off len : Int) : Int := netS (headA len id (wordS off dont more) ttl proto ++ headE src dst)
/-- What Put tells. -/
def putS (src dst proto ttl id : Int) (dont more : Bool) (off : Int) (body : List Int) : List Int × Int :=
  if mayS more off body.length = 0 then (headA body.length id (wordS off dont more) ttl proto ++ (bytesL (sumP src dst proto ttl id dont more off body.length) 2 ++ (headE src dst ++ body)), 0) else ([], mayS more off body.length)

theorem sumT_even : ∀ (xs ys : List Int), xs.length % 2 = 0 → sumT true (xs ++ ys) = sumT true xs + sumT true ys
  | [], ys, _ => by simp [sumT]
  | [x], ys, h => by simp at h
  | x :: y :: xs, ys, h => by
    have := sumT_even xs ys (by simp at h; omega)
    simp only [List.cons_append, sumT]
    rw [this]; omega
theorem netS_gap (A E : List Int) (h : A.length % 2 = 0) : netS (A ++ ([0, 0] ++ E)) = netS (A ++ E) := by
  unfold netS
  rw [sumT_even _ _ h, sumT_even _ _ h, sumT_even [0, 0] E rfl]
  simp [sumT]

theorem or_dont {x : Int} (h0 : 0 ≤ x) (h1 : x < 8192) : Go.bits .or .u64 x 16384 = x + 16384 := by
  obtain ⟨b, rfl⟩ := Int.eq_ofNat_of_zero_le h0
  have h := Go.u64_or_nat b 16384 (by omega) (by decide)
  have e : b ||| 16384 = b + 16384 := by
    have g : 16384 + b = 16384 ||| b := Nat.two_pow_add_eq_or_of_lt (i := 14) (b := b) (by omega) 1
    rw [Nat.or_comm]; omega
  have h2 : Go.bits .or .u64 (b : Int) 16384 = ((b ||| 16384 : Nat) : Int) := h
  rw [h2, e]; omega
theorem or_more0 {x : Int} (h0 : 0 ≤ x) (h1 : x < 8192) : Go.bits .or .u64 x 8192 = x + 8192 := by
  obtain ⟨b, rfl⟩ := Int.eq_ofNat_of_zero_le h0
  have h := Go.u64_or_nat b 8192 (by omega) (by decide)
  have e : b ||| 8192 = b + 8192 := by
    have g : 8192 + b = 8192 ||| b := Nat.two_pow_add_eq_or_of_lt (i := 13) (b := b) (by omega) 1
    rw [Nat.or_comm]; omega
  have h2 : Go.bits .or .u64 (b : Int) 8192 = ((b ||| 8192 : Nat) : Int) := h
  rw [h2, e]; omega
theorem or_more1 {x : Int} (h0 : 0 ≤ x) (h1 : x < 8192) : Go.bits .or .u64 (x + 16384) 8192 = x + 16384 + 8192 := by
  obtain ⟨b, rfl⟩ := Int.eq_ofNat_of_zero_le h0
  have h := Go.u64_or_nat (b + 16384) 8192 (by omega) (by decide)
  have e : (b + 16384) ||| 8192 = b + 16384 + 8192 := by
    have g1 : 16384 + b = 16384 ||| b := Nat.two_pow_add_eq_or_of_lt (i := 14) (b := b) (by omega) 1
    have g2 : 8192 + b = 8192 ||| b := Nat.two_pow_add_eq_or_of_lt (i := 13) (b := b) (by omega) 1
    have g3 : 16384 + (8192 + b) = 16384 ||| (8192 + b) := Nat.two_pow_add_eq_or_of_lt (i := 14) (b := 8192 + b) (by omega) 1
    have e1 : b + 16384 = 16384 ||| b := by omega
    have e2 : 8192 ||| b = 8192 + b := by omega
    rw [e1, Nat.or_assoc, Nat.or_comm b 8192, e2]
    omega
  have h2 : Go.bits .or .u64 ((b : Int) + 16384) 8192 = (((b + 16384) ||| 8192 : Nat) : Int) := h
  rw [h2, e]; omega

theorem set_f (A E : List Int) (hA : A.length = 10) (hE : E.length = 8) (hAr : ∀ x ∈ A, 0 ≤ x ∧ x ≤ 255) (hEr : ∀ x ∈ E, 0 ≤ x ∧ x ≤ 255) (s : Int) (h0 : 0 ≤ s) (h1 : s ≤ 65535) {k : Nat} (hk : 10 ≤ k) : ip_laid.f k (A ++ ([0, 0] ++ E)) 10 s = some (A ++ (bytesL s 2 ++ E)) := by
  unfold ip_laid.f octet_Set.f
  have hr : ∀ x ∈ A ++ ([0, 0] ++ E), 0 ≤ x ∧ x ≤ 255 := by
    intro x hx
    simp only [List.mem_append, List.mem_cons, List.not_mem_nil, or_false] at hx
    rcases hx with h | (rfl | rfl) | h
    · exact hAr x h
    · omega
    · omega
    · exact hEr x h
  have hl : (A ++ ([0, 0] ++ E)).length = 20 := by simp; omega
  rw [num_f _ 10 2 (by rw [hl]; decide) hr (by decide) (by decide) (by omega), wrapu h0 (by omega), bytes_f s 2 h0 (by omega) (by decide) hk, bytes_ok (by decide) (by decide) h0 (by show s < 256 ^ 2; omega)]
  unfold numS
  rw [if_pos (by decide), if_pos (by rw [hl]; decide), if_pos (by rw [hl]; decide)]
  simp only [Option.bind_some, ↓reduceIte]
  rw [if_pos (by rw [hl, bytesL_length]; decide)]
  have e1 : (A ++ ([0, 0] ++ E)).take (10 : Int).toNat = A := List.take_left' hA
  have e2 : (A ++ ([0, 0] ++ E)).drop (10 + 2 : Int).toNat = E := by
    rw [← List.append_assoc]
    exact List.drop_left' (by simp [hA])
  rw [e1, e2]
  simp only [Option.bind_some, List.append_assoc]
  rfl
theorem putEnd_f (A E body : List Int) (hA : A.length = 10) (hE : E.length = 8) (hAr : ∀ x ∈ A, 0 ≤ x ∧ x ≤ 255) (hEr : ∀ x ∈ E, 0 ≤ x ∧ x ≤ 255) (hb : body.length ≤ 70000) {k : Nat} (hk : 40 ≤ k) : putEnd k (A ++ ([0, 0] ++ E)) body = some (A ++ (bytesL (netS (A ++ E)) 2 ++ (E ++ body)), 0) := by
  have hr : ∀ x ∈ A ++ ([0, 0] ++ E), 0 ≤ x ∧ x ≤ 255 := by
    intro x hx
    simp only [List.mem_append, List.mem_cons, List.not_mem_nil, or_false] at hx
    rcases hx with h | (rfl | rfl) | h
    · exact hAr x h
    · omega
    · omega
    · exact hEr x h
  have hl : (A ++ ([0, 0] ++ E)).length = 20 := by simp; omega
  have hn := netS_range (A ++ E)
  unfold putEnd
  rw [net_f _ hr (by omega) (by omega), netS_gap A E (by omega)]
  simp only [Option.bind_some]
  rw [set_f A E hA hE hAr hEr _ hn.1 hn.2 (by omega)]
  simp only [Option.bind_some]
  rw [if_pos (by simp [bytesL_length]; omega)]
  simp only [List.append_assoc]

theorem p1 : (256 : Int) ^ (1 : Int).toNat = 256 := by decide
theorem p2 : (256 : Int) ^ (2 : Int).toNat = 65536 := by decide
theorem p4 : (256 : Int) ^ (4 : Int).toNat = 4294967296 := by decide
theorem wordS_rng {off : Int} {dont more : Bool} (h0 : 0 ≤ off) (h1 : off ≤ 65528) : 0 ≤ wordS off dont more ∧ wordS off dont more ≤ 65535 := by
  unfold wordS; cases dont <;> cases more <;> simp <;> omega
theorem put_j1 (src dst proto ttl id : Int) (dont more : Bool) (off w : Int) (body : List Int) (s1 : 0 ≤ src ∧ src ≤ 4294967295) (s2 : 0 ≤ dst ∧ dst ≤ 4294967295) (s3 : 0 ≤ proto ∧ proto ≤ 255) (s4 : 0 ≤ ttl ∧ ttl ≤ 255) (s5 : 0 ≤ id ∧ id ≤ 65535) (hw : 0 ≤ w ∧ w ≤ 65535) (hb : body.length ≤ 65515) {k : Nat} (hk : 60 ≤ k) :
    ip_Put.j1 k w src dst proto ttl id dont more off body = some (headA body.length id w ttl proto ++ (bytesL (netS (headA body.length id w ttl proto ++ headE src dst)) 2 ++ (headE src dst ++ body)), 0) := by
  obtain ⟨k, rfl⟩ : ∃ m, k = m + 1 := ⟨k - 1, by omega⟩
  rw [ip_Put.j1]
  simp only [Option.bind_some]
  rw [w64 (x := 20 + (body.length : Int)) (by omega) (by omega), wrapu (x := 20 + (body.length : Int)) (by omega) (by omega), wrapu (x := id) (by omega) (by omega), wrapu (x := ttl) (by omega) (by omega), wrapu (x := proto) (by omega) (by omega), wrapu (x := src) (by omega) (by omega), wrapu (x := dst) (by omega) (by omega)]
  generalize hL : ([⟨17664, 2⟩, ⟨20 + (body.length : Int), 2⟩, ⟨id, 2⟩, ⟨w, 2⟩, ⟨ttl, 1⟩, ⟨proto, 1⟩, ⟨0, 2⟩, ⟨src, 4⟩, ⟨dst, 4⟩] : List S56) = L
  have hl9 : L.length = 9 := by rw [← hL]; rfl
  have ho : ∀ x ∈ L, okP x := by
    intro x hx
    rw [← hL] at hx
    simp only [List.mem_cons, List.not_mem_nil, or_false] at hx
    rcases hx with rfl | rfl | rfl | rfl | rfl | rfl | rfl | rfl | rfl
    · exact okP_mk (by decide) (by decide) (by decide) (by rw [p2]; decide)
    · exact okP_mk (by decide) (by decide) (by omega) (by rw [p2]; omega)
    · exact okP_mk (by decide) (by decide) (by omega) (by rw [p2]; omega)
    · exact okP_mk (by decide) (by decide) (by omega) (by rw [p2]; omega)
    · exact okP_mk (by decide) (by decide) (by omega) (by rw [p1]; omega)
    · exact okP_mk (by decide) (by decide) (by omega) (by rw [p1]; omega)
    · exact okP_mk (by decide) (by decide) (by decide) (by rw [p2]; decide)
    · exact okP_mk (by decide) (by decide) (by omega) (by rw [p4]; omega)
    · exact okP_mk (by decide) (by decide) (by omega) (by rw [p4]; omega)
  have e : layL L = headA body.length id w ttl proto ++ ([0, 0] ++ headE src dst) := by
    rw [← hL]
    have z : bytesL 0 2 = [0, 0] := by decide
    have t1 : (1 : Int).toNat = 1 := rfl
    have t2 : (2 : Int).toNat = 2 := rfl
    have t4 : (4 : Int).toNat = 4 := rfl
    simp only [layL, headA, headE, List.append_assoc, List.append_nil, t1, t2, t4, z]
  clear hL
  have z0 : ((0 : Nat) : Int) = 0 := rfl
  obtain ⟨q, hq⟩ : ∃ q, k = q + 9 + 1 := ⟨k - 10, by omega⟩
  have g := lay_l0 src dst proto ttl id dont more off body L (by omega) ho 9 0 q [] (by omega) (by omega) (by simp [hl9])
  rw [z0, ← hq, List.drop_zero, List.nil_append, e] at g
  rw [g]
  exact putEnd_f _ _ body (headA_len ..) (headE_len ..) (headA_rng _ _ _ _ _) (headE_rng _ _) (by omega) (by omega)
theorem put_f (src dst proto ttl id : Int) (dont more : Bool) (off : Int) (body : List Int) (s1 : 0 ≤ src ∧ src ≤ 4294967295) (s2 : 0 ≤ dst ∧ dst ≤ 4294967295) (s3 : 0 ≤ proto ∧ proto ≤ 255) (s4 : 0 ≤ ttl ∧ ttl ≤ 255) (s5 : 0 ≤ id ∧ id ≤ 65535) (ho : -9223372036854775808 ≤ off ∧ off ≤ 9223372036854775807) (hl : body.length ≤ 140737488355328) {k : Nat} (hk : 70 ≤ k) :
    ip_Put.f k src dst proto ttl id dont more off body = some (putS src dst proto ttl id dont more off body) := by
  obtain ⟨k, rfl⟩ : ∃ m, k = m + 1 := ⟨k - 1, by omega⟩
  unfold ip_Put.f putS
  rw [may_f src dst proto ttl id dont more off body ho hl (by omega)]
  simp only [Option.bind_some]
  by_cases h : mayS more off body.length = 0
  · obtain ⟨m1, m2, m3, m4, m5⟩ := mayS_zero h
    rw [if_pos h, if_pos h, tdiv8 m1, w64 (by omega) (by omega), wrapu (x := off / 8) (by omega) (by omega)]
    unfold sumP
    cases dont
    · rw [if_neg (by decide), ip_Put.j0]
      cases more
      · rw [if_neg (by decide), put_j1 src dst proto ttl id _ _ off _ body s1 s2 s3 s4 s5 (by omega) (by omega) (by omega)]
        simp [wordS]
      · rw [if_pos rfl, or_more0 (by omega) (by omega), put_j1 src dst proto ttl id _ _ off _ body s1 s2 s3 s4 s5 (by omega) (by omega) (by omega)]
        simp [wordS]
    · rw [if_pos rfl, or_dont (by omega) (by omega), ip_Put.j0]
      cases more
      · rw [if_neg (by decide), put_j1 src dst proto ttl id _ _ off _ body s1 s2 s3 s4 s5 (by omega) (by omega) (by omega)]
        simp [wordS]
      · rw [if_pos rfl, or_more1 (by omega) (by omega), put_j1 src dst proto ttl id _ _ off _ body s1 s2 s3 s4 s5 (by omega) (by omega) (by omega)]
        simp [wordS]
  · rw [if_neg h, if_neg h]

theorem rlay_f (b : List Int) (v n : Int) (h1 : 1 ≤ n) (h8 : n ≤ 8) (h0 : 0 ≤ v) (hv : v < 256 ^ n.toNat) (hb : b.length ≤ 140737488000000) {k : Nat} (hk : 10 ≤ k) : trunklineref01_Lay.f k b v n = some (b ++ bytesL v n.toNat) := by
  unfold trunklineref01_Lay.f
  rw [rbytes_f _ _ h0 (pow_mono (by omega) hv) (i64_wf (by omega) (by omega)) hk, bytes_ok h1 h8 h0 hv]
  simp only [Option.bind_some]
  rw [if_pos (by rw [bytesL_length]; omega)]
theorem putS_len (src dst proto ttl id : Int) (dont more : Bool) (off : Int) (body : List Int) (h : mayS more off body.length = 0) : (putS src dst proto ttl id dont more off body).1.length = 20 + body.length := by
  unfold putS
  rw [if_pos h]
  simp [headA_len, headE_len, bytesL_length]
  omega

end Go.Proofs.Ytdligcofjfdhbaa.Pure
