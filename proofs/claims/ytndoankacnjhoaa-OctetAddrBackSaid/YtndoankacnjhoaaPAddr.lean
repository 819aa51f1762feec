/- An address's text: octet.AddrText as a list of letters; octet.Addr of a text is the address if and only if the text is that list. -/
import Derived.Test.YtndoankacnjhoaaPNum
import Derived.Test.YtndoankacnjhoaaPText
import Derived.Test.YtndoankacnjhoaaHAddr
import Derived.Test.YtndoankacnjhoaaM5
namespace Go.Proofs.Ytndoankacnjhoaa.Pure
open Go.RowKit Go.Proofs.Ytndoankacnjhoaa.M Go.Proofs.YtndoankacnjhoaaW.PrintWords Go.Proofs.YtndoankacnjhoaaW.PrintLast Go.Proofs.YtndoankacnjhoaaW.PrintMore
set_option linter.unusedVariables false
set_option linter.unusedSimpArgs false

/-- A byte's digits. -/
def decN (n : Int) : List Int := (if n ≥ 100 then [48 + n / 100] else []) ++ ((if n ≥ 10 then [48 + n / 10 % 10] else []) ++ [48 + n % 10])
/-- Parts with a point between any two. -/
def textL : List Int → List Int
  | [] => []
  | [q] => decN q
  | q :: q2 :: qs => decN q ++ 46 :: textL (q2 :: qs)

theorem decN_range (n : Int) (h0 : 0 ≤ n) (h1 : n ≤ 255) : ∀ c ∈ decN n, 46 ≤ c ∧ c ≤ 57 := by
  intro c hc
  unfold decN at hc
  simp only [List.mem_append, List.mem_singleton] at hc
  rcases hc with h | h | h
  · split at h
    · simp only [List.mem_singleton] at h; omega
    · simp at h
  · split at h
    · simp only [List.mem_singleton] at h; omega
    · simp at h
  · omega
theorem decN_len (n : Int) : 1 ≤ (decN n).length ∧ (decN n).length ≤ 3 := by
  unfold decN; split <;> split <;> simp
theorem textL_range : ∀ (qs : List Int), (∀ q ∈ qs, 0 ≤ q ∧ q ≤ 255) → ∀ c ∈ textL qs, 46 ≤ c ∧ c ≤ 57
  | [], h, c, hc => by simp [textL] at hc
  | [q], h, c, hc => decN_range q (h q (by simp)).1 (h q (by simp)).2 c hc
  | q :: q2 :: qs, h, c, hc => by
    simp only [textL, List.mem_append, List.mem_cons] at hc
    rcases hc with h1 | h1 | h1
    · exact decN_range q (h q (by simp)).1 (h q (by simp)).2 c h1
    · omega
    · exact textL_range (q2 :: qs) (fun x hx => h x (by simp [hx])) c h1

theorem or32 (a n : Int) (h0 : 0 ≤ a) (h1 : a < 16777216) (hn0 : 0 ≤ n) (hn1 : n ≤ 255) : Go.bits .or .u32 (a * 256 % 4294967296) n = a * 256 + n := by
  have wr : ∀ n : Int, 0 ≤ n → n < 2 ^ 32 → IntKind.u32.wrap n = n := fun n h0 h1 => by
    have : IntKind.u32.wrap n = n % 4294967296 := by simp [IntKind.wrap, IntKind.bits, IntKind.signed]
    rw [this]; omega
  rw [Int.emod_eq_of_lt (by omega) (by omega)]
  exact Go.bits_join .u32 32 (by decide) wr 8 _ _ (by omega) (by omega) (by omega) (by omega) (by omega) (by omega)

/-- A digit's step. -/
theorem step_digit {c a n d p : Int} (h0 : 48 ≤ c) (h1 : c ≤ 57) (h2 : d = 0 ∨ 0 < n) (h3 : n * 10 + (c - 48) ≤ 255) : addrStep c a n d p = some (a, n * 10 + (c - 48), d + 1, p) := by
  unfold addrStep; rw [if_pos ⟨h0, h1, h2, h3⟩]
theorem step_point {a n d p : Int} (h0 : 0 < d) (h1 : p < 3) : addrStep 46 a n d p = some (Go.bits .or .u32 (a * 256 % 4294967296) n, 0, 0, p + 1) := by
  unfold addrStep; rw [if_neg (by omega), if_pos ⟨rfl, h0, h1⟩]

theorem addr_decN (n : Int) (h0 : 0 ≤ n) (h1 : n ≤ 255) (a p place : Int) (rest : List Int) : ∃ d pl, 0 < d ∧ addrL (decN n ++ rest) a 0 0 p place = addrL rest a n d p pl := by
  unfold decN
  by_cases g : n ≥ 100
  · rw [if_pos g, if_pos (by omega)]
    refine ⟨3, place + 1 + 1 + 1, by omega, ?_⟩
    simp only [List.cons_append, List.nil_append]
    rw [addrL_go (step_digit (by omega) (by omega) (Or.inl rfl) (by omega)), addrL_go (step_digit (by omega) (by omega) (Or.inr (by omega)) (by omega)), addrL_go (step_digit (by omega) (by omega) (Or.inr (by omega)) (by omega))]
    congr 1
    omega
  · rw [if_neg g]
    by_cases g2 : n ≥ 10
    · rw [if_pos g2]
      refine ⟨2, place + 1 + 1, by omega, ?_⟩
      simp only [List.cons_append, List.nil_append]
      rw [addrL_go (step_digit (by omega) (by omega) (Or.inl rfl) (by omega)), addrL_go (step_digit (by omega) (by omega) (Or.inr (by omega)) (by omega))]
      congr 1
      omega
    · rw [if_neg g2]
      refine ⟨1, place + 1, by omega, ?_⟩
      simp only [List.cons_append, List.nil_append]
      rw [addrL_go (step_digit (by omega) (by omega) (Or.inl rfl) (by omega))]
      congr 1
      omega

theorem addr_text : ∀ (qs : List Int) (a p place : Int), (∀ q ∈ qs, 0 ≤ q ∧ q ≤ 255) → (qs.length : Int) = 4 - p → p ≤ 3 → 0 ≤ p → 0 ≤ a → a < 256 ^ p.toNat → addrL (textL qs) a 0 0 p place = (numL a qs, 0, 0)
  | [], a, p, place, h, hl, hp, hp0, h0, h1 => by simp at hl; omega
  | [q], a, p, place, h, hl, hp, hp0, h0, h1 => by
    have hq := h q (by simp)
    have : p = 3 := by simp at hl; omega
    subst this
    rw [show (3 : Int).toNat = 3 from rfl, show (256 : Int) ^ 3 = 16777216 by decide] at h1
    obtain ⟨d, pl, hd, e⟩ := addr_decN q hq.1 hq.2 a 3 place []
    rw [List.append_nil] at e
    rw [textL, e, addrL, if_neg (by omega), or32 a q h0 h1 hq.1 hq.2]
    rfl
  | q :: q2 :: qs, a, p, place, h, hl, hp, hp0, h0, h1 => by
    have hq := h q (by simp)
    have hp3 : p < 3 := by simp at hl; omega
    obtain ⟨d, pl, hd, e⟩ := addr_decN q hq.1 hq.2 a p place (46 :: textL (q2 :: qs))
    have ha : (256 : Int) ^ p.toNat ≤ 65536 := by
      have H : ∀ n : Fin 3, (256 : Int) ^ n.val ≤ 65536 := by decide
      exact H ⟨p.toNat, by omega⟩
    rw [textL, e, addrL_go (step_point hd hp3), or32 a q h0 (by omega) hq.1 hq.2]
    rw [addr_text (q2 :: qs) (a * 256 + q) (p + 1) (pl + 1) (fun x hx => h x (by simp [hx])) (by simp at hl ⊢; omega) (by omega) (by omega) (by omega) (by
      rw [show (p + 1).toNat = p.toNat + 1 by omega, Int.pow_succ]; omega)]
    rfl

theorem decN_snoc (n x : Int) (h0 : 1 ≤ n) (hx0 : 0 ≤ x) (hx1 : x ≤ 9) (h1 : n * 10 + x ≤ 255) : decN n ++ [48 + x] = decN (n * 10 + x) := by
  unfold decN
  rw [if_neg (show ¬ n ≥ 100 by omega), if_pos (show n * 10 + x ≥ 10 by omega)]
  by_cases g : n ≥ 10
  · rw [if_pos g, if_pos (show n * 10 + x ≥ 100 by omega)]
    simp only [List.nil_append, List.cons_append, List.cons.injEq, and_true]
    omega
  · rw [if_neg g, if_neg (show ¬ n * 10 + x ≥ 100 by omega)]
    simp only [List.nil_append, List.cons_append, List.cons.injEq, and_true]
    omega
theorem decN_one (x : Int) (hx0 : 0 ≤ x) (hx1 : x ≤ 9) : decN x = [48 + x] := by
  unfold decN
  rw [if_neg (by omega), if_neg (by omega)]
  simp only [List.nil_append, List.cons.injEq, and_true]
  omega

/-- What Addr takes is a text of parts, and its number theirs. -/
theorem addr_taken : ∀ (cs : List Int) (a n d p place y pl : Int), 0 ≤ p → p ≤ 3 → 0 ≤ a → a < 256 ^ p.toNat → 0 ≤ n → n ≤ 255 → 0 ≤ d → (d = 0 → n = 0) → addrL cs a n d p place = (y, pl, 0) →
    ∃ qs : List Int, (qs.length : Int) = 4 - p ∧ (∀ q ∈ qs, 0 ≤ q ∧ q ≤ 255) ∧ (if d = 0 then [] else decN n) ++ cs = textL qs ∧ y = numL a qs
  | [], a, n, d, p, place, y, pl, hp0, hp, h0, h1, hn0, hn1, hd0, hd, he => by
    rw [addrL] at he
    by_cases g : p < 3 ∨ d = 0
    · rw [if_pos g] at he; simp at he
    · rw [if_neg g] at he
      have : p = 3 := by omega
      subst this
      rw [show (3 : Int).toNat = 3 from rfl, show (256 : Int) ^ 3 = 16777216 by decide] at h1
      rw [or32 a n h0 h1 hn0 hn1] at he
      simp only [Prod.mk.injEq] at he
      refine ⟨[n], rfl, by intro q hq; simp at hq; omega, ?_, he.1.symm⟩
      rw [if_neg (by omega), List.append_nil]
      rfl
  | c :: cs, a, n, d, p, place, y, pl, hp0, hp, h0, h1, hn0, hn1, hd0, hd, he => by
    by_cases g : 48 ≤ c ∧ c ≤ 57 ∧ (d = 0 ∨ 0 < n) ∧ n * 10 + (c - 48) ≤ 255
    · rw [addrL_go (step_digit g.1 g.2.1 g.2.2.1 g.2.2.2)] at he
      obtain ⟨qs, e1, e2, e3, e4⟩ := addr_taken cs a (n * 10 + (c - 48)) (d + 1) p (place + 1) y pl hp0 hp h0 h1 (by omega) g.2.2.2 (by omega) (by omega) he
      refine ⟨qs, e1, e2, ?_, e4⟩
      rw [← e3, if_neg (show ¬ d + 1 = 0 by omega)]
      by_cases z : d = 0
      · rw [if_pos z, hd z, List.nil_append, show (0 : Int) * 10 + (c - 48) = c - 48 by omega, decN_one _ (by omega) (by omega), show 48 + (c - 48) = c by omega]
        rfl
      · rw [if_neg z, ← decN_snoc n (c - 48) (by omega) (by omega) (by omega) g.2.2.2, show 48 + (c - 48) = c by omega]
        simp
    · by_cases g2 : c = 46 ∧ 0 < d ∧ p < 3
      · obtain ⟨rfl, gd, gp⟩ := g2
        have ha : (256 : Int) ^ p.toNat ≤ 65536 := by
          have H : ∀ n : Fin 3, (256 : Int) ^ n.val ≤ 65536 := by decide
          exact H ⟨p.toNat, by omega⟩
        rw [addrL_go (step_point gd gp), or32 a n h0 (by omega) hn0 hn1] at he
        obtain ⟨qs, e1, e2, e3, e4⟩ := addr_taken cs (a * 256 + n) 0 0 (p + 1) (place + 1) y pl (by omega) (by omega) (by omega) (by
          rw [show (p + 1).toNat = p.toNat + 1 by omega, Int.pow_succ]; omega) (by omega) (by omega) (by omega) (by omega) he
        rw [if_pos rfl, List.nil_append] at e3
        cases qs with
        | nil => simp at e1; omega
        | cons q qs =>
          refine ⟨n :: q :: qs, by simp at e1 ⊢; omega, ?_, ?_, ?_⟩
          · intro x hx
            rcases List.mem_cons.1 hx with rfl | hx
            · omega
            · exact e2 x hx
          · rw [if_neg (by omega), e3]; rfl
          · rw [e4]; rfl
      · rw [addrL_bad (by unfold addrStep; rw [if_neg g, if_neg g2])] at he
        simp at he

theorem bytesL_numL (xs : List Int) (h : ∀ x ∈ xs, 0 ≤ x ∧ x ≤ 255) : bytesL (numL 0 xs) xs.length = xs := by
  have : ∀ (n : Nat) (xs : List Int), xs.length = n → (∀ x ∈ xs, 0 ≤ x ∧ x ≤ 255) → bytesL (numL 0 xs) n = xs := by
    intro n
    induction n with
    | zero => intro xs hx _; cases xs with | nil => rfl | cons => simp at hx
    | succ n ih =>
      intro xs hx h
      rcases List.eq_nil_or_concat xs with rfl | ⟨ys, y, rfl⟩
      · simp at hx
      · rw [List.concat_eq_append] at hx h ⊢
        have hy := h y (by simp)
        rw [numL_append, numL, numL, bytesL, show (numL 0 ys * 256 + y) / 256 = numL 0 ys by omega, show (numL 0 ys * 256 + y) % 256 = y by omega, ih ys (by simpa using hx) (fun x hx => h x (by simp [hx]))]
  exact this _ xs rfl h

/-- AddrText's own loop. -/
theorem text_j1 (k : Nat) (a p i : Int) (xs : List Int) (h0 : 0 ≤ p) (h1 : p ≤ 255) (hx : xs.length ≤ 1000) : octet_AddrText.j1 (k + 1) a xs p i = octet_AddrText.l0 k a (xs ++ decN p) (wrap64 (i + 1)) := by
  have hlen : ∀ (ys : List Int), ys.length = 1 → (xs ++ ys).length < 140737488355328 := fun ys h => by simp [h]; omega
  unfold decN
  rw [octet_AddrText.j1]
  by_cases g : p ≥ 100
  · rw [if_pos g, if_pos (by omega), if_pos (c := p ≥ 100) g, if_pos (show p ≥ 10 by omega)]
    simp only [Option.bind_some]
    rw [if_pos (c := p ≥ 10) (by omega), if_pos (by simp; omega), if_pos (by simp; omega)]
    simp
  · rw [if_neg g, if_neg (c := p ≥ 100) g]
    by_cases g2 : p ≥ 10
    · rw [if_pos g2, if_pos (by omega), if_pos (c := p ≥ 10) g2]
      simp only [Option.bind_some]
      rw [if_pos (by simp; omega)]
      simp
    · rw [if_neg g2, if_neg (c := p ≥ 10) g2, if_pos (by omega)]
      simp
theorem text_l0 (k : Nat) (a i p : Int) (xs : List Int) (hi : 0 ≤ i) (hi3 : i < 4) (hp : p = a / 2 ^ (24 - 8 * i).toNat % 256) (hx : xs.length ≤ 990) : octet_AddrText.l0 (k + 2) a xs i = octet_AddrText.l0 k a (xs ++ ((if i > 0 then [46] else []) ++ decN p)) (i + 1) := by
  have hs : shr .u32 a (24 - 8 * i) % 256 = p := by
    rw [hp]; unfold shr
    rw [Nat.min_eq_left (by show (24 - 8 * i).toNat ≤ 32; omega)]
  rw [octet_AddrText.l0, if_pos hi3, w64 (x := 8 * i) (by omega) (by omega), w64 (x := 24 - 8 * i) (by omega) (by omega), if_pos (by omega), hs]
  have h0 : 0 ≤ p := by omega
  have h1 : p ≤ 255 := by omega
  by_cases g : i > 0
  · rw [if_pos g, if_pos (by omega), if_pos (c := i > 0) g, text_j1 k a p i _ h0 h1 (by simp; omega), w64 (x := i + 1) (by omega) (by omega), List.append_assoc]
  · rw [if_neg g, if_neg (c := i > 0) g, text_j1 k a p i _ h0 h1 (by omega), w64 (x := i + 1) (by omega) (by omega), List.nil_append]
theorem text_f (a : Int) (h0 : 0 ≤ a) (h1 : a ≤ 4294967295) : Ev (fun k => octet_AddrText.f k a) (strOfNums (textL (bytesL a 4))) := by
  refine Ev.of (octet_AddrText.mono a) (k := 9) ?_
  unfold octet_AddrText.f
  have L : ∀ p : Int, (decN p).length ≤ 3 := fun p => (decN_len p).2
  rw [text_l0 7 a 0 (a / 16777216 % 256) [] (by omega) (by omega) (by simp) (by simp)]
  rw [text_l0 5 a _ (a / 65536 % 256) _ (by omega) (by omega) (by simp) (by have := L (a / 16777216 % 256); simp; omega)]
  rw [text_l0 3 a _ (a / 256 % 256) _ (by omega) (by omega) (by simp) (by have := L (a / 16777216 % 256); have := L (a / 65536 % 256); simp; omega)]
  rw [text_l0 1 a _ (a % 256) _ (by omega) (by omega) (by simp) (by have := L (a / 16777216 % 256); have := L (a / 65536 % 256); have := L (a / 256 % 256); simp; omega)]
  rw [octet_AddrText.l0, if_neg (by omega)]
  have e : bytesL a 4 = [a / 16777216 % 256, a / 65536 % 256, a / 256 % 256, a % 256] := by
    simp only [bytesL, List.nil_append, List.cons_append, List.cons.injEq, and_true]
    omega
  rw [e]
  congr 2
  simp [textL]
/-- Addr of a text of four parts. -/
theorem addr_f (a : Int) (h0 : 0 ≤ a) (h1 : a ≤ 4294967295) : octet_Addr.f (strOfNums (textL (bytesL a 4))) = some (a, 0, 0) := by
  have hr := textL_range (bytesL a 4) (bytesL_range 4 a)
  have L : ∀ p : Int, (decN p).length ≤ 3 := fun p => (decN_len p).2
  have hlen : (textL (bytesL a 4)).length ≤ 100 := by
    simp only [bytesL, List.nil_append, List.cons_append, textL, List.length_append, List.length_cons]
    have := L (a / 256 / 256 / 256 % 256); have := L (a / 256 / 256 % 256); have := L (a / 256 % 256); have := L (a % 256)
    omega
  unfold octet_Addr.f
  rw [if_pos (by rw [size_nums]; omega), letters_nums _ (fun x hx => by have := hr x hx; omega)]
  rw [addr_text (bytesL a 4) 0 0 0 (bytesL_range 4 a) (by rw [bytesL_length]; rfl) (by omega) (by omega) (by omega) (by decide)]
  rw [numL_bytesL 4 a h0 (by rw [show (256 : Int) ^ 4 = 4294967296 by decide]; omega)]
/-- What Addr takes is the text of it. -/
theorem addr_back (s : ByteArray) (hs : s.size ≤ 9223372036854775807) (y pl : Int) (h : octet_Addr.f s = some (y, pl, 0)) : 0 ≤ y ∧ y ≤ 4294967295 ∧ s = strOfNums (textL (bytesL y 4)) := by
  unfold octet_Addr.f at h
  rw [if_pos hs] at h
  obtain ⟨qs, e1, e2, e3, e4⟩ := addr_taken (letters s) 0 0 0 0 0 y pl (by omega) (by omega) (by omega) (by decide) (by omega) (by omega) (by omega) (fun _ => rfl) (Option.some.inj h)
  rw [if_pos rfl, List.nil_append] at e3
  have hl : qs.length = 4 := by omega
  have hr := numL_range qs 0 0 e2 (by omega) (by decide)
  rw [hl, ← e4, show (256 : Int) ^ (0 + 4) = 4294967296 by decide] at hr
  have hb := letters_low s (fun c hc => by rw [e3] at hc; have := textL_range qs e2 c hc; omega)
  refine ⟨hr.1, by omega, ?_⟩
  rw [e4, ← hl, bytesL_numL qs e2, ← e3, hb, nums_bytesOf]
end Go.Proofs.Ytndoankacnjhoaa.Pure
