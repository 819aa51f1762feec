/- The document's own Addr and AddrText are octet's. -/
import Derived.Test.YtndoankacnjhoaaDoorPLetB
import Derived.Test.YtndoankacnjhoaaDoorPHexR
import Derived.Test.YtndoankacnjhoaaDoorHAddr
import Derived.Test.YtndoankacnjhoaaDoorM16
import Derived.Test.YtndoankacnjhoaaDoorM15
import Derived.Test.YtndoankacnjhoaaDoorM17
namespace Go.Proofs.YtndoankacnjhoaaDoor.Pure
open Go.RowKit Go.Proofs.YtndoankacnjhoaaDoor.M Go.Proofs.YtndoankacnjhoaaDoorW.PrintWords Go.Proofs.YtndoankacnjhoaaDoorW.PrintLast Go.Proofs.YtndoankacnjhoaaDoorW.PrintMore
set_option linter.unusedVariables false
set_option linter.unusedSimpArgs false

/-- A number's n bytes. -/
def bytesL (v : Int) : Nat → List Int
  | 0 => []
  | n + 1 => bytesL (v / 256) n ++ [v % 256]
/-- A byte's digits. -/
def decN (n : Int) : List Int := (if n ≥ 100 then [48 + n / 100] else []) ++ ((if n ≥ 10 then [48 + n / 10 % 10] else []) ++ [48 + n % 10])
/-- Parts with a point between any two. -/
def textL : List Int → List Int
  | [] => []
  | [q] => decN q
  | q :: q2 :: qs => decN q ++ 46 :: textL (q2 :: qs)

theorem decN_range (n : Int) (h0 : 0 ≤ n) (h1 : n ≤ 255) : ∀ c ∈ decN n, 46 ≤ c ∧ c ≤ 57 := by
  intro c hc
  unfold decN at hc
  simp only [List.mem_append, List.mem_singleton] at hc
  rcases hc with h | h | h
  · split at h
    · simp only [List.mem_singleton] at h; omega
    · simp at h
  · split at h
    · simp only [List.mem_singleton] at h; omega
    · simp at h
  · omega
theorem decN_len (n : Int) : 1 ≤ (decN n).length ∧ (decN n).length ≤ 3 := by
  unfold decN; split <;> split <;> simp
theorem or32 (a n : Int) (h0 : 0 ≤ a) (h1 : a < 16777216) (hn0 : 0 ≤ n) (hn1 : n ≤ 255) : Go.bits .or .u32 (a * 256 % 4294967296) n = a * 256 + n := by
  have wr : ∀ n : Int, 0 ≤ n → n < 2 ^ 32 → IntKind.u32.wrap n = n := fun n h0 h1 => by
    have : IntKind.u32.wrap n = n % 4294967296 := by simp [IntKind.wrap, IntKind.bits, IntKind.signed]
    rw [this]; omega
  rw [Int.emod_eq_of_lt (by omega) (by omega)]
  exact Go.bits_join .u32 32 (by decide) wr 8 _ _ (by omega) (by omega) (by omega) (by omega) (by omega) (by omega)

/-- A digit's step. -/
theorem step_digit {c a n d p : Int} (h0 : 48 ≤ c) (h1 : c ≤ 57) (h2 : d = 0 ∨ 0 < n) (h3 : n * 10 + (c - 48) ≤ 255) : addrStep c a n d p = some (a, n * 10 + (c - 48), d + 1, p) := by
  unfold addrStep; rw [if_pos ⟨h0, h1, h2, h3⟩]
theorem step_point {a n d p : Int} (h0 : 0 < d) (h1 : p < 3) : addrStep 46 a n d p = some (Go.bits .or .u32 (a * 256 % 4294967296) n, 0, 0, p + 1) := by
  unfold addrStep; rw [if_neg (by omega), if_pos ⟨rfl, h0, h1⟩]

theorem decN_snoc (n x : Int) (h0 : 1 ≤ n) (hx0 : 0 ≤ x) (hx1 : x ≤ 9) (h1 : n * 10 + x ≤ 255) : decN n ++ [48 + x] = decN (n * 10 + x) := by
  unfold decN
  rw [if_neg (show ¬ n ≥ 100 by omega), if_pos (show n * 10 + x ≥ 10 by omega)]
  by_cases g : n ≥ 10
  · rw [if_pos g, if_pos (show n * 10 + x ≥ 100 by omega)]
    simp only [List.nil_append, List.cons_append, List.cons.injEq, and_true]
    omega
  · rw [if_neg g, if_neg (show ¬ n * 10 + x ≥ 100 by omega)]
    simp only [List.nil_append, List.cons_append, List.cons.injEq, and_true]
    omega
theorem decN_one (x : Int) (hx0 : 0 ≤ x) (hx1 : x ≤ 9) : decN x = [48 + x] := by
  unfold decN
  rw [if_neg (by omega), if_neg (by omega)]
  simp only [List.nil_append, List.cons.injEq, and_true]
  omega

theorem w64 {x : Int} (h0 : -9223372036854775808 ≤ x) (h1 : x ≤ 9223372036854775807) : wrap64 x = x := by unfold wrap64; omega
/-- AddrText's own loop. -/
theorem text_j1 (k : Nat) (a p i : Int) (xs : List Int) (h0 : 0 ≤ p) (h1 : p ≤ 255) (hx : xs.length ≤ 1000) : octet_AddrText.j1 (k + 1) a xs p i = octet_AddrText.l0 k a (xs ++ decN p) (wrap64 (i + 1)) := by
  have hlen : ∀ (ys : List Int), ys.length = 1 → (xs ++ ys).length < 140737488355328 := fun ys h => by simp [h]; omega
  unfold decN
  rw [octet_AddrText.j1]
  by_cases g : p ≥ 100
  · rw [if_pos g, if_pos (by omega), if_pos (c := p ≥ 100) g, if_pos (show p ≥ 10 by omega)]
    simp only [Option.bind_some]
    rw [if_pos (c := p ≥ 10) (by omega), if_pos (by simp; omega), if_pos (by simp; omega)]
    simp
  · rw [if_neg g, if_neg (c := p ≥ 100) g]
    by_cases g2 : p ≥ 10
    · rw [if_pos g2, if_pos (by omega), if_pos (c := p ≥ 10) g2]
      simp only [Option.bind_some]
      rw [if_pos (by simp; omega)]
      simp
    · rw [if_neg g2, if_neg (c := p ≥ 10) g2, if_pos (by omega)]
      simp
theorem text_l0 (k : Nat) (a i p : Int) (xs : List Int) (hi : 0 ≤ i) (hi3 : i < 4) (hp : p = a / 2 ^ (24 - 8 * i).toNat % 256) (hx : xs.length ≤ 990) : octet_AddrText.l0 (k + 2) a xs i = octet_AddrText.l0 k a (xs ++ ((if i > 0 then [46] else []) ++ decN p)) (i + 1) := by
  have hs : shr .u32 a (24 - 8 * i) % 256 = p := by
    rw [hp]; unfold shr
    rw [Nat.min_eq_left (by show (24 - 8 * i).toNat ≤ 32; omega)]
  rw [octet_AddrText.l0, if_pos hi3, w64 (x := 8 * i) (by omega) (by omega), w64 (x := 24 - 8 * i) (by omega) (by omega), if_pos (by omega), hs]
  have h0 : 0 ≤ p := by omega
  have h1 : p ≤ 255 := by omega
  by_cases g : i > 0
  · rw [if_pos g, if_pos (by omega), if_pos (c := i > 0) g, text_j1 k a p i _ h0 h1 (by simp; omega), w64 (x := i + 1) (by omega) (by omega), List.append_assoc]
  · rw [if_neg g, if_neg (c := i > 0) g, text_j1 k a p i _ h0 h1 (by omega), w64 (x := i + 1) (by omega) (by omega), List.nil_append]
theorem text_f (a : Int) (h0 : 0 ≤ a) (h1 : a ≤ 4294967295) : Ev (fun k => octet_AddrText.f k a) (strOfNums (textL (bytesL a 4))) := by
  refine Ev.of (octet_AddrText.mono a) (k := 9) ?_
  unfold octet_AddrText.f
  have L : ∀ p : Int, (decN p).length ≤ 3 := fun p => (decN_len p).2
  rw [text_l0 7 a 0 (a / 16777216 % 256) [] (by omega) (by omega) (by simp) (by simp)]
  rw [text_l0 5 a _ (a / 65536 % 256) _ (by omega) (by omega) (by simp) (by have := L (a / 16777216 % 256); simp; omega)]
  rw [text_l0 3 a _ (a / 256 % 256) _ (by omega) (by omega) (by simp) (by have := L (a / 16777216 % 256); have := L (a / 65536 % 256); simp; omega)]
  rw [text_l0 1 a _ (a % 256) _ (by omega) (by omega) (by simp) (by have := L (a / 16777216 % 256); have := L (a / 65536 % 256); have := L (a / 256 % 256); simp; omega)]
  rw [octet_AddrText.l0, if_neg (by omega)]
  have e : bytesL a 4 = [a / 16777216 % 256, a / 65536 % 256, a / 256 % 256, a % 256] := by
    simp only [bytesL, List.nil_append, List.cons_append, List.cons.injEq, and_true]
    omega
  rw [e]
  congr 2
  simp [textL]

/-- A byte's text. -/
def dT (n : Int) : ByteArray := strOfNums (decN n)
theorem number_all : ∀ m : Fin 256, trunklineref01_number.f m.val = some (dT m.val) := by decide +kernel
theorem number_f (n : Int) (h0 : 0 ≤ n) (h1 : n ≤ 255) : trunklineref01_number.f n = some (dT n) := by
  have := number_all ⟨n.toNat, by omega⟩
  simp only [Int.toNat_of_nonneg h0] at this
  exact this
/-- A text's number. -/
def valT (p : ByteArray) : Int := p.toList.foldl (fun a c => a * 10 + (c.toNat : Int) - 48) 0
theorem val_all : ∀ m : Fin 256, valT (dT m.val) = m.val := by decide +kernel
theorem val_dT (n : Int) (h0 : 0 ≤ n) (h1 : n ≤ 255) : valT (dT n) = n := by
  have := val_all ⟨n.toNat, by omega⟩
  simp only [Int.toNat_of_nonneg h0] at this
  exact this
theorem toList_inj {p q : ByteArray} (h : p.toList = q.toList) : p = q := by
  apply ByteArray.ext
  rw [ByteArray.toList_eq, ByteArray.toList_eq] at h
  exact Array.ext' h
theorem value_run (n : Int) (hn0 : 0 ≤ n) (hn1 : n ≤ 255) : ∀ (j : Nat) (i : Int), 0 ≤ i → i + j = n → trunklineref01_value.l0 (j + 1) (dT n) i = some n
  | 0, i, h0, h => by
    have e : i = n := by omega
    subst e
    have q : i < 256 := by omega
    rw [trunklineref01_value.l0, if_pos q, number_f i h0 hn1]
    simp only [Option.bind_some]
    rw [if_pos trivial, Int.emod_eq_of_lt h0 (by omega)]
  | j + 1, i, h0, h => by
    have q : i < 256 := by omega
    have ne : ¬ (dT i).toList = (dT n).toList := fun e => by
      have := congrArg valT (toList_inj e)
      rw [val_dT i h0 (by omega), val_dT n hn0 hn1] at this
      omega
    rw [trunklineref01_value.l0, if_pos q, number_f i h0 (by omega)]
    simp only [Option.bind_some]
    rw [if_neg ne, w64 (x := i + 1) (by omega) (by omega)]
    exact value_run n hn0 hn1 j (i + 1) (by omega) (by omega)
theorem value_f (n : Int) (h0 : 0 ≤ n) (h1 : n ≤ 255) (k : Nat) (hk : 256 ≤ k) : trunklineref01_value.f k (dT n) = some n :=
  up_ (trunklineref01_value.mono (dT n)) (show n.toNat + 1 ≤ k by omega) (by rw [trunklineref01_value.f]; exact value_run n h0 h1 n.toNat 0 (by omega) (by omega))
theorem part_yes (n : Int) (hn0 : 0 ≤ n) (hn1 : n ≤ 255) : ∀ (j : Nat) (i : Int), 0 ≤ i → i + j = n → trunklineref01_part.l0 (j + 1) (dT n) i = some true
  | 0, i, h0, h => by
    have e : i = n := by omega
    subst e
    have q : i < 256 := by omega
    rw [trunklineref01_part.l0, if_pos q, number_f i h0 hn1]
    simp only [Option.bind_some]
    rw [if_pos trivial]
  | j + 1, i, h0, h => by
    have q : i < 256 := by omega
    rw [trunklineref01_part.l0, if_pos q, number_f i h0 (by omega)]
    simp only [Option.bind_some]
    by_cases e : (dT i).toList = (dT n).toList
    · rw [if_pos e]
    · rw [if_neg e, w64 (x := i + 1) (by omega) (by omega)]
      exact part_yes n hn0 hn1 j (i + 1) (by omega) (by omega)
theorem part_yes_f (n : Int) (h0 : 0 ≤ n) (h1 : n ≤ 255) (k : Nat) (hk : 257 ≤ k) : trunklineref01_part.f k (dT n) = some true :=
  up_ (trunklineref01_part.mono (dT n)) (show n.toNat + 1 ≤ k by omega) (by rw [trunklineref01_part.f]; exact part_yes n h0 h1 n.toNat 0 (by omega) (by omega))
theorem part_no (p : ByteArray) (hp : ∀ n, 0 ≤ n → n ≤ 255 → ¬ dT n = p) (h1 : 0 < p.size) : ∀ (j : Nat) (i : Int), 0 ≤ i → i + j = 256 → trunklineref01_part.l0 (j + 1) p i = some false
  | 0, i, h0, h => by
    have q : ¬ i < 256 := by omega
    have ne : ¬ p.toList = [] := fun e => by
      rw [ByteArray.toList_eq] at e
      have e2 : p.size = p.data.toList.length := (Array.length_toList).symm
      rw [e, List.length_nil] at e2
      omega
    rw [trunklineref01_part.l0, if_neg q]
    simp [ne]
  | j + 1, i, h0, h => by
    have q : i < 256 := by omega
    have ne : ¬ (dT i).toList = p.toList := fun e => hp i h0 (by omega) (toList_inj e)
    rw [trunklineref01_part.l0, if_pos q, number_f i h0 (by omega)]
    simp only [Option.bind_some]
    rw [if_neg ne, w64 (x := i + 1) (by omega) (by omega)]
    exact part_no p hp h1 j (i + 1) (by omega) (by omega)
theorem part_no_f (p : ByteArray) (hp : ∀ n, 0 ≤ n → n ≤ 255 → ¬ dT n = p) (h1 : 0 < p.size) (k : Nat) (hk : 257 ≤ k) : trunklineref01_part.f k p = some false :=
  up_ (trunklineref01_part.mono p) hk (by rw [trunklineref01_part.f]; exact part_no p hp h1 256 0 (by omega) (by omega))

theorem toList_append (p q : ByteArray) : (p ++ q).toList = p.toList ++ q.toList := by
  rw [ByteArray.toList_eq, ByteArray.toList_eq, ByteArray.toList_eq]; simp
theorem toList_strOf (xs : List Int) : (strOfNums xs).toList = xs.map fun n => UInt8.ofNat n.toNat := by
  rw [ByteArray.toList_eq]; simp [strOfNums]
theorem one_byte (p : ByteArray) (h : p.size = 1) : p.toList = [UInt8.ofNat (bt p 0).toNat] := by
  rw [bt_zero p (by omega)]
  have hl : p.data.toList.length = 1 := by rw [← h]; exact Array.length_toList
  rw [ByteArray.toList_eq]
  match hd : p.data.toList, hl with
  | [b], _ =>
    have : p[0]'(by omega) = b := by
      have h2 : p.data.toList[0]? = some b := by rw [hd]; rfl
      rw [Array.getElem?_toList] at h2
      have h3 := Array.getElem?_eq_some_iff.1 h2
      exact h3.2
    rw [this]; simp
theorem let_one {c : Int} {p : ByteArray} (h1 : p.size = 1) (hc : c = bt p 0) : p = strOfNums [c] := by
  apply toList_inj
  rw [one_byte p h1, toList_strOf, hc]; rfl
theorem head_in (p : ByteArray) (h : 0 < p.size) : UInt8.ofNat (bt p 0).toNat ∈ p.toList := by
  rw [bt_zero p h, ByteArray.toList_eq]
  have : p[0]'h ∈ p.data.toList := by
    rw [Array.mem_toList_iff]; exact Array.getElem_mem h
  simpa using this
theorem dT_digits : ∀ m : Fin 256, ∀ b ∈ (dT m.val).toList, 48 ≤ b.toNat ∧ b.toNat ≤ 57 := by
  have h : ∀ m : Fin 256, (dT m.val).toList.all (fun b => decide (48 ≤ b.toNat ∧ b.toNat ≤ 57)) = true := by decide +kernel
  intro m b hb
  exact of_decide_eq_true (List.all_eq_true.1 (h m) b hb)
theorem dT_head (m : Int) (h0 : 0 ≤ m) (h1 : m ≤ 255) (now p : ByteArray) (hp : 0 < p.size) (e : dT m = now ++ p) : 48 ≤ bt p 0 ∧ bt p 0 ≤ 57 := by
  have h := dT_digits ⟨m.toNat, by omega⟩ (UInt8.ofNat (bt p 0).toNat) (by
    simp only [Int.toNat_of_nonneg h0]
    rw [e, toList_append]
    exact List.mem_append_right _ (head_in p hp))
  have hb := bt_range p 0
  simp only [UInt8.toNat_ofNat'] at h
  omega
theorem is_dot {c : Int} {p : ByteArray} (h : LetOf c p) : p.toList = ([46] : List UInt8) ↔ c = 46 := by
  rcases h with ⟨h1, h2, h3, h4⟩ | ⟨h1, h2, h3⟩
  · rw [one_byte p h1, ← h4]
    constructor
    · intro e
      have e2 := congrArg (fun l : List UInt8 => l.map fun b => b.toNat) e
      simp only [List.map_cons, List.map_nil, UInt8.toNat_ofNat', List.cons.injEq, and_true] at e2
      have : (46 : UInt8).toNat = 46 := rfl
      omega
    · intro e; rw [e]; rfl
  · constructor
    · intro e
      have h := head_in p (by omega)
      rw [e, List.mem_singleton] at h
      have e2 := congrArg UInt8.toNat h
      have hb := bt_range p 0
      simp only [UInt8.toNat_ofNat'] at e2
      have : (46 : UInt8).toNat = 46 := rfl
      omega
    · intro e; omega
/-- What has been read of a part. -/
def nowT (digits n : Int) : ByteArray := if digits = 0 then ⟨#[]⟩ else dT n
theorem now_step {c n digits : Int} {p : ByteArray} (h : LetOf c p) (hn0 : 0 ≤ n) (hn1 : n ≤ 255) (hd0 : 0 ≤ digits) (hd : digits = 0 → n = 0) (hg : 48 ≤ c ∧ c ≤ 57 ∧ (digits = 0 ∨ 0 < n) ∧ n * 10 + (c - 48) ≤ 255) : nowT digits n ++ p = dT (n * 10 + (c - 48)) := by
  have h1 : p = strOfNums [c] := by
    rcases h with ⟨h1, h2, h3, h4⟩ | ⟨h1, h2, h3⟩
    · exact let_one h1 h4
    · omega
  unfold nowT
  by_cases z : digits = 0
  · rw [if_pos z, hd z, show (0 : Int) * 10 + (c - 48) = c - 48 by omega, dT, decN_one _ (by omega) (by omega), show 48 + (c - 48) = c by omega, h1]
    apply ByteArray.ext; simp
  · rw [if_neg z, dT, h1, strOf_append, dT, ← decN_snoc n (c - 48) (by omega) (by omega) (by omega) (by omega), show 48 + (c - 48) = c by omega]
theorem now_bad {c n digits : Int} {p : ByteArray} (h : LetOf c p) (hn0 : 0 ≤ n) (hn1 : n ≤ 255) (hd0 : 0 ≤ digits) (hd : digits = 0 → n = 0) (hg : ¬ (48 ≤ c ∧ c ≤ 57 ∧ (digits = 0 ∨ 0 < n) ∧ n * 10 + (c - 48) ≤ 255)) : ∀ m, 0 ≤ m → m ≤ 255 → ¬ dT m = nowT digits n ++ p := by
  intro m h0 h1 e
  have hh := dT_head m h0 h1 (nowT digits n) p (by rcases h with h | h <;> omega) e
  rcases h with ⟨q1, q2, q3, q4⟩ | ⟨q1, q2, q3⟩
  · by_cases z : digits = 0
    · have := hd z
      exact hg ⟨by omega, by omega, .inl z, by omega⟩
    · unfold nowT at e
      rw [if_neg z] at e
      have hv := congrArg valT e
      have hap : valT (dT n ++ p) = valT (dT n) * 10 + c - 48 := by
        unfold valT
        rw [toList_append, one_byte p q1, List.foldl_append, ← q4]
        simp only [List.foldl_cons, List.foldl_nil, UInt8.toNat_ofNat']
        omega
      rw [hap, val_dT m h0 h1, val_dT n hn0 hn1] at hv
      have hn : n = 0 := by
        by_cases g : 0 < n
        · exact absurd ⟨by omega, by omega, .inr g, by omega⟩ hg
        · omega
      subst hn
      have hs := congrArg ByteArray.size e
      rw [ByteArray.size_append, q1, dT, dT, strOf_size, strOf_size, decN_one m h0 (by omega), decN_one 0 (by omega) (by omega)] at hs
      simp at hs
  · omega
theorem dT_len (n : Int) : 1 ≤ (dT n).size ∧ (dT n).size ≤ 3 := by
  rw [dT, strOf_size]; exact decN_len n
theorem now_nil {digits n : Int} : (nowT digits n).toList = ([] : List UInt8) ↔ digits = 0 := by
  unfold nowT
  split
  · rename_i h; exact ⟨fun _ => h, fun _ => by rw [ByteArray.toList_eq]⟩
  · rename_i h
    refine ⟨fun e => ?_, fun e => absurd e h⟩
    have := (dT_len n).1
    rw [ByteArray.toList_eq] at e
    have e2 : (dT n).size = (dT n).data.toList.length := (Array.length_toList).symm
    rw [e, List.length_nil] at e2
    omega
theorem now_size (digits n : Int) : (nowT digits n).size ≤ 3 := by
  unfold nowT; split
  · exact Nat.zero_le 3
  · exact (dT_len n).2
end Go.Proofs.YtndoankacnjhoaaDoor.Pure
