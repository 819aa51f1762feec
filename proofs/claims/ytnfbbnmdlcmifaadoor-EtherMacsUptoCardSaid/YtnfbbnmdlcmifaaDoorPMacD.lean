/- A card's address as a text: what ether.MacText tells, and the document's own. -/
import Derived.Test.YtnfbbnmdlcmifaaDoorPLetB
import Derived.Test.YtnfbbnmdlcmifaaDoorPHexR
import Derived.Test.YtnfbbnmdlcmifaaDoorHMac
import Derived.Test.YtnfbbnmdlcmifaaDoorHMacText
import Derived.Test.YtnfbbnmdlcmifaaDoorM2
import Derived.Test.YtnfbbnmdlcmifaaDoorM3
import Derived.Test.YtnfbbnmdlcmifaaDoorM12
import Derived.Test.YtnfbbnmdlcmifaaDoorM5
import Derived.Test.YtnfbbnmdlcmifaaDoorM9
namespace Go.Proofs.YtnfbbnmdlcmifaaDoor.Pure
open Go.RowKit Go.Proofs.YtnfbbnmdlcmifaaDoor.M Go.Proofs.YtnfbbnmdlcmifaaDoorW.PrintWords Go.Proofs.YtnfbbnmdlcmifaaDoorW.PrintLast Go.Proofs.YtnfbbnmdlcmifaaDoorW.PrintMore
set_option linter.unusedVariables false
set_option linter.unusedSimpArgs false

/-- A number's n bytes. -/
def bytesL (v : Int) : Nat → List Int
  | 0 => []
  | n + 1 => bytesL (v / 256) n ++ [v % 256]
theorem wrapu {x : Int} (h0 : 0 ≤ x) (h1 : x < 18446744073709551616) : IntKind.u64.wrap x = x := by
  have : IntKind.u64.wrap x = x % 18446744073709551616 := by simp [IntKind.wrap, IntKind.bits, IntKind.signed]
  rw [this]; omega
theorem wf_u64 {x : Int} (h : (Lit.int .u64 x).wf = true) : 0 ≤ x ∧ x ≤ 18446744073709551615 := by
  simp [Lit.wf, IntKind.min, IntKind.max, IntKind.signed, IntKind.bits] at h; omega
theorem wf_i64 {x : Int} (h : (Lit.int .i64 x).wf = true) : -9223372036854775808 ≤ x ∧ x ≤ 9223372036854775807 := by
  simp [Lit.wf, IntKind.min, IntKind.max, IntKind.signed, IntKind.bits] at h; omega
theorem bytesL_length : ∀ (n : Nat) (v : Int), (bytesL v n).length = n
  | 0, v => rfl
  | n + 1, v => by simp [bytesL, bytesL_length n]
theorem bytesL_range : ∀ (n : Nat) (v : Int), ∀ x ∈ bytesL v n, 0 ≤ x ∧ x ≤ 255
  | 0, v => by simp [bytesL]
  | n + 1, v => by
    intro x hx
    simp only [bytesL, List.mem_append, List.mem_singleton] at hx
    rcases hx with h | rfl
    · exact bytesL_range n _ x h
    · omega
theorem pow256 (n : Nat) (h : n ≤ 8) : (0 : Int) < 256 ^ n ∧ (256 : Int) ^ n ≤ 18446744073709551616 := by
  have H : ∀ n : Fin 9, (0 : Int) < 256 ^ n.val ∧ (256 : Int) ^ n.val ≤ 18446744073709551616 := by decide
  exact H ⟨n, by omega⟩
theorem pow256' (n : Nat) (h : n ≤ 7) : (0 : Int) < 256 ^ n ∧ (256 : Int) ^ n ≤ 72057594037927936 := by
  have H : ∀ n : Fin 8, (0 : Int) < 256 ^ n.val ∧ (256 : Int) ^ n.val ≤ 72057594037927936 := by decide
  exact H ⟨n, by omega⟩
theorem w64 {x : Int} (h0 : -9223372036854775808 ≤ x) (h1 : x ≤ 9223372036854775807) : wrap64 x = x := by unfold wrap64; omega
theorem rd_get (xs : List Int) (i : Nat) (h : i < xs.length) : rd xs (i : Int) = xs[i] := by
  unfold rd; simp [List.getD, h]
/-- What Bytes tells. -/
def bytesS (v n : Int) : List Int × Int :=
  if 1 ≤ n ∧ n ≤ 8 then (if v / 256 ^ n.toNat > 0 then ([], 6) else (bytesL v n.toNat, 0)) else ([], 2)
theorem bytesL_get : ∀ (n : Nat) (v : Int) (i : Nat) (h : i < (bytesL v n).length), 0 ≤ v → (bytesL v n)[i] = v / 256 ^ (n - 1 - i) % 256
  | 0, v, i, h, h0 => by simp [bytesL] at h
  | n + 1, v, i, h, h0 => by
    rw [bytesL_length] at h
    have hl := bytesL_length n (v / 256)
    by_cases hi : i < n
    · simp only [bytesL]
      rw [List.getElem_append_left (by omega), bytesL_get n (v / 256) i (by omega) (by omega)]
      rw [show n + 1 - 1 - i = (n - 1 - i) + 1 by omega, Int.pow_succ, Int.mul_comm, Int.ediv_ediv_of_nonneg (by omega)]
    · have : i = n := by omega
      subst this
      simp only [bytesL]
      rw [List.getElem_append_right (by omega)]
      simp
theorem pow_8 (m : Nat) : (2 : Int) ^ (8 * m) = 256 ^ m := by rw [Int.pow_mul]; rfl
theorem bytes_l0 (v : Int) (n : Nat) (h0 : 0 ≤ v) (h8 : n ≤ 8) : ∀ (d i k : Nat) (xs : List Int), i + d = n → xs.length = n →
    octet_Bytes.l0 (k + d + 1) v (n : Int) xs (n : Int) (i : Int) = some (xs.take i ++ (bytesL v n).drop i, 0)
  | 0, i, k, xs, hi, hx => by
    have : i = n := by omega
    subst this
    rw [List.drop_of_length_le (by rw [bytesL_length]; omega), List.take_of_length_le (by omega)]
    simp [octet_Bytes.l0]
  | d + 1, i, k, xs, hi, hx => by
    have hl := bytesL_length n v
    rw [show k + (d + 1) + 1 = (k + d + 1) + 1 by omega, octet_Bytes.l0]
    rw [w64 (x := (n : Int) - 1) (by omega) (by omega), w64 (x := (n : Int) - 1 - i) (by omega) (by omega), w64 (x := 8 * ((n : Int) - 1 - i)) (by omega) (by omega), w64 (x := (i : Int) + 1) (by omega) (by omega)]
    rw [if_pos (by omega), if_pos (by omega), if_pos (by omega), if_pos (by omega)]
    have hy : shr .u64 v (8 * ((n : Int) - 1 - i)) % 256 = (bytesL v n)[i]'(by omega) := by
      rw [bytesL_get n v i (by omega) h0]
      unfold shr
      rw [Nat.min_eq_left (by show (8 * ((n : Int) - 1 - i)).toNat ≤ 64; omega), show (8 * ((n : Int) - 1 - i)).toNat = 8 * (n - 1 - i) by omega, pow_8]
    rw [hy, show ((i : Int) + 1) = ((i + 1 : Nat) : Int) by omega, Int.toNat_natCast]
    rw [bytes_l0 v n h0 h8 d (i + 1) k (xs.set i _) (by omega) (by simpa using hx)]
    rw [List.drop_eq_getElem_cons (l := bytesL v n) (i := i) (by omega), List.take_succ_eq_append_getElem (by simp; omega)]
    simp [List.take_set]
    rw [List.set_eq_of_length_le (by simp; omega)]
theorem bytes_at (v n : Int) (hv : 0 ≤ v) (hv1 : v < 18446744073709551616) (hn : (Lit.int .i64 n).wf = true) : octet_Bytes.f 10 v n = some (bytesS v n) := by
  unfold octet_Bytes.f bytesS octet_wide.f
  have J : 1 ≤ n → n ≤ 8 → octet_Bytes.j0 10 v n = some (bytesL v n.toNat, 0) := by
    intro h1 h2
    rw [octet_Bytes.j0, if_pos (by omega), if_pos (by omega)]
    have := bytes_l0 v n.toNat hv (by omega) n.toNat 0 (8 - n.toNat) (List.replicate n.toNat 0) (by omega) (by simp)
    rw [show 8 - n.toNat + n.toNat + 1 = 9 by omega, show ((n.toNat : Nat) : Int) = n by omega] at this
    simp only [Option.bind_some, List.length_replicate]
    rw [show ((n.toNat : Nat) : Int) = n by omega]
    simpa using this
  by_cases h1 : n ≥ 1
  · by_cases h2 : n ≤ 8
    · rw [if_pos h1, decide_eq_true h2, if_pos (c := 1 ≤ n ∧ n ≤ 8) (by omega)]
      simp only [Option.bind_some, if_true]
      by_cases h3 : n < 8
      · rw [if_pos h3, w64 (by omega) (by omega), if_pos (by omega)]
        have hs : shr .u64 v (8 * n) = v / 256 ^ n.toNat := by
          unfold shr
          rw [Nat.min_eq_left (by show (8 * n).toNat ≤ 64; omega), show (8 * n).toNat = 8 * n.toNat by omega, pow_8]
        rw [hs]
        have p := pow256 n.toNat (by omega)
        have hnn : 0 ≤ v / 256 ^ n.toNat := Int.ediv_nonneg hv (by omega)
        by_cases h4 : v / 256 ^ n.toNat = 0
        · rw [if_pos h4, if_neg (c := v / 256 ^ n.toNat > 0) (by omega), J (by omega) h2]
        · rw [if_neg h4, if_pos (c := v / 256 ^ n.toNat > 0) (by omega)]
      · have : n = 8 := by omega
        subst this
        rw [if_neg (by omega), J (by omega) (by omega), if_neg (c := v / 256 ^ (8 : Int).toNat > 0)]
        rw [show (8 : Int).toNat = 8 from rfl, show (256 : Int) ^ 8 = 18446744073709551616 by decide]
        omega
    · rw [if_pos h1, decide_eq_false h2, if_neg (c := 1 ≤ n ∧ n ≤ 8) (by omega)]; rfl
  · rw [if_neg h1, if_neg (c := 1 ≤ n ∧ n ≤ 8) (by omega)]; rfl
theorem bytes_ev (v n : Int) (hv : 0 ≤ v) (hv1 : v < 18446744073709551616) (hn : (Lit.int .i64 n).wf = true) : Ev (fun k => octet_Bytes.f k v n) (bytesS v n) := Ev.of (octet_Bytes.mono v n) (k := 10) (bytes_at v n hv hv1 hn)
theorem bytes_f (v n : Int) (hv : 0 ≤ v) (hv1 : v < 18446744073709551616) (hn : (Lit.int .i64 n).wf = true) {k : Nat} (hk : 10 ≤ k) : octet_Bytes.f k v n = some (bytesS v n) := up_ (octet_Bytes.mono v n) hk (bytes_at v n hv hv1 hn)
theorem i64_wf {n : Int} (h0 : -9223372036854775808 ≤ n) (h1 : n ≤ 9223372036854775807) : (Lit.int .i64 n).wf = true := by
  simp [Lit.wf, IntKind.min, IntKind.max, IntKind.signed, IntKind.bits]
  omega
/-- Numbers' bytes one behind the other. -/
def layL : List S33 → List Int
  | [] => []
  | x :: xs => bytesL x.f1 x.f0.toNat ++ layL xs
def okP (x : S33) : Prop := 1 ≤ x.f0 ∧ x.f0 ≤ 8 ∧ 0 ≤ x.f1 ∧ x.f1 < 256 ^ x.f0.toNat
theorem okP_mk {n v : Int} (h1 : 1 ≤ n) (h8 : n ≤ 8) (h0 : 0 ≤ v) (hv : v < 256 ^ n.toNat) : okP ⟨n, v⟩ := ⟨h1, h8, h0, hv⟩
theorem layL_len : ∀ l : List S33, (∀ x ∈ l, okP x) → (layL l).length ≤ 8 * l.length
  | [], _ => by simp [layL]
  | x :: xs, h => by
    have h1 := layL_len xs (fun y hy => h y (by simp [hy]))
    have h2 := (h x (by simp)).2.1
    simp only [layL, List.length_append, bytesL_length, List.length_cons]
    omega
theorem pow_mono {n : Nat} (h : n ≤ 8) {v : Int} (hv : v < 256 ^ n) : v < 18446744073709551616 := by
  have := (pow256 n h).2
  omega
theorem bytes_ok {v n : Int} (h1 : 1 ≤ n) (h8 : n ≤ 8) (h0 : 0 ≤ v) (hv : v < 256 ^ n.toNat) : bytesS v n = (bytesL v n.toNat, 0) := by
  unfold bytesS
  rw [if_pos ⟨h1, h8⟩, if_neg]
  rw [Int.ediv_eq_zero_of_lt h0 hv]
  decide
theorem lay_l0 (l : List S33) (hl : l.length ≤ 1000) (ho : ∀ x ∈ l, okP x) : ∀ (d i k : Nat) (b : List Int), i + d = l.length → d + 11 ≤ k → b.length + 8 * d < 140737488355328 → ether_lay.l0 k b l (l.length : Int) (i : Int) = some (b ++ layL (l.drop i))
  | 0, i, k, b, hi, hk, hb => by
    obtain ⟨k, rfl⟩ : ∃ m, k = m + 1 := ⟨k - 1, by omega⟩
    have : i = l.length := by omega
    subst this
    simp [ether_lay.l0, layL]
  | d + 1, i, k, b, hi, hk, hb => by
    obtain ⟨k, rfl⟩ : ∃ m, k = m + 1 := ⟨k - 1, by omega⟩
    have hi' : i < l.length := by omega
    obtain ⟨o1, o2, o3, o4⟩ := ho l[i] (List.getElem_mem hi')
    have e : rd_T33 l (i : Int) = l[i] := by simp [rd_T33, List.getD, hi']
    have hlen : (bytesL l[i].f1 l[i].f0.toNat).length ≤ 8 := by rw [bytesL_length]; omega
    simp only [ether_lay.l0]
    rw [if_pos (by omega), if_pos (by omega), if_pos (by omega), e, w64 (x := l[i].f0) (by omega) (by omega), bytes_f _ _ o3 (pow_mono (by omega) o4) (i64_wf (by omega) (by omega)) (by omega), bytes_ok o1 o2 o3 o4]
    simp only [Option.bind_some]
    rw [if_pos (by omega), w64 (by omega) (by omega), show ((i : Int) + 1) = ((i + 1 : Nat) : Int) by omega, lay_l0 l hl ho d (i + 1) k _ (by omega) (by omega) (by rw [List.length_append]; omega)]
    rw [List.drop_eq_getElem_cons hi', layL, List.append_assoc]
theorem lay_f (b : List Int) (l : List S33) (hl : l.length ≤ 1000) (ho : ∀ x ∈ l, okP x) (hb : b.length ≤ 140737488000000) {k : Nat} (hk : l.length + 11 ≤ k) : ether_lay.f k b l = some (b ++ layL l) := by
  have := lay_l0 l hl ho l.length 0 k b (by omega) hk (by omega)
  simpa [ether_lay.f] using this
theorem card1 (a : Int) (h0 : 0 ≤ a) : ether_card.f [a] = some (decide (a < 281474976710656)) := by
  unfold ether_card.f
  rw [if_pos (by simp)]
  by_cases h : a < 281474976710656
  · have : a / 281474976710656 = 0 := by omega
    simp [cardI, this, h]
  · have : ¬ a / 281474976710656 = 0 := by omega
    simp [cardI, this, h]
theorem p6 : (256 : Int) ^ (6 : Int).toNat = 281474976710656 := by decide
theorem live_at : trunklinelaw08_live.f 30 = some true := by kernel_rfl
theorem live_f {k : Nat} (hk : 30 ≤ k) : trunklinelaw08_live.f k = some true := up_ trunklinelaw08_live.mono hk live_at
theorem or4u (m d : Int) (h0 : 0 ≤ m) (h1 : m < 1152921504606846976) (hd0 : 0 ≤ d) (hd1 : d < 16) : Go.bits .or .u64 (IntKind.u64.wrap (m * 16)) d = m * 16 + d := by
  have wr : ∀ n : Int, 0 ≤ n → n < 2 ^ 64 → IntKind.u64.wrap n = n := fun n h0 h1 => wrapu h0 (by omega)
  rw [wr _ (by omega) (by omega)]
  exact Go.bits_join .u64 64 (by decide) wr 4 _ _ (by omega) (by omega) (by omega) (by omega) (by omega) (by omega)
/-- What MacText tells. -/
def macTextS (a : Int) : ByteArray × Int := if a < 281474976710656 then (strOfNums (macT true (bytesL a 6)), 0) else (⟨#[]⟩, 2)
theorem macText_f (a : Int) (h0 : 0 ≤ a) {k : Nat} (hk : 20 ≤ k) : ether_MacText.f k a = some (macTextS a) := by
  unfold ether_MacText.f macTextS
  rw [card1 a h0]
  simp only [Option.bind_some]
  by_cases h : a < 281474976710656
  · rw [decide_eq_true h, if_pos rfl, if_pos h]
    rw [lay_f [] _ (by simp) (by
      intro x hx
      obtain rfl := List.mem_singleton.1 hx
      exact okP_mk (by decide) (by decide) h0 (by rw [p6]; omega)) (by simp) (by simp; omega)]
    have e6 : (6 : Int).toNat = 6 := rfl
    simp only [Option.bind_some, List.nil_append, layL, List.append_nil, e6]
    rw [if_pos ⟨by rw [bytesL_length]; decide, bytesL_range _ _⟩]
  · rw [decide_eq_false h, if_neg (by decide), if_neg h]
theorem rmac_step (k : Nat) (a i p x : Int) (xs : List Int) (h0 : 0 ≤ a) (hi0 : 0 ≤ i) (hi : i < 6) (hp : p = 2 ^ (8 * (5 - i)).toNat) (hx : x = a / p % 256) (hl : xs.length ≤ 100) :
    trunklineref08_MacText.l0 (k + 3) a (strOfNums xs) i = trunklineref08_MacText.l0 (k + 2) a (strOfNums (xs ++ ((if i > 0 then [58] else []) ++ hexL [x]))) (i + 1) := by
  have w1 : wrap64 (5 - i) = 5 - i := w64 (by omega) (by omega)
  have w2 : wrap64 (8 * (5 - i)) = 8 * (5 - i) := w64 (by omega) (by omega)
  have w3 : wrap64 (i + 1) = i + 1 := w64 (by omega) (by omega)
  have hs : shr .u64 a (8 * (5 - i)) % 256 = x := by
    rw [hx, hp]; unfold shr
    rw [Nat.min_eq_left (by show (8 * (5 - i)).toNat ≤ 64; omega)]
  have hx0 : 0 ≤ x := by omega
  have hx1 : x ≤ 255 := by omega
  have hH := hex_same [x] (by simp) (by intro y hy; simp at hy; omega) (k + 2) (by simp)
  have dd : (⟨#[58]⟩ : ByteArray) = strOfNums [58] := by decide +kernel
  have q0 : 0 ≤ 8 * (5 - i) := by omega
  have hlen : (hexL [x]).length = 2 := rfl
  rw [trunklineref08_MacText.l0, if_pos hi, w1, w2, w3, hs, hH]
  simp only [Option.bind_some]
  by_cases g : i > 0
  · have s1 : (strOfNums xs).size + 1 ≤ 9223372036854775807 := by rw [strOf_size]; omega
    have s2 : (strOfNums xs ++ strOfNums [58]).size + (strOfNums (hexL [x])).size ≤ 9223372036854775807 := by
      rw [ByteArray.size_append, strOf_size, strOf_size, strOf_size, hlen, List.length_singleton]; omega
    rw [if_pos g, if_pos s1, if_pos q0, dd, if_pos s2, if_pos (c := i > 0) g, strOf_append, strOf_append, List.append_assoc]
  · have s2 : (strOfNums xs).size + (strOfNums (hexL [x])).size ≤ 9223372036854775807 := by
      rw [strOf_size, strOf_size, hlen]; omega
    rw [if_neg g, if_pos q0, if_pos s2, if_neg (c := i > 0) g, strOf_append, List.nil_append]
theorem rmacText_f (a : Int) (h0 : 0 ≤ a) {k : Nat} (hk : 20 ≤ k) : trunklineref08_MacText.f k a = some (macTextS a) := by
  refine up_ (trunklineref08_MacText.mono a) hk ?_
  unfold trunklineref08_MacText.f macTextS trunklineref08_card.f
  simp only [Option.bind_some]
  by_cases h : a < 281474976710656
  · rw [decide_eq_true h, if_pos rfl, if_pos h]
    have e : bytesL a 6 = [a / 1099511627776 % 256, a / 4294967296 % 256, a / 16777216 % 256, a / 65536 % 256, a / 256 % 256, a / 1 % 256] := by
      have e2 : a / 256 / 256 = a / 65536 := by omega
      have e3 : a / 65536 / 256 = a / 16777216 := by omega
      have e4 : a / 16777216 / 256 = a / 4294967296 := by omega
      have e5 : a / 4294967296 / 256 = a / 1099511627776 := by omega
      have e6 : a / 1 = a := by omega
      simp only [bytesL, List.nil_append, List.cons_append, e2, e3, e4, e5, e6]
    have ee : (⟨#[]⟩ : ByteArray) = strOfNums [] := rfl
    rw [ee, rmac_step 17 a 0 1099511627776 _ [] h0 (by omega) (by omega) (by decide) rfl (by simp),
      rmac_step 16 a _ 4294967296 _ _ h0 (by omega) (by omega) (by decide) rfl (by simp [hexL]),
      rmac_step 15 a _ 16777216 _ _ h0 (by omega) (by omega) (by decide) rfl (by simp [hexL]),
      rmac_step 14 a _ 65536 _ _ h0 (by omega) (by omega) (by decide) rfl (by simp [hexL]),
      rmac_step 13 a _ 256 _ _ h0 (by omega) (by omega) (by decide) rfl (by simp [hexL]),
      rmac_step 12 a _ 1 _ _ h0 (by omega) (by omega) (by decide) rfl (by simp [hexL]),
      trunklineref08_MacText.l0, if_neg (by omega), e]
    rfl
  · rw [decide_eq_false h, if_neg (by decide), if_neg h]

theorem toList_strOf (xs : List Int) : (strOfNums xs).toList = xs.map fun n => UInt8.ofNat n.toNat := by
  rw [ByteArray.toList_eq]; simp [strOfNums]
theorem one_byte (p : ByteArray) (h : p.size = 1) : p.toList = [UInt8.ofNat (bt p 0).toNat] := by
  rw [bt_zero p (by omega)]
  have hl : p.data.toList.length = 1 := by rw [← h]; exact Array.length_toList
  rw [ByteArray.toList_eq]
  match hd : p.data.toList, hl with
  | [b], _ =>
    have : p[0]'(by omega) = b := by
      have h2 : p.data.toList[0]? = some b := by rw [hd]; rfl
      rw [Array.getElem?_toList] at h2
      have h3 := Array.getElem?_eq_some_iff.1 h2
      exact h3.2
    rw [this]; simp
theorem head_in (p : ByteArray) (h : 0 < p.size) : UInt8.ofNat (bt p 0).toNat ∈ p.toList := by
  rw [bt_zero p h, ByteArray.toList_eq]
  have : p[0]'h ∈ p.data.toList := by
    rw [Array.mem_toList_iff]; exact Array.getElem_mem h
  simpa using this
theorem is_colon {c : Int} {p : ByteArray} (h : LetOf c p) : p.toList = ([58] : List UInt8) ↔ c = 58 := by
  rcases h with ⟨h1, h2, h3, h4⟩ | ⟨h1, h2, h3⟩
  · rw [one_byte p h1, ← h4]
    constructor
    · intro e
      have e2 := congrArg (fun l : List UInt8 => l.map fun b => b.toNat) e
      simp only [List.map_cons, List.map_nil, UInt8.toNat_ofNat', List.cons.injEq, and_true] at e2
      have : (58 : UInt8).toNat = 58 := rfl
      omega
    · intro e; rw [e]; rfl
  · constructor
    · intro e
      have h := head_in p (by omega)
      rw [e, List.mem_singleton] at h
      have e2 := congrArg UInt8.toNat h
      have hb := bt_range p 0
      simp only [UInt8.toNat_ofNat'] at e2
      have : (58 : UInt8).toNat = 58 := rfl
      omega
    · intro e; omega
theorem All2.inv {c : Int} {cs : List Int} {ps : List ByteArray} (h : All2 (c :: cs) ps) : ∃ p ps', ps = p :: ps' ∧ LetOf c p ∧ All2 cs ps' := by
  cases h with
  | cons h1 h2 => exact ⟨_, _, rfl, h1, h2⟩
theorem All2.inv_nil {ps : List ByteArray} (h : All2 [] ps) : ps = [] := by
  cases h; rfl
theorem rdOf_mid (pre : List ByteArray) (p : ByteArray) (ps : List ByteArray) : rdOf ByteArray.empty (pre ++ p :: ps) (pre.length : Int) = p := by
  simp [rdOf]
/-- The document's step is the program's. -/
theorem mac_same (m d : Int) (h0 : 0 ≤ d) (h1 : d < 16) : IntKind.u64.wrap (IntKind.u64.wrap (m * 16) + IntKind.u64.wrap d) = Go.bits .or .u64 (IntKind.u64.wrap (m * 16)) d := by
  have hw : ∀ x : Int, IntKind.u64.wrap x = x % 18446744073709551616 := fun x => by simp [IntKind.wrap, IntKind.bits, IntKind.signed]
  have e : IntKind.u64.wrap (m * 16) = IntKind.u64.wrap ((m % 1152921504606846976) * 16) := by rw [hw, hw]; omega
  rw [e, or4u (m % 1152921504606846976) d (by omega) (by omega) h0 h1, hw, hw, hw]
  omega
theorem rmac_run (x5 : List ByteArray) (hl : x5.length ≤ 8796093022208) : ∀ (cs : List Int) (ps pre : List ByteArray) (m : Int) (k : Nat), All2 cs ps → x5 = pre ++ ps → 20 ≤ k →
    trunklineref08_Mac.l0 (k + ps.length) x5 m (pre.length : Int) = some (macL cs m (pre.length : Int))
  | [], ps, pre, m, k, h, hx, hk => by
    obtain rfl := h.inv_nil
    rw [List.append_nil] at hx
    subst hx
    have q : ¬ (x5.length : Int) < (x5.length : Int) := by omega
    rw [show k + ([] : List ByteArray).length = (k - 1) + 1 by simp; omega, trunklineref08_Mac.l0, if_neg q, macL]
    by_cases g : (x5.length : Int) < 17
    · rw [if_pos g, if_pos g]
    · rw [if_neg g, if_neg g]
  | c :: cs, ps0, pre, m, k, h0, hx, hk => by
    obtain ⟨p, ps, rfl, hp, h⟩ := h0.inv
    have hr := rdOf_mid pre p ps
    rw [← hx] at hr
    have hlen : (x5.length : Int) = pre.length + ps.length + 1 := by rw [hx]; simp; omega
    have i0 : (0 : Int) ≤ pre.length := by omega
    have i1 : (pre.length : Int) < x5.length := by omega
    have wi : wrap64 ((pre.length : Int) + 1) = pre.length + 1 := w64 (by omega) (by omega)
    have e1 : ((pre ++ [p]).length : Int) = pre.length + 1 := by simp
    have hx2 : x5 = pre ++ [p] ++ ps := by rw [hx]; simp
    have et : Int.tmod (pre.length : Int) 3 = (pre.length : Int) % 3 := Int.tmod_eq_emod_of_nonneg i0
    have hk1 : 17 ≤ k + ps.length := by omega
    rw [show k + (p :: ps).length = (k + ps.length) + 1 by simp; omega, trunklineref08_Mac.l0, if_pos i1, et, hr, wi, macL]
    by_cases g : (pre.length : Int) ≥ 17
    · rw [if_pos g, if_pos g]
    · rw [if_neg g, if_neg g]
      by_cases g3 : (pre.length : Int) % 3 = 2
      · rw [if_pos g3, if_pos g3, if_pos i0]
        by_cases gc : c = 58
        · have ih := rmac_run x5 hl cs ps (pre ++ [p]) m k h hx2 hk
          rw [e1] at ih
          rw [if_pos ((is_colon hp).2 gc), if_pos gc]
          exact ih
        · rw [if_neg (fun e => gc ((is_colon hp).1 e)), if_neg gc]
      · rw [if_neg g3, if_neg g3, if_pos i0, digit_f hp _ hk1]
        simp only [Option.bind_some]
        by_cases gd : halfD c < 0
        · rw [if_pos gd, if_pos gd]
        · have hd := halfD_range c
          have ih := rmac_run x5 hl cs ps (pre ++ [p]) (Go.bits .or .u64 (IntKind.u64.wrap (m * 16)) (halfD c)) k h hx2 hk
          rw [e1] at ih
          rw [if_neg gd, if_neg gd, mac_same m (halfD c) (by omega) (by omega)]
          exact ih
theorem rmac_f (s : ByteArray) (hs : s.size ≤ 1048576) (k : Nat) (hk : 30 + 2 * s.size ≤ k) : trunklineref08_Mac.f k s = some (macL (letters s) 0 0) := by
  have hl := pieces_length s.size s
  refine up_ (trunklineref08_Mac.mono s) hk ?_
  rw [trunklineref08_Mac.f, letters_f s (by omega) _ (by omega)]
  simp only [Option.bind_some]
  have h := rmac_run (pieces s.size s) (by omega) (letters s) (pieces s.size s) [] 0 (30 + 2 * s.size - (pieces s.size s).length) (of_letters s) rfl (by omega)
  rw [show 30 + 2 * s.size - (pieces s.size s).length + (pieces s.size s).length = 30 + 2 * s.size by omega] at h
  exact h
end Go.Proofs.YtnfbbnmdlcmifaaDoor.Pure
