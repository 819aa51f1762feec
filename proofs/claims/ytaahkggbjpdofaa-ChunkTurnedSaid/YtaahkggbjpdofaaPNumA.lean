/- Numbers as bytes: what octet.Bytes and the document's own tell, in plain Lean. -/
import Derived.Test.YtaahkggbjpdofaaM3
import Derived.Test.YtaahkggbjpdofaaM22
import Derived.Laws.BitsLemmas
import Derived.Lib.Strings
namespace Go.Proofs.Ytaahkggbjpdofaa.Pure
open Go.RowKit Go.Proofs.Ytaahkggbjpdofaa.M Go.Proofs.YtaahkggbjpdofaaW.PrintWords Go.Proofs.YtaahkggbjpdofaaW.PrintLast Go.Proofs.YtaahkggbjpdofaaW.PrintMore
set_option linter.unusedVariables false
set_option linter.unusedSimpArgs false

/-- The number of bytes, the greatest first. -/
def numL (v : Int) : List Int → Int
  | [] => v
  | x :: xs => numL (v * 256 + x) xs
/-- A number's n bytes. -/
def bytesL (v : Int) : Nat → List Int
  | 0 => []
  | n + 1 => bytesL (v / 256) n ++ [v % 256]

theorem up_ {α : Type} {f : Nat → Option α} {r : α} (h : ∀ k, LeO (f k) (f (k + 1))) {a b : Nat} (hab : a ≤ b) (hr : f a = some r) : f b = some r := by
  induction b with
  | zero => obtain rfl : a = 0 := by omega
            exact hr
  | succ b ih =>
    by_cases e : a = b + 1
    · subst e; exact hr
    · exact h b r (ih (by omega))
theorem wrapu {x : Int} (h0 : 0 ≤ x) (h1 : x < 18446744073709551616) : IntKind.u64.wrap x = x := by
  have : IntKind.u64.wrap x = x % 18446744073709551616 := by simp [IntKind.wrap, IntKind.bits, IntKind.signed]
  rw [this]; omega
theorem wf_u8 {x : Int} (h : (Lit.int .u8 x).wf = true) : 0 ≤ x ∧ x ≤ 255 := by
  simp [Lit.wf, IntKind.min, IntKind.max, IntKind.signed, IntKind.bits] at h; omega
theorem wf_u16 {x : Int} (h : (Lit.int .u16 x).wf = true) : 0 ≤ x ∧ x ≤ 65535 := by
  simp [Lit.wf, IntKind.min, IntKind.max, IntKind.signed, IntKind.bits] at h; omega
theorem wf_u32 {x : Int} (h : (Lit.int .u32 x).wf = true) : 0 ≤ x ∧ x ≤ 4294967295 := by
  simp [Lit.wf, IntKind.min, IntKind.max, IntKind.signed, IntKind.bits] at h; omega
theorem wf_u64 {x : Int} (h : (Lit.int .u64 x).wf = true) : 0 ≤ x ∧ x ≤ 18446744073709551615 := by
  simp [Lit.wf, IntKind.min, IntKind.max, IntKind.signed, IntKind.bits] at h; omega
theorem wf_i64 {x : Int} (h : (Lit.int .i64 x).wf = true) : -9223372036854775808 ≤ x ∧ x ≤ 9223372036854775807 := by
  simp [Lit.wf, IntKind.min, IntKind.max, IntKind.signed, IntKind.bits] at h; omega
theorem wf_bytes {l : List Int} (h : ∀ x ∈ l, (Lit.int .u8 x).wf = true) : ∀ x ∈ l, 0 ≤ x ∧ x ≤ 255 := fun x hx => wf_u8 (h x hx)
theorem bytesL_length : ∀ (n : Nat) (v : Int), (bytesL v n).length = n
  | 0, v => rfl
  | n + 1, v => by simp [bytesL, bytesL_length n]
theorem numL_append (xs ys : List Int) : ∀ v, numL v (xs ++ ys) = numL (numL v xs) ys := by
  induction xs with
  | nil => intro v; rfl
  | cons x xs ih => intro v; simp only [List.cons_append, numL]; exact ih _
theorem numL_bytesL : ∀ (n : Nat) (v : Int), 0 ≤ v → v < 256 ^ n → numL 0 (bytesL v n) = v
  | 0, v, h0, h1 => by simp at h1; simp [bytesL, numL]; omega
  | n + 1, v, h0, h1 => by
    have e : (256 : Int) ^ (n + 1) = 256 ^ n * 256 := Int.pow_succ ..
    rw [e] at h1
    simp only [bytesL, numL_append, numL]
    rw [numL_bytesL n (v / 256) (by omega) (by omega)]
    omega
theorem numL_range : ∀ (xs : List Int) (n : Nat) (v : Int), (∀ x ∈ xs, 0 ≤ x ∧ x ≤ 255) → 0 ≤ v → v < 256 ^ n → 0 ≤ numL v xs ∧ numL v xs < 256 ^ (n + xs.length)
  | [], n, v, h, h0, h1 => ⟨h0, h1⟩
  | x :: xs, n, v, h, h0, h1 => by
    have e : (256 : Int) ^ (n + 1) = 256 ^ n * 256 := Int.pow_succ ..
    have hx := h x (by simp)
    have := numL_range xs (n + 1) (v * 256 + x) (fun y hy => h y (by simp [hy])) (by omega) (by omega)
    rw [show n + (x :: xs).length = n + 1 + xs.length by simp; omega]
    exact this
theorem bytesL_range : ∀ (n : Nat) (v : Int), ∀ x ∈ bytesL v n, 0 ≤ x ∧ x ≤ 255
  | 0, v => by simp [bytesL]
  | n + 1, v => by
    intro x hx
    simp only [bytesL, List.mem_append, List.mem_singleton] at hx
    rcases hx with h | rfl
    · exact bytesL_range n _ x h
    · omega
theorem pow256 (n : Nat) (h : n ≤ 8) : (0 : Int) < 256 ^ n ∧ (256 : Int) ^ n ≤ 18446744073709551616 := by
  have H : ∀ n : Fin 9, (0 : Int) < 256 ^ n.val ∧ (256 : Int) ^ n.val ≤ 18446744073709551616 := by decide
  exact H ⟨n, by omega⟩
theorem pow256' (n : Nat) (h : n ≤ 7) : (0 : Int) < 256 ^ n ∧ (256 : Int) ^ n ≤ 72057594037927936 := by
  have H : ∀ n : Fin 8, (0 : Int) < 256 ^ n.val ∧ (256 : Int) ^ n.val ≤ 72057594037927936 := by decide
  exact H ⟨n, by omega⟩
theorem w64 {x : Int} (h0 : -9223372036854775808 ≤ x) (h1 : x ≤ 9223372036854775807) : wrap64 x = x := by unfold wrap64; omega
theorem rd_get (xs : List Int) (i : Nat) (h : i < xs.length) : rd xs (i : Int) = xs[i] := by
  unfold rd; simp [List.getD, h]
theorem or8 (v x : Int) (h0 : 0 ≤ v) (h1 : v < 72057594037927936) (hx0 : 0 ≤ x) (hx1 : x ≤ 255) : Go.bits .or .u64 (IntKind.u64.wrap (v * 256)) (IntKind.u64.wrap x) = v * 256 + x := by
  have wr : ∀ n : Int, 0 ≤ n → n < 2 ^ 64 → IntKind.u64.wrap n = n := fun n h0 h1 => by
    have : IntKind.u64.wrap n = n % 18446744073709551616 := by simp [IntKind.wrap, IntKind.bits, IntKind.signed]
    rw [this]; omega
  rw [wr _ (by omega) (by omega), wr _ (by omega) (by omega)]
  exact Go.bits_join .u64 64 (by decide) wr 8 _ _ (by omega) (by omega) (by omega) (by omega) (by omega) (by omega)
theorem sum8 (v x : Int) (h0 : 0 ≤ v) (h1 : v < 72057594037927936) (hx0 : 0 ≤ x) (hx1 : x ≤ 255) : IntKind.u64.wrap (IntKind.u64.wrap (v * 256) + IntKind.u64.wrap x) = v * 256 + x := by
  have wr : ∀ n : Int, 0 ≤ n → n < 2 ^ 64 → IntKind.u64.wrap n = n := fun n h0 h1 => by
    have : IntKind.u64.wrap n = n % 18446744073709551616 := by simp [IntKind.wrap, IntKind.bits, IntKind.signed]
    rw [this]; omega
  rw [wr (v * 256) (by omega) (by omega), wr x (by omega) (by omega), wr _ (by omega) (by omega)]

/-- What Bytes tells. -/
def bytesS (v n : Int) : List Int × Int :=
  if 1 ≤ n ∧ n ≤ 8 then (if v / 256 ^ n.toNat > 0 then ([], 6) else (bytesL v n.toNat, 0)) else ([], 2)

theorem bytesL_get : ∀ (n : Nat) (v : Int) (i : Nat) (h : i < (bytesL v n).length), 0 ≤ v → (bytesL v n)[i] = v / 256 ^ (n - 1 - i) % 256
  | 0, v, i, h, h0 => by simp [bytesL] at h
  | n + 1, v, i, h, h0 => by
    rw [bytesL_length] at h
    have hl := bytesL_length n (v / 256)
    by_cases hi : i < n
    · simp only [bytesL]
      rw [List.getElem_append_left (by omega), bytesL_get n (v / 256) i (by omega) (by omega)]
      rw [show n + 1 - 1 - i = (n - 1 - i) + 1 by omega, Int.pow_succ, Int.mul_comm, Int.ediv_ediv_of_nonneg (by omega)]
    · have : i = n := by omega
      subst this
      simp only [bytesL]
      rw [List.getElem_append_right (by omega)]
      simp
theorem pow_8 (m : Nat) : (2 : Int) ^ (8 * m) = 256 ^ m := by rw [Int.pow_mul]; rfl
theorem bytes_l0 (v : Int) (n : Nat) (h0 : 0 ≤ v) (h8 : n ≤ 8) : ∀ (d i k : Nat) (xs : List Int), i + d = n → xs.length = n →
    octet_Bytes.l0 (k + d + 1) v (n : Int) xs (n : Int) (i : Int) = some (xs.take i ++ (bytesL v n).drop i, 0)
  | 0, i, k, xs, hi, hx => by
    have : i = n := by omega
    subst this
    rw [List.drop_of_length_le (by rw [bytesL_length]; omega), List.take_of_length_le (by omega)]
    simp [octet_Bytes.l0]
  | d + 1, i, k, xs, hi, hx => by
    have hl := bytesL_length n v
    rw [show k + (d + 1) + 1 = (k + d + 1) + 1 by omega, octet_Bytes.l0]
    rw [w64 (x := (n : Int) - 1) (by omega) (by omega), w64 (x := (n : Int) - 1 - i) (by omega) (by omega), w64 (x := 8 * ((n : Int) - 1 - i)) (by omega) (by omega), w64 (x := (i : Int) + 1) (by omega) (by omega)]
    rw [if_pos (by omega), if_pos (by omega), if_pos (by omega), if_pos (by omega)]
    have hy : shr .u64 v (8 * ((n : Int) - 1 - i)) % 256 = (bytesL v n)[i]'(by omega) := by
      rw [bytesL_get n v i (by omega) h0]
      unfold shr
      rw [Nat.min_eq_left (by show (8 * ((n : Int) - 1 - i)).toNat ≤ 64; omega), show (8 * ((n : Int) - 1 - i)).toNat = 8 * (n - 1 - i) by omega, pow_8]
    rw [hy, show ((i : Int) + 1) = ((i + 1 : Nat) : Int) by omega, Int.toNat_natCast]
    rw [bytes_l0 v n h0 h8 d (i + 1) k (xs.set i _) (by omega) (by simpa using hx)]
    rw [List.drop_eq_getElem_cons (l := bytesL v n) (i := i) (by omega), List.take_succ_eq_append_getElem (by simp; omega)]
    simp [List.take_set]
    rw [List.set_eq_of_length_le (by simp; omega)]

theorem bytes_at (v n : Int) (hv : 0 ≤ v) (hv1 : v < 18446744073709551616) (hn : (Lit.int .i64 n).wf = true) : octet_Bytes.f 10 v n = some (bytesS v n) := by
  unfold octet_Bytes.f bytesS octet_wide.f
  have J : 1 ≤ n → n ≤ 8 → octet_Bytes.j0 10 v n = some (bytesL v n.toNat, 0) := by
    intro h1 h2
    rw [octet_Bytes.j0, if_pos (by omega), if_pos (by omega)]
    have := bytes_l0 v n.toNat hv (by omega) n.toNat 0 (8 - n.toNat) (List.replicate n.toNat 0) (by omega) (by simp)
    rw [show 8 - n.toNat + n.toNat + 1 = 9 by omega, show ((n.toNat : Nat) : Int) = n by omega] at this
    simp only [Option.bind_some, List.length_replicate]
    rw [show ((n.toNat : Nat) : Int) = n by omega]
    simpa using this
  by_cases h1 : n ≥ 1
  · by_cases h2 : n ≤ 8
    · rw [if_pos h1, decide_eq_true h2, if_pos (c := 1 ≤ n ∧ n ≤ 8) (by omega)]
      simp only [Option.bind_some, if_true]
      by_cases h3 : n < 8
      · rw [if_pos h3, w64 (by omega) (by omega), if_pos (by omega)]
        have hs : shr .u64 v (8 * n) = v / 256 ^ n.toNat := by
          unfold shr
          rw [Nat.min_eq_left (by show (8 * n).toNat ≤ 64; omega), show (8 * n).toNat = 8 * n.toNat by omega, pow_8]
        rw [hs]
        have p := pow256 n.toNat (by omega)
        have hnn : 0 ≤ v / 256 ^ n.toNat := Int.ediv_nonneg hv (by omega)
        by_cases h4 : v / 256 ^ n.toNat = 0
        · rw [if_pos h4, if_neg (c := v / 256 ^ n.toNat > 0) (by omega), J (by omega) h2]
        · rw [if_neg h4, if_pos (c := v / 256 ^ n.toNat > 0) (by omega)]
      · have : n = 8 := by omega
        subst this
        rw [if_neg (by omega), J (by omega) (by omega), if_neg (c := v / 256 ^ (8 : Int).toNat > 0)]
        rw [show (8 : Int).toNat = 8 from rfl, show (256 : Int) ^ 8 = 18446744073709551616 by decide]
        omega
    · rw [if_pos h1, decide_eq_false h2, if_neg (c := 1 ≤ n ∧ n ≤ 8) (by omega)]; rfl
  · rw [if_neg h1, if_neg (c := 1 ≤ n ∧ n ≤ 8) (by omega)]; rfl
theorem bytes_ev (v n : Int) (hv : 0 ≤ v) (hv1 : v < 18446744073709551616) (hn : (Lit.int .i64 n).wf = true) : Ev (fun k => octet_Bytes.f k v n) (bytesS v n) := Ev.of (octet_Bytes.mono v n) (k := 10) (bytes_at v n hv hv1 hn)
theorem bytes_f (v n : Int) (hv : 0 ≤ v) (hv1 : v < 18446744073709551616) (hn : (Lit.int .i64 n).wf = true) {k : Nat} (hk : 10 ≤ k) : octet_Bytes.f k v n = some (bytesS v n) := up_ (octet_Bytes.mono v n) hk (bytes_at v n hv hv1 hn)

theorem rbytes_l0 : ∀ (m k : Nat) (u : Int) (xs : List Int), 0 ≤ u → u < 18446744073709551616 → m ≤ xs.length → m ≤ 8 →
    trunklineref01_Bytes.l0 (k + m + 1) u xs ((m : Int) - 1) = some (if u / 256 ^ m > 0 then ([], 6) else (bytesL u m ++ xs.drop m, 0))
  | 0, k, u, xs, h0, h1, hm, h8 => by
    rw [show k + 0 + 1 = k + 1 by omega, trunklineref01_Bytes.l0, if_neg (by omega)]
    simp only [Int.pow_zero, Int.ediv_one, bytesL, List.drop_zero, List.nil_append]
    split <;> rfl
  | m + 1, k, u, xs, h0, h1, hm, h8 => by
    rw [show k + (m + 1) + 1 = (k + m + 1) + 1 by omega, trunklineref01_Bytes.l0]
    rw [show (((m + 1 : Nat) : Int) - 1) = (m : Int) by omega, if_pos (by omega), if_pos (by omega), if_pos (by omega)]
    rw [w64 (by omega) (by omega), Int.tdiv_eq_ediv_of_nonneg h0, Int.tmod_eq_emod_of_nonneg h0]
    have wr : IntKind.u64.wrap (u / 256) = u / 256 := by
      have : IntKind.u64.wrap (u / 256) = (u / 256) % 18446744073709551616 := by simp [IntKind.wrap, IntKind.bits, IntKind.signed]
      rw [this]; omega
    rw [wr, Int.emod_emod_of_dvd u (by decide), Int.toNat_natCast, rbytes_l0 m k (u / 256) (xs.set m (u % 256)) (by omega) (by omega) (by simp; omega) (by omega)]
    rw [Int.ediv_ediv_of_nonneg (by omega), Int.mul_comm, ← Int.pow_succ]
    have hd : (xs.set m (u % 256)).drop m = u % 256 :: xs.drop (m + 1) := by
      rw [List.drop_eq_getElem_cons (by simp; omega), List.drop_set, if_pos (by omega)]
      simp
    rw [hd]
    simp only [bytesL, List.append_assoc, List.cons_append, List.nil_append]

theorem rbytes_at (v n : Int) (hv : 0 ≤ v) (hv1 : v < 18446744073709551616) (hn : (Lit.int .i64 n).wf = true) : trunklineref01_Bytes.f 10 v n = some (bytesS v n) := by
  unfold trunklineref01_Bytes.f bytesS
  by_cases h1 : n < 1
  · rw [if_pos h1, if_neg (c := 1 ≤ n ∧ n ≤ 8) (by omega)]; rfl
  · rw [if_neg h1, trunklineref01_Bytes.j0]
    by_cases h2 : n > 8
    · rw [if_pos (by simpa using h2), if_neg (c := 1 ≤ n ∧ n ≤ 8) (by omega)]
    · rw [if_neg (by simpa using h2), if_pos (by omega), if_pos (by omega), if_pos (c := 1 ≤ n ∧ n ≤ 8) (by omega), w64 (by omega) (by omega)]
      have := rbytes_l0 n.toNat (8 - n.toNat) v (List.replicate n.toNat 0) hv hv1 (by simp) (by omega)
      rw [show 8 - n.toNat + n.toNat + 1 = 9 by omega, show ((n.toNat : Nat) : Int) = n by omega] at this
      rw [this]
      simp
theorem rbytes_ev (v n : Int) (hv : 0 ≤ v) (hv1 : v < 18446744073709551616) (hn : (Lit.int .i64 n).wf = true) : Ev (fun k => trunklineref01_Bytes.f k v n) (bytesS v n) := Ev.of (trunklineref01_Bytes.mono v n) (k := 10) (rbytes_at v n hv hv1 hn)
theorem rbytes_f (v n : Int) (hv : 0 ≤ v) (hv1 : v < 18446744073709551616) (hn : (Lit.int .i64 n).wf = true) {k : Nat} (hk : 10 ≤ k) : trunklineref01_Bytes.f k v n = some (bytesS v n) := up_ (trunklineref01_Bytes.mono v n) hk (rbytes_at v n hv hv1 hn)

theorem bytesS_len (v n : Int) : (bytesS v n).1.length ≤ 8 ∧ ((bytesS v n).2 ≠ 0 → (bytesS v n).1 = []) := by
  unfold bytesS
  split
  · split
    · simp
    · exact ⟨by rw [bytesL_length]; omega, fun h => absurd rfl h⟩
  · simp
theorem bytesS_ok {v n : Int} (h : (bytesS v n).2 = 0) : 1 ≤ n ∧ n ≤ 8 ∧ v / 256 ^ n.toNat ≤ 0 ∧ (bytesS v n).1 = bytesL v n.toNat := by
  unfold bytesS at h ⊢
  by_cases h1 : 1 ≤ n ∧ n ≤ 8
  · rw [if_pos h1] at h ⊢
    by_cases h2 : v / 256 ^ n.toNat > 0
    · rw [if_pos h2] at h; exact absurd h (by decide)
    · rw [if_neg h2]; exact ⟨h1.1, h1.2, by omega, rfl⟩
  · rw [if_neg h1] at h; exact absurd h (by decide)
theorem lt_of_div {v : Int} {n : Nat} (h8 : n ≤ 8) (h : v / 256 ^ n ≤ 0) : v < 256 ^ n := by
  have p := (pow256 n h8).1
  have := Int.lt_ediv_add_one_mul_self v p
  have h2 : v / 256 ^ n + 1 ≤ 1 := by omega
  have h3 : (v / 256 ^ n + 1) * 256 ^ n ≤ 1 * 256 ^ n := Int.mul_le_mul_of_nonneg_right h2 (by omega)
  omega
theorem bytesL_numL (xs : List Int) (h : ∀ x ∈ xs, 0 ≤ x ∧ x ≤ 255) : bytesL (numL 0 xs) xs.length = xs := by
  have : ∀ (n : Nat) (xs : List Int), xs.length = n → (∀ x ∈ xs, 0 ≤ x ∧ x ≤ 255) → bytesL (numL 0 xs) n = xs := by
    intro n
    induction n with
    | zero => intro xs hx _; cases xs with | nil => rfl | cons => simp at hx
    | succ n ih =>
      intro xs hx h
      rcases List.eq_nil_or_concat xs with rfl | ⟨ys, y, rfl⟩
      · simp at hx
      · rw [List.concat_eq_append] at hx h ⊢
        have hy := h y (by simp)
        rw [numL_append, numL, numL, bytesL, show (numL 0 ys * 256 + y) / 256 = numL 0 ys by omega, show (numL 0 ys * 256 + y) % 256 = y by omega, ih ys (by simpa using hx) (fun x hx => h x (by simp [hx]))]
  exact this _ xs rfl h

theorem toL (xs : List Int) : (strOfNums xs).toList = xs.map fun n => UInt8.ofNat n.toNat := by
  have : ∀ (s : ByteArray), s.toList = s.data.toList := fun s => by rw [Go.Lib.toList_data]
  rw [this]; rfl
theorem ofNat_inj (xs ys : List Int) (hx : ∀ x ∈ xs, 0 ≤ x ∧ x ≤ 255) (hy : ∀ x ∈ ys, 0 ≤ x ∧ x ≤ 255) (h : (xs.map fun n => UInt8.ofNat n.toNat) = ys.map fun n => UInt8.ofNat n.toNat) : xs = ys := by
  have g : ∀ (zs : List Int), (∀ x ∈ zs, 0 ≤ x ∧ x ≤ 255) → ((zs.map fun n => UInt8.ofNat n.toNat).map fun b => (b.toNat : Int)) = zs := by
    intro zs hz
    rw [List.map_map]
    conv => rhs; rw [← List.map_id zs]
    apply List.map_congr_left
    intro x hx
    have := hz x hx
    simp only [Function.comp, id, UInt8.toNat_ofNat']
    omega
  rw [← g xs hx, ← g ys hy, h]
theorem i64_wf {n : Int} (h0 : -9223372036854775808 ≤ n) (h1 : n ≤ 9223372036854775807) : (Lit.int .i64 n).wf = true := by
  simp [Lit.wf, IntKind.min, IntKind.max, IntKind.signed, IntKind.bits]
  omega
end Go.Proofs.Ytaahkggbjpdofaa.Pure
