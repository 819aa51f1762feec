/- A text as an address, and an address as a text: octet's and the document's own tell the same. -/
import Derived.Test.YtndoankacnjhoaaDoorPAddrD
import Derived.Test.YtndoankacnjhoaaDoorM18
namespace Go.Proofs.YtndoankacnjhoaaDoor.Pure
open Go.RowKit Go.Proofs.YtndoankacnjhoaaDoor.M Go.Proofs.YtndoankacnjhoaaDoorW.PrintWords Go.Proofs.YtndoankacnjhoaaDoorW.PrintLast Go.Proofs.YtndoankacnjhoaaDoorW.PrintMore
set_option linter.unusedVariables false
set_option linter.unusedSimpArgs false

theorem All2.inv {c : Int} {cs : List Int} {ps : List ByteArray} (h : All2 (c :: cs) ps) : ∃ p ps', ps = p :: ps' ∧ LetOf c p ∧ All2 cs ps' := by
  cases h with
  | cons h1 h2 => exact ⟨_, _, rfl, h1, h2⟩
theorem All2.inv_nil {ps : List ByteArray} (h : All2 [] ps) : ps = [] := by
  cases h; rfl
theorem rdOf_mid (pre : List ByteArray) (p : ByteArray) (ps : List ByteArray) : rdOf ByteArray.empty (pre ++ p :: ps) (pre.length : Int) = p := by
  simp [rdOf]
theorem pow_le (parts : Int) (h0 : 0 ≤ parts) (h1 : parts ≤ 3) : (256 : Int) ^ parts.toNat ≤ 16777216 := by
  have H : ∀ n : Fin 4, (256 : Int) ^ n.val ≤ 16777216 := by decide
  exact H ⟨parts.toNat, by omega⟩
theorem addr_end {k : Nat} {x5 : List ByteArray} {a n digits parts : Int} (hl : x5.length ≤ 8796093022208) (hk : 256 ≤ k) (ha0 : 0 ≤ a) (ha1 : a < 16777216) (hn0 : 0 ≤ n) (hn1 : n ≤ 255) :
    trunklineref01_Addr.l0 (k + 1) x5 a (nowT digits n) parts (x5.length : Int) = some (addrL [] a n digits parts (x5.length : Int)) := by
  have q : ¬ (x5.length : Int) < (x5.length : Int) := by omega
  rw [trunklineref01_Addr.l0, if_neg q, addrL]
  by_cases g : parts < 3
  · rw [if_pos g, if_pos (.inl g)]
  · rw [if_neg g]
    by_cases z : digits = 0
    · rw [if_pos (now_nil.2 z), if_pos (.inr z)]
    · rw [if_neg (fun e => z (now_nil.1 e)), if_neg (by omega), show nowT digits n = dT n by unfold nowT; rw [if_neg z], value_f n hn0 hn1 k hk, or32 a n ha0 ha1 hn0 hn1]
      simp only [Option.bind_some]
      rw [Int.emod_eq_of_lt (a := a * 256) (by omega) (by omega), Int.emod_eq_of_lt (by omega) (by omega)]
theorem addr_run (x5 : List ByteArray) (hl : x5.length ≤ 8796093022208) (hsz : ∀ p ∈ x5, p.size ≤ 1000000000) : ∀ (cs : List Int) (ps pre : List ByteArray) (a n digits parts : Int) (k : Nat), All2 cs ps → x5 = pre ++ ps → 0 ≤ a → a < 256 ^ parts.toNat → 0 ≤ parts → parts ≤ 3 → 0 ≤ n → n ≤ 255 → 0 ≤ digits → (digits = 0 → n = 0) → 300 ≤ k →
    trunklineref01_Addr.l0 (k + 2 * ps.length) x5 a (nowT digits n) parts (pre.length : Int) = some (addrL cs a n digits parts (pre.length : Int))
  | [], ps, pre, a, n, digits, parts, k, h, hx, ha0, ha1, hp0, hp1, hn0, hn1, hd0, hd, hk => by
    obtain rfl := h.inv_nil
    rw [List.append_nil] at hx
    subst hx
    have hpw := pow_le parts hp0 hp1
    have := addr_end (k := k - 1) (x5 := x5) (a := a) (n := n) (digits := digits) (parts := parts) hl (by omega) ha0 (by omega) hn0 hn1
    rw [show k - 1 + 1 = k by omega] at this
    exact this
  | c :: cs, ps0, pre, a, n, digits, parts, k, h0, hx, ha0, ha1, hp0, hp1, hn0, hn1, hd0, hd, hk => by
    obtain ⟨p, ps, rfl, hp, h⟩ := h0.inv
    have hr := rdOf_mid pre p ps
    rw [← hx] at hr
    have hlen : (x5.length : Int) = pre.length + ps.length + 1 := by rw [hx]; simp; omega
    have hpl := hsz p (by rw [hx]; simp)
    have i0 : (0 : Int) ≤ pre.length := by omega
    have i1 : (pre.length : Int) < x5.length := by omega
    have hpw := pow_le parts hp0 hp1
    have hns := now_size digits n
    have wi : wrap64 ((pre.length : Int) + 1) = pre.length + 1 := w64 (by omega) (by omega)
    have e1 : ((pre ++ [p]).length : Int) = pre.length + 1 := by simp
    have hx2 : x5 = pre ++ [p] ++ ps := by rw [hx]; simp
    have hk2 : k + 2 * (p :: ps).length = (k + 2 * ps.length) + 1 + 1 := by simp; omega
    have hA : addrL (c :: cs) a n digits parts (pre.length : Int) = (match addrStep c a n digits parts with
      | some (a', n', d', p') => addrL cs a' n' d' p' ((pre.length : Int) + 1)
      | none => (0, (pre.length : Int), 4)) := by
        rw [addrL]
        rcases addrStep c a n digits parts with _ | ⟨_, _, _, _⟩ <;> rfl
    rw [hk2, hA, trunklineref01_Addr.l0, if_pos i1, if_pos i0, hr]
    by_cases hdot : c = 46
    · have ng : ¬ (48 ≤ c ∧ c ≤ 57 ∧ (digits = 0 ∨ 0 < n) ∧ n * 10 + (c - 48) ≤ 255) := by omega
      rw [if_pos ((is_dot hp).2 hdot), addrStep, if_neg ng]
      by_cases z : digits = 0
      · have ng2 : ¬ (c = 46 ∧ 0 < digits ∧ parts < 3) := by omega
        rw [if_pos (now_nil.2 z), if_neg ng2, trunklineref01_Addr.j1, if_neg (by decide), if_pos i0, if_pos i1, hr, if_pos ((is_dot hp).2 hdot)]
      · rw [if_neg (fun e => z (now_nil.1 e))]
        by_cases g : parts < 3
        · have yg : c = 46 ∧ 0 < digits ∧ parts < 3 := ⟨hdot, by omega, g⟩
          have en : nowT digits n = dT n := by unfold nowT; rw [if_neg z]
          have ih := addr_run x5 hl hsz cs ps (pre ++ [p]) (a * 256 + n) 0 0 (parts + 1) k h hx2 (by omega) (by
            rw [show (parts + 1).toNat = parts.toNat + 1 by omega, Int.pow_succ]; omega) (by omega) (by omega) (by omega) (by omega) (by omega) (fun _ => rfl) hk
          rw [e1] at ih
          have hkv : 256 ≤ k + 2 * ps.length := by omega
          have ew : wrap64 (parts + 1) = parts + 1 := w64 (by omega) (by omega)
          have ea : (a * 256 % 4294967296 + n) % 4294967296 = a * 256 + n := by
            rw [Int.emod_eq_of_lt (a := a * 256) (by omega) (by omega), Int.emod_eq_of_lt (by omega) (by omega)]
          rw [if_pos yg, trunklineref01_Addr.j1, if_pos (by simp [g]), en, value_f n hn0 hn1 _ hkv, or32 a n ha0 (by omega) hn0 hn1]
          simp only [Option.bind_some]
          rw [ea, ew, wi]
          exact ih
        · have ng2 : ¬ (c = 46 ∧ 0 < digits ∧ parts < 3) := by omega
          rw [if_neg ng2, trunklineref01_Addr.j1, if_neg (by simp [g]), if_pos i0, if_pos i1, hr, if_pos ((is_dot hp).2 hdot)]
    · have nd : ¬ p.toList = ([46] : List UInt8) := fun e => hdot ((is_dot hp).1 e)
      have hsz2 : (nowT digits n).size + p.size ≤ 9223372036854775807 := by omega
      have hkv : 257 ≤ k + 2 * ps.length := by omega
      rw [if_neg nd, trunklineref01_Addr.j1, if_neg (by decide), if_pos i0, if_pos i1, hr, if_neg nd, if_pos hsz2]
      by_cases g : 48 ≤ c ∧ c ≤ 57 ∧ (digits = 0 ∨ 0 < n) ∧ n * 10 + (c - 48) ≤ 255
      · have en := now_step hp hn0 hn1 hd0 hd g
        have ih := addr_run x5 hl hsz cs ps (pre ++ [p]) a (n * 10 + (c - 48)) (digits + 1) parts k h hx2 ha0 ha1 hp0 hp1 (by omega) (by omega) (by omega) (by omega) hk
        have en2 : nowT (digits + 1) (n * 10 + (c - 48)) = dT (n * 10 + (c - 48)) := by unfold nowT; rw [if_neg (by omega)]
        rw [e1, en2] at ih
        rw [addrStep, if_pos g, en, part_yes_f _ (by omega) (by omega) _ hkv]
        simp only [Option.bind_some]
        rw [if_pos trivial, wi]
        exact ih
      · have ng2 : ¬ (c = 46 ∧ 0 < digits ∧ parts < 3) := fun e => hdot e.1
        have hpp : 0 < p.size := by rcases hp with h | h <;> omega
        rw [addrStep, if_neg g, if_neg ng2, part_no_f _ (now_bad hp hn0 hn1 hd0 hd g) (by rw [ByteArray.size_append]; omega) _ hkv]
        simp
theorem piece_size : ∀ (n : Nat) (x : ByteArray), x.size ≤ 1000000000 → ∀ p ∈ pieces n x, p.size ≤ 1000000000
  | 0, x, h, p, hp => by simp [pieces] at hp
  | n + 1, x, h, p, hp => by
    rw [pieces] at hp
    split at hp
    · rcases List.mem_cons.1 hp with rfl | hp
      · rw [ByteArray.size_extract]; omega
      · exact piece_size n _ (by rw [ByteArray.size_extract]; omega) p hp
    · simp at hp
theorem raddr_f (s : ByteArray) (hs : s.size ≤ 1048576) (k : Nat) (hk : 300 + 2 * s.size ≤ k) : trunklineref01_Addr.f k s = some (addrL (letters s) 0 0 0 0 0) := by
  have hl := pieces_length s.size s
  refine up_ (trunklineref01_Addr.mono s) (show 300 + 2 * s.size ≤ k from hk) ?_
  rw [trunklineref01_Addr.f, letters_f s (by omega) _ (by omega)]
  simp only [Option.bind_some]
  have h := addr_run (pieces s.size s) (by omega) (piece_size _ _ (by omega)) (letters s) (pieces s.size s) [] 0 0 0 0 (300 + 2 * s.size - 2 * (pieces s.size s).length) (of_letters s) rfl (by omega) (by decide) (by omega) (by omega) (by omega) (by omega) (by omega) (fun _ => rfl) (by omega)
  rw [show 300 + 2 * s.size - 2 * (pieces s.size s).length + 2 * (pieces s.size s).length = 300 + 2 * s.size by omega] at h
  exact h
theorem rtext_f (a : Int) (h0 : 0 ≤ a) (h1 : a ≤ 4294967295) : trunklineref01_AddrText.f a = some (strOfNums (textL (bytesL a 4))) := by
  have e : bytesL a 4 = [a / 16777216, a / 65536 % 256, a / 256 % 256, a % 256] := by
    simp only [bytesL, List.nil_append, List.cons_append, List.cons.injEq, and_true]
    omega
  have t0 : wrap64 a = a := w64 (by omega) (by omega)
  have t1 : wrap64 (Int.tdiv a 16777216) = a / 16777216 := by rw [Int.tdiv_eq_ediv_of_nonneg h0]; exact w64 (by omega) (by omega)
  have t2 : Int.tmod (wrap64 (Int.tdiv a 65536)) 256 = a / 65536 % 256 := by rw [Int.tdiv_eq_ediv_of_nonneg h0, w64 (by omega) (by omega), Int.tmod_eq_emod_of_nonneg (by omega)]
  have t3 : Int.tmod (wrap64 (Int.tdiv a 256)) 256 = a / 256 % 256 := by rw [Int.tdiv_eq_ediv_of_nonneg h0, w64 (by omega) (by omega), Int.tmod_eq_emod_of_nonneg (by omega)]
  have t4 : Int.tmod a 256 = a % 256 := Int.tmod_eq_emod_of_nonneg h0
  have L1 := (dT_len (a / 16777216)).2
  have L2 := (dT_len (a / 65536 % 256)).2
  have L3 := (dT_len (a / 256 % 256)).2
  have L4 := (dT_len (a % 256)).2
  have d1 : (⟨#[46]⟩ : ByteArray).size = 1 := rfl
  have dd : (⟨#[46]⟩ : ByteArray) = strOfNums [46] := by decide +kernel
  rw [trunklineref01_AddrText.f, t0, t1, t2, t3, t4, number_f _ (by omega) (by omega)]
  simp only [Option.bind_some]
  rw [if_pos (by omega), number_f _ (by omega) (by omega)]
  simp only [Option.bind_some]
  rw [if_pos (by simp only [ByteArray.size_append]; omega), if_pos (by simp only [ByteArray.size_append]; omega), number_f _ (by omega) (by omega)]
  simp only [Option.bind_some]
  rw [if_pos (by simp only [ByteArray.size_append]; omega), if_pos (by simp only [ByteArray.size_append]; omega), number_f _ (by omega) (by omega)]
  simp only [Option.bind_some]
  rw [if_pos (by simp only [ByteArray.size_append]; omega), e, dd]
  simp only [dT, strOf_append, textL, List.append_assoc, List.cons_append, List.nil_append]
theorem live_true : trunklinelaw01_live.f 12 = some true := by kernel_rfl
theorem OctetAddrs : ∀ (a0 : ByteArray) (a1 : Int), a0.size ≤ 140737488351232 → (Lit.int .u32 a1).wf = true → a0.size ≤ 1048576 → ∃ k, trunklinelaw01_OctetAddrs.f k a0 a1 = some true := by
  intro a0 a1 _ hw hs
  have ⟨w0, w1⟩ := wf_u32 hw
  obtain ⟨K, hK⟩ := text_f a1 w0 w1
  refine ⟨300 + 2 * a0.size + K, ?_⟩
  have hT : octet_AddrText.f (300 + 2 * a0.size + K) a1 = some (strOfNums (textL (bytesL a1 4))) := hK (300 + 2 * a0.size + K) (by omega)
  have hA : octet_Addr.f a0 = some (addrL (letters a0) 0 0 0 0 0) := by rw [octet_Addr.f, if_pos (by omega)]
  have hR := raddr_f a0 hs (300 + 2 * a0.size + K) (by omega)
  have hV : trunklinelaw01_live.f (300 + 2 * a0.size + K) = some true := up_ trunklinelaw01_live.mono (show 12 ≤ 300 + 2 * a0.size + K by omega) live_true
  rw [trunklinelaw01_OctetAddrs.f, hA, hR, hV, hT, rtext_f a1 w0 w1]
  simp
end Go.Proofs.YtndoankacnjhoaaDoor.Pure
