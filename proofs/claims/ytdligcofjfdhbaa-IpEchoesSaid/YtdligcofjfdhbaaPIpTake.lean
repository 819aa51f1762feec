/- Packets taken: what ip.Take tells of a packet that was put, and of one of which a bit was turned, in plain Lean. -/
import Derived.Test.YtdligcofjfdhbaaPIpPut
import Derived.Test.YtdligcofjfdhbaaHIpTake
namespace Go.Proofs.Ytdligcofjfdhbaa.Pure
open Go.RowKit Go.Proofs.Ytdligcofjfdhbaa.M Go.Proofs.YtdligcofjfdhbaaW.PrintWords Go.Proofs.YtdligcofjfdhbaaW.PrintLast Go.Proofs.YtdligcofjfdhbaaW.PrintMore
set_option linter.unusedVariables false
set_option linter.unusedSimpArgs false

theorem sum2 {s : Int} (h0 : 0 ≤ s) (h1 : s ≤ 65535) : sumT true (bytesL s 2) = s := by
  simp [bytesL, sumT]; omega
theorem net_zero (A E : List Int) (hA : A.length % 2 = 0) (hAr : ∀ x ∈ A, 0 ≤ x ∧ x ≤ 255) (hEr : ∀ x ∈ E, 0 ≤ x ∧ x ≤ 255) : sumT true (A ++ (bytesL (netS (A ++ E)) 2 ++ E)) % 65535 = 0 ∧ 0 < sumT true (A ++ (bytesL (netS (A ++ E)) 2 ++ E)) := by
  have hn := netS_range (A ++ E)
  have a0 := sumT_nonneg A true hAr
  have e0 := sumT_nonneg E true hEr
  rw [sumT_even _ _ hA, sumT_even _ _ (by rw [bytesL_length]), sum2 hn.1 hn.2]
  unfold netS
  rw [sumT_even _ _ hA]
  unfold red
  split
  · omega
  · omega
theorem netS_of {l : List Int} (h : sumT true l % 65535 = 0 ∧ 0 < sumT true l) : netS l = 0 := by
  unfold netS red; rw [if_neg (by omega)]; omega
theorem netS_ne {l : List Int} (h : sumT true l % 65535 ≠ 0) : netS l ≠ 0 := by
  unfold netS red; split <;> omega

/-- A packet's bytes. -/
def pktL (len id w ttl proto s src dst : Int) (body : List Int) : List Int := [69, 0] ++ (bytesL (20 + len) 2 ++ (bytesL id 2 ++ (bytesL w 2 ++ ([ttl] ++ ([proto] ++ (bytesL s 2 ++ (bytesL src 4 ++ (bytesL dst 4 ++ body))))))))
theorem headA_eq (len id w ttl proto : Int) (h1 : 0 ≤ ttl ∧ ttl ≤ 255) (h2 : 0 ≤ proto ∧ proto ≤ 255) : headA len id w ttl proto = [69, 0] ++ (bytesL (20 + len) 2 ++ (bytesL id 2 ++ (bytesL w 2 ++ ([ttl] ++ [proto])))) := by
  have e1 : bytesL ttl 1 = [ttl] := by simp [bytesL]; omega
  have e2 : bytesL proto 1 = [proto] := by simp [bytesL]; omega
  have e3 : bytesL 17664 2 = [69, 0] := by decide
  simp only [headA, e1, e2, e3]
theorem pkt_eq (len id w ttl proto s src dst : Int) (body : List Int) (h1 : 0 ≤ ttl ∧ ttl ≤ 255) (h2 : 0 ≤ proto ∧ proto ≤ 255) : headA len id w ttl proto ++ (bytesL s 2 ++ (headE src dst ++ body)) = pktL len id w ttl proto s src dst body := by
  rw [headA_eq _ _ _ _ _ h1 h2]
  simp only [headE, pktL, List.append_assoc]
theorem seg (X Y Z : List Int) (a n : Nat) (h1 : X.length = a) (h2 : Y.length = n) : ((X ++ (Y ++ Z)).drop a).take n = Y := by
  subst h1 h2; simp
theorem rd_seg (X Z : List Int) (y : Int) (n : Nat) (h : X.length = n) : rd (X ++ (y :: Z)) (n : Int) = y := by
  subst h; simp [rd, List.getD]
theorem num2 {v : Int} (h0 : 0 ≤ v) (h1 : v ≤ 65535) : numL 0 (bytesL v 2) = v := numL_bytesL 2 v h0 (by omega)
theorem num4 {v : Int} (h0 : 0 ≤ v) (h1 : v ≤ 4294967295) : numL 0 (bytesL v 4) = v := numL_bytesL 4 v h0 (by omega)
theorem numS_seg (X Y Z : List Int) (a n : Int) (h1 : (X.length : Int) = a) (h2 : (Y.length : Int) = n) (h3 : 1 ≤ n) (h4 : n ≤ 8) : numS (X ++ (Y ++ Z)) a n = (numL 0 Y, 0) := by
  unfold numS
  rw [if_pos ⟨h3, h4⟩, if_pos (by simp; omega), if_pos (by simp; omega), seg X Y Z a.toNat n.toNat (by omega) (by omega)]

theorem and_bit (x i : Nat) (hx : x < 65536) (hi : i < 16) : Go.bits .and .i64 (x : Int) ((2 ^ i : Nat) : Int) = if x / 2 ^ i % 2 = 1 then ((2 ^ i : Nat) : Int) else 0 := by
  have h2 : 2 ^ i < 65536 := Nat.pow_lt_pow_right (by decide) hi
  have hk : ∀ n : Int, 0 ≤ n → n < 2 ^ 16 → IntKind.i64.wrap n = n := fun n h0 h1 => by
    rw [Go.IntKind.wrap_i64]; omega
  have h := (Go.bits_nat .i64 16 (by decide) hk x (2 ^ i) (by omega) (by omega)).1
  have e : x &&& 2 ^ i = if x.testBit i then 2 ^ i else 0 := by
    apply Nat.eq_of_testBit_eq
    intro j
    rw [Nat.testBit_and, Nat.testBit_two_pow]
    by_cases q : i = j
    · subst q
      cases hx : x.testBit i <;> simp [Nat.testBit_two_pow]
    · split <;> simp [q, Nat.testBit_two_pow]
  rw [h, e, Nat.testBit_eq_decide_div_mod_eq]
  by_cases c : x / 2 ^ i % 2 = 1
  · simp [c]
  · simp [c]
theorem and_dont {x : Int} (h0 : 0 ≤ x) (h1 : x ≤ 65535) : Go.bits .and .i64 x 16384 = if x / 16384 % 2 = 1 then 16384 else 0 := by
  obtain ⟨n, rfl⟩ := Int.eq_ofNat_of_zero_le h0
  have h : Go.bits .and .i64 (n : Int) 16384 = if n / 16384 % 2 = 1 then (16384 : Int) else 0 := and_bit n 14 (by omega) (by decide)
  rw [h]; split <;> split <;> omega
theorem and_more {x : Int} (h0 : 0 ≤ x) (h1 : x ≤ 65535) : Go.bits .and .i64 x 8192 = if x / 8192 % 2 = 1 then 8192 else 0 := by
  obtain ⟨n, rfl⟩ := Int.eq_ofNat_of_zero_le h0
  have h : Go.bits .and .i64 (n : Int) 8192 = if n / 8192 % 2 = 1 then (8192 : Int) else 0 := and_bit n 13 (by omega) (by decide)
  rw [h]; split <;> split <;> omega
theorem and_odd {x : Int} (h0 : 0 ≤ x) (h1 : x ≤ 65535) : Go.bits .and .i64 x 32768 = if x / 32768 % 2 = 1 then 32768 else 0 := by
  obtain ⟨n, rfl⟩ := Int.eq_ofNat_of_zero_le h0
  have h : Go.bits .and .i64 (n : Int) 32768 = if n / 32768 % 2 = 1 then (32768 : Int) else 0 := and_bit n 15 (by omega) (by decide)
  rw [h]; split <;> split <;> omega
theorem and_off {x : Int} (h0 : 0 ≤ x) (h1 : x ≤ 65535) : Go.bits .and .i64 x 8191 = x % 8192 :=
  Go.bits_mask .i64 16 (by decide) (fun n h0 h1 => by rw [Go.IntKind.wrap_i64]; omega) 13 (by decide) x h0 (by omega)
theorem clone_t (l : List Int) (h : l.length < 140737488355328) : slices_Clone_byte_byte.f l = some l := by
  unfold slices_Clone_byte_byte.f; rw [if_pos h]
theorem words5 {x : Int} (h : x = 69) : wrap64 (4 * wrap64 (Go.bits .and .u8 x 15)) = 20 := by
  have e : Go.bits .and .u8 69 15 = 69 % 16 := Go.u8_and15 69 (by decide) (by decide)
  rw [h, e]; unfold wrap64; omega

theorem take_gen (k : Nat) (L body : List Int) (v1 v3 v4 v5 v6 e1 e3 e4 e5 e6 a : Int) (h20 : ¬ (L.length : Int) < 20) (hn1 : octet_Num.f k L 2 2 = some (v1, e1)) (r0 : rd L 0 / 16 = 4) (W : wrap64 (4 * wrap64 (Go.bits .and .u8 (rd L 0) 15)) = 20) (ha : wrap64 v1 = a) (h1 : ¬ a < 20) (h2 : ¬ (L.length : Int) < a) (hnet : sums_Net.f k (L.take (20 : Int).toNat) = some 0)
    (hn3 : octet_Num.f k L 6 2 = some (v3, e3)) (hn4 : octet_Num.f k L 12 4 = some (v4, e4)) (hn5 : octet_Num.f k L 16 4 = some (v5, e5)) (hn6 : octet_Num.f k L 4 2 = some (v6, e6)) (hc : slices_Clone_byte_byte.f ((L.take a.toNat).drop (20 : Int).toNat) = some body)
    (hmay : ip_may.f k (wrap64 v4 % 4294967296) (wrap64 v5 % 4294967296) (rd L 9) (rd L 8) (IntKind.u16.wrap (wrap64 v6)) (Go.bits .and .i64 (wrap64 v3) 16384 != 0) (Go.bits .and .i64 (wrap64 v3) 8192 != 0) (wrap64 (Go.bits .and .i64 (wrap64 v3) 8191 * 8)) body = some 0) (hodd : Go.bits .and .i64 (wrap64 v3) 32768 = 0) :
    ip_Take.f k L = some (wrap64 v4 % 4294967296, wrap64 v5 % 4294967296, rd L 9, rd L 8, IntKind.u16.wrap (wrap64 v6), Go.bits .and .i64 (wrap64 v3) 16384 != 0, Go.bits .and .i64 (wrap64 v3) 8192 != 0, wrap64 (Go.bits .and .i64 (wrap64 v3) 8191 * 8), body, 0) := by
  unfold ip_Take.f
  rw [if_neg h20, hn1, Option.bind_some]
  dsimp only
  rw [W, ha, if_pos r0, if_neg (by decide), if_neg (by omega), if_neg h1, if_neg h2, hnet, Option.bind_some, if_pos rfl, hn3, Option.bind_some, hn4, Option.bind_some, hn5, Option.bind_some, hn6, Option.bind_some, hc, Option.bind_some]
  dsimp only
  rw [hmay, Option.bind_some, if_pos hodd, if_neg (by decide), if_pos rfl]

/-- TAKE OF PUT IS THE PACKET, whatever stands behind. -/
theorem take_put (src dst proto ttl id : Int) (dont more : Bool) (off : Int) (body rest : List Int) (s1 : 0 ≤ src ∧ src ≤ 4294967295) (s2 : 0 ≤ dst ∧ dst ≤ 4294967295) (s3 : 0 ≤ proto ∧ proto ≤ 255) (s4 : 0 ≤ ttl ∧ ttl ≤ 255) (s5 : 0 ≤ id ∧ id ≤ 65535) (hb : ∀ x ∈ body, 0 ≤ x ∧ x ≤ 255) (hr : ∀ x ∈ rest, 0 ≤ x ∧ x ≤ 255) (hl : body.length + rest.length ≤ 140737488000000) (hm : mayS more off body.length = 0) {k : Nat} (hk : 60 ≤ k) :
    ip_Take.f k ((putS src dst proto ttl id dont more off body).1 ++ rest) = some (src, dst, proto, ttl, id, dont, more, off, body, 0) := by
  obtain ⟨m1, m2, m3, m4, m5⟩ := mayS_zero hm
  have hw := wordS_rng (dont := dont) (more := more) m1 m2
  have hA := headA_len body.length id (wordS off dont more) ttl proto
  have hE := headE_len src dst
  have hAr := headA_rng body.length id (wordS off dont more) ttl proto
  have hEr := headE_rng src dst
  have hz := net_zero _ _ (by rw [hA]) hAr hEr
  have hsr := netS_range (headA body.length id (wordS off dont more) ttl proto ++ headE src dst)
  have e0 : (putS src dst proto ttl id dont more off body).1 ++ rest = headA body.length id (wordS off dont more) ttl proto ++ (bytesL (sumP src dst proto ttl id dont more off body.length) 2 ++ (headE src dst ++ (body ++ rest))) := by
    unfold putS; rw [if_pos hm]; simp
  have hsp : sumP src dst proto ttl id dont more off body.length = netS (headA body.length id (wordS off dont more) ttl proto ++ headE src dst) := rfl
  rw [e0, hsp]
  generalize netS (headA body.length id (wordS off dont more) ttl proto ++ headE src dst) = s at hz hsr
  have hLr : ∀ x ∈ headA body.length id (wordS off dont more) ttl proto ++ (bytesL s 2 ++ (headE src dst ++ (body ++ rest))), 0 ≤ x ∧ x ≤ 255 := by
    intro x hx
    simp only [List.mem_append] at hx
    rcases hx with h | h | h | h | h
    · exact hAr x h
    · exact bytesL_range _ _ x h
    · exact hEr x h
    · exact hb x h
    · exact hr x h
  have hLl : (headA body.length id (wordS off dont more) ttl proto ++ (bytesL s 2 ++ (headE src dst ++ (body ++ rest)))).length = 20 + body.length + rest.length := by simp [bytesL_length]; omega
  have hhr : ∀ x ∈ headA body.length id (wordS off dont more) ttl proto ++ (bytesL s 2 ++ headE src dst), 0 ≤ x ∧ x ≤ 255 := by
    intro x hx
    simp only [List.mem_append] at hx
    rcases hx with h | h | h
    · exact hAr x h
    · exact bytesL_range _ _ x h
    · exact hEr x h
  have h20 : (headA body.length id (wordS off dont more) ttl proto ++ (bytesL s 2 ++ (headE src dst ++ (body ++ rest)))).take 20 = headA body.length id (wordS off dont more) ttl proto ++ (bytesL s 2 ++ headE src dst) := by
    rw [show headA body.length id (wordS off dont more) ttl proto ++ (bytesL s 2 ++ (headE src dst ++ (body ++ rest))) = (headA body.length id (wordS off dont more) ttl proto ++ (bytesL s 2 ++ headE src dst)) ++ (body ++ rest) by simp]
    exact List.take_left' (by simp [bytesL_length]; omega)
  have hbody : ((headA body.length id (wordS off dont more) ttl proto ++ (bytesL s 2 ++ (headE src dst ++ (body ++ rest)))).take (20 + (body.length : Int)).toNat).drop (20 : Int).toNat = body := by
    have e1 : (headA body.length id (wordS off dont more) ttl proto ++ (bytesL s 2 ++ (headE src dst ++ (body ++ rest)))).take (20 + (body.length : Int)).toNat = (headA body.length id (wordS off dont more) ttl proto ++ (bytesL s 2 ++ headE src dst)) ++ body := by
      rw [show headA body.length id (wordS off dont more) ttl proto ++ (bytesL s 2 ++ (headE src dst ++ (body ++ rest))) = ((headA body.length id (wordS off dont more) ttl proto ++ (bytesL s 2 ++ headE src dst)) ++ body) ++ rest by simp]
      exact List.take_left' (by simp [bytesL_length]; omega)
    rw [e1]
    exact List.drop_left' (by simp [bytesL_length]; omega)
  have hN := netS_of hz
  have hnet : sums_Net.f k (headA body.length id (wordS off dont more) ttl proto ++ (bytesL s 2 ++ headE src dst)) = some 0 := by
    rw [net_f _ hhr (by simp [bytesL_length]; omega) (by simp [bytesL_length]; omega), hN]
  rw [pkt_eq _ _ _ _ _ _ _ _ _ s4 s3] at *
  generalize hL : pktL body.length id (wordS off dont more) ttl proto s src dst (body ++ rest) = L at *
  have n1 : numS L 2 2 = (20 + (body.length : Int), 0) := by
    rw [← hL]
    have := numS_seg [69, 0] (bytesL (20 + body.length) 2) (bytesL id 2 ++ (bytesL (wordS off dont more) 2 ++ ([ttl] ++ ([proto] ++ (bytesL s 2 ++ (bytesL src 4 ++ (bytesL dst 4 ++ (body ++ rest)))))))) 2 2 (by rfl) (by rw [bytesL_length]; rfl) (by decide) (by decide)
    simpa only [pktL, List.append_assoc, num2 (v := 20 + (body.length : Int)) (by omega) (by omega)] using this
  have n4 : numS L 4 2 = (id, 0) := by
    rw [← hL]
    have := numS_seg ([69, 0] ++ bytesL (20 + body.length) 2) (bytesL id 2) (bytesL (wordS off dont more) 2 ++ ([ttl] ++ ([proto] ++ (bytesL s 2 ++ (bytesL src 4 ++ (bytesL dst 4 ++ (body ++ rest))))))) 4 2 (by simp [bytesL_length]) (by rw [bytesL_length]; rfl) (by decide) (by decide)
    simpa only [pktL, List.append_assoc, num2 s5.1 s5.2] using this
  have n6 : numS L 6 2 = (wordS off dont more, 0) := by
    rw [← hL]
    have := numS_seg ([69, 0] ++ (bytesL (20 + body.length) 2 ++ bytesL id 2)) (bytesL (wordS off dont more) 2) ([ttl] ++ ([proto] ++ (bytesL s 2 ++ (bytesL src 4 ++ (bytesL dst 4 ++ (body ++ rest)))))) 6 2 (by simp [bytesL_length]) (by rw [bytesL_length]; rfl) (by decide) (by decide)
    simpa only [pktL, List.append_assoc, num2 hw.1 hw.2] using this
  have n12 : numS L 12 4 = (src, 0) := by
    rw [← hL]
    have := numS_seg ([69, 0] ++ (bytesL (20 + body.length) 2 ++ (bytesL id 2 ++ (bytesL (wordS off dont more) 2 ++ ([ttl] ++ ([proto] ++ bytesL s 2)))))) (bytesL src 4) (bytesL dst 4 ++ (body ++ rest)) 12 4 (by simp [bytesL_length]) (by rw [bytesL_length]; rfl) (by decide) (by decide)
    simpa only [pktL, List.append_assoc, num4 s1.1 s1.2] using this
  have n16 : numS L 16 4 = (dst, 0) := by
    rw [← hL]
    have := numS_seg ([69, 0] ++ (bytesL (20 + body.length) 2 ++ (bytesL id 2 ++ (bytesL (wordS off dont more) 2 ++ ([ttl] ++ ([proto] ++ (bytesL s 2 ++ bytesL src 4))))))) (bytesL dst 4) (body ++ rest) 16 4 (by simp [bytesL_length]) (by rw [bytesL_length]; rfl) (by decide) (by decide)
    simpa only [pktL, List.append_assoc, num4 s2.1 s2.2] using this
  have r0 : rd L 0 = 69 := by rw [← hL]; rfl
  have r8 : rd L 8 = ttl := by
    rw [← hL]
    have := rd_seg ([69, 0] ++ (bytesL (20 + body.length) 2 ++ (bytesL id 2 ++ bytesL (wordS off dont more) 2))) ([proto] ++ (bytesL s 2 ++ (bytesL src 4 ++ (bytesL dst 4 ++ (body ++ rest))))) ttl 8 (by simp [bytesL_length])
    simpa [pktL] using this
  have r9 : rd L 9 = proto := by
    rw [← hL]
    have := rd_seg ([69, 0] ++ (bytesL (20 + body.length) 2 ++ (bytesL id 2 ++ (bytesL (wordS off dont more) 2 ++ [ttl])))) (bytesL s 2 ++ (bytesL src 4 ++ (bytesL dst 4 ++ (body ++ rest)))) proto 9 (by simp [bytesL_length])
    simpa [pktL] using this
  clear hL hz hsr hhr hAr hEr e0 hsp
  have hLi : (L.length : Int) = 20 + body.length + rest.length := by omega
  have W := words5 r0
  have w1 : wordS off dont more % 8192 * 8 = off := by unfold wordS; cases dont <;> cases more <;> simp <;> omega
  have w2 : ((if wordS off dont more / 16384 % 2 = 1 then (16384 : Int) else 0) != 0) = dont := by
    unfold wordS
    cases dont <;> cases more <;> simp <;> omega
  have w3 : ((if wordS off dont more / 8192 % 2 = 1 then (8192 : Int) else 0) != 0) = more := by
    unfold wordS
    cases dont <;> cases more <;> simp <;> omega
  have w4 : (if wordS off dont more / 32768 % 2 = 1 then (32768 : Int) else 0) = 0 := by
    unfold wordS
    cases dont <;> cases more <;> simp <;> omega
  have N1 := (num_f L 2 2 (by omega) hLr (by decide) (by decide) (k := k) (by omega)).trans (congrArg some n1)
  have N3 := (num_f L 6 2 (by omega) hLr (by decide) (by decide) (k := k) (by omega)).trans (congrArg some n6)
  have N4 := (num_f L 12 4 (by omega) hLr (by decide) (by decide) (k := k) (by omega)).trans (congrArg some n12)
  have N5 := (num_f L 16 4 (by omega) hLr (by decide) (by decide) (k := k) (by omega)).trans (congrArg some n16)
  have N6 := (num_f L 4 2 (by omega) hLr (by decide) (by decide) (k := k) (by omega)).trans (congrArg some n4)
  have x4 : wrap64 src % 4294967296 = src := by rw [w64 (by omega) (by omega)]; omega
  have x5 : wrap64 dst % 4294967296 = dst := by rw [w64 (by omega) (by omega)]; omega
  have x6 : IntKind.u16.wrap (wrap64 id) = id := by rw [w64 (by omega) (by omega), wrapu16]; omega
  have x3 : wrap64 (wordS off dont more) = wordS off dont more := w64 (by omega) (by omega)
  rw [← and_dont hw.1 hw.2] at w2
  rw [← and_more hw.1 hw.2] at w3
  rw [← and_odd hw.1 hw.2] at w4
  have w5 : wrap64 (Go.bits .and .i64 (wordS off dont more) 8191 * 8) = off := by rw [and_off hw.1 hw.2, w1, w64 (by omega) (by omega)]
  have G := take_gen k L body _ _ _ _ _ _ _ _ _ _ (20 + (body.length : Int)) (by omega) N1 (by rw [r0]; decide) W (w64 (by omega) (by omega)) (by omega) (by omega) (by rw [show (20 : Int).toNat = 20 from rfl, h20]; exact hnet) N3 N4 N5 N6 (by rw [hbody]; exact clone_t _ (by omega)) (by
    rw [x3, x4, x5, x6, w2, w3, w5, r8, r9, may_f src dst proto ttl id dont more off body (by omega) (by omega) (by omega), hm]) (by rw [x3]; exact w4)
  rw [x3, x4, x5, x6, w2, w3, w5, r8, r9] at G
  exact G

theorem sumT_set : ∀ (l : List Int) (e : Bool) (i : Nat) (y : Int) (h : i < l.length), sumT e (l.set i y) = sumT e l + (y - l[i]) * (if decide (i % 2 = 0) = e then 256 else 1)
  | [], e, i, y, h => by simp at h
  | x :: xs, true, 0, y, h => by simp [sumT]; omega
  | x :: xs, false, 0, y, h => by simp [sumT]; omega
  | x :: xs, true, i + 1, y, h => by
    have hx : i < xs.length := by simpa using h
    have ih := sumT_set xs false i y hx
    simp only [List.set_cons_succ, sumT, List.getElem_cons_succ, ih]
    by_cases c : i % 2 = 0
    · rw [decide_eq_true c, decide_eq_false (by omega)]; simp; omega
    · rw [decide_eq_false c, decide_eq_true (by omega)]; simp; omega
  | x :: xs, false, i + 1, y, h => by
    have hx : i < xs.length := by simpa using h
    have ih := sumT_set xs true i y hx
    simp only [List.set_cons_succ, sumT, List.getElem_cons_succ, ih]
    by_cases c : i % 2 = 0
    · rw [decide_eq_true c, decide_eq_false (by omega)]; simp; omega
    · rw [decide_eq_false c, decide_eq_true (by omega)]; simp; omega
theorem xor_bit : ∀ x : Fin 256, ∀ j : Fin 8, (x.val ^^^ 2 ^ j.val = x.val + 2 ^ j.val ∨ (x.val ^^^ 2 ^ j.val) + 2 ^ j.val = x.val) := by decide +kernel
theorem pow_j (j : Nat) (h : j < 8) : (2 ^ j : Nat) = 1 ∨ (2 ^ j : Nat) = 2 ∨ (2 ^ j : Nat) = 4 ∨ (2 ^ j : Nat) = 8 ∨ (2 ^ j : Nat) = 16 ∨ (2 ^ j : Nat) = 32 ∨ (2 ^ j : Nat) = 64 ∨ (2 ^ j : Nat) = 128 := by
  have H : ∀ j : Fin 8, (2 ^ j.val : Nat) = 1 ∨ (2 ^ j.val : Nat) = 2 ∨ (2 ^ j.val : Nat) = 4 ∨ (2 ^ j.val : Nat) = 8 ∨ (2 ^ j.val : Nat) = 16 ∨ (2 ^ j.val : Nat) = 32 ∨ (2 ^ j.val : Nat) = 64 ∨ (2 ^ j.val : Nat) = 128 := by decide
  exact H ⟨j, h⟩
/-- What a turned bit makes of a byte. -/
theorem turn_bit {x j : Int} (h0 : 0 ≤ x) (h1 : x ≤ 255) (j0 : 0 ≤ j) (j1 : j < 8) : ∃ p : Int, (p = 1 ∨ p = 2 ∨ p = 4 ∨ p = 8 ∨ p = 16 ∨ p = 32 ∨ p = 64 ∨ p = 128) ∧ 0 ≤ Go.bits .xor .u8 x (shl .u8 1 j) ∧ Go.bits .xor .u8 x (shl .u8 1 j) ≤ 255 ∧ (Go.bits .xor .u8 x (shl .u8 1 j) - x = p ∨ Go.bits .xor .u8 x (shl .u8 1 j) - x = -p) := by
  obtain ⟨a, rfl⟩ := Int.eq_ofNat_of_zero_le h0
  obtain ⟨b, rfl⟩ := Int.eq_ofNat_of_zero_le j0
  have hp := pow_j b (by omega)
  have e : shl .u8 1 (b : Int) = ((2 ^ b : Nat) : Int) := by
    unfold shl
    rw [Int.toNat_natCast, Nat.min_eq_left (by show b ≤ 8; omega), Go.IntKind.wrap_u8, Int.one_mul]
    have : ((2 : Int) ^ b) = ((2 ^ b : Nat) : Int) := by simp
    rw [this]; omega
  have hx := xor_bit ⟨a, by omega⟩ ⟨b, by omega⟩
  have hlt : a ^^^ 2 ^ b < 2 ^ 8 := Nat.xor_lt_two_pow (by omega) (by omega)
  rw [e, Go.u8_xor_nat a (2 ^ b) (by omega) (by omega)]
  refine ⟨((2 ^ b : Nat) : Int), by omega, by omega, by omega, ?_⟩
  simp only at hx
  omega
/-- A packet of whose head a byte became another: its sum is none. -/
theorem turn_sum (T p c : Int) (h : T % 65535 = 0) (hp : p = 1 ∨ p = 2 ∨ p = 4 ∨ p = 8 ∨ p = 16 ∨ p = 32 ∨ p = 64 ∨ p = 128) (d : Int) (hd : d = p ∨ d = -p) (hc : c = 256 ∨ c = 1) : (T + d * c) % 65535 ≠ 0 := by
  rcases hc with rfl | rfl <;> rcases hd with rfl | rfl <;> omega

/-- Bytes whose first is 69, and whose first twenty have a sum that is none, are not taken. -/
theorem take_bad (L : List Int) (hl : 20 ≤ L.length) (hl2 : L.length ≤ 140737488000000) (hr : ∀ x ∈ L, 0 ≤ x ∧ x ≤ 255) (r0 : rd L 0 = 69) (hs : netS (L.take 20) ≠ 0) {k : Nat} (hk : 60 ≤ k) : ∃ r, ip_Take.f k L = some r ∧ r.2.2.2.2.2.2.2.2.2 ≠ 0 := by
  have W := words5 r0
  unfold ip_Take.f
  rw [if_neg (by omega), num_f L 2 2 (by omega) hr (by decide) (by decide) (by omega)]
  simp only [Option.bind_some]
  rw [W, r0, if_pos (by decide), if_neg (by decide), if_neg (by omega)]
  by_cases h1 : wrap64 (numS L 2 2).1 < 20
  · rw [if_pos h1]; exact ⟨_, rfl, by decide⟩
  · rw [if_neg h1]
    by_cases h2 : (L.length : Int) < wrap64 (numS L 2 2).1
    · rw [if_pos h2]; exact ⟨_, rfl, by decide⟩
    · rw [if_neg h2, show (20 : Int).toNat = 20 from rfl, net_f (L.take 20) (fun x hx => hr x (List.mem_of_mem_take hx)) (by simp; omega) (by simp; omega)]
      simp only [Option.bind_some]
      rw [if_neg hs]
      exact ⟨_, rfl, by decide⟩

end Go.Proofs.Ytdligcofjfdhbaa.Pure
