/-
  Small lemmas beside the walks: what a round does to what is held.
-/
import Derived.Test.YtmmogpcmpbkajaaXh
import Derived.Test.YtmmogpcmpbkajaaPn
namespace Go.XG
open Go.Pen
variable {tB tR tQ : TypeId} {fW : FuncId}
def byte (b : UInt8) : Value := .int .u8 (b.toNat : Int)
theorem and127 (m : Nat) (h : m < 18446744073709551616) : bits2 .and .u64 (m : Int) 127 = ((m % 128 : Nat) : Int) := by
  rw [mask_u64 7 _ _ (by omega) (by omega) (by omega) (by decide)]
  omega
theorem or128_nat (x : Nat) (h : x < 128) : 128 ||| x = 128 + x := by
  have := Nat.two_pow_add_eq_or_of_lt (i := 7) h 1
  simpa using this.symm
theorem or128 (x : Nat) (h : x < 128) : bits2 .or .u8 128 (x : Int) = ((128 + x : Nat) : Int) := by
  rw [or_u8 _ _ (by omega) (by omega) (by omega) (by omega)]
  have := or128_nat x h
  simp only [Int.toNat_natCast]
  show ((128 ||| x : Nat) : Int) = _
  rw [this]
theorem shr7 (m : Nat) : (m : Int).fdiv (2 ^ min (7 : Int).toNat IntKind.u64.bits) = ((m / 128 : Nat) : Int) := by
  have : (2 : Int) ^ min (7 : Int).toNat IntKind.u64.bits = 128 := by decide
  rw [this, Int.fdiv_eq_ediv_of_nonneg _ (by omega)]
  omega
theorem byte_ofNat {x : Nat} (h : x < 256) : byte (UInt8.ofNat x) = .int .u8 (x : Int) := by
  unfold byte
  rw [UInt8.toNat_ofNat_of_lt' (by simpa using h)]
section
variable {H H1 H2 H3 : Heap} {b n m f : Nat} {vb v : Value} {p : List UInt8}
theorem next28 (h : 128 ≤ m) (hf : f + p.length = 9) (hm : m < 2 * 128 ^ f) (hmn : m ≤ n) (hp : p ++ Wf f m = W n) (hown : Own H1 H.size tB 1 vb p.length (p.map byte)) (hX : Ext H H1)
    (hN : New H1 H2 b [.int .u8 ((128 + m % 128 : Nat) : Int)] tB) (hO : Own H3 H.size tB 1 v (p.length + 1) (p.map byte ++ [.int .u8 ((128 + m % 128 : Nat) : Int)])) (hG : Gr vb.ownBlock H2 H3) :
    ∃ f', f' + (p ++ [UInt8.ofNat (128 + m % 128)]).length = 9 ∧ m / 128 < 2 * 128 ^ f' ∧ m / 128 ≤ n ∧ (p ++ [UInt8.ofNat (128 + m % 128)]) ++ Wf f' (m / 128) = W n ∧
      Own H3 H.size tB 1 v (p ++ [UInt8.ofNat (128 + m % 128)]).length ((p ++ [UInt8.ofNat (128 + m % 128)]).map byte) ∧ Ext H H3 := by
  obtain ⟨f', rfl, h2, h3⟩ := wf_step h hm
  refine ⟨f', by simp; omega, h2, by omega, by rw [← hp, h3]; simp, ?_, (hown.ext hN.ext).grown (hX.trans hN.ext) hG (Nat.le_refl _)⟩
  rw [List.map_append, List.map_cons, List.map_nil, byte_ofNat (by omega)]
  simpa using hO
theorem end28 (h : m < 128) (hp : p ++ Wf f m = W n) (hown : Own H1 H.size tB 1 vb p.length (p.map byte)) (hX : Ext H H1)
    (hN : New H1 H2 b [.int .u8 (m : Int)] tB) (hG : Gr vb.ownBlock H2 H3) : Value.string (bs (p ++ [UInt8.ofNat m])) = .string (bs (W n)) ∧ Ext H H3 := by
  refine ⟨by rw [← hp, wf_end _ _ h], (hown.ext hN.ext).grown (hX.trans hN.ext) hG (Nat.le_refl _)⟩
theorem row28 {g : Nat} (h : Row H g 0 (p.map byte ++ [.int .u8 (m : Int)])) (hm : m < 128) : Row H g 0 ((p ++ [UInt8.ofNat m]).map fun u => .int .u8 u.toNat) := by
  have e : (fun u : UInt8 => Value.int .u8 (u.toNat : Int)) = byte := rfl
  rw [e, List.map_append, List.map_cons, List.map_nil, byte_ofNat (by omega)]
  exact h
end
end Go.XG
namespace Go.XG
open Go.Pen
variable {tB tR tQ : TypeId} {fW : FuncId}
theorem and127b (x : UInt8) : bits2 .and .u8 (x.toNat : Int) 127 = ((x.toNat % 128 : Nat) : Int) := by
  have := x.toNat_lt
  rw [mask_u8 7 _ _ (by omega) (by omega) (by omega) (by decide)]
  omega
theorem sh31 (x : UInt8) (k : Nat) (hk : k ≤ 9) (h : k = 9 → x.toNat ≤ 1) : x.toNat % 128 * 128 ^ k + 128 ^ k ≤ 18446744073709551616 := by
  by_cases h9 : k = 9
  · subst h9
    have h1 := h rfl
    have e : (128 : Nat) ^ 9 = 9223372036854775808 := by decide
    rw [e]
    omega
  · have h8 : (128 : Nat) ^ k ≤ 128 ^ 8 := Nat.pow_le_pow_right (by omega) (by omega)
    have e8 : (128 : Nat) ^ 8 = 72057594037927936 := by decide
    have : x.toNat % 128 * 128 ^ k ≤ 127 * 128 ^ k := Nat.mul_le_mul_right _ (by omega)
    omega
theorem shl7 (x k : Nat) (h : x * 128 ^ k + 128 ^ k ≤ 18446744073709551616) : IntKind.u64.wrap ((x : Int) * 2 ^ min ((7 : Int) * (k : Int)).toNat IntKind.u64.bits) = ((x * 128 ^ k : Nat) : Int) := by
  have hp : 0 < 128 ^ k := Nat.pow_pos (by omega)
  have hk : k ≤ 9 := by
    rcases Nat.lt_or_ge k 10 with h' | h'
    · omega
    · have : (128 : Nat) ^ 10 ≤ 128 ^ k := Nat.pow_le_pow_right (by omega) h'
      have e : (128 : Nat) ^ 10 = 1180591620717411303424 := by decide
      omega
  have e1 : ((7 : Int) * (k : Int)).toNat = 7 * k := by omega
  have e2 : min (7 * k) IntKind.u64.bits = 7 * k := by
    show min (7 * k) 64 = 7 * k
    omega
  rw [e1, e2, show ((2 : Int) ^ (7 * k)) = ((128 ^ k : Nat) : Int) by rw [pow128]; simp, ← Int.natCast_mul]
  exact fit_u64 (by omega)
theorem or7 (a x k : Nat) (ha : a < 128 ^ k) (h : x * 128 ^ k + 128 ^ k ≤ 18446744073709551616) : bits2 .or .u64 (a : Int) ((x * 128 ^ k : Nat) : Int) = ((a + x * 128 ^ k : Nat) : Int) := by
  rw [or_u64 _ _ (by omega) (by omega) (by omega) (by omega)]
  simp only [Int.toNat_natCast]
  rw [Nat.or_comm, pow128 k, Nat.mul_comm x, ← Nat.two_pow_add_eq_or_of_lt (by rw [← pow128]; exact ha), Nat.add_comm]
theorem drop_getD {l : List UInt8} {k : Nat} (h : k < l.length) : l.drop k = l.getD k 0 :: l.drop (k + 1) := by
  rw [List.drop_eq_getElem_cons h]
  simp [h]
section
variable {H H' : Heap} {b k acc : Nat} {l : List UInt8}
theorem rd_at (hk : k < 10) (hkl : k < l.length) (hrd : rd (10 - k) k acc (l.drop k) = rdw l) : rdw l =
    if ((l.getD k 0).toNat = 0 ∧ 0 < k) ∨ (k = 9 ∧ 1 < (l.getD k 0).toNat) then none
    else if (l.getD k 0).toNat < 128 then some (acc + (l.getD k 0).toNat * 128 ^ k, l.drop (k + 1))
    else rd (10 - (k + 1)) (k + 1) (acc + ((l.getD k 0).toNat % 128) * 128 ^ k) (l.drop (k + 1)) := by
  rw [← hrd, drop_getD hkl, show 10 - k = (10 - (k + 1)) + 1 by omega, rd_cons]
theorem next31 (hk : k < 10) (hkl : k < l.length) (hc : ¬ (((l.getD k 0).toNat = 0 ∧ 0 < k) ∨ (k = 9 ∧ 1 < (l.getD k 0).toNat))) (ha : acc < 128 ^ k) (hrd : rd (10 - k) k acc (l.drop k) = rdw l) (hb : ¬ (l.getD k 0).toNat < 128) :
    k + 1 ≤ 10 ∧ k + 1 ≤ l.length ∧ acc + (l.getD k 0).toNat % 128 * 128 ^ k < 128 ^ (k + 1) ∧ rd (10 - (k + 1)) (k + 1) (acc + (l.getD k 0).toNat % 128 * 128 ^ k) (l.drop (k + 1)) = rdw l ∧ H = H := by
  refine ⟨by omega, by omega, ?_, ?_, rfl⟩
  · have : (l.getD k 0).toNat % 128 * 128 ^ k ≤ 127 * 128 ^ k := Nat.mul_le_mul_right _ (by omega)
    rw [Nat.pow_succ]; omega
  · rw [rd_at hk hkl hrd, if_neg hc, if_neg hb]
theorem ok31 {d : Nat} (hk : k < 10) (hkl : k < l.length) (hc : ¬ (((l.getD k 0).toNat = 0 ∧ 0 < k) ∨ (k = 9 ∧ 1 < (l.getD k 0).toNat))) (_ : acc < 128 ^ k) (hrd : rd (10 - k) k acc (l.drop k) = rdw l) (hb : (l.getD k 0).toNat < 128) (hd : d = k + 1)
    (hU : Upd H H' b [.string (bs ((l.take l.length).drop d)), .bool false, .bool true] tR) :
    ∃ n ok l' bad', wordS (l, false) = (n, ok, (l', bad')) ∧ n < 18446744073709551616 ∧ Value.tuple #[.int .u64 ((acc + (l.getD k 0).toNat % 128 * 128 ^ k : Nat) : Int), .bool true] = .tuple #[.int .u64 (n : Nat), .bool ok] ∧ Upd H H' b [.string (bs l'), .bool bad', .bool true] tR := by
  subst hd
  have h : rdw l = some (acc + (l.getD k 0).toNat % 128 * 128 ^ k, l.drop (k + 1)) := by
    rw [rd_at hk hkl hrd, if_neg hc, if_pos hb, Nat.mod_eq_of_lt hb]
  rw [List.take_length] at hU
  refine ⟨_, true, _, false, by simp [wordS, h], ?_, rfl, hU⟩
  exact (rd_bound 10 0 0 l _ _ rfl (by decide) h).1
theorem no31 (hk : k < 10) (hkl : k < l.length) (hrd : rd (10 - k) k acc (l.drop k) = rdw l) (hc : ((l.getD k 0).toNat = 0 ∧ 0 < k) ∨ (k = 9 ∧ 1 < (l.getD k 0).toNat)) : wordS (l, false) = (0, false, (l, true)) := by
  have : rdw l = none := by rw [rd_at hk hkl hrd, if_pos hc]
  simp [wordS, this]
theorem no31e (hk : k = 10 ∨ k = l.length) (_ : True) (hrd : rd (10 - k) k acc (l.drop k) = rdw l) : wordS (l, false) = (0, false, (l, true)) := by
  have : rdw l = none := by
    rw [← hrd]
    apply rd_end
    rcases hk with h | h
    · left; omega
    · right; subst h; simp
  simp [wordS, this]
end
theorem xor_u64 (a b : Int) (h0 : 0 ≤ a) (h : a < 18446744073709551616) (h0' : 0 ≤ b) (h' : b < 18446744073709551616) : bits2 .xor .u64 a b = ((a.toNat ^^^ b.toNat : Nat) : Int) := by
  have hx : a.toNat ^^^ b.toNat < 2 ^ 64 := Nat.xor_lt_two_pow (by omega) (by omega)
  show IntKind.u64.wrap ((BitVec.ofInt 64 a ^^^ BitVec.ofInt 64 b).toNat : Int) = _
  rw [BitVec.toNat_xor, ofInt_toNat 64 a h0 (by omega), ofInt_toNat 64 b h0' (by omega)]
  exact fit_u64 (by omega)
theorem xor_ones (a : Nat) (h : a < 18446744073709551616) : a ^^^ 18446744073709551615 = 18446744073709551615 - a := by
  have h1 : (BitVec.ofNat 64 a ^^^ BitVec.allOnes 64) = ~~~ BitVec.ofNat 64 a := BitVec.xor_allOnes
  have h2 := congrArg BitVec.toNat h1
  rw [BitVec.toNat_xor, BitVec.toNat_not, BitVec.toNat_ofNat, BitVec.toNat_allOnes, Nat.mod_eq_of_lt (by omega)] at h2
  simpa using h2
theorem wrap_u64 (n : Int) : IntKind.u64.wrap n = n % 18446744073709551616 := rfl
theorem zig_eq (n : Int) (hl : -9223372036854775808 ≤ n) (hn : n < 9223372036854775808) :
    bits2 .xor .u64 (IntKind.u64.wrap (IntKind.u64.wrap n * 2 ^ min (1 : Int).toNat IntKind.u64.bits)) (IntKind.u64.wrap (n.fdiv (2 ^ min (63 : Int).toNat IntKind.i64.bits))) = ((zig n : Nat) : Int) := by
  have e1 : (2 : Int) ^ min (1 : Int).toNat IntKind.u64.bits = 2 := by decide
  have e2 : (2 : Int) ^ min (63 : Int).toNat IntKind.i64.bits = 9223372036854775808 := by decide
  rw [e1, e2, wrap_u64, wrap_u64, wrap_u64, Int.fdiv_eq_ediv_of_nonneg _ (by omega)]
  by_cases h : 0 ≤ n
  · have : n / 9223372036854775808 = 0 := by omega
    rw [this, show (0 : Int) % 18446744073709551616 = 0 by decide]
    rw [xor_u64 _ _ (by omega) (by omega) (by omega) (by omega)]
    simp only [Int.toNat_zero, Nat.xor_zero, zig, if_pos h]
    omega
  · have : n / 9223372036854775808 = -1 := by omega
    rw [this, show (-1 : Int) % 18446744073709551616 = 18446744073709551615 by decide]
    rw [xor_u64 _ _ (by omega) (by omega) (by omega) (by omega)]
    rw [show (18446744073709551615 : Int).toNat = 18446744073709551615 by decide, xor_ones _ (by omega)]
    simp only [zig, if_neg h]
    omega
theorem r29 {H : Heap} {b m : Nat} (h : Blk H b [.int .u8 (m : Int)] tB) (hm : m < 256) : Row H b 0 ([UInt8.ofNat m].map fun u => .int .u8 u.toNat) := by
  have e : (fun u : UInt8 => Value.int .u8 (u.toNat : Int)) = byte := rfl
  rw [e, List.map_cons, List.map_nil, byte_ofNat hm]
  exact h.row
theorem c128 (n : Nat) : IntKind.u8.wrap (128 + (n : Int).tmod 128) = ((128 + n % 128 : Nat) : Int) := by
  rw [tmod128, fit_u8 (by omega)]; omega
theorem p29c {P : Program} {O : Outer} {H : Heap} {n : Nat} {R : Value → Heap → Prop} (h : FnC P fW #[.int .u64 ((n / 128 : Nat) : Int)] O H R) : FnC P fW #[.int .u64 ((n : Int).tdiv 128)] O H R := by
  rw [tdiv128]; exact h
theorem shr1 (m : Nat) : (m : Int).fdiv (2 ^ min (1 : Int).toNat IntKind.u64.bits) = ((m / 2 : Nat) : Int) := by
  have : (2 : Int) ^ min (1 : Int).toNat IntKind.u64.bits = 2 := by decide
  rw [this, Int.fdiv_eq_ediv_of_nonneg _ (by omega)]
  omega
theorem and1 (m : Nat) (h : m < 18446744073709551616) : bits2 .and .u64 (m : Int) 1 = ((m % 2 : Nat) : Int) := by
  rw [mask_u64 1 _ _ (by omega) (by omega) (by omega) (by decide)]
  omega
theorem unzig_eq (n : Nat) (h : n < 18446744073709551616) : bits2 .xor .i64 ((n / 2 : Nat) : Int) (-((n % 2 : Nat) : Int)) = unzig n := by
  have hx : n / 2 < 9223372036854775808 := by omega
  show IntKind.i64.wrap ((BitVec.ofInt 64 ((n / 2 : Nat) : Int) ^^^ BitVec.ofInt 64 (-((n % 2 : Nat) : Int))).toNat : Int) = _
  rw [BitVec.toNat_xor, ofInt_toNat 64 _ (by omega) (by omega)]
  by_cases h2 : n % 2 = 0
  · rw [h2]
    have : (BitVec.ofInt 64 (-((0 : Nat) : Int))).toNat = 0 := by decide
    rw [this, Nat.xor_zero, Int.toNat_natCast]
    unfold unzig
    rw [if_pos h2]
    exact fit_i64 (by omega)
  · have h1 : n % 2 = 1 := by omega
    rw [h1]
    have : (BitVec.ofInt 64 (-((1 : Nat) : Int))).toNat = 18446744073709551615 := by decide
    rw [this, Int.toNat_natCast, xor_ones _ (by omega)]
    unfold unzig
    rw [if_neg h2, IntKind.wrap_i64]
    omega
section
variable {H H' : Heap} {b i k acc : Nat} {s l : List UInt8} {bad : Bool}
theorem gd33 (s : List UInt8) (i k : Nat) : s.getD ((i : Int) + (k : Int)).toNat 0 = (s.drop i).getD k 0 := by
  have : ((i : Int) + (k : Int)).toNat = i + k := by omega
  rw [this]
  simp [List.getD_eq_getElem?_getD, List.getElem?_drop]
theorem add33 (a x k : Nat) (ha : a < 128 ^ k) (h : x * 128 ^ k + 128 ^ k ≤ 18446744073709551616) : IntKind.u64.wrap ((a : Int) + ((x * 128 ^ k : Nat) : Int)) = ((a + x * 128 ^ k : Nat) : Int) := by
  rw [fit_u64 (by omega)]; omega
theorem next33 (hk : k < 10) (hkl : i + k < s.length) (hc : ¬ ((((s.drop i).getD k 0).toNat = 0 ∧ 0 < k) ∨ (k = 9 ∧ 1 < ((s.drop i).getD k 0).toNat))) (ha : acc < 128 ^ k) (hrd : rd (10 - k) k acc ((s.drop i).drop k) = rdw (s.drop i)) (hb : ¬ ((s.drop i).getD k 0).toNat < 128) :
    k + 1 ≤ 10 ∧ i + (k + 1) ≤ s.length ∧ acc + ((s.drop i).getD k 0).toNat % 128 * 128 ^ k < 128 ^ (k + 1) ∧ rd (10 - (k + 1)) (k + 1) (acc + ((s.drop i).getD k 0).toNat % 128 * 128 ^ k) ((s.drop i).drop (k + 1)) = rdw (s.drop i) ∧ (false = true → k + 1 = 0) ∧ H = H := by
  have hdl : (s.drop i).length = s.length - i := by simp
  obtain ⟨h1, h2, h3, h4, _⟩ := next31 (H := H) (l := s.drop i) hk (by omega) hc ha hrd hb
  exact ⟨h1, by omega, h3, h4, (fun h => nomatch h), rfl⟩
theorem bad33 (hU : Upd H H' b [.string (bs s), .int .i64 (i : Nat), .bool true] tQ) (hi : i ≤ s.length) :
    ∃ n ok i' bad', wordS (s.drop i, true) = (n, ok, (s.drop i', bad')) ∧ bad' = !ok ∧ i' ≤ s.length ∧ n < 18446744073709551616 ∧ Value.int .u64 0 = .int .u64 (n : Nat) ∧ Upd H H' b [.string (bs s), .int .i64 (i' : Nat), .bool bad'] tQ :=
  ⟨0, false, i, true, rfl, rfl, hi, by decide, rfl, hU⟩
theorem no33 (hi : i ≤ s.length) (h : wordS (s.drop i, bad) = (0, false, (s.drop i, true))) (hU : Upd H H' b [.string (bs s), .int .i64 (i : Nat), .bool true] tQ) :
    ∃ n ok i' bad', wordS (s.drop i, bad) = (n, ok, (s.drop i', bad')) ∧ bad' = !ok ∧ i' ≤ s.length ∧ n < 18446744073709551616 ∧ Value.int .u64 0 = .int .u64 (n : Nat) ∧ Upd H H' b [.string (bs s), .int .i64 (i' : Nat), .bool bad'] tQ :=
  ⟨0, false, i, true, h, rfl, hi, by decide, rfl, hU⟩
theorem ok33 {d : Int} (hk : k < 10) (hkl : i + k < s.length) (hc : ¬ ((((s.drop i).getD k 0).toNat = 0 ∧ 0 < k) ∨ (k = 9 ∧ 1 < ((s.drop i).getD k 0).toNat))) (_ : acc < 128 ^ k) (hrd : rd (10 - k) k acc ((s.drop i).drop k) = rdw (s.drop i)) (hb : ((s.drop i).getD k 0).toNat < 128)
    (hU : Upd H H' b [.string (bs s), .int .i64 d, .bool false] tQ) (hd : d = ((i + (k + 1) : Nat) : Int)) :
    ∃ n ok i' bad', wordS (s.drop i, false) = (n, ok, (s.drop i', bad')) ∧ bad' = !ok ∧ i' ≤ s.length ∧ n < 18446744073709551616 ∧ Value.int .u64 ((acc + ((s.drop i).getD k 0).toNat % 128 * 128 ^ k : Nat) : Int) = .int .u64 (n : Nat) ∧ Upd H H' b [.string (bs s), .int .i64 (i' : Nat), .bool bad'] tQ := by
  subst hd
  have hdl : (s.drop i).length = s.length - i := by simp
  have h : rdw (s.drop i) = some (acc + ((s.drop i).getD k 0).toNat % 128 * 128 ^ k, (s.drop i).drop (k + 1)) := by
    rw [rd_at hk (by omega) hrd, if_neg hc, if_pos hb, Nat.mod_eq_of_lt hb]
  refine ⟨_, true, i + (k + 1), false, ?_, rfl, by omega, ?_, rfl, hU⟩
  · rw [List.drop_drop] at h
    simp only [wordS, h]; rfl
  · exact (rd_bound 10 0 0 _ _ _ rfl (by decide) h).1
end
theorem ub (x : UInt8) : 0 ≤ (x.toNat : Int) ∧ (x.toNat : Int) < 18446744073709551616 := by have := x.toNat_lt; omega
theorem tmod2 (n : Nat) : ((n : Int).tmod 2) = ((n % 2 : Nat) : Int) := by
  rw [Int.tmod_eq_emod_of_nonneg (by omega)]; omega
theorem quo2 (n : Nat) (h : n < 18446744073709551616) : IntKind.u64.wrap ((n : Int).tdiv 2) = ((n / 2 : Nat) : Int) := by
  rw [Int.tdiv_eq_ediv_of_nonneg (by omega), fit_u64 (by omega)]; omega
theorem tx20 (s : List UInt8) (i n : Nat) : (s.take ((i : Int) + (n : Int)).toNat).drop ((i : Int) + (n : Int) - (n : Int)).toNat = (s.drop i).take n := by
  have h1 : ((i : Int) + (n : Int)).toNat = i + n := by omega
  have h2 : ((i : Int) + (n : Int) - (n : Int)).toNat = i := by omega
  rw [h1, h2, List.drop_take]
  congr 1
  omega
/-- The acts, where the slice begins. -/
def ActsAt (H : Heap) (b off : Nat) (acts : List (Int × Int)) : Prop :=
  ∀ k, k < acts.length → cellAt H b (off + k * 2) = some (.int .i64 (acts.getD k (0, 0)).1) ∧ cellAt H b (off + k * 2 + 1) = some (.int .i64 (acts.getD k (0, 0)).2)
def IntsAt (H : Heap) (b off : Nat) (xs : List Int) : Prop := ∀ k, k < xs.length → cellAt H b (off + k * 1) = some (.int .i64 (xs.getD k 0))
def StrsAt (H : Heap) (b off : Nat) (ts : List (List UInt8)) : Prop := ∀ k, k < ts.length → cellAt H b (off + k * 1) = some (.string (bs (ts.getD k [])))
def I64s (xs : List Int) : Prop := ∀ k, k < xs.length → -9223372036854775808 ≤ xs.getD k 0 ∧ xs.getD k 0 < 9223372036854775808
theorem hr_enc {H : Heap} {b : Nat} {a c : List UInt8} (h : Blk H b [.string (bs a), .bool false, .bool true] tR) (e : a = c) : Blk H b [.string (bs c), .bool false, .bool true] tR := by rw [← e]; exact h
end Go.XG
