/-
  Small lemmas beside the walks.
-/
import Derived.Test.YtmmogpcmpbkajaaI
import Derived.Test.YtmmogpcmpbkajaaP
namespace Go.XG
def Fiv (j : J) : Prop := (1 ≤ j.id ∧ j.id ≤ 1099511627776) ∧ (1 ≤ j.owner ∧ j.owner ≤ 1099511627776) ∧ (1 ≤ j.man ∧ j.man ≤ 1099511627776) ∧ (1 ≤ j.bay ∧ j.bay ≤ 1099511627776) ∧ (1 ≤ j.draft ∧ j.draft ≤ 1099511627776)
def fl (l : List Stack) : List Value := l.flatMap fun x => [.int .i64 x.1, .int .i64 x.2]
theorem fl_len : ∀ (l : List Stack), (fl l).length = l.length * 2
  | [] => rfl
  | x :: l => by
    have := fl_len l
    simp only [fl, List.flatMap_cons, List.length_append, List.length_cons, List.length_nil] at this ⊢
    omega
theorem fl_get : ∀ (l : List Stack) (k : Nat), k < l.length → (fl l)[k * 2]? = some (.int .i64 (gx l k)) ∧ (fl l)[k * 2 + 1]? = some (.int .i64 (gq l k))
  | x :: l, 0, _ => ⟨rfl, rfl⟩
  | x :: l, k + 1, h => by
    have := fl_get l k (by simpa using h)
    show (Value.int .i64 x.1 :: .int .i64 x.2 :: fl l)[(k + 1) * 2]? = _ ∧ (Value.int .i64 x.1 :: .int .i64 x.2 :: fl l)[(k + 1) * 2 + 1]? = _
    rw [show (k + 1) * 2 = k * 2 + 1 + 1 by omega, show k * 2 + 1 + 1 + 1 = (k * 2 + 1) + 1 + 1 by omega]
    simp only [List.getElem?_cons_succ]
    exact this
theorem fl_snoc (l : List Stack) (x : Stack) : fl (l ++ [x]) = fl l ++ [.int .i64 x.1, .int .i64 x.2] := by simp [fl]
def StksAt (H : Heap) (b off : Nat) (l : List Stack) : Prop :=
  ∀ k, k < l.length → cellAt H b (off + k * 2) = some (.int .i64 (gx l k)) ∧ cellAt H b (off + k * 2 + 1) = some (.int .i64 (gq l k))
def Stks (H : Heap) (a : Option Addr) (l : List Stack) : Prop := l.length = 0 ∨ ∃ b off, a = some ⟨b, off, none⟩ ∧ StksAt H b off l
section
variable {H H' : Heap} {a : Option Addr} {l : List Stack} {b off k : Nat}
theorem StksAt.ext (h : StksAt H b off l) (e : Ext H H') : StksAt H' b off l := fun k hk => ⟨cellAt_ext (h k hk).1 e, cellAt_ext (h k hk).2 e⟩
theorem Stks.ext (h : Stks H a l) (e : Ext H H') : Stks H' a l := by
  rcases h with h | ⟨b, off, h1, h2⟩
  · exact .inl h
  · exact .inr ⟨b, off, h1, h2.ext e⟩
theorem Stks.nil {a : Option Addr} : Stks H a [] := .inl rfl
theorem ld_stk (h : StksAt H b off l) (hk : k < l.length) : Ld H b (off + k * 2) true 2 (.agg #[.int .i64 (gx l k), .int .i64 (gq l k)]) :=
  ⟨[.int .i64 (gx l k), .int .i64 (gq l k)], rfl, rfl, fun j v hj => by
    have := h k hk
    match j, hj with
    | 0, hj => cases hj; exact this.1
    | 1, hj => cases hj; exact this.2⟩
theorem stks_row (h : Row H b off (fl l)) : StksAt H b off l := fun k hk => by
  obtain ⟨h1, h2⟩ := fl_get l k hk
  exact ⟨h _ _ h1, by rw [Nat.add_assoc]; exact h _ _ h2⟩
theorem own_stks {base t n c : Nat} (h : Own H base t 2 (.slice a n c) l.length (fl l)) : Stks H a l := by
  by_cases h0 : l.length = 0
  · exact .inl h0
  · obtain ⟨g, c', h1, h2, _⟩ := h.form (by omega)
    cases h1
    exact .inr ⟨_, _, rfl, stks_row h2⟩
end
theorem drop_eq {l m : List Stack} {k : Nat} (hl : k < l.length) (hm : k < m.length) (h : l = m ↔ l.drop k = m.drop k) : l = m ↔ (gx l k = gx m k ∧ gq l k = gq m k) ∧ l.drop (k + 1) = m.drop (k + 1) := by
  rw [h, drop_cons hl, drop_cons hm, List.cons.injEq, Prod.ext_iff]
theorem six_get (a b c d e f : Int) (k : Nat) (h : k < 6) : [Value.int .i64 a, .int .i64 b, .int .i64 c, .int .i64 d, .int .i64 e, .int .i64 f][k * 1]? = some (.int .i64 ([a, b, c, d, e, f].getD k 0)) := by
  match k, h with
  | 0, _ => rfl
  | 1, _ => rfl
  | 2, _ => rfl
  | 3, _ => rfl
  | 4, _ => rfl
  | 5, _ => rfl
theorem lasti {n : Nat} (h : 0 < n) : ((n : Int) - 1).toNat = n - 1 := by omega
theorem six_all {j : J} (h : ∀ i, i < 6 → 1 ≤ [j.id, j.owner, j.man, j.bay, j.draft, j.time].getD i 0 ∧ [j.id, j.owner, j.man, j.bay, j.draft, j.time].getD i 0 ≤ 1099511627776) : Six j :=
  ⟨h 0 (by omega), h 1 (by omega), h 2 (by omega), h 3 (by omega), h 4 (by omega), h 5 (by omega)⟩
theorem six_of {j : J} (h : Six j) (k : Nat) (hk : k < 6) : 1 ≤ [j.id, j.owner, j.man, j.bay, j.draft, j.time].getD k 0 ∧ [j.id, j.owner, j.man, j.bay, j.draft, j.time].getD k 0 ≤ 1099511627776 := by
  obtain ⟨h0, h1, h2, h3, h4, h5⟩ := h
  match k, hk with
  | 0, _ => exact h0
  | 1, _ => exact h1
  | 2, _ => exact h2
  | 3, _ => exact h3
  | 4, _ => exact h4
  | 5, _ => exact h5
theorem bv {a b : Bool} (h : a = b) : Value.bool a = .bool b := by rw [h]
theorem mask16 (a : Int) : bits2 .and .i64 a 65535 = a % 65536 := by
  have h1 : (BitVec.ofInt 64 (65535 : Int)).toNat = 2 ^ 16 - 1 := by decide
  have h2 : (BitVec.ofInt 64 a).toNat = (a % 18446744073709551616).toNat := by rw [BitVec.toNat_ofInt]; rfl
  have h4 : (BitVec.ofInt 64 a &&& BitVec.ofInt 64 65535).toNat = (a % 18446744073709551616).toNat % 2 ^ 16 := by
    rw [BitVec.toNat_and, h1, Nat.and_two_pow_sub_one_eq_mod, h2]
  show IntKind.i64.wrap (((BitVec.ofInt 64 a &&& BitVec.ofInt 64 65535).toNat : Nat) : Int) = _
  rw [h4]
  have h3 : (((a % 18446744073709551616).toNat % 2 ^ 16 : Nat) : Int) = a % 65536 := by omega
  rw [h3]
  exact fit_i64 (by omega)
theorem stks_res {H : Heap} {a a' : Option Addr} {j x : J} (h : Stks H a j.needs) (hk : x.needs.length = 0 ∨ x.needs = j.needs ∧ a' = a) : Stks H a' x.needs := by
  rcases hk with hk | ⟨h1, h2⟩
  · exact .inl hk
  · rw [h1, h2]; exact h
theorem len_res {a a' : Option Addr} {j x : J} {n : Nat} (h : j.needs.length < n) (hk : x.needs.length = 0 ∨ x.needs = j.needs ∧ a' = a) : x.needs.length < n := by
  rcases hk with hk | ⟨h1, h2⟩
  · omega
  · rw [h1]; exact h
end Go.XG
