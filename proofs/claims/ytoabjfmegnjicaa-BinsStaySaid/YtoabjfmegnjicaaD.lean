/-
  Stacks and acts in memory.
-/
import Derived.Test.YtoabjfmegnjicaaC
namespace Go.XG
/-- Stacks that lie off a block. -/
structure StksO (H : Heap) (p : Nat) (a : Option Addr) (l : List Stack) : Prop where
  st : Stks H a l
  off : ∀ g o, a = some ⟨g, o, none⟩ → 0 < l.length → g ≠ p
section
variable {H H1 : Heap} {a : Option Addr} {p b off n i : Nat} {l : List Stack} {t : TypeId} {cs : List Value}
theorem Stks.at' (h : Stks H a l) : ∃ ba off, 0 < l.length → a = some ⟨ba, off, none⟩ ∧ StksAt H ba off l := by
  rcases h with h0 | ⟨ba, off, h1, h2⟩
  · exact ⟨0, 0, fun h => by omega⟩
  · exact ⟨ba, off, fun _ => ⟨h1, h2⟩⟩
theorem StksAt.but (h : StksAt H b off l) (u : But p H H1) (hne : b ≠ p) : StksAt H1 b off l := fun k hk => ⟨cellAt_but (h k hk).1 u hne, cellAt_but (h k hk).2 u hne⟩
theorem StksO.but (h : StksO H p a l) (u : But p H H1) : Stks H1 a l := by
  rcases h.st with h0 | ⟨g, o, h1, h2⟩
  · exact .inl h0
  · rcases Nat.eq_zero_or_pos l.length with h0 | h0
    · exact .inl h0
    · exact .inr ⟨g, o, h1, h2.but u (h.off g o h1 h0)⟩
theorem StksO.butO (h : StksO H p a l) (u : But p H H1) : StksO H1 p a l := ⟨h.but u, h.off⟩
theorem StksO.ext (h : StksO H p a l) (e : Ext H H1) : StksO H1 p a l := ⟨h.st.ext e, h.off⟩
theorem stksAt_lt (h : StksAt H b off l) (h0 : 0 < l.length) : b < H.size := cellAt_lt (h 0 h0).1
theorem stksO_new (h : Stks H a l) (x : Ext H H1) (hp : H.size ≤ p) : StksO H1 p a l := by
  refine ⟨h.ext x, fun g o e h0 => ?_⟩
  rcases h with h1 | ⟨g', o', h1, h2⟩
  · omega
  · rw [h1] at e; cases e
    have := stksAt_lt h2 h0
    omega
/-- Acts in memory. -/
def ActsAt (H : Heap) (b off : Nat) (A : List BAct) : Prop := ∀ i, i < A.length → Row H b (off + i * 11) (acs (gA A i)) ∧ Stks H (gA A i).sa (gA A i).s
def Acts (H : Heap) (a : Option Addr) (A : List BAct) : Prop := A.length = 0 ∨ ∃ b off, a = some ⟨b, off, none⟩ ∧ ActsAt H b off A
variable {A : List BAct}
theorem row_ext {n : Nat} (h : Row H b n cs) (e : Ext H H1) : Row H1 b n cs := fun i v hv => cellAt_ext (h i v hv) e
theorem ActsAt.ext (h : ActsAt H b off A) (e : Ext H H1) : ActsAt H1 b off A := fun i hi => ⟨row_ext (h i hi).1 e, (h i hi).2.ext e⟩
theorem Acts.ext (h : Acts H a A) (e : Ext H H1) : Acts H1 a A := by
  rcases h with h | ⟨b, off, h1, h2⟩
  · exact .inl h
  · exact .inr ⟨b, off, h1, h2.ext e⟩
theorem Acts.at' (h : Acts H a A) : ∃ ba off, 0 < A.length → a = some ⟨ba, off, none⟩ ∧ ActsAt H ba off A := by
  rcases h with h0 | ⟨ba, off, h1, h2⟩
  · exact ⟨0, 0, fun h => by omega⟩
  · exact ⟨ba, off, fun _ => ⟨h1, h2⟩⟩
theorem ld_act (h : ActsAt H b off A) (hi : i < A.length) : Ld H b (off + i * 11) true 11 (.agg (acs (gA A i)).toArray) := ⟨acs (gA A i), rfl, rfl, fun j v hj => (h i hi).1 j v hj⟩
theorem ld_acell (h : ActsAt H b off A) (hi : i < A.length) {j : Nat} {v : Value} (hj : (acs (gA A i))[j]? = some v) : cellAt H b (off + i * 11 + j) = some v := (h i hi).1 j v hj
theorem Acts.stks (h : Acts H a A) (hi : i < A.length) : Stks H (gA A i).sa (gA A i).s := by
  rcases h with h | ⟨b, off, h1, h2⟩
  · omega
  · exact (h2 i hi).2
theorem row5 {r : List Int} (h : r.length = 5) : [(ky r).getD 0 0, (ky r).getD 1 0, (ky r).getD 2 0, (ky r).getD 3 0, r.getD 4 0] = r := by
  match r, h with
  | [a, b, c, d, e], _ => rfl
theorem five {r : List Int} (h : r.length = 5) : ∃ a b c d e, r = [a, b, c, d, e] := by
  match r, h with
  | [a, b, c, d, e], _ => exact ⟨_, _, _, _, _, rfl⟩
theorem fls_take {m : List (List Int)} (hw : Wide 5 m) (hi : i < m.length) : fl ((m.take (i + 1)).map stk) = fl ((m.take i).map stk) ++ [.int .i64 ((ky (gr m i)).getD 3 0), .int .i64 ((gr m i).getD 4 0)] := by
  rw [take_gr hi, List.map_append, List.map_singleton, fl_snoc]
  show _ ++ [Value.int .i64 ((gr m i).getD 3 0), Value.int .i64 ((gr m i).getD 4 0)] = _
  rw [ky3 (hw.get hi)]
end
end Go.XG
