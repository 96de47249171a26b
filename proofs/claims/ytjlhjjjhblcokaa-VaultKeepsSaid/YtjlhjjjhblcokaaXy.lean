/-
  XG, the frame: what came in that is flat: numbers, arrays and structs of numbers, slices of these.
-/
import Derived.Test.YtjlhjjjhblcokaaXz
import Derived.Test.YtjlhjjjhblcokaaR
namespace Go.XG
open Go.ChangeShapes Go.WideShapes Go.RowKit
def I64 (k : Int) : Prop := -9223372036854775808 ≤ k ∧ k < 9223372036854775808
class Flat (P : Program) (t : TypeId) (n : outParam Nat) : Prop where
  cells : P.cellsOf t = n
  h : ∀ {Hd : Type} {enc : TypeId × Value → Hd} {W : World} {fuel : Nat} {cs : List Value} {x : DataW Hd × List MemPlace}, DataW.trod enc P W 0 (fun _ => true) true fuel t cs = some x →
    ∃ ns : List Int, cs = ints ns ∧ ns.length = n ∧ ∀ k ∈ ns, I64 k
inductive FlatFs (P : Program) : Nat → List Field → Nat → Prop
  | nil (j : Nat) : FlatFs P j [] j
  | cons {f : Field} {fs : List Field} {j k n : Nat} (ho : f.offset = j) (hf : Flat P f.type k) (h : FlatFs P (j + k) fs n) : FlatFs P j (f :: fs) n
section
variable {P : Program} {t e : TypeId} {n k m : Nat}
theorem Flat.int (hu : P.underlying t = some (.int .i64)) (hc : P.cellsOf t = 1) : Flat P t 1 := ⟨hc, fun h => by
  obtain ⟨x, rfl, _, hw⟩ := DataW.trod_int hu h
  have := bounds_i64 hw
  exact ⟨[x], rfl, rfl, fun k hk => by simp at hk; subst hk; exact ⟨this.1, by omega⟩⟩⟩
theorem FlatFs.le {j : Nat} {fs : List Field} (h : FlatFs P j fs n) : j ≤ n := by
  induction h with
  | nil => exact Nat.le_refl _
  | cons _ _ _ ih => omega
theorem FlatFs.run {Hd : Type} {enc : TypeId × Value → Hd} {W : World} {cs : List Value} {j : Nat} {fs : List Field} (h : FlatFs P j fs n) (hl : cs.length = n)
    (hf : ∀ f ∈ fs, ∃ m y, DataW.trod enc P W 0 (fun _ => true) true m f.type ((cs.drop f.offset).take (P.cellsOf f.type)) = some y) :
    ∃ ns : List Int, cs.drop j = ints ns ∧ ns.length = n - j ∧ ∀ k ∈ ns, I64 k := by
  induction h with
  | nil j => exact ⟨[], by rw [List.drop_of_length_le (by omega)]; rfl, by simp, fun k hk => by cases hk⟩
  | @cons f fs j k n ho hF hr ih =>
    obtain ⟨ns2, h1, h2, h3⟩ := ih hl (fun g hg => hf g (List.mem_cons_of_mem _ hg))
    obtain ⟨m, y, hy⟩ := hf f (List.mem_cons_self ..)
    rw [ho, hF.cells] at hy
    obtain ⟨ns1, g1, g2, g3⟩ := hF.h hy
    have hle := hr.le
    refine ⟨ns1 ++ ns2, ?_, by simp [g2, h2]; omega, fun x hx => ?_⟩
    · have : cs.drop j = (cs.drop j).take k ++ (cs.drop j).drop k := (List.take_append_drop _ _).symm
      rw [this, g1, List.drop_drop, h1]
      simp [ints]
    · rcases List.mem_append.1 hx with hx | hx
      · exact g3 x hx
      · exact h3 x hx
theorem Flat.struct {fs : Array Field} (hu : P.underlying t = some (.struct fs)) (hF : FlatFs P 0 fs.toList n) (hc : P.cellsOf t = n) : Flat P t n := ⟨hc, fun {Hd enc W fuel cs x} h => by
  obtain ⟨xs, m, _, _, hl, hxl, hf⟩ := DataW.trod_struct hu h
  rw [hc] at hl
  have := hF.run (enc := enc) (W := W) hl (fun f hfm => by
    obtain ⟨i, hi, rfl⟩ := List.getElem_of_mem hfm
    have hi' : i < fs.size := by simpa using hi
    have := hf i fs[i] (Array.getElem?_eq_getElem hi')
    rw [List.getElem?_eq_getElem (by omega)] at this
    exact ⟨m, _, by simpa using this⟩)
  simpa using this⟩
theorem Flat.array (hu : P.underlying t = some (.array m e)) (he : Flat P e k) (hc : P.cellsOf t = m * k) : Flat P t (m * k) := ⟨hc, fun {Hd enc W fuel cs x} h => by
  obtain ⟨xs, q, _, _, hl, hxl, hf⟩ := DataW.trod_array hu h
  rw [hc] at hl
  rw [he.cells] at hf
  have key : ∀ r, r ≤ m → ∃ ns : List Int, cs.drop ((m - r) * k) = ints ns ∧ ns.length = r * k ∧ ∀ z ∈ ns, I64 z := by
    intro r
    induction r with
    | zero => intro _; exact ⟨[], by rw [List.drop_of_length_le (by rw [hl]; simp)]; rfl, by simp, fun z hz => by cases hz⟩
    | succ r ih =>
      intro hr
      obtain ⟨ns2, h1, h2, h3⟩ := ih (by omega)
      have hy := hf (m - (r + 1)) (by omega)
      rw [List.getElem?_eq_getElem (by omega)] at hy
      obtain ⟨ns1, g1, g2, g3⟩ := he.h hy
      have e1 : (m - r) * k = (m - (r + 1)) * k + k := by
        rw [show m - r = m - (r + 1) + 1 by omega, Nat.add_mul, Nat.one_mul]
      refine ⟨ns1 ++ ns2, ?_, by simp [g2, h2, Nat.add_mul]; omega, fun z hz => ?_⟩
      · have : cs.drop ((m - (r + 1)) * k) = (cs.drop ((m - (r + 1)) * k)).take k ++ (cs.drop ((m - (r + 1)) * k)).drop k := (List.take_append_drop _ _).symm
        rw [this, g1, List.drop_drop, ← e1, h1]
        simp [ints]
      · rcases List.mem_append.1 hz with hz | hz
        · exact g3 z hz
        · exact h3 z hz
  have := key m (Nat.le_refl _)
  simpa using this⟩
end
section
variable {P : Program} {Hd : Type} {enc : TypeId × Value → Hd} {W : World} {t e : TypeId} {k n m : Nat} {d : DataW Hd} {p : List MemPlace} {v : Value} {a : Option Addr}
theorem open_flat [hF : Flat P t n] (hn : n ≠ 1) (h : DataW.Trod enc P W 0 (fun _ => true) true t v d p) : ∃ ns : List Int, v = .agg (ints ns).toArray ∧ ns.length = n ∧ ∀ k ∈ ns, I64 k := by
  obtain ⟨fuel, h⟩ := h
  obtain ⟨ns, h1, h2, h3⟩ := hF.h h
  refine ⟨ns, ?_, h2, h3⟩
  have hlen : v.cells.size = n := by
    have := congrArg List.length h1
    simpa [ints, h2] using this
  cases v <;> simp [Value.cells] at h1 hlen <;> first | omega | skip
  rename_i cs
  rw [← h1]
theorem slice_flat [hF : Flat P e k] (ht : P.underlying t = some (.slice e)) (hk : 0 < k) (h : DataW.Trod enc P W 0 (fun _ => true) true t (.slice a n m) d p) :
    ∃ l : List (List Int), n = l.length ∧ Rows W.heap a k l ∧ n ≤ maxLen ∧ ∀ r ∈ l, ∀ x ∈ r, I64 x := by
  obtain ⟨hnm, hm, h0 | ⟨b, off, rfl, hi⟩⟩ := slice_cells ht hF.cells hk h
  · subst h0; exact ⟨[], rfl, ⟨fun r hr => (by cases hr), .inl rfl⟩, Nat.zero_le _, fun r hr => (by cases hr)⟩
  · obtain ⟨l, hl, hx⟩ := collect ([] : List Int) (R := fun i r => r.length = k ∧ Row W.heap b (off + i * k) (ints r) ∧ ∀ x ∈ r, I64 x) n (fun i hin => by
      obtain ⟨cs, fuel, y, h1, h2, h3⟩ := hi i hin
      obtain ⟨ns, rfl, g2, g3⟩ := hF.h h3
      exact ⟨ns, g2, h2, g3⟩)
    subst hl
    have hW : Wide k l := fun r hr => by
      obtain ⟨i, hi, rfl⟩ := List.getElem_of_mem hr
      have := (hx i hi).1
      rw [show l.getD i [] = l[i] by simp [hi]] at this
      exact this
    refine ⟨l, rfl, ⟨hW, .inr ⟨b, off, rfl, fun i hi => (hx i hi).2.1⟩⟩, Nat.le_trans hnm hm, fun r hr => ?_⟩
    obtain ⟨i, hi, rfl⟩ := List.getElem_of_mem hr
    have := (hx i hi).2.2
    rw [show l.getD i [] = l[i] by simp [hi]] at this
    exact this
theorem slice_form {cs : List Value} {fuel : Nat} {y : DataW Hd × List MemPlace} (ht : P.underlying t = some (.slice e)) (h : DataW.trod enc P W 0 (fun _ => true) true fuel t cs = some y) : ∃ a n m, cs = [.slice a n m] := by
  rcases Deep.open_slice ht h with ⟨hcs, _⟩ | ⟨_, _, _, _, _, _, _, hcs, _⟩
  · exact ⟨_, _, _, hcs⟩
  · exact ⟨_, _, _, hcs⟩
/-- Rows of two numbers, as pairs. -/
theorem rows_stks {H : Heap} {l : List (List Int)} (h : Rows H a 2 l) : ∃ s : List (Int × Int), s.length = l.length ∧ (s.length = 0 ∨ ∃ b off, a = some ⟨b, off, none⟩ ∧
    ∀ k, k < s.length → cellAt H b (off + k * 2) = some (.int .i64 (s.getD k (0, 0)).1) ∧ cellAt H b (off + k * 2 + 1) = some (.int .i64 (s.getD k (0, 0)).2)) := by
  refine ⟨l.map fun r => (r.getD 0 0, r.getD 1 0), by simp, ?_⟩
  rcases h.2 with h0 | ⟨b, off, h1, h2⟩
  · exact .inl (by simpa using h0)
  · refine .inr ⟨b, off, h1, fun k hk => ?_⟩
    have hk' : k < l.length := by simpa using hk
    have e : (l.map fun r => (r.getD 0 0, r.getD 1 0)).getD k (0, 0) = ((gr l k).getD 0 0, (gr l k).getD 1 0) := by simp [gr, hk']
    rw [e]
    exact ⟨ld_num (j := 0) h2 h.1 hk' (by omega), ld_num (j := 1) h2 h.1 hk' (by omega)⟩
end
end Go.XG
namespace Go.XG
theorem two_of {ns : List Int} (h : ns.length = 2) : ∃ x0 x1, ns = [x0, x1] := by
  match ns, h with
  | [x0, x1], _ => exact ⟨x0, x1, rfl⟩
theorem three_of {ns : List Int} (h : ns.length = 3) : ∃ x0 x1 x2, ns = [x0, x1, x2] := by
  match ns, h with
  | [x0, x1, x2], _ => exact ⟨x0, x1, x2, rfl⟩
theorem four_of {ns : List Int} (h : ns.length = 4) : ∃ x0 x1 x2 x3, ns = [x0, x1, x2, x3] := by
  match ns, h with
  | [x0, x1, x2, x3], _ => exact ⟨x0, x1, x2, x3, rfl⟩
end Go.XG
