/-
  Rows that lie off a block.
-/
import Derived.Test.YtjlhjjjhblcokaaTm
namespace Go.XG
/-- Rows that lie off a block. -/
structure RowsO (H : Heap) (b : Nat) (a : Option Addr) (k : Nat) (l : List (List Int)) : Prop where
  rows : Rows H a k l
  off : ∀ g o, a = some ⟨g, o, none⟩ → 0 < l.length → g ≠ b
section
variable {H H1 : Heap} {a : Option Addr} {b k i j n : Nat} {l : List (List Int)} {cs : List Value} {t : TypeId}
theorem rowsAt_but {g o : Nat} (h : RowsAt H g o k l) (u : But b H H1) (hne : g ≠ b) : RowsAt H1 g o k l := fun i hi => (h i hi).but u hne
theorem RowsO.but (h : RowsO H b a k l) (u : But b H H1) : Rows H1 a k l := by
  refine ⟨h.rows.1, ?_⟩
  rcases h.rows.2 with h0 | ⟨g, o, h1, h2⟩
  · exact .inl h0
  · rcases Nat.eq_zero_or_pos l.length with h0 | h0
    · exact .inl h0
    · exact .inr ⟨g, o, h1, rowsAt_but h2 u (h.off g o h1 h0)⟩
theorem rowsO_new (h : Rows H a k l) (hk : 0 < k) (x : Ext H H1) (hb : H.size ≤ b) : RowsO H1 b a k l := by
  refine ⟨h.ext x, fun g o e h0 => ?_⟩
  rcases h.2 with h1 | ⟨g', o', h1, h2⟩
  · omega
  · rw [h1] at e; cases e
    have := rowsAt_lt h2 h.1 hk (by omega)
    omega
theorem Rows.at' (h : Rows H a k l) : ∃ ba off, 0 < l.length → a = some ⟨ba, off, none⟩ ∧ RowsAt H ba off k l := by
  rcases h.2 with h0 | ⟨ba, off, h1, h2⟩
  · exact ⟨0, 0, fun h => by omega⟩
  · exact ⟨ba, off, fun _ => ⟨h1, h2⟩⟩
theorem ld_rdr (h : RowsAt H b n k l) (hw : Wide k l) (hi : i < l.length) {m : Nat} (hj : j + m = k) : Ld H b (n + i * k + j) true m (.agg (ints ((gr l i).drop j)).toArray) :=
  ⟨ints ((gr l i).drop j), rfl, (List.length_map _).trans (by rw [List.length_drop, hw.get hi]; omega), fun x v hx => by
    have := h i hi (j + x) v (by
      simp only [ints, List.map_drop] at hx ⊢
      rw [List.getElem?_drop] at hx; exact hx)
    rw [← Nat.add_assoc] at this; exact this⟩
theorem ld_dr {r : List Int} {m : Nat} (h : Blk H b (ints r) t) (hr : r.length = k) (hm : 4 + m = k) : Ld H b 4 true m (.agg (ints (r.drop 4)).toArray) :=
  ⟨ints (r.drop 4), rfl, (List.length_map _).trans (by rw [List.length_drop, hr]; omega), fun x v hx => by
    have := h.row (4 + x) v (by
      simp only [ints, List.map_drop] at hx ⊢
      rw [List.getElem?_drop] at hx; exact hx)
    rwa [Nat.zero_add] at this⟩
theorem mem_put {l : List (List Int)} {r x : List Int} (h : x ∈ putR l r) : x ∈ l ∨ x = r := by
  unfold putR at h
  rcases List.mem_append.1 h with h | h
  · exact .inl (List.mem_of_mem_take h)
  · rcases List.mem_cons.1 h with h | h
    · exact .inr h
    · exact .inl (List.mem_of_mem_drop h)
end
end Go.XG
