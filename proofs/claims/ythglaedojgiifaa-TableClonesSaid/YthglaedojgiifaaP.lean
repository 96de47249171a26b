/-
  What acts make of a table; a table that is gone over while it is deleted; in plain Lean.
-/
import Derived.Test.YthglaedojgiifaaTm
namespace Go.XG
/-- An act: kind, value, key. -/
def actR (x : List (List Int)) (r : List Int) : List (List Int) :=
  if r.getD 0 0 = 1 then putR x (r.drop 2 ++ [r.getD 1 0]) else if r.getD 0 0 = 2 then delR x (r.drop 2) else x
def playR (L : List (List Int)) : List (List Int) := L.foldl actR []
section
variable {L x : List (List Int)} {r : List Int} {i : Nat}
theorem play_take (h : i < L.length) : playR (L.take (i + 1)) = actR (playR (L.take i)) (gr L i) := by
  unfold playR; rw [take_gr h, List.foldl_append]; rfl
theorem act_put (h : r.getD 0 0 = 1) : actR x r = putR x (r.drop 2 ++ [r.getD 1 0]) := if_pos h
theorem act_del (h : ¬ r.getD 0 0 = 1) (h' : r.getD 0 0 = 2) : actR x r = delR x (r.drop 2) := (if_neg h).trans (if_pos h')
theorem act_get (h : ¬ r.getD 0 0 = 1) (h' : ¬ r.getD 0 0 = 2) : actR x r = x := (if_neg h).trans (if_neg h')
theorem act_ok (hr : r.length = 6) (hw : Wide 5 x) (hs : Srt x) : Wide 5 (actR x r) ∧ Srt (actR x r) ∧ (actR x r).length ≤ x.length + 1 := by
  have hk : (r.drop 2).length = 4 := by simp [hr]
  unfold actR
  split
  · exact ⟨wide_put hw (by simp [hr]), srt_put hs hw (by decide) (by simp [hr]), put_len _ _⟩
  · split
    · exact ⟨wide_del hw, srt_del hs, Nat.le_succ_of_le (del_len _ _)⟩
    · exact ⟨hw, hs, Nat.le_succ _⟩
theorem play_ok (hw : Wide 6 L) : ∀ i, i ≤ L.length → Wide 5 (playR (L.take i)) ∧ Srt (playR (L.take i)) ∧ (playR (L.take i)).length ≤ i
  | 0, _ => ⟨wide_nil, srt_nil, Nat.le_refl _⟩
  | i + 1, h => by
    obtain ⟨h1, h2, h3⟩ := play_ok hw i (by omega)
    obtain ⟨h4, h5, h6⟩ := act_ok (hw.get (show i < L.length by omega)) h1 h2
    rw [play_take (by omega)]
    exact ⟨h4, h5, by omega⟩
theorem play_all (hw : Wide 6 L) : Wide 5 (playR L) ∧ Srt (playR L) ∧ (playR L).length ≤ L.length := by
  have := play_ok hw L.length (Nat.le_refl _)
  rwa [List.take_length] at this
end
/-- What is left of a table that is gone over, each pair deleted, and the first one behind it. -/
def goneR (l : List (List Int)) : Nat → List (List Int)
  | 0 => l
  | i + 1 => l.drop (i + 2)
section
variable {l : List (List Int)} {i : Nat}
theorem bel_first (hs : Srt l) (h : 0 < l.length) : bel l (ky (gr l 0)) = 0 := by
  match l, h with
  | r :: l, _ =>
    obtain ⟨h1, _⟩ := hs.cons
    unfold bel
    rw [List.length_eq_zero_iff, List.filter_eq_nil_iff]
    intro x hx
    have e : gr (r :: l) 0 = r := rfl
    rw [e]
    rcases List.mem_cons.1 hx with rfl | hx
    · rw [kcmp_self]; decide
    · have h2 := h1 x hx
      have h3 := kcmp_anti (ky r) (ky x)
      simp; omega
theorem del_first (hs : Srt l) (h : 0 < l.length) : delR l (ky (gr l 0)) = l.drop 1 := by
  have hh : hasK l (ky (gr l 0)) = true := by
    unfold hasK; rw [List.any_eq_true]
    exact ⟨gr l 0, by rw [gr_eq h]; exact List.getElem_mem _, by simp⟩
  rw [del_has hh, bel_first hs h]; simp
theorem srt_drop (hs : Srt l) (n : Nat) : Srt (l.drop n) := List.Pairwise.sublist (List.drop_sublist _ _) hs
theorem has_drop (hs : Srt l) (hi : i < l.length) {n : Nat} (hn : i < n) : hasK (l.drop n) (ky (gr l i)) = false := by
  unfold hasK
  rw [List.any_eq_false]
  intro x hx
  obtain ⟨j, hj, rfl⟩ := List.getElem_of_mem hx
  rw [List.getElem_drop]
  rw [List.length_drop] at hj
  have h1 := hs.get (show i < n + j by omega) (by omega)
  rw [gr_eq (show n + j < l.length by omega)] at h1
  simp only [decide_eq_true_eq]
  intro h2
  rw [h2, kcmp_self] at h1
  exact absurd h1 (by decide)
theorem gone_one (hs : Srt l) (hi : i < l.length) : delR (goneR l i) (ky (gr l i)) = l.drop (i + 1) := by
  cases i with
  | zero => exact del_first hs hi
  | succ i => exact del_no (has_drop hs hi (by omega))
theorem gone_two (hs : Srt l) (h : 0 < (l.drop (i + 1)).length) : delR (l.drop (i + 1)) (ky (gr (l.drop (i + 1)) 0)) = goneR l (i + 1) := by
  rw [del_first (srt_drop hs _) h, List.drop_drop]; rfl
theorem gone_none (h : ¬ 0 < (l.drop (i + 1)).length) : l.drop (i + 1) = goneR l (i + 1) := by
  show l.drop (i + 1) = l.drop (i + 2)
  rw [List.length_drop] at h
  rw [List.drop_of_length_le (by omega), List.drop_of_length_le (by omega)]
theorem gone_all : goneR l l.length = [] := by
  cases h : l.length with
  | zero => exact List.length_eq_zero_iff.1 h
  | succ n => exact List.drop_of_length_le (by omega)
theorem gone_ok (hs : Srt l) {m : Nat} (hw : Wide m l) : ∀ i, Srt (goneR l i) ∧ Wide m (goneR l i) ∧ (goneR l i).length ≤ l.length
  | 0 => ⟨hs, hw, Nat.le_refl _⟩
  | i + 1 => ⟨srt_drop hs _, hw.drop, by simp [goneR]⟩
end
/-- Rows that lie off a block. -/
structure RowsO (H : Heap) (b : Nat) (a : Option Addr) (k : Nat) (l : List (List Int)) : Prop where
  rows : Rows H a k l
  off : ∀ g o, a = some ⟨g, o, none⟩ → 0 < l.length → g ≠ b
section
variable {H H1 : Heap} {a : Option Addr} {b k i j n : Nat} {l : List (List Int)} {cs : List Value} {t : TypeId}
theorem rowsAt_but {g o : Nat} (h : RowsAt H g o k l) (u : But b H H1) (hne : g ≠ b) : RowsAt H1 g o k l := fun i hi => (h i hi).but u hne
theorem RowsO.but (h : RowsO H b a k l) (u : But b H H1) : Rows H1 a k l := by
  refine ⟨h.rows.1, ?_⟩
  rcases h.rows.2 with h0 | ⟨g, o, h1, h2⟩
  · exact .inl h0
  · rcases Nat.eq_zero_or_pos l.length with h0 | h0
    · exact .inl h0
    · exact .inr ⟨g, o, h1, rowsAt_but h2 u (h.off g o h1 h0)⟩
theorem rowsO_new (h : Rows H a k l) (hk : 0 < k) (x : Ext H H1) (hb : H.size ≤ b) : RowsO H1 b a k l := by
  refine ⟨h.ext x, fun g o e h0 => ?_⟩
  rcases h.2 with h1 | ⟨g', o', h1, h2⟩
  · omega
  · rw [h1] at e; cases e
    have := rowsAt_lt h2 h.1 hk (by omega)
    omega
theorem Rows.at' (h : Rows H a k l) : ∃ ba off, 0 < l.length → a = some ⟨ba, off, none⟩ ∧ RowsAt H ba off k l := by
  rcases h.2 with h0 | ⟨ba, off, h1, h2⟩
  · exact ⟨0, 0, fun h => by omega⟩
  · exact ⟨ba, off, fun _ => ⟨h1, h2⟩⟩
theorem ld_rdr (h : RowsAt H b n k l) (hw : Wide k l) (hi : i < l.length) {m : Nat} (hj : j + m = k) : Ld H b (n + i * k + j) true m (.agg (ints ((gr l i).drop j)).toArray) :=
  ⟨ints ((gr l i).drop j), rfl, (List.length_map _).trans (by rw [List.length_drop, hw.get hi]; omega), fun x v hx => by
    have := h i hi (j + x) v (by
      simp only [ints, List.map_drop] at hx ⊢
      rw [List.getElem?_drop] at hx; exact hx)
    rw [← Nat.add_assoc] at this; exact this⟩
end
end Go.XG
