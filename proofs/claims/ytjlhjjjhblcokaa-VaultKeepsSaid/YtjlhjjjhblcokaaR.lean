/-
  Rows of numbers in memory: a slice of structs of k numbers each.
-/
import Derived.Test.YtjlhjjjhblcokaaXf
namespace Go.XG
abbrev gr (l : List (List Int)) (i : Nat) : List Int := l.getD i []
def ints (r : List Int) : List Value := r.map (Value.int .i64)
def fr (l : List (List Int)) : List Value := l.flatMap ints
/-- Each row has k numbers. -/
def Wide (k : Nat) (l : List (List Int)) : Prop := ∀ r ∈ l, r.length = k
def RowsAt (H : Heap) (b off k : Nat) (l : List (List Int)) : Prop := ∀ i, i < l.length → Row H b (off + i * k) (ints (gr l i))
def Rows (H : Heap) (a : Option Addr) (k : Nat) (l : List (List Int)) : Prop := Wide k l ∧ (l.length = 0 ∨ ∃ b off, a = some ⟨b, off, none⟩ ∧ RowsAt H b off k l)
section
variable {H H' : Heap} {a : Option Addr} {l : List (List Int)} {b off k i : Nat}
theorem RowsAt.ext (h : RowsAt H b off k l) (e : Ext H H') : RowsAt H' b off k l := fun i hi => (h i hi).ext e
theorem Rows.ext (h : Rows H a k l) (e : Ext H H') : Rows H' a k l := by
  refine ⟨h.1, ?_⟩
  rcases h.2 with h | ⟨b, off, h1, h2⟩
  · exact .inl h
  · exact .inr ⟨b, off, h1, h2.ext e⟩
theorem Wide.get (h : Wide k l) (hi : i < l.length) : (gr l i).length = k := by
  have : gr l i = l[i] := by simp [gr, hi]
  rw [this]; exact h _ (List.getElem_mem hi)
/-- A whole row, loaded. -/
theorem ld_row' (h : RowsAt H b off k l) (hw : Wide k l) (hi : i < l.length) : Ld H b (off + i * k) true k (.agg (ints (gr l i)).toArray) :=
  ⟨ints (gr l i), rfl, (List.length_map _).trans (hw.get hi), h i hi⟩
/-- One number of a row, loaded. -/
theorem ld_num {j : Nat} (h : RowsAt H b off k l) (hw : Wide k l) (hi : i < l.length) (hj : j < k) : cellAt H b (off + i * k + j) = some (.int .i64 ((gr l i).getD j 0)) := by
  refine h i hi j _ ?_
  have hl := hw.get hi
  generalize gr l i = r at hl
  simp [ints, show j < r.length by omega]
theorem fr_len : ∀ {l : List (List Int)}, Wide k l → (fr l).length = l.length * k
  | [], _ => by simp [fr]
  | r :: l, h => by
    have := fr_len (l := l) (fun x hx => h x (by simp [hx]))
    have h1 : r.length = k := h r (by simp)
    simp only [fr, List.flatMap_cons, List.length_append, ints, List.length_map] at this ⊢
    rw [List.length_cons, Nat.add_mul]
    omega
theorem rows_row : ∀ {l : List (List Int)} {off : Nat}, Wide k l → Row H b off (fr l) → RowsAt H b off k l
  | [], _, _, _ => fun i hi => absurd hi (by simp)
  | r :: l, off, h, hr => fun i hi => by
    have h1 : r.length = k := h r (by simp)
    cases i with
    | zero =>
      intro j v hj
      have hj' : (ints r)[j]? = some v := hj
      have hlt := (List.getElem?_eq_some_iff.1 hj').1
      have := hr j v (by show (ints r ++ fr l)[j]? = _; rw [List.getElem?_append_left hlt]; exact hj')
      simpa using this
    | succ i =>
      have ih := rows_row (off := off + k) (l := l) (fun x hx => h x (by simp [hx])) (fun j v hj => by
        have := hr (k + j) v (by
          show (ints r ++ fr l)[k + j]? = _
          rw [List.getElem?_append_right (by simp [ints]; omega)]
          simpa [ints, h1] using hj)
        rw [Nat.add_assoc]; exact this) i (by simpa using hi)
      intro j v hj
      have := ih j v hj
      rw [show off + (i + 1) * k + j = off + k + i * k + j by rw [Nat.add_mul]; omega]
      exact this
theorem own_rows {base t n c : Nat} (hw : Wide k l) (h : Own H base t k (.slice a n c) l.length (fr l)) : Rows H a k l := by
  refine ⟨hw, ?_⟩
  by_cases h0 : l.length = 0
  · exact .inl h0
  · obtain ⟨g, c', h1, h2, _⟩ := h.form (by omega)
    cases h1
    exact .inr ⟨_, _, rfl, rows_row hw h2⟩
theorem blk_rows {cs : List Value} {t : TypeId} (hw : Wide k l) (h : Blk H b cs t) (hc : fr l = cs) : RowsAt H b 0 k l := rows_row hw (hc ▸ h.row)
end
theorem rows_drop {l m : List (List Int)} {k : Nat} (hl : k < l.length) (hm : k < m.length) (h : l = m ↔ l.drop k = m.drop k) : l = m ↔ gr l k = gr m k ∧ l.drop (k + 1) = m.drop (k + 1) := by
  rw [h, List.drop_eq_getElem_cons hl, List.drop_eq_getElem_cons hm, List.cons.injEq]
  simp [gr, hl, hm]
theorem setRange_at : ∀ (vs pre mid post : List Value), mid.length = vs.length → setRange (pre ++ (mid ++ post)) pre.length vs = pre ++ (vs ++ post)
  | [], pre, mid, post, h => by
    have : mid = [] := List.length_eq_zero_iff.1 (by simpa using h)
    subst this; rfl
  | v :: vs, pre, [], post, h => by simp at h
  | v :: vs, pre, m :: mid, post, h => by
    have := setRange_at vs (pre ++ [v]) mid post (by simpa using h)
    simp only [setRange, List.cons_append, List.set_append_right _ _ (Nat.le_refl _), Nat.sub_self, List.set_cons_zero]
    simpa using this
theorem fr_app (l m : List (List Int)) : fr (l ++ m) = fr l ++ fr m := by simp [fr]
/-- A row written over another one. -/
theorem fr_put {k : Nat} {pre post : List (List Int)} {r x : List Int} (hw : Wide k pre) (hr : r.length = k) (hx : x.length = k) :
    setRange (fr (pre ++ (x :: post))) (pre.length * k) (ints r) = fr (pre ++ (r :: post)) := by
  rw [fr_app, fr_app]
  have e1 : fr (x :: post) = ints x ++ fr post := rfl
  have e2 : fr (r :: post) = ints r ++ fr post := rfl
  rw [e1, e2, ← fr_len hw]
  exact setRange_at _ _ _ _ (by simp [ints, hr, hx])
theorem fr_put2 {k : Nat} {pre post : List (List Int)} {r x : List Int} {ex : List Value} (hw : Wide k pre) (hr : r.length = k) (hx : x.length = k) :
    setRange (fr (pre ++ (x :: post)) ++ ex) (0 + pre.length * k) (ints r) = fr (pre ++ (r :: post)) ++ ex := by
  rw [fr_app, fr_app]
  have e1 : fr (x :: post) = ints x ++ fr post := rfl
  have e2 : fr (r :: post) = ints r ++ fr post := rfl
  rw [e1, e2, Nat.zero_add, ← fr_len hw, List.append_assoc, List.append_assoc, List.append_assoc, List.append_assoc]
  exact setRange_at _ _ _ _ (by simp [ints, hr, hx])
theorem ints_len {l : List (List Int)} {k i : Nat} (hw : Wide k l) (hi : i < l.length) : (ints (gr l i)).length = k := (List.length_map _).trans (hw.get hi)
theorem ints_one (r : List Int) : (ints r).all Value.oneCell' = true := by
  simp [ints, List.all_eq_true, Value.oneCell']
theorem Row.pre {H : Heap} {b off : Nat} {xs ys : List Value} (h : Row H b off (xs ++ ys)) : Row H b off xs := fun j v hj => h j v (by
  rw [List.getElem?_append_left (List.getElem?_eq_some_iff.1 hj).1]; exact hj)
theorem Wide.app {k : Nat} {l m : List (List Int)} (h : Wide k l) (h' : Wide k m) : Wide k (l ++ m) := fun r hr => by
  rcases List.mem_append.1 hr with hr | hr
  · exact h r hr
  · exact h' r hr
theorem Wide.drop {k n : Nat} {l : List (List Int)} (h : Wide k l) : Wide k (l.drop n) := fun r hr => h r (List.mem_of_mem_drop hr)
theorem Wide.take {k n : Nat} {l : List (List Int)} (h : Wide k l) : Wide k (l.take n) := fun r hr => h r (List.mem_of_mem_take hr)
theorem Wide.filter {k : Nat} {l : List (List Int)} (p : List Int → Bool) (h : Wide k l) : Wide k (l.filter p) := fun r hr => h r (List.mem_filter.1 hr).1
/-! What is kept of a list, while it is gone through. -/
structure Del (l : List (List Int)) (p : List Int → Bool) (k : Nat) (kept mid : List (List Int)) (j : Nat) : Prop where
  le : j ≤ l.length
  eq : kept = (l.take j).filter fun r => !p r
  len : kept.length + mid.length = j
  pos : 0 < mid.length
  wide : Wide k mid
theorem gr_eq {l : List (List Int)} {j : Nat} (h : j < l.length) : gr l j = l[j] := by simp [gr, h]
theorem take_gr {l : List (List Int)} {j : Nat} (h : j < l.length) : l.take (j + 1) = l.take j ++ [gr l j] := by rw [gr_eq h]; exact (List.take_append_getElem h).symm
theorem drop_gr {l : List (List Int)} {j : Nat} (h : j < l.length) : l.drop j = gr l j :: l.drop (j + 1) := by rw [gr_eq h]; exact List.drop_eq_getElem_cons h
section
variable {l kept mid : List (List Int)} {p : List Int → Bool} {k j n : Nat}
theorem del_start (hw : Wide k l) (hn : n < l.length) (hp : p (gr l n) = true) (hno : ∀ j, j < n → p (gr l j) = false) : Del l p k (l.take n) [gr l n] (n + 1) ∧ l.take n ++ ([gr l n] ++ l.drop (n + 1)) = l := by
  refine ⟨⟨hn, ?_, by simp; omega, by simp, fun r hr => by simp at hr; rw [hr]; exact hw.get hn⟩, ?_⟩
  · rw [take_gr hn, List.filter_append, List.filter_cons, if_neg (by rw [hp]; decide), List.filter_nil, List.append_nil]
    refine (List.filter_eq_self.2 fun r hr => ?_).symm
    obtain ⟨i, hi, rfl⟩ := List.getElem_of_mem hr
    have hi' : i < n := by rw [List.length_take] at hi; omega
    have := hno i hi'
    rw [gr_eq (by omega)] at this
    simp [this]
  · rw [List.singleton_append, ← drop_gr hn, List.take_append_drop]
theorem del_skip (h : Del l p k kept mid j) (hw : Wide k l) (hj : j < l.length) (hp : p (gr l j) = true) : Del l p k kept (mid ++ [gr l j]) (j + 1) :=
  ⟨hj, by rw [take_gr hj, List.filter_append, ← h.eq, List.filter_cons, if_neg (by rw [hp]; decide)]; simp, by have := h.len; simp; omega, by simp, h.wide.app fun r hr => by simp at hr; rw [hr]; exact hw.get hj⟩
theorem del_take {x : List Int} {rest : List (List Int)} (h : Del l p k kept (x :: rest) j) (hw : Wide k l) (hj : j < l.length) (hp : p (gr l j) = false) : Del l p k (kept ++ [gr l j]) (rest ++ [gr l j]) (j + 1) :=
  ⟨hj, by rw [take_gr hj, List.filter_append, ← h.eq, List.filter_cons, if_pos (by rw [hp]; decide)]; simp, by have := h.len; simp at this ⊢; omega, by simp, Wide.app (fun r hr => h.wide r (by simp [hr])) fun r hr => by simp at hr; rw [hr]; exact hw.get hj⟩
end
section
variable {H : Heap} {l kept mid : List (List Int)} {p : List Int → Bool} {k j b : Nat} {ex : List Value} {t : TypeId}
theorem Del.wideK (h : Del l p k kept mid j) (hw : Wide k l) : Wide k kept := by rw [h.eq]; exact (hw.take).filter _
theorem del_row (h : Del l p k kept mid j) (hw : Wide k l) (hj : j < l.length) (hb : Blk H b (fr (kept ++ (mid ++ l.drop j)) ++ ex) t) : Ld H b (0 + j * k) true k (.agg (ints (gr l j)).toArray) := by
  have hW : Wide k (kept ++ (mid ++ l.drop j)) := (h.wideK hw).app (h.wide.app hw.drop)
  have hR := rows_row hW hb.row.pre
  have hlen := h.len
  have e : gr (kept ++ (mid ++ l.drop j)) j = gr l j := by
    unfold gr
    rw [← List.append_assoc, List.getD_eq_getElem?_getD, List.getElem?_append_right (by simp; omega), List.getD_eq_getElem?_getD]
    simp [show j - (kept.length + mid.length) = 0 by omega]
  have := ld_row' (i := j) hR hW (by simp; omega)
  rw [e] at this
  exact this
theorem del_mid (h : Del l p k kept mid j) : ∃ x rest, mid = x :: rest := by
  cases mid with
  | nil => have := h.pos; simp at this
  | cons x rest => exact ⟨x, rest, rfl⟩
/-- A row kept: written where the first one to be dropped stood. -/
theorem del_put {x : List Int} {rest : List (List Int)} (h : Del l p k kept (x :: rest) j) (hw : Wide k l) (hj : j < l.length) :
    setRange (fr (kept ++ (x :: rest ++ l.drop j)) ++ ex) (0 + kept.length * k) (ints (gr l j)) = fr ((kept ++ [gr l j]) ++ ((rest ++ [gr l j]) ++ l.drop (j + 1))) ++ ex := by
  have := fr_put2 (k := k) (pre := kept) (post := rest ++ l.drop j) (r := gr l j) (x := x) (ex := ex) (h.wideK hw) (hw.get hj) (h.wide x (by simp))
  rw [List.cons_append, this, drop_gr hj]
  simp
end
theorem setRange_pre : ∀ (vs pre rest : List Value) (n : Nat), pre.length ≤ n → ∃ r', setRange (pre ++ rest) n vs = pre ++ r'
  | [], pre, rest, n, _ => ⟨rest, rfl⟩
  | v :: vs, pre, rest, n, h => by
    have := setRange_pre vs pre (rest.set (n - pre.length) v) (n + 1) (by omega)
    simp only [setRange, List.set_append_right _ _ h]
    exact this
theorem cut_at {b n m size : Nat} (h : n < m) : cutA (some ⟨b, 0, none⟩) n m size = some ⟨b, 0 + n * size, none⟩ := by
  unfold cutA; rw [if_neg (by omega)]; simp [addr_add]
theorem cut_0 {b m size : Nat} : cutA (some ⟨b, 0, none⟩) 0 m size = some ⟨b, 0, none⟩ := by
  unfold cutA; split
  · rfl
  · simp [addr_add]
section
variable {H : Heap} {l kept mid : List (List Int)} {p : List Int → Bool} {k j b : Nat} {ex vs : List Value} {t : TypeId}
theorem del_end (h : Del l p k kept mid j) (hw : Wide k l) (hj : l.length ≤ j) (hb : Blk H b (setRange (fr (kept ++ (mid ++ l.drop j)) ++ ex) (0 + kept.length * k) vs) t) :
    Rows H (some ⟨b, 0, none⟩) k (l.filter fun r => !p r) ∧ kept.length = (l.filter fun r => !p r).length := by
  have e : kept = l.filter fun r => !p r := by rw [h.eq, List.take_of_length_le hj]
  rw [← e]
  refine ⟨⟨h.wideK hw, .inr ⟨b, 0, rfl, ?_⟩⟩, rfl⟩
  rw [fr_app, List.append_assoc] at hb
  obtain ⟨r', hr'⟩ := setRange_pre vs (fr kept) (fr (mid ++ l.drop j) ++ ex) (0 + kept.length * k) (by rw [fr_len (h.wideK hw)]; omega)
  rw [hr'] at hb
  exact rows_row (h.wideK hw) hb.row.pre
end
theorem filter_all {l : List (List Int)} {p : List Int → Bool} (h : ∀ j, j < l.length → p (gr l j) = false) : (l.filter fun r => !p r) = l :=
  List.filter_eq_self.2 fun r hr => by
    obtain ⟨i, hi, rfl⟩ := List.getElem_of_mem hr
    have := h i hi
    rw [gr_eq hi] at this
    simp [this]
end Go.XG
