/-
  Bins in memory: a slice of rows, and totals.
-/
import Derived.Test.YtoabjfmegnjicaaP
namespace Go.XG
section
variable {H : Heap} {b t k : Nat} {x : Value} {T : List Int}
theorem ld_tot (h : Blk H b (x :: ints T) t) (hk : k < T.length) : cellAt H b (1 + k * 1) = some (.int .i64 (T.getD k 0)) := by
  have := h.row (1 + k) (.int .i64 (T.getD k 0)) (by
    rw [Nat.add_comm 1 k, List.getElem?_cons_succ]
    simp [ints, List.getD, hk])
  rw [Nat.zero_add] at this
  rw [Nat.mul_one]; exact this
theorem four {k : List Int} (h : k.length = 4) : ∃ k0 k1 k2 k3, k = [k0, k1, k2, k3] := by
  match k, h with
  | [a, b, c, d], _ => exact ⟨_, _, _, _, rfl⟩
end
theorem kcmp4 {a0 a1 a2 a3 b0 b1 b2 b3 : Int} : kcmp [a0, a1, a2, a3] [b0, b1, b2, b3] < 0 ↔ a0 < b0 ∨ (a0 = b0 ∧ (a1 < b1 ∨ (a1 = b1 ∧ (a2 < b2 ∨ (a2 = b2 ∧ a3 < b3))))) := by
  unfold kcmp kcmp kcmp kcmp
  simp only [kcmp]
  (repeat' split) <;> omega
section
variable {l : List (List Int)} {k : List Int} {n t : Int} {i : Nat}
theorem bel_key (hs : Srt l) (hw : Wide 5 l) (hk : k.length = 4) (hi : i < l.length) (h : ky (gr l i) = k) : bel l k = i :=
  bel_found hs hw (by decide) hk (by omega) (fun j hj => by have := hs.get hj hi; rw [h] at this; exact this) (fun j hj hl => by
    rcases Nat.lt_or_ge i j with h1 | h1
    · have := hs.get h1 hl
      rw [h] at this
      have h2 := kcmp_anti k (ky (gr l j))
      omega
    · have : j = i := by omega
      subst this; rw [h, kcmp_self]; decide)
theorem has_key (hi : i < l.length) (h : ky (gr l i) = k) : hasK l k = true := by
  unfold hasK; rw [List.any_eq_true]
  exact ⟨gr l i, by rw [gr_eq hi]; exact List.getElem_mem _, by simpa using h⟩
theorem qty_at (hs : Srt l) (hw : Wide 5 l) (hk : k.length = 4) (hi : i < l.length) (h : ky (gr l i) = k) : qtyB l k = (gr l i).getD 4 0 := by
  unfold qtyB; rw [if_pos (has_key hi h), bel_key hs hw hk hi h]
theorem qty_no (hs : Srt l) (hw : Wide 5 l) (hk : k.length = 4) (h : ∀ j, j < l.length → ky (gr l j) ≠ k) : qtyB l k = 0 := by
  unfold qtyB; rw [if_neg]
  intro hh
  obtain ⟨h1, h2⟩ := (has_iff hs hw (by decide) hk).1 hh
  exact h _ h1 h2
theorem all_next {p : Nat → Prop} (h : ∀ j, j < i → p j) (hi : p i) : ∀ j, j < i + 1 → p j := fun j hj => by
  rcases Nat.lt_or_ge j i with h1 | h1
  · exact h j h1
  · have : j = i := by omega
    subst this; exact hi
/-- What the document's set has made of the first rows. -/
def SetI (l : List (List Int)) (k : List Int) (n : Int) (i : Nat) (dn : Bool) (out : List (List Int)) : Prop :=
  (dn = false ∧ n ≠ 0 ∧ i ≤ bel l k + (if hasK l k = true then 1 else 0) ∧ out = (l.take i).filter (nk k)) ∨ (dn = true ∧ n = 0 ∧ out = (l.take i).filter (nk k)) ∨
  (dn = true ∧ n ≠ 0 ∧ bel l k ≤ i ∧ out = l.take (bel l k) ++ [k ++ [n]] ++ ((l.take i).drop (bel l k)).filter (nk k))
theorem set_start : SetI l k n 0 (decide (n = 0)) [] := by
  by_cases h : n = 0
  · exact .inr (.inl ⟨decide_eq_true h, h, by simp⟩)
  · exact .inl ⟨decide_eq_false h, h, Nat.zero_le _, by simp⟩
theorem fil_next (h : i < l.length) : (l.take (i + 1)).filter (nk k) = (l.take i).filter (nk k) ++ (if ky (gr l i) ≠ k then [gr l i] else []) := by
  rw [take_gr h, List.filter_append]
  by_cases he : ky (gr l i) = k
  · rw [if_neg (by simpa using he)]
    have : nk k (gr l i) = false := by unfold nk; simpa using he
    rw [List.filter_cons, if_neg (by rw [this]; decide)]; rfl
  · rw [if_pos he]
    have : nk k (gr l i) = true := by unfold nk; simpa using he
    rw [List.filter_cons, if_pos this]; rfl
theorem fil_next2 {b : Nat} (h : i < l.length) (hb : b ≤ i) : ((l.take (i + 1)).drop b).filter (nk k) = ((l.take i).drop b).filter (nk k) ++ (if ky (gr l i) ≠ k then [gr l i] else []) := by
  rw [take_gr h, List.drop_append_of_le_length (by rw [List.length_take]; omega), List.filter_append]
  by_cases he : ky (gr l i) = k
  · rw [if_neg (by simpa using he)]
    have : nk k (gr l i) = false := by unfold nk; simpa using he
    rw [List.filter_cons, if_neg (by rw [this]; decide)]; rfl
  · rw [if_pos he]
    have : nk k (gr l i) = true := by unfold nk; simpa using he
    rw [List.filter_cons, if_pos this]; rfl
/-- Of the rows from the key's place on, none is kept as far as the key itself. -/
theorem fil_none (hs : Srt l) (hw : Wide 5 l) (hk : k.length = 4) (hi : i ≤ bel l k + (if hasK l k = true then 1 else 0)) (hl : i ≤ l.length) : ((l.take i).drop (bel l k)).filter (nk k) = [] := by
  rw [List.filter_eq_nil_iff]
  intro r hr
  obtain ⟨j, hj, rfl⟩ := List.getElem_of_mem hr
  rw [List.length_drop, List.length_take] at hj
  rw [List.getElem_drop, List.getElem_take]
  cases hh : hasK l k
  · rw [hh] at hi; simp at hi; omega
  · rw [if_pos hh] at hi
    obtain ⟨h1, h2⟩ := (has_iff hs hw (by decide) hk).1 hh
    have : j = 0 := by omega
    subst this
    rw [gr_eq h1] at h2
    simp [nk, h2]
theorem fil_upto (hs : Srt l) (hw : Wide 5 l) (hk : k.length = 4) (hi : i ≤ bel l k + (if hasK l k = true then 1 else 0)) (hb : bel l k ≤ i) (hl : i ≤ l.length) : (l.take i).filter (nk k) = l.take (bel l k) := by
  have hbl := bel_le l k
  conv => lhs; rw [← List.take_append_drop (bel l k) (l.take i)]
  rw [List.filter_append, fil_none hs hw hk hi hl, List.append_nil, List.take_take, Nat.min_eq_left hb, fil_take hs hw hk (Nat.le_refl _)]
end
section
variable {l out : List (List Int)} {k : List Int} {n : Int} {i : Nat} {dn : Bool}
theorem kc_ge (hs : Srt l) (hw : Wide 5 l) (hk : k.length = 4) (hi : i < l.length) (h : kcmp k (ky (gr l i)) < 0) : bel l k + (if hasK l k = true then 1 else 0) ≤ i := by
  have h0 := kcmp_anti k (ky (gr l i))
  have h1 : ¬ i < bel l k := fun hb => by have := (bel_iff hs hw (by decide) hk i hi).2 hb; omega
  cases hh : hasK l k
  · simp; omega
  · obtain ⟨h2, h3⟩ := (has_iff hs hw (by decide) hk).1 hh
    have h4 : i ≠ bel l k := fun e => by rw [e, h3, kcmp_self] at h; exact absurd h (by decide)
    simp; omega
theorem kc_le (hs : Srt l) (hw : Wide 5 l) (hk : k.length = 4) (hi : i < l.length) (h : ¬ kcmp k (ky (gr l i)) < 0) : i + 1 ≤ bel l k + (if hasK l k = true then 1 else 0) := by
  have h0 := kcmp_anti k (ky (gr l i))
  by_cases he : ky (gr l i) = k
  · rw [bel_key hs hw hk hi he, if_pos (has_key hi he)]; omega
  · have h1 : kcmp (ky (gr l i)) k ≠ 0 := fun h2 => he ((kcmp_eq ((ky_len (hw.get hi) (by decide)).trans hk.symm)).1 h2)
    have := (bel_iff hs hw (by decide) hk i hi).1 (by omega)
    omega
theorem SetI.ins (h : SetI l k n i dn out) (hs : Srt l) (hw : Wide 5 l) (hk : k.length = 4) (hi : i < l.length) (hd : dn = false) (hc : kcmp k (ky (gr l i)) < 0) : SetI l k n i true (out ++ [k ++ [n]]) := by
  have hb := kc_ge hs hw hk hi hc
  rcases h with ⟨_, h1, h2, h3⟩ | ⟨h0, _⟩ | ⟨h0, _⟩
  · refine .inr (.inr ⟨rfl, h1, by omega, ?_⟩)
    rw [h3, fil_upto hs hw hk h2 (by omega) (by omega), fil_none hs hw hk h2 (by omega), List.append_nil]
  · rw [hd] at h0; cases h0
  · rw [hd] at h0; cases h0
theorem SetI.row (h : SetI l k n i dn out) (hs : Srt l) (hw : Wide 5 l) (hk : k.length = 4) (hi : i < l.length) (hd : dn = false → ¬ kcmp k (ky (gr l i)) < 0) : SetI l k n (i + 1) dn (out ++ (if ky (gr l i) ≠ k then [gr l i] else [])) := by
  rcases h with ⟨h0, h1, h2, h3⟩ | ⟨h0, h1, h3⟩ | ⟨h0, h1, h2, h3⟩
  · exact .inl ⟨h0, h1, kc_le hs hw hk hi (hd h0), by rw [h3, fil_next hi]⟩
  · exact .inr (.inl ⟨h0, h1, by rw [h3, fil_next hi]⟩)
  · exact .inr (.inr ⟨h0, h1, by omega, by rw [h3, fil_next2 hi h2, ← List.append_assoc]⟩)
theorem SetI.len (h : SetI l k n i dn out) (hi : i ≤ l.length) : out.length ≤ i + 1 := by
  have h4 : ((l.take i).filter (nk k)).length ≤ i := Nat.le_trans (List.length_filter_le _ _) (by rw [List.length_take]; omega)
  rcases h with ⟨_, _, _, h3⟩ | ⟨_, _, h3⟩ | ⟨_, _, h2, h3⟩
  · rw [h3]; omega
  · rw [h3]; omega
  · have h5 : (((l.take i).drop (bel l k)).filter (nk k)).length ≤ i - bel l k := Nat.le_trans (List.length_filter_le _ _) (by rw [List.length_drop, List.length_take]; omega)
    rw [h3, List.length_append, List.length_append, List.length_take, List.length_singleton]; omega
theorem SetI.wide (h : SetI l k n i dn out) (hw : Wide 5 l) (hk : k.length = 4) : Wide 5 out := by
  have h4 : Wide 5 ((l.take i).filter (nk k)) := hw.take.filter _
  rcases h with ⟨_, _, _, h3⟩ | ⟨_, _, h3⟩ | ⟨_, _, h2, h3⟩
  · rw [h3]; exact h4
  · rw [h3]; exact h4
  · rw [h3]
    refine (hw.take.app fun r hr => ?_).app ((hw.take.drop).filter _)
    rw [List.mem_singleton] at hr; rw [hr]; simp [hk]
theorem SetI.done (h : SetI l k n l.length dn out) (hs : Srt l) (hw : Wide 5 l) (hk : k.length = 4) : (if dn = false then out ++ [k ++ [n]] else out) = setB l k n := by
  have hb := bel_le l k
  rcases h with ⟨h0, h1, h2, h3⟩ | ⟨h0, h1, h3⟩ | ⟨h0, h1, h2, h3⟩
  · rw [if_pos h0, h3, fil_upto hs hw hk h2 hb (Nat.le_refl _)]
    unfold setB
    rw [if_neg h1, ← put_fil hs hw hk]
    have := fil_none hs hw hk h2 (Nat.le_refl _)
    rw [List.take_length] at this
    rw [this, List.append_nil]
  · rw [if_neg (by rw [h0]; decide), h3, List.take_length, fil_all hs hw hk]
    unfold setB; rw [if_pos h1]
  · rw [if_neg (by rw [h0]; decide), h3, List.take_length, put_fil hs hw hk]
    unfold setB; rw [if_neg h1]
end
theorem set_tot {x : Value} {T : List Int} {k : Nat} {v : Int} (hk : k < T.length) : setRange (x :: ints T) (1 + k) [.int .i64 v] = x :: ints (T.set k v) := by
  rw [Nat.add_comm 1 k]
  show x :: setRange (ints T) k [.int .i64 v] = _
  congr 1
  induction T generalizing k with
  | nil => simp at hk
  | cons a T ih =>
    cases k with
    | zero => rfl
    | succ k =>
      show Value.int .i64 a :: setRange (ints T) k [.int .i64 v] = Value.int .i64 a :: ints (T.set k v)
      rw [ih (by simpa using hk)]
section
variable {H : Heap} {b t n c : Nat} {a : Option Addr} {x : Value} {T : List Int}
theorem ld_bins (h : Blk H b (x :: ints T) t) (hT : T.length = 33) : Ld H b 0 true 34 (.agg (x :: ints T).toArray) := ⟨x :: ints T, rfl, by simp [ints, hT], h.row⟩
theorem bins_len (hT : T.length = 33) : (x :: ints T).length = 34 := by simp [ints, hT]
theorem bins_one : (Value.slice a n c :: ints T).all Value.oneCell' = true := by
  rw [List.all_cons, ints_one]; rfl
end
end Go.XG
