/-
  Lots, stacks and bins, in plain Lean and in memory.
-/
import Derived.Test.YtjlhjjjhblcokaaTo
import Derived.Test.YtjlhjjjhblcokaaG
import Derived.Test.YtjlhjjjhblcokaaXs
namespace Go.XG
def IsB (k : List Int) : Prop :=
  (0 ≤ k.getD 0 0 ∧ k.getD 0 0 ≤ 1099511627776) ∧ (0 ≤ k.getD 1 0 ∧ k.getD 1 0 ≤ 4) ∧ (1 ≤ k.getD 2 0 ∧ k.getD 2 0 ≤ 8) ∧ (1 ≤ k.getD 3 0 ∧ k.getD 3 0 ≤ 32)
theorem isB_iff {a b c d : Int} : IsB [a, b, c, d] ↔ (0 ≤ a ∧ a ≤ 1099511627776) ∧ (0 ≤ b ∧ b ≤ 4) ∧ (1 ≤ c ∧ c ≤ 8) ∧ (1 ≤ d ∧ d ≤ 32) := Iff.rfl
def qtyB (l : List (List Int)) (k : List Int) : Int := if hasK l k = true then (gr l (bel l k)).getD 4 0 else 0
def setB (l : List (List Int)) (k : List Int) (n : Int) : List (List Int) := if n = 0 then delR l k else putR l (k ++ [n])
def nk (k : List Int) (r : List Int) : Bool := decide (ky r ≠ k)
section
variable {l : List (List Int)} {k : List Int} {n : Int} {i : Nat}
theorem ky_ne_lt (hs : Srt l) (hw : Wide 5 l) (hk : k.length = 4) (hi : i < bel l k) : ky (gr l i) ≠ k := fun h => by
  have hb := bel_le l k
  have := (bel_iff hs hw (by decide) hk i (by omega)).2 hi
  rw [h, kcmp_self] at this
  exact absurd this (by decide)
theorem ky_ne_gt (hs : Srt l) (hw : Wide 5 l) (hk : k.length = 4) (hi : bel l k + (if hasK l k = true then 1 else 0) ≤ i) (hl : i < l.length) : ky (gr l i) ≠ k := fun h => by
  cases hh : hasK l k
  · have : hasK l k = true := by
      unfold hasK; rw [List.any_eq_true]
      exact ⟨gr l i, by rw [gr_eq hl]; exact List.getElem_mem _, by simpa using h⟩
    rw [hh] at this; cases this
  · rw [if_pos hh] at hi
    obtain ⟨h1, h2⟩ := (has_iff hs hw (by decide) hk).1 hh
    have := hs.get (show bel l k < i by omega) hl
    rw [h, h2, kcmp_self] at this
    exact absurd this (by decide)
theorem fil_take (hs : Srt l) (hw : Wide 5 l) (hk : k.length = 4) (hi : i ≤ bel l k) : (l.take i).filter (nk k) = l.take i := by
  rw [List.filter_eq_self]
  intro r hr
  obtain ⟨j, hj, rfl⟩ := List.getElem_of_mem hr
  rw [List.length_take] at hj
  rw [List.getElem_take]
  have := ky_ne_lt hs hw hk (show j < bel l k by omega)
  rw [gr_eq (by omega)] at this
  simpa [nk] using this
theorem fil_rest (hs : Srt l) (hw : Wide 5 l) (hk : k.length = 4) : (l.drop (bel l k + (if hasK l k = true then 1 else 0))).filter (nk k) = l.drop (bel l k + (if hasK l k = true then 1 else 0)) := by
  rw [List.filter_eq_self]
  intro r hr
  obtain ⟨j, hj, rfl⟩ := List.getElem_of_mem hr
  rw [List.length_drop] at hj
  rw [List.getElem_drop]
  have := ky_ne_gt hs hw hk (Nat.le_add_right _ j) (show bel l k + (if hasK l k = true then 1 else 0) + j < l.length by omega)
  rw [gr_eq (by omega)] at this
  simpa [nk] using this
theorem fil_drop (hs : Srt l) (hw : Wide 5 l) (hk : k.length = 4) : (l.drop (bel l k)).filter (nk k) = l.drop (bel l k + (if hasK l k = true then 1 else 0)) := by
  have hr := fil_rest hs hw hk
  cases hh : hasK l k
  · rw [hh] at hr; simpa using hr
  · rw [if_pos hh] at hr
    obtain ⟨h1, h2⟩ := (has_iff hs hw (by decide) hk).1 hh
    rw [drop_gr h1, if_pos rfl, List.filter_cons, if_neg (by unfold nk; rw [h2]; simp), hr]
theorem fil_all (hs : Srt l) (hw : Wide 5 l) (hk : k.length = 4) : l.filter (nk k) = delR l k := by
  conv => lhs; rw [← List.take_append_drop (bel l k) l]
  rw [List.filter_append, fil_take hs hw hk (Nat.le_refl _), fil_drop hs hw hk]
  cases hh : hasK l k
  · rw [del_no hh]; simp
  · rw [del_has hh]; simp
theorem put_fil (hs : Srt l) (hw : Wide 5 l) (hk : k.length = 4) : l.take (bel l k) ++ [k ++ [n]] ++ (l.drop (bel l k)).filter (nk k) = putR l (k ++ [n]) := by
  rw [fil_drop hs hw hk]
  unfold putR
  rw [ky_app hk]; simp
theorem wide_setB (hw : Wide 5 l) (hk : k.length = 4) : Wide 5 (setB l k n) := by
  unfold setB; split
  · exact wide_del hw
  · exact wide_put hw (by simp [hk])
theorem srt_setB (hs : Srt l) (hw : Wide 5 l) (hk : k.length = 4) : Srt (setB l k n) := by
  unfold setB; split
  · exact srt_del hs
  · exact srt_put hs hw (by decide) (by simp [hk])
theorem len_setB : (setB l k n).length ≤ l.length + 1 := by
  unfold setB; split
  · exact Nat.le_succ_of_le (del_len _ _)
  · exact put_len _ _
end
/-- How many there are of a type. -/
def totB : List (List Int) → Int → Int
  | [], _ => 0
  | r :: l, t => (if r.getD 3 0 = t then r.getD 4 0 else 0) + totB l t
section
variable {l m : List (List Int)} {k : List Int} {n t : Int} {i : Nat}
theorem totB_app : totB (l ++ m) t = totB l t + totB m t := by
  induction l with
  | nil => simp [totB]
  | cons r l ih => simp only [List.cons_append, totB, ih]; omega
theorem totB_take (h : i < l.length) : totB (l.take (i + 1)) t = totB (l.take i) t + (if (gr l i).getD 3 0 = t then (gr l i).getD 4 0 else 0) := by
  rw [take_gr h, totB_app]; simp [totB]
theorem totB_split : totB (l.take i) t + totB (l.drop i) t = totB l t := by rw [← totB_app, List.take_append_drop]
theorem totB_nonneg (h : ∀ r ∈ l, 0 ≤ r.getD 4 0) : 0 ≤ totB l t := by
  induction l with
  | nil => exact Int.le_refl _
  | cons r l ih =>
    have h1 := h r (by simp)
    have h2 := ih (fun s hs => h s (by simp [hs]))
    simp only [totB]; split <;> omega
theorem gd_app4 {j : Nat} (hk : k.length = 4) (hj : j < 4) : (k ++ [n]).getD j 0 = k.getD j 0 := by
  simp [List.getD, List.getElem?_append_left (show j < k.length by omega)]
theorem gd_app5 (hk : k.length = 4) : (k ++ [n]).getD 4 0 = n := by
  match k, hk with
  | [a, b, c, d], _ => rfl
theorem ky3 {r : List Int} (h : r.length = 5) : r.getD 3 0 = (ky r).getD 3 0 := by
  match r, h with
  | [a, b, c, d, e], _ => rfl
theorem tot_set (hs : Srt l) (hw : Wide 5 l) (hk : k.length = 4) : totB (setB l k n) t = totB l t + (if k.getD 3 0 = t then n - qtyB l k else 0) := by
  have hsp := totB_split (l := l) (i := bel l k) (t := t)
  cases hh : hasK l k
  · have hq : qtyB l k = 0 := if_neg (by rw [hh]; decide)
    rw [hq]
    unfold setB
    split
    · rename_i h0
      rw [del_no hh, h0]; split <;> omega
    · rw [put_new hk hh, totB_app, totB_app]
      simp only [totB, gd_app4 hk (show 3 < 4 by decide), gd_app5 hk]
      split <;> omega
  · have hq : qtyB l k = (gr l (bel l k)).getD 4 0 := if_pos hh
    obtain ⟨h1, h2⟩ := (has_iff hs hw (by decide) hk).1 hh
    have h3 : (gr l (bel l k)).getD 3 0 = k.getD 3 0 := by
      rw [ky3 (hw.get h1), h2]
    rw [drop_gr h1] at hsp
    simp only [totB, h3] at hsp
    rw [hq]
    unfold setB
    split
    · rename_i h0
      rw [del_has hh, totB_app]
      split at hsp <;> split <;> omega
    · rw [put_has hk hh, List.drop_drop, totB_app, totB_app]
      simp only [totB, gd_app4 hk (show 3 < 4 by decide), gd_app5 hk]
      split at hsp <;> split <;> omega
end
section
variable {H : Heap} {b t k : Nat} {x : Value} {T : List Int}
theorem ld_tot (h : Blk H b (x :: ints T) t) (hk : k < T.length) : cellAt H b (1 + k * 1) = some (.int .i64 (T.getD k 0)) := by
  have := h.row (1 + k) (.int .i64 (T.getD k 0)) (by
    rw [Nat.add_comm 1 k, List.getElem?_cons_succ]
    simp [ints, List.getD, hk])
  rw [Nat.zero_add] at this
  rw [Nat.mul_one]; exact this
theorem four {k : List Int} (h : k.length = 4) : ∃ k0 k1 k2 k3, k = [k0, k1, k2, k3] := by
  match k, h with
  | [a, b, c, d], _ => exact ⟨_, _, _, _, rfl⟩
end
theorem kcmp4 {a0 a1 a2 a3 b0 b1 b2 b3 : Int} : kcmp [a0, a1, a2, a3] [b0, b1, b2, b3] < 0 ↔ a0 < b0 ∨ (a0 = b0 ∧ (a1 < b1 ∨ (a1 = b1 ∧ (a2 < b2 ∨ (a2 = b2 ∧ a3 < b3))))) := by
  unfold kcmp kcmp kcmp kcmp
  simp only [kcmp]
  (repeat' split) <;> omega
section
variable {l : List (List Int)} {k : List Int} {n t : Int} {i : Nat}
theorem bel_key (hs : Srt l) (hw : Wide 5 l) (hk : k.length = 4) (hi : i < l.length) (h : ky (gr l i) = k) : bel l k = i :=
  bel_found hs hw (by decide) hk (by omega) (fun j hj => by have := hs.get hj hi; rw [h] at this; exact this) (fun j hj hl => by
    rcases Nat.lt_or_ge i j with h1 | h1
    · have := hs.get h1 hl
      rw [h] at this
      have h2 := kcmp_anti k (ky (gr l j))
      omega
    · have : j = i := by omega
      subst this; rw [h, kcmp_self]; decide)
theorem has_key (hi : i < l.length) (h : ky (gr l i) = k) : hasK l k = true := by
  unfold hasK; rw [List.any_eq_true]
  exact ⟨gr l i, by rw [gr_eq hi]; exact List.getElem_mem _, by simpa using h⟩
theorem qty_at (hs : Srt l) (hw : Wide 5 l) (hk : k.length = 4) (hi : i < l.length) (h : ky (gr l i) = k) : qtyB l k = (gr l i).getD 4 0 := by
  unfold qtyB; rw [if_pos (has_key hi h), bel_key hs hw hk hi h]
theorem qty_no (hs : Srt l) (hw : Wide 5 l) (hk : k.length = 4) (h : ∀ j, j < l.length → ky (gr l j) ≠ k) : qtyB l k = 0 := by
  unfold qtyB; rw [if_neg]
  intro hh
  obtain ⟨h1, h2⟩ := (has_iff hs hw (by decide) hk).1 hh
  exact h _ h1 h2
theorem all_next {p : Nat → Prop} (h : ∀ j, j < i → p j) (hi : p i) : ∀ j, j < i + 1 → p j := fun j hj => by
  rcases Nat.lt_or_ge j i with h1 | h1
  · exact h j h1
  · have : j = i := by omega
    subst this; exact hi
/-- What the document's set has made of the first rows. -/
def SetI (l : List (List Int)) (k : List Int) (n : Int) (i : Nat) (dn : Bool) (out : List (List Int)) : Prop :=
  (dn = false ∧ n ≠ 0 ∧ i ≤ bel l k + (if hasK l k = true then 1 else 0) ∧ out = (l.take i).filter (nk k)) ∨ (dn = true ∧ n = 0 ∧ out = (l.take i).filter (nk k)) ∨
  (dn = true ∧ n ≠ 0 ∧ bel l k ≤ i ∧ out = l.take (bel l k) ++ [k ++ [n]] ++ ((l.take i).drop (bel l k)).filter (nk k))
theorem set_start : SetI l k n 0 (decide (n = 0)) [] := by
  by_cases h : n = 0
  · exact .inr (.inl ⟨decide_eq_true h, h, by simp⟩)
  · exact .inl ⟨decide_eq_false h, h, Nat.zero_le _, by simp⟩
theorem fil_next (h : i < l.length) : (l.take (i + 1)).filter (nk k) = (l.take i).filter (nk k) ++ (if ky (gr l i) ≠ k then [gr l i] else []) := by
  rw [take_gr h, List.filter_append]
  by_cases he : ky (gr l i) = k
  · rw [if_neg (by simpa using he)]
    have : nk k (gr l i) = false := by unfold nk; simpa using he
    rw [List.filter_cons, if_neg (by rw [this]; decide)]; rfl
  · rw [if_pos he]
    have : nk k (gr l i) = true := by unfold nk; simpa using he
    rw [List.filter_cons, if_pos this]; rfl
theorem fil_next2 {b : Nat} (h : i < l.length) (hb : b ≤ i) : ((l.take (i + 1)).drop b).filter (nk k) = ((l.take i).drop b).filter (nk k) ++ (if ky (gr l i) ≠ k then [gr l i] else []) := by
  rw [take_gr h, List.drop_append_of_le_length (by rw [List.length_take]; omega), List.filter_append]
  by_cases he : ky (gr l i) = k
  · rw [if_neg (by simpa using he)]
    have : nk k (gr l i) = false := by unfold nk; simpa using he
    rw [List.filter_cons, if_neg (by rw [this]; decide)]; rfl
  · rw [if_pos he]
    have : nk k (gr l i) = true := by unfold nk; simpa using he
    rw [List.filter_cons, if_pos this]; rfl
/-- Of the rows from the key's place on, none is kept as far as the key itself. -/
theorem fil_none (hs : Srt l) (hw : Wide 5 l) (hk : k.length = 4) (hi : i ≤ bel l k + (if hasK l k = true then 1 else 0)) (hl : i ≤ l.length) : ((l.take i).drop (bel l k)).filter (nk k) = [] := by
  rw [List.filter_eq_nil_iff]
  intro r hr
  obtain ⟨j, hj, rfl⟩ := List.getElem_of_mem hr
  rw [List.length_drop, List.length_take] at hj
  rw [List.getElem_drop, List.getElem_take]
  cases hh : hasK l k
  · rw [hh] at hi; simp at hi; omega
  · rw [if_pos hh] at hi
    obtain ⟨h1, h2⟩ := (has_iff hs hw (by decide) hk).1 hh
    have : j = 0 := by omega
    subst this
    rw [gr_eq h1] at h2
    simp [nk, h2]
theorem fil_upto (hs : Srt l) (hw : Wide 5 l) (hk : k.length = 4) (hi : i ≤ bel l k + (if hasK l k = true then 1 else 0)) (hb : bel l k ≤ i) (hl : i ≤ l.length) : (l.take i).filter (nk k) = l.take (bel l k) := by
  have hbl := bel_le l k
  conv => lhs; rw [← List.take_append_drop (bel l k) (l.take i)]
  rw [List.filter_append, fil_none hs hw hk hi hl, List.append_nil, List.take_take, Nat.min_eq_left hb, fil_take hs hw hk (Nat.le_refl _)]
end
section
variable {l out : List (List Int)} {k : List Int} {n : Int} {i : Nat} {dn : Bool}
theorem kc_ge (hs : Srt l) (hw : Wide 5 l) (hk : k.length = 4) (hi : i < l.length) (h : kcmp k (ky (gr l i)) < 0) : bel l k + (if hasK l k = true then 1 else 0) ≤ i := by
  have h0 := kcmp_anti k (ky (gr l i))
  have h1 : ¬ i < bel l k := fun hb => by have := (bel_iff hs hw (by decide) hk i hi).2 hb; omega
  cases hh : hasK l k
  · simp; omega
  · obtain ⟨h2, h3⟩ := (has_iff hs hw (by decide) hk).1 hh
    have h4 : i ≠ bel l k := fun e => by rw [e, h3, kcmp_self] at h; exact absurd h (by decide)
    simp; omega
theorem kc_le (hs : Srt l) (hw : Wide 5 l) (hk : k.length = 4) (hi : i < l.length) (h : ¬ kcmp k (ky (gr l i)) < 0) : i + 1 ≤ bel l k + (if hasK l k = true then 1 else 0) := by
  have h0 := kcmp_anti k (ky (gr l i))
  by_cases he : ky (gr l i) = k
  · rw [bel_key hs hw hk hi he, if_pos (has_key hi he)]; omega
  · have h1 : kcmp (ky (gr l i)) k ≠ 0 := fun h2 => he ((kcmp_eq ((ky_len (hw.get hi) (by decide)).trans hk.symm)).1 h2)
    have := (bel_iff hs hw (by decide) hk i hi).1 (by omega)
    omega
theorem SetI.ins (h : SetI l k n i dn out) (hs : Srt l) (hw : Wide 5 l) (hk : k.length = 4) (hi : i < l.length) (hd : dn = false) (hc : kcmp k (ky (gr l i)) < 0) : SetI l k n i true (out ++ [k ++ [n]]) := by
  have hb := kc_ge hs hw hk hi hc
  rcases h with ⟨_, h1, h2, h3⟩ | ⟨h0, _⟩ | ⟨h0, _⟩
  · refine .inr (.inr ⟨rfl, h1, by omega, ?_⟩)
    rw [h3, fil_upto hs hw hk h2 (by omega) (by omega), fil_none hs hw hk h2 (by omega), List.append_nil]
  · rw [hd] at h0; cases h0
  · rw [hd] at h0; cases h0
theorem SetI.row (h : SetI l k n i dn out) (hs : Srt l) (hw : Wide 5 l) (hk : k.length = 4) (hi : i < l.length) (hd : dn = false → ¬ kcmp k (ky (gr l i)) < 0) : SetI l k n (i + 1) dn (out ++ (if ky (gr l i) ≠ k then [gr l i] else [])) := by
  rcases h with ⟨h0, h1, h2, h3⟩ | ⟨h0, h1, h3⟩ | ⟨h0, h1, h2, h3⟩
  · exact .inl ⟨h0, h1, kc_le hs hw hk hi (hd h0), by rw [h3, fil_next hi]⟩
  · exact .inr (.inl ⟨h0, h1, by rw [h3, fil_next hi]⟩)
  · exact .inr (.inr ⟨h0, h1, by omega, by rw [h3, fil_next2 hi h2, ← List.append_assoc]⟩)
theorem SetI.len (h : SetI l k n i dn out) (hi : i ≤ l.length) : out.length ≤ i + 1 := by
  have h4 : ((l.take i).filter (nk k)).length ≤ i := Nat.le_trans (List.length_filter_le _ _) (by rw [List.length_take]; omega)
  rcases h with ⟨_, _, _, h3⟩ | ⟨_, _, h3⟩ | ⟨_, _, h2, h3⟩
  · rw [h3]; omega
  · rw [h3]; omega
  · have h5 : (((l.take i).drop (bel l k)).filter (nk k)).length ≤ i - bel l k := Nat.le_trans (List.length_filter_le _ _) (by rw [List.length_drop, List.length_take]; omega)
    rw [h3, List.length_append, List.length_append, List.length_take, List.length_singleton]; omega
theorem SetI.wide (h : SetI l k n i dn out) (hw : Wide 5 l) (hk : k.length = 4) : Wide 5 out := by
  have h4 : Wide 5 ((l.take i).filter (nk k)) := hw.take.filter _
  rcases h with ⟨_, _, _, h3⟩ | ⟨_, _, h3⟩ | ⟨_, _, h2, h3⟩
  · rw [h3]; exact h4
  · rw [h3]; exact h4
  · rw [h3]
    refine (hw.take.app fun r hr => ?_).app ((hw.take.drop).filter _)
    rw [List.mem_singleton] at hr; rw [hr]; simp [hk]
theorem SetI.done (h : SetI l k n l.length dn out) (hs : Srt l) (hw : Wide 5 l) (hk : k.length = 4) : (if dn = false then out ++ [k ++ [n]] else out) = setB l k n := by
  have hb := bel_le l k
  rcases h with ⟨h0, h1, h2, h3⟩ | ⟨h0, h1, h3⟩ | ⟨h0, h1, h2, h3⟩
  · rw [if_pos h0, h3, fil_upto hs hw hk h2 hb (Nat.le_refl _)]
    unfold setB
    rw [if_neg h1, ← put_fil hs hw hk]
    have := fil_none hs hw hk h2 (Nat.le_refl _)
    rw [List.take_length] at this
    rw [this, List.append_nil]
  · rw [if_neg (by rw [h0]; decide), h3, List.take_length, fil_all hs hw hk]
    unfold setB; rw [if_pos h1]
  · rw [if_neg (by rw [h0]; decide), h3, List.take_length, put_fil hs hw hk]
    unfold setB; rw [if_neg h1]
end
theorem set_tot {x : Value} {T : List Int} {k : Nat} {v : Int} (hk : k < T.length) : setRange (x :: ints T) (1 + k) [.int .i64 v] = x :: ints (T.set k v) := by
  rw [Nat.add_comm 1 k]
  show x :: setRange (ints T) k [.int .i64 v] = _
  congr 1
  induction T generalizing k with
  | nil => simp at hk
  | cons a T ih =>
    cases k with
    | zero => rfl
    | succ k =>
      show Value.int .i64 a :: setRange (ints T) k [.int .i64 v] = Value.int .i64 a :: ints (T.set k v)
      rw [ih (by simpa using hk)]
section
variable {H : Heap} {b t n c : Nat} {a : Option Addr} {x : Value} {T : List Int}
theorem ld_bins (h : Blk H b (x :: ints T) t) (hT : T.length = 33) : Ld H b 0 true 34 (.agg (x :: ints T).toArray) := ⟨x :: ints T, rfl, by simp [ints, hT], h.row⟩
theorem bins_len (hT : T.length = 33) : (x :: ints T).length = 34 := by simp [ints, hT]
theorem bins_one : (Value.slice a n c :: ints T).all Value.oneCell' = true := by
  rw [List.all_cons, ints_one]; rfl
end
/-- Lots as they must be. -/
structure GooL (l : List (List Int)) : Prop where
  wide : Wide 5 l
  srt : Srt l
  is : ∀ r ∈ l, IsB (ky r)
  pos : ∀ r ∈ l, 1 ≤ r.getD 4 0
  max : ∀ t, totB l t ≤ 1125899906842624
/-- Totals that tell of lots. -/
structure Tots (l : List (List Int)) (T : List Int) : Prop where
  len : T.length = 33
  h : ∀ t : Int, 1 ≤ t → t ≤ 32 → T.getD t.toNat 0 = totB l t
section
variable {l : List (List Int)} {T : List Int} {k : List Int} {n t : Int}
theorem gooL_nil : GooL [] := ⟨fun _ h => (by cases h), srt_nil, fun _ h => (by cases h), fun _ h => (by cases h), fun t => by simp [totB]⟩
theorem mem_setB {r : List Int} (h : r ∈ setB l k n) : r ∈ l ∨ (r = k ++ [n] ∧ n ≠ 0) := by
  unfold setB at h
  split at h
  · unfold delR at h
    split at h
    · rcases List.mem_append.1 h with h | h
      · exact .inl (List.mem_of_mem_take h)
      · exact .inl (List.mem_of_mem_drop h)
    · exact .inl h
  · rename_i h0
    rcases mem_put h with h | h
    · exact .inl h
    · exact .inr ⟨h, h0⟩
theorem GooL.nn (h : GooL l) : ∀ r ∈ l, 0 ≤ r.getD 4 0 := fun r hr => by have := h.pos r hr; omega
theorem totB_ge (h : ∀ r ∈ l, 0 ≤ r.getD 4 0) {r : List Int} (hr : r ∈ l) : r.getD 4 0 ≤ totB l (r.getD 3 0) := by
  obtain ⟨a, b, rfl⟩ := List.append_of_mem hr
  have h1 := totB_nonneg (l := a) (t := r.getD 3 0) (fun s hs => h s (by simp [hs]))
  have h2 := totB_nonneg (l := b) (t := r.getD 3 0) (fun s hs => h s (by simp [hs]))
  rw [totB_app]; simp only [totB, if_pos]; omega
theorem GooL.qty (h : GooL l) (hk : k.length = 4) : 0 ≤ qtyB l k ∧ qtyB l k ≤ totB l (k.getD 3 0) := by
  unfold qtyB
  split
  · rename_i hh
    obtain ⟨h1, h2⟩ := (has_iff h.srt h.wide (by decide) hk).1 hh
    have hm : gr l (bel l k) ∈ l := by rw [gr_eq h1]; exact List.getElem_mem _
    refine ⟨h.nn _ hm, ?_⟩
    have := totB_ge h.nn hm
    rwa [ky3 (h.wide.get h1), h2] at this
  · exact ⟨Int.le_refl _, totB_nonneg h.nn⟩
theorem GooL.set (h : GooL l) (hk : k.length = 4) (hi : IsB k) (hn : 0 ≤ n) (hm : totB l (k.getD 3 0) + (n - qtyB l k) ≤ 1125899906842624) : GooL (setB l k n) := by
  refine ⟨wide_setB h.wide hk, srt_setB h.srt h.wide hk, fun r hr => ?_, fun r hr => ?_, fun t => ?_⟩
  · rcases mem_setB hr with hr | ⟨rfl, _⟩
    · exact h.is r hr
    · rw [ky_app hk]; exact hi
  · rcases mem_setB hr with hr | ⟨rfl, h0⟩
    · exact h.pos r hr
    · rw [gd_app5 hk]; omega
  · rw [tot_set h.srt h.wide hk]
    have := h.max t
    split
    · rename_i he; rw [he] at hm; omega
    · omega
theorem Tots.set (h : Tots l T) (hs : Srt l) (hw : Wide 5 l) (hk : k.length = 4) (hk3 : 1 ≤ k.getD 3 0 ∧ k.getD 3 0 ≤ 32) : Tots (setB l k (qtyB l k + n)) (T.set (k.getD 3 0).toNat (T.getD (k.getD 3 0).toNat 0 + n)) := by
  refine ⟨by rw [List.length_set]; exact h.len, fun t h1 h2 => ?_⟩
  rw [tot_set hs hw hk]
  have hl := h.len
  generalize k.getD 3 0 = z at hk3 ⊢
  by_cases he : z = t
  · rw [if_pos he, he]
    have := h.h t h1 h2
    simp only [List.getD, List.getElem?_set_self (show t.toNat < T.length by omega), Option.getD_some] at this ⊢
    omega
  · rw [if_neg he]
    have := h.h t h1 h2
    simp only [List.getD] at this ⊢
    rw [List.getElem?_set_ne (by omega)]
    omega
end
instance (k : List Int) : Decidable (IsB k) := by unfold IsB; infer_instance
def layE (l : List (List Int)) (k : List Int) (n : Int) : Int := if ¬ IsB k ∨ n < 0 then 1 else if 1125899906842624 - totB l (k.getD 3 0) < n then 5 else 0
def layX (l : List (List Int)) (k : List Int) (n : Int) : List (List Int) := if layE l k n = 0 then setB l k (qtyB l k + n) else l
def takE (l : List (List Int)) (k : List Int) (n : Int) : Int := if ¬ IsB k ∨ n < 0 then 1 else if qtyB l k < n then 7 else 0
def takX (l : List (List Int)) (k : List Int) (n : Int) : List (List Int) := if takE l k n = 0 then setB l k (qtyB l k - n) else l
section
variable {l : List (List Int)} {k : List Int} {n : Int}
theorem lay_arg (h : ¬ IsB k ∨ n < 0) : layE l k n = 1 ∧ layX l k n = l := by unfold layX; rw [show layE l k n = 1 from if_pos h]; exact ⟨rfl, if_neg (by decide)⟩
theorem lay_over (h : ¬ (¬ IsB k ∨ n < 0)) (h2 : 1125899906842624 - totB l (k.getD 3 0) < n) : layE l k n = 5 ∧ layX l k n = l := by
  unfold layX; rw [show layE l k n = 5 from (if_neg h).trans (if_pos h2)]; exact ⟨rfl, if_neg (by decide)⟩
theorem lay_ok (h : ¬ (¬ IsB k ∨ n < 0)) (h2 : ¬ 1125899906842624 - totB l (k.getD 3 0) < n) : layE l k n = 0 ∧ layX l k n = setB l k (qtyB l k + n) := by
  unfold layX; rw [show layE l k n = 0 from (if_neg h).trans (if_neg h2)]; exact ⟨rfl, if_pos rfl⟩
theorem tak_arg (h : ¬ IsB k ∨ n < 0) : takE l k n = 1 ∧ takX l k n = l := by unfold takX; rw [show takE l k n = 1 from if_pos h]; exact ⟨rfl, if_neg (by decide)⟩
theorem tak_items (h : ¬ (¬ IsB k ∨ n < 0)) (h2 : qtyB l k < n) : takE l k n = 7 ∧ takX l k n = l := by
  unfold takX; rw [show takE l k n = 7 from (if_neg h).trans (if_pos h2)]; exact ⟨rfl, if_neg (by decide)⟩
theorem tak_ok (h : ¬ (¬ IsB k ∨ n < 0)) (h2 : ¬ qtyB l k < n) : takE l k n = 0 ∧ takX l k n = setB l k (qtyB l k - n) := by
  unfold takX; rw [show takE l k n = 0 from (if_neg h).trans (if_neg h2)]; exact ⟨rfl, if_pos rfl⟩
theorem goo_lay (h : GooL l) (hk : k.length = 4) : GooL (layX l k n) ∧ (layX l k n).length ≤ l.length + 1 := by
  by_cases h1 : ¬ IsB k ∨ n < 0
  · rw [(lay_arg h1).2]; exact ⟨h, by omega⟩
  · by_cases h2 : 1125899906842624 - totB l (k.getD 3 0) < n
    · rw [(lay_over h1 h2).2]; exact ⟨h, by omega⟩
    · rw [(lay_ok h1 h2).2]
      have hq := h.qty hk
      have hi : IsB k := Classical.not_not.1 fun h3 => h1 (.inl h3)
      have hn : ¬ n < 0 := fun h3 => h1 (.inr h3)
      exact ⟨h.set hk hi (by omega) (by omega), len_setB⟩
theorem goo_tak (h : GooL l) (hk : k.length = 4) : GooL (takX l k n) ∧ (takX l k n).length ≤ l.length + 1 := by
  by_cases h1 : ¬ IsB k ∨ n < 0
  · rw [(tak_arg h1).2]; exact ⟨h, by omega⟩
  · by_cases h2 : qtyB l k < n
    · rw [(tak_items h1 h2).2]; exact ⟨h, by omega⟩
    · rw [(tak_ok h1 h2).2]
      have hq := h.qty hk
      have hm := h.max (k.getD 3 0)
      have hi : IsB k := Classical.not_not.1 fun h3 => h1 (.inl h3)
      have hn : ¬ n < 0 := fun h3 => h1 (.inr h3)
      exact ⟨h.set hk hi (by omega) (by omega), len_setB⟩
end
def movE (l : List (List Int)) (k m : List Int) (n : Int) : Int := if ¬ IsB m ∨ k.getD 3 0 ≠ m.getD 3 0 then 1 else takE l k n
def movX (l : List (List Int)) (k m : List Int) (n : Int) : List (List Int) := if movE l k m n = 0 then setB (takX l k n) m (qtyB (takX l k n) m + n) else l
section
variable {l : List (List Int)} {k m : List Int} {n t : Int}
theorem mov_arg (h : ¬ IsB m ∨ k.getD 3 0 ≠ m.getD 3 0) : movE l k m n = 1 ∧ movX l k m n = l := by unfold movX; rw [show movE l k m n = 1 from if_pos h]; exact ⟨rfl, if_neg (by decide)⟩
theorem mov_no (h : ¬ (¬ IsB m ∨ k.getD 3 0 ≠ m.getD 3 0)) (h2 : takE l k n ≠ 0) : movE l k m n = takE l k n ∧ movX l k m n = l := by
  have e : movE l k m n = takE l k n := if_neg h
  unfold movX; rw [e]; exact ⟨rfl, if_neg h2⟩
theorem mov_ok (h : ¬ (¬ IsB m ∨ k.getD 3 0 ≠ m.getD 3 0)) (h2 : takE l k n = 0) : movE l k m n = 0 ∧ movX l k m n = setB (takX l k n) m (qtyB (takX l k n) m + n) := by
  have e : movE l k m n = 0 := (if_neg h).trans h2
  unfold movX; rw [e]; exact ⟨rfl, if_pos rfl⟩
theorem tak_zero (h : takE l k n = 0) : IsB k ∧ 0 ≤ n ∧ n ≤ qtyB l k ∧ takX l k n = setB l k (qtyB l k - n) := by
  by_cases h1 : ¬ IsB k ∨ n < 0
  · rw [(tak_arg h1).1] at h; cases h
  · by_cases h2 : qtyB l k < n
    · rw [(tak_items h1 h2).1] at h; cases h
    · exact ⟨Classical.not_not.1 fun h3 => h1 (.inl h3), Int.not_lt.1 fun h3 => h1 (.inr h3), by omega, (tak_ok h1 h2).2⟩
theorem lay_zero (h : layE l k n = 0) : IsB k ∧ 0 ≤ n ∧ totB l (k.getD 3 0) + n ≤ 1125899906842624 ∧ layX l k n = setB l k (qtyB l k + n) := by
  by_cases h1 : ¬ IsB k ∨ n < 0
  · rw [(lay_arg h1).1] at h; cases h
  · by_cases h2 : 1125899906842624 - totB l (k.getD 3 0) < n
    · rw [(lay_over h1 h2).1] at h; cases h
    · exact ⟨Classical.not_not.1 fun h3 => h1 (.inl h3), Int.not_lt.1 fun h3 => h1 (.inr h3), by omega, (lay_ok h1 h2).2⟩
theorem tot_tak (h : GooL l) (hk : k.length = 4) (h2 : takE l k n = 0) : totB (takX l k n) t = totB l t - (if k.getD 3 0 = t then n else 0) := by
  rw [(tak_zero h2).2.2.2, tot_set h.srt h.wide hk]; split <;> omega
theorem goo_mov (h : GooL l) (hk : k.length = 4) (hm : m.length = 4) : GooL (movX l k m n) ∧ (movX l k m n).length ≤ l.length + 2 ∧ ∀ t, totB (movX l k m n) t = totB l t := by
  by_cases h1 : ¬ IsB m ∨ k.getD 3 0 ≠ m.getD 3 0
  · rw [(mov_arg h1).2]; exact ⟨h, by omega, fun _ => rfl⟩
  · by_cases h2 : takE l k n = 0
    · rw [(mov_ok h1 h2).2]
      obtain ⟨g1, g2⟩ := goo_tak (n := n) h hk
      have ht := tot_tak (t := m.getD 3 0) h hk h2
      obtain ⟨hi, hn, hle, _⟩ := tak_zero h2
      have hi2 : IsB m := Classical.not_not.1 fun h3 => h1 (.inl h3)
      have he : k.getD 3 0 = m.getD 3 0 := Classical.not_not.1 fun h3 => h1 (.inr h3)
      rw [if_pos he] at ht
      have hq := g1.qty hm
      have hx := h.max (m.getD 3 0)
      refine ⟨g1.set hm hi2 (by omega) (by omega), Nat.le_trans len_setB (by omega), fun t => ?_⟩
      have ht2 := tot_tak (t := t) h hk h2
      rw [tot_set g1.srt g1.wide hm, ht2, he]; split <;> omega
    · rw [(mov_no h1 h2).2]; exact ⟨h, by omega, fun _ => rfl⟩
end
/-! Many at once: put (true) or taken. -/
def dE (d : Bool) (l : List (List Int)) (k : List Int) (n : Int) : Int := match d with | true => layE l k n | false => takE l k n
def dX (d : Bool) (l : List (List Int)) (k : List Int) (n : Int) : List (List Int) := match d with | true => layX l k n | false => takX l k n
def runE (d : Bool) (k0 k1 k2 : Int) : List (List Int) → List Stack → Int
  | _, [] => 0
  | l, x :: s => if dE d l [k0, k1, k2, x.1] x.2 = 0 then runE d k0 k1 k2 (dX d l [k0, k1, k2, x.1] x.2) s else dE d l [k0, k1, k2, x.1] x.2
def runX (d : Bool) (k0 k1 k2 : Int) : List (List Int) → List Stack → List (List Int)
  | l, [] => l
  | l, x :: s => runX d k0 k1 k2 (dX d l [k0, k1, k2, x.1] x.2) s
def AllOk (k0 k1 k2 : Int) (s : List Stack) : Prop := IsB [k0, k1, k2, 1] ∧ Goods s 32
instance {k0 k1 k2 : Int} {s : List Stack} : Decidable (AllOk k0 k1 k2 s) := by unfold AllOk; infer_instance
def allE (d : Bool) (l : List (List Int)) (k0 k1 k2 : Int) (s : List Stack) : Int := if AllOk k0 k1 k2 s then runE d k0 k1 k2 l s else 1
def allX (d : Bool) (l : List (List Int)) (k0 k1 k2 : Int) (s : List Stack) : List (List Int) := if allE d l k0 k1 k2 s = 0 then runX d k0 k1 k2 l s else l
section
variable {l y : List (List Int)} {k : List Int} {n k0 k1 k2 : Int} {d : Bool} {s : List Stack} {i : Nat}
theorem goo_d (h : GooL l) (hk : k.length = 4) : GooL (dX d l k n) ∧ (dX d l k n).length ≤ l.length + 1 := by
  cases d
  · exact goo_tak h hk
  · exact goo_lay h hk
theorem goo_run : ∀ {s : List Stack} {l : List (List Int)}, GooL l → GooL (runX d k0 k1 k2 l s) ∧ (runX d k0 k1 k2 l s).length ≤ l.length + s.length
  | [], l, h => ⟨h, Nat.le_refl _⟩
  | x :: s, l, h => by
    obtain ⟨h1, h2⟩ := goo_d (d := d) (k := [k0, k1, k2, x.1]) (n := x.2) h rfl
    obtain ⟨h3, h4⟩ := goo_run (s := s) h1
    exact ⟨h3, by simp only [runX, List.length_cons]; omega⟩
theorem run_next (hi : i < s.length) (h0 : dE d y [k0, k1, k2, gx s i] (gq s i) = 0) :
    runE d k0 k1 k2 y (s.drop i) = runE d k0 k1 k2 (dX d y [k0, k1, k2, gx s i] (gq s i)) (s.drop (i + 1)) ∧ runX d k0 k1 k2 y (s.drop i) = runX d k0 k1 k2 (dX d y [k0, k1, k2, gx s i] (gq s i)) (s.drop (i + 1)) := by
  rw [drop_cons hi]; exact ⟨if_pos h0, rfl⟩
theorem run_stop (hi : i < s.length) (h0 : dE d y [k0, k1, k2, gx s i] (gq s i) ≠ 0) : runE d k0 k1 k2 y (s.drop i) = dE d y [k0, k1, k2, gx s i] (gq s i) := by
  rw [drop_cons hi]; exact if_neg h0
theorem run_end : runE d k0 k1 k2 y (s.drop s.length) = 0 ∧ runX d k0 k1 k2 y (s.drop s.length) = y := by
  rw [List.drop_length]; exact ⟨rfl, rfl⟩
theorem all_arg (h : ¬ AllOk k0 k1 k2 s) : allE d l k0 k1 k2 s = 1 ∧ allX d l k0 k1 k2 s = l := by
  unfold allX; rw [show allE d l k0 k1 k2 s = 1 from if_neg h]; exact ⟨rfl, if_neg (by decide)⟩
theorem all_go (h : AllOk k0 k1 k2 s) : allE d l k0 k1 k2 s = runE d k0 k1 k2 l s := if_pos h
theorem all_stop {e : Int} (h : AllOk k0 k1 k2 s) (h1 : runE d k0 k1 k2 l s = e) (h2 : e ≠ 0) : allE d l k0 k1 k2 s = e ∧ allX d l k0 k1 k2 s = l := by
  have e1 := (all_go (d := d) (l := l) h).trans h1
  unfold allX; rw [e1]; exact ⟨rfl, if_neg h2⟩
theorem all_done (h : AllOk k0 k1 k2 s) (h1 : runE d k0 k1 k2 l s = 0) (h2 : runX d k0 k1 k2 l s = y) : allE d l k0 k1 k2 s = 0 ∧ allX d l k0 k1 k2 s = y := by
  have e1 := (all_go (d := d) (l := l) h).trans h1
  unfold allX; rw [e1]; exact ⟨rfl, (if_pos rfl).trans h2⟩
theorem goo_all (h : GooL l) : GooL (allX d l k0 k1 k2 s) ∧ (allX d l k0 k1 k2 s).length ≤ l.length + 8 := by
  by_cases h1 : AllOk k0 k1 k2 s
  · have h8 := h1.2.2
    unfold allX
    split
    · obtain ⟨g1, g2⟩ := goo_run (d := d) (k0 := k0) (k1 := k1) (k2 := k2) (s := s) h
      exact ⟨g1, by omega⟩
    · exact ⟨h, by omega⟩
  · rw [(all_arg h1).2]; exact ⟨h, by omega⟩
theorem goods_at (h : Goods s 32) (hi : i < s.length) : 1 ≤ gx s i ∧ gx s i ≤ 32 ∧ 1 ≤ gq s i ∧ gq s i ≤ 1125899906842624 := by
  obtain ⟨h1, h2⟩ := asc_up.1 h.1
  have h3 := up_get h1 hi
  have h4 := h2 i hi
  omega
end
/-! Acts. -/
structure BAct where
  (k n a0 a1 a2 a3 b0 b1 b2 b3 : Int)
  s : List Stack
  sa : Option Addr
  sc : Nat
instance : Inhabited BAct := ⟨⟨0, 0, 0, 0, 0, 0, 0, 0, 0, 0, [], none, 0⟩⟩
abbrev gA (A : List BAct) (i : Nat) : BAct := A.getD i default
def acs (r : BAct) : List Value := [.int .i64 r.k, .int .i64 r.n, .int .i64 r.a0, .int .i64 r.a1, .int .i64 r.a2, .int .i64 r.a3, .int .i64 r.b0, .int .i64 r.b1, .int .i64 r.b2, .int .i64 r.b3, .slice r.sa r.s.length r.sc]
def actE (l : List (List Int)) (r : BAct) : Int :=
  if r.k = 1 then layE l [r.a0, r.a1, r.a2, r.a3] r.n else if r.k = 2 then takE l [r.a0, r.a1, r.a2, r.a3] r.n else if r.k = 3 then movE l [r.a0, r.a1, r.a2, r.a3] [r.b0, r.b1, r.b2, r.b3] r.n
  else if r.k = 4 then allE true l r.a0 r.a1 r.a2 r.s else allE false l r.a0 r.a1 r.a2 r.s
def actX (l : List (List Int)) (r : BAct) : List (List Int) :=
  if r.k = 1 then layX l [r.a0, r.a1, r.a2, r.a3] r.n else if r.k = 2 then takX l [r.a0, r.a1, r.a2, r.a3] r.n else if r.k = 3 then movX l [r.a0, r.a1, r.a2, r.a3] [r.b0, r.b1, r.b2, r.b3] r.n
  else if r.k = 4 then allX true l r.a0 r.a1 r.a2 r.s else allX false l r.a0 r.a1 r.a2 r.s
section
variable {l : List (List Int)} {r : BAct}
theorem act1 (h : r.k = 1) : actE l r = layE l [r.a0, r.a1, r.a2, r.a3] r.n ∧ actX l r = layX l [r.a0, r.a1, r.a2, r.a3] r.n := ⟨if_pos h, if_pos h⟩
theorem act2 (h1 : ¬ r.k = 1) (h : r.k = 2) : actE l r = takE l [r.a0, r.a1, r.a2, r.a3] r.n ∧ actX l r = takX l [r.a0, r.a1, r.a2, r.a3] r.n := ⟨(if_neg h1).trans (if_pos h), (if_neg h1).trans (if_pos h)⟩
theorem act3 (h1 : ¬ r.k = 1) (h2 : ¬ r.k = 2) (h : r.k = 3) : actE l r = movE l [r.a0, r.a1, r.a2, r.a3] [r.b0, r.b1, r.b2, r.b3] r.n ∧ actX l r = movX l [r.a0, r.a1, r.a2, r.a3] [r.b0, r.b1, r.b2, r.b3] r.n :=
  ⟨(if_neg h1).trans ((if_neg h2).trans (if_pos h)), (if_neg h1).trans ((if_neg h2).trans (if_pos h))⟩
theorem act4 (h1 : ¬ r.k = 1) (h2 : ¬ r.k = 2) (h3 : ¬ r.k = 3) (h : r.k = 4) : actE l r = allE true l r.a0 r.a1 r.a2 r.s ∧ actX l r = allX true l r.a0 r.a1 r.a2 r.s :=
  ⟨(if_neg h1).trans ((if_neg h2).trans ((if_neg h3).trans (if_pos h))), (if_neg h1).trans ((if_neg h2).trans ((if_neg h3).trans (if_pos h)))⟩
theorem act5 (h1 : ¬ r.k = 1) (h2 : ¬ r.k = 2) (h3 : ¬ r.k = 3) (h : ¬ r.k = 4) : actE l r = allE false l r.a0 r.a1 r.a2 r.s ∧ actX l r = allX false l r.a0 r.a1 r.a2 r.s :=
  ⟨(if_neg h1).trans ((if_neg h2).trans ((if_neg h3).trans (if_neg h))), (if_neg h1).trans ((if_neg h2).trans ((if_neg h3).trans (if_neg h)))⟩
theorem goo_act (h : GooL l) : GooL (actX l r) ∧ (actX l r).length ≤ l.length + 8 := by
  by_cases h1 : r.k = 1
  · rw [(act1 h1).2]; obtain ⟨g1, g2⟩ := goo_lay (k := [r.a0, r.a1, r.a2, r.a3]) (n := r.n) h rfl; exact ⟨g1, by omega⟩
  by_cases h2 : r.k = 2
  · rw [(act2 h1 h2).2]; obtain ⟨g1, g2⟩ := goo_tak (k := [r.a0, r.a1, r.a2, r.a3]) (n := r.n) h rfl; exact ⟨g1, by omega⟩
  by_cases h3 : r.k = 3
  · rw [(act3 h1 h2 h3).2]; obtain ⟨g1, g2, _⟩ := goo_mov (k := [r.a0, r.a1, r.a2, r.a3]) (m := [r.b0, r.b1, r.b2, r.b3]) (n := r.n) h rfl rfl; exact ⟨g1, by omega⟩
  by_cases h4 : r.k = 4
  · rw [(act4 h1 h2 h3 h4).2]; exact goo_all h
  · rw [(act5 h1 h2 h3 h4).2]; exact goo_all h
theorem act_stay (h : actE l r ≠ 0) : actX l r = l := by
  by_cases h1 : r.k = 1
  · rw [(act1 h1).1] at h; rw [(act1 h1).2]; exact if_neg h
  by_cases h2 : r.k = 2
  · rw [(act2 h1 h2).1] at h; rw [(act2 h1 h2).2]; exact if_neg h
  by_cases h3 : r.k = 3
  · rw [(act3 h1 h2 h3).1] at h; rw [(act3 h1 h2 h3).2]; exact if_neg h
  by_cases h4 : r.k = 4
  · rw [(act4 h1 h2 h3 h4).1] at h; rw [(act4 h1 h2 h3 h4).2]; exact if_neg h
  · rw [(act5 h1 h2 h3 h4).1] at h; rw [(act5 h1 h2 h3 h4).2]; exact if_neg h
theorem act_tot (hg : GooL l) (h3 : r.k = 3) (t : Int) : totB (actX l r) t = totB l t := by
  rw [(act3 (by omega) (by omega) h3).2]; exact (goo_mov hg rfl rfl).2.2 t
end
def ast (l : List (List Int)) (A : List BAct) : Nat → List (List Int)
  | 0 => l
  | i + 1 => actX (ast l A i) (gA A i)
theorem goo_ast {l : List (List Int)} {A : List BAct} (h : GooL l) : ∀ i : Nat, GooL (ast l A i) ∧ (ast l A i).length ≤ l.length + 8 * i
  | 0 => ⟨h, by simp [ast]⟩
  | i + 1 => by
    obtain ⟨h1, h2⟩ := goo_ast (A := A) h i
    obtain ⟨h3, h4⟩ := goo_act (r := gA A i) h1
    exact ⟨h3, by simp only [ast]; omega⟩
/-! What lies at a division. -/
def stk (r : List Int) : Stack := (r.getD 3 0, r.getD 4 0)
def ofS (l : List (List Int)) (k0 k1 k2 : Int) : List Stack := (rngR l [k0, k1, k2, 1] [k0, k1, k2, 33]).map stk
def ofI (l : List (List Int)) (k0 k1 k2 : Int) (i : Nat) : List Stack := ((l.take (bel l [k0, k1, k2, (i : Int) + 1])).drop (bel l [k0, k1, k2, 1])).map stk
section
variable {l : List (List Int)} {k0 k1 k2 : Int} {i : Nat}
theorem kc_succ {a : List Int} (ha : a.length = 4) (t : Int) : kcmp a [k0, k1, k2, t + 1] < 0 ↔ kcmp a [k0, k1, k2, t] < 0 ∨ a = [k0, k1, k2, t] := by
  obtain ⟨a0, a1, a2, a3, rfl⟩ := four ha
  rw [kcmp4, kcmp4]
  simp only [List.cons.injEq, and_true]
  omega
theorem bel_succ (hs : Srt l) (hw : Wide 5 l) (t : Int) : bel l [k0, k1, k2, t + 1] = bel l [k0, k1, k2, t] + (if hasK l [k0, k1, k2, t] = true then 1 else 0) := by
  have hle := bel_le l [k0, k1, k2, t]
  refine bel_found hs hw (by decide) rfl ?_ (fun j hj => ?_) (fun j hj hl h => ?_)
  · cases hh : hasK l [k0, k1, k2, t]
    · simpa using hle
    · have := has_lt hs hw (by decide) rfl hh
      simp; omega
  · have hjl : j < l.length := by
      cases hh : hasK l [k0, k1, k2, t]
      · rw [hh] at hj; simp at hj; omega
      · have := has_lt hs hw (by decide) rfl hh
        rw [if_pos hh] at hj; omega
    rw [kc_succ (ky_len (hw.get hjl) (by decide))]
    by_cases hb : j < bel l [k0, k1, k2, t]
    · exact .inl ((bel_iff hs hw (by decide) rfl j hjl).2 hb)
    · cases hh : hasK l [k0, k1, k2, t]
      · rw [hh] at hj; simp at hj; omega
      · rw [if_pos hh] at hj
        have : j = bel l [k0, k1, k2, t] := by omega
        subst this
        exact .inr ((has_iff hs hw (by decide) rfl).1 hh).2
  · rw [kc_succ (ky_len (hw.get hl) (by decide))] at h
    rcases h with h | h
    · have := (bel_iff hs hw (by decide) rfl j hl).1 h; omega
    · have h1 := bel_key hs hw rfl hl h
      rw [if_pos (has_key hl h)] at hj; omega
theorem of_zero : ofI l k0 k1 k2 0 = [] := by unfold ofI; simp
theorem bel_ge (hs : Srt l) (hw : Wide 5 l) : ∀ i : Nat, bel l [k0, k1, k2, 1] ≤ bel l [k0, k1, k2, (i : Int) + 1]
  | 0 => by simp
  | i + 1 => by
    have h1 := bel_ge hs hw i
    have h2 := bel_succ (k0 := k0) (k1 := k1) (k2 := k2) hs hw ((i : Int) + 1)
    rw [show ((i + 1 : Nat) : Int) + 1 = (i : Int) + 1 + 1 by omega]; omega
theorem of_has (h : GooL l) (hq : 0 < qtyB l [k0, k1, k2, (i : Int) + 1]) : ofI l k0 k1 k2 (i + 1) = ofI l k0 k1 k2 i ++ [((i : Int) + 1, qtyB l [k0, k1, k2, (i : Int) + 1])] := by
  have hh : hasK l [k0, k1, k2, (i : Int) + 1] = true := by
    cases hh : hasK l [k0, k1, k2, (i : Int) + 1]
    · unfold qtyB at hq; rw [hh] at hq; simp at hq
    · rfl
  obtain ⟨h1, h2⟩ := (has_iff h.srt h.wide (by decide) rfl).1 hh
  have hb := bel_succ (k0 := k0) (k1 := k1) (k2 := k2) h.srt h.wide ((i : Int) + 1)
  rw [if_pos hh] at hb
  have hg := bel_ge (k0 := k0) (k1 := k1) (k2 := k2) h.srt h.wide i
  unfold ofI
  rw [show ((i + 1 : Nat) : Int) + 1 = (i : Int) + 1 + 1 by omega, hb, take_gr h1, List.drop_append_of_le_length (by rw [List.length_take]; omega), List.map_append]
  congr 1
  have e3 : (gr l (bel l [k0, k1, k2, (i : Int) + 1])).getD 3 0 = (i : Int) + 1 := by rw [ky3 (h.wide.get h1), h2]; rfl
  have e4 : qtyB l [k0, k1, k2, (i : Int) + 1] = (gr l (bel l [k0, k1, k2, (i : Int) + 1])).getD 4 0 := if_pos hh
  rw [e4]
  show [stk (gr l (bel l [k0, k1, k2, (i : Int) + 1]))] = _
  unfold stk; rw [e3]
theorem of_not (h : GooL l) (hq : ¬ 0 < qtyB l [k0, k1, k2, (i : Int) + 1]) : ofI l k0 k1 k2 (i + 1) = ofI l k0 k1 k2 i := by
  have hh : hasK l [k0, k1, k2, (i : Int) + 1] = false := by
    cases hh : hasK l [k0, k1, k2, (i : Int) + 1]
    · rfl
    · obtain ⟨h1, h2⟩ := (has_iff h.srt h.wide (by decide) rfl).1 hh
      have := h.pos _ (show gr l (bel l [k0, k1, k2, (i : Int) + 1]) ∈ l by rw [gr_eq h1]; exact List.getElem_mem _)
      have e4 : qtyB l [k0, k1, k2, (i : Int) + 1] = (gr l (bel l [k0, k1, k2, (i : Int) + 1])).getD 4 0 := if_pos hh
      omega
  have hb := bel_succ (k0 := k0) (k1 := k1) (k2 := k2) h.srt h.wide ((i : Int) + 1)
  rw [hh] at hb
  unfold ofI
  rw [show ((i + 1 : Nat) : Int) + 1 = (i : Int) + 1 + 1 by omega, hb]; simp
theorem of_done (hs : Srt l) (hw : Wide 5 l) : ofI l k0 k1 k2 32 = ofS l k0 k1 k2 := by
  have := bel_ge (k0 := k0) (k1 := k1) (k2 := k2) hs hw 32
  unfold ofI ofS rngR
  rw [show ((32 : Nat) : Int) + 1 = 33 by omega] at this ⊢
  rw [Nat.max_eq_right this]
theorem of_len (i : Nat) : (ofI l k0 k1 k2 i).length ≤ l.length := by
  unfold ofI; rw [List.length_map, List.length_drop, List.length_take]; omega
theorem ofS_len : (ofS l k0 k1 k2).length ≤ l.length := by
  unfold ofS rngR; rw [List.length_map, List.length_drop, List.length_take]; omega
theorem tot_out (h : GooL l) {t : Int} (ht : ¬ (1 ≤ t ∧ t ≤ 32)) : totB l t = 0 := by
  have : ∀ {m : List (List Int)}, Wide 5 m → (∀ r ∈ m, IsB (ky r)) → totB m t = 0 := by
    intro m
    induction m with
    | nil => intros; rfl
    | cons r m ih =>
      intro hw hi
      have h1 := (hi r (by simp)).2.2.2
      rw [← ky3 (hw r (by simp))] at h1
      have h2 := ih (fun x hx => hw x (by simp [hx])) (fun x hx => hi x (by simp [hx]))
      simp only [totB, h2]
      rw [if_neg (by omega)]; rfl
  exact this h.wide h.is
theorem tot_eq {T : List Int} (h : GooL l) (ht : Tots l T) (t : Int) : (if 1 ≤ t ∧ t ≤ 32 then T.getD t.toNat 0 else 0) = totB l t := by
  split
  · rename_i h1; exact ht.h t h1.1 h1.2
  · rename_i h1; exact (tot_out h h1).symm
theorem tot_part (h : GooL l) (hi : i ≤ l.length) (t : Int) : 0 ≤ totB (l.take i) t ∧ totB (l.take i) t ≤ totB l t := by
  have h1 := totB_nonneg (l := l.take i) (t := t) (fun r hr => h.nn r (List.mem_of_mem_take hr))
  have h2 := totB_nonneg (l := l.drop i) (t := t) (fun r hr => h.nn r (List.mem_of_mem_drop hr))
  have h3 := totB_split (l := l) (i := i) (t := t)
  omega
end
/-- Stacks that lie off a block. -/
structure StksO (H : Heap) (p : Nat) (a : Option Addr) (l : List Stack) : Prop where
  st : Stks H a l
  off : ∀ g o, a = some ⟨g, o, none⟩ → 0 < l.length → g ≠ p
section
variable {H H1 : Heap} {a : Option Addr} {p b off n i : Nat} {l : List Stack} {t : TypeId} {cs : List Value}
theorem Stks.at' (h : Stks H a l) : ∃ ba off, 0 < l.length → a = some ⟨ba, off, none⟩ ∧ StksAt H ba off l := by
  rcases h with h0 | ⟨ba, off, h1, h2⟩
  · exact ⟨0, 0, fun h => by omega⟩
  · exact ⟨ba, off, fun _ => ⟨h1, h2⟩⟩
theorem StksAt.but (h : StksAt H b off l) (u : But p H H1) (hne : b ≠ p) : StksAt H1 b off l := fun k hk => ⟨cellAt_but (h k hk).1 u hne, cellAt_but (h k hk).2 u hne⟩
theorem StksO.but (h : StksO H p a l) (u : But p H H1) : Stks H1 a l := by
  rcases h.st with h0 | ⟨g, o, h1, h2⟩
  · exact .inl h0
  · rcases Nat.eq_zero_or_pos l.length with h0 | h0
    · exact .inl h0
    · exact .inr ⟨g, o, h1, h2.but u (h.off g o h1 h0)⟩
theorem StksO.butO (h : StksO H p a l) (u : But p H H1) : StksO H1 p a l := ⟨h.but u, h.off⟩
theorem StksO.ext (h : StksO H p a l) (e : Ext H H1) : StksO H1 p a l := ⟨h.st.ext e, h.off⟩
theorem stksAt_lt (h : StksAt H b off l) (h0 : 0 < l.length) : b < H.size := cellAt_lt (h 0 h0).1
theorem stksO_new (h : Stks H a l) (x : Ext H H1) (hp : H.size ≤ p) : StksO H1 p a l := by
  refine ⟨h.ext x, fun g o e h0 => ?_⟩
  rcases h with h1 | ⟨g', o', h1, h2⟩
  · omega
  · rw [h1] at e; cases e
    have := stksAt_lt h2 h0
    omega
/-- Acts in memory. -/
def ActsAt (H : Heap) (b off : Nat) (A : List BAct) : Prop := ∀ i, i < A.length → Row H b (off + i * 11) (acs (gA A i)) ∧ Stks H (gA A i).sa (gA A i).s
def Acts (H : Heap) (a : Option Addr) (A : List BAct) : Prop := A.length = 0 ∨ ∃ b off, a = some ⟨b, off, none⟩ ∧ ActsAt H b off A
variable {A : List BAct}
theorem row_ext {n : Nat} (h : Row H b n cs) (e : Ext H H1) : Row H1 b n cs := fun i v hv => cellAt_ext (h i v hv) e
theorem ActsAt.ext (h : ActsAt H b off A) (e : Ext H H1) : ActsAt H1 b off A := fun i hi => ⟨row_ext (h i hi).1 e, (h i hi).2.ext e⟩
theorem Acts.ext (h : Acts H a A) (e : Ext H H1) : Acts H1 a A := by
  rcases h with h | ⟨b, off, h1, h2⟩
  · exact .inl h
  · exact .inr ⟨b, off, h1, h2.ext e⟩
theorem Acts.at' (h : Acts H a A) : ∃ ba off, 0 < A.length → a = some ⟨ba, off, none⟩ ∧ ActsAt H ba off A := by
  rcases h with h0 | ⟨ba, off, h1, h2⟩
  · exact ⟨0, 0, fun h => by omega⟩
  · exact ⟨ba, off, fun _ => ⟨h1, h2⟩⟩
theorem ld_act (h : ActsAt H b off A) (hi : i < A.length) : Ld H b (off + i * 11) true 11 (.agg (acs (gA A i)).toArray) := ⟨acs (gA A i), rfl, rfl, fun j v hj => (h i hi).1 j v hj⟩
theorem ld_acell (h : ActsAt H b off A) (hi : i < A.length) {j : Nat} {v : Value} (hj : (acs (gA A i))[j]? = some v) : cellAt H b (off + i * 11 + j) = some v := (h i hi).1 j v hj
theorem Acts.stks (h : Acts H a A) (hi : i < A.length) : Stks H (gA A i).sa (gA A i).s := by
  rcases h with h | ⟨b, off, h1, h2⟩
  · omega
  · exact (h2 i hi).2
theorem row5 {r : List Int} (h : r.length = 5) : [(ky r).getD 0 0, (ky r).getD 1 0, (ky r).getD 2 0, (ky r).getD 3 0, r.getD 4 0] = r := by
  match r, h with
  | [a, b, c, d, e], _ => rfl
theorem five {r : List Int} (h : r.length = 5) : ∃ a b c d e, r = [a, b, c, d, e] := by
  match r, h with
  | [a, b, c, d, e], _ => exact ⟨_, _, _, _, _, rfl⟩
theorem fls_take {m : List (List Int)} (hw : Wide 5 m) (hi : i < m.length) : fl ((m.take (i + 1)).map stk) = fl ((m.take i).map stk) ++ [.int .i64 ((ky (gr m i)).getD 3 0), .int .i64 ((gr m i).getD 4 0)] := by
  rw [take_gr hi, List.map_append, List.map_singleton, fl_snoc]
  show _ ++ [Value.int .i64 ((gr m i).getD 3 0), Value.int .i64 ((gr m i).getD 4 0)] = _
  rw [ky3 (hw.get hi)]
end
def ldB (L : List (List Int)) : Nat → List (List Int)
  | 0 => []
  | i + 1 => putR (ldB L i) (gr L i)
structure OkB (y : List (List Int)) (r : List Int) : Prop where
  is : IsB (ky r)
  pos : 1 ≤ r.getD 4 0
  le : r.getD 4 0 ≤ 1125899906842624
  new : hasK y (ky r) = false
def OksB (L : List (List Int)) (i : Nat) : Prop := ∀ j, j < i → OkB (ldB L j) (gr L j)
def LdrB (L : List (List Int)) (e : Int) : Prop :=
  (e = 1 ∧ ∃ i, i < L.length ∧ OksB L i ∧ ¬ OkB (ldB L i) (gr L i)) ∨ OksB L L.length ∧ (e = 5 ∧ (∃ t, 1125899906842624 < totB (ldB L L.length) t) ∨ e = 0 ∧ ∀ t, totB (ldB L L.length) t ≤ 1125899906842624)
section
variable {L y : List (List Int)} {i : Nat} {e e' t : Int} {T : List Int} {ov : Bool} {r : List Int}
theorem LdrB.uniq (h : LdrB L e) (h' : LdrB L e') : e = e' := by
  rcases h with ⟨h1, i, h2, h3, h4⟩ | ⟨h1, h2⟩ <;> rcases h' with ⟨g1, j, g2, g3, g4⟩ | ⟨g1, g2⟩
  · omega
  · exact absurd (g1 i h2) h4
  · exact absurd (h1 j g2) g4
  · rcases h2 with ⟨h2, t, h3⟩ | ⟨h2, h3⟩ <;> rcases g2 with ⟨g2, u, g3⟩ | ⟨g2, g3⟩
    · omega
    · exact absurd (g3 t) (by omega)
    · exact absurd (h3 u) (by omega)
    · omega
structure Half (y : List (List Int)) (i : Nat) : Prop where
  wide : Wide 5 y
  srt : Srt y
  is : ∀ r ∈ y, IsB (ky r)
  pos : ∀ r ∈ y, 1 ≤ r.getD 4 0
  le : ∀ r ∈ y, r.getD 4 0 ≤ 1125899906842624
  len : y.length ≤ i
theorem lds_half (hw : Wide 5 L) : ∀ {i : Nat}, i ≤ L.length → OksB L i → Half (ldB L i) i
  | 0, _, _ => ⟨fun _ h => (by cases h), srt_nil, fun _ h => (by cases h), fun _ h => (by cases h), fun _ h => (by cases h), Nat.le_refl _⟩
  | i + 1, hi, h => by
    have h1 := lds_half hw (i := i) (by omega) (fun j hj => h j (by omega))
    have hb := h i (by omega)
    have h5 := hw.get (show i < L.length by omega)
    refine ⟨wide_put h1.wide h5, srt_put h1.srt h1.wide (by decide) h5, fun r hr => ?_, fun r hr => ?_, fun r hr => ?_, Nat.le_trans (put_len _ _) (by have := h1.len; omega)⟩
    all_goals rcases mem_put hr with hr | rfl
    · exact h1.is r hr
    · exact hb.is
    · exact h1.pos r hr
    · exact hb.pos
    · exact h1.le r hr
    · exact hb.le
theorem tot_put (h : hasK y (ky r) = false) : totB (putR y r) t = totB y t + (if r.getD 3 0 = t then r.getD 4 0 else 0) := by
  have hs := totB_split (l := y) (i := bel y (ky r)) (t := t)
  unfold putR
  rw [h, totB_app]
  simp only [totB, Bool.false_eq_true, if_false, Nat.add_zero]; omega
theorem Half.nn (h : Half y i) : ∀ r ∈ y, 0 ≤ r.getD 4 0 := fun r hr => by have := h.pos r hr; omega
theorem Half.tot (h : Half y i) : 0 ≤ totB y t ∧ totB y t ≤ (y.length : Nat) * 1125899906842624 := by
  refine ⟨totB_nonneg h.nn, ?_⟩
  have hl := h.le
  clear h
  induction y with
  | nil => simp [totB]
  | cons r y ih =>
    have h1 := ih (fun s hs => hl s (by simp [hs]))
    have h2 := hl r (by simp)
    simp only [totB, List.length_cons]
    split <;> omega
theorem Half.goo (h : Half y i) (hm : ∀ t, totB y t ≤ 1125899906842624) : GooL y := ⟨h.wide, h.srt, h.is, h.pos, hm⟩
theorem Half.out (h : Half y i) (ht : ¬ (1 ≤ t ∧ t ≤ 32)) : totB y t = 0 := by
  have : ∀ {m : List (List Int)}, Wide 5 m → (∀ r ∈ m, IsB (ky r)) → totB m t = 0 := by
    intro m
    induction m with
    | nil => intros; rfl
    | cons r m ih =>
      intro hw hi
      have h1 := (hi r (by simp)).2.2.2
      rw [← ky3 (hw r (by simp))] at h1
      have h2 := ih (fun x hx => hw x (by simp [hx])) (fun x hx => hi x (by simp [hx]))
      simp only [totB, h2]
      rw [if_neg (by omega)]; rfl
  exact this h.wide h.is
theorem Half.part (h : Half y i) (j : Nat) (t : Int) : 0 ≤ totB (y.take j) t ∧ totB (y.take j) t ≤ totB y t := by
  have h1 := totB_nonneg (l := y.take j) (t := t) (fun r hr => h.nn r (List.mem_of_mem_take hr))
  have h2 := totB_nonneg (l := y.drop j) (t := t) (fun r hr => h.nn r (List.mem_of_mem_drop hr))
  have h3 := totB_split (l := y) (i := j) (t := t)
  omega
/-- What the document asks of a lot's number. -/
theorem Half.qty (h : Half y i) {k : List Int} (hk : k.length = 4) : 0 < qtyB y k ↔ hasK y k = true := by
  unfold qtyB
  cases hh : hasK y k
  · simp
  · obtain ⟨h1, h2⟩ := (has_iff h.srt h.wide (by decide) hk).1 hh
    have := h.pos _ (show gr y (bel y k) ∈ y by rw [gr_eq h1]; exact List.getElem_mem _)
    simp only [if_pos]
    exact ⟨fun _ => trivial, fun _ => by omega⟩
theorem Half.set (h : Half y i) (hr : OkB y r) (h5 : r.length = 5) : setB y (ky r) (r.getD 4 0) = putR y r := by
  have hp := hr.pos
  have e : ky r ++ [r.getD 4 0] = r := by
    match r, h5 with
    | [a, b, c, d, e], _ => rfl
  unfold setB
  rw [if_neg (by omega), e]
/-- The totals while lots are loaded. -/
structure TInv (L : List (List Int)) (i : Nat) (T : List Int) (ov : Bool) : Prop where
  ok : OksB L i
  len : T.length = 33
  h : ∀ t : Int, 1 ≤ t → t ≤ 32 → T.getD t.toNat 0 = min (totB (ldB L i) t) 1125899906842624
  f : ov = false → ∀ t, totB (ldB L i) t ≤ 1125899906842624
  t : ov = true → ∃ t, 1125899906842624 < totB (ldB L i) t
theorem rep_get {n k : Nat} : (List.replicate n (0 : Int)).getD k 0 = 0 := by
  simp only [List.getD, List.getElem?_replicate]; split <;> rfl
theorem tinv_nil : TInv L 0 (List.replicate 33 0) false := by
  refine ⟨fun j h => absurd h (by omega), rfl, fun t h1 h2 => ?_, fun _ t => by simp [ldB, totB], fun h => (by cases h)⟩
  rw [rep_get]; show (0 : Int) = min 0 1125899906842624; omega
theorem TInv.bad (h : TInv L i T ov) (hi : i < L.length) (hb : ¬ OkB (ldB L i) (gr L i)) : LdrB L 1 := .inl ⟨rfl, i, hi, h.ok, hb⟩
theorem get_set {j k : Nat} {v : Int} (hj : j < T.length) : (T.set j v).getD k 0 = if k = j then v else T.getD k 0 := by
  simp only [List.getD]
  by_cases h : k = j
  · subst h; rw [if_pos rfl, List.getElem?_set_self hj, Option.getD_some]
  · rw [if_neg h, List.getElem?_set_ne (fun h2 => h h2.symm)]
theorem TInv.next (h : TInv L i T ov) (hw : Wide 5 L) (hi : i < L.length) (hb : OkB (ldB L i) (gr L i)) {n : Int} (hn : n = T.getD ((gr L i).getD 3 0).toNat 0 + (gr L i).getD 4 0) :
    (1125899906842624 < n → TInv L (i + 1) (T.set ((gr L i).getD 3 0).toNat 1125899906842624) true) ∧ (¬ 1125899906842624 < n → TInv L (i + 1) (T.set ((gr L i).getD 3 0).toNat n) ov) := by
  have hh := lds_half hw (by omega) h.ok
  have h3 := hb.is.2.2.2
  rw [← ky3 (hw.get hi)] at h3
  have hq := hb.pos
  have hok : OksB L (i + 1) := all_next h.ok hb
  have hp : ∀ t, totB (ldB L (i + 1)) t = totB (ldB L i) t + (if (gr L i).getD 3 0 = t then (gr L i).getD 4 0 else 0) := fun t => tot_put hb.new
  have hT := h.h _ h3.1 h3.2
  have hl := h.len
  generalize (gr L i).getD 3 0 = z at *
  generalize (gr L i).getD 4 0 = q at *
  constructor
  · intro hov
    refine ⟨hok, by rw [List.length_set]; exact hl, fun t h1 h2 => ?_, fun h => (by cases h), fun _ => ⟨z, by rw [hp, if_pos rfl]; omega⟩⟩
    rw [get_set (by omega), hp]
    have h0 := h.h t h1 h2
    by_cases he : z = t
    · subst he; rw [if_pos rfl, if_pos rfl]; omega
    · rw [if_neg (by omega), if_neg he, h0]; omega
  · intro hov
    refine ⟨hok, by rw [List.length_set]; exact hl, fun t h1 h2 => ?_, fun hf t => ?_, fun ht => ?_⟩
    · rw [get_set (by omega), hp]
      have h0 := h.h t h1 h2
      by_cases he : z = t
      · subst he; rw [if_pos rfl, if_pos rfl]; omega
      · rw [if_neg (by omega), if_neg he, h0]; omega
    · have h0 := h.f hf t
      rw [hp]
      by_cases he : z = t
      · subst he; rw [if_pos rfl]; omega
      · rw [if_neg he]; omega
    · obtain ⟨t, h0⟩ := h.t ht
      exact ⟨t, by rw [hp]; split <;> omega⟩
theorem TInv.done (h : TInv L L.length T false) (hw : Wide 5 L) : LdrB L 0 ∧ GooL (ldB L L.length) ∧ Tots (ldB L L.length) T := by
  refine ⟨.inr ⟨h.ok, .inr ⟨rfl, h.f rfl⟩⟩, (lds_half hw (Nat.le_refl _) h.ok).goo (h.f rfl), h.len, fun t h1 h2 => ?_⟩
  have := h.h t h1 h2
  have := h.f rfl t
  omega
theorem TInv.over (h : TInv L L.length T true) : LdrB L 5 := .inr ⟨h.ok, .inl ⟨rfl, h.t rfl⟩⟩
theorem ldr_ok (h : LdrB L 0) : OksB L L.length ∧ ∀ t, totB (ldB L L.length) t ≤ 1125899906842624 := by
  rcases h with ⟨h, _⟩ | ⟨h1, ⟨h, _⟩ | ⟨_, h⟩⟩
  · cases h
  · cases h
  · exact ⟨h1, h⟩
end
/-! The document's Move. -/
section
variable {l : List (List Int)} {k m : List Int} {n : Int}
theorem mov_arg' (h : ¬ IsB k ∨ ¬ IsB m ∨ k.getD 3 0 ≠ m.getD 3 0 ∨ n < 0) : movE l k m n = 1 ∧ movX l k m n = l := by
  by_cases h1 : ¬ IsB m ∨ k.getD 3 0 ≠ m.getD 3 0
  · exact mov_arg h1
  · have h2 : ¬ IsB k ∨ n < 0 := by
      rcases h with h | h | h | h
      · exact .inl h
      · exact absurd (.inl h) h1
      · exact absurd (.inr h) h1
      · exact .inr h
    have h3 := (tak_arg (l := l) h2).1
    obtain ⟨e1, e2⟩ := mov_no (l := l) (n := n) h1 (by rw [h3]; decide)
    exact ⟨e1.trans h3, e2⟩
theorem mov_lay (hg : GooL l) (hk : k.length = 4) (hm : IsB m) (he : k.getD 3 0 = m.getD 3 0) (h2 : takE l k n = 0) : layE (takX l k n) m n = 0 ∧ movE l k m n = 0 ∧ movX l k m n = layX (takX l k n) m n := by
  have h1 : ¬ (¬ IsB m ∨ k.getD 3 0 ≠ m.getD 3 0) := by rintro (h | h); exact h hm; exact h he
  obtain ⟨e1, e2⟩ := mov_ok h1 h2
  obtain ⟨_, hn, hle, _⟩ := tak_zero h2
  have ht := tot_tak (t := m.getD 3 0) hg hk h2
  rw [if_pos he] at ht
  have hx := hg.max (m.getD 3 0)
  obtain ⟨e3, e4⟩ := lay_ok (l := takX l k n) (k := m) (n := n) (by rintro (h | h); exact h hm; omega) (by omega)
  exact ⟨e3, e1, e2.trans e4.symm⟩
end
/-! What is put together is taken out again. -/
section
variable {l a b y : List (List Int)} {k k' : List Int} {n k0 k1 k2 : Int} {s : List Stack} {i : Nat}
theorem mem_set (hs : Srt l) (hw : Wide 5 l) (hk : k.length = 4) (r : List Int) : r ∈ setB l k n ↔ (r ∈ l ∧ ky r ≠ k) ∨ (n ≠ 0 ∧ r = k ++ [n]) := by
  unfold setB
  split
  · rename_i h0
    rw [← fil_all hs hw hk, List.mem_filter]
    simp [nk, h0]
  · rename_i h0
    rw [← put_fil hs hw hk]
    conv => lhs; rw [← fil_take hs hw hk (Nat.le_refl (bel l k))]
    have : r ∈ l ↔ r ∈ l.take (bel l k) ∨ r ∈ l.drop (bel l k) := by rw [← List.mem_append, List.take_append_drop]
    simp only [List.mem_append, List.mem_filter, List.mem_singleton, this]
    simp only [nk, decide_eq_true_eq]
    constructor
    · rintro ((⟨h1, h2⟩ | h1) | ⟨h1, h2⟩)
      · exact .inl ⟨.inl h1, h2⟩
      · exact .inr ⟨h0, h1⟩
      · exact .inl ⟨.inr h1, h2⟩
    · rintro (⟨h1 | h1, h2⟩ | ⟨_, h1⟩)
      · exact .inl (.inl ⟨h1, h2⟩)
      · exact .inr ⟨h1, h2⟩
      · exact .inl (.inr h1)
theorem qty_mem (hs : Srt l) (hw : Wide 5 l) {r : List Int} (hr : r ∈ l) : qtyB l (ky r) = r.getD 4 0 := by
  obtain ⟨i, hi, rfl⟩ := List.getElem_of_mem hr
  have h := qty_at hs hw (ky_len (hw.get hi) (by decide)) hi rfl
  rw [gr_eq hi] at h; exact h
theorem qty_none (hs : Srt l) (hw : Wide 5 l) (hk : k.length = 4) (h : ∀ r ∈ l, ky r ≠ k) : qtyB l k = 0 :=
  qty_no hs hw hk fun j hj => h _ (by rw [gr_eq hj]; exact List.getElem_mem _)
theorem qty_set (hs : Srt l) (hw : Wide 5 l) (hk : k.length = 4) (hk' : k'.length = 4) : qtyB (setB l k n) k' = if k' = k then n else qtyB l k' := by
  have hs2 := srt_setB (n := n) hs hw hk
  have hw2 := wide_setB (n := n) hw hk
  split
  · rename_i he; subst he
    by_cases h0 : n = 0
    · subst h0
      exact qty_none hs2 hw2 hk fun r hr h => by
        rcases (mem_set hs hw hk r).1 hr with ⟨_, h1⟩ | ⟨h1, _⟩
        · exact h1 h
        · exact h1 rfl
    · have := qty_mem hs2 hw2 ((mem_set hs hw hk (k' ++ [n])).2 (.inr ⟨h0, rfl⟩))
      rwa [ky_app hk, gd_app5 hk] at this
  · rename_i he
    by_cases hex : ∃ r ∈ l, ky r = k'
    · obtain ⟨r, hr, rfl⟩ := hex
      rw [qty_mem hs hw hr, qty_mem hs2 hw2 ((mem_set hs hw hk r).2 (.inl ⟨hr, he⟩))]
    · rw [qty_none hs hw hk' fun r hr h => hex ⟨r, hr, h⟩]
      refine qty_none hs2 hw2 hk' fun r hr h => ?_
      rcases (mem_set hs hw hk r).1 hr with ⟨h1, _⟩ | ⟨_, h1⟩
      · exact hex ⟨r, h1, h⟩
      · rw [h1, ky_app hk] at h; exact he h.symm
theorem srt_ext : ∀ {a b : List (List Int)}, Srt a → Srt b → (∀ r, r ∈ a ↔ r ∈ b) → a = b
  | [], [], _, _, _ => rfl
  | [], r :: b, _, _, h => absurd ((h r).2 (by simp)) (by simp)
  | r :: a, [], _, _, h => absurd ((h r).1 (by simp)) (by simp)
  | r :: a, q :: b, ha, hb, h => by
    obtain ⟨h1, ha'⟩ := ha.cons
    obtain ⟨h2, hb'⟩ := hb.cons
    have e : r = q := by
      rcases List.mem_cons.1 ((h r).1 (by simp)) with h3 | h3
      · exact h3
      · rcases List.mem_cons.1 ((h q).2 (by simp)) with h4 | h4
        · exact h4.symm
        · have h5 := h2 r h3
          have h6 := h1 q h4
          have h7 := kcmp_anti (ky r) (ky q)
          omega
    subst e
    rw [srt_ext ha' hb' fun x => ?_]
    constructor
    · intro hx
      rcases List.mem_cons.1 ((h x).1 (by simp [hx])) with h3 | h3
      · subst h3; have := h1 _ hx; rw [kcmp_self] at this; exact absurd this (by decide)
      · exact h3
    · intro hx
      rcases List.mem_cons.1 ((h x).2 (by simp [hx])) with h3 | h3
      · subst h3; have := h2 _ hx; rw [kcmp_self] at this; exact absurd this (by decide)
      · exact h3
theorem qty_ext (ha : GooL a) (hb : GooL b) (h : ∀ k : List Int, k.length = 4 → qtyB a k = qtyB b k) : a = b := by
  have sub : ∀ {a b : List (List Int)}, GooL a → GooL b → (∀ k : List Int, k.length = 4 → qtyB a k = qtyB b k) → ∀ r, r ∈ a → r ∈ b := by
    intro a b ha hb h r hr
    have h5 := ha.wide r hr
    have h1 := h (ky r) (ky_len h5 (by decide))
    rw [qty_mem ha.srt ha.wide hr] at h1
    have hp := ha.pos r hr
    by_cases hex : ∃ q ∈ b, ky q = ky r
    · obtain ⟨q, hq, he⟩ := hex
      rw [← he, qty_mem hb.srt hb.wide hq] at h1
      have : r = q := by
        have g5 := hb.wide q hq
        match r, h5, q, g5 with
        | [r0, r1, r2, r3, r4], _, [q0, q1, q2, q3, q4], _ =>
          have h7 : [q0, q1, q2, q3] = [r0, r1, r2, r3] := he
          have h6 : r4 = q4 := h1
          cases h7; cases h6; rfl
      rw [this]; exact hq
    · rw [qty_none hb.srt hb.wide (ky_len h5 (by decide)) fun q hq he => hex ⟨q, hq, he⟩] at h1
      omega
  exact srt_ext ha.srt hb.srt fun r => ⟨sub ha hb h r, sub hb ha (fun k hk => (h k hk).symm) r⟩
def sumS (k0 k1 k2 : Int) : List Stack → List Int → Int
  | [], _ => 0
  | x :: s, k => (if k = [k0, k1, k2, x.1] then x.2 else 0) + sumS k0 k1 k2 s k
theorem sum_nonneg {m : Int} : ∀ {s : List Stack} {a : Int}, Asc m a s → 0 ≤ sumS k0 k1 k2 s k
  | [], _, _ => Int.le_refl _
  | x :: s, a, h => by
    obtain ⟨_, _, h3, _, h5⟩ := h
    have := sum_nonneg h5
    simp only [sumS]; split <;> omega
theorem put_qty : ∀ {s : List Stack} {l : List (List Int)}, GooL l → runE true k0 k1 k2 l s = 0 → ∀ k : List Int, k.length = 4 → qtyB (runX true k0 k1 k2 l s) k = qtyB l k + sumS k0 k1 k2 s k
  | [], l, _, _, k, _ => by simp [runX, sumS]
  | x :: s, l, hg, h, k, hk => by
    have h0 : layE l [k0, k1, k2, x.1] x.2 = 0 := by
      apply Classical.byContradiction
      intro hn
      have : runE true k0 k1 k2 l (x :: s) = layE l [k0, k1, k2, x.1] x.2 := if_neg hn
      rw [this] at h; exact hn h
    have h' : runE true k0 k1 k2 (layX l [k0, k1, k2, x.1] x.2) s = 0 := by
      have : runE true k0 k1 k2 l (x :: s) = runE true k0 k1 k2 (layX l [k0, k1, k2, x.1] x.2) s := if_pos h0
      rw [this] at h; exact h
    have ih := put_qty (goo_lay hg rfl).1 h' k hk
    show qtyB (runX true k0 k1 k2 (layX l [k0, k1, k2, x.1] x.2) s) k = _
    rw [ih, (lay_zero h0).2.2.2, qty_set hg.srt hg.wide rfl hk]
    simp only [sumS]
    split
    · rename_i he; rw [he]; omega
    · omega
/-- While what was put is taken out again. -/
structure Bck (l : List (List Int)) (k0 k1 k2 : Int) (s : List Stack) (i : Nat) (y : List (List Int)) : Prop where
  goo : GooL y
  q : ∀ k : List Int, k.length = 4 → qtyB y k = qtyB l k + sumS k0 k1 k2 (s.drop i) k
theorem bck_start (hg : GooL l) (h : allE true l k0 k1 k2 s = 0) : AllOk k0 k1 k2 s ∧ Bck l k0 k1 k2 s 0 (allX true l k0 k1 k2 s) := by
  by_cases ha : AllOk k0 k1 k2 s
  · have h1 : runE true k0 k1 k2 l s = 0 := by rw [← all_go ha]; exact h
    have e : allX true l k0 k1 k2 s = runX true k0 k1 k2 l s := (all_done ha h1 rfl).2
    exact ⟨ha, (goo_all hg).1, fun k hk => by rw [e, List.drop_zero]; exact put_qty hg h1 k hk⟩
  · rw [(all_arg ha).1] at h; cases h
theorem asc_tail {m : Int} {s : List Stack} : ∀ {a : Int} (i : Nat), Asc m a s → ∃ b, Asc m b (s.drop i) := by
  induction s with
  | nil => intro a i h; exact ⟨a, by simpa using h⟩
  | cons x s ih =>
    intro a i h
    cases i with
    | zero => exact ⟨a, h⟩
    | succ i => exact ih i h.2.2.2.2
theorem Bck.take (h : Bck l k0 k1 k2 s i y) (hg : GooL l) (ha : AllOk k0 k1 k2 s) (hi : i < s.length) : takE y [k0, k1, k2, gx s i] (gq s i) = 0 ∧ Bck l k0 k1 k2 s (i + 1) (takX y [k0, k1, k2, gx s i] (gq s i)) := by
  obtain ⟨h1, h2, h3, h4⟩ := goods_at ha.2 hi
  obtain ⟨c, hc⟩ := asc_tail (i + 1) ha.2.1
  have hnn := sum_nonneg (k0 := k0) (k1 := k1) (k2 := k2) (k := [k0, k1, k2, gx s i]) hc
  have hi2 : IsB [k0, k1, k2, gx s i] := by
    have := isB_iff.1 ha.1
    rw [isB_iff]; exact ⟨this.1, this.2.1, this.2.2.1, h1, h2⟩
  have hq := h.q [k0, k1, k2, gx s i] rfl
  rw [drop_cons hi] at hq
  simp only [sumS, if_pos] at hq
  have hl := (hg.qty (k := [k0, k1, k2, gx s i]) rfl).1
  have he : (s.getD i (0, 0)).2 = gq s i := rfl
  have e := tak_ok (l := y) (k := [k0, k1, k2, gx s i]) (n := gq s i) (by rintro (h | h); exact h hi2; omega) (by omega)
  refine ⟨e.1, (goo_tak h.goo rfl).1, fun k hk => ?_⟩
  have hk2 := h.q k hk
  rw [drop_cons hi] at hk2
  simp only [sumS] at hk2
  rw [e.2, qty_set h.goo.srt h.goo.wide rfl hk]
  split
  · rename_i he2
    rw [he2] at hk2 ⊢
    rw [if_pos rfl] at hk2; omega
  · rename_i he2
    rw [if_neg he2] at hk2; omega
theorem Bck.done (h : Bck l k0 k1 k2 s s.length y) (hg : GooL l) : y = l := qty_ext h.goo hg fun k hk => by
  rw [h.q k hk, List.drop_length]; simp [sumS]
end
end Go.XG
