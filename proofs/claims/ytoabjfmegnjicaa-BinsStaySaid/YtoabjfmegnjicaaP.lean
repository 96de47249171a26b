/-
  Lots, in plain Lean: rows of five numbers: the bin (owner, division, place, type) and how many lie in it.
-/
import Derived.Test.YtoabjfmegnjicaaTo
namespace Go.XG
def IsB (k : List Int) : Prop :=
  (0 ≤ k.getD 0 0 ∧ k.getD 0 0 ≤ 1099511627776) ∧ (0 ≤ k.getD 1 0 ∧ k.getD 1 0 ≤ 4) ∧ (1 ≤ k.getD 2 0 ∧ k.getD 2 0 ≤ 8) ∧ (1 ≤ k.getD 3 0 ∧ k.getD 3 0 ≤ 32)
theorem isB_iff {a b c d : Int} : IsB [a, b, c, d] ↔ (0 ≤ a ∧ a ≤ 1099511627776) ∧ (0 ≤ b ∧ b ≤ 4) ∧ (1 ≤ c ∧ c ≤ 8) ∧ (1 ≤ d ∧ d ≤ 32) := Iff.rfl
def qtyB (l : List (List Int)) (k : List Int) : Int := if hasK l k = true then (gr l (bel l k)).getD 4 0 else 0
def setB (l : List (List Int)) (k : List Int) (n : Int) : List (List Int) := if n = 0 then delR l k else putR l (k ++ [n])
def nk (k : List Int) (r : List Int) : Bool := decide (ky r ≠ k)
section
variable {l : List (List Int)} {k : List Int} {n : Int} {i : Nat}
theorem ky_ne_lt (hs : Srt l) (hw : Wide 5 l) (hk : k.length = 4) (hi : i < bel l k) : ky (gr l i) ≠ k := fun h => by
  have hb := bel_le l k
  have := (bel_iff hs hw (by decide) hk i (by omega)).2 hi
  rw [h, kcmp_self] at this
  exact absurd this (by decide)
theorem ky_ne_gt (hs : Srt l) (hw : Wide 5 l) (hk : k.length = 4) (hi : bel l k + (if hasK l k = true then 1 else 0) ≤ i) (hl : i < l.length) : ky (gr l i) ≠ k := fun h => by
  cases hh : hasK l k
  · have : hasK l k = true := by
      unfold hasK; rw [List.any_eq_true]
      exact ⟨gr l i, by rw [gr_eq hl]; exact List.getElem_mem _, by simpa using h⟩
    rw [hh] at this; cases this
  · rw [if_pos hh] at hi
    obtain ⟨h1, h2⟩ := (has_iff hs hw (by decide) hk).1 hh
    have := hs.get (show bel l k < i by omega) hl
    rw [h, h2, kcmp_self] at this
    exact absurd this (by decide)
theorem fil_take (hs : Srt l) (hw : Wide 5 l) (hk : k.length = 4) (hi : i ≤ bel l k) : (l.take i).filter (nk k) = l.take i := by
  rw [List.filter_eq_self]
  intro r hr
  obtain ⟨j, hj, rfl⟩ := List.getElem_of_mem hr
  rw [List.length_take] at hj
  rw [List.getElem_take]
  have := ky_ne_lt hs hw hk (show j < bel l k by omega)
  rw [gr_eq (by omega)] at this
  simpa [nk] using this
theorem fil_rest (hs : Srt l) (hw : Wide 5 l) (hk : k.length = 4) : (l.drop (bel l k + (if hasK l k = true then 1 else 0))).filter (nk k) = l.drop (bel l k + (if hasK l k = true then 1 else 0)) := by
  rw [List.filter_eq_self]
  intro r hr
  obtain ⟨j, hj, rfl⟩ := List.getElem_of_mem hr
  rw [List.length_drop] at hj
  rw [List.getElem_drop]
  have := ky_ne_gt hs hw hk (Nat.le_add_right _ j) (show bel l k + (if hasK l k = true then 1 else 0) + j < l.length by omega)
  rw [gr_eq (by omega)] at this
  simpa [nk] using this
theorem fil_drop (hs : Srt l) (hw : Wide 5 l) (hk : k.length = 4) : (l.drop (bel l k)).filter (nk k) = l.drop (bel l k + (if hasK l k = true then 1 else 0)) := by
  have hr := fil_rest hs hw hk
  cases hh : hasK l k
  · rw [hh] at hr; simpa using hr
  · rw [if_pos hh] at hr
    obtain ⟨h1, h2⟩ := (has_iff hs hw (by decide) hk).1 hh
    rw [drop_gr h1, if_pos rfl, List.filter_cons, if_neg (by unfold nk; rw [h2]; simp), hr]
theorem fil_all (hs : Srt l) (hw : Wide 5 l) (hk : k.length = 4) : l.filter (nk k) = delR l k := by
  conv => lhs; rw [← List.take_append_drop (bel l k) l]
  rw [List.filter_append, fil_take hs hw hk (Nat.le_refl _), fil_drop hs hw hk]
  cases hh : hasK l k
  · rw [del_no hh]; simp
  · rw [del_has hh]; simp
theorem put_fil (hs : Srt l) (hw : Wide 5 l) (hk : k.length = 4) : l.take (bel l k) ++ [k ++ [n]] ++ (l.drop (bel l k)).filter (nk k) = putR l (k ++ [n]) := by
  rw [fil_drop hs hw hk]
  unfold putR
  rw [ky_app hk]; simp
theorem wide_setB (hw : Wide 5 l) (hk : k.length = 4) : Wide 5 (setB l k n) := by
  unfold setB; split
  · exact wide_del hw
  · exact wide_put hw (by simp [hk])
theorem srt_setB (hs : Srt l) (hw : Wide 5 l) (hk : k.length = 4) : Srt (setB l k n) := by
  unfold setB; split
  · exact srt_del hs
  · exact srt_put hs hw (by decide) (by simp [hk])
theorem len_setB : (setB l k n).length ≤ l.length + 1 := by
  unfold setB; split
  · exact Nat.le_succ_of_le (del_len _ _)
  · exact put_len _ _
end
/-- How many there are of a type. -/
def totB : List (List Int) → Int → Int
  | [], _ => 0
  | r :: l, t => (if r.getD 3 0 = t then r.getD 4 0 else 0) + totB l t
section
variable {l m : List (List Int)} {k : List Int} {n t : Int} {i : Nat}
theorem totB_app : totB (l ++ m) t = totB l t + totB m t := by
  induction l with
  | nil => simp [totB]
  | cons r l ih => simp only [List.cons_append, totB, ih]; omega
theorem totB_take (h : i < l.length) : totB (l.take (i + 1)) t = totB (l.take i) t + (if (gr l i).getD 3 0 = t then (gr l i).getD 4 0 else 0) := by
  rw [take_gr h, totB_app]; simp [totB]
theorem totB_split : totB (l.take i) t + totB (l.drop i) t = totB l t := by rw [← totB_app, List.take_append_drop]
theorem totB_nonneg (h : ∀ r ∈ l, 0 ≤ r.getD 4 0) : 0 ≤ totB l t := by
  induction l with
  | nil => exact Int.le_refl _
  | cons r l ih =>
    have h1 := h r (by simp)
    have h2 := ih (fun s hs => h s (by simp [hs]))
    simp only [totB]; split <;> omega
theorem gd_app4 {j : Nat} (hk : k.length = 4) (hj : j < 4) : (k ++ [n]).getD j 0 = k.getD j 0 := by
  simp [List.getD, List.getElem?_append_left (show j < k.length by omega)]
theorem gd_app5 (hk : k.length = 4) : (k ++ [n]).getD 4 0 = n := by
  match k, hk with
  | [a, b, c, d], _ => rfl
theorem ky3 {r : List Int} (h : r.length = 5) : r.getD 3 0 = (ky r).getD 3 0 := by
  match r, h with
  | [a, b, c, d, e], _ => rfl
theorem tot_set (hs : Srt l) (hw : Wide 5 l) (hk : k.length = 4) : totB (setB l k n) t = totB l t + (if k.getD 3 0 = t then n - qtyB l k else 0) := by
  have hsp := totB_split (l := l) (i := bel l k) (t := t)
  cases hh : hasK l k
  · have hq : qtyB l k = 0 := if_neg (by rw [hh]; decide)
    rw [hq]
    unfold setB
    split
    · rename_i h0
      rw [del_no hh, h0]; split <;> omega
    · rw [put_new hk hh, totB_app, totB_app]
      simp only [totB, gd_app4 hk (show 3 < 4 by decide), gd_app5 hk]
      split <;> omega
  · have hq : qtyB l k = (gr l (bel l k)).getD 4 0 := if_pos hh
    obtain ⟨h1, h2⟩ := (has_iff hs hw (by decide) hk).1 hh
    have h3 : (gr l (bel l k)).getD 3 0 = k.getD 3 0 := by
      rw [ky3 (hw.get h1), h2]
    rw [drop_gr h1] at hsp
    simp only [totB, h3] at hsp
    rw [hq]
    unfold setB
    split
    · rename_i h0
      rw [del_has hh, totB_app]
      split at hsp <;> split <;> omega
    · rw [put_has hk hh, List.drop_drop, totB_app, totB_app]
      simp only [totB, gd_app4 hk (show 3 < 4 by decide), gd_app5 hk]
      split at hsp <;> split <;> omega
end
end Go.XG
