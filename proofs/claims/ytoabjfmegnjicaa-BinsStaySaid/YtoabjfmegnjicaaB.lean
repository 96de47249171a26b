/-
  Bins, in plain Lean: what they must be; what is put, taken, moved.
-/
import Derived.Test.YtoabjfmegnjicaaQ
namespace Go.XG
/-- Lots as they must be. -/
structure GooL (l : List (List Int)) : Prop where
  wide : Wide 5 l
  srt : Srt l
  is : ∀ r ∈ l, IsB (ky r)
  pos : ∀ r ∈ l, 1 ≤ r.getD 4 0
  max : ∀ t, totB l t ≤ 1125899906842624
/-- Totals that tell of lots. -/
structure Tots (l : List (List Int)) (T : List Int) : Prop where
  len : T.length = 33
  h : ∀ t : Int, 1 ≤ t → t ≤ 32 → T.getD t.toNat 0 = totB l t
section
variable {l : List (List Int)} {T : List Int} {k : List Int} {n t : Int}
theorem gooL_nil : GooL [] := ⟨fun _ h => (by cases h), srt_nil, fun _ h => (by cases h), fun _ h => (by cases h), fun t => by simp [totB]⟩
theorem mem_setB {r : List Int} (h : r ∈ setB l k n) : r ∈ l ∨ (r = k ++ [n] ∧ n ≠ 0) := by
  unfold setB at h
  split at h
  · unfold delR at h
    split at h
    · rcases List.mem_append.1 h with h | h
      · exact .inl (List.mem_of_mem_take h)
      · exact .inl (List.mem_of_mem_drop h)
    · exact .inl h
  · rename_i h0
    rcases mem_put h with h | h
    · exact .inl h
    · exact .inr ⟨h, h0⟩
theorem GooL.nn (h : GooL l) : ∀ r ∈ l, 0 ≤ r.getD 4 0 := fun r hr => by have := h.pos r hr; omega
theorem totB_ge (h : ∀ r ∈ l, 0 ≤ r.getD 4 0) {r : List Int} (hr : r ∈ l) : r.getD 4 0 ≤ totB l (r.getD 3 0) := by
  obtain ⟨a, b, rfl⟩ := List.append_of_mem hr
  have h1 := totB_nonneg (l := a) (t := r.getD 3 0) (fun s hs => h s (by simp [hs]))
  have h2 := totB_nonneg (l := b) (t := r.getD 3 0) (fun s hs => h s (by simp [hs]))
  rw [totB_app]; simp only [totB, if_pos]; omega
theorem GooL.qty (h : GooL l) (hk : k.length = 4) : 0 ≤ qtyB l k ∧ qtyB l k ≤ totB l (k.getD 3 0) := by
  unfold qtyB
  split
  · rename_i hh
    obtain ⟨h1, h2⟩ := (has_iff h.srt h.wide (by decide) hk).1 hh
    have hm : gr l (bel l k) ∈ l := by rw [gr_eq h1]; exact List.getElem_mem _
    refine ⟨h.nn _ hm, ?_⟩
    have := totB_ge h.nn hm
    rwa [ky3 (h.wide.get h1), h2] at this
  · exact ⟨Int.le_refl _, totB_nonneg h.nn⟩
theorem GooL.set (h : GooL l) (hk : k.length = 4) (hi : IsB k) (hn : 0 ≤ n) (hm : totB l (k.getD 3 0) + (n - qtyB l k) ≤ 1125899906842624) : GooL (setB l k n) := by
  refine ⟨wide_setB h.wide hk, srt_setB h.srt h.wide hk, fun r hr => ?_, fun r hr => ?_, fun t => ?_⟩
  · rcases mem_setB hr with hr | ⟨rfl, _⟩
    · exact h.is r hr
    · rw [ky_app hk]; exact hi
  · rcases mem_setB hr with hr | ⟨rfl, h0⟩
    · exact h.pos r hr
    · rw [gd_app5 hk]; omega
  · rw [tot_set h.srt h.wide hk]
    have := h.max t
    split
    · rename_i he; rw [he] at hm; omega
    · omega
theorem Tots.set (h : Tots l T) (hs : Srt l) (hw : Wide 5 l) (hk : k.length = 4) (hk3 : 1 ≤ k.getD 3 0 ∧ k.getD 3 0 ≤ 32) : Tots (setB l k (qtyB l k + n)) (T.set (k.getD 3 0).toNat (T.getD (k.getD 3 0).toNat 0 + n)) := by
  refine ⟨by rw [List.length_set]; exact h.len, fun t h1 h2 => ?_⟩
  rw [tot_set hs hw hk]
  have hl := h.len
  generalize k.getD 3 0 = z at hk3 ⊢
  by_cases he : z = t
  · rw [if_pos he, he]
    have := h.h t h1 h2
    simp only [List.getD, List.getElem?_set_self (show t.toNat < T.length by omega), Option.getD_some] at this ⊢
    omega
  · rw [if_neg he]
    have := h.h t h1 h2
    simp only [List.getD] at this ⊢
    rw [List.getElem?_set_ne (by omega)]
    omega
end
instance (k : List Int) : Decidable (IsB k) := by unfold IsB; infer_instance
def layE (l : List (List Int)) (k : List Int) (n : Int) : Int := if ¬ IsB k ∨ n < 0 then 1 else if 1125899906842624 - totB l (k.getD 3 0) < n then 5 else 0
def layX (l : List (List Int)) (k : List Int) (n : Int) : List (List Int) := if layE l k n = 0 then setB l k (qtyB l k + n) else l
def takE (l : List (List Int)) (k : List Int) (n : Int) : Int := if ¬ IsB k ∨ n < 0 then 1 else if qtyB l k < n then 7 else 0
def takX (l : List (List Int)) (k : List Int) (n : Int) : List (List Int) := if takE l k n = 0 then setB l k (qtyB l k - n) else l
section
variable {l : List (List Int)} {k : List Int} {n : Int}
theorem lay_arg (h : ¬ IsB k ∨ n < 0) : layE l k n = 1 ∧ layX l k n = l := by unfold layX; rw [show layE l k n = 1 from if_pos h]; exact ⟨rfl, if_neg (by decide)⟩
theorem lay_over (h : ¬ (¬ IsB k ∨ n < 0)) (h2 : 1125899906842624 - totB l (k.getD 3 0) < n) : layE l k n = 5 ∧ layX l k n = l := by
  unfold layX; rw [show layE l k n = 5 from (if_neg h).trans (if_pos h2)]; exact ⟨rfl, if_neg (by decide)⟩
theorem lay_ok (h : ¬ (¬ IsB k ∨ n < 0)) (h2 : ¬ 1125899906842624 - totB l (k.getD 3 0) < n) : layE l k n = 0 ∧ layX l k n = setB l k (qtyB l k + n) := by
  unfold layX; rw [show layE l k n = 0 from (if_neg h).trans (if_neg h2)]; exact ⟨rfl, if_pos rfl⟩
theorem tak_arg (h : ¬ IsB k ∨ n < 0) : takE l k n = 1 ∧ takX l k n = l := by unfold takX; rw [show takE l k n = 1 from if_pos h]; exact ⟨rfl, if_neg (by decide)⟩
theorem tak_items (h : ¬ (¬ IsB k ∨ n < 0)) (h2 : qtyB l k < n) : takE l k n = 7 ∧ takX l k n = l := by
  unfold takX; rw [show takE l k n = 7 from (if_neg h).trans (if_pos h2)]; exact ⟨rfl, if_neg (by decide)⟩
theorem tak_ok (h : ¬ (¬ IsB k ∨ n < 0)) (h2 : ¬ qtyB l k < n) : takE l k n = 0 ∧ takX l k n = setB l k (qtyB l k - n) := by
  unfold takX; rw [show takE l k n = 0 from (if_neg h).trans (if_neg h2)]; exact ⟨rfl, if_pos rfl⟩
theorem goo_lay (h : GooL l) (hk : k.length = 4) : GooL (layX l k n) ∧ (layX l k n).length ≤ l.length + 1 := by
  by_cases h1 : ¬ IsB k ∨ n < 0
  · rw [(lay_arg h1).2]; exact ⟨h, by omega⟩
  · by_cases h2 : 1125899906842624 - totB l (k.getD 3 0) < n
    · rw [(lay_over h1 h2).2]; exact ⟨h, by omega⟩
    · rw [(lay_ok h1 h2).2]
      have hq := h.qty hk
      have hi : IsB k := Classical.not_not.1 fun h3 => h1 (.inl h3)
      have hn : ¬ n < 0 := fun h3 => h1 (.inr h3)
      exact ⟨h.set hk hi (by omega) (by omega), len_setB⟩
theorem goo_tak (h : GooL l) (hk : k.length = 4) : GooL (takX l k n) ∧ (takX l k n).length ≤ l.length + 1 := by
  by_cases h1 : ¬ IsB k ∨ n < 0
  · rw [(tak_arg h1).2]; exact ⟨h, by omega⟩
  · by_cases h2 : qtyB l k < n
    · rw [(tak_items h1 h2).2]; exact ⟨h, by omega⟩
    · rw [(tak_ok h1 h2).2]
      have hq := h.qty hk
      have hm := h.max (k.getD 3 0)
      have hi : IsB k := Classical.not_not.1 fun h3 => h1 (.inl h3)
      have hn : ¬ n < 0 := fun h3 => h1 (.inr h3)
      exact ⟨h.set hk hi (by omega) (by omega), len_setB⟩
end
end Go.XG
