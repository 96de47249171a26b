/-
  Lines, opened. Printed by a program.
-/
import Derived.Test.YtdpgbnflielagaaXy
import Derived.Test.YtdpgbnflielagaaI
import Derived.Test.YtdpgbnflielagaaDe
namespace Go.XG
open Go.Proofs Go.ChangeShapes Go.WideShapes Go.RowKit
theorem row_cat {H : Heap} {b o : Nat} {xs ys : List Value} (h1 : Row H b o xs) (h2 : Row H b (o + xs.length) ys) : Row H b o (xs ++ ys) := fun j v hj => by
  by_cases h : j < xs.length
  · rw [List.getElem?_append_left h] at hj; exact h1 j v hj
  · rw [List.getElem?_append_right (by omega)] at hj
    have := h2 _ v hj
    rw [show o + xs.length + (j - xs.length) = o + j by omega] at this; exact this
theorem rowL_all {H : Heap} {b : Nat} : ∀ {E : List Se} {o : Nat}, (∀ i, i < E.length → Row H b (o + i * 2) (csL (gE E i))) → Row H b o (fL E)
  | [], _, _ => fun j v hj => by cases hj
  | e :: E, o, h => by
    have h1 := h 0 (by simp)
    have h2 : Row H b (o + 2) (fL E) := rowL_all (fun i hi => by
      have := h (i + 1) (by simpa using hi)
      rw [show o + (i + 1) * 2 = o + 2 + i * 2 by omega] at this; exact this)
    rw [Nat.zero_mul, Nat.add_zero] at h1
    exact row_cat h1 h2
section
variable {Hd : Type} {enc : TypeId × Value → Hd} {W : World} {a : Option Addr} {n m : Nat} {d : DataW Hd} {p : List MemPlace}
theorem cells3 : Try.prog.cellsOf 3 = 1 := by kernel_rfl
theorem cells38 : Try.prog.cellsOf 38 = 1 := by kernel_rfl
theorem cells40 : Try.prog.cellsOf 40 = 2 := by kernel_rfl
theorem open_ix (h : DataW.Trod enc Try.prog W 0 (fun _ => true) true 38 (.slice a n m) d p) : ∃ l : List Int, n = l.length ∧ IX W.heap.size W.heap (fun _ => False) a l := by
  obtain ⟨l, rfl, h1, _⟩ := slice_ints Try.underlying38 Try.underlying3 cells3 h
  refine ⟨l, rfl, ?_⟩
  rcases h1 with h1 | ⟨b, off, h1, h2⟩
  · exact .inl (List.length_eq_zero_iff.1 h1)
  · by_cases h0 : l = []
    · exact .inl h0
    · have hr : Row W.heap b off (ints l) := fun j v hj => by
        have hl : j < l.length := by have := (List.getElem?_eq_some_iff.1 hj).1; simpa [ints] using this
        have := h2 j hl
        rw [Nat.mul_one] at this
        rw [this]
        simp [ints, hl] at hj
        rw [← hj]; simp [hl]
      exact .inr ⟨b, off, h1, fun h => h, .inl (row_lt hr (ints_ne h0)), hr⟩
theorem open_line {fuel : Nat} {cs : List Value} {y : DataW Hd × List MemPlace} (h : DataW.trod enc Try.prog W 0 (fun _ => true) true fuel 40 cs = some y) : ∃ e : Se, cs = csL e ∧ IX W.heap.size W.heap (fun _ => False) e.ra e.rn ∧ IX W.heap.size W.heap (fun _ => False) e.wa e.wt := by
  obtain ⟨xs, n', _, _, hl, hxl, hf⟩ := DataW.trod_struct Try.underlying40 h
  rw [cells40] at hl
  have gs : ∀ i (hi : i < 2), xs[i]? = some (xs[i]'(by rw [hxl]; exact hi)) := fun i hi => List.getElem?_eq_getElem _
  have h0 : DataW.trod enc Try.prog W 0 (fun _ => true) true n' 38 ((cs.drop 0).take (Try.prog.cellsOf 38)) = some _ := (hf 0 _ rfl).trans (gs 0 (by omega))
  have h1 : DataW.trod enc Try.prog W 0 (fun _ => true) true n' 38 ((cs.drop 1).take (Try.prog.cellsOf 38)) = some _ := (hf 1 _ rfl).trans (gs 1 (by omega))
  rw [cells38] at h0 h1
  obtain ⟨ra, rn, rc, e0⟩ := slice_form Try.underlying38 h0
  obtain ⟨wa, wn, wc, e1⟩ := slice_form Try.underlying38 h1
  rw [e0] at h0
  rw [e1] at h1
  obtain ⟨r, rfl, hr⟩ := open_ix (a := ra) (n := rn) (m := rc) (d := _) (p := _) ⟨n', h0⟩
  obtain ⟨w, rfl, hw⟩ := open_ix (a := wa) (n := wn) (m := wc) (d := _) (p := _) ⟨n', h1⟩
  refine ⟨⟨0, r, ra, rc, w, wa, wc⟩, ?_, hr, hw⟩
  match cs, hl with
  | [c0, c1], _ =>
    simp at e0 e1
    rw [e0, e1]; rfl
theorem slice_lines (h : DataW.Trod enc Try.prog W 0 (fun _ => true) true 36 (.slice a n m) d p) : ∃ E : List Se, n = E.length ∧ LE W.heap.size W.heap (fun _ => False) a E := by
  obtain ⟨hnm, hm, h0 | ⟨b, off, rfl, hi⟩⟩ := slice_cells Try.underlying36 cells40 (by omega) h
  · subst h0; exact ⟨[], rfl, fun e he => (by cases he), .inl rfl⟩
  · obtain ⟨E, hl, hx⟩ := collect e0 (R := fun i e => Row W.heap b (off + i * 2) (csL e) ∧ IX W.heap.size W.heap (fun _ => False) e.ra e.rn ∧ IX W.heap.size W.heap (fun _ => False) e.wa e.wt) n (fun i hin => by
      obtain ⟨cs, fuel, y, h1, h2, h3⟩ := hi i hin
      obtain ⟨e, rfl, g2⟩ := open_line h3
      exact ⟨e, h2, g2⟩)
    refine ⟨E, hl.symm, fun e he => ?_, ?_⟩
    · obtain ⟨i, hi2, rfl⟩ := List.getElem_of_mem he
      have := (hx i (by omega)).2
      rw [show E.getD i e0 = E[i] from gE_eq hi2] at this; exact this
    · by_cases hn : E = []
      · exact .inl hn
      · have hr : Row W.heap b off (fL E) := rowL_all (fun i hi2 => (hx i (by omega)).1)
        exact .inr ⟨b, off, rfl, fun h => h, .inl (row_lt hr (fL_ne hn)), hr⟩
end
end Go.XG
