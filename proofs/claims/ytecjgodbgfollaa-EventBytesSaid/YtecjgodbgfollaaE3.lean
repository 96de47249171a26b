/-
  The laws of a log, in plain Lean.
-/
import Derived.Test.YtecjgodbgfollaaE2
namespace Go.XG
theorem gr_left {x y : List (List Int)} {k : Nat} (h : k < x.length) : gr (x ++ y) k = gr x k := by
  simp [gr, List.getD_eq_getElem?_getD, List.getElem?_append_left h]
theorem gr_last {x : List (List Int)} {r : List Int} : gr (x ++ [r]) x.length = r := by simp [gr]
/-- Of each thing there is one end. -/
structure OneEnd (x : List (List Int)) : Prop where
  stood : Stood x
  one : ∀ k, k < x.length → ofI x ((gr x k).getD 1 0) ((gr x k).getD 2 0) = some k
theorem ofI_left {x : List (List Int)} {r : List Int} {w i : Int} {k : Nat} (h : ofI x w i = some k) : ofI (x ++ [r]) w i = some k := by
  obtain ⟨h1, h2, h3⟩ := ofI_some h
  exact ofI_at (by simp; omega) (by rw [gr_left h1]; exact h2) (fun j hj => by rw [gr_left (by omega)]; exact h3 j hj)
theorem ofI_no {x : List (List Int)} {w i : Int} (h : ofI x w i = none) : ∀ k, k < x.length → ¬ Is (gr x k) w i := by
  induction x with
  | nil => intro k hk; simp at hk
  | cons r x ih =>
    unfold ofI at h
    split at h
    · cases h
    · rename_i hr
      have ho : ofI x w i = none := by
        cases ho : ofI x w i with
        | none => rfl
        | some j => rw [ho] at h; cases h
      intro k hk
      cases k with
      | zero => simpa [gr] using hr
      | succ k => rw [gr_cons]; exact ih ho k (by simpa using hk)
theorem ofI_last {x : List (List Int)} {r : List Int} (h : ofI x (r.getD 1 0) (r.getD 2 0) = none) : ofI (x ++ [r]) (r.getD 1 0) (r.getD 2 0) = some x.length :=
  ofI_at (by simp) (by rw [gr_last]; exact ⟨rfl, rfl⟩) (fun j hj => by rw [gr_left hj]; exact ofI_no h j hj)
theorem stood_nil : Stood [] := ⟨fun k hk => by simp at hk, by decide, fun k hk => by simp at hk⟩
theorem one_nil : OneEnd [] := ⟨stood_nil, fun k hk => by simp at hk⟩
theorem stood_snoc {x : List (List Int)} {r : List Int} (hs : Stood x) (h2 : MayR r) (h3 : x.length < 128) (h4 : lastAt x ≤ r.getD 0 0) : Stood (x ++ [r]) := by
  refine ⟨fun k hk => ?_, by simp; omega, fun k hk => ?_⟩
  · simp at hk
    by_cases e : k < x.length
    · rw [gr_left e]; exact hs.may k e
    · have : k = x.length := by omega
      subst this; rw [gr_last]; exact h2
  · simp at hk
    by_cases e : k + 1 < x.length
    · rw [gr_left e, gr_left (by omega)]; exact hs.up k e
    · have e2 : k + 1 = x.length := by omega
      rw [e2, gr_last, gr_left (by omega)]
      rw [lastAt_pos (by omega), ← e2] at h4
      exact h4
theorem one_add {x x' : List (List Int)} {r : List Int} (h : OneEnd x) (hr : r.length = 4) (ha : addR x r = (0, x')) : OneEnd x' := by
  have h0 := addR_ok hr (show (addR x r).1 = 0 by rw [ha])
  rw [ha] at h0
  obtain ⟨h1, h2, h3, h4, h5⟩ := h0
  simp only at h1
  subst h1
  refine ⟨stood_snoc h.stood h2 h3 h4, fun k hk => ?_⟩
  simp at hk
  by_cases e : k < x.length
  · rw [gr_left e]; exact ofI_left (h.one k e)
  · have : k = x.length := by omega
    subst this; rw [gr_last]; exact ofI_last h5
theorem one_keep {x x' : List (List Int)} {r : List Int} {e : Int} (h : OneEnd x) (hr : r.length = 4) (ha : addR x r = (e, x')) : OneEnd x' := by
  by_cases he : e = 0
  · subst he; exact one_add h hr ha
  · unfold addR addL at ha
    split at ha
    · simp only [Prod.mk.injEq] at ha; rw [← ha.2]; exact h
    · split at ha
      · simp only [Prod.mk.injEq] at ha; rw [← ha.2]; exact h
      · split at ha
        · simp only [Prod.mk.injEq] at ha; rw [← ha.2]; exact h
        · simp only [Prod.mk.injEq] at ha; exact absurd ha.1.symm he
theorem add_there {x x' : List (List Int)} {r : List Int} {e : Int} (hr : r.length = 4) (ha : addR x r = (e, x')) (ht : (ofI x (r.getD 1 0) (r.getD 2 0)).isSome = true) : e ≠ 0 := by
  intro he
  subst he
  have h0 := (addR_ok hr (show (addR x r).1 = 0 by rw [ha])).2.2.2.2
  rw [h0] at ht
  cases ht
theorem last_le {y : List (List Int)} (h : Stood y) : lastAt y ≤ 1099511627776 := by
  unfold lastAt
  split
  · omega
  · have := h.may (y.length - 1) (by omega); unfold MayR May at this; omega
/-- One mark more, at the end of time. -/
theorem fill {y y' : List (List Int)} {i : Nat} {e : Int} (h : Stood y) (hi : i ≤ 128) (hl : y.length = i) (ha : addL y 1099511627776 1 (1099511626776 + i) 4 = (e, y')) :
    e = 9 ∨ (e = 0 ∧ i < 128 ∧ Stood y' ∧ y'.length = i + 1) ∨ (e = 4 ∧ i = 128 ∧ y' = y) := by
  have hm : May 1099511627776 1 (1099511626776 + i) 4 := by unfold May; omega
  have hl' := last_le h
  have hn : ¬ (¬ May 1099511627776 1 (1099511626776 + (i : Int)) 4 ∨ 1099511627776 < lastAt y) := fun h => h.elim (fun h => h hm) (fun h => by omega)
  unfold addL at ha
  rw [if_neg hn] at ha
  split at ha
  · simp only [Prod.mk.injEq] at ha; exact .inl ha.1.symm
  · split at ha
    · simp only [Prod.mk.injEq] at ha
      exact .inr (.inr ⟨ha.1.symm, by omega, ha.2.symm⟩)
    · simp only [Prod.mk.injEq] at ha
      refine .inr (.inl ⟨ha.1.symm, by omega, ?_, by rw [← ha.2]; simp; omega⟩)
      rw [← ha.2]
      exact stood_snoc h hm (by omega) hl'
end Go.XG
