/-
  The bytes of marks, in plain Lean.
-/
import Derived.Test.YtecjgodbgfollaaE
import Derived.Test.YtecjgodbgfollaaLn
namespace Go.XG
open Go.Pen
def MayR (r : List Int) : Prop := May (r.getD 0 0) (r.getD 1 0) (r.getD 2 0) (r.getD 3 0)
instance (r : List Int) : Decidable (MayR r) := by unfold MayR; infer_instance
theorem addR_ok {x : List (List Int)} {r : List Int} (hr : r.length = 4) (h : (addR x r).1 = 0) : (addR x r).2 = x ++ [r] ∧ MayR r ∧ x.length < 128 ∧ lastAt x ≤ r.getD 0 0 ∧ ofI x (r.getD 1 0) (r.getD 2 0) = none := by
  unfold addR addL at h ⊢
  split at h
  · simp at h
  · rename_i h1
    split at h
    · simp at h
    · rename_i h2
      split at h
      · simp at h
      · rename_i h3
        rw [if_neg h1, if_neg h2, if_neg h3]
        refine ⟨by simp only; rw [← row4 hr], Decidable.not_not.1 (fun hm => h1 (.inl hm)), by omega, Int.not_lt.1 (fun h => h1 (.inr h)), isSome_no (by simpa using h2)⟩
/-- What may stand in a log: each may be, and time does not run back. -/
structure Stood (l : List (List Int)) : Prop where
  may : ∀ k, k < l.length → MayR (gr l k)
  len : l.length ≤ 128
  up : ∀ k, k + 1 < l.length → (gr l k).getD 0 0 ≤ (gr l (k + 1)).getD 0 0
theorem gr_take {l : List (List Int)} {k j : Nat} (h : j < k) : gr (l.take k) j = gr l j := by
  simp [gr, List.getD_eq_getElem?_getD, List.getElem?_take, h]
theorem load_stood {l : List (List Int)} (hw : Wide 4 l) : ∀ (k : Nat) (x : List (List Int)), k ≤ l.length → loadL (l.take k) = some x → x = l.take k ∧ Stood (l.take k)
  | 0, x, _, h => by
    simp [loadL] at h
    subst h
    exact ⟨rfl, ⟨fun k hk => by simp at hk, by simp, fun k hk => by simp at hk⟩⟩
  | k + 1, x, hk, h => by
    rw [load_take (by omega)] at h
    cases hp : loadL (l.take k) with
    | none => rw [hp] at h; cases h
    | some y =>
      obtain ⟨rfl, hs⟩ := load_stood hw k y (by omega) hp
      rw [hp, Option.bind_some] at h
      split at h
      · rename_i h0
        have hr : (gr l k).length = 4 := hw.get (by omega)
        obtain ⟨h1, h2, h3, h4, _⟩ := addR_ok hr h0
        injection h with h
        rw [h1] at h
        have ht : l.take (k + 1) = l.take k ++ [gr l k] := take_gr (by omega)
        refine ⟨by rw [← h, ht], ⟨fun j hj => ?_, ?_, fun j hj => ?_⟩⟩
        · rw [List.length_take] at hj
          rw [gr_take (by omega)]
          by_cases e : j = k
          · subst e; exact h2
          · have := hs.may j (by rw [List.length_take]; omega)
            rwa [gr_take (by omega)] at this
        · rw [ht, List.length_append]; simp only [List.length_singleton]; omega
        · rw [List.length_take] at hj
          rw [gr_take (by omega), gr_take (by omega)]
          by_cases e : j + 1 = k
          · have hlk : (l.take k).length = k := by rw [List.length_take]; omega
            rw [lastAt_pos (by omega), hlk, gr_take (by omega)] at h4
            have e2 : k - 1 = j := by omega
            rw [e2] at h4
            rw [e]; exact h4
          · have := hs.up j (by rw [List.length_take]; omega)
            rwa [gr_take (by omega), gr_take (by omega)] at this
      · cases h
theorem load_self {l x : List (List Int)} (hw : Wide 4 l) (h : loadL l = some x) : x = l ∧ Stood l := by
  have := load_stood hw l.length x (Nat.le_refl _) (by rw [List.take_length]; exact h)
  rwa [List.take_length] at this
def atK (l : List (List Int)) (k : Nat) : Int := if k = 0 then 0 else (gr l (k - 1)).getD 0 0
def numK (l : List (List Int)) (k : Nat) : List Int := [(gr l k).getD 0 0 - atK l k, (gr l k).getD 1 0, (gr l k).getD 2 0, (gr l k).getD 3 0]
def encK (ns : List Int) : List UInt8 := ns.flatMap uintB
def encU : Nat → List (List Int) → List UInt8
  | 0, _ => []
  | k + 1, l => encU k l ++ encK (numK l k)
def putB (l : List (List Int)) : List UInt8 := uintB l.length ++ encU l.length l
theorem uintB_le10 (n : Int) : (uintB n).length ≤ 10 := uintB_le n
theorem encK_len : ∀ ns : List Int, (encK ns).length ≤ 10 * ns.length
  | [] => by simp [encK]
  | n :: ns => by
    have h1 := encK_len ns
    have h2 := uintB_le n
    have : encK (n :: ns) = uintB n ++ encK ns := rfl
    rw [this]; simp; omega
theorem encU_len (l : List (List Int)) : ∀ k, (encU k l).length ≤ 40 * k
  | 0 => by simp [encU]
  | k + 1 => by
    have h1 := encU_len l k
    have h2 := encK_len (numK l k)
    have : (numK l k).length = 4 := rfl
    simp only [encU, List.length_append]; omega
theorem encK_take {ns : List Int} {j : Nat} (h : j < ns.length) : encK (ns.take (j + 1)) = encK (ns.take j) ++ uintB (ns.getD j 0) := by
  have : ns.take (j + 1) = ns.take j ++ [ns.getD j 0] := by rw [List.take_succ_eq_append_getElem h]; simp [h]
  rw [this]; simp [encK]
theorem num_bd {l : List (List Int)} (h : Stood l) {k : Nat} (hk : k < l.length) : ∀ j, (numK l k).getD j 0 < 9223372036854775808 ∧ 0 ≤ (gr l k).getD 0 0 ∧ (gr l k).getD 0 0 ≤ 1099511627776 ∧ 0 ≤ atK l k ∧ atK l k ≤ 1099511627776 := by
  have h1 := h.may k hk
  have h2 : 0 ≤ atK l k ∧ atK l k ≤ 1099511627776 := by
    unfold atK
    split
    · omega
    · have := h.may (k - 1) (by omega); unfold MayR May at this; omega
  unfold MayR May at h1
  intro j
  refine ⟨?_, h1.1.1, h1.1.2, h2⟩
  unfold numK
  match j with
  | 0 => simp only [List.getD_cons_zero]; omega
  | 1 => simp only [List.getD_cons_succ, List.getD_cons_zero]; omega
  | 2 => simp only [List.getD_cons_succ, List.getD_cons_zero]; omega
  | 3 => simp only [List.getD_cons_succ, List.getD_cons_zero]; omega
  | j + 4 => simp
theorem putB_pre {l : List (List Int)} {k j : Nat} {n : Int} (hk : k ≤ 1048576) (hj : j ≤ 4) (m : Nat) : (uintB m ++ encU k l ++ encK ((numK l k).take j)).length + (uintB n).length ≤ 9223372036854775807 := by
  have h1 := uintB_le (m : Int)
  have h2 := encU_len l k
  have h3 := encK_len ((numK l k).take j)
  have h4 := uintB_le n
  have h5 : ((numK l k).take j).length ≤ j := List.length_take_le ..
  simp only [List.length_append]; omega
end Go.XG
