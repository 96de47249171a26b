/-
  Shares, in plain Lean: who gets what.
-/
import Derived.Test.YtpppiliakgoihaaQ
import Derived.Test.YtpppiliakgoihaaR
import Derived.Test.YtpppiliakgoihaaXh
namespace Go.XG
def Sold (d : D) (s : Int) : Prop := d.kind = 2 ∧ d.st = 1 ∧ s = 3
instance (d : D) (s : Int) : Decidable (Sold d s) := by unfold Sold; infer_instance
def ShArgs (d : D) (s tax : Int) : Prop := Good d ∧ (0 ≤ tax ∧ tax ≤ d.pay) ∧ (tax = 0 ∨ Sold d s)
instance (d : D) (s tax : Int) : Decidable (ShArgs d s tax) := by unfold ShArgs; infer_instance
def allD (d : D) (s tax : Int) : List (List Int) :=
  if Sold d s then [[0, d.iss, d.pay - tax], [0, 0, tax]] else if d.kind = 2 then [] else if d.st = 1 then [[0, d.iss, d.pay]] else if s = 3 then [[0, d.taker, d.pay + d.pledge]] else [[0, d.iss, d.pay + d.pledge]]
def zero (r : List Int) : Bool := decide (r.getD 2 0 = 0)
def keep (l : List (List Int)) : List (List Int) := l.filter fun r => !zero r
def sharesD (d : D) (s tax : Int) : Int × List (List Int) :=
  if ¬ ShArgs d s tax then (1, []) else if ¬ (Sold d s ∨ Ends d s) then (9, []) else (0, keep (allD d s tax))
section
variable {d : D} {s tax : Int}
theorem sh_bad (h : ¬ ShArgs d s tax) : (1, []) = sharesD d s tax := by unfold sharesD; rw [if_pos h]
theorem sh_no (h : ShArgs d s tax) (h' : ¬ (Sold d s ∨ Ends d s)) : (9, []) = sharesD d s tax := by unfold sharesD; rw [if_neg (fun k => k h), if_pos h']
theorem sh_ok {l : List (List Int)} (h : ShArgs d s tax) (h' : Sold d s ∨ Ends d s) (hl : l = allD d s tax) : (0, keep l) = sharesD d s tax := by subst hl; unfold sharesD; rw [if_neg (fun k => k h), if_neg (fun k => k h')]
theorem all_1 (h : Sold d s) : [[0, d.iss, d.pay - tax], [0, 0, tax]] = allD d s tax := by unfold allD; rw [if_pos h]
theorem all_2 (h : ¬ Sold d s) (h2 : d.kind = 2) : [] = allD d s tax := by unfold allD; rw [if_neg h, if_pos h2]
theorem all_3 (h : ¬ Sold d s) (h2 : d.kind ≠ 2) (h3 : d.st = 1) : [[0, d.iss, d.pay]] = allD d s tax := by unfold allD; rw [if_neg h, if_neg h2, if_pos h3]
theorem all_4 (h : ¬ Sold d s) (h2 : d.kind ≠ 2) (h3 : d.st ≠ 1) (h4 : s = 3) : [[0, d.taker, d.pay + d.pledge]] = allD d s tax := by unfold allD; rw [if_neg h, if_neg h2, if_neg h3, if_pos h4]
theorem all_5 (h : ¬ Sold d s) (h2 : d.kind ≠ 2) (h3 : d.st ≠ 1) (h4 : s ≠ 3) : [[0, d.iss, d.pay + d.pledge]] = allD d s tax := by unfold allD; rw [if_neg h, if_neg h2, if_neg h3, if_neg h4]
theorem wide1 {x y z : Int} : Wide 3 [[x, y, z]] := by intro r hr; simp at hr; subst hr; rfl
theorem wide2 {x y z x' y' z' : Int} : Wide 3 [[x, y, z], [x', y', z']] := by intro r hr; simp at hr; rcases hr with rfl | rfl <;> rfl
theorem wide0 {k : Nat} : Wide k [] := fun r hr => by cases hr
theorem good_pay (h : Good d) : 0 ≤ d.pay ∧ d.pay ≤ 1152921504606846976 := by have := h.2.1; unfold What at this; omega
theorem good_pledge (h : Good d) : 0 ≤ d.pledge ∧ d.pledge ≤ 1152921504606846976 := by have := h.2.2.2.1; unfold Kin at this; omega
theorem all_len : (allD d s tax).length ≤ 2 := by
  unfold allD
  split
  · simp
  · split
    · simp
    · split
      · simp
      · split <;> simp
theorem all_wide : Wide 3 (allD d s tax) := by
  unfold allD
  split
  · exact wide2
  · split
    · exact wide0
    · split
      · exact wide1
      · split <;> exact wide1
theorem all_nn (h : ShArgs d s tax) : ∀ i, i < (allD d s tax).length → 0 ≤ (gr (allD d s tax) i).getD 2 0 := by
  have h1 := good_pay h.1
  have h2 := good_pledge h.1
  have h3 := h.2.1
  have key : ∀ r ∈ allD d s tax, 0 ≤ r.getD 2 0 := by
    intro r hr
    unfold allD at hr
    split at hr
    · simp at hr; rcases hr with rfl | rfl <;> simp <;> omega
    · split at hr
      · cases hr
      · split at hr
        · simp at hr; subst hr; simp; omega
        · split at hr <;> (simp at hr; subst hr; simp; omega)
  intro i hi
  rw [gr_eq hi]
  exact key _ (List.getElem_mem hi)
end
theorem fr_snoc (l : List (List Int)) (r : List Int) : fr (l ++ [r]) = fr l ++ ints r := by simp [fr]
theorem keep_take {l : List (List Int)} {i : Nat} (h : i < l.length) (hp : zero (gr l i) = false) : keep (l.take (i + 1)) = keep (l.take i) ++ [gr l i] := by
  unfold keep; rw [take_gr h, List.filter_append, List.filter_cons, if_pos (by rw [hp]; decide), List.filter_nil]
theorem keep_skip {l : List (List Int)} {i : Nat} (h : i < l.length) (hp : zero (gr l i) = true) : keep (l.take (i + 1)) = keep (l.take i) := by
  unfold keep; rw [take_gr h, List.filter_append, List.filter_cons, if_neg (by rw [hp]; decide), List.filter_nil, List.append_nil]
theorem keep_len (l : List (List Int)) : (keep l).length ≤ l.length := List.length_filter_le ..
theorem keep_wide {k : Nat} {l : List (List Int)} (h : Wide k l) : Wide k (keep l) := h.filter _
end Go.XG
