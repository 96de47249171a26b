/-
  Drafts, in plain Lean: a table of rows: four numbers the key, nine the draft.
-/
import Derived.Test.YtnbgdklgcoofkaaTo
namespace Go.XG
/-- A draft that may be, whatever its number is. -/
def IsD (d : List Int) : Prop :=
  (0 ≤ d.getD 1 0 ∧ d.getD 1 0 ≤ 1099511627776) ∧ (0 ≤ d.getD 2 0 ∧ d.getD 2 0 ≤ 4) ∧ (1 ≤ d.getD 3 0 ∧ d.getD 3 0 ≤ 8) ∧ (1 ≤ d.getD 4 0 ∧ d.getD 4 0 ≤ 16) ∧
  (0 ≤ d.getD 5 0 ∧ d.getD 5 0 ≤ 10) ∧ (0 ≤ d.getD 6 0 ∧ d.getD 6 0 ≤ 10) ∧ (-1 ≤ d.getD 7 0 ∧ d.getD 7 0 ≤ 1000) ∧ (0 ≤ d.getD 8 0 ∧ d.getD 8 0 ≤ 1099511627776)
structure Goo (l : List (List Int)) : Prop where
  wide : Wide 13 l
  srt : Srt l
  is : ∀ r ∈ l, IsD (r.drop 4)
section
variable {l : List (List Int)} {o : Int} {d : List Int}
theorem goo_nil : Goo [] := ⟨wide_nil, srt_nil, fun _ h => (by cases h)⟩
theorem Goo.put (h : Goo l) (hd : d.length = 9) (hi : IsD d) : Goo (putR l ([o, 0, 0, 0] ++ d)) :=
  ⟨wide_put h.wide (by simp [hd]), srt_put h.srt h.wide (by decide) (by simp [hd]), fun r hr => by
    rcases mem_put hr with hr | rfl
    · exact h.is r hr
    · exact hi⟩
theorem Goo.at (h : Goo l) (hh : hasK l [o, 0, 0, 0] = true) : ∃ d0 d1 d2 d3 d4 d5 d6 d7 d8, (gr l (bel l [o, 0, 0, 0])).drop 4 = [d0, d1, d2, d3, d4, d5, d6, d7, d8] ∧ IsD [d0, d1, d2, d3, d4, d5, d6, d7, d8] := by
  have hb := has_lt h.srt h.wide (by decide) rfl hh
  have hl : ((gr l (bel l [o, 0, 0, 0])).drop 4).length = 9 := by rw [List.length_drop, h.wide.get hb]
  have hi : IsD ((gr l (bel l [o, 0, 0, 0])).drop 4) := h.is _ (by rw [gr_eq hb]; exact List.getElem_mem hb)
  generalize (gr l (bel l [o, 0, 0, 0])).drop 4 = d at hl hi
  match d, hl with
  | [d0, d1, d2, d3, d4, d5, d6, d7, d8], _ => exact ⟨_, _, _, _, _, _, _, _, _, rfl, hi⟩
theorem nine {d : List Int} (hl : d.length = 9) : ∃ d0 d1 d2 d3 d4 d5 d6 d7 d8, d = [d0, d1, d2, d3, d4, d5, d6, d7, d8] := by
  match d, hl with
  | [d0, d1, d2, d3, d4, d5, d6, d7, d8], _ => exact ⟨_, _, _, _, _, _, _, _, _, rfl⟩
/-- A row that was put in is found. -/
theorem has_put_self : hasK (putR l ([o, 0, 0, 0] ++ d)) [o, 0, 0, 0] = true := by
  unfold hasK putR
  rw [List.any_eq_true]
  exact ⟨[o, 0, 0, 0] ++ d, by simp, by simp [ky]⟩
theorem bel_put_self (h : Goo l) (hd : d.length = 9) (hi : IsD d) : bel (putR l ([o, 0, 0, 0] ++ d)) [o, 0, 0, 0] = bel l [o, 0, 0, 0] := by
  have hg := h.put (o := o) hd hi
  have hb := bel_le l [o, 0, 0, 0]
  have e : gr (putR l ([o, 0, 0, 0] ++ d)) (bel l [o, 0, 0, 0]) = [o, 0, 0, 0] ++ d := by
    unfold putR
    rw [ky_app rfl d, gr_eq (by simp; omega)]
    simp [Nat.min_eq_left hb]
  have hlt : bel l [o, 0, 0, 0] < (putR l ([o, 0, 0, 0] ++ d)).length := by unfold putR; rw [ky_app rfl d]; simp; omega
  refine bel_found hg.srt hg.wide (by decide) rfl (by omega) (fun x hx => ?_) (fun x hx hl => ?_)
  · have := hg.srt.get hx hlt
    rw [e, ky_app rfl d] at this; exact this
  · rcases Nat.lt_or_ge (bel l [o, 0, 0, 0]) x with h1 | h1
    · have := hg.srt.get h1 hl
      rw [e, ky_app rfl d] at this
      have h2 := kcmp_anti [o, 0, 0, 0] (ky (gr (putR l ([o, 0, 0, 0] ++ d)) x))
      omega
    · have : x = bel l [o, 0, 0, 0] := by omega
      subst this
      rw [e, ky_app rfl d, kcmp_self]; decide
theorem get_put_self (h : Goo l) (hd : d.length = 9) (hi : IsD d) : (gr (putR l ([o, 0, 0, 0] ++ d)) (bel (putR l ([o, 0, 0, 0] ++ d)) [o, 0, 0, 0])).drop 4 = d := by
  rw [bel_put_self h hd hi]
  have hb := bel_le l [o, 0, 0, 0]
  unfold putR
  rw [ky_app rfl d, gr_eq (by simp; omega)]
  simp [Nat.min_eq_left hb]
end
theorem isD_iff {d0 d1 d2 d3 d4 d5 d6 d7 d8 : Int} : IsD [d0, d1, d2, d3, d4, d5, d6, d7, d8] ↔ (0 ≤ d1 ∧ d1 ≤ 1099511627776) ∧ (0 ≤ d2 ∧ d2 ≤ 4) ∧ (1 ≤ d3 ∧ d3 ≤ 8) ∧ (1 ≤ d4 ∧ d4 ≤ 16) ∧
  (0 ≤ d5 ∧ d5 ≤ 10) ∧ (0 ≤ d6 ∧ d6 ≤ 10) ∧ (-1 ≤ d7 ∧ d7 ≤ 1000) ∧ (0 ≤ d8 ∧ d8 ≤ 1099511627776) := Iff.rfl
/-! What the changes answer, and what they leave. -/
def useE (d7 d8 j n : Int) : Int := if ¬ (1 ≤ j ∧ j ≤ 1099511627776 ∧ 0 ≤ n ∧ n ≤ 1000) then 1 else if d8 ≠ 0 then 12 else if d7 ≠ -1 ∧ d7 < n then 11 else 0
def useR (d7 d8 j n : Int) : Int := if useE d7 d8 j n = 0 then (if d7 = -1 then -1 else d7 - n) else d7
def useB (d7 d8 j n : Int) : Int := if useE d7 d8 j n = 0 then j else d8
def freeE (d7 d8 j n : Int) : Int := if ¬ (1 ≤ j ∧ j ≤ 1099511627776 ∧ 0 ≤ n ∧ n ≤ 1000) then 1 else if d8 ≠ j then 9 else if d7 ≠ -1 ∧ 1000 < d7 + n then 11 else 0
def freeR (d7 d8 j n : Int) : Int := if freeE d7 d8 j n = 0 then (if d7 = -1 then -1 else d7 + n) else d7
def freeB (d7 d8 j n : Int) : Int := if freeE d7 d8 j n = 0 then 0 else d8
def giveE (d8 o v : Int) : Int := if ¬ (0 ≤ o ∧ o ≤ 1099511627776 ∧ 0 ≤ v ∧ v ≤ 4) then 1 else if d8 ≠ 0 then 12 else 0
def giveO (d1 d8 o v : Int) : Int := if giveE d8 o v = 0 then o else d1
def giveV (d2 d8 o v : Int) : Int := if giveE d8 o v = 0 then v else d2
def learnE (d5 d6 m t : Int) : Int := if m < 0 ∨ t < 0 then 1 else if 10 - d5 < m ∨ 10 - d6 < t then 11 else 0
def learnM (d5 d6 m t : Int) : Int := if learnE d5 d6 m t = 0 then d5 + m else d5
def learnT (d5 d6 m t : Int) : Int := if learnE d5 d6 m t = 0 then d6 + t else d6
def kE (d : List Int) : Int := d.getD 7 0
def useEL (p q : Int) (d : List Int) : Int := useE (d.getD 7 0) (d.getD 8 0) p q
def useL (p q : Int) (d : List Int) : List Int := [d.getD 0 0, d.getD 1 0, d.getD 2 0, d.getD 3 0, d.getD 4 0, d.getD 5 0, d.getD 6 0, useR (d.getD 7 0) (d.getD 8 0) p q, useB (d.getD 7 0) (d.getD 8 0) p q]
def freeEL (p q : Int) (d : List Int) : Int := freeE (d.getD 7 0) (d.getD 8 0) p q
def freeL (p q : Int) (d : List Int) : List Int := [d.getD 0 0, d.getD 1 0, d.getD 2 0, d.getD 3 0, d.getD 4 0, d.getD 5 0, d.getD 6 0, freeR (d.getD 7 0) (d.getD 8 0) p q, freeB (d.getD 7 0) (d.getD 8 0) p q]
def giveEL (p q : Int) (d : List Int) : Int := giveE (d.getD 8 0) p q
def giveL (p q : Int) (d : List Int) : List Int := [d.getD 0 0, giveO (d.getD 1 0) (d.getD 8 0) p q, giveV (d.getD 2 0) (d.getD 8 0) p q, d.getD 3 0, d.getD 4 0, d.getD 5 0, d.getD 6 0, d.getD 7 0, d.getD 8 0]
def learnEL (p q : Int) (d : List Int) : Int := learnE (d.getD 5 0) (d.getD 6 0) p q
def learnL (p q : Int) (d : List Int) : List Int := [d.getD 0 0, d.getD 1 0, d.getD 2 0, d.getD 3 0, d.getD 4 0, learnM (d.getD 5 0) (d.getD 6 0) p q, learnT (d.getD 5 0) (d.getD 6 0) p q, d.getD 7 0, d.getD 8 0]
abbrev drf (l : List (List Int)) (o : Int) : List Int := (gr l (bel l [o, 0, 0, 0])).drop 4
def chE (E : List Int → Int) (l : List (List Int)) (o : Int) : Int := if hasK l [o, 0, 0, 0] = true then E ((gr l (bel l [o, 0, 0, 0])).drop 4) else 3
def chL (E : List Int → Int) (F : List Int → List Int) (l : List (List Int)) (o : Int) : List (List Int) := if chE E l o = 0 then putR l ([o, 0, 0, 0] ++ F ((gr l (bel l [o, 0, 0, 0])).drop 4)) else l
section
variable {E : List Int → Int} {F : List Int → List Int} {l : List (List Int)} {o p q : Int} {d : List Int}
theorem ch_no (h : hasK l [o, 0, 0, 0] = false) : chE E l o = 3 ∧ chL E F l o = l := by
  have h1 : chE E l o = 3 := if_neg (by rw [h]; decide)
  exact ⟨h1, if_neg (by rw [h1]; decide)⟩
theorem ch_bad (h : hasK l [o, 0, 0, 0] = true) (hd : (gr l (bel l [o, 0, 0, 0])).drop 4 = d) (he : ¬ E d = 0) : chE E l o = E d ∧ chL E F l o = l := by
  subst hd
  have h1 : chE E l o = E ((gr l (bel l [o, 0, 0, 0])).drop 4) := if_pos h
  exact ⟨h1, if_neg (by rw [h1]; exact he)⟩
theorem ch_ok (h : hasK l [o, 0, 0, 0] = true) (hd : (gr l (bel l [o, 0, 0, 0])).drop 4 = d) (he : E d = 0) : chE E l o = 0 ∧ chL E F l o = putR l ([o, 0, 0, 0] ++ F d) := by
  subst hd
  have h1 : chE E l o = 0 := (if_pos h).trans he
  exact ⟨h1, if_pos h1⟩
/-- A change that keeps drafts as they may be. -/
def Keeps (E : List Int → Int) (F : List Int → List Int) : Prop := ∀ d0 d1 d2 d3 d4 d5 d6 d7 d8 : Int, IsD [d0, d1, d2, d3, d4, d5, d6, d7, d8] → E [d0, d1, d2, d3, d4, d5, d6, d7, d8] = 0 → (F [d0, d1, d2, d3, d4, d5, d6, d7, d8]).length = 9 ∧ IsD (F [d0, d1, d2, d3, d4, d5, d6, d7, d8])
theorem goo_ch (hk : Keeps E F) (h : Goo l) : Goo (chL E F l o) ∧ (chL E F l o).length ≤ l.length + 1 ∧ (¬ chE E l o = 0 → chL E F l o = l) := by
  cases hh : hasK l [o, 0, 0, 0]
  · rw [(ch_no (E := E) (F := F) hh).2]; exact ⟨h, by omega, fun _ => rfl⟩
  · obtain ⟨d0, d1, d2, d3, d4, d5, d6, d7, d8, hd, hi⟩ := h.at hh
    by_cases he : E [d0, d1, d2, d3, d4, d5, d6, d7, d8] = 0
    · obtain ⟨h1, h2⟩ := ch_ok (F := F) hh hd he
      obtain ⟨h3, h4⟩ := hk _ _ _ _ _ _ _ _ _ hi he
      rw [h2, h1]
      exact ⟨h.put h3 h4, put_len _ _, fun h => absurd rfl h⟩
    · rw [(ch_bad (F := F) hh hd he).2]; exact ⟨h, by omega, fun _ => rfl⟩
theorem keeps_use : Keeps (useEL p q) (useL p q) := fun d0 d1 d2 d3 d4 d5 d6 d7 d8 hi he => by
  refine ⟨rfl, ?_⟩
  replace he : useE d7 d8 p q = 0 := he
  show IsD [d0, d1, d2, d3, d4, d5, d6, useR d7 d8 p q, useB d7 d8 p q]
  unfold useR useB
  rw [if_pos he, if_pos he]
  unfold useE at he
  rw [isD_iff] at hi ⊢
  split at he
  · omega
  · split at he
    · omega
    · split at he
      · omega
      · split <;> omega
theorem keeps_free : Keeps (freeEL p q) (freeL p q) := fun d0 d1 d2 d3 d4 d5 d6 d7 d8 hi he => by
  refine ⟨rfl, ?_⟩
  replace he : freeE d7 d8 p q = 0 := he
  show IsD [d0, d1, d2, d3, d4, d5, d6, freeR d7 d8 p q, freeB d7 d8 p q]
  unfold freeR freeB
  rw [if_pos he, if_pos he]
  unfold freeE at he
  rw [isD_iff] at hi ⊢
  split at he
  · omega
  · split at he
    · omega
    · split at he
      · omega
      · split <;> omega
theorem keeps_give : Keeps (giveEL p q) (giveL p q) := fun d0 d1 d2 d3 d4 d5 d6 d7 d8 hi he => by
  refine ⟨rfl, ?_⟩
  replace he : giveE d8 p q = 0 := he
  show IsD [d0, giveO d1 d8 p q, giveV d2 d8 p q, d3, d4, d5, d6, d7, d8]
  unfold giveO giveV
  rw [if_pos he, if_pos he]
  unfold giveE at he
  rw [isD_iff] at hi ⊢
  split at he
  · omega
  · split at he <;> omega
theorem keeps_learn : Keeps (learnEL p q) (learnL p q) := fun d0 d1 d2 d3 d4 d5 d6 d7 d8 hi he => by
  refine ⟨rfl, ?_⟩
  replace he : learnE d5 d6 p q = 0 := he
  show IsD [d0, d1, d2, d3, d4, learnM d5 d6 p q, learnT d5 d6 p q, d7, d8]
  unfold learnM learnT
  rw [if_pos he, if_pos he]
  unfold learnE at he
  rw [isD_iff] at hi ⊢
  split at he
  · omega
  · split at he <;> omega
end
section
variable {l : List (List Int)} {k : List Int} {o : Int}
theorem get_t (h : hasK l k = true) : Value.tuple #[.agg (ints (if hasK l k = true then (gr l (bel l k)).drop 4 else List.replicate 9 0)).toArray, .bool (hasK l k)] = .tuple #[.agg (ints ((gr l (bel l k)).drop 4)).toArray, .bool true] := by rw [if_pos h, h]
theorem get_f (h : hasK l k = false) : Value.tuple #[.agg (ints (if hasK l k = true then (gr l (bel l k)).drop 4 else List.replicate 9 0)).toArray, .bool (hasK l k)] = .tuple #[.agg (ints (List.replicate 9 0)).toArray, .bool false] := by rw [if_neg (by rw [h]; decide), h]
theorem Goo.len9 (h : Goo l) (hh : hasK l [o, 0, 0, 0] = true) : ((gr l (bel l [o, 0, 0, 0])).drop 4).length = 9 := by
  rw [List.length_drop, h.wide.get (has_lt h.srt h.wide (by decide) rfl hh)]
end
def setId (i : Int) (d : List Int) : List Int := i :: d.drop 1
def AddR (l : List (List Int)) (g : Int) (d : List Int) (L : List (List Int)) (g' n e : Int) : Prop :=
  (IsD d ∧ d.getD 8 0 = 0 ∧ l.length + 1 ≤ 64 ∧ g + 1 ≤ 1099511627775 ∧ e = 0 ∧ n = g + 1 ∧ g' = g + 1 ∧ L = putR l ([g + 1, 0, 0, 0] ++ setId (g + 1) d)) ∨
  (e = 1 ∧ n = 0 ∧ L = l ∧ g' = g ∧ ¬ (IsD d ∧ d.getD 8 0 = 0)) ∨ (e = 4 ∧ n = 0 ∧ L = l ∧ g' = g ∧ ¬ (l.length + 1 ≤ 64 ∧ g + 1 ≤ 1099511627775))
end Go.XG
