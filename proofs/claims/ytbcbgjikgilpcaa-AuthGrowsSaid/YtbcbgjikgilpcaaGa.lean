/-
  Members, in plain Lean: rows of a character's number and its roles, by rising numbers (as if of a table).
-/
import Derived.Test.YtbcbgjikgilpcaaTm
namespace Go.XG
abbrev ow (r : List Int) : Int := r.getD 0 0
abbrev mo (r : List Int) : Int := r.getD 1 0
def tb1 (r : List Int) : List Int := [ow r, 0, 0, 0, mo r]
def tb (x : List (List Int)) : List (List Int) := x.map tb1
def putA (x : List (List Int)) (o m : Int) : List (List Int) :=
  x.take (bel (tb x) [o, 0, 0, 0]) ++ [[o, m]] ++ x.drop (bel (tb x) [o, 0, 0, 0] + if hasK (tb x) [o, 0, 0, 0] = true then 1 else 0)
def tot : List (List Int) → Int
  | [] => 0
  | r :: x => mo r + tot x
def mon (x : List (List Int)) (o : Int) : Int := mo (gr x (bel (tb x) [o, 0, 0, 0]))
def findA (x : List (List Int)) (o : Int) : Int := if hasK (tb x) [o, 0, 0, 0] = true then (bel (tb x) [o, 0, 0, 0] : Nat) else -1
/-- Accounts as they must be. -/
structure Goo (x : List (List Int)) : Prop where
  wide : Wide 2 x
  srt : Srt (tb x)
  pos : ∀ r ∈ x, 0 ≤ mo r
  max : tot x ≤ 1152921504606846976
section
variable {x y : List (List Int)} {o p m n : Int} {i k : Nat}
theorem tb_len : (tb x).length = x.length := List.length_map _
theorem wide_tb : Wide 5 (tb x) := fun r hr => by
  obtain ⟨s, _, rfl⟩ := List.mem_map.1 hr; rfl
theorem gr_tb (h : i < x.length) : gr (tb x) i = tb1 (gr x i) := by
  rw [gr_eq (by rw [tb_len]; exact h), gr_eq h]; exact List.getElem_map _
theorem kc_k (a b : Int) : kcmp [a, 0, 0, 0] [b, 0, 0, 0] = if a < b then -1 else if b < a then 1 else 0 := by
  simp [kcmp]
theorem kc_lt (a b : Int) : kcmp [a, 0, 0, 0] [b, 0, 0, 0] < 0 ↔ a < b := by
  rw [kc_k]; split
  · omega
  · split <;> omega
theorem ky_tb (h : i < x.length) : ky (gr (tb x) i) = [ow (gr x i), 0, 0, 0] := by rw [gr_tb h]; rfl
theorem asc (hs : Srt (tb x)) {j : Nat} (h : i < j) (hj : j < x.length) : ow (gr x i) < ow (gr x j) := by
  have := hs.get h (by rw [tb_len]; exact hj)
  rwa [ky_tb (by omega), ky_tb hj, kc_lt] at this
theorem bel_at (hs : Srt (tb x)) (hi : i ≤ x.length) (h1 : ∀ j, j < i → ow (gr x j) < o) (h2 : i < x.length → ¬ ow (gr x i) < o) : bel (tb x) [o, 0, 0, 0] = i := by
  refine bel_found hs wide_tb (by decide) rfl (by rw [tb_len]; exact hi) (fun j hj => ?_) (fun j hj hl => ?_)
  · rw [ky_tb (by omega), kc_lt]; exact h1 j hj
  · rw [tb_len] at hl
    rw [ky_tb hl, kc_lt]
    have h3 := h2 (by omega)
    rcases Nat.lt_or_ge i j with h4 | h4
    · have := asc hs h4 hl; omega
    · have : i = j := by omega
      subst this; exact h3
theorem has_at (hs : Srt (tb x)) : hasK (tb x) [o, 0, 0, 0] = true ↔ bel (tb x) [o, 0, 0, 0] < x.length ∧ ow (gr x (bel (tb x) [o, 0, 0, 0])) = o := by
  rw [has_iff hs wide_tb (by decide) rfl, tb_len]
  constructor
  · rintro ⟨h1, h2⟩
    rw [ky_tb h1] at h2
    exact ⟨h1, by injection h2⟩
  · rintro ⟨h1, h2⟩
    exact ⟨h1, by rw [ky_tb h1, h2]⟩
theorem find_at (hs : Srt (tb x)) (hi : i < x.length) (h : ow (gr x i) = o) : findA x o = (i : Nat) := by
  have hb : bel (tb x) [o, 0, 0, 0] = i := bel_at hs (by omega) (fun j hj => by have := asc hs hj hi; omega) (fun _ => by omega)
  unfold findA
  rw [if_pos ((has_at hs).2 (by rw [hb]; exact ⟨hi, h⟩)), hb]
theorem find_no (hs : Srt (tb x)) (h : ∀ j, j < x.length → ow (gr x j) ≠ o) : findA x o = -1 := by
  unfold findA
  rw [if_neg]
  intro hh
  obtain ⟨h1, h2⟩ := (has_at hs).1 hh
  exact h _ h1 h2
theorem find_has (h : hasK (tb x) [o, 0, 0, 0] = true) : findA x o = (bel (tb x) [o, 0, 0, 0] : Nat) := if_pos h
theorem find_none (h : hasK (tb x) [o, 0, 0, 0] = false) : findA x o = -1 := if_neg (by rw [h]; decide)
theorem put_new2 (h : hasK (tb x) [o, 0, 0, 0] = false) : putA x o m = x.take (bel (tb x) [o, 0, 0, 0]) ++ [[o, m]] ++ x.drop (bel (tb x) [o, 0, 0, 0]) := by
  unfold putA; rw [if_neg (by rw [h]; decide)]; rfl
theorem put_has2 (h : hasK (tb x) [o, 0, 0, 0] = true) : putA x o m = x.take (bel (tb x) [o, 0, 0, 0]) ++ [[o, m]] ++ x.drop (bel (tb x) [o, 0, 0, 0] + 1) := by
  unfold putA; rw [if_pos h]
theorem tb_put : putR (tb x) ([o, 0, 0, 0] ++ [m]) = tb (putA x o m) := by
  cases h : hasK (tb x) [o, 0, 0, 0]
  · rw [put_new rfl h, put_new2 h]; simp [tb, tb1]
  · rw [put_has rfl h, put_has2 h]; simp [tb, tb1]
theorem wide_putA (hw : Wide 2 x) : Wide 2 (putA x o m) := (hw.take.app (fun r hr => by rw [List.mem_singleton] at hr; rw [hr]; rfl)).app hw.drop
theorem srt_putA (hs : Srt (tb x)) : Srt (tb (putA x o m)) := by
  rw [← tb_put]; exact srt_put hs wide_tb (by decide) rfl
theorem len_putA : (putA x o m).length ≤ x.length + 1 := by
  have := put_len (tb x) ([o, 0, 0, 0] ++ [m])
  rwa [tb_put, tb_len, tb_len] at this
theorem tot_app : tot (x ++ y) = tot x + tot y := by
  induction x with
  | nil => simp [tot]
  | cons r x ih => simp only [List.cons_append, tot, ih]; omega
theorem tot_nonneg (h : ∀ r ∈ x, 0 ≤ mo r) : 0 ≤ tot x := by
  induction x with
  | nil => exact Int.le_refl _
  | cons r x ih =>
    have := h r (by simp)
    have := ih (fun s hs => h s (by simp [hs]))
    simp only [tot]; omega
theorem mo_le (h : ∀ r ∈ x, 0 ≤ mo r) {r : List Int} (hr : r ∈ x) : mo r ≤ tot x := by
  obtain ⟨a, b, rfl⟩ := List.append_of_mem hr
  have h1 := tot_nonneg (x := a) (fun s hs => h s (by simp [hs]))
  have h2 := tot_nonneg (x := b) (fun s hs => h s (by simp [hs]))
  rw [tot_app]; simp only [tot]; omega
theorem gr_mem (h : i < x.length) : gr x i ∈ x := by rw [gr_eq h]; exact List.getElem_mem _
theorem tot_take (h : i < x.length) : tot (x.take (i + 1)) = tot (x.take i) + mo (gr x i) := by
  rw [take_gr h, tot_app]; simp [tot]
theorem tot_split : tot (x.take i) + tot (x.drop i) = tot x := by rw [← tot_app, List.take_append_drop]
theorem tot_new (h : hasK (tb x) [o, 0, 0, 0] = false) : tot (putA x o m) = tot x + m := by
  rw [put_new2 h, tot_app, tot_app]
  have := tot_split (x := x) (i := bel (tb x) [o, 0, 0, 0])
  simp only [tot, mo, List.getD_cons_succ, List.getD_cons_zero]; omega
theorem tot_has (hs : Srt (tb x)) (h : hasK (tb x) [o, 0, 0, 0] = true) : tot (putA x o m) = tot x - mon x o + m := by
  obtain ⟨h1, _⟩ := (has_at hs).1 h
  rw [put_has2 h, tot_app, tot_app]
  have h2 := tot_split (x := x) (i := bel (tb x) [o, 0, 0, 0])
  rw [drop_gr h1] at h2
  simp only [tot, mo, mon, List.getD_cons_succ, List.getD_cons_zero] at h2 ⊢; omega
theorem Goo.mon (h : Goo x) (hh : hasK (tb x) [o, 0, 0, 0] = true) : 0 ≤ mon x o ∧ XG.mon x o ≤ tot x := by
  obtain ⟨h1, _⟩ := (has_at h.srt).1 hh
  exact ⟨h.pos _ (gr_mem h1), mo_le h.pos (gr_mem h1)⟩
theorem Goo.tot0 (h : Goo x) : 0 ≤ tot x := tot_nonneg h.pos
theorem goo_nil : Goo [] := ⟨fun _ h => (by cases h), srt_nil, fun _ h => (by cases h), by decide⟩
theorem pos_put (h : ∀ r ∈ x, 0 ≤ mo r) (hm : 0 ≤ m) : ∀ r ∈ putA x o m, 0 ≤ mo r := fun r hr => by
  unfold putA at hr
  rcases List.mem_append.1 hr with hr | hr
  · rcases List.mem_append.1 hr with hr | hr
    · exact h r (List.mem_of_mem_take hr)
    · rw [List.mem_singleton] at hr; rw [hr]; exact hm
  · exact h r (List.mem_of_mem_drop hr)
theorem Goo.put (h : Goo x) (hm : 0 ≤ m) (ht : tot (putA x o m) ≤ 1152921504606846976) : Goo (putA x o m) := ⟨wide_putA h.wide, srt_putA h.srt, pos_put h.pos hm, ht⟩
theorem get_tb (hs : Srt (tb x)) (h : hasK (tb x) [o, 0, 0, 0] = true) : (gr (tb x) (bel (tb x) [o, 0, 0, 0])).getD 4 0 = mon x o := by
  obtain ⟨h1, _⟩ := (has_at hs).1 h
  rw [gr_tb h1]; rfl
theorem row2 {r : List Int} (h : r.length = 2) : [ow r, mo r] = r := by
  match r, h with
  | [a, b], _ => rfl
theorem tb_back (hw : Wide 2 x) : (tb x).map (fun r => [r.getD 0 0, r.getD 4 0]) = x := by
  unfold tb
  rw [List.map_map]
  have : ∀ r ∈ x, ((fun r : List Int => [r.getD 0 0, r.getD 4 0]) ∘ tb1) r = r := fun r hr => row2 (hw r hr)
  rw [List.map_congr_left this]; simp
/-! Keys alone. -/
theorem has_keys : hasK (tb x) [o, 0, 0, 0] = (x.map ow).any fun q => decide (q = o) := by
  unfold hasK tb; rw [List.any_map, List.any_map]
  congr 1; funext r
  simp [ky, tb1]
theorem bel_keys : bel (tb x) [o, 0, 0, 0] = ((x.map ow).filter fun q => decide (q < o)).length := by
  unfold bel tb
  rw [List.filter_map, List.length_map, List.filter_map, List.length_map]
  congr 2; funext r
  simp only [Function.comp]
  exact decide_eq_decide.2 (kc_lt (ow r) o)
theorem keys_put (hs : Srt (tb x)) (h : hasK (tb x) [o, 0, 0, 0] = true) : (putA x o m).map ow = x.map ow := by
  obtain ⟨h1, h2⟩ := (has_at hs).1 h
  rw [put_has2 h]
  have h3 : x = x.take (bel (tb x) [o, 0, 0, 0]) ++ [gr x (bel (tb x) [o, 0, 0, 0])] ++ x.drop (bel (tb x) [o, 0, 0, 0] + 1) := by
    rw [List.append_assoc, List.singleton_append, ← drop_gr h1, List.take_append_drop]
  conv => rhs; rw [h3]
  simp only [List.map_append, List.map_cons, List.map_nil]
  rw [show ow [o, m] = o from rfl, h2]
theorem has_put (hs : Srt (tb x)) (h : hasK (tb x) [o, 0, 0, 0] = true) : hasK (tb (putA x o m)) [p, 0, 0, 0] = hasK (tb x) [p, 0, 0, 0] := by rw [has_keys, has_keys, keys_put hs h]
theorem has_same (h : x.map ow = y.map ow) : hasK (tb x) [o, 0, 0, 0] = hasK (tb y) [o, 0, 0, 0] := by rw [has_keys, has_keys, h]
theorem keys_new (h : hasK (tb x) [o, 0, 0, 0] = false) : (putA x o m).map ow = (x.map ow).take ((x.map ow).filter fun q => decide (q < o)).length ++ [o] ++ (x.map ow).drop ((x.map ow).filter fun q => decide (q < o)).length := by
  rw [put_new2 h, bel_keys]
  simp [List.map_take, List.map_drop]
theorem keys_same (h : x.map ow = y.map ow) (hh : hasK (tb x) [o, 0, 0, 0] = false) : (putA x o m).map ow = (putA y o n).map ow := by
  rw [keys_new hh, keys_new (by rw [← has_same h]; exact hh), h]
/-- An account that is there, given twice. -/
theorem has_put_self : hasK (tb (putA x o m)) [o, 0, 0, 0] = true := by
  unfold hasK
  rw [List.any_eq_true]
  refine ⟨tb1 [o, m], ?_, by simp [tb1, ky]⟩
  unfold tb putA
  simp
theorem bel_put_self (hs : Srt (tb x)) : bel (tb (putA x o m)) [o, 0, 0, 0] = bel (tb x) [o, 0, 0, 0] := by
  have hb := bel_le (tb x) [o, 0, 0, 0]
  rw [tb_len] at hb
  cases h : hasK (tb x) [o, 0, 0, 0]
  · have e : gr (putA x o m) (bel (tb x) [o, 0, 0, 0]) = [o, m] := by
      rw [put_new2 h, gr_eq (by simp; omega)]
      simp [Nat.min_eq_left hb]
    refine bel_at (srt_putA hs) (by rw [put_new2 h]; simp; omega) (fun j hj => ?_) (fun _ => by rw [e]; simp [ow])
    have := asc (srt_putA (o := o) (m := m) hs) hj (by rw [put_new2 h]; simp; omega)
    rw [e] at this; exact this
  · rw [bel_keys, keys_put hs h, ← bel_keys]
theorem put_put (hs : Srt (tb x)) : putA (putA x o m) o n = putA x o n := by
  have hb := bel_le (tb x) [o, 0, 0, 0]
  rw [tb_len] at hb
  have e := bel_put_self (o := o) (m := m) hs
  rw [put_has2 has_put_self, e]
  unfold putA
  have hl : (x.take (bel (tb x) [o, 0, 0, 0])).length = bel (tb x) [o, 0, 0, 0] := by simp; omega
  simp only [List.append_assoc]
  congr 1
  · rw [List.take_append_of_le_length (by omega), List.take_take, Nat.min_self]
  · congr 1
    rw [List.drop_append, hl, List.drop_eq_nil_of_le (by omega)]
    simp
theorem mon_put_self (hs : Srt (tb x)) : mon (putA x o m) o = m := by
  have hb := bel_le (tb x) [o, 0, 0, 0]
  rw [tb_len] at hb
  unfold mon
  rw [bel_put_self hs]
  unfold putA
  rw [gr_eq (by simp; omega)]
  simp [Nat.min_eq_left hb, mo]
end
section
variable {i : Nat}
theorem all_next {p : Nat → Prop} (h : ∀ j, j < i → p j) (hi : p i) : ∀ j, j < i + 1 → p j := fun j hj => by
  rcases Nat.lt_or_ge j i with h1 | h1
  · exact h j h1
  · have : j = i := by omega
    subst this; exact hi
end
end Go.XG
