/-
  Accounts and purses, in plain Lean and in memory.
-/
import Derived.Test.YtjlhjjjhblcokaaTo
import Derived.Test.YtjlhjjjhblcokaaXs
namespace Go.XG.Pu
abbrev ow (r : List Int) : Int := r.getD 0 0
abbrev mo (r : List Int) : Int := r.getD 1 0
def tb1 (r : List Int) : List Int := [ow r, 0, 0, 0, mo r]
def tb (x : List (List Int)) : List (List Int) := x.map tb1
def putA (x : List (List Int)) (o m : Int) : List (List Int) :=
  x.take (bel (tb x) [o, 0, 0, 0]) ++ [[o, m]] ++ x.drop (bel (tb x) [o, 0, 0, 0] + if hasK (tb x) [o, 0, 0, 0] = true then 1 else 0)
def tot : List (List Int) → Int
  | [] => 0
  | r :: x => mo r + tot x
def mon (x : List (List Int)) (o : Int) : Int := mo (gr x (bel (tb x) [o, 0, 0, 0]))
def findA (x : List (List Int)) (o : Int) : Int := if hasK (tb x) [o, 0, 0, 0] = true then (bel (tb x) [o, 0, 0, 0] : Nat) else -1
/-- Accounts as they must be. -/
structure Goo (x : List (List Int)) : Prop where
  wide : Wide 2 x
  srt : Srt (tb x)
  pos : ∀ r ∈ x, 0 ≤ mo r
  max : tot x ≤ 1152921504606846976
section
variable {x y : List (List Int)} {o p m n : Int} {i k : Nat}
theorem tb_len : (tb x).length = x.length := List.length_map _
theorem wide_tb : Wide 5 (tb x) := fun r hr => by
  obtain ⟨s, _, rfl⟩ := List.mem_map.1 hr; rfl
theorem gr_tb (h : i < x.length) : gr (tb x) i = tb1 (gr x i) := by
  rw [gr_eq (by rw [tb_len]; exact h), gr_eq h]; exact List.getElem_map _
theorem kc_k (a b : Int) : kcmp [a, 0, 0, 0] [b, 0, 0, 0] = if a < b then -1 else if b < a then 1 else 0 := by
  simp [kcmp]
theorem kc_lt (a b : Int) : kcmp [a, 0, 0, 0] [b, 0, 0, 0] < 0 ↔ a < b := by
  rw [kc_k]; split
  · omega
  · split <;> omega
theorem ky_tb (h : i < x.length) : ky (gr (tb x) i) = [ow (gr x i), 0, 0, 0] := by rw [gr_tb h]; rfl
theorem asc (hs : Srt (tb x)) {j : Nat} (h : i < j) (hj : j < x.length) : ow (gr x i) < ow (gr x j) := by
  have := hs.get h (by rw [tb_len]; exact hj)
  rwa [ky_tb (by omega), ky_tb hj, kc_lt] at this
theorem bel_at (hs : Srt (tb x)) (hi : i ≤ x.length) (h1 : ∀ j, j < i → ow (gr x j) < o) (h2 : i < x.length → ¬ ow (gr x i) < o) : bel (tb x) [o, 0, 0, 0] = i := by
  refine bel_found hs wide_tb (by decide) rfl (by rw [tb_len]; exact hi) (fun j hj => ?_) (fun j hj hl => ?_)
  · rw [ky_tb (by omega), kc_lt]; exact h1 j hj
  · rw [tb_len] at hl
    rw [ky_tb hl, kc_lt]
    have h3 := h2 (by omega)
    rcases Nat.lt_or_ge i j with h4 | h4
    · have := asc hs h4 hl; omega
    · have : i = j := by omega
      subst this; exact h3
theorem has_at (hs : Srt (tb x)) : hasK (tb x) [o, 0, 0, 0] = true ↔ bel (tb x) [o, 0, 0, 0] < x.length ∧ ow (gr x (bel (tb x) [o, 0, 0, 0])) = o := by
  rw [has_iff hs wide_tb (by decide) rfl, tb_len]
  constructor
  · rintro ⟨h1, h2⟩
    rw [ky_tb h1] at h2
    exact ⟨h1, by injection h2⟩
  · rintro ⟨h1, h2⟩
    exact ⟨h1, by rw [ky_tb h1, h2]⟩
theorem find_at (hs : Srt (tb x)) (hi : i < x.length) (h : ow (gr x i) = o) : findA x o = (i : Nat) := by
  have hb : bel (tb x) [o, 0, 0, 0] = i := bel_at hs (by omega) (fun j hj => by have := asc hs hj hi; omega) (fun _ => by omega)
  unfold findA
  rw [if_pos ((has_at hs).2 (by rw [hb]; exact ⟨hi, h⟩)), hb]
theorem find_no (hs : Srt (tb x)) (h : ∀ j, j < x.length → ow (gr x j) ≠ o) : findA x o = -1 := by
  unfold findA
  rw [if_neg]
  intro hh
  obtain ⟨h1, h2⟩ := (has_at hs).1 hh
  exact h _ h1 h2
theorem find_has (h : hasK (tb x) [o, 0, 0, 0] = true) : findA x o = (bel (tb x) [o, 0, 0, 0] : Nat) := if_pos h
theorem find_none (h : hasK (tb x) [o, 0, 0, 0] = false) : findA x o = -1 := if_neg (by rw [h]; decide)
theorem put_new2 (h : hasK (tb x) [o, 0, 0, 0] = false) : putA x o m = x.take (bel (tb x) [o, 0, 0, 0]) ++ [[o, m]] ++ x.drop (bel (tb x) [o, 0, 0, 0]) := by
  unfold putA; rw [if_neg (by rw [h]; decide)]; rfl
theorem put_has2 (h : hasK (tb x) [o, 0, 0, 0] = true) : putA x o m = x.take (bel (tb x) [o, 0, 0, 0]) ++ [[o, m]] ++ x.drop (bel (tb x) [o, 0, 0, 0] + 1) := by
  unfold putA; rw [if_pos h]
theorem tb_put : putR (tb x) ([o, 0, 0, 0] ++ [m]) = tb (putA x o m) := by
  cases h : hasK (tb x) [o, 0, 0, 0]
  · rw [put_new rfl h, put_new2 h]; simp [tb, tb1]
  · rw [put_has rfl h, put_has2 h]; simp [tb, tb1]
theorem wide_putA (hw : Wide 2 x) : Wide 2 (putA x o m) := (hw.take.app (fun r hr => by rw [List.mem_singleton] at hr; rw [hr]; rfl)).app hw.drop
theorem srt_putA (hs : Srt (tb x)) : Srt (tb (putA x o m)) := by
  rw [← tb_put]; exact srt_put hs wide_tb (by decide) rfl
theorem len_putA : (putA x o m).length ≤ x.length + 1 := by
  have := put_len (tb x) ([o, 0, 0, 0] ++ [m])
  rwa [tb_put, tb_len, tb_len] at this
theorem tot_app : tot (x ++ y) = tot x + tot y := by
  induction x with
  | nil => simp [tot]
  | cons r x ih => simp only [List.cons_append, tot, ih]; omega
theorem tot_nonneg (h : ∀ r ∈ x, 0 ≤ mo r) : 0 ≤ tot x := by
  induction x with
  | nil => exact Int.le_refl _
  | cons r x ih =>
    have := h r (by simp)
    have := ih (fun s hs => h s (by simp [hs]))
    simp only [tot]; omega
theorem mo_le (h : ∀ r ∈ x, 0 ≤ mo r) {r : List Int} (hr : r ∈ x) : mo r ≤ tot x := by
  obtain ⟨a, b, rfl⟩ := List.append_of_mem hr
  have h1 := tot_nonneg (x := a) (fun s hs => h s (by simp [hs]))
  have h2 := tot_nonneg (x := b) (fun s hs => h s (by simp [hs]))
  rw [tot_app]; simp only [tot]; omega
theorem gr_mem (h : i < x.length) : gr x i ∈ x := by rw [gr_eq h]; exact List.getElem_mem _
theorem tot_take (h : i < x.length) : tot (x.take (i + 1)) = tot (x.take i) + mo (gr x i) := by
  rw [take_gr h, tot_app]; simp [tot]
theorem tot_split : tot (x.take i) + tot (x.drop i) = tot x := by rw [← tot_app, List.take_append_drop]
theorem tot_new (h : hasK (tb x) [o, 0, 0, 0] = false) : tot (putA x o m) = tot x + m := by
  rw [put_new2 h, tot_app, tot_app]
  have := tot_split (x := x) (i := bel (tb x) [o, 0, 0, 0])
  simp only [tot, mo, List.getD_cons_succ, List.getD_cons_zero]; omega
theorem tot_has (hs : Srt (tb x)) (h : hasK (tb x) [o, 0, 0, 0] = true) : tot (putA x o m) = tot x - mon x o + m := by
  obtain ⟨h1, _⟩ := (has_at hs).1 h
  rw [put_has2 h, tot_app, tot_app]
  have h2 := tot_split (x := x) (i := bel (tb x) [o, 0, 0, 0])
  rw [drop_gr h1] at h2
  simp only [tot, mo, mon, List.getD_cons_succ, List.getD_cons_zero] at h2 ⊢; omega
theorem Goo.mon (h : Goo x) (hh : hasK (tb x) [o, 0, 0, 0] = true) : 0 ≤ mon x o ∧ Pu.mon x o ≤ tot x := by
  obtain ⟨h1, _⟩ := (has_at h.srt).1 hh
  exact ⟨h.pos _ (gr_mem h1), mo_le h.pos (gr_mem h1)⟩
theorem Goo.tot0 (h : Goo x) : 0 ≤ tot x := tot_nonneg h.pos
theorem goo_nil : Goo [] := ⟨fun _ h => (by cases h), srt_nil, fun _ h => (by cases h), by decide⟩
theorem pos_put (h : ∀ r ∈ x, 0 ≤ mo r) (hm : 0 ≤ m) : ∀ r ∈ putA x o m, 0 ≤ mo r := fun r hr => by
  unfold putA at hr
  rcases List.mem_append.1 hr with hr | hr
  · rcases List.mem_append.1 hr with hr | hr
    · exact h r (List.mem_of_mem_take hr)
    · rw [List.mem_singleton] at hr; rw [hr]; exact hm
  · exact h r (List.mem_of_mem_drop hr)
theorem Goo.put (h : Goo x) (hm : 0 ≤ m) (ht : tot (putA x o m) ≤ 1152921504606846976) : Goo (putA x o m) := ⟨wide_putA h.wide, srt_putA h.srt, pos_put h.pos hm, ht⟩
theorem get_tb (hs : Srt (tb x)) (h : hasK (tb x) [o, 0, 0, 0] = true) : (gr (tb x) (bel (tb x) [o, 0, 0, 0])).getD 4 0 = mon x o := by
  obtain ⟨h1, _⟩ := (has_at hs).1 h
  rw [gr_tb h1]; rfl
theorem row2 {r : List Int} (h : r.length = 2) : [ow r, mo r] = r := by
  match r, h with
  | [a, b], _ => rfl
theorem tb_back (hw : Wide 2 x) : (tb x).map (fun r => [r.getD 0 0, r.getD 4 0]) = x := by
  unfold tb
  rw [List.map_map]
  have : ∀ r ∈ x, ((fun r : List Int => [r.getD 0 0, r.getD 4 0]) ∘ tb1) r = r := fun r hr => row2 (hw r hr)
  rw [List.map_congr_left this]; simp
/-! Keys alone. -/
theorem has_keys : hasK (tb x) [o, 0, 0, 0] = (x.map ow).any fun q => decide (q = o) := by
  unfold hasK tb; rw [List.any_map, List.any_map]
  congr 1; funext r
  simp [ky, tb1]
theorem bel_keys : bel (tb x) [o, 0, 0, 0] = ((x.map ow).filter fun q => decide (q < o)).length := by
  unfold bel tb
  rw [List.filter_map, List.length_map, List.filter_map, List.length_map]
  congr 2; funext r
  simp only [Function.comp]
  exact decide_eq_decide.2 (kc_lt (ow r) o)
theorem keys_put (hs : Srt (tb x)) (h : hasK (tb x) [o, 0, 0, 0] = true) : (putA x o m).map ow = x.map ow := by
  obtain ⟨h1, h2⟩ := (has_at hs).1 h
  rw [put_has2 h]
  have h3 : x = x.take (bel (tb x) [o, 0, 0, 0]) ++ [gr x (bel (tb x) [o, 0, 0, 0])] ++ x.drop (bel (tb x) [o, 0, 0, 0] + 1) := by
    rw [List.append_assoc, List.singleton_append, ← drop_gr h1, List.take_append_drop]
  conv => rhs; rw [h3]
  simp only [List.map_append, List.map_cons, List.map_nil]
  rw [show ow [o, m] = o from rfl, h2]
theorem has_put (hs : Srt (tb x)) (h : hasK (tb x) [o, 0, 0, 0] = true) : hasK (tb (putA x o m)) [p, 0, 0, 0] = hasK (tb x) [p, 0, 0, 0] := by rw [has_keys, has_keys, keys_put hs h]
theorem has_same (h : x.map ow = y.map ow) : hasK (tb x) [o, 0, 0, 0] = hasK (tb y) [o, 0, 0, 0] := by rw [has_keys, has_keys, h]
theorem keys_new (h : hasK (tb x) [o, 0, 0, 0] = false) : (putA x o m).map ow = (x.map ow).take ((x.map ow).filter fun q => decide (q < o)).length ++ [o] ++ (x.map ow).drop ((x.map ow).filter fun q => decide (q < o)).length := by
  rw [put_new2 h, bel_keys]
  simp [List.map_take, List.map_drop]
theorem keys_same (h : x.map ow = y.map ow) (hh : hasK (tb x) [o, 0, 0, 0] = false) : (putA x o m).map ow = (putA y o n).map ow := by
  rw [keys_new hh, keys_new (by rw [← has_same h]; exact hh), h]
/-- An account that is there, given twice. -/
theorem has_put_self : hasK (tb (putA x o m)) [o, 0, 0, 0] = true := by
  unfold hasK
  rw [List.any_eq_true]
  refine ⟨tb1 [o, m], ?_, by simp [tb1, ky]⟩
  unfold tb putA
  simp
theorem bel_put_self (hs : Srt (tb x)) : bel (tb (putA x o m)) [o, 0, 0, 0] = bel (tb x) [o, 0, 0, 0] := by
  have hb := bel_le (tb x) [o, 0, 0, 0]
  rw [tb_len] at hb
  cases h : hasK (tb x) [o, 0, 0, 0]
  · have e : gr (putA x o m) (bel (tb x) [o, 0, 0, 0]) = [o, m] := by
      rw [put_new2 h, gr_eq (by simp; omega)]
      simp [Nat.min_eq_left hb]
    refine bel_at (srt_putA hs) (by rw [put_new2 h]; simp; omega) (fun j hj => ?_) (fun _ => by rw [e]; simp [ow])
    have := asc (srt_putA (o := o) (m := m) hs) hj (by rw [put_new2 h]; simp; omega)
    rw [e] at this; exact this
  · rw [bel_keys, keys_put hs h, ← bel_keys]
theorem put_put (hs : Srt (tb x)) : putA (putA x o m) o n = putA x o n := by
  have hb := bel_le (tb x) [o, 0, 0, 0]
  rw [tb_len] at hb
  have e := bel_put_self (o := o) (m := m) hs
  rw [put_has2 has_put_self, e]
  unfold putA
  have hl : (x.take (bel (tb x) [o, 0, 0, 0])).length = bel (tb x) [o, 0, 0, 0] := by simp; omega
  simp only [List.append_assoc]
  congr 1
  · rw [List.take_append_of_le_length (by omega), List.take_take, Nat.min_self]
  · congr 1
    rw [List.drop_append, hl, List.drop_eq_nil_of_le (by omega)]
    simp
theorem mon_put_self (hs : Srt (tb x)) : mon (putA x o m) o = m := by
  have hb := bel_le (tb x) [o, 0, 0, 0]
  rw [tb_len] at hb
  unfold mon
  rw [bel_put_self hs]
  unfold putA
  rw [gr_eq (by simp; omega)]
  simp [Nat.min_eq_left hb, mo]
end
/-! What the calls answer, and what they leave. -/
def openE (x : List (List Int)) (o : Int) : Int := if o < 0 ∨ 1099511627776 < o then 1 else if hasK (tb x) [o, 0, 0, 0] = true then 9 else 0
def openX (x : List (List Int)) (o : Int) : List (List Int) := if openE x o = 0 then putA x o 0 else x
def giveE (x : List (List Int)) (o n : Int) : Int := if hasK (tb x) [o, 0, 0, 0] = false then 3 else if n < 0 then 1 else if 1152921504606846976 - tot x < n then 5 else 0
def giveX (x : List (List Int)) (o n : Int) : List (List Int) := if giveE x o n = 0 then putA x o (mon x o + n) else x
def takeE (x : List (List Int)) (o n : Int) : Int := if hasK (tb x) [o, 0, 0, 0] = false then 3 else if n < 0 then 1 else if mon x o < n then 6 else 0
def takeX (x : List (List Int)) (o n : Int) : List (List Int) := if takeE x o n = 0 then putA x o (mon x o - n) else x
def moveE (x : List (List Int)) (a b n : Int) : Int := if hasK (tb x) [a, 0, 0, 0] = false ∨ hasK (tb x) [b, 0, 0, 0] = false then 3 else takeE x a n
def moveX (x : List (List Int)) (a b n : Int) : List (List Int) := if moveE x a b n = 0 then putA (takeX x a n) b (mon (takeX x a n) b + n) else x
section
variable {x : List (List Int)} {o a b n : Int}
theorem open_arg (h : o < 0 ∨ 1099511627776 < o) : openE x o = 1 ∧ openX x o = x := by unfold openX; rw [show openE x o = 1 from if_pos h]; exact ⟨rfl, if_neg (by decide)⟩
theorem open_state (h1 : ¬ o < 0) (h2 : ¬ 1099511627776 < o) (h : hasK (tb x) [o, 0, 0, 0] = true) : openE x o = 9 ∧ openX x o = x := by
  unfold openX; rw [show openE x o = 9 from (if_neg (by omega)).trans (if_pos h)]; exact ⟨rfl, if_neg (by decide)⟩
theorem open_ok (h1 : ¬ o < 0) (h2 : ¬ 1099511627776 < o) (h : hasK (tb x) [o, 0, 0, 0] = false) : openE x o = 0 ∧ openX x o = putA x o 0 := by
  unfold openX; rw [show openE x o = 0 from (if_neg (by omega)).trans (if_neg (by rw [h]; decide))]; exact ⟨rfl, if_pos rfl⟩
theorem give_none (h : hasK (tb x) [o, 0, 0, 0] = false) : giveE x o n = 3 ∧ giveX x o n = x := by unfold giveX; rw [show giveE x o n = 3 from if_pos h]; exact ⟨rfl, if_neg (by decide)⟩
theorem give_arg (h : hasK (tb x) [o, 0, 0, 0] = true) (hn : n < 0) : giveE x o n = 1 ∧ giveX x o n = x := by
  unfold giveX; rw [show giveE x o n = 1 from (if_neg (by rw [h]; decide)).trans (if_pos hn)]; exact ⟨rfl, if_neg (by decide)⟩
theorem give_over (h : hasK (tb x) [o, 0, 0, 0] = true) (hn : ¬ n < 0) (ho : 1152921504606846976 - tot x < n) : giveE x o n = 5 ∧ giveX x o n = x := by
  unfold giveX; rw [show giveE x o n = 5 from (if_neg (by rw [h]; decide)).trans ((if_neg hn).trans (if_pos ho))]; exact ⟨rfl, if_neg (by decide)⟩
theorem give_ok (h : hasK (tb x) [o, 0, 0, 0] = true) (hn : ¬ n < 0) (ho : ¬ 1152921504606846976 - tot x < n) : giveE x o n = 0 ∧ giveX x o n = putA x o (mon x o + n) := by
  unfold giveX; rw [show giveE x o n = 0 from (if_neg (by rw [h]; decide)).trans ((if_neg hn).trans (if_neg ho))]; exact ⟨rfl, if_pos rfl⟩
theorem take_none (h : hasK (tb x) [o, 0, 0, 0] = false) : takeE x o n = 3 ∧ takeX x o n = x := by unfold takeX; rw [show takeE x o n = 3 from if_pos h]; exact ⟨rfl, if_neg (by decide)⟩
theorem take_arg (h : hasK (tb x) [o, 0, 0, 0] = true) (hn : n < 0) : takeE x o n = 1 ∧ takeX x o n = x := by
  unfold takeX; rw [show takeE x o n = 1 from (if_neg (by rw [h]; decide)).trans (if_pos hn)]; exact ⟨rfl, if_neg (by decide)⟩
theorem take_funds (h : hasK (tb x) [o, 0, 0, 0] = true) (hn : ¬ n < 0) (ho : mon x o < n) : takeE x o n = 6 ∧ takeX x o n = x := by
  unfold takeX; rw [show takeE x o n = 6 from (if_neg (by rw [h]; decide)).trans ((if_neg hn).trans (if_pos ho))]; exact ⟨rfl, if_neg (by decide)⟩
theorem take_ok (h : hasK (tb x) [o, 0, 0, 0] = true) (hn : ¬ n < 0) (ho : ¬ mon x o < n) : takeE x o n = 0 ∧ takeX x o n = putA x o (mon x o - n) := by
  unfold takeX; rw [show takeE x o n = 0 from (if_neg (by rw [h]; decide)).trans ((if_neg hn).trans (if_neg ho))]; exact ⟨rfl, if_pos rfl⟩
theorem take_inv (h : takeE x o n = 0) : hasK (tb x) [o, 0, 0, 0] = true ∧ 0 ≤ n ∧ n ≤ mon x o ∧ takeX x o n = putA x o (mon x o - n) := by
  cases hh : hasK (tb x) [o, 0, 0, 0]
  · rw [(take_none hh).1] at h; exact absurd h (by decide)
  · by_cases hn : n < 0
    · rw [(take_arg hh hn).1] at h; exact absurd h (by decide)
    · by_cases ho : mon x o < n
      · rw [(take_funds hh hn ho).1] at h; exact absurd h (by decide)
      · exact ⟨rfl, by omega, by omega, (take_ok hh hn ho).2⟩
theorem move_none (h : hasK (tb x) [a, 0, 0, 0] = false ∨ hasK (tb x) [b, 0, 0, 0] = false) : moveE x a b n = 3 ∧ moveX x a b n = x := by
  unfold moveX; rw [show moveE x a b n = 3 from if_pos h]; exact ⟨rfl, if_neg (by decide)⟩
theorem move_E (h1 : hasK (tb x) [a, 0, 0, 0] = true) (h2 : hasK (tb x) [b, 0, 0, 0] = true) : moveE x a b n = takeE x a n := if_neg (by rw [h1, h2]; decide)
theorem move_bad (h1 : hasK (tb x) [a, 0, 0, 0] = true) (h2 : hasK (tb x) [b, 0, 0, 0] = true) (h : ¬ takeE x a n = 0) : moveE x a b n = takeE x a n ∧ moveX x a b n = x := by
  unfold moveX; rw [move_E h1 h2]; exact ⟨rfl, if_neg h⟩
theorem move_ok (h1 : hasK (tb x) [a, 0, 0, 0] = true) (h2 : hasK (tb x) [b, 0, 0, 0] = true) (h : takeE x a n = 0) : moveE x a b n = 0 ∧ moveX x a b n = putA (takeX x a n) b (mon (takeX x a n) b + n) := by
  unfold moveX; rw [move_E h1 h2, h]; exact ⟨rfl, if_pos rfl⟩
theorem goo_take (h : Goo x) (h0 : takeE x o n = 0) : Goo (takeX x o n) ∧ tot (takeX x o n) = tot x - n ∧ (takeX x o n).length ≤ x.length + 1 := by
  obtain ⟨h1, h2, h3, h4⟩ := take_inv h0
  have ht := tot_has (m := mon x o - n) h.srt h1
  have := h.max
  rw [h4]
  exact ⟨h.put (by omega) (by omega), by omega, len_putA⟩
theorem len_has (hs : Srt (tb x)) (h : hasK (tb x) [o, 0, 0, 0] = true) : (putA x o n).length = x.length := by
  have := congrArg List.length (keys_put (m := n) hs h)
  simpa using this
theorem goo_open (h : Goo x) : Goo (openX x o) ∧ (openX x o).length ≤ x.length + 1 ∧ tot (openX x o) = tot x := by
  unfold openX
  split
  · rename_i h0
    have hh : hasK (tb x) [o, 0, 0, 0] = false := by
      cases hh : hasK (tb x) [o, 0, 0, 0]
      · rfl
      · unfold openE at h0; rw [if_pos hh] at h0; split at h0 <;> exact absurd h0 (by decide)
    have ht := tot_new (m := 0) hh
    have := h.max
    exact ⟨h.put (Int.le_refl _) (by omega), len_putA, by omega⟩
  · exact ⟨h, by omega, rfl⟩
theorem goo_give (h : Goo x) : Goo (giveX x o n) ∧ (giveX x o n).length = x.length := by
  unfold giveX
  split
  · rename_i h0
    unfold giveE at h0
    split at h0
    · exact absurd h0 (by decide)
    · rename_i hh
      have hh : hasK (tb x) [o, 0, 0, 0] = true := by simpa using hh
      split at h0
      · exact absurd h0 (by decide)
      · split at h0
        · exact absurd h0 (by decide)
        · have ht := tot_has (m := mon x o + n) h.srt hh
          have := (h.mon hh).1
          exact ⟨h.put (by omega) (by omega), len_has h.srt hh⟩
  · exact ⟨h, rfl⟩
theorem goo_takes (h : Goo x) : Goo (takeX x o n) ∧ (takeX x o n).length = x.length := by
  by_cases h0 : takeE x o n = 0
  · obtain ⟨h1, _, _, h4⟩ := take_inv h0
    exact ⟨(goo_take h h0).1, by rw [h4]; exact len_has h.srt h1⟩
  · rw [show takeX x o n = x from if_neg h0]; exact ⟨h, rfl⟩
theorem goo_move (h : Goo x) : Goo (moveX x a b n) ∧ (moveX x a b n).length = x.length ∧ tot (moveX x a b n) = tot x := by
  by_cases h0 : moveE x a b n = 0
  · have hab : hasK (tb x) [a, 0, 0, 0] = true ∧ hasK (tb x) [b, 0, 0, 0] = true := by
      unfold moveE at h0; split at h0
      · exact absurd h0 (by decide)
      · rename_i hh; simpa using hh
    have ht := h0
    rw [move_E hab.1 hab.2] at ht
    rw [(move_ok hab.1 hab.2 ht).2]
    obtain ⟨h1, h2, h3, h4⟩ := take_inv ht
    obtain ⟨g1, g2, g3⟩ := goo_take h ht
    have hb : hasK (tb (takeX x a n)) [b, 0, 0, 0] = true := by rw [h4, has_put h.srt h1]; exact hab.2
    have t2 := tot_has (m := mon (takeX x a n) b + n) g1.srt hb
    have := (g1.mon hb).1
    have := h.max
    refine ⟨g1.put (by omega) (by omega), ?_, by omega⟩
    rw [len_has g1.srt hb, h4, len_has h.srt h1]
  · rw [show moveX x a b n = x from if_neg h0]; exact ⟨h, rfl, rfl⟩
end
section
variable {x : List (List Int)} {o a b n : Int} {i : Nat}
theorem get_val (hs : Srt (tb x)) (h : hasK (tb x) [o, 0, 0, 0] = true) :
    Value.tuple #[.int .i64 (if hasK (tb x) [o, 0, 0, 0] = true then (gr (tb x) (bel (tb x) [o, 0, 0, 0])).getD 4 0 else 0), .bool (hasK (tb x) [o, 0, 0, 0])] = .tuple #[.int .i64 (mon x o), .bool true] := by
  rw [get_tb hs h, h]; rfl
theorem get_val0 (h : hasK (tb x) [o, 0, 0, 0] = false) :
    Value.tuple #[.int .i64 (if hasK (tb x) [o, 0, 0, 0] = true then (gr (tb x) (bel (tb x) [o, 0, 0, 0])).getD 4 0 else 0), .bool (hasK (tb x) [o, 0, 0, 0])] = .tuple #[.int .i64 0, .bool false] := by
  rw [h]; rfl
theorem two_no (hi : i < 2) (h : hasK (tb x) [[a, b].getD i 0, 0, 0, 0] = false) : hasK (tb x) [a, 0, 0, 0] = false ∨ hasK (tb x) [b, 0, 0, 0] = false := by
  match i, hi with
  | 0, _ => exact .inl h
  | 1, _ => exact .inr h
theorem all_next {p : Nat → Prop} (h : ∀ j, j < i → p j) (hi : p i) : ∀ j, j < i + 1 → p j := fun j hj => by
  rcases Nat.lt_or_ge j i with h1 | h1
  · exact h j h1
  · have : j = i := by omega
    subst this; exact hi
end
def actE (x : List (List Int)) (r : List Int) : Int :=
  if r.getD 0 0 = 1 then openE x (r.getD 1 0) else if r.getD 0 0 = 2 then giveE x (r.getD 1 0) (r.getD 3 0) else if r.getD 0 0 = 3 then takeE x (r.getD 1 0) (r.getD 3 0)
  else if r.getD 0 0 = 4 then moveE x (r.getD 1 0) (r.getD 2 0) (r.getD 3 0) else if hasK (tb x) [r.getD 1 0, 0, 0, 0] = true then 0 else 3
def actX (x : List (List Int)) (r : List Int) : List (List Int) :=
  if r.getD 0 0 = 1 then openX x (r.getD 1 0) else if r.getD 0 0 = 2 then giveX x (r.getD 1 0) (r.getD 3 0) else if r.getD 0 0 = 3 then takeX x (r.getD 1 0) (r.getD 3 0)
  else if r.getD 0 0 = 4 then moveX x (r.getD 1 0) (r.getD 2 0) (r.getD 3 0) else x
def actN (x : List (List Int)) (r : List Int) : Int :=
  if r.getD 0 0 = 1 then 0 else if r.getD 0 0 = 2 then 0 else if r.getD 0 0 = 3 then 0 else if r.getD 0 0 = 4 then 0 else if hasK (tb x) [r.getD 1 0, 0, 0, 0] = true then mon x (r.getD 1 0) else 0
section
variable {x y : List (List Int)} {r : List Int} {i : Nat}
theorem act1 (h : r.getD 0 0 = 1) : actE x r = openE x (r.getD 1 0) ∧ actX x r = openX x (r.getD 1 0) ∧ actN x r = 0 := ⟨if_pos h, if_pos h, if_pos h⟩
theorem act2 (h1 : ¬ r.getD 0 0 = 1) (h : r.getD 0 0 = 2) : actE x r = giveE x (r.getD 1 0) (r.getD 3 0) ∧ actX x r = giveX x (r.getD 1 0) (r.getD 3 0) ∧ actN x r = 0 :=
  ⟨(if_neg h1).trans (if_pos h), (if_neg h1).trans (if_pos h), (if_neg h1).trans (if_pos h)⟩
theorem act3 (h1 : ¬ r.getD 0 0 = 1) (h2 : ¬ r.getD 0 0 = 2) (h : r.getD 0 0 = 3) : actE x r = takeE x (r.getD 1 0) (r.getD 3 0) ∧ actX x r = takeX x (r.getD 1 0) (r.getD 3 0) ∧ actN x r = 0 :=
  ⟨(if_neg h1).trans ((if_neg h2).trans (if_pos h)), (if_neg h1).trans ((if_neg h2).trans (if_pos h)), (if_neg h1).trans ((if_neg h2).trans (if_pos h))⟩
theorem act4 (h1 : ¬ r.getD 0 0 = 1) (h2 : ¬ r.getD 0 0 = 2) (h3 : ¬ r.getD 0 0 = 3) (h : r.getD 0 0 = 4) :
    actE x r = moveE x (r.getD 1 0) (r.getD 2 0) (r.getD 3 0) ∧ actX x r = moveX x (r.getD 1 0) (r.getD 2 0) (r.getD 3 0) ∧ actN x r = 0 :=
  ⟨(if_neg h1).trans ((if_neg h2).trans ((if_neg h3).trans (if_pos h))), (if_neg h1).trans ((if_neg h2).trans ((if_neg h3).trans (if_pos h))), (if_neg h1).trans ((if_neg h2).trans ((if_neg h3).trans (if_pos h)))⟩
theorem act5 (h1 : ¬ r.getD 0 0 = 1) (h2 : ¬ r.getD 0 0 = 2) (h3 : ¬ r.getD 0 0 = 3) (h4 : ¬ r.getD 0 0 = 4) :
    actE x r = (if hasK (tb x) [r.getD 1 0, 0, 0, 0] = true then 0 else 3) ∧ actX x r = x ∧ actN x r = (if hasK (tb x) [r.getD 1 0, 0, 0, 0] = true then mon x (r.getD 1 0) else 0) :=
  ⟨(if_neg h1).trans ((if_neg h2).trans ((if_neg h3).trans (if_neg h4))), (if_neg h1).trans ((if_neg h2).trans ((if_neg h3).trans (if_neg h4))), (if_neg h1).trans ((if_neg h2).trans ((if_neg h3).trans (if_neg h4)))⟩
theorem act5t (h1 : ¬ r.getD 0 0 = 1) (h2 : ¬ r.getD 0 0 = 2) (h3 : ¬ r.getD 0 0 = 3) (h4 : ¬ r.getD 0 0 = 4) (h : hasK (tb x) [r.getD 1 0, 0, 0, 0] = true) : actE x r = 0 ∧ actX x r = x ∧ actN x r = mon x (r.getD 1 0) := by
  obtain ⟨e1, e2, e3⟩ := act5 (x := x) h1 h2 h3 h4
  rw [if_pos h] at e1 e3; exact ⟨e1, e2, e3⟩
theorem act5f (h1 : ¬ r.getD 0 0 = 1) (h2 : ¬ r.getD 0 0 = 2) (h3 : ¬ r.getD 0 0 = 3) (h4 : ¬ r.getD 0 0 = 4) (h : hasK (tb x) [r.getD 1 0, 0, 0, 0] = false) : actE x r = 3 ∧ actX x r = x ∧ actN x r = 0 := by
  obtain ⟨e1, e2, e3⟩ := act5 (x := x) h1 h2 h3 h4
  rw [if_neg (by rw [h]; decide)] at e1 e3; exact ⟨e1, e2, e3⟩
theorem goo_act (h : Goo x) : Goo (actX x r) ∧ (actX x r).length ≤ x.length + 1 := by
  unfold actX
  split
  · have := goo_open (o := r.getD 1 0) h; exact ⟨this.1, this.2.1⟩
  · split
    · have := goo_give (o := r.getD 1 0) (n := r.getD 3 0) h; exact ⟨this.1, by omega⟩
    · split
      · have := goo_takes (o := r.getD 1 0) (n := r.getD 3 0) h; exact ⟨this.1, by omega⟩
      · split
        · have := goo_move (a := r.getD 1 0) (b := r.getD 2 0) (n := r.getD 3 0) h; exact ⟨this.1, by omega⟩
        · exact ⟨h, by omega⟩
end
/-! Payments in a row. -/
def mstep (y : List (List Int)) (r : List Int) : List (List Int) := moveX y (r.getD 0 0) (r.getD 1 0) (r.getD 2 0)
def mst (x P : List (List Int)) (i : Nat) : List (List Int) := (P.take i).foldl mstep x
def mer (x P : List (List Int)) (i : Nat) : Int := moveE (mst x P i) ((gr P i).getD 0 0) ((gr P i).getD 1 0) ((gr P i).getD 2 0)
def Mvs (x P : List (List Int)) (k : Nat) (e : Int) (y : List (List Int)) : Prop :=
  (∀ j, j < k → mer x P j = 0) ∧ (k = P.length ∧ e = 0 ∧ y = mst x P k ∨ k < P.length ∧ e = mer x P k ∧ e ≠ 0 ∧ y = x)
section
variable {x y z P : List (List Int)} {i k k' : Nat} {e e' : Int}
theorem mst_take (h : i < P.length) : mst x P (i + 1) = moveX (mst x P i) ((gr P i).getD 0 0) ((gr P i).getD 1 0) ((gr P i).getD 2 0) := by
  unfold mst; rw [take_gr h, List.foldl_append]; rfl
theorem goo_msteps (h : Goo x) : Goo (P.foldl mstep x) ∧ (P.foldl mstep x).length = x.length ∧ tot (P.foldl mstep x) = tot x := by
  induction P generalizing x with
  | nil => exact ⟨h, rfl, rfl⟩
  | cons r P ih =>
    obtain ⟨h1, h2, h3⟩ := goo_move (a := r.getD 0 0) (b := r.getD 1 0) (n := r.getD 2 0) h
    obtain ⟨g1, g2, g3⟩ := ih h1
    exact ⟨g1, g2.trans h2, g3.trans h3⟩
theorem goo_mst (h : Goo x) : Goo (mst x P i) ∧ (mst x P i).length = x.length ∧ tot (mst x P i) = tot x := goo_msteps h
theorem Mvs.uniq (h : Mvs x P k e y) (h' : Mvs x P k' e' z) : k = k' ∧ e = e' ∧ y = z := by
  obtain ⟨h1, h2⟩ := h
  obtain ⟨g1, g2⟩ := h'
  have hk : k = k' := by
    rcases Nat.lt_trichotomy k k' with hlt | heq | hgt
    · rcases h2 with ⟨rfl, _⟩ | ⟨_, he, hne, _⟩
      · rcases g2 with ⟨rfl, _⟩ | ⟨hl, _⟩ <;> omega
      · exact absurd (he.trans (g1 k hlt)) hne
    · exact heq
    · rcases g2 with ⟨rfl, _⟩ | ⟨_, he, hne, _⟩
      · rcases h2 with ⟨rfl, _⟩ | ⟨hl, _⟩ <;> omega
      · exact absurd (he.trans (h1 k' hgt)) hne
  subst hk
  rcases h2 with ⟨ha, hb, hc⟩ | ⟨ha, hb, hn, hc⟩ <;> rcases g2 with ⟨ga, gb, gc⟩ | ⟨ga, gb, gn, gc⟩
  · exact ⟨rfl, hb.trans gb.symm, hc.trans gc.symm⟩
  · omega
  · omega
  · exact ⟨rfl, hb.trans gb.symm, hc.trans gc.symm⟩
end
/-! Accounts that there were. -/
def lds (L : List (List Int)) (i : Nat) : List (List Int) := (L.take i).foldl (fun y r => putA y (ow r) (mo r)) []
def BadL (y : List (List Int)) (r : List Int) : Prop := ow r < 0 ∨ 1099511627776 < ow r ∨ mo r < 0 ∨ 1152921504606846976 < mo r ∨ hasK (tb y) [ow r, 0, 0, 0] = true
def OkL (L : List (List Int)) (i : Nat) : Prop := ∀ j, j < i → ¬ BadL (lds L j) (gr L j)
def Ldr (L : List (List Int)) (e : Int) : Prop :=
  (e = 1 ∧ ∃ i, i < L.length ∧ OkL L i ∧ BadL (lds L i) (gr L i)) ∨ OkL L L.length ∧ (e = 5 ∧ 1152921504606846976 < tot (lds L L.length) ∨ e = 0 ∧ tot (lds L L.length) ≤ 1152921504606846976)
section
variable {L px : List (List Int)} {i : Nat} {e e' : Int} {ov : Bool}
theorem Ldr.uniq (h : Ldr L e) (h' : Ldr L e') : e = e' := by
  rcases h with ⟨h1, i, h2, h3, h4⟩ | ⟨h1, h2⟩ <;> rcases h' with ⟨g1, j, g2, g3, g4⟩ | ⟨g1, g2⟩
  · omega
  · exact absurd h4 (g1 i h2)
  · exact absurd g4 (h1 j g2)
  · omega
theorem lds_take (h : i < L.length) : lds L (i + 1) = putA (lds L i) (ow (gr L i)) (mo (gr L i)) := by
  unfold lds; rw [take_gr h, List.foldl_append]; rfl
theorem OkL.next (h : OkL L i) (h1 : ¬ BadL (lds L i) (gr L i)) : OkL L (i + 1) := all_next h h1
theorem lds_ok : ∀ {i : Nat}, i ≤ L.length → OkL L i → Wide 2 (lds L i) ∧ Srt (tb (lds L i)) ∧ (∀ r ∈ lds L i, 0 ≤ mo r) ∧ (∀ r ∈ lds L i, mo r ≤ 1152921504606846976) ∧ (lds L i).length ≤ i
  | 0, _, _ => ⟨fun _ h => (by cases h), srt_nil, fun _ h => (by cases h), fun _ h => (by cases h), Nat.le_refl _⟩
  | i + 1, hi, h => by
    obtain ⟨h1, h2, h3, h5, h4⟩ := lds_ok (i := i) (by omega) (fun j hj => h j (by omega))
    have hb := h i (by omega)
    have hm : 0 ≤ mo (gr L i) := by unfold BadL at hb; omega
    have hm2 : mo (gr L i) ≤ 1152921504606846976 := by unfold BadL at hb; omega
    rw [lds_take (by omega)]
    refine ⟨wide_putA h1, srt_putA h2, pos_put h3 hm, fun r hr => ?_, Nat.le_trans len_putA (by omega)⟩
    unfold putA at hr
    rcases List.mem_append.1 hr with hr | hr
    · rcases List.mem_append.1 hr with hr | hr
      · exact h5 r (List.mem_of_mem_take hr)
      · rw [List.mem_singleton] at hr; rw [hr]; exact hm2
    · exact h5 r (List.mem_of_mem_drop hr)
/-- The purse while accounts are loaded. -/
structure LInv (L : List (List Int)) (i : Nat) (px : List (List Int)) (ov : Bool) : Prop where
  ok : OkL L i
  goo : Goo px
  keys : px.map ow = (lds L i).map ow
  f : ov = false → px = lds L i
  t : ov = true → 1152921504606846976 < tot (lds L i)
  len : px.length ≤ i
theorem linv_nil : LInv L 0 [] false := ⟨fun j h => absurd h (by omega), goo_nil, rfl, fun _ => rfl, fun h => (by cases h), Nat.le_refl _⟩
theorem open_bad {o : Int} (h : ¬ openE px o = 0) : o < 0 ∨ 1099511627776 < o ∨ hasK (tb px) [o, 0, 0, 0] = true := by
  unfold openE at h
  split at h
  · omega
  · split at h
    · rename_i h2; exact .inr (.inr h2)
    · exact absurd rfl h
theorem open_good {o : Int} (h : openE px o = 0) : ¬ o < 0 ∧ ¬ 1099511627776 < o ∧ hasK (tb px) [o, 0, 0, 0] = false := by
  unfold openE at h
  split at h
  · exact absurd h (by decide)
  · split at h
    · exact absurd h (by decide)
    · rename_i h1 h2
      exact ⟨by omega, by omega, by simpa using h2⟩
theorem LInv.bad (h : LInv L i px ov) (hi : i < L.length) (hb : mo (gr L i) < 0 ∨ 1152921504606846976 < mo (gr L i) ∨ ¬ openE px (ow (gr L i)) = 0) : Ldr L 1 := by
  refine .inl ⟨rfl, i, hi, h.ok, ?_⟩
  unfold BadL
  rcases hb with h1 | h1 | h1
  · omega
  · omega
  · rcases open_bad h1 with h2 | h2 | h2
    · omega
    · omega
    · rw [has_same h.keys] at h2; exact .inr (.inr (.inr (.inr h2)))
theorem LInv.good (h : LInv L i px ov) (h1 : ¬ mo (gr L i) < 0) (h2 : ¬ 1152921504606846976 < mo (gr L i)) (h0 : openE px (ow (gr L i)) = 0) : ¬ BadL (lds L i) (gr L i) := by
  obtain ⟨g1, g2, g3⟩ := open_good h0
  rw [has_same h.keys] at g3
  unfold BadL
  rw [g3]
  simp only [Bool.false_eq_true, or_false]
  omega
theorem open_put {o : Int} (h0 : openE px o = 0) : openX px o = putA px o 0 := if_pos h0
theorem LInv.give (h : LInv L i px ov) (h1 : ¬ mo (gr L i) < 0) (h0 : openE px (ow (gr L i)) = 0) :
    (giveE (openX px (ow (gr L i))) (ow (gr L i)) (mo (gr L i)) = 0 ∧ giveX (openX px (ow (gr L i))) (ow (gr L i)) (mo (gr L i)) = putA px (ow (gr L i)) (mo (gr L i)) ∧ tot px + mo (gr L i) ≤ 1152921504606846976) ∨
    (¬ giveE (openX px (ow (gr L i))) (ow (gr L i)) (mo (gr L i)) = 0 ∧ giveX (openX px (ow (gr L i))) (ow (gr L i)) (mo (gr L i)) = openX px (ow (gr L i)) ∧ 1152921504606846976 < tot px + mo (gr L i)) := by
  obtain ⟨g1, g2, g3⟩ := open_good h0
  have ht := (goo_open (o := ow (gr L i)) h.goo).2.2
  have e := open_put h0
  have hh : hasK (tb (openX px (ow (gr L i)))) [ow (gr L i), 0, 0, 0] = true := by rw [e]; exact has_put_self
  by_cases ho : 1152921504606846976 - tot (openX px (ow (gr L i))) < mo (gr L i)
  · obtain ⟨k1, k2⟩ := give_over hh h1 ho
    exact .inr ⟨by rw [k1]; decide, k2, by omega⟩
  · obtain ⟨k1, k2⟩ := give_ok hh h1 ho
    refine .inl ⟨k1, ?_, by omega⟩
    rw [k2, e, mon_put_self h.goo.srt, Int.zero_add, put_put h.goo.srt]
theorem LInv.next_tot (h : LInv L i px ov) (hi : i < L.length) (h1 : ¬ mo (gr L i) < 0) (h0 : openE px (ow (gr L i)) = 0) : tot (lds L (i + 1)) = tot (lds L i) + mo (gr L i) := by
  obtain ⟨g1, g2, g3⟩ := open_good h0
  rw [has_same h.keys] at g3
  rw [lds_take hi, tot_new g3]
theorem LInv.next_keys (h : LInv L i px ov) (hi : i < L.length) {m : Int} (h0 : openE px (ow (gr L i)) = 0) : (putA px (ow (gr L i)) m).map ow = (lds L (i + 1)).map ow := by
  obtain ⟨g1, g2, g3⟩ := open_good h0
  rw [lds_take hi]
  exact keys_same h.keys g3
theorem LInv.next_ok (h : LInv L i px ov) (hi : i < L.length) (h1 : ¬ mo (gr L i) < 0) (h2 : ¬ 1152921504606846976 < mo (gr L i)) (h0 : openE px (ow (gr L i)) = 0)
    (hg : giveE (openX px (ow (gr L i))) (ow (gr L i)) (mo (gr L i)) = 0) : LInv L (i + 1) (giveX (openX px (ow (gr L i))) (ow (gr L i)) (mo (gr L i))) ov := by
  rcases h.give h1 h0 with ⟨_, e, ht⟩ | ⟨hn, _⟩
  · have hgo := (goo_give (o := ow (gr L i)) (n := mo (gr L i)) (goo_open (o := ow (gr L i)) h.goo).1).1
    have hT := h.next_tot hi h1 h0
    refine ⟨h.ok.next (h.good h1 h2 h0), hgo, by rw [e]; exact h.next_keys hi h0, fun hov => ?_, fun hov => ?_, by rw [e]; exact Nat.le_trans len_putA (by have := h.len; omega)⟩
    · rw [e, lds_take hi, h.f hov]
    · have := h.t hov; omega
  · exact absurd hg hn
theorem LInv.next_over (h : LInv L i px ov) (hi : i < L.length) (h1 : ¬ mo (gr L i) < 0) (h2 : ¬ 1152921504606846976 < mo (gr L i)) (h0 : openE px (ow (gr L i)) = 0)
    (hg : ¬ giveE (openX px (ow (gr L i))) (ow (gr L i)) (mo (gr L i)) = 0) : LInv L (i + 1) (giveX (openX px (ow (gr L i))) (ow (gr L i)) (mo (gr L i))) true := by
  rcases h.give h1 h0 with ⟨hn, _⟩ | ⟨_, e, ht⟩
  · exact absurd hn hg
  · have hgo := (goo_give (o := ow (gr L i)) (n := mo (gr L i)) (goo_open (o := ow (gr L i)) h.goo).1).1
    have hT := h.next_tot hi h1 h0
    have e2 := open_put h0
    refine ⟨h.ok.next (h.good h1 h2 h0), hgo, by rw [e, e2]; exact h.next_keys hi h0, fun hov => (by cases hov), fun _ => ?_, by rw [e, e2]; exact Nat.le_trans len_putA (by have := h.len; omega)⟩
    cases ov
    · have := h.f rfl; rw [this] at ht; omega
    · have := h.t rfl; omega
theorem LInv.done (h : LInv L L.length px false) : Ldr L 0 ∧ px = lds L L.length ∧ Goo px := ⟨.inr ⟨h.ok, .inr ⟨rfl, by rw [← h.f rfl]; exact h.goo.max⟩⟩, h.f rfl, h.goo⟩
theorem LInv.over (h : LInv L L.length px true) : Ldr L 5 := .inr ⟨h.ok, .inl ⟨rfl, h.t rfl⟩⟩
end
theorem goo_of {x : List (List Int)} (h1 : x.all (fun r => decide (r.length = 2)) = true) (h2 : ((x.map ow).zip ((x.map ow).drop 1)).all (fun p => decide (p.1 < p.2)) = true) (h3 : x.all (fun r => decide (0 ≤ mo r)) = true) (h4 : tot x ≤ 1152921504606846976) : Goo x := by
  refine ⟨fun r hr => by simpa using List.all_eq_true.1 h1 r hr, ?_, fun r hr => by simpa using List.all_eq_true.1 h3 r hr, h4⟩
  clear h1 h3 h4
  have key : ∀ (x : List (List Int)), ((x.map ow).zip ((x.map ow).drop 1)).all (fun p => decide (p.1 < p.2)) = true → x.Pairwise fun a b => ow a < ow b := by
    intro x
    induction x with
    | nil => intro _; exact List.Pairwise.nil
    | cons r x ih =>
      intro h
      cases x with
      | nil => exact List.pairwise_singleton _ _
      | cons s x =>
        simp only [List.map_cons, List.drop_succ_cons, List.drop_zero, List.zip_cons_cons, List.all_cons, Bool.and_eq_true, decide_eq_true_eq] at h ih
        have hp := ih h.2
        refine List.pairwise_cons.2 ⟨fun t ht => ?_, hp⟩
        rcases List.mem_cons.1 ht with rfl | ht
        · exact h.1
        · exact Int.lt_trans h.1 ((List.pairwise_cons.1 hp).1 t ht)
  unfold Srt tb
  rw [List.pairwise_map]
  exact (key x h2).imp fun {a b} hab => (kc_lt (ow a) (ow b)).2 hab
def ast (x A : List (List Int)) (i : Nat) : List (List Int) := (A.take i).foldl actX x
section
variable {x y P A : List (List Int)} {i k : Nat} {e a b n : Int}
theorem ast_take (h : i < A.length) : ast x A (i + 1) = actX (ast x A i) (gr A i) := by
  unfold ast; rw [take_gr h, List.foldl_append]; rfl
theorem goo_ast (h : Goo x) : ∀ i, i ≤ A.length → Goo (ast x A i) ∧ (ast x A i).length ≤ x.length + i
  | 0, _ => ⟨h, Nat.le_refl _⟩
  | i + 1, hi => by
    obtain ⟨h1, h2⟩ := goo_ast h i (by omega)
    obtain ⟨h3, h4⟩ := goo_act (r := gr A i) h1
    rw [ast_take (by omega)]
    exact ⟨h3, by omega⟩
theorem Mvs.goo (h : Goo x) (hm : Mvs x P k e y) : Goo y ∧ y.length = x.length := by
  rcases hm.2 with ⟨_, _, rfl⟩ | ⟨_, _, _, rfl⟩
  · exact ⟨(goo_mst h).1, (goo_mst h).2.1⟩
  · exact ⟨h, rfl⟩
theorem move_same (h : ¬ moveE x a b n = 0) : moveX x a b n = x := if_neg h
end
theorem getD_mem {r : List Int} {j : Nat} (h : j < r.length) : r.getD j 0 ∈ r := by
  rw [List.getD, List.getElem?_eq_getElem h]; exact List.getElem_mem h
end Go.XG.Pu
