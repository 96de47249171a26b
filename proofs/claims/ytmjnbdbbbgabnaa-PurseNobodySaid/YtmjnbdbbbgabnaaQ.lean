/-
  Accounts, in plain Lean: acts, payments in a row, accounts that there were.
-/
import Derived.Test.YtmjnbdbbbgabnaaP
namespace Go.XG
def actE (x : List (List Int)) (r : List Int) : Int :=
  if r.getD 0 0 = 1 then openE x (r.getD 1 0) else if r.getD 0 0 = 2 then giveE x (r.getD 1 0) (r.getD 3 0) else if r.getD 0 0 = 3 then takeE x (r.getD 1 0) (r.getD 3 0)
  else if r.getD 0 0 = 4 then moveE x (r.getD 1 0) (r.getD 2 0) (r.getD 3 0) else if hasK (tb x) [r.getD 1 0, 0, 0, 0] = true then 0 else 3
def actX (x : List (List Int)) (r : List Int) : List (List Int) :=
  if r.getD 0 0 = 1 then openX x (r.getD 1 0) else if r.getD 0 0 = 2 then giveX x (r.getD 1 0) (r.getD 3 0) else if r.getD 0 0 = 3 then takeX x (r.getD 1 0) (r.getD 3 0)
  else if r.getD 0 0 = 4 then moveX x (r.getD 1 0) (r.getD 2 0) (r.getD 3 0) else x
def actN (x : List (List Int)) (r : List Int) : Int :=
  if r.getD 0 0 = 1 then 0 else if r.getD 0 0 = 2 then 0 else if r.getD 0 0 = 3 then 0 else if r.getD 0 0 = 4 then 0 else if hasK (tb x) [r.getD 1 0, 0, 0, 0] = true then mon x (r.getD 1 0) else 0
section
variable {x y : List (List Int)} {r : List Int} {i : Nat}
theorem act1 (h : r.getD 0 0 = 1) : actE x r = openE x (r.getD 1 0) ∧ actX x r = openX x (r.getD 1 0) ∧ actN x r = 0 := ⟨if_pos h, if_pos h, if_pos h⟩
theorem act2 (h1 : ¬ r.getD 0 0 = 1) (h : r.getD 0 0 = 2) : actE x r = giveE x (r.getD 1 0) (r.getD 3 0) ∧ actX x r = giveX x (r.getD 1 0) (r.getD 3 0) ∧ actN x r = 0 :=
  ⟨(if_neg h1).trans (if_pos h), (if_neg h1).trans (if_pos h), (if_neg h1).trans (if_pos h)⟩
theorem act3 (h1 : ¬ r.getD 0 0 = 1) (h2 : ¬ r.getD 0 0 = 2) (h : r.getD 0 0 = 3) : actE x r = takeE x (r.getD 1 0) (r.getD 3 0) ∧ actX x r = takeX x (r.getD 1 0) (r.getD 3 0) ∧ actN x r = 0 :=
  ⟨(if_neg h1).trans ((if_neg h2).trans (if_pos h)), (if_neg h1).trans ((if_neg h2).trans (if_pos h)), (if_neg h1).trans ((if_neg h2).trans (if_pos h))⟩
theorem act4 (h1 : ¬ r.getD 0 0 = 1) (h2 : ¬ r.getD 0 0 = 2) (h3 : ¬ r.getD 0 0 = 3) (h : r.getD 0 0 = 4) :
    actE x r = moveE x (r.getD 1 0) (r.getD 2 0) (r.getD 3 0) ∧ actX x r = moveX x (r.getD 1 0) (r.getD 2 0) (r.getD 3 0) ∧ actN x r = 0 :=
  ⟨(if_neg h1).trans ((if_neg h2).trans ((if_neg h3).trans (if_pos h))), (if_neg h1).trans ((if_neg h2).trans ((if_neg h3).trans (if_pos h))), (if_neg h1).trans ((if_neg h2).trans ((if_neg h3).trans (if_pos h)))⟩
theorem act5 (h1 : ¬ r.getD 0 0 = 1) (h2 : ¬ r.getD 0 0 = 2) (h3 : ¬ r.getD 0 0 = 3) (h4 : ¬ r.getD 0 0 = 4) :
    actE x r = (if hasK (tb x) [r.getD 1 0, 0, 0, 0] = true then 0 else 3) ∧ actX x r = x ∧ actN x r = (if hasK (tb x) [r.getD 1 0, 0, 0, 0] = true then mon x (r.getD 1 0) else 0) :=
  ⟨(if_neg h1).trans ((if_neg h2).trans ((if_neg h3).trans (if_neg h4))), (if_neg h1).trans ((if_neg h2).trans ((if_neg h3).trans (if_neg h4))), (if_neg h1).trans ((if_neg h2).trans ((if_neg h3).trans (if_neg h4)))⟩
theorem act5t (h1 : ¬ r.getD 0 0 = 1) (h2 : ¬ r.getD 0 0 = 2) (h3 : ¬ r.getD 0 0 = 3) (h4 : ¬ r.getD 0 0 = 4) (h : hasK (tb x) [r.getD 1 0, 0, 0, 0] = true) : actE x r = 0 ∧ actX x r = x ∧ actN x r = mon x (r.getD 1 0) := by
  obtain ⟨e1, e2, e3⟩ := act5 (x := x) h1 h2 h3 h4
  rw [if_pos h] at e1 e3; exact ⟨e1, e2, e3⟩
theorem act5f (h1 : ¬ r.getD 0 0 = 1) (h2 : ¬ r.getD 0 0 = 2) (h3 : ¬ r.getD 0 0 = 3) (h4 : ¬ r.getD 0 0 = 4) (h : hasK (tb x) [r.getD 1 0, 0, 0, 0] = false) : actE x r = 3 ∧ actX x r = x ∧ actN x r = 0 := by
  obtain ⟨e1, e2, e3⟩ := act5 (x := x) h1 h2 h3 h4
  rw [if_neg (by rw [h]; decide)] at e1 e3; exact ⟨e1, e2, e3⟩
theorem goo_act (h : Goo x) : Goo (actX x r) ∧ (actX x r).length ≤ x.length + 1 := by
  unfold actX
  split
  · have := goo_open (o := r.getD 1 0) h; exact ⟨this.1, this.2.1⟩
  · split
    · have := goo_give (o := r.getD 1 0) (n := r.getD 3 0) h; exact ⟨this.1, by omega⟩
    · split
      · have := goo_takes (o := r.getD 1 0) (n := r.getD 3 0) h; exact ⟨this.1, by omega⟩
      · split
        · have := goo_move (a := r.getD 1 0) (b := r.getD 2 0) (n := r.getD 3 0) h; exact ⟨this.1, by omega⟩
        · exact ⟨h, by omega⟩
end
/-! Payments in a row. -/
def mstep (y : List (List Int)) (r : List Int) : List (List Int) := moveX y (r.getD 0 0) (r.getD 1 0) (r.getD 2 0)
def mst (x P : List (List Int)) (i : Nat) : List (List Int) := (P.take i).foldl mstep x
def mer (x P : List (List Int)) (i : Nat) : Int := moveE (mst x P i) ((gr P i).getD 0 0) ((gr P i).getD 1 0) ((gr P i).getD 2 0)
def Mvs (x P : List (List Int)) (k : Nat) (e : Int) (y : List (List Int)) : Prop :=
  (∀ j, j < k → mer x P j = 0) ∧ (k = P.length ∧ e = 0 ∧ y = mst x P k ∨ k < P.length ∧ e = mer x P k ∧ e ≠ 0 ∧ y = x)
section
variable {x y z P : List (List Int)} {i k k' : Nat} {e e' : Int}
theorem mst_take (h : i < P.length) : mst x P (i + 1) = moveX (mst x P i) ((gr P i).getD 0 0) ((gr P i).getD 1 0) ((gr P i).getD 2 0) := by
  unfold mst; rw [take_gr h, List.foldl_append]; rfl
theorem goo_msteps (h : Goo x) : Goo (P.foldl mstep x) ∧ (P.foldl mstep x).length = x.length ∧ tot (P.foldl mstep x) = tot x := by
  induction P generalizing x with
  | nil => exact ⟨h, rfl, rfl⟩
  | cons r P ih =>
    obtain ⟨h1, h2, h3⟩ := goo_move (a := r.getD 0 0) (b := r.getD 1 0) (n := r.getD 2 0) h
    obtain ⟨g1, g2, g3⟩ := ih h1
    exact ⟨g1, g2.trans h2, g3.trans h3⟩
theorem goo_mst (h : Goo x) : Goo (mst x P i) ∧ (mst x P i).length = x.length ∧ tot (mst x P i) = tot x := goo_msteps h
theorem Mvs.uniq (h : Mvs x P k e y) (h' : Mvs x P k' e' z) : k = k' ∧ e = e' ∧ y = z := by
  obtain ⟨h1, h2⟩ := h
  obtain ⟨g1, g2⟩ := h'
  have hk : k = k' := by
    rcases Nat.lt_trichotomy k k' with hlt | heq | hgt
    · rcases h2 with ⟨rfl, _⟩ | ⟨_, he, hne, _⟩
      · rcases g2 with ⟨rfl, _⟩ | ⟨hl, _⟩ <;> omega
      · exact absurd (he.trans (g1 k hlt)) hne
    · exact heq
    · rcases g2 with ⟨rfl, _⟩ | ⟨_, he, hne, _⟩
      · rcases h2 with ⟨rfl, _⟩ | ⟨hl, _⟩ <;> omega
      · exact absurd (he.trans (h1 k' hgt)) hne
  subst hk
  rcases h2 with ⟨ha, hb, hc⟩ | ⟨ha, hb, hn, hc⟩ <;> rcases g2 with ⟨ga, gb, gc⟩ | ⟨ga, gb, gn, gc⟩
  · exact ⟨rfl, hb.trans gb.symm, hc.trans gc.symm⟩
  · omega
  · omega
  · exact ⟨rfl, hb.trans gb.symm, hc.trans gc.symm⟩
end
/-! Accounts that there were. -/
def lds (L : List (List Int)) (i : Nat) : List (List Int) := (L.take i).foldl (fun y r => putA y (ow r) (mo r)) []
def BadL (y : List (List Int)) (r : List Int) : Prop := ow r < 0 ∨ 1099511627776 < ow r ∨ mo r < 0 ∨ 1152921504606846976 < mo r ∨ hasK (tb y) [ow r, 0, 0, 0] = true
def OkL (L : List (List Int)) (i : Nat) : Prop := ∀ j, j < i → ¬ BadL (lds L j) (gr L j)
def Ldr (L : List (List Int)) (e : Int) : Prop :=
  (e = 1 ∧ ∃ i, i < L.length ∧ OkL L i ∧ BadL (lds L i) (gr L i)) ∨ OkL L L.length ∧ (e = 5 ∧ 1152921504606846976 < tot (lds L L.length) ∨ e = 0 ∧ tot (lds L L.length) ≤ 1152921504606846976)
section
variable {L px : List (List Int)} {i : Nat} {e e' : Int} {ov : Bool}
theorem Ldr.uniq (h : Ldr L e) (h' : Ldr L e') : e = e' := by
  rcases h with ⟨h1, i, h2, h3, h4⟩ | ⟨h1, h2⟩ <;> rcases h' with ⟨g1, j, g2, g3, g4⟩ | ⟨g1, g2⟩
  · omega
  · exact absurd h4 (g1 i h2)
  · exact absurd g4 (h1 j g2)
  · omega
theorem lds_take (h : i < L.length) : lds L (i + 1) = putA (lds L i) (ow (gr L i)) (mo (gr L i)) := by
  unfold lds; rw [take_gr h, List.foldl_append]; rfl
theorem OkL.next (h : OkL L i) (h1 : ¬ BadL (lds L i) (gr L i)) : OkL L (i + 1) := all_next h h1
theorem lds_ok : ∀ {i : Nat}, i ≤ L.length → OkL L i → Wide 2 (lds L i) ∧ Srt (tb (lds L i)) ∧ (∀ r ∈ lds L i, 0 ≤ mo r) ∧ (∀ r ∈ lds L i, mo r ≤ 1152921504606846976) ∧ (lds L i).length ≤ i
  | 0, _, _ => ⟨fun _ h => (by cases h), srt_nil, fun _ h => (by cases h), fun _ h => (by cases h), Nat.le_refl _⟩
  | i + 1, hi, h => by
    obtain ⟨h1, h2, h3, h5, h4⟩ := lds_ok (i := i) (by omega) (fun j hj => h j (by omega))
    have hb := h i (by omega)
    have hm : 0 ≤ mo (gr L i) := by unfold BadL at hb; omega
    have hm2 : mo (gr L i) ≤ 1152921504606846976 := by unfold BadL at hb; omega
    rw [lds_take (by omega)]
    refine ⟨wide_putA h1, srt_putA h2, pos_put h3 hm, fun r hr => ?_, Nat.le_trans len_putA (by omega)⟩
    unfold putA at hr
    rcases List.mem_append.1 hr with hr | hr
    · rcases List.mem_append.1 hr with hr | hr
      · exact h5 r (List.mem_of_mem_take hr)
      · rw [List.mem_singleton] at hr; rw [hr]; exact hm2
    · exact h5 r (List.mem_of_mem_drop hr)
/-- The purse while accounts are loaded. -/
structure LInv (L : List (List Int)) (i : Nat) (px : List (List Int)) (ov : Bool) : Prop where
  ok : OkL L i
  goo : Goo px
  keys : px.map ow = (lds L i).map ow
  f : ov = false → px = lds L i
  t : ov = true → 1152921504606846976 < tot (lds L i)
  len : px.length ≤ i
theorem linv_nil : LInv L 0 [] false := ⟨fun j h => absurd h (by omega), goo_nil, rfl, fun _ => rfl, fun h => (by cases h), Nat.le_refl _⟩
theorem open_bad {o : Int} (h : ¬ openE px o = 0) : o < 0 ∨ 1099511627776 < o ∨ hasK (tb px) [o, 0, 0, 0] = true := by
  unfold openE at h
  split at h
  · omega
  · split at h
    · rename_i h2; exact .inr (.inr h2)
    · exact absurd rfl h
theorem open_good {o : Int} (h : openE px o = 0) : ¬ o < 0 ∧ ¬ 1099511627776 < o ∧ hasK (tb px) [o, 0, 0, 0] = false := by
  unfold openE at h
  split at h
  · exact absurd h (by decide)
  · split at h
    · exact absurd h (by decide)
    · rename_i h1 h2
      exact ⟨by omega, by omega, by simpa using h2⟩
theorem LInv.bad (h : LInv L i px ov) (hi : i < L.length) (hb : mo (gr L i) < 0 ∨ 1152921504606846976 < mo (gr L i) ∨ ¬ openE px (ow (gr L i)) = 0) : Ldr L 1 := by
  refine .inl ⟨rfl, i, hi, h.ok, ?_⟩
  unfold BadL
  rcases hb with h1 | h1 | h1
  · omega
  · omega
  · rcases open_bad h1 with h2 | h2 | h2
    · omega
    · omega
    · rw [has_same h.keys] at h2; exact .inr (.inr (.inr (.inr h2)))
theorem LInv.good (h : LInv L i px ov) (h1 : ¬ mo (gr L i) < 0) (h2 : ¬ 1152921504606846976 < mo (gr L i)) (h0 : openE px (ow (gr L i)) = 0) : ¬ BadL (lds L i) (gr L i) := by
  obtain ⟨g1, g2, g3⟩ := open_good h0
  rw [has_same h.keys] at g3
  unfold BadL
  rw [g3]
  simp only [Bool.false_eq_true, or_false]
  omega
theorem open_put {o : Int} (h0 : openE px o = 0) : openX px o = putA px o 0 := if_pos h0
theorem LInv.give (h : LInv L i px ov) (h1 : ¬ mo (gr L i) < 0) (h0 : openE px (ow (gr L i)) = 0) :
    (giveE (openX px (ow (gr L i))) (ow (gr L i)) (mo (gr L i)) = 0 ∧ giveX (openX px (ow (gr L i))) (ow (gr L i)) (mo (gr L i)) = putA px (ow (gr L i)) (mo (gr L i)) ∧ tot px + mo (gr L i) ≤ 1152921504606846976) ∨
    (¬ giveE (openX px (ow (gr L i))) (ow (gr L i)) (mo (gr L i)) = 0 ∧ giveX (openX px (ow (gr L i))) (ow (gr L i)) (mo (gr L i)) = openX px (ow (gr L i)) ∧ 1152921504606846976 < tot px + mo (gr L i)) := by
  obtain ⟨g1, g2, g3⟩ := open_good h0
  have ht := (goo_open (o := ow (gr L i)) h.goo).2.2
  have e := open_put h0
  have hh : hasK (tb (openX px (ow (gr L i)))) [ow (gr L i), 0, 0, 0] = true := by rw [e]; exact has_put_self
  by_cases ho : 1152921504606846976 - tot (openX px (ow (gr L i))) < mo (gr L i)
  · obtain ⟨k1, k2⟩ := give_over hh h1 ho
    exact .inr ⟨by rw [k1]; decide, k2, by omega⟩
  · obtain ⟨k1, k2⟩ := give_ok hh h1 ho
    refine .inl ⟨k1, ?_, by omega⟩
    rw [k2, e, mon_put_self h.goo.srt, Int.zero_add, put_put h.goo.srt]
theorem LInv.next_tot (h : LInv L i px ov) (hi : i < L.length) (h1 : ¬ mo (gr L i) < 0) (h0 : openE px (ow (gr L i)) = 0) : tot (lds L (i + 1)) = tot (lds L i) + mo (gr L i) := by
  obtain ⟨g1, g2, g3⟩ := open_good h0
  rw [has_same h.keys] at g3
  rw [lds_take hi, tot_new g3]
theorem LInv.next_keys (h : LInv L i px ov) (hi : i < L.length) {m : Int} (h0 : openE px (ow (gr L i)) = 0) : (putA px (ow (gr L i)) m).map ow = (lds L (i + 1)).map ow := by
  obtain ⟨g1, g2, g3⟩ := open_good h0
  rw [lds_take hi]
  exact keys_same h.keys g3
theorem LInv.next_ok (h : LInv L i px ov) (hi : i < L.length) (h1 : ¬ mo (gr L i) < 0) (h2 : ¬ 1152921504606846976 < mo (gr L i)) (h0 : openE px (ow (gr L i)) = 0)
    (hg : giveE (openX px (ow (gr L i))) (ow (gr L i)) (mo (gr L i)) = 0) : LInv L (i + 1) (giveX (openX px (ow (gr L i))) (ow (gr L i)) (mo (gr L i))) ov := by
  rcases h.give h1 h0 with ⟨_, e, ht⟩ | ⟨hn, _⟩
  · have hgo := (goo_give (o := ow (gr L i)) (n := mo (gr L i)) (goo_open (o := ow (gr L i)) h.goo).1).1
    have hT := h.next_tot hi h1 h0
    refine ⟨h.ok.next (h.good h1 h2 h0), hgo, by rw [e]; exact h.next_keys hi h0, fun hov => ?_, fun hov => ?_, by rw [e]; exact Nat.le_trans len_putA (by have := h.len; omega)⟩
    · rw [e, lds_take hi, h.f hov]
    · have := h.t hov; omega
  · exact absurd hg hn
theorem LInv.next_over (h : LInv L i px ov) (hi : i < L.length) (h1 : ¬ mo (gr L i) < 0) (h2 : ¬ 1152921504606846976 < mo (gr L i)) (h0 : openE px (ow (gr L i)) = 0)
    (hg : ¬ giveE (openX px (ow (gr L i))) (ow (gr L i)) (mo (gr L i)) = 0) : LInv L (i + 1) (giveX (openX px (ow (gr L i))) (ow (gr L i)) (mo (gr L i))) true := by
  rcases h.give h1 h0 with ⟨hn, _⟩ | ⟨_, e, ht⟩
  · exact absurd hn hg
  · have hgo := (goo_give (o := ow (gr L i)) (n := mo (gr L i)) (goo_open (o := ow (gr L i)) h.goo).1).1
    have hT := h.next_tot hi h1 h0
    have e2 := open_put h0
    refine ⟨h.ok.next (h.good h1 h2 h0), hgo, by rw [e, e2]; exact h.next_keys hi h0, fun hov => (by cases hov), fun _ => ?_, by rw [e, e2]; exact Nat.le_trans len_putA (by have := h.len; omega)⟩
    cases ov
    · have := h.f rfl; rw [this] at ht; omega
    · have := h.t rfl; omega
theorem LInv.done (h : LInv L L.length px false) : Ldr L 0 ∧ px = lds L L.length ∧ Goo px := ⟨.inr ⟨h.ok, .inr ⟨rfl, by rw [← h.f rfl]; exact h.goo.max⟩⟩, h.f rfl, h.goo⟩
theorem LInv.over (h : LInv L L.length px true) : Ldr L 5 := .inr ⟨h.ok, .inl ⟨rfl, h.t rfl⟩⟩
end
theorem goo_of {x : List (List Int)} (h1 : x.all (fun r => decide (r.length = 2)) = true) (h2 : ((x.map ow).zip ((x.map ow).drop 1)).all (fun p => decide (p.1 < p.2)) = true) (h3 : x.all (fun r => decide (0 ≤ mo r)) = true) (h4 : tot x ≤ 1152921504606846976) : Goo x := by
  refine ⟨fun r hr => by simpa using List.all_eq_true.1 h1 r hr, ?_, fun r hr => by simpa using List.all_eq_true.1 h3 r hr, h4⟩
  clear h1 h3 h4
  have key : ∀ (x : List (List Int)), ((x.map ow).zip ((x.map ow).drop 1)).all (fun p => decide (p.1 < p.2)) = true → x.Pairwise fun a b => ow a < ow b := by
    intro x
    induction x with
    | nil => intro _; exact List.Pairwise.nil
    | cons r x ih =>
      intro h
      cases x with
      | nil => exact List.pairwise_singleton _ _
      | cons s x =>
        simp only [List.map_cons, List.drop_succ_cons, List.drop_zero, List.zip_cons_cons, List.all_cons, Bool.and_eq_true, decide_eq_true_eq] at h ih
        have hp := ih h.2
        refine List.pairwise_cons.2 ⟨fun t ht => ?_, hp⟩
        rcases List.mem_cons.1 ht with rfl | ht
        · exact h.1
        · exact Int.lt_trans h.1 ((List.pairwise_cons.1 hp).1 t ht)
  unfold Srt tb
  rw [List.pairwise_map]
  exact (key x h2).imp fun {a b} hab => (kc_lt (ow a) (ow b)).2 hab
def ast (x A : List (List Int)) (i : Nat) : List (List Int) := (A.take i).foldl actX x
section
variable {x y P A : List (List Int)} {i k : Nat} {e a b n : Int}
theorem ast_take (h : i < A.length) : ast x A (i + 1) = actX (ast x A i) (gr A i) := by
  unfold ast; rw [take_gr h, List.foldl_append]; rfl
theorem goo_ast (h : Goo x) : ∀ i, i ≤ A.length → Goo (ast x A i) ∧ (ast x A i).length ≤ x.length + i
  | 0, _ => ⟨h, Nat.le_refl _⟩
  | i + 1, hi => by
    obtain ⟨h1, h2⟩ := goo_ast h i (by omega)
    obtain ⟨h3, h4⟩ := goo_act (r := gr A i) h1
    rw [ast_take (by omega)]
    exact ⟨h3, by omega⟩
theorem Mvs.goo (h : Goo x) (hm : Mvs x P k e y) : Goo y ∧ y.length = x.length := by
  rcases hm.2 with ⟨_, _, rfl⟩ | ⟨_, _, _, rfl⟩
  · exact ⟨(goo_mst h).1, (goo_mst h).2.1⟩
  · exact ⟨h, rfl⟩
theorem move_same (h : ¬ moveE x a b n = 0) : moveX x a b n = x := if_neg h
end
theorem getD_mem {r : List Int} {j : Nat} (h : j < r.length) : r.getD j 0 ∈ r := by
  rw [List.getD, List.getElem?_eq_getElem h]; exact List.getElem_mem h
end Go.XG
