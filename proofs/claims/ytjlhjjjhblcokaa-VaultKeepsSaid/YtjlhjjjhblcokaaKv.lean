/-
  The vault, in plain Lean: owners, locks, what is held, consumed and released; what is paid in and out.
-/
import Derived.Test.YtjlhjjjhblcokaaKb
import Derived.Test.YtjlhjjjhblcokaaKp
namespace Go.XG
def OKo (w i : Int) : Prop := (w = 1 ∨ w = 2) ∧ 1 ≤ i ∧ i < 1048576
instance {w i : Int} : Decidable (OKo w i) := by unfold OKo; infer_instance
abbrev owN (w i : Int) : Int := w * 1048576 + i
def abv (w : Int) : Int := if w = 1 then 1048576 else if w = 2 then 2097152 else 0
/-- Stacks go from a division's bins to another's: all, or none. -/
def moE (l : List (List Int)) (f0 f1 f2 t0 t1 t2 : Int) (s : List Stack) : Int := if allE false l f0 f1 f2 s = 0 then allE true (allX false l f0 f1 f2 s) t0 t1 t2 s else allE false l f0 f1 f2 s
def moR (l : List (List Int)) (f0 f1 f2 t0 t1 t2 : Int) (s : List Stack) : List (List Int) := if allE false l f0 f1 f2 s = 0 then allX true (allX false l f0 f1 f2 s) t0 t1 t2 s else l
def moX (l : List (List Int)) (f0 f1 f2 t0 t1 t2 : Int) (s : List Stack) : List (List Int) := if moE l f0 f1 f2 t0 t1 t2 s = 0 then moR l f0 f1 f2 t0 t1 t2 s else l
def lkE (l : List (List Int)) (f0 f1 f2 w i : Int) (s : List Stack) : Int := if OKo w i then moE l f0 f1 f2 (owN w i) 0 f2 s else 1
def lkX (l : List (List Int)) (f0 f1 f2 w i : Int) (s : List Stack) : List (List Int) := if OKo w i then moX l f0 f1 f2 (owN w i) 0 f2 s else l
def hdS (l : List (List Int)) (w i p : Int) : List Stack := if OKo w i then ofS l (owN w i) 0 p else []
def CoOk (w i p : Int) : Prop := OKo w i ∧ 1 ≤ p ∧ p ≤ 8
instance {w i p : Int} : Decidable (CoOk w i p) := by unfold CoOk; infer_instance
def coE (w i p : Int) : Int := if CoOk w i p then 0 else 1
def coS (l : List (List Int)) (w i p : Int) : List Stack := if CoOk w i p then ofS l (owN w i) 0 p else []
def coX (l : List (List Int)) (w i p : Int) : List (List Int) := if CoOk w i p then runX false (owN w i) 0 p l (ofS l (owN w i) 0 p) else l
def ReOk (w i p t0 t1 t2 : Int) : Prop := OKo w i ∧ t2 = p ∧ IsB [t0, t1, t2, 1]
instance {w i p t0 t1 t2 : Int} : Decidable (ReOk w i p t0 t1 t2) := by unfold ReOk; infer_instance
def reE (w i p t0 t1 t2 : Int) : Int := if ReOk w i p t0 t1 t2 then 0 else 1
def reX (l : List (List Int)) (w i p t0 t1 t2 : Int) : List (List Int) := if ReOk w i p t0 t1 t2 then runX true t0 t1 t2 (coX l w i p) (coS l w i p) else l
section
variable {l y : List (List Int)} {f0 f1 f2 t0 t1 t2 w i p k0 k1 k2 n : Int} {s : List Stack} {d : Bool}
theorem all_no (h : ¬ allE d l k0 k1 k2 s = 0) : allX d l k0 k1 k2 s = l := if_neg h
theorem mo_no (h : ¬ allE false l f0 f1 f2 s = 0) : moE l f0 f1 f2 t0 t1 t2 s = allE false l f0 f1 f2 s ∧ moR l f0 f1 f2 t0 t1 t2 s = l ∧ moX l f0 f1 f2 t0 t1 t2 s = l := by
  have e : moE l f0 f1 f2 t0 t1 t2 s = allE false l f0 f1 f2 s := if_neg h
  refine ⟨e, if_neg h, ?_⟩
  unfold moX; rw [e]; exact if_neg h
theorem mo_go (h : allE false l f0 f1 f2 s = 0) : moE l f0 f1 f2 t0 t1 t2 s = allE true (allX false l f0 f1 f2 s) t0 t1 t2 s ∧ moR l f0 f1 f2 t0 t1 t2 s = allX true (allX false l f0 f1 f2 s) t0 t1 t2 s := ⟨if_pos h, if_pos h⟩
theorem mo_ok (h : moE l f0 f1 f2 t0 t1 t2 s = 0) : moX l f0 f1 f2 t0 t1 t2 s = moR l f0 f1 f2 t0 t1 t2 s := if_pos h
theorem mo_bad (h : ¬ moE l f0 f1 f2 t0 t1 t2 s = 0) : moX l f0 f1 f2 t0 t1 t2 s = l := if_neg h
theorem goo_moR (h : GooL l) : GooL (moR l f0 f1 f2 t0 t1 t2 s) ∧ (moR l f0 f1 f2 t0 t1 t2 s).length ≤ l.length + 16 := by
  unfold moR
  split
  · obtain ⟨h1, h2⟩ := goo_all (d := false) (k0 := f0) (k1 := f1) (k2 := f2) (s := s) h
    obtain ⟨h3, h4⟩ := goo_all (d := true) (k0 := t0) (k1 := t1) (k2 := t2) (s := s) h1
    exact ⟨h3, by omega⟩
  · exact ⟨h, by omega⟩
theorem goo_mo (h : GooL l) : GooL (moX l f0 f1 f2 t0 t1 t2 s) ∧ (moX l f0 f1 f2 t0 t1 t2 s).length ≤ l.length + 16 := by
  unfold moX
  split
  · exact goo_moR h
  · exact ⟨h, by omega⟩
theorem goo_lk (h : GooL l) : GooL (lkX l f0 f1 f2 w i s) ∧ (lkX l f0 f1 f2 w i s).length ≤ l.length + 16 := by
  unfold lkX
  split
  · exact goo_mo h
  · exact ⟨h, by omega⟩
theorem lk_no (h : ¬ OKo w i) : lkE l f0 f1 f2 w i s = 1 ∧ lkX l f0 f1 f2 w i s = l := ⟨if_neg h, if_neg h⟩
theorem lk_go (h : OKo w i) : lkE l f0 f1 f2 w i s = moE l f0 f1 f2 (owN w i) 0 f2 s ∧ lkX l f0 f1 f2 w i s = moX l f0 f1 f2 (owN w i) 0 f2 s := ⟨if_pos h, if_pos h⟩
theorem hd_no (h : ¬ OKo w i) : hdS l w i p = [] := if_neg h
theorem hd_go (h : OKo w i) : hdS l w i p = ofS l (owN w i) 0 p := if_pos h
theorem hd_len : (hdS l w i p).length ≤ l.length := by
  unfold hdS; split
  · exact ofS_len
  · simp
theorem co_no (h : ¬ CoOk w i p) : coE w i p = 1 ∧ coS l w i p = [] ∧ coX l w i p = l := ⟨if_neg h, if_neg h, if_neg h⟩
theorem co_go (h : CoOk w i p) : coE w i p = 0 ∧ coS l w i p = ofS l (owN w i) 0 p ∧ coX l w i p = runX false (owN w i) 0 p l (ofS l (owN w i) 0 p) := ⟨if_pos h, if_pos h, if_pos h⟩
theorem co_len : (coS l w i p).length ≤ l.length := by
  unfold coS; split
  · exact ofS_len
  · simp
theorem goo_co (h : GooL l) : GooL (coX l w i p) ∧ (coX l w i p).length ≤ l.length + l.length := by
  unfold coX; split
  · obtain ⟨h1, h2⟩ := goo_run (d := false) (k0 := owN w i) (k1 := 0) (k2 := p) (s := ofS l (owN w i) 0 p) h
    have := ofS_len (l := l) (k0 := owN w i) (k1 := 0) (k2 := p)
    exact ⟨h1, by omega⟩
  · exact ⟨h, by omega⟩
theorem re_no (h : ¬ ReOk w i p t0 t1 t2) : reE w i p t0 t1 t2 = 1 ∧ reX l w i p t0 t1 t2 = l := ⟨if_neg h, if_neg h⟩
theorem re_go (h : ReOk w i p t0 t1 t2) : reE w i p t0 t1 t2 = 0 ∧ reX l w i p t0 t1 t2 = runX true t0 t1 t2 (coX l w i p) (coS l w i p) ∧ CoOk w i p := by
  refine ⟨if_pos h, if_pos h, h.1, ?_⟩
  obtain ⟨_, h2, h3⟩ := h
  have := (isB_iff.1 h3).2.2.1
  omega
theorem run_app : ∀ {a b : List Stack} {l : List (List Int)}, runX d k0 k1 k2 l (a ++ b) = runX d k0 k1 k2 (runX d k0 k1 k2 l a) b
  | [], _, _ => rfl
  | _ :: a, b, _ => run_app (a := a) (b := b)
theorem stk_take {i : Nat} (hi : i < s.length) : s.take (i + 1) = s.take i ++ [(gx s i, gq s i)] := by
  rw [List.take_succ_eq_append_getElem hi]; congr 1; simp only [gx, gq, List.getD_eq_getElem?_getD, List.getElem?_eq_getElem hi]; rfl
theorem run_take {i : Nat} (hi : i < s.length) : runX d k0 k1 k2 l (s.take (i + 1)) = dX d (runX d k0 k1 k2 l (s.take i)) [k0, k1, k2, gx s i] (gq s i) := by
  rw [stk_take hi, run_app]; rfl
theorem run_runE : ∀ {s : List Stack} {l : List (List Int)}, runE d k0 k1 k2 l s = 0 → ∀ i : Nat, i < s.length → dE d (runX d k0 k1 k2 l (s.take i)) [k0, k1, k2, gx s i] (gq s i) = 0
  | [], _, _, _, hi => absurd hi (by simp)
  | x :: s, l, h, i, hi => by
    have h0 : dE d l [k0, k1, k2, x.1] x.2 = 0 := by
      by_cases h0 : dE d l [k0, k1, k2, x.1] x.2 = 0
      · exact h0
      · exact absurd ((if_neg h0).symm.trans h) h0
    have h1 : runE d k0 k1 k2 (dX d l [k0, k1, k2, x.1] x.2) s = 0 := (if_pos h0).symm.trans h
    cases i with
    | zero => exact h0
    | succ j => exact run_runE h1 j (by simpa using hi)
theorem goo_runs {i : Nat} (h : GooL l) (hi : i ≤ s.length) : GooL (runX d k0 k1 k2 l (s.take i)) ∧ (runX d k0 k1 k2 l (s.take i)).length ≤ l.length + i := by
  obtain ⟨h1, h2⟩ := goo_run (d := d) (k0 := k0) (k1 := k1) (k2 := k2) (s := s.take i) h
  exact ⟨h1, by rw [List.length_take] at h2; omega⟩
theorem goo_re (h : GooL l) : GooL (reX l w i p t0 t1 t2) ∧ (reX l w i p t0 t1 t2).length ≤ l.length * 3 := by
  unfold reX; split
  · obtain ⟨h1, h2⟩ := goo_co (w := w) (i := i) (p := p) h
    obtain ⟨h3, h4⟩ := goo_run (d := true) (k0 := t0) (k1 := t1) (k2 := t2) (s := coS l w i p) h1
    have := co_len (l := l) (w := w) (i := i) (p := p)
    exact ⟨h3, by omega⟩
  · exact ⟨h, by omega⟩
theorem ofS_at (h : GooL l) {j : Nat} (hj : j < (ofS l k0 k1 k2).length) : (1 ≤ gx (ofS l k0 k1 k2) j ∧ gx (ofS l k0 k1 k2) j ≤ 32) ∧ 1 ≤ gq (ofS l k0 k1 k2) j ∧ gq (ofS l k0 k1 k2) j ≤ 1125899906842624 := by
  have hm : (ofS l k0 k1 k2)[j] ∈ ofS l k0 k1 k2 := List.getElem_mem _
  have e : (ofS l k0 k1 k2).getD j (0, 0) = (ofS l k0 k1 k2)[j] := by rw [List.getD_eq_getElem?_getD, List.getElem?_eq_getElem hj]; rfl
  unfold gx gq
  rw [e]
  obtain ⟨r, hr, er⟩ := List.mem_map.1 hm
  have hl : r ∈ l := List.mem_of_mem_take (List.mem_of_mem_drop hr)
  have h1 := (h.is r hl).2.2.2
  have h2 := h.pos r hl
  have h3 := totB_ge h.nn hl
  have h4 := h.max (r.getD 3 0)
  have h5 := ky3 (h.wide r hl)
  rw [← er]
  show (1 ≤ r.getD 3 0 ∧ r.getD 3 0 ≤ 32) ∧ 1 ≤ r.getD 4 0 ∧ r.getD 4 0 ≤ 1125899906842624
  rw [← h5] at h1
  exact ⟨h1, h2, by omega⟩
theorem coS_at (h : GooL l) {j : Nat} (hj : j < (coS l w i p).length) : (1 ≤ gx (coS l w i p) j ∧ gx (coS l w i p) j ≤ 32) ∧ 1 ≤ gq (coS l w i p) j ∧ gq (coS l w i p) j ≤ 1125899906842624 := by
  unfold coS at hj ⊢
  split at hj
  · next h1 => rw [if_pos h1]; exact ofS_at h hj
  · exact absurd hj (by simp)
theorem lay_nil (h : GooL l) : layE l [k0, k1, k2, n] 0 = 0 ↔ IsB [k0, k1, k2, n] := by
  constructor
  · exact fun h1 => (lay_zero h1).1
  · intro h1
    have := h.max n
    exact (lay_ok (fun h2 => h2.elim (fun h3 => h3 h1) (fun h3 => absurd h3 (by decide))) (show ¬ 1125899906842624 - totB l n < 0 by omega)).1
theorem re_co (h1 : t2 = p) (h2 : IsB [t0, t1, t2, 1]) : reE w i p t0 t1 t2 = coE w i p ∧ reX l w i p t0 t1 t2 = runX true t0 t1 t2 (coX l w i p) (coS l w i p) := by
  by_cases h : OKo w i
  · obtain ⟨e1, e2, h3⟩ := re_go (l := l) (⟨h, h1, h2⟩ : ReOk w i p t0 t1 t2)
    exact ⟨e1.trans (co_go (l := l) h3).1.symm, e2⟩
  · obtain ⟨e1, e2⟩ := re_no (l := l) (fun h3 : ReOk w i p t0 t1 t2 => h h3.1)
    obtain ⟨e3, e4, e5⟩ := co_no (l := l) (p := p) (fun h3 : CoOk w i p => h h3.1)
    exact ⟨e1.trans e3.symm, by rw [e2, e4, e5]; rfl⟩
end
end Go.XG
namespace Go.XG.Pu
def payE (x : List (List Int)) (f i n : Int) : Int :=
  if ¬ OKo 2 i then 1 else if hasK (tb x) [f, 0, 0, 0] = false then 3 else if n < 0 then 1 else if mon x f < n then 6 else moveE (openX x (owN 2 i)) f (owN 2 i) n
def payX (x : List (List Int)) (f i n : Int) : List (List Int) :=
  if ¬ OKo 2 i then x else if hasK (tb x) [f, 0, 0, 0] = false then x else if n < 0 then x else if mon x f < n then x else moveX (openX x (owN 2 i)) f (owN 2 i) n
def monV (x : List (List Int)) (i : Int) : Int := if OKo 2 i ∧ hasK (tb x) [owN 2 i, 0, 0, 0] = true then mon x (owN 2 i) else 0
def sumN : List (List Int) → Int
  | [] => 0
  | r :: l => r.getD 2 0 + sumN l
def poL (x : List (List Int)) (i : Int) (P : List (List Int)) (j : Nat) : Int := monV x i - sumN (P.take j)
def PoA (x : List (List Int)) (i : Int) (P : List (List Int)) (j : Nat) : Prop := ∀ k, k < j → (gr P k).getD 0 0 = 0 ∧ 0 ≤ (gr P k).getD 2 0 ∧ (gr P k).getD 2 0 ≤ poL x i P k
def PoB (x P : List (List Int)) (j : Nat) : Prop := ∀ k, k < j → hasK (tb x) [(gr P k).getD 1 0, 0, 0, 0] = true
def PoC (x : List (List Int)) (i : Int) (P : List (List Int)) : Prop := OKo 2 i ∧ PoA x i P P.length ∧ poL x i P P.length = 0
instance {x : List (List Int)} {i : Int} {P : List (List Int)} {j : Nat} : Decidable (PoA x i P j) := by unfold PoA; infer_instance
instance {x P : List (List Int)} {j : Nat} : Decidable (PoB x P j) := by unfold PoB; infer_instance
instance {x : List (List Int)} {i : Int} {P : List (List Int)} : Decidable (PoC x i P) := by unfold PoC; infer_instance
def poE (x : List (List Int)) (i : Int) (P : List (List Int)) : Int := if ¬ PoC x i P then 1 else if ¬ PoB x P P.length then 3 else 0
def poS (x : List (List Int)) (o : Int) (P : List (List Int)) : Nat → List (List Int)
  | 0 => x
  | j + 1 => if 0 < (gr P j).getD 2 0 then moveX (poS x o P j) o ((gr P j).getD 1 0) ((gr P j).getD 2 0) else poS x o P j
def poX (x : List (List Int)) (i : Int) (P : List (List Int)) : List (List Int) := if poE x i P = 0 then poS x (owN 2 i) P P.length else x
section
variable {x P : List (List Int)} {f i n o : Int} {j : Nat}
theorem pay_no (h : ¬ OKo 2 i) : payE x f i n = 1 ∧ payX x f i n = x := ⟨if_pos h, if_pos h⟩
theorem pay_none (h : OKo 2 i) (h1 : hasK (tb x) [f, 0, 0, 0] = false) : payE x f i n = 3 ∧ payX x f i n = x := ⟨(if_neg (not_not_intro h)).trans (if_pos h1), (if_neg (not_not_intro h)).trans (if_pos h1)⟩
theorem pay_arg (h : OKo 2 i) (h1 : hasK (tb x) [f, 0, 0, 0] = true) (h2 : n < 0) : payE x f i n = 1 ∧ payX x f i n = x := by
  have h1' : ¬ hasK (tb x) [f, 0, 0, 0] = false := by rw [h1]; decide
  exact ⟨(if_neg (not_not_intro h)).trans ((if_neg h1').trans (if_pos h2)), (if_neg (not_not_intro h)).trans ((if_neg h1').trans (if_pos h2))⟩
theorem pay_funds (h : OKo 2 i) (h1 : hasK (tb x) [f, 0, 0, 0] = true) (h2 : ¬ n < 0) (h3 : mon x f < n) : payE x f i n = 6 ∧ payX x f i n = x := by
  have h1' : ¬ hasK (tb x) [f, 0, 0, 0] = false := by rw [h1]; decide
  exact ⟨(if_neg (not_not_intro h)).trans ((if_neg h1').trans ((if_neg h2).trans (if_pos h3))), (if_neg (not_not_intro h)).trans ((if_neg h1').trans ((if_neg h2).trans (if_pos h3)))⟩
theorem pay_go (h : OKo 2 i) (h1 : hasK (tb x) [f, 0, 0, 0] = true) (h2 : ¬ n < 0) (h3 : ¬ mon x f < n) : payE x f i n = moveE (openX x (owN 2 i)) f (owN 2 i) n ∧ payX x f i n = moveX (openX x (owN 2 i)) f (owN 2 i) n := by
  have h1' : ¬ hasK (tb x) [f, 0, 0, 0] = false := by rw [h1]; decide
  exact ⟨(if_neg (not_not_intro h)).trans ((if_neg h1').trans ((if_neg h2).trans (if_neg h3))), (if_neg (not_not_intro h)).trans ((if_neg h1').trans ((if_neg h2).trans (if_neg h3)))⟩
theorem goo_pay (h : Goo x) : Goo (payX x f i n) ∧ (payX x f i n).length ≤ x.length + 1 := by
  unfold payX
  repeat' split
  all_goals first | exact ⟨h, by omega⟩ | skip
  obtain ⟨h1, h2, _⟩ := goo_open (o := owN 2 i) h
  obtain ⟨h3, h4, _⟩ := goo_move (a := f) (b := owN 2 i) (n := n) h1
  exact ⟨h3, by omega⟩
theorem monV_no (h : ¬ OKo 2 i) : monV x i = 0 := if_neg fun h1 => h h1.1
theorem monV_has (h : OKo 2 i) (h1 : hasK (tb x) [owN 2 i, 0, 0, 0] = true) : monV x i = mon x (owN 2 i) := if_pos ⟨h, h1⟩
theorem monV_none (h1 : hasK (tb x) [owN 2 i, 0, 0, 0] = false) : monV x i = 0 := if_neg fun h => by rw [h.2] at h1; cases h1
theorem monV_le (h : Goo x) : 0 ≤ monV x i ∧ monV x i ≤ 1152921504606846976 := by
  unfold monV
  split
  · next h1 => have := h.mon h1.2; have := h.max; omega
  · omega
theorem sumN_app : ∀ {a b : List (List Int)}, sumN (a ++ b) = sumN a + sumN b
  | [], b => by simp [sumN]
  | r :: a, b => by simp only [List.cons_append, sumN]; rw [sumN_app]; omega
theorem sumN_take (h : j < P.length) : sumN (P.take (j + 1)) = sumN (P.take j) + (gr P j).getD 2 0 := by
  rw [List.take_succ_eq_append_getElem h, sumN_app, ← gr_eq h]; simp [sumN]
theorem poL_next (h : j < P.length) : poL x i P (j + 1) = poL x i P j - (gr P j).getD 2 0 := by
  unfold poL; rw [sumN_take h]; omega
theorem poL_zero : poL x i P 0 = monV x i := by simp [poL, sumN]
theorem poA_le (h : Goo x) (hj : j ≤ P.length) (ha : PoA x i P j) : 0 ≤ poL x i P j ∧ poL x i P j ≤ 1152921504606846976 := by
  induction j with
  | zero => rw [poL_zero]; exact monV_le h
  | succ k ih =>
    have h1 := ih (by omega) (fun q hq => ha q (by omega))
    have h2 := ha k (by omega)
    rw [poL_next (by omega)]; omega
theorem po_no (h : ¬ PoC x i P) : poE x i P = 1 ∧ poX x i P = x := by
  unfold poX; rw [show poE x i P = 1 from if_pos h]; exact ⟨rfl, if_neg (by decide)⟩
theorem po_none (h : PoC x i P) (h1 : ¬ PoB x P P.length) : poE x i P = 3 ∧ poX x i P = x := by
  unfold poX; rw [show poE x i P = 3 from (if_neg (not_not_intro h)).trans (if_pos h1)]; exact ⟨rfl, if_neg (by decide)⟩
theorem po_go (h : PoC x i P) (h1 : PoB x P P.length) : poE x i P = 0 ∧ poX x i P = poS x (owN 2 i) P P.length := by
  unfold poX; rw [show poE x i P = 0 from (if_neg (not_not_intro h)).trans (if_neg (not_not_intro h1))]; exact ⟨rfl, if_pos rfl⟩
theorem goo_poS (h : Goo x) : ∀ j, Goo (poS x o P j) ∧ (poS x o P j).length = x.length
  | 0 => ⟨h, rfl⟩
  | j + 1 => by
    obtain ⟨h1, h2⟩ := goo_poS h j
    simp only [poS]; split
    · obtain ⟨h3, h4, _⟩ := goo_move (a := o) (b := (gr P j).getD 1 0) (n := (gr P j).getD 2 0) h1
      exact ⟨h3, by omega⟩
    · exact ⟨h1, h2⟩
theorem goo_po (h : Goo x) : Goo (poX x i P) ∧ (poX x i P).length ≤ x.length := by
  unfold poX; split
  · obtain ⟨h1, h2⟩ := goo_poS (o := owN 2 i) (P := P) h P.length
    exact ⟨h1, by omega⟩
  · exact ⟨h, by omega⟩
theorem poS_go (h : 0 < (gr P j).getD 2 0) : poS x o P (j + 1) = moveX (poS x o P j) o ((gr P j).getD 1 0) ((gr P j).getD 2 0) := if_pos h
theorem poS_skip (h : ¬ 0 < (gr P j).getD 2 0) : poS x o P (j + 1) = poS x o P j := if_neg h
end
end Go.XG.Pu
