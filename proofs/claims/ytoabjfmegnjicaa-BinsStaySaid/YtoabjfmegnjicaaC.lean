/-
  Bins, in plain Lean: what is moved, many at once, acts, what lies at a division, lots that there were.
-/
import Derived.Test.YtoabjfmegnjicaaB
import Derived.Test.YtoabjfmegnjicaaG
namespace Go.XG
def movE (l : List (List Int)) (k m : List Int) (n : Int) : Int := if ¬ IsB m ∨ k.getD 3 0 ≠ m.getD 3 0 then 1 else takE l k n
def movX (l : List (List Int)) (k m : List Int) (n : Int) : List (List Int) := if movE l k m n = 0 then setB (takX l k n) m (qtyB (takX l k n) m + n) else l
section
variable {l : List (List Int)} {k m : List Int} {n t : Int}
theorem mov_arg (h : ¬ IsB m ∨ k.getD 3 0 ≠ m.getD 3 0) : movE l k m n = 1 ∧ movX l k m n = l := by unfold movX; rw [show movE l k m n = 1 from if_pos h]; exact ⟨rfl, if_neg (by decide)⟩
theorem mov_no (h : ¬ (¬ IsB m ∨ k.getD 3 0 ≠ m.getD 3 0)) (h2 : takE l k n ≠ 0) : movE l k m n = takE l k n ∧ movX l k m n = l := by
  have e : movE l k m n = takE l k n := if_neg h
  unfold movX; rw [e]; exact ⟨rfl, if_neg h2⟩
theorem mov_ok (h : ¬ (¬ IsB m ∨ k.getD 3 0 ≠ m.getD 3 0)) (h2 : takE l k n = 0) : movE l k m n = 0 ∧ movX l k m n = setB (takX l k n) m (qtyB (takX l k n) m + n) := by
  have e : movE l k m n = 0 := (if_neg h).trans h2
  unfold movX; rw [e]; exact ⟨rfl, if_pos rfl⟩
theorem tak_zero (h : takE l k n = 0) : IsB k ∧ 0 ≤ n ∧ n ≤ qtyB l k ∧ takX l k n = setB l k (qtyB l k - n) := by
  by_cases h1 : ¬ IsB k ∨ n < 0
  · rw [(tak_arg h1).1] at h; cases h
  · by_cases h2 : qtyB l k < n
    · rw [(tak_items h1 h2).1] at h; cases h
    · exact ⟨Classical.not_not.1 fun h3 => h1 (.inl h3), Int.not_lt.1 fun h3 => h1 (.inr h3), by omega, (tak_ok h1 h2).2⟩
theorem lay_zero (h : layE l k n = 0) : IsB k ∧ 0 ≤ n ∧ totB l (k.getD 3 0) + n ≤ 1125899906842624 ∧ layX l k n = setB l k (qtyB l k + n) := by
  by_cases h1 : ¬ IsB k ∨ n < 0
  · rw [(lay_arg h1).1] at h; cases h
  · by_cases h2 : 1125899906842624 - totB l (k.getD 3 0) < n
    · rw [(lay_over h1 h2).1] at h; cases h
    · exact ⟨Classical.not_not.1 fun h3 => h1 (.inl h3), Int.not_lt.1 fun h3 => h1 (.inr h3), by omega, (lay_ok h1 h2).2⟩
theorem tot_tak (h : GooL l) (hk : k.length = 4) (h2 : takE l k n = 0) : totB (takX l k n) t = totB l t - (if k.getD 3 0 = t then n else 0) := by
  rw [(tak_zero h2).2.2.2, tot_set h.srt h.wide hk]; split <;> omega
theorem goo_mov (h : GooL l) (hk : k.length = 4) (hm : m.length = 4) : GooL (movX l k m n) ∧ (movX l k m n).length ≤ l.length + 2 ∧ ∀ t, totB (movX l k m n) t = totB l t := by
  by_cases h1 : ¬ IsB m ∨ k.getD 3 0 ≠ m.getD 3 0
  · rw [(mov_arg h1).2]; exact ⟨h, by omega, fun _ => rfl⟩
  · by_cases h2 : takE l k n = 0
    · rw [(mov_ok h1 h2).2]
      obtain ⟨g1, g2⟩ := goo_tak (n := n) h hk
      have ht := tot_tak (t := m.getD 3 0) h hk h2
      obtain ⟨hi, hn, hle, _⟩ := tak_zero h2
      have hi2 : IsB m := Classical.not_not.1 fun h3 => h1 (.inl h3)
      have he : k.getD 3 0 = m.getD 3 0 := Classical.not_not.1 fun h3 => h1 (.inr h3)
      rw [if_pos he] at ht
      have hq := g1.qty hm
      have hx := h.max (m.getD 3 0)
      refine ⟨g1.set hm hi2 (by omega) (by omega), Nat.le_trans len_setB (by omega), fun t => ?_⟩
      have ht2 := tot_tak (t := t) h hk h2
      rw [tot_set g1.srt g1.wide hm, ht2, he]; split <;> omega
    · rw [(mov_no h1 h2).2]; exact ⟨h, by omega, fun _ => rfl⟩
end
/-! Many at once: put (true) or taken. -/
def dE (d : Bool) (l : List (List Int)) (k : List Int) (n : Int) : Int := match d with | true => layE l k n | false => takE l k n
def dX (d : Bool) (l : List (List Int)) (k : List Int) (n : Int) : List (List Int) := match d with | true => layX l k n | false => takX l k n
def runE (d : Bool) (k0 k1 k2 : Int) : List (List Int) → List Stack → Int
  | _, [] => 0
  | l, x :: s => if dE d l [k0, k1, k2, x.1] x.2 = 0 then runE d k0 k1 k2 (dX d l [k0, k1, k2, x.1] x.2) s else dE d l [k0, k1, k2, x.1] x.2
def runX (d : Bool) (k0 k1 k2 : Int) : List (List Int) → List Stack → List (List Int)
  | l, [] => l
  | l, x :: s => runX d k0 k1 k2 (dX d l [k0, k1, k2, x.1] x.2) s
def AllOk (k0 k1 k2 : Int) (s : List Stack) : Prop := IsB [k0, k1, k2, 1] ∧ Goods s 32
instance {k0 k1 k2 : Int} {s : List Stack} : Decidable (AllOk k0 k1 k2 s) := by unfold AllOk; infer_instance
def allE (d : Bool) (l : List (List Int)) (k0 k1 k2 : Int) (s : List Stack) : Int := if AllOk k0 k1 k2 s then runE d k0 k1 k2 l s else 1
def allX (d : Bool) (l : List (List Int)) (k0 k1 k2 : Int) (s : List Stack) : List (List Int) := if allE d l k0 k1 k2 s = 0 then runX d k0 k1 k2 l s else l
section
variable {l y : List (List Int)} {k : List Int} {n k0 k1 k2 : Int} {d : Bool} {s : List Stack} {i : Nat}
theorem goo_d (h : GooL l) (hk : k.length = 4) : GooL (dX d l k n) ∧ (dX d l k n).length ≤ l.length + 1 := by
  cases d
  · exact goo_tak h hk
  · exact goo_lay h hk
theorem goo_run : ∀ {s : List Stack} {l : List (List Int)}, GooL l → GooL (runX d k0 k1 k2 l s) ∧ (runX d k0 k1 k2 l s).length ≤ l.length + s.length
  | [], l, h => ⟨h, Nat.le_refl _⟩
  | x :: s, l, h => by
    obtain ⟨h1, h2⟩ := goo_d (d := d) (k := [k0, k1, k2, x.1]) (n := x.2) h rfl
    obtain ⟨h3, h4⟩ := goo_run (s := s) h1
    exact ⟨h3, by simp only [runX, List.length_cons]; omega⟩
theorem run_next (hi : i < s.length) (h0 : dE d y [k0, k1, k2, gx s i] (gq s i) = 0) :
    runE d k0 k1 k2 y (s.drop i) = runE d k0 k1 k2 (dX d y [k0, k1, k2, gx s i] (gq s i)) (s.drop (i + 1)) ∧ runX d k0 k1 k2 y (s.drop i) = runX d k0 k1 k2 (dX d y [k0, k1, k2, gx s i] (gq s i)) (s.drop (i + 1)) := by
  rw [drop_cons hi]; exact ⟨if_pos h0, rfl⟩
theorem run_stop (hi : i < s.length) (h0 : dE d y [k0, k1, k2, gx s i] (gq s i) ≠ 0) : runE d k0 k1 k2 y (s.drop i) = dE d y [k0, k1, k2, gx s i] (gq s i) := by
  rw [drop_cons hi]; exact if_neg h0
theorem run_end : runE d k0 k1 k2 y (s.drop s.length) = 0 ∧ runX d k0 k1 k2 y (s.drop s.length) = y := by
  rw [List.drop_length]; exact ⟨rfl, rfl⟩
theorem all_arg (h : ¬ AllOk k0 k1 k2 s) : allE d l k0 k1 k2 s = 1 ∧ allX d l k0 k1 k2 s = l := by
  unfold allX; rw [show allE d l k0 k1 k2 s = 1 from if_neg h]; exact ⟨rfl, if_neg (by decide)⟩
theorem all_go (h : AllOk k0 k1 k2 s) : allE d l k0 k1 k2 s = runE d k0 k1 k2 l s := if_pos h
theorem all_stop {e : Int} (h : AllOk k0 k1 k2 s) (h1 : runE d k0 k1 k2 l s = e) (h2 : e ≠ 0) : allE d l k0 k1 k2 s = e ∧ allX d l k0 k1 k2 s = l := by
  have e1 := (all_go (d := d) (l := l) h).trans h1
  unfold allX; rw [e1]; exact ⟨rfl, if_neg h2⟩
theorem all_done (h : AllOk k0 k1 k2 s) (h1 : runE d k0 k1 k2 l s = 0) (h2 : runX d k0 k1 k2 l s = y) : allE d l k0 k1 k2 s = 0 ∧ allX d l k0 k1 k2 s = y := by
  have e1 := (all_go (d := d) (l := l) h).trans h1
  unfold allX; rw [e1]; exact ⟨rfl, (if_pos rfl).trans h2⟩
theorem goo_all (h : GooL l) : GooL (allX d l k0 k1 k2 s) ∧ (allX d l k0 k1 k2 s).length ≤ l.length + 8 := by
  by_cases h1 : AllOk k0 k1 k2 s
  · have h8 := h1.2.2
    unfold allX
    split
    · obtain ⟨g1, g2⟩ := goo_run (d := d) (k0 := k0) (k1 := k1) (k2 := k2) (s := s) h
      exact ⟨g1, by omega⟩
    · exact ⟨h, by omega⟩
  · rw [(all_arg h1).2]; exact ⟨h, by omega⟩
theorem goods_at (h : Goods s 32) (hi : i < s.length) : 1 ≤ gx s i ∧ gx s i ≤ 32 ∧ 1 ≤ gq s i ∧ gq s i ≤ 1125899906842624 := by
  obtain ⟨h1, h2⟩ := asc_up.1 h.1
  have h3 := up_get h1 hi
  have h4 := h2 i hi
  omega
end
/-! Acts. -/
structure BAct where
  (k n a0 a1 a2 a3 b0 b1 b2 b3 : Int)
  s : List Stack
  sa : Option Addr
  sc : Nat
instance : Inhabited BAct := ⟨⟨0, 0, 0, 0, 0, 0, 0, 0, 0, 0, [], none, 0⟩⟩
abbrev gA (A : List BAct) (i : Nat) : BAct := A.getD i default
def acs (r : BAct) : List Value := [.int .i64 r.k, .int .i64 r.n, .int .i64 r.a0, .int .i64 r.a1, .int .i64 r.a2, .int .i64 r.a3, .int .i64 r.b0, .int .i64 r.b1, .int .i64 r.b2, .int .i64 r.b3, .slice r.sa r.s.length r.sc]
def actE (l : List (List Int)) (r : BAct) : Int :=
  if r.k = 1 then layE l [r.a0, r.a1, r.a2, r.a3] r.n else if r.k = 2 then takE l [r.a0, r.a1, r.a2, r.a3] r.n else if r.k = 3 then movE l [r.a0, r.a1, r.a2, r.a3] [r.b0, r.b1, r.b2, r.b3] r.n
  else if r.k = 4 then allE true l r.a0 r.a1 r.a2 r.s else allE false l r.a0 r.a1 r.a2 r.s
def actX (l : List (List Int)) (r : BAct) : List (List Int) :=
  if r.k = 1 then layX l [r.a0, r.a1, r.a2, r.a3] r.n else if r.k = 2 then takX l [r.a0, r.a1, r.a2, r.a3] r.n else if r.k = 3 then movX l [r.a0, r.a1, r.a2, r.a3] [r.b0, r.b1, r.b2, r.b3] r.n
  else if r.k = 4 then allX true l r.a0 r.a1 r.a2 r.s else allX false l r.a0 r.a1 r.a2 r.s
section
variable {l : List (List Int)} {r : BAct}
theorem act1 (h : r.k = 1) : actE l r = layE l [r.a0, r.a1, r.a2, r.a3] r.n ∧ actX l r = layX l [r.a0, r.a1, r.a2, r.a3] r.n := ⟨if_pos h, if_pos h⟩
theorem act2 (h1 : ¬ r.k = 1) (h : r.k = 2) : actE l r = takE l [r.a0, r.a1, r.a2, r.a3] r.n ∧ actX l r = takX l [r.a0, r.a1, r.a2, r.a3] r.n := ⟨(if_neg h1).trans (if_pos h), (if_neg h1).trans (if_pos h)⟩
theorem act3 (h1 : ¬ r.k = 1) (h2 : ¬ r.k = 2) (h : r.k = 3) : actE l r = movE l [r.a0, r.a1, r.a2, r.a3] [r.b0, r.b1, r.b2, r.b3] r.n ∧ actX l r = movX l [r.a0, r.a1, r.a2, r.a3] [r.b0, r.b1, r.b2, r.b3] r.n :=
  ⟨(if_neg h1).trans ((if_neg h2).trans (if_pos h)), (if_neg h1).trans ((if_neg h2).trans (if_pos h))⟩
theorem act4 (h1 : ¬ r.k = 1) (h2 : ¬ r.k = 2) (h3 : ¬ r.k = 3) (h : r.k = 4) : actE l r = allE true l r.a0 r.a1 r.a2 r.s ∧ actX l r = allX true l r.a0 r.a1 r.a2 r.s :=
  ⟨(if_neg h1).trans ((if_neg h2).trans ((if_neg h3).trans (if_pos h))), (if_neg h1).trans ((if_neg h2).trans ((if_neg h3).trans (if_pos h)))⟩
theorem act5 (h1 : ¬ r.k = 1) (h2 : ¬ r.k = 2) (h3 : ¬ r.k = 3) (h : ¬ r.k = 4) : actE l r = allE false l r.a0 r.a1 r.a2 r.s ∧ actX l r = allX false l r.a0 r.a1 r.a2 r.s :=
  ⟨(if_neg h1).trans ((if_neg h2).trans ((if_neg h3).trans (if_neg h))), (if_neg h1).trans ((if_neg h2).trans ((if_neg h3).trans (if_neg h)))⟩
theorem goo_act (h : GooL l) : GooL (actX l r) ∧ (actX l r).length ≤ l.length + 8 := by
  by_cases h1 : r.k = 1
  · rw [(act1 h1).2]; obtain ⟨g1, g2⟩ := goo_lay (k := [r.a0, r.a1, r.a2, r.a3]) (n := r.n) h rfl; exact ⟨g1, by omega⟩
  by_cases h2 : r.k = 2
  · rw [(act2 h1 h2).2]; obtain ⟨g1, g2⟩ := goo_tak (k := [r.a0, r.a1, r.a2, r.a3]) (n := r.n) h rfl; exact ⟨g1, by omega⟩
  by_cases h3 : r.k = 3
  · rw [(act3 h1 h2 h3).2]; obtain ⟨g1, g2, _⟩ := goo_mov (k := [r.a0, r.a1, r.a2, r.a3]) (m := [r.b0, r.b1, r.b2, r.b3]) (n := r.n) h rfl rfl; exact ⟨g1, by omega⟩
  by_cases h4 : r.k = 4
  · rw [(act4 h1 h2 h3 h4).2]; exact goo_all h
  · rw [(act5 h1 h2 h3 h4).2]; exact goo_all h
theorem act_stay (h : actE l r ≠ 0) : actX l r = l := by
  by_cases h1 : r.k = 1
  · rw [(act1 h1).1] at h; rw [(act1 h1).2]; exact if_neg h
  by_cases h2 : r.k = 2
  · rw [(act2 h1 h2).1] at h; rw [(act2 h1 h2).2]; exact if_neg h
  by_cases h3 : r.k = 3
  · rw [(act3 h1 h2 h3).1] at h; rw [(act3 h1 h2 h3).2]; exact if_neg h
  by_cases h4 : r.k = 4
  · rw [(act4 h1 h2 h3 h4).1] at h; rw [(act4 h1 h2 h3 h4).2]; exact if_neg h
  · rw [(act5 h1 h2 h3 h4).1] at h; rw [(act5 h1 h2 h3 h4).2]; exact if_neg h
theorem act_tot (hg : GooL l) (h3 : r.k = 3) (t : Int) : totB (actX l r) t = totB l t := by
  rw [(act3 (by omega) (by omega) h3).2]; exact (goo_mov hg rfl rfl).2.2 t
end
def ast (l : List (List Int)) (A : List BAct) : Nat → List (List Int)
  | 0 => l
  | i + 1 => actX (ast l A i) (gA A i)
theorem goo_ast {l : List (List Int)} {A : List BAct} (h : GooL l) : ∀ i : Nat, GooL (ast l A i) ∧ (ast l A i).length ≤ l.length + 8 * i
  | 0 => ⟨h, by simp [ast]⟩
  | i + 1 => by
    obtain ⟨h1, h2⟩ := goo_ast (A := A) h i
    obtain ⟨h3, h4⟩ := goo_act (r := gA A i) h1
    exact ⟨h3, by simp only [ast]; omega⟩
/-! What lies at a division. -/
def stk (r : List Int) : Stack := (r.getD 3 0, r.getD 4 0)
def ofS (l : List (List Int)) (k0 k1 k2 : Int) : List Stack := (rngR l [k0, k1, k2, 1] [k0, k1, k2, 33]).map stk
def ofI (l : List (List Int)) (k0 k1 k2 : Int) (i : Nat) : List Stack := ((l.take (bel l [k0, k1, k2, (i : Int) + 1])).drop (bel l [k0, k1, k2, 1])).map stk
section
variable {l : List (List Int)} {k0 k1 k2 : Int} {i : Nat}
theorem kc_succ {a : List Int} (ha : a.length = 4) (t : Int) : kcmp a [k0, k1, k2, t + 1] < 0 ↔ kcmp a [k0, k1, k2, t] < 0 ∨ a = [k0, k1, k2, t] := by
  obtain ⟨a0, a1, a2, a3, rfl⟩ := four ha
  rw [kcmp4, kcmp4]
  simp only [List.cons.injEq, and_true]
  omega
theorem bel_succ (hs : Srt l) (hw : Wide 5 l) (t : Int) : bel l [k0, k1, k2, t + 1] = bel l [k0, k1, k2, t] + (if hasK l [k0, k1, k2, t] = true then 1 else 0) := by
  have hle := bel_le l [k0, k1, k2, t]
  refine bel_found hs hw (by decide) rfl ?_ (fun j hj => ?_) (fun j hj hl h => ?_)
  · cases hh : hasK l [k0, k1, k2, t]
    · simpa using hle
    · have := has_lt hs hw (by decide) rfl hh
      simp; omega
  · have hjl : j < l.length := by
      cases hh : hasK l [k0, k1, k2, t]
      · rw [hh] at hj; simp at hj; omega
      · have := has_lt hs hw (by decide) rfl hh
        rw [if_pos hh] at hj; omega
    rw [kc_succ (ky_len (hw.get hjl) (by decide))]
    by_cases hb : j < bel l [k0, k1, k2, t]
    · exact .inl ((bel_iff hs hw (by decide) rfl j hjl).2 hb)
    · cases hh : hasK l [k0, k1, k2, t]
      · rw [hh] at hj; simp at hj; omega
      · rw [if_pos hh] at hj
        have : j = bel l [k0, k1, k2, t] := by omega
        subst this
        exact .inr ((has_iff hs hw (by decide) rfl).1 hh).2
  · rw [kc_succ (ky_len (hw.get hl) (by decide))] at h
    rcases h with h | h
    · have := (bel_iff hs hw (by decide) rfl j hl).1 h; omega
    · have h1 := bel_key hs hw rfl hl h
      rw [if_pos (has_key hl h)] at hj; omega
theorem of_zero : ofI l k0 k1 k2 0 = [] := by unfold ofI; simp
theorem bel_ge (hs : Srt l) (hw : Wide 5 l) : ∀ i : Nat, bel l [k0, k1, k2, 1] ≤ bel l [k0, k1, k2, (i : Int) + 1]
  | 0 => by simp
  | i + 1 => by
    have h1 := bel_ge hs hw i
    have h2 := bel_succ (k0 := k0) (k1 := k1) (k2 := k2) hs hw ((i : Int) + 1)
    rw [show ((i + 1 : Nat) : Int) + 1 = (i : Int) + 1 + 1 by omega]; omega
theorem of_has (h : GooL l) (hq : 0 < qtyB l [k0, k1, k2, (i : Int) + 1]) : ofI l k0 k1 k2 (i + 1) = ofI l k0 k1 k2 i ++ [((i : Int) + 1, qtyB l [k0, k1, k2, (i : Int) + 1])] := by
  have hh : hasK l [k0, k1, k2, (i : Int) + 1] = true := by
    cases hh : hasK l [k0, k1, k2, (i : Int) + 1]
    · unfold qtyB at hq; rw [hh] at hq; simp at hq
    · rfl
  obtain ⟨h1, h2⟩ := (has_iff h.srt h.wide (by decide) rfl).1 hh
  have hb := bel_succ (k0 := k0) (k1 := k1) (k2 := k2) h.srt h.wide ((i : Int) + 1)
  rw [if_pos hh] at hb
  have hg := bel_ge (k0 := k0) (k1 := k1) (k2 := k2) h.srt h.wide i
  unfold ofI
  rw [show ((i + 1 : Nat) : Int) + 1 = (i : Int) + 1 + 1 by omega, hb, take_gr h1, List.drop_append_of_le_length (by rw [List.length_take]; omega), List.map_append]
  congr 1
  have e3 : (gr l (bel l [k0, k1, k2, (i : Int) + 1])).getD 3 0 = (i : Int) + 1 := by rw [ky3 (h.wide.get h1), h2]; rfl
  have e4 : qtyB l [k0, k1, k2, (i : Int) + 1] = (gr l (bel l [k0, k1, k2, (i : Int) + 1])).getD 4 0 := if_pos hh
  rw [e4]
  show [stk (gr l (bel l [k0, k1, k2, (i : Int) + 1]))] = _
  unfold stk; rw [e3]
theorem of_not (h : GooL l) (hq : ¬ 0 < qtyB l [k0, k1, k2, (i : Int) + 1]) : ofI l k0 k1 k2 (i + 1) = ofI l k0 k1 k2 i := by
  have hh : hasK l [k0, k1, k2, (i : Int) + 1] = false := by
    cases hh : hasK l [k0, k1, k2, (i : Int) + 1]
    · rfl
    · obtain ⟨h1, h2⟩ := (has_iff h.srt h.wide (by decide) rfl).1 hh
      have := h.pos _ (show gr l (bel l [k0, k1, k2, (i : Int) + 1]) ∈ l by rw [gr_eq h1]; exact List.getElem_mem _)
      have e4 : qtyB l [k0, k1, k2, (i : Int) + 1] = (gr l (bel l [k0, k1, k2, (i : Int) + 1])).getD 4 0 := if_pos hh
      omega
  have hb := bel_succ (k0 := k0) (k1 := k1) (k2 := k2) h.srt h.wide ((i : Int) + 1)
  rw [hh] at hb
  unfold ofI
  rw [show ((i + 1 : Nat) : Int) + 1 = (i : Int) + 1 + 1 by omega, hb]; simp
theorem of_done (hs : Srt l) (hw : Wide 5 l) : ofI l k0 k1 k2 32 = ofS l k0 k1 k2 := by
  have := bel_ge (k0 := k0) (k1 := k1) (k2 := k2) hs hw 32
  unfold ofI ofS rngR
  rw [show ((32 : Nat) : Int) + 1 = 33 by omega] at this ⊢
  rw [Nat.max_eq_right this]
theorem of_len (i : Nat) : (ofI l k0 k1 k2 i).length ≤ l.length := by
  unfold ofI; rw [List.length_map, List.length_drop, List.length_take]; omega
theorem ofS_len : (ofS l k0 k1 k2).length ≤ l.length := by
  unfold ofS rngR; rw [List.length_map, List.length_drop, List.length_take]; omega
theorem tot_out (h : GooL l) {t : Int} (ht : ¬ (1 ≤ t ∧ t ≤ 32)) : totB l t = 0 := by
  have : ∀ {m : List (List Int)}, Wide 5 m → (∀ r ∈ m, IsB (ky r)) → totB m t = 0 := by
    intro m
    induction m with
    | nil => intros; rfl
    | cons r m ih =>
      intro hw hi
      have h1 := (hi r (by simp)).2.2.2
      rw [← ky3 (hw r (by simp))] at h1
      have h2 := ih (fun x hx => hw x (by simp [hx])) (fun x hx => hi x (by simp [hx]))
      simp only [totB, h2]
      rw [if_neg (by omega)]; rfl
  exact this h.wide h.is
theorem tot_eq {T : List Int} (h : GooL l) (ht : Tots l T) (t : Int) : (if 1 ≤ t ∧ t ≤ 32 then T.getD t.toNat 0 else 0) = totB l t := by
  split
  · rename_i h1; exact ht.h t h1.1 h1.2
  · rename_i h1; exact (tot_out h h1).symm
theorem tot_part (h : GooL l) (hi : i ≤ l.length) (t : Int) : 0 ≤ totB (l.take i) t ∧ totB (l.take i) t ≤ totB l t := by
  have h1 := totB_nonneg (l := l.take i) (t := t) (fun r hr => h.nn r (List.mem_of_mem_take hr))
  have h2 := totB_nonneg (l := l.drop i) (t := t) (fun r hr => h.nn r (List.mem_of_mem_drop hr))
  have h3 := totB_split (l := l) (i := i) (t := t)
  omega
end
end Go.XG
