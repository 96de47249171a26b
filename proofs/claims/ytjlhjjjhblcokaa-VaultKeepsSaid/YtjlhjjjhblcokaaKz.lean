/-
  Stacks added; what is locked is nobody else's, and comes back.
-/
import Derived.Test.YtjlhjjjhblcokaaKx
import Derived.Test.YtjlhjjjhblcokaaXk
namespace Go.XG
section
variable {l out s s0 s1 x y : List Stack} {last kind n t a : Int} {k : Nat}
theorem mem_gx {z : Stack} (h : z ∈ l) : ∃ i, i < l.length ∧ gx l i = z.1 ∧ gq l i = z.2 := by
  obtain ⟨i, hi, e⟩ := List.getElem_of_mem h
  have e2 : l.getD i (0, 0) = z := by rw [List.getD_eq_getElem?_getD, List.getElem?_eq_getElem hi, ← e]; rfl
  exact ⟨i, hi, by unfold gx; rw [e2], by unfold gq; rw [e2]⟩
theorem tot_zero : ∀ {l : List Stack}, (∀ z ∈ l, z.1 ≠ t) → totS l t = 0
  | [], _ => rfl
  | z :: l, h => by
    have h1 := tot_zero (l := l) (fun w hw => h w (List.mem_cons_of_mem _ hw))
    simp only [totS]
    rw [if_neg (h z (List.mem_cons_self ..)), h1]; rfl
theorem tot_zero' (h : ∀ i, i < l.length → gx l i ≠ t) : totS l t = 0 := tot_zero fun z hz => by
  obtain ⟨i, hi, e, _⟩ := mem_gx hz
  rw [← e]; exact h i hi
/-- Each type's amounts, of the types up to the last. -/
structure NSm (l out : List Stack) (last : Int) : Prop where
  up : Up 0 out
  le : ∀ x ∈ out, x.1 ≤ last
  pos : 0 ≤ last
  count : out.length + cnt l last ≤ l.length
  tot : ∀ t, totS out t = if t ≤ last then totS l t else 0
def Nat1 (l : List Stack) : Prop := ∀ i, i < l.length → 1 ≤ gx l i ∧ 0 ≤ gq l i
theorem nsm_start (h : Nat1 l) : NSm l [] 0 := ⟨trivial, by simp, by omega, by simpa using cnt_le l 0, fun t => by
  split
  · exact (tot_zero' fun i hi e => by have := (h i hi).1; omega).symm
  · rfl⟩
def SumS (l : List Stack) (kind n : Int) (k : Nat) : Prop := 0 ≤ n ∧ n ≤ 1125899906842624 ∧ n = totS (l.take k) kind
theorem sums_start : SumS l kind 0 0 := ⟨by omega, by omega, by simp [totS]⟩
theorem totS_take (hk : k < l.length) : totS (l.take (k + 1)) t = totS (l.take k) t + (if gx l k = t then gq l k else 0) := by
  rw [stk_take hk, totS_app]; simp [totS]
theorem sums_skip (hs : SumS l kind n k) (hk : k < l.length) (hne : gx l k ≠ kind) : SumS l kind n (k + 1) := ⟨hs.1, hs.2.1, by rw [totS_take hk, if_neg hne, ← hs.2.2]; omega⟩
theorem sums_take (hs : SumS l kind n k) (hk : k < l.length) (he : gx l k = kind) (hq : 0 ≤ gq l k) (hle : gq l k ≤ 1125899906842624 - n) : SumS l kind (n + gq l k) (k + 1) :=
  ⟨by have := hs.1; omega, by omega, by rw [totS_take hk, if_pos he, ← hs.2.2]⟩
theorem Nat1.nn (h : Nat1 l) : ∀ z ∈ l, 0 ≤ z.2 := fun z hz => by
  obtain ⟨i, hi, _, e⟩ := mem_gx hz
  rw [← e]; exact (h i hi).2
theorem sums_over (hn : Nat1 l) (hs : SumS l kind n k) (hk : k < l.length) (he : gx l k = kind) (hle : 1125899906842624 - n < gq l k) : 1125899906842624 < totS l kind := by
  have h1 : totS l kind = totS (l.take (k + 1)) kind + totS (l.drop (k + 1)) kind := by rw [← totS_app, List.take_append_drop]
  have h2 := totS_nn (t := kind) (s := l.drop (k + 1)) (fun z hz => hn.nn z (List.mem_of_mem_drop hz))
  rw [h1, totS_take hk, if_pos he, ← hs.2.2]; omega
theorem NSm.add (h : NSm l out last) (hk : Least l last kind l.length) (hk0 : kind ≠ 0) (hs : SumS l kind n l.length) : last < kind ∧ ∀ t, (if t ≤ last then totS l t else 0) + (if kind = t then n else 0) = if t ≤ kind then totS l t else 0 := by
  obtain ⟨h1, _⟩ := hk.above hk0
  refine ⟨h1, fun t => ?_⟩
  have h3 := hs.2.2
  rw [List.take_length] at h3
  by_cases e : kind = t
  · subst e; rw [if_neg (by omega), if_pos rfl, if_pos (Int.le_refl _)]; omega
  · rw [if_neg e]
    by_cases h4 : t ≤ last
    · rw [if_pos h4, if_pos (by omega)]; omega
    · rw [if_neg h4]
      by_cases h5 : t ≤ kind
      · rw [if_pos h5, tot_zero' (l := l) (t := t) fun i hi e2 => by
          rcases hk with ⟨h6, _⟩ | ⟨_, _, h6⟩
          · exact hk0 h6
          · have := h6 i hi (by omega); omega]
        rfl
      · rw [if_neg h5]; rfl
theorem NSm.next (h : NSm l out last) (hk : Least l last kind l.length) (hk0 : kind ≠ 0) (hs : SumS l kind n l.length) (hn : 0 < n) : NSm l (out ++ [(kind, n)]) kind := by
  obtain ⟨h1, i, h2, h2'⟩ := hk.above hk0
  have hp := h.pos
  have hc := cnt_lt (l := l) (a := last) (b := kind) h2 (by omega) (by omega)
  have hcc := h.count
  refine ⟨up_snoc h.up h.le hp h1 (by show 1 ≤ n; omega) hs.2.1, ?_, by omega, by simp; omega, fun t => ?_⟩
  · intro z hz
    rcases List.mem_append.1 hz with hz | hz
    · have := h.le z hz; omega
    · simp at hz; rw [hz]; exact Int.le_refl _
  · rw [totS_app, h.tot, ← (h.add hk hk0 hs).2 t]; simp [totS]
theorem NSm.next0 (h : NSm l out last) (hk : Least l last kind l.length) (hk0 : kind ≠ 0) (hs : SumS l kind n l.length) (hn : ¬ 0 < n) : NSm l out kind := by
  obtain ⟨h1, i, h2, h2'⟩ := hk.above hk0
  have hp := h.pos
  have hc := cnt_lt (l := l) (a := last) (b := kind) h2 (by omega) (by omega)
  have hcc := h.count
  refine ⟨h.up, fun z hz => by have := h.le z hz; omega, by omega, by omega, fun t => ?_⟩
  have h3 := (h.add hk hk0 hs).2 t
  have h4 := hs.1
  obtain rfl : n = 0 := by omega
  rw [h.tot, ← h3]; simp
theorem NSm.done (h : NSm l out last) (hk : Least l last 0 l.length) : ∀ t, totS out t = totS l t := fun t => by
  have hp := h.pos
  rcases hk with ⟨_, h2⟩ | ⟨h1, _⟩
  · rw [h.tot]; split
    · rfl
    · exact (tot_zero' fun i hi e => by have := h2 i hi; omega).symm
  · omega
theorem up_tot0 : ∀ {l : List Stack} {a : Int}, Up a l → t ≤ a → totS l t = 0
  | [], _, _, _ => rfl
  | z :: l, a, h, ht => by
    have h1 := h.1
    simp only [totS]
    rw [if_neg (by omega), up_tot0 h.2.2.2 (by omega)]; rfl
theorem up_nn : ∀ {l : List Stack} {a : Int}, Up a l → 0 ≤ totS l t
  | [], _, _ => Int.le_refl _
  | z :: l, a, h => by
    have := up_nn h.2.2.2
    have := h.2.1
    simp only [totS]; split <;> omega
theorem up_ext : ∀ {x y : List Stack} {a b : Int}, Up a x → Up b y → (∀ t, totS x t = totS y t) → x = y
  | [], [], _, _, _, _, _ => rfl
  | [], q :: y, _, _, _, hy, h => by
    have h1 := h q.1
    have h2 := up_nn (t := q.1) hy.2.2.2
    have h3 := hy.2.1
    simp only [totS, if_pos] at h1
    omega
  | p :: x, [], _, _, hx, _, h => by
    have h1 := h p.1
    have h2 := up_nn (t := p.1) hx.2.2.2
    have h3 := hx.2.1
    simp only [totS, if_pos] at h1
    omega
  | p :: x, q :: y, _, _, hx, hy, h => by
    have e1 := up_tot0 hx.2.2.2 (Int.le_refl p.1)
    have e2 := up_tot0 hy.2.2.2 (Int.le_refl q.1)
    have hp := h p.1
    have hq := h q.1
    have h3 := hx.2.1
    have h4 := hy.2.1
    simp only [totS, if_pos] at hp hq
    have e : p.1 = q.1 := by
      rcases Int.lt_trichotomy p.1 q.1 with h5 | h5 | h5
      · rw [if_neg (by omega), up_tot0 hy.2.2.2 (show p.1 ≤ q.1 by omega)] at hp; omega
      · exact h5
      · rw [if_neg (by omega), up_tot0 hx.2.2.2 (show q.1 ≤ p.1 by omega)] at hq; omega
    have e' : p = q := by
      rw [if_pos e.symm, e1, e, e2] at hp
      exact Prod.ext e (by omega)
    subst e'
    rw [up_ext hx.2.2.2 hy.2.2.2 (fun t => by have := h t; simp only [totS] at this; omega)]
theorem Nat1.of (h : Goods s a) : Nat1 s := fun i hi => by
  have := up_get (asc_up.1 h.1).1 hi
  omega
end
section
variable {l l1 l2 : List (List Int)} {k0 k1 k2 k3 o p t n x0 x1 x2 f0 f1 f2 t0 t1 t2 : Int} {s s0 s1 : List Stack} {k : List Int}
theorem ofI_up (h : GooL l) : ∀ i : Nat, Up 0 (ofI l k0 k1 k2 i) ∧ ∀ z ∈ ofI l k0 k1 k2 i, z.1 ≤ i
  | 0 => by rw [of_zero]; exact ⟨trivial, fun z hz => (by cases hz)⟩
  | i + 1 => by
    obtain ⟨h1, h2⟩ := ofI_up h i
    by_cases hq : 0 < qtyB l [k0, k1, k2, (i : Int) + 1]
    · have h3 := h.qty (k := [k0, k1, k2, (i : Int) + 1]) rfl
      have h4 := h.max ((i : Int) + 1)
      have h5 : qtyB l [k0, k1, k2, (i : Int) + 1] ≤ totB l ((i : Int) + 1) := h3.2
      rw [of_has h hq]
      refine ⟨up_snoc h1 h2 (by omega) (by show (i : Int) < (i : Int) + 1; omega) hq (by show qtyB _ _ ≤ _; omega), fun z hz => ?_⟩
      rcases List.mem_append.1 hz with hz | hz
      · have := h2 z hz; omega
      · simp at hz; rw [hz]; show (i : Int) + 1 ≤ _; omega
    · rw [of_not h hq]; exact ⟨h1, fun z hz => by have := h2 z hz; omega⟩
theorem ofS_up (h : GooL l) : Up 0 (ofS l k0 k1 k2) := by rw [← of_done h.srt h.wide]; exact (ofI_up h 32).1
theorem tak_qty : ∀ {s : List Stack} {l : List (List Int)}, GooL l → runE false k0 k1 k2 l s = 0 → ∀ k : List Int, k.length = 4 → qtyB (runX false k0 k1 k2 l s) k = qtyB l k - sumS k0 k1 k2 s k
  | [], l, _, _, k, _ => by simp [runX, sumS]
  | z :: s, l, hg, h, k, hk => by
    have h0 : takE l [k0, k1, k2, z.1] z.2 = 0 := by
      by_cases h0 : takE l [k0, k1, k2, z.1] z.2 = 0
      · exact h0
      · exact absurd ((if_neg h0).symm.trans h) h0
    have h' : runE false k0 k1 k2 (takX l [k0, k1, k2, z.1] z.2) s = 0 := (if_pos h0).symm.trans h
    have ih := tak_qty (goo_tak hg rfl).1 h' k hk
    show qtyB (runX false k0 k1 k2 (takX l [k0, k1, k2, z.1] z.2) s) k = _
    rw [ih, qty_tak hg rfl h0 hk]
    simp only [sumS]; omega
theorem mo_sem (hg : GooL l) (h : moE l f0 f1 f2 t0 t1 t2 s = 0) : AllOk f0 f1 f2 s ∧ (∀ k : List Int, k.length = 4 → qtyB (moX l f0 f1 f2 t0 t1 t2 s) k = qtyB l k - sumS f0 f1 f2 s k + sumS t0 t1 t2 s k) ∧ ∀ k : List Int, k.length = 4 → sumS f0 f1 f2 s k ≤ qtyB l k := by
  have h1 : allE false l f0 f1 f2 s = 0 := by
    by_cases h1 : allE false l f0 f1 f2 s = 0
    · exact h1
    · exact absurd ((mo_no h1).1.symm.trans h) h1
  have ha : AllOk f0 f1 f2 s := by
    by_cases ha : AllOk f0 f1 f2 s
    · exact ha
    · rw [(all_arg ha).1] at h1; cases h1
  have h2 : runE false f0 f1 f2 l s = 0 := by rw [← all_go ha]; exact h1
  have e2 := (all_done ha h2 rfl).2
  obtain ⟨m1, m2⟩ := mo_go (t0 := t0) (t1 := t1) (t2 := t2) h1
  have h3 : allE true (allX false l f0 f1 f2 s) t0 t1 t2 s = 0 := m1.symm.trans h
  have hg1 := (goo_all (d := false) (k0 := f0) (k1 := f1) (k2 := f2) (s := s) hg).1
  have hb : AllOk t0 t1 t2 s := by
    by_cases hb : AllOk t0 t1 t2 s
    · exact hb
    · rw [(all_arg hb).1] at h3; cases h3
  have h4 : runE true t0 t1 t2 (allX false l f0 f1 f2 s) s = 0 := by rw [← all_go hb]; exact h3
  have e4 := (all_done hb h4 rfl).2
  refine ⟨ha, fun k hk => ?_, fun k hk => ?_⟩
  · rw [mo_ok h, m2, e4, put_qty hg1 h4 k hk, e2, tak_qty hg h2 k hk]
  · have h5 := tak_qty hg h2 k hk
    have h6 := (hg1.qty hk).1
    rw [e2, h5] at h6; omega
/-- Two locks out of one place into an empty one. -/
structure Two (l : List (List Int)) (x0 x1 x2 o : Int) (s0 s1 : List Stack) (l1 l2 : List (List Int)) : Prop where
  g : GooL l
  e : ofS l o 0 x2 = []
  m0 : moE l x0 x1 x2 o 0 x2 s0 = 0
  m1 : moE l1 x0 x1 x2 o 0 x2 s1 = 0
  e1 : l1 = moX l x0 x1 x2 o 0 x2 s0
  e2 : l2 = moX l1 x0 x1 x2 o 0 x2 s1
theorem Two.g1 (h : Two l x0 x1 x2 o s0 s1 l1 l2) : GooL l1 := by rw [h.e1]; exact (goo_mo h.g).1
theorem Two.g2 (h : Two l x0 x1 x2 o s0 s1 l1 l2) : GooL l2 := by rw [h.e2]; exact (goo_mo h.g1).1
theorem Two.q (h : Two l x0 x1 x2 o s0 s1 l1 l2) (hk : k.length = 4) : qtyB l2 k = qtyB l k - sumS x0 x1 x2 s0 k + sumS o 0 x2 s0 k - sumS x0 x1 x2 s1 k + sumS o 0 x2 s1 k := by
  rw [h.e2, (mo_sem h.g1 h.m1).2.1 k hk, h.e1, (mo_sem h.g h.m0).2.1 k hk]
theorem goods_nn (h : Goods s n) : 0 ≤ totS s t := up_nn (asc_up.1 h.1).1
theorem Two.tot (h : Two l x0 x1 x2 o s0 s1 l1 l2) : totS (ofS l2 o 0 x2) t = totS s0 t + totS s1 t := by
  obtain ⟨a0, q0, c0⟩ := mo_sem h.g h.m0
  obtain ⟨a1, q1, c1⟩ := mo_sem h.g1 h.m1
  have z : qtyB l [o, 0, x2, t] = 0 := by rw [← ofS_tot h.g, h.e]; rfl
  have hk : ([o, 0, x2, t] : List Int).length = 4 := rfl
  have d0 := c0 _ hk
  have d1 := c1 _ hk
  have n0 := goods_nn (t := t) a0.2
  have n1 := goods_nn (t := t) a1.2
  have q := h.q hk
  rw [h.e1, q0 _ hk] at d1
  rw [ofS_tot h.g2, q, z]
  rw [z] at d0 d1
  have eo : ∀ s, sumS o 0 x2 s [o, 0, x2, t] = totS s t := fun s => by rw [sumS_eq hk]; exact if_pos ⟨rfl, rfl, rfl⟩
  rw [eo, eo]
  rw [eo] at d1
  by_cases hc : o = x0 ∧ (0 : Int) = x1
  · have ex : ∀ s, sumS x0 x1 x2 s [o, 0, x2, t] = totS s t := fun s => by rw [sumS_eq hk]; exact if_pos ⟨hc.1, hc.2, rfl⟩
    rw [ex, ex]
    rw [ex] at d0
    rw [ex, ex] at d1
    omega
  · have ex : ∀ s, sumS x0 x1 x2 s [o, 0, x2, t] = 0 := fun s => by rw [sumS_eq hk]; exact if_neg fun h => hc ⟨h.1, h.2.1⟩
    rw [ex, ex]; omega
theorem Two.nice (h : Two l x0 x1 x2 o s0 s1 l1 l2) : totS s0 t + totS s1 t ≤ 1125899906842624 := by
  rw [← h.tot, ofS_tot h.g2]
  have h1 := (h.g2.qty (k := [o, 0, x2, t]) rfl).2
  have h2 := h.g2.max t
  have h3 : qtyB l2 [o, 0, x2, t] ≤ totB l2 t := h1
  omega
theorem Two.isB (h : Two l x0 x1 x2 o s0 s1 l1 l2) : IsB [x0, x1, x2, 1] := (mo_sem h.g h.m0).1.1
theorem Two.nat (h : Two l x0 x1 x2 o s0 s1 l1 l2) : Nat1 s0 ∧ Nat1 s1 := ⟨.of (mo_sem h.g h.m0).1.2, .of (mo_sem h.g1 h.m1).1.2⟩
theorem Two.held {out : List Stack} (h : Two l x0 x1 x2 o s0 s1 l1 l2) (hu : Up 0 out) (ht : ∀ t, totS out t = totS s0 t + totS s1 t) : ofS l2 o 0 x2 = out := up_ext (ofS_up h.g2) hu fun t => by rw [h.tot, ht]
theorem Two.job (h : Two l x0 x1 x2 o s0 s1 l1 l2) {j : Int} (hj : j ≠ o) (hn : 0 < (ofS l2 j 0 x2).length) : ∃ r ∈ l, r.getD 0 0 = j := by
  have hu := ofS_up (k0 := j) (k1 := 0) (k2 := x2) h.g2
  have h1 : ∀ t, totS (ofS l2 j 0 x2) t = qtyB l2 [j, 0, x2, t] := fun t => ofS_tot h.g2
  generalize ofS l2 j 0 x2 = F at *
  cases F with
  | nil => exact absurd hn (by simp)
  | cons z F =>
    have h2 := h1 z.1
    have h3 := up_nn (t := z.1) hu.2.2.2
    have h4 := hu.2.1
    simp only [totS, if_pos] at h2
    have hk : ([j, 0, x2, z.1] : List Int).length = 4 := rfl
    rw [h.q hk] at h2
    obtain ⟨a0, _, _⟩ := mo_sem h.g h.m0
    obtain ⟨a1, _, _⟩ := mo_sem h.g1 h.m1
    have n0 := goods_nn (t := z.1) a0.2
    have n1 := goods_nn (t := z.1) a1.2
    have eo : ∀ s, sumS o 0 x2 s [j, 0, x2, z.1] = 0 := fun s => by rw [sumS_eq hk]; exact if_neg fun h => hj h.1
    have ex : ∀ s, 0 ≤ totS s z.1 → 0 ≤ sumS x0 x1 x2 s [j, 0, x2, z.1] := fun s hs => by
      rw [sumS_eq hk]; split
      · exact hs
      · exact Int.le_refl _
    rw [eo, eo] at h2
    have e0 := ex s0 n0
    have e1 := ex s1 n1
    have h5 : 0 < qtyB l [j, 0, x2, z.1] := by omega
    by_cases hex : ∃ r ∈ l, r.getD 0 0 = j
    · exact hex
    · refine absurd (qty_none h.g.srt h.g.wide hk fun r hr e => hex ⟨r, hr, ?_⟩) (by omega)
      have h6 := congrArg (fun q : List Int => q.getD 0 0) e
      match r, h.g.wide r hr with
      | [a, b, c, d, q], _ => exact h6
theorem Two.back {w i : Int} (h : Two l x0 x1 x2 o s0 s1 l1 l2) (ho : OKo w i) (he : owN w i = o) : reE w i x2 x0 x1 x2 = 0 ∧ reX l2 w i x2 x0 x1 x2 = l := by
  obtain ⟨r1, r2⟩ := re_done h.g2 ho rfl h.isB
  refine ⟨r1, ?_⟩
  rw [r2, he]
  have hp := (isB_iff.1 h.isB).2.2.1
  have hi := rl_inv (o := o) (p := x2) (t0 := x0) (t1 := x1) h.g2 (ofS_fine h.g2) (fun _ hk => ofS_sum h.g2 hk) (he ▸ (isB_own ho).2 hp) h.isB (ofS l2 o 0 x2).length (Nat.le_refl _)
  refine qty_ext hi.goo h.g fun k hk => ?_
  rw [hi.q k hk, List.take_length, h.q hk, sumS_eq hk, sumS_eq hk, sumS_eq hk, sumS_eq hk, sumS_eq hk, sumS_eq hk]
  have ht := h.tot (t := k.getD 3 0)
  rw [ht]
  split <;> split <;> omega
end
/-- Of what there was, more is held; a row of one's own behind another. -/
theorem HV.imp {C : Cx} {o : Oper} {ρ : Env} {H : Heap} {R R' : Value → Heap → Prop} (h : HV C o ρ H R) (k : ∀ v H', R v H' → R' v H') : HV C o ρ H R' := fun w hs => by
  rcases h w hs with ⟨v, w', e, H', s, r⟩ | ⟨f, A, e, hf⟩ | ⟨w', H', e, s, r⟩
  · exact .inl ⟨v, w', e, H', s, k _ _ r⟩
  · exact .inr (.inl ⟨f, A, e, hf.mono k⟩)
  · exact .inr (.inr ⟨w', H', e, s, k _ _ r⟩)
theorem fl_app {X Y : List Stack} : fl (X ++ Y) = fl X ++ fl Y := by simp [fl]
theorem fl_one {X : List Stack} : ∀ u ∈ fl X, u.oneCell' = true := fun u hu => by
  unfold fl at hu
  obtain ⟨x, _, h⟩ := List.mem_flatMap.1 hu
  rcases List.mem_cons.1 h with rfl | h
  · rfl
  · rw [List.mem_singleton.1 h]; rfl
theorem hv_append_stk {C : Cx} {o : Oper} {ρ : Env} {H : Heap} {x y : Operand} {t e : TypeId} {agg : Bool} {bytes : Nat} {zero : Value} {base base' c : Nat} {a : Option Addr} {v : Value} {X Y : List Stack} [ht : Und C.P t (.slice e)] [hi : Inf C.P e agg 2 bytes zero]
    (ho : o.op = .call { callee := .builtin .append, args := #[x, y], argTypes := #[t, t] }) (hx : ev ρ x = v) (hown : Own H base e 2 v X.length (fl X)) (hy : ev ρ y = .slice a Y.length c) (hO : Own H base' e 2 (.slice a Y.length c) Y.length (fl Y))
    (hzs : zero.cells.size = 2) (h63 : X.length + Y.length ≤ 1000000) (hb : bytes ≤ 1000) (hbase : base ≤ H.size) :
    HV C o ρ H (fun v' H' => Own H' base e 2 v' (X ++ Y).length (fl (X ++ Y)) ∧ Gr v.ownBlock H H') := by
  have hlen : (X ++ Y).length = X.length + Y.length := List.length_append
  have hby : (X.length + Y.length) * bytes ≤ 140737488355328 := Nat.le_trans (Nat.mul_le_mul h63 hb) (by decide)
  by_cases h0 : Y.length = 0
  · have hY : Y = [] := List.length_eq_zero_iff.1 h0
    subst hY
    rw [List.append_nil]
    rcases hO.2 with ⟨h1, _⟩ | ⟨g, cap, cur, h1, _⟩
    · cases h1
      exact (hv_append_n ho hx hown hy).imp fun v' H' ⟨h2, h3⟩ => by subst h2 h3; exact ⟨hown, Nat.le_refl _, fun _ _ _ => rfl⟩
    · cases h1
      exact (hv_append_e ho hx hown hy hzs (by decide) (by omega) (by rw [List.length_nil, Nat.add_zero] at hby; exact hby) hbase).imp fun v' H' ⟨h2, h3, _⟩ => ⟨h2, h3⟩
  · obtain ⟨g, c', h1, h2, _⟩ := hO.form (by omega)
    cases h1
    rw [hlen, fl_app]
    exact (hv_append ho hx hown hy h2 (fl_len Y) fl_one hzs (by decide) (by omega) hby hbase).imp fun v' H' ⟨h3, h4, _⟩ => ⟨h3, h4⟩
theorem gr_ext {H H' : Heap} (h : Gr none H H') : Ext H H' := ⟨h.size, fun i hi => h.same i hi (by simp)⟩
theorem and_mask (x : Int) : 0 ≤ bits2 .and .i64 x 524287 ∧ bits2 .and .i64 x 524287 ≤ 524287 := by
  have h : (BitVec.ofInt IntKind.i64.bits x &&& BitVec.ofInt IntKind.i64.bits 524287).toNat ≤ 524287 := by
    rw [BitVec.toNat_and]; exact Nat.le_trans Nat.and_le_right (by decide)
  have hw := IntKind.wrap_i64 ((BitVec.ofInt IntKind.i64.bits x &&& BitVec.ofInt IntKind.i64.bits 524287).toNat : Int)
  show 0 ≤ IntKind.i64.wrap _ ∧ IntKind.i64.wrap _ ≤ _
  omega
theorem ldB_mem {L : List (List Int)} {r : List Int} : ∀ {n : Nat}, r ∈ ldB L n → ∃ i, i < n ∧ gr L i = r
  | 0, h => by cases h
  | n + 1, h => by
    rcases mem_put h with h | h
    · obtain ⟨i, hi, e⟩ := ldB_mem h
      exact ⟨i, by omega, e⟩
    · exact ⟨n, by omega, h.symm⟩
theorem nat1_mem {l : List Stack} (h : ∀ z ∈ l, 1 ≤ z.1 ∧ 0 ≤ z.2) : Nat1 l := fun i hi => by
  have e2 : l.getD i (0, 0) = l[i] := by rw [List.getD_eq_getElem?_getD, List.getElem?_eq_getElem hi]; rfl
  unfold gx gq
  rw [e2]; exact h _ (List.getElem_mem _)
theorem up_mem {l : List Stack} (h : Up 0 l) : ∀ z ∈ l, 1 ≤ z.1 ∧ 0 ≤ z.2 := fun z hz => by
  obtain ⟨i, hi, e1, e2⟩ := mem_gx hz
  have := up_get h hi
  omega
theorem nat1_app {X Y : List Stack} (hX : Up 0 X) (hY : Up 0 Y) : Nat1 (X ++ Y) := nat1_mem fun z hz => (List.mem_append.1 hz).elim (up_mem hX z) (up_mem hY z)
/-- The one of two, or the other. -/
def kP {α : Type} (a b : α) : Nat → α
  | 0 => a
  | _ => b
def kX (l : List (List Int)) (x0 x1 x2 i : Int) (s0 s1 : List Stack) : Nat → List (List Int)
  | 0 => l
  | j + 1 => lkX (kX l x0 x1 x2 i s0 s1 j) x0 x1 x2 2 i (kP s0 s1 j)
section
variable {l : List (List Int)} {x0 x1 x2 i : Int} {s0 s1 : List Stack} {H : Heap} {a0 a1 : Option Addr} {c0 c1 b j : Nat}
theorem goo_kX (h : GooL l) : ∀ j, GooL (kX l x0 x1 x2 i s0 s1 j) ∧ (kX l x0 x1 x2 i s0 s1 j).length ≤ l.length + 16 * j
  | 0 => ⟨h, by simp [kX]⟩
  | j + 1 => by
    obtain ⟨h1, h2⟩ := goo_kX h j
    obtain ⟨h3, h4⟩ := goo_lk (f0 := x0) (f1 := x1) (f2 := x2) (w := 2) (i := i) (s := kP s0 s1 j) h1
    exact ⟨h3, by simp only [kX]; omega⟩
theorem lk_stay {w : Int} {s : List Stack} (h : ¬ lkE l x0 x1 x2 w i s = 0) : lkX l x0 x1 x2 w i s = l := by
  by_cases ho : OKo w i
  · obtain ⟨e1, e2⟩ := lk_go (l := l) (f0 := x0) (f1 := x1) (f2 := x2) (s := s) ho
    rw [e2]; exact mo_bad (by rw [← e1]; exact h)
  · exact (lk_no ho).2
theorem ld_arr (h : Blk H b [.slice a0 s0.length c0, .slice a1 s1.length c1] 76) (hj : j < 2) : cellAt H b (0 + ((j : Nat) : Int).toNat * 1) = some (.slice (kP a0 a1 j) (kP s0 s1 j).length (kP c0 c1 j)) := by
  have : j = 0 ∨ j = 1 := by omega
  rcases this with rfl | rfl
  · exact h.row 0 _ rfl
  · exact h.row 1 _ rfl
theorem kP_stks (h0 : Stks H a0 s0) (h1 : Stks H a1 s1) : Stks H (kP a0 a1 j) (kP s0 s1 j) := by
  cases j with
  | zero => exact h0
  | succ j => exact h1
theorem kP_len (h0 : s0.length ≤ 12) (h1 : s1.length ≤ 12) : (kP s0 s1 j).length ≤ 12 := by
  cases j with
  | zero => exact h0
  | succ j => exact h1
theorem two_locks (hg : GooL l) (ho : OKo 2 i) (he : hdS l 2 i x2 = []) (h : ∀ j, j < 2 → lkE (kX l x0 x1 x2 i s0 s1 j) x0 x1 x2 2 i (kP s0 s1 j) = 0) : Two l x0 x1 x2 (owN 2 i) s0 s1 (kX l x0 x1 x2 i s0 s1 1) (kX l x0 x1 x2 i s0 s1 2) :=
  ⟨hg, by rw [← hd_go ho]; exact he, by rw [← (lk_go ho).1]; exact h 0 (by decide), by rw [← (lk_go ho).1]; exact h 1 (by decide), (lk_go ho).2, (lk_go ho).2⟩
end
end Go.XG
