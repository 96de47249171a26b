/-
  What lies at a place, taken and put: nothing fails, and lot by lot it is the same.
-/
import Derived.Test.YtjlhjjjhblcokaaKv
namespace Go.XG
/-- How much of a type stacks hold. -/
def totS : List Stack → Int → Int
  | [], _ => 0
  | x :: s, t => (if x.1 = t then x.2 else 0) + totS s t
def Fine (s : List Stack) : Prop := ∀ x ∈ s, (1 ≤ x.1 ∧ x.1 ≤ 32) ∧ 1 ≤ x.2 ∧ x.2 ≤ 1125899906842624
section
variable {l y : List (List Int)} {k : List Int} {k0 k1 k2 k3 t0 t1 o p t n : Int} {s a b : List Stack} {d : Bool} {i j : Nat}
theorem sumS_app : ∀ {a : List Stack}, sumS k0 k1 k2 (a ++ b) k = sumS k0 k1 k2 a k + sumS k0 k1 k2 b k
  | [] => by simp [sumS]
  | x :: a => by simp only [List.cons_append, sumS]; rw [sumS_app]; omega
theorem totS_app : ∀ {a : List Stack}, totS (a ++ b) t = totS a t + totS b t
  | [] => by simp [totS]
  | x :: a => by simp only [List.cons_append, totS]; rw [totS_app]; omega
theorem sumS_nn : ∀ {s : List Stack}, (∀ x ∈ s, 0 ≤ x.2) → 0 ≤ sumS k0 k1 k2 s k
  | [], _ => Int.le_refl _
  | x :: s, h => by
    have h1 := sumS_nn (s := s) (fun y hy => h y (List.mem_cons_of_mem _ hy))
    have h2 := h x (List.mem_cons_self ..)
    simp only [sumS]; split <;> omega
theorem totS_nn : ∀ {s : List Stack}, (∀ x ∈ s, 0 ≤ x.2) → 0 ≤ totS s t
  | [], _ => Int.le_refl _
  | x :: s, h => by
    have h1 := totS_nn (s := s) (fun y hy => h y (List.mem_cons_of_mem _ hy))
    have h2 := h x (List.mem_cons_self ..)
    simp only [totS]; split <;> omega
/-- The amounts of a key, by the stacks' types. -/
theorem sumS_eq (hk : k.length = 4) : ∀ {s : List Stack}, sumS k0 k1 k2 s k = if k.getD 0 0 = k0 ∧ k.getD 1 0 = k1 ∧ k.getD 2 0 = k2 then totS s (k.getD 3 0) else 0
  | [] => by simp [sumS, totS]
  | x :: s => by
    have ih := sumS_eq (s := s) hk
    simp only [sumS, totS]
    rw [ih]
    obtain ⟨a, b, c, d, rfl⟩ := four hk
    by_cases h : a = k0 ∧ b = k1 ∧ c = k2
    · obtain ⟨rfl, rfl, rfl⟩ := h
      simp [eq_comm]
    · have h2 : ¬ ([a, b, c, d] : List Int) = [k0, k1, k2, x.1] := fun e => by
        injection e with e1 e2; injection e2 with e2 e3; injection e3 with e3 e4
        exact h ⟨e1, e2, e3⟩
      rw [if_neg h2]
      have h3 : ¬ (([a, b, c, d] : List Int).getD 0 0 = k0 ∧ ([a, b, c, d] : List Int).getD 1 0 = k1 ∧ ([a, b, c, d] : List Int).getD 2 0 = k2) := h
      rw [if_neg h3, if_neg h3]; rfl
theorem ofS_fine (h : GooL l) : Fine (ofS l k0 k1 k2) := fun x hx => by
  obtain ⟨j, hj, e⟩ := List.getElem_of_mem hx
  have h1 := ofS_at (k0 := k0) (k1 := k1) (k2 := k2) h hj
  have e2 : (ofS l k0 k1 k2).getD j (0, 0) = x := by rw [List.getD_eq_getElem?_getD, List.getElem?_eq_getElem hj, ← e]; rfl
  unfold gx gq at h1
  rw [e2] at h1
  exact h1
theorem Fine.nn (h : Fine s) : ∀ x ∈ s, 0 ≤ x.2 := fun x hx => by have := h x hx; omega
theorem Fine.take (h : Fine s) (i : Nat) : Fine (s.take i) := fun x hx => h x (List.mem_of_mem_take hx)
theorem Fine.tail {x : Stack} (h : Fine (x :: s)) : Fine s := fun y hy => h y (List.mem_cons_of_mem _ hy)
/-- By type, what lies there. -/
theorem ofI_tot (h : GooL l) : ∀ i : Nat, totS (ofI l k0 k1 k2 i) t = if 1 ≤ t ∧ t ≤ i then qtyB l [k0, k1, k2, t] else 0
  | 0 => by rw [of_zero, if_neg (by omega)]; rfl
  | i + 1 => by
    have ih := ofI_tot h i
    by_cases hq : 0 < qtyB l [k0, k1, k2, (i : Int) + 1]
    · rw [of_has h hq, totS_app, ih]
      simp only [totS]
      by_cases ht : (i : Int) + 1 = t
      · subst ht
        rw [if_neg (by omega), if_pos rfl, if_pos (by omega)]; omega
      · rw [if_neg ht]
        by_cases h2 : 1 ≤ t ∧ t ≤ i
        · rw [if_pos h2, if_pos (by omega)]; omega
        · rw [if_neg h2, if_neg (by omega)]; omega
    · rw [of_not h hq, ih]
      by_cases ht : (i : Int) + 1 = t
      · subst ht
        have hn := (h.qty (k := [k0, k1, k2, (i : Int) + 1]) rfl).1
        rw [if_neg (by omega), if_pos (by omega)]; omega
      · by_cases h2 : 1 ≤ t ∧ t ≤ i
        · rw [if_pos h2, if_pos (by omega)]
        · rw [if_neg h2, if_neg (by omega)]
theorem qty_out (h : GooL l) (ht : ¬ (1 ≤ t ∧ t ≤ 32)) : qtyB l [k0, k1, k2, t] = 0 :=
  qty_none h.srt h.wide rfl fun r hr e => by
    have := (h.is r hr).2.2.2
    rw [e] at this
    exact ht this
theorem ofS_tot (h : GooL l) : totS (ofS l k0 k1 k2) t = qtyB l [k0, k1, k2, t] := by
  rw [← of_done h.srt h.wide, ofI_tot h]
  split
  · rfl
  · next h1 => exact (qty_out h (fun h2 => h1 ⟨h2.1, by have := h2.2; omega⟩)).symm
theorem ofS_sum (h : GooL l) (hk : k.length = 4) : sumS k0 k1 k2 (ofS l k0 k1 k2) k ≤ qtyB l k := by
  rw [sumS_eq hk]
  obtain ⟨a, b, c, d, rfl⟩ := four hk
  split
  · next h1 =>
    obtain ⟨h2, h3, h4⟩ := h1
    show totS (ofS l k0 k1 k2) d ≤ _
    rw [ofS_tot h, ← h2, ← h3, ← h4]
    exact Int.le_refl _
  · exact (h.qty hk).1
theorem isB_of (h : IsB [k0, k1, k2, 1]) (h3 : 1 ≤ k3 ∧ k3 ≤ 32) : IsB [k0, k1, k2, k3] := by
  rw [isB_iff] at h ⊢; exact ⟨h.1, h.2.1, h.2.2.1, h3⟩
theorem tak_goes (hi : IsB k) (hn : 0 ≤ n) (hq : n ≤ qtyB l k) : takE l k n = 0 := (tak_ok (fun h => h.elim (fun h2 => h2 hi) (fun h2 => by omega)) (by omega)).1
theorem lay_goes (hi : IsB k) (hn : 0 ≤ n) (ht : totB l (k.getD 3 0) + n ≤ 1125899906842624) : layE l k n = 0 := (lay_ok (fun h => h.elim (fun h2 => h2 hi) (fun h2 => by omega)) (by omega)).1
theorem qty_tak (hg : GooL l) (hk : k.length = 4) (h0 : takE l k n = 0) {k' : List Int} (hk' : k'.length = 4) : qtyB (takX l k n) k' = qtyB l k' - (if k' = k then n else 0) := by
  rw [(tak_zero h0).2.2.2, qty_set hg.srt hg.wide hk hk']
  split
  · next e => rw [e]
  · omega
theorem qty_lay (hg : GooL l) (hk : k.length = 4) (h0 : layE l k n = 0) {k' : List Int} (hk' : k'.length = 4) : qtyB (layX l k n) k' = qtyB l k' + (if k' = k then n else 0) := by
  rw [(lay_zero h0).2.2.2, qty_set hg.srt hg.wide hk hk']
  split
  · next e => rw [e]
  · omega
theorem tot_lay (hg : GooL l) (hk : k.length = 4) (h0 : layE l k n = 0) : totB (layX l k n) t = totB l t + (if k.getD 3 0 = t then n else 0) := by
  rw [(lay_zero h0).2.2.2, tot_set hg.srt hg.wide hk]; split <;> omega
theorem tak_all (hi : IsB [k0, k1, k2, 1]) : ∀ {s : List Stack} {y : List (List Int)}, GooL y → Fine s → (∀ k : List Int, k.length = 4 → sumS k0 k1 k2 s k ≤ qtyB y k) →
    runE false k0 k1 k2 y s = 0 ∧ (∀ k : List Int, k.length = 4 → qtyB (runX false k0 k1 k2 y s) k = qtyB y k - sumS k0 k1 k2 s k) ∧ ∀ t, totB (runX false k0 k1 k2 y s) t = totB y t - totS s t
  | [], y, _, _, _ => ⟨rfl, fun k _ => by simp [runX, sumS], fun t => by simp [runX, totS]⟩
  | x :: s, y, hg, hf, hs => by
    have hx := hf x (List.mem_cons_self ..)
    have hq := hs [k0, k1, k2, x.1] rfl
    have hnn := sumS_nn (k0 := k0) (k1 := k1) (k2 := k2) (k := [k0, k1, k2, x.1]) hf.tail.nn
    simp only [sumS, if_pos] at hq
    have h0 : takE y [k0, k1, k2, x.1] x.2 = 0 := tak_goes (isB_of hi hx.1) (by omega) (by omega)
    obtain ⟨g1, _⟩ := goo_tak (k := [k0, k1, k2, x.1]) (n := x.2) hg rfl
    obtain ⟨i1, i2, i3⟩ := tak_all hi g1 hf.tail (fun k hk => by
      rw [qty_tak hg rfl h0 hk]
      have := hs k hk
      simp only [sumS] at this
      omega)
    refine ⟨(if_pos h0).trans i1, fun k hk => ?_, fun t => ?_⟩
    · show qtyB (runX false k0 k1 k2 (takX y [k0, k1, k2, x.1] x.2) s) k = _
      rw [i2 k hk, qty_tak hg rfl h0 hk]; simp only [sumS]; omega
    · show totB (runX false k0 k1 k2 (takX y [k0, k1, k2, x.1] x.2) s) t = _
      rw [i3 t, tot_tak hg rfl h0]; simp only [totS, List.getD_cons_succ, List.getD_cons_zero]; omega
theorem put_all (hi : IsB [k0, k1, k2, 1]) : ∀ {s : List Stack} {y : List (List Int)}, GooL y → Fine s → (∀ t, totB y t + totS s t ≤ 1125899906842624) →
    runE true k0 k1 k2 y s = 0 ∧ ∀ t, totB (runX true k0 k1 k2 y s) t = totB y t + totS s t
  | [], y, _, _, _ => ⟨rfl, fun t => by simp [runX, totS]⟩
  | x :: s, y, hg, hf, hs => by
    have hx := hf x (List.mem_cons_self ..)
    have hq := hs x.1
    have hnn := totS_nn (t := x.1) hf.tail.nn
    simp only [totS, if_pos] at hq
    have h0 : layE y [k0, k1, k2, x.1] x.2 = 0 := lay_goes (isB_of hi hx.1) (by omega) (show totB y x.1 + x.2 ≤ 1125899906842624 by omega)
    obtain ⟨g1, _⟩ := goo_lay (k := [k0, k1, k2, x.1]) (n := x.2) hg rfl
    have e : ∀ t, totB (layX y [k0, k1, k2, x.1] x.2) t = totB y t + (if x.1 = t then x.2 else 0) := fun t => tot_lay hg rfl h0
    obtain ⟨i1, i3⟩ := put_all hi g1 hf.tail (fun t => by
      rw [e]
      have := hs t
      simp only [totS] at this
      omega)
    refine ⟨(if_pos h0).trans i1, fun t => ?_⟩
    show totB (runX true k0 k1 k2 (layX y [k0, k1, k2, x.1] x.2) s) t = _
    rw [i3 t, e]; simp only [totS]; omega
theorem all_one (hi : IsB [k0, k1, k2, 1]) {x : Stack} (hx : (1 ≤ x.1 ∧ x.1 ≤ 32) ∧ 1 ≤ x.2 ∧ x.2 ≤ 1125899906842624) (h0 : dE d y [k0, k1, k2, x.1] x.2 = 0) :
    allE d y k0 k1 k2 [x] = 0 ∧ allX d y k0 k1 k2 [x] = dX d y [k0, k1, k2, x.1] x.2 := by
  have ha : AllOk k0 k1 k2 [x] := ⟨hi, ⟨by omega, hx.1.2, hx.2.1, hx.2.2, trivial⟩, by simp⟩
  exact all_done ha (if_pos h0) rfl
/-- What the document's Release leaves behind so many stacks. -/
def rlX (l : List (List Int)) (o p t0 t1 : Int) (s : List Stack) : Nat → List (List Int)
  | 0 => l
  | j + 1 => layX (takX (rlX l o p t0 t1 s j) [o, 0, p, gx s j] (gq s j)) [t0, t1, p, gx s j] (gq s j)
structure RlI (l : List (List Int)) (o p t0 t1 : Int) (s : List Stack) (j : Nat) (y : List (List Int)) : Prop where
  goo : GooL y
  q : ∀ k : List Int, k.length = 4 → qtyB y k = qtyB l k - sumS o 0 p (s.take j) k + sumS t0 t1 p (s.take j) k
  t : ∀ t, totB y t = totB l t
theorem fine_at (h : Fine s) (hj : j < s.length) : (1 ≤ gx s j ∧ gx s j ≤ 32) ∧ 1 ≤ gq s j ∧ gq s j ≤ 1125899906842624 := by
  have e2 : s.getD j (0, 0) = s[j] := by rw [List.getD_eq_getElem?_getD, List.getElem?_eq_getElem hj]; rfl
  unfold gx gq
  rw [e2]; exact h _ (List.getElem_mem _)
theorem RlI.step (h : RlI l o p t0 t1 s j y) (hg : GooL l) (hf : Fine s) (hs : ∀ k : List Int, k.length = 4 → sumS o 0 p s k ≤ qtyB l k) (hi : IsB [o, 0, p, 1]) (hi2 : IsB [t0, t1, p, 1]) (hj : j < s.length) :
    takE y [o, 0, p, gx s j] (gq s j) = 0 ∧ layE (takX y [o, 0, p, gx s j] (gq s j)) [t0, t1, p, gx s j] (gq s j) = 0 ∧ RlI l o p t0 t1 s (j + 1) (layX (takX y [o, 0, p, gx s j] (gq s j)) [t0, t1, p, gx s j] (gq s j)) := by
  have hx := fine_at hf hj
  have hq := h.q [o, 0, p, gx s j] rfl
  have hn1 := sumS_nn (k0 := t0) (k1 := t1) (k2 := p) (k := [o, 0, p, gx s j]) (hf.take j).nn
  have hsp : ∀ k : List Int, sumS o 0 p s k = sumS o 0 p (s.take j) k + ((if k = [o, 0, p, gx s j] then gq s j else 0) + sumS o 0 p (s.drop (j + 1)) k) := fun k => by
    conv => lhs; rw [← List.take_append_drop j s]
    rw [sumS_app, drop_cons hj]
    rfl
  have hn2 := sumS_nn (k0 := o) (k1 := 0) (k2 := p) (k := [o, 0, p, gx s j]) (s := s.drop (j + 1)) (fun x hx => hf.nn x (List.mem_of_mem_drop hx))
  have h1 := hs [o, 0, p, gx s j] rfl
  rw [hsp, if_pos rfl] at h1
  have h0 : takE y [o, 0, p, gx s j] (gq s j) = 0 := tak_goes (isB_of hi hx.1) (by omega) (by omega)
  obtain ⟨g1, _⟩ := goo_tak (k := [o, 0, p, gx s j]) (n := gq s j) h.goo rfl
  have et : ∀ t, totB (takX y [o, 0, p, gx s j] (gq s j)) t = totB l t - (if gx s j = t then gq s j else 0) := fun t => by rw [← h.t t]; exact tot_tak h.goo rfl h0
  have hm := hg.max (gx s j)
  have h2 : layE (takX y [o, 0, p, gx s j] (gq s j)) [t0, t1, p, gx s j] (gq s j) = 0 := lay_goes (isB_of hi2 hx.1) (by omega) (by
    show totB _ (gx s j) + _ ≤ _
    rw [et, if_pos rfl]; omega)
  refine ⟨h0, h2, (goo_lay (k := [t0, t1, p, gx s j]) (n := gq s j) g1 rfl).1, fun k hk => ?_, fun t => ?_⟩
  · rw [qty_lay g1 rfl h2 hk, qty_tak h.goo rfl h0 hk, h.q k hk, stk_take hj, sumS_app, sumS_app]
    simp only [sumS]; omega
  · rw [tot_lay g1 rfl h2, et]
    show totB l t - (if gx s j = t then gq s j else 0) + (if gx s j = t then gq s j else 0) = _
    omega
theorem rl_inv (hg : GooL l) (hf : Fine s) (hs : ∀ k : List Int, k.length = 4 → sumS o 0 p s k ≤ qtyB l k) (hi : IsB [o, 0, p, 1]) (hi2 : IsB [t0, t1, p, 1]) : ∀ j, j ≤ s.length → RlI l o p t0 t1 s j (rlX l o p t0 t1 s j)
  | 0, _ => ⟨hg, fun k _ => by simp [sumS, rlX], fun _ => rfl⟩
  | j + 1, hj => ((rl_inv hg hf hs hi hi2 j (by omega)).step hg hf hs hi hi2 (by omega)).2.2
theorem rl_mo (h : RlI l o p t0 t1 s j y) (hg : GooL l) (hf : Fine s) (hs : ∀ k : List Int, k.length = 4 → sumS o 0 p s k ≤ qtyB l k) (hi : IsB [o, 0, p, 1]) (hi2 : IsB [t0, t1, p, 1]) (hj : j < s.length) :
    moE y o 0 p t0 t1 p [(gx s j, gq s j)] = 0 ∧ moX y o 0 p t0 t1 p [(gx s j, gq s j)] = layX (takX y [o, 0, p, gx s j] (gq s j)) [t0, t1, p, gx s j] (gq s j) := by
  obtain ⟨h0, h2, _⟩ := h.step hg hf hs hi hi2 hj
  have hx := fine_at hf hj
  obtain ⟨e1, e2⟩ := all_one (d := false) (y := y) (x := (gx s j, gq s j)) hi hx h0
  obtain ⟨e3, e4⟩ := all_one (d := true) (y := takX y [o, 0, p, gx s j] (gq s j)) (x := (gx s j, gq s j)) hi2 hx h2
  obtain ⟨m1, m2⟩ := mo_go (t0 := t0) (t1 := t1) (t2 := p) e1
  have e2 : allX false y o 0 p [(gx s j, gq s j)] = takX y [o, 0, p, gx s j] (gq s j) := e2
  rw [e2] at m1 m2
  rw [e3] at m1
  exact ⟨m1, (mo_ok m1).trans (m2.trans e4)⟩
theorem rl_done (hg : GooL l) (hf : Fine s) (hs : ∀ k : List Int, k.length = 4 → sumS o 0 p s k ≤ qtyB l k) (hi : IsB [o, 0, p, 1]) (hi2 : IsB [t0, t1, p, 1]) : rlX l o p t0 t1 s s.length = runX true t0 t1 p (runX false o 0 p l s) s := by
  have h := rl_inv hg hf hs hi hi2 s.length (Nat.le_refl _)
  obtain ⟨a1, a2, a3⟩ := tak_all hi hg hf hs
  obtain ⟨g1, _⟩ := goo_run (d := false) (k0 := o) (k1 := 0) (k2 := p) (s := s) hg
  obtain ⟨b1, b2⟩ := put_all hi2 g1 hf (fun t => by rw [a3]; have := hg.max t; omega)
  obtain ⟨g2, _⟩ := goo_run (d := true) (k0 := t0) (k1 := t1) (k2 := p) (s := s) g1
  refine qty_ext h.goo g2 fun k hk => ?_
  rw [h.q k hk, put_qty g1 b1 k hk, a2 k hk, List.take_length]
theorem isB_own {w i : Int} (ho : OKo w i) : IsB [owN w i, 0, p, 1] ↔ 1 ≤ p ∧ p ≤ 8 := by
  rw [isB_iff]
  obtain ⟨h1, h2, h3⟩ := ho
  unfold owN
  constructor <;> intro h <;> omega
theorem co_tak {w i : Int} (hg : GooL l) (ho : OKo w i) (hp : 1 ≤ p ∧ p ≤ 8) : runE false (owN w i) 0 p l (ofS l (owN w i) 0 p) = 0 :=
  (tak_all ((isB_own ho).2 hp) hg (ofS_fine hg) (fun _ hk => ofS_sum hg hk)).1
theorem re_done {w i t2 : Int} (hg : GooL l) (ho : OKo w i) (hp : t2 = p) (hb : IsB [t0, t1, t2, 1]) : reE w i p t0 t1 t2 = 0 ∧ reX l w i p t0 t1 t2 = rlX l (owN w i) p t0 t1 (ofS l (owN w i) 0 p) (ofS l (owN w i) 0 p).length := by
  obtain ⟨e1, e2, h3⟩ := re_go (l := l) (⟨ho, hp, hb⟩ : ReOk w i p t0 t1 t2)
  obtain ⟨_, e4, e5⟩ := co_go (l := l) h3
  refine ⟨e1, ?_⟩
  rw [e2, e4, e5, rl_done hg (ofS_fine hg) (fun _ hk => ofS_sum hg hk) ((isB_own ho).2 h3.2) (hp ▸ hb), hp]
theorem ofI_len (h : GooL l) : ∀ i : Nat, (ofI l k0 k1 k2 i).length ≤ i
  | 0 => by rw [of_zero]; simp
  | i + 1 => by
    have ih := ofI_len h i
    by_cases hq : 0 < qtyB l [k0, k1, k2, (i : Int) + 1]
    · rw [of_has h hq]; simp; omega
    · rw [of_not h hq]; omega
theorem ofS_len32 (h : GooL l) : (ofS l k0 k1 k2).length ≤ 32 := by rw [← of_done h.srt h.wide]; exact ofI_len h 32
theorem goo_co32 {w : Int} {i : Int} (h : GooL l) : GooL (coX l w i p) ∧ (coX l w i p).length ≤ l.length + 32 ∧ (coS l w i p).length ≤ 32 := by
  by_cases hc : CoOk w i p
  · obtain ⟨_, e2, e3⟩ := co_go (l := l) hc
    obtain ⟨h1, h2⟩ := goo_run (d := false) (k0 := owN w i) (k1 := 0) (k2 := p) (s := ofS l (owN w i) 0 p) h
    have := ofS_len32 (k0 := owN w i) (k1 := 0) (k2 := p) h
    rw [e2, e3]
    exact ⟨h1, by omega, this⟩
  · obtain ⟨_, e2, e3⟩ := co_no (l := l) hc
    rw [e2, e3]; exact ⟨h, by omega, by simp⟩
theorem goo_re64 {w i t2 : Int} (h : GooL l) : GooL (reX l w i p t0 t1 t2) ∧ (reX l w i p t0 t1 t2).length ≤ l.length + 64 := by
  unfold reX; split
  · obtain ⟨h1, h2, h3⟩ := goo_co32 (w := w) (i := i) (p := p) h
    obtain ⟨h4, h5⟩ := goo_run (d := true) (k0 := t0) (k1 := t1) (k2 := t2) (s := coS l w i p) h1
    exact ⟨h4, by omega⟩
  · exact ⟨h, by omega⟩
/-- A lock, a release, or what is consumed. -/
structure VAct where
  (k w i p x0 x1 x2 x3 : Int)
  s : List Stack
  sa : Option Addr
  sc : Nat
instance : Inhabited VAct := ⟨⟨0, 0, 0, 0, 0, 0, 0, 0, [], none, 0⟩⟩
abbrev gV (A : List VAct) (i : Nat) : VAct := A.getD i default
def vcs (r : VAct) : List Value := [.int .i64 r.k, .int .i64 r.w, .int .i64 r.i, .int .i64 r.p, .int .i64 r.x0, .int .i64 r.x1, .int .i64 r.x2, .int .i64 r.x3, .slice r.sa r.s.length r.sc]
def vstE (l : List (List Int)) (r : VAct) : Int := if r.k = 1 then lkE l r.x0 r.x1 r.x2 r.w r.i r.s else if r.k = 2 then reE r.w r.i r.p r.x0 r.x1 r.x2 else coE r.w r.i r.p
def vstX (l : List (List Int)) (r : VAct) : List (List Int) := if r.k = 1 then lkX l r.x0 r.x1 r.x2 r.w r.i r.s else if r.k = 2 then reX l r.w r.i r.p r.x0 r.x1 r.x2 else coX l r.w r.i r.p
def vast (l : List (List Int)) (A : List VAct) : Nat → List (List Int)
  | 0 => l
  | i + 1 => vstX (vast l A i) (gV A i)
variable {r : VAct} {A : List VAct} {H H1 : Heap} {ba : Option Addr} {bb off : Nat}
theorem vst1 (h : r.k = 1) : vstE l r = lkE l r.x0 r.x1 r.x2 r.w r.i r.s ∧ vstX l r = lkX l r.x0 r.x1 r.x2 r.w r.i r.s := ⟨if_pos h, if_pos h⟩
theorem vst2 (h1 : ¬ r.k = 1) (h : r.k = 2) : vstE l r = reE r.w r.i r.p r.x0 r.x1 r.x2 ∧ vstX l r = reX l r.w r.i r.p r.x0 r.x1 r.x2 := ⟨(if_neg h1).trans (if_pos h), (if_neg h1).trans (if_pos h)⟩
theorem vst3 (h1 : ¬ r.k = 1) (h : ¬ r.k = 2) : vstE l r = coE r.w r.i r.p ∧ vstX l r = coX l r.w r.i r.p := ⟨(if_neg h1).trans (if_neg h), (if_neg h1).trans (if_neg h)⟩
theorem goo_vst (h : GooL l) : GooL (vstX l r) ∧ (vstX l r).length ≤ l.length + 64 := by
  unfold vstX; split
  · obtain ⟨h1, h2⟩ := goo_lk (f0 := r.x0) (f1 := r.x1) (f2 := r.x2) (w := r.w) (i := r.i) (s := r.s) h
    exact ⟨h1, by omega⟩
  · split
    · exact goo_re64 h
    · obtain ⟨h1, h2, _⟩ := goo_co32 (w := r.w) (i := r.i) (p := r.p) h
      exact ⟨h1, by omega⟩
theorem goo_vast (h : GooL l) : ∀ i : Nat, GooL (vast l A i) ∧ (vast l A i).length ≤ l.length + 64 * i
  | 0 => ⟨h, by simp [vast]⟩
  | i + 1 => by
    obtain ⟨h1, h2⟩ := goo_vast h i
    obtain ⟨h3, h4⟩ := goo_vst (r := gV A i) h1
    exact ⟨h3, by simp only [vast]; omega⟩
def VActsAt (H : Heap) (b off : Nat) (A : List VAct) : Prop := ∀ i, i < A.length → Row H b (off + i * 9) (vcs (gV A i)) ∧ Stks H (gV A i).sa (gV A i).s
def VActs (H : Heap) (a : Option Addr) (A : List VAct) : Prop := A.length = 0 ∨ ∃ b off, a = some ⟨b, off, none⟩ ∧ VActsAt H b off A
theorem VActsAt.ext (h : VActsAt H bb off A) (e : Ext H H1) : VActsAt H1 bb off A := fun i hi => ⟨row_ext (h i hi).1 e, (h i hi).2.ext e⟩
theorem VActs.ext (h : VActs H ba A) (e : Ext H H1) : VActs H1 ba A := by
  rcases h with h | ⟨b, off, h1, h2⟩
  · exact .inl h
  · exact .inr ⟨b, off, h1, h2.ext e⟩
theorem VActs.at' (h : VActs H ba A) : ∃ bb off, 0 < A.length → ba = some ⟨bb, off, none⟩ ∧ VActsAt H bb off A := by
  rcases h with h0 | ⟨b, off, h1, h2⟩
  · exact ⟨0, 0, fun h => by omega⟩
  · exact ⟨b, off, fun _ => ⟨h1, h2⟩⟩
theorem ld_vact (h : VActsAt H bb off A) (hi : j < A.length) : Ld H bb (off + j * 9) true 9 (.agg (vcs (gV A j)).toArray) := ⟨vcs (gV A j), rfl, rfl, fun q v hq => (h j hi).1 q v hq⟩
theorem VActs.stks (h : VActs H ba A) (hi : j < A.length) : Stks H (gV A j).sa (gV A j).s := by
  rcases h with h0 | ⟨b, off, h1, h2⟩
  · omega
  · exact (h2 j hi).2
theorem ld_stks (h : Stks H ba s) (e : ba = some ⟨bb, off, none⟩) (hj : j < s.length) : Ld H bb (off + j * 2) true 2 (.agg #[.int .i64 (gx s j), .int .i64 (gq s j)]) := by
  rcases h with h0 | ⟨b, o', h1, h2⟩
  · omega
  · rw [h1] at e; cases e; exact ld_stk h2 hj
end
end Go.XG
