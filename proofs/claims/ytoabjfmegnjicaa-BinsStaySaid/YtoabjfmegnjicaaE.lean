/-
  Bins, in plain Lean: lots that there were; what is put together is taken out again.
-/
import Derived.Test.YtoabjfmegnjicaaD
namespace Go.XG
def ldB (L : List (List Int)) : Nat → List (List Int)
  | 0 => []
  | i + 1 => putR (ldB L i) (gr L i)
structure OkB (y : List (List Int)) (r : List Int) : Prop where
  is : IsB (ky r)
  pos : 1 ≤ r.getD 4 0
  le : r.getD 4 0 ≤ 1125899906842624
  new : hasK y (ky r) = false
def OksB (L : List (List Int)) (i : Nat) : Prop := ∀ j, j < i → OkB (ldB L j) (gr L j)
def LdrB (L : List (List Int)) (e : Int) : Prop :=
  (e = 1 ∧ ∃ i, i < L.length ∧ OksB L i ∧ ¬ OkB (ldB L i) (gr L i)) ∨ OksB L L.length ∧ (e = 5 ∧ (∃ t, 1125899906842624 < totB (ldB L L.length) t) ∨ e = 0 ∧ ∀ t, totB (ldB L L.length) t ≤ 1125899906842624)
section
variable {L y : List (List Int)} {i : Nat} {e e' t : Int} {T : List Int} {ov : Bool} {r : List Int}
theorem LdrB.uniq (h : LdrB L e) (h' : LdrB L e') : e = e' := by
  rcases h with ⟨h1, i, h2, h3, h4⟩ | ⟨h1, h2⟩ <;> rcases h' with ⟨g1, j, g2, g3, g4⟩ | ⟨g1, g2⟩
  · omega
  · exact absurd (g1 i h2) h4
  · exact absurd (h1 j g2) g4
  · rcases h2 with ⟨h2, t, h3⟩ | ⟨h2, h3⟩ <;> rcases g2 with ⟨g2, u, g3⟩ | ⟨g2, g3⟩
    · omega
    · exact absurd (g3 t) (by omega)
    · exact absurd (h3 u) (by omega)
    · omega
structure Half (y : List (List Int)) (i : Nat) : Prop where
  wide : Wide 5 y
  srt : Srt y
  is : ∀ r ∈ y, IsB (ky r)
  pos : ∀ r ∈ y, 1 ≤ r.getD 4 0
  le : ∀ r ∈ y, r.getD 4 0 ≤ 1125899906842624
  len : y.length ≤ i
theorem lds_half (hw : Wide 5 L) : ∀ {i : Nat}, i ≤ L.length → OksB L i → Half (ldB L i) i
  | 0, _, _ => ⟨fun _ h => (by cases h), srt_nil, fun _ h => (by cases h), fun _ h => (by cases h), fun _ h => (by cases h), Nat.le_refl _⟩
  | i + 1, hi, h => by
    have h1 := lds_half hw (i := i) (by omega) (fun j hj => h j (by omega))
    have hb := h i (by omega)
    have h5 := hw.get (show i < L.length by omega)
    refine ⟨wide_put h1.wide h5, srt_put h1.srt h1.wide (by decide) h5, fun r hr => ?_, fun r hr => ?_, fun r hr => ?_, Nat.le_trans (put_len _ _) (by have := h1.len; omega)⟩
    all_goals rcases mem_put hr with hr | rfl
    · exact h1.is r hr
    · exact hb.is
    · exact h1.pos r hr
    · exact hb.pos
    · exact h1.le r hr
    · exact hb.le
theorem tot_put (h : hasK y (ky r) = false) : totB (putR y r) t = totB y t + (if r.getD 3 0 = t then r.getD 4 0 else 0) := by
  have hs := totB_split (l := y) (i := bel y (ky r)) (t := t)
  unfold putR
  rw [h, totB_app]
  simp only [totB, Bool.false_eq_true, if_false, Nat.add_zero]; omega
theorem Half.nn (h : Half y i) : ∀ r ∈ y, 0 ≤ r.getD 4 0 := fun r hr => by have := h.pos r hr; omega
theorem Half.tot (h : Half y i) : 0 ≤ totB y t ∧ totB y t ≤ (y.length : Nat) * 1125899906842624 := by
  refine ⟨totB_nonneg h.nn, ?_⟩
  have hl := h.le
  clear h
  induction y with
  | nil => simp [totB]
  | cons r y ih =>
    have h1 := ih (fun s hs => hl s (by simp [hs]))
    have h2 := hl r (by simp)
    simp only [totB, List.length_cons]
    split <;> omega
theorem Half.goo (h : Half y i) (hm : ∀ t, totB y t ≤ 1125899906842624) : GooL y := ⟨h.wide, h.srt, h.is, h.pos, hm⟩
theorem Half.out (h : Half y i) (ht : ¬ (1 ≤ t ∧ t ≤ 32)) : totB y t = 0 := by
  have : ∀ {m : List (List Int)}, Wide 5 m → (∀ r ∈ m, IsB (ky r)) → totB m t = 0 := by
    intro m
    induction m with
    | nil => intros; rfl
    | cons r m ih =>
      intro hw hi
      have h1 := (hi r (by simp)).2.2.2
      rw [← ky3 (hw r (by simp))] at h1
      have h2 := ih (fun x hx => hw x (by simp [hx])) (fun x hx => hi x (by simp [hx]))
      simp only [totB, h2]
      rw [if_neg (by omega)]; rfl
  exact this h.wide h.is
theorem Half.part (h : Half y i) (j : Nat) (t : Int) : 0 ≤ totB (y.take j) t ∧ totB (y.take j) t ≤ totB y t := by
  have h1 := totB_nonneg (l := y.take j) (t := t) (fun r hr => h.nn r (List.mem_of_mem_take hr))
  have h2 := totB_nonneg (l := y.drop j) (t := t) (fun r hr => h.nn r (List.mem_of_mem_drop hr))
  have h3 := totB_split (l := y) (i := j) (t := t)
  omega
/-- What the document asks of a lot's number. -/
theorem Half.qty (h : Half y i) {k : List Int} (hk : k.length = 4) : 0 < qtyB y k ↔ hasK y k = true := by
  unfold qtyB
  cases hh : hasK y k
  · simp
  · obtain ⟨h1, h2⟩ := (has_iff h.srt h.wide (by decide) hk).1 hh
    have := h.pos _ (show gr y (bel y k) ∈ y by rw [gr_eq h1]; exact List.getElem_mem _)
    simp only [if_pos]
    exact ⟨fun _ => trivial, fun _ => by omega⟩
theorem Half.set (h : Half y i) (hr : OkB y r) (h5 : r.length = 5) : setB y (ky r) (r.getD 4 0) = putR y r := by
  have hp := hr.pos
  have e : ky r ++ [r.getD 4 0] = r := by
    match r, h5 with
    | [a, b, c, d, e], _ => rfl
  unfold setB
  rw [if_neg (by omega), e]
/-- The totals while lots are loaded. -/
structure TInv (L : List (List Int)) (i : Nat) (T : List Int) (ov : Bool) : Prop where
  ok : OksB L i
  len : T.length = 33
  h : ∀ t : Int, 1 ≤ t → t ≤ 32 → T.getD t.toNat 0 = min (totB (ldB L i) t) 1125899906842624
  f : ov = false → ∀ t, totB (ldB L i) t ≤ 1125899906842624
  t : ov = true → ∃ t, 1125899906842624 < totB (ldB L i) t
theorem rep_get {n k : Nat} : (List.replicate n (0 : Int)).getD k 0 = 0 := by
  simp only [List.getD, List.getElem?_replicate]; split <;> rfl
theorem tinv_nil : TInv L 0 (List.replicate 33 0) false := by
  refine ⟨fun j h => absurd h (by omega), rfl, fun t h1 h2 => ?_, fun _ t => by simp [ldB, totB], fun h => (by cases h)⟩
  rw [rep_get]; show (0 : Int) = min 0 1125899906842624; omega
theorem TInv.bad (h : TInv L i T ov) (hi : i < L.length) (hb : ¬ OkB (ldB L i) (gr L i)) : LdrB L 1 := .inl ⟨rfl, i, hi, h.ok, hb⟩
theorem get_set {j k : Nat} {v : Int} (hj : j < T.length) : (T.set j v).getD k 0 = if k = j then v else T.getD k 0 := by
  simp only [List.getD]
  by_cases h : k = j
  · subst h; rw [if_pos rfl, List.getElem?_set_self hj, Option.getD_some]
  · rw [if_neg h, List.getElem?_set_ne (fun h2 => h h2.symm)]
theorem TInv.next (h : TInv L i T ov) (hw : Wide 5 L) (hi : i < L.length) (hb : OkB (ldB L i) (gr L i)) {n : Int} (hn : n = T.getD ((gr L i).getD 3 0).toNat 0 + (gr L i).getD 4 0) :
    (1125899906842624 < n → TInv L (i + 1) (T.set ((gr L i).getD 3 0).toNat 1125899906842624) true) ∧ (¬ 1125899906842624 < n → TInv L (i + 1) (T.set ((gr L i).getD 3 0).toNat n) ov) := by
  have hh := lds_half hw (by omega) h.ok
  have h3 := hb.is.2.2.2
  rw [← ky3 (hw.get hi)] at h3
  have hq := hb.pos
  have hok : OksB L (i + 1) := all_next h.ok hb
  have hp : ∀ t, totB (ldB L (i + 1)) t = totB (ldB L i) t + (if (gr L i).getD 3 0 = t then (gr L i).getD 4 0 else 0) := fun t => tot_put hb.new
  have hT := h.h _ h3.1 h3.2
  have hl := h.len
  generalize (gr L i).getD 3 0 = z at *
  generalize (gr L i).getD 4 0 = q at *
  constructor
  · intro hov
    refine ⟨hok, by rw [List.length_set]; exact hl, fun t h1 h2 => ?_, fun h => (by cases h), fun _ => ⟨z, by rw [hp, if_pos rfl]; omega⟩⟩
    rw [get_set (by omega), hp]
    have h0 := h.h t h1 h2
    by_cases he : z = t
    · subst he; rw [if_pos rfl, if_pos rfl]; omega
    · rw [if_neg (by omega), if_neg he, h0]; omega
  · intro hov
    refine ⟨hok, by rw [List.length_set]; exact hl, fun t h1 h2 => ?_, fun hf t => ?_, fun ht => ?_⟩
    · rw [get_set (by omega), hp]
      have h0 := h.h t h1 h2
      by_cases he : z = t
      · subst he; rw [if_pos rfl, if_pos rfl]; omega
      · rw [if_neg (by omega), if_neg he, h0]; omega
    · have h0 := h.f hf t
      rw [hp]
      by_cases he : z = t
      · subst he; rw [if_pos rfl]; omega
      · rw [if_neg he]; omega
    · obtain ⟨t, h0⟩ := h.t ht
      exact ⟨t, by rw [hp]; split <;> omega⟩
theorem TInv.done (h : TInv L L.length T false) (hw : Wide 5 L) : LdrB L 0 ∧ GooL (ldB L L.length) ∧ Tots (ldB L L.length) T := by
  refine ⟨.inr ⟨h.ok, .inr ⟨rfl, h.f rfl⟩⟩, (lds_half hw (Nat.le_refl _) h.ok).goo (h.f rfl), h.len, fun t h1 h2 => ?_⟩
  have := h.h t h1 h2
  have := h.f rfl t
  omega
theorem TInv.over (h : TInv L L.length T true) : LdrB L 5 := .inr ⟨h.ok, .inl ⟨rfl, h.t rfl⟩⟩
theorem ldr_ok (h : LdrB L 0) : OksB L L.length ∧ ∀ t, totB (ldB L L.length) t ≤ 1125899906842624 := by
  rcases h with ⟨h, _⟩ | ⟨h1, ⟨h, _⟩ | ⟨_, h⟩⟩
  · cases h
  · cases h
  · exact ⟨h1, h⟩
end
/-! The document's Move. -/
section
variable {l : List (List Int)} {k m : List Int} {n : Int}
theorem mov_arg' (h : ¬ IsB k ∨ ¬ IsB m ∨ k.getD 3 0 ≠ m.getD 3 0 ∨ n < 0) : movE l k m n = 1 ∧ movX l k m n = l := by
  by_cases h1 : ¬ IsB m ∨ k.getD 3 0 ≠ m.getD 3 0
  · exact mov_arg h1
  · have h2 : ¬ IsB k ∨ n < 0 := by
      rcases h with h | h | h | h
      · exact .inl h
      · exact absurd (.inl h) h1
      · exact absurd (.inr h) h1
      · exact .inr h
    have h3 := (tak_arg (l := l) h2).1
    obtain ⟨e1, e2⟩ := mov_no (l := l) (n := n) h1 (by rw [h3]; decide)
    exact ⟨e1.trans h3, e2⟩
theorem mov_lay (hg : GooL l) (hk : k.length = 4) (hm : IsB m) (he : k.getD 3 0 = m.getD 3 0) (h2 : takE l k n = 0) : layE (takX l k n) m n = 0 ∧ movE l k m n = 0 ∧ movX l k m n = layX (takX l k n) m n := by
  have h1 : ¬ (¬ IsB m ∨ k.getD 3 0 ≠ m.getD 3 0) := by rintro (h | h); exact h hm; exact h he
  obtain ⟨e1, e2⟩ := mov_ok h1 h2
  obtain ⟨_, hn, hle, _⟩ := tak_zero h2
  have ht := tot_tak (t := m.getD 3 0) hg hk h2
  rw [if_pos he] at ht
  have hx := hg.max (m.getD 3 0)
  obtain ⟨e3, e4⟩ := lay_ok (l := takX l k n) (k := m) (n := n) (by rintro (h | h); exact h hm; omega) (by omega)
  exact ⟨e3, e1, e2.trans e4.symm⟩
end
/-! What is put together is taken out again. -/
section
variable {l a b y : List (List Int)} {k k' : List Int} {n k0 k1 k2 : Int} {s : List Stack} {i : Nat}
theorem mem_set (hs : Srt l) (hw : Wide 5 l) (hk : k.length = 4) (r : List Int) : r ∈ setB l k n ↔ (r ∈ l ∧ ky r ≠ k) ∨ (n ≠ 0 ∧ r = k ++ [n]) := by
  unfold setB
  split
  · rename_i h0
    rw [← fil_all hs hw hk, List.mem_filter]
    simp [nk, h0]
  · rename_i h0
    rw [← put_fil hs hw hk]
    conv => lhs; rw [← fil_take hs hw hk (Nat.le_refl (bel l k))]
    have : r ∈ l ↔ r ∈ l.take (bel l k) ∨ r ∈ l.drop (bel l k) := by rw [← List.mem_append, List.take_append_drop]
    simp only [List.mem_append, List.mem_filter, List.mem_singleton, this]
    simp only [nk, decide_eq_true_eq]
    constructor
    · rintro ((⟨h1, h2⟩ | h1) | ⟨h1, h2⟩)
      · exact .inl ⟨.inl h1, h2⟩
      · exact .inr ⟨h0, h1⟩
      · exact .inl ⟨.inr h1, h2⟩
    · rintro (⟨h1 | h1, h2⟩ | ⟨_, h1⟩)
      · exact .inl (.inl ⟨h1, h2⟩)
      · exact .inr ⟨h1, h2⟩
      · exact .inl (.inr h1)
theorem qty_mem (hs : Srt l) (hw : Wide 5 l) {r : List Int} (hr : r ∈ l) : qtyB l (ky r) = r.getD 4 0 := by
  obtain ⟨i, hi, rfl⟩ := List.getElem_of_mem hr
  have h := qty_at hs hw (ky_len (hw.get hi) (by decide)) hi rfl
  rw [gr_eq hi] at h; exact h
theorem qty_none (hs : Srt l) (hw : Wide 5 l) (hk : k.length = 4) (h : ∀ r ∈ l, ky r ≠ k) : qtyB l k = 0 :=
  qty_no hs hw hk fun j hj => h _ (by rw [gr_eq hj]; exact List.getElem_mem _)
theorem qty_set (hs : Srt l) (hw : Wide 5 l) (hk : k.length = 4) (hk' : k'.length = 4) : qtyB (setB l k n) k' = if k' = k then n else qtyB l k' := by
  have hs2 := srt_setB (n := n) hs hw hk
  have hw2 := wide_setB (n := n) hw hk
  split
  · rename_i he; subst he
    by_cases h0 : n = 0
    · subst h0
      exact qty_none hs2 hw2 hk fun r hr h => by
        rcases (mem_set hs hw hk r).1 hr with ⟨_, h1⟩ | ⟨h1, _⟩
        · exact h1 h
        · exact h1 rfl
    · have := qty_mem hs2 hw2 ((mem_set hs hw hk (k' ++ [n])).2 (.inr ⟨h0, rfl⟩))
      rwa [ky_app hk, gd_app5 hk] at this
  · rename_i he
    by_cases hex : ∃ r ∈ l, ky r = k'
    · obtain ⟨r, hr, rfl⟩ := hex
      rw [qty_mem hs hw hr, qty_mem hs2 hw2 ((mem_set hs hw hk r).2 (.inl ⟨hr, he⟩))]
    · rw [qty_none hs hw hk' fun r hr h => hex ⟨r, hr, h⟩]
      refine qty_none hs2 hw2 hk' fun r hr h => ?_
      rcases (mem_set hs hw hk r).1 hr with ⟨h1, _⟩ | ⟨_, h1⟩
      · exact hex ⟨r, h1, h⟩
      · rw [h1, ky_app hk] at h; exact he h.symm
theorem srt_ext : ∀ {a b : List (List Int)}, Srt a → Srt b → (∀ r, r ∈ a ↔ r ∈ b) → a = b
  | [], [], _, _, _ => rfl
  | [], r :: b, _, _, h => absurd ((h r).2 (by simp)) (by simp)
  | r :: a, [], _, _, h => absurd ((h r).1 (by simp)) (by simp)
  | r :: a, q :: b, ha, hb, h => by
    obtain ⟨h1, ha'⟩ := ha.cons
    obtain ⟨h2, hb'⟩ := hb.cons
    have e : r = q := by
      rcases List.mem_cons.1 ((h r).1 (by simp)) with h3 | h3
      · exact h3
      · rcases List.mem_cons.1 ((h q).2 (by simp)) with h4 | h4
        · exact h4.symm
        · have h5 := h2 r h3
          have h6 := h1 q h4
          have h7 := kcmp_anti (ky r) (ky q)
          omega
    subst e
    rw [srt_ext ha' hb' fun x => ?_]
    constructor
    · intro hx
      rcases List.mem_cons.1 ((h x).1 (by simp [hx])) with h3 | h3
      · subst h3; have := h1 _ hx; rw [kcmp_self] at this; exact absurd this (by decide)
      · exact h3
    · intro hx
      rcases List.mem_cons.1 ((h x).2 (by simp [hx])) with h3 | h3
      · subst h3; have := h2 _ hx; rw [kcmp_self] at this; exact absurd this (by decide)
      · exact h3
theorem qty_ext (ha : GooL a) (hb : GooL b) (h : ∀ k : List Int, k.length = 4 → qtyB a k = qtyB b k) : a = b := by
  have sub : ∀ {a b : List (List Int)}, GooL a → GooL b → (∀ k : List Int, k.length = 4 → qtyB a k = qtyB b k) → ∀ r, r ∈ a → r ∈ b := by
    intro a b ha hb h r hr
    have h5 := ha.wide r hr
    have h1 := h (ky r) (ky_len h5 (by decide))
    rw [qty_mem ha.srt ha.wide hr] at h1
    have hp := ha.pos r hr
    by_cases hex : ∃ q ∈ b, ky q = ky r
    · obtain ⟨q, hq, he⟩ := hex
      rw [← he, qty_mem hb.srt hb.wide hq] at h1
      have : r = q := by
        have g5 := hb.wide q hq
        match r, h5, q, g5 with
        | [r0, r1, r2, r3, r4], _, [q0, q1, q2, q3, q4], _ =>
          have h7 : [q0, q1, q2, q3] = [r0, r1, r2, r3] := he
          have h6 : r4 = q4 := h1
          cases h7; cases h6; rfl
      rw [this]; exact hq
    · rw [qty_none hb.srt hb.wide (ky_len h5 (by decide)) fun q hq he => hex ⟨q, hq, he⟩] at h1
      omega
  exact srt_ext ha.srt hb.srt fun r => ⟨sub ha hb h r, sub hb ha (fun k hk => (h k hk).symm) r⟩
def sumS (k0 k1 k2 : Int) : List Stack → List Int → Int
  | [], _ => 0
  | x :: s, k => (if k = [k0, k1, k2, x.1] then x.2 else 0) + sumS k0 k1 k2 s k
theorem sum_nonneg {m : Int} : ∀ {s : List Stack} {a : Int}, Asc m a s → 0 ≤ sumS k0 k1 k2 s k
  | [], _, _ => Int.le_refl _
  | x :: s, a, h => by
    obtain ⟨_, _, h3, _, h5⟩ := h
    have := sum_nonneg h5
    simp only [sumS]; split <;> omega
theorem put_qty : ∀ {s : List Stack} {l : List (List Int)}, GooL l → runE true k0 k1 k2 l s = 0 → ∀ k : List Int, k.length = 4 → qtyB (runX true k0 k1 k2 l s) k = qtyB l k + sumS k0 k1 k2 s k
  | [], l, _, _, k, _ => by simp [runX, sumS]
  | x :: s, l, hg, h, k, hk => by
    have h0 : layE l [k0, k1, k2, x.1] x.2 = 0 := by
      apply Classical.byContradiction
      intro hn
      have : runE true k0 k1 k2 l (x :: s) = layE l [k0, k1, k2, x.1] x.2 := if_neg hn
      rw [this] at h; exact hn h
    have h' : runE true k0 k1 k2 (layX l [k0, k1, k2, x.1] x.2) s = 0 := by
      have : runE true k0 k1 k2 l (x :: s) = runE true k0 k1 k2 (layX l [k0, k1, k2, x.1] x.2) s := if_pos h0
      rw [this] at h; exact h
    have ih := put_qty (goo_lay hg rfl).1 h' k hk
    show qtyB (runX true k0 k1 k2 (layX l [k0, k1, k2, x.1] x.2) s) k = _
    rw [ih, (lay_zero h0).2.2.2, qty_set hg.srt hg.wide rfl hk]
    simp only [sumS]
    split
    · rename_i he; rw [he]; omega
    · omega
/-- While what was put is taken out again. -/
structure Bck (l : List (List Int)) (k0 k1 k2 : Int) (s : List Stack) (i : Nat) (y : List (List Int)) : Prop where
  goo : GooL y
  q : ∀ k : List Int, k.length = 4 → qtyB y k = qtyB l k + sumS k0 k1 k2 (s.drop i) k
theorem bck_start (hg : GooL l) (h : allE true l k0 k1 k2 s = 0) : AllOk k0 k1 k2 s ∧ Bck l k0 k1 k2 s 0 (allX true l k0 k1 k2 s) := by
  by_cases ha : AllOk k0 k1 k2 s
  · have h1 : runE true k0 k1 k2 l s = 0 := by rw [← all_go ha]; exact h
    have e : allX true l k0 k1 k2 s = runX true k0 k1 k2 l s := (all_done ha h1 rfl).2
    exact ⟨ha, (goo_all hg).1, fun k hk => by rw [e, List.drop_zero]; exact put_qty hg h1 k hk⟩
  · rw [(all_arg ha).1] at h; cases h
theorem asc_tail {m : Int} {s : List Stack} : ∀ {a : Int} (i : Nat), Asc m a s → ∃ b, Asc m b (s.drop i) := by
  induction s with
  | nil => intro a i h; exact ⟨a, by simpa using h⟩
  | cons x s ih =>
    intro a i h
    cases i with
    | zero => exact ⟨a, h⟩
    | succ i => exact ih i h.2.2.2.2
theorem Bck.take (h : Bck l k0 k1 k2 s i y) (hg : GooL l) (ha : AllOk k0 k1 k2 s) (hi : i < s.length) : takE y [k0, k1, k2, gx s i] (gq s i) = 0 ∧ Bck l k0 k1 k2 s (i + 1) (takX y [k0, k1, k2, gx s i] (gq s i)) := by
  obtain ⟨h1, h2, h3, h4⟩ := goods_at ha.2 hi
  obtain ⟨c, hc⟩ := asc_tail (i + 1) ha.2.1
  have hnn := sum_nonneg (k0 := k0) (k1 := k1) (k2 := k2) (k := [k0, k1, k2, gx s i]) hc
  have hi2 : IsB [k0, k1, k2, gx s i] := by
    have := isB_iff.1 ha.1
    rw [isB_iff]; exact ⟨this.1, this.2.1, this.2.2.1, h1, h2⟩
  have hq := h.q [k0, k1, k2, gx s i] rfl
  rw [drop_cons hi] at hq
  simp only [sumS, if_pos] at hq
  have hl := (hg.qty (k := [k0, k1, k2, gx s i]) rfl).1
  have he : (s.getD i (0, 0)).2 = gq s i := rfl
  have e := tak_ok (l := y) (k := [k0, k1, k2, gx s i]) (n := gq s i) (by rintro (h | h); exact h hi2; omega) (by omega)
  refine ⟨e.1, (goo_tak h.goo rfl).1, fun k hk => ?_⟩
  have hk2 := h.q k hk
  rw [drop_cons hi] at hk2
  simp only [sumS] at hk2
  rw [e.2, qty_set h.goo.srt h.goo.wide rfl hk]
  split
  · rename_i he2
    rw [he2] at hk2 ⊢
    rw [if_pos rfl] at hk2; omega
  · rename_i he2
    rw [if_neg he2] at hk2; omega
theorem Bck.done (h : Bck l k0 k1 k2 s s.length y) (hg : GooL l) : y = l := qty_ext h.goo hg fun k hk => by
  rw [h.q k hk, List.drop_length]; simp [sumS]
end
end Go.XG
