/-
  Stacks: in plain Lean, what may be a list of them; and in memory.
-/
import Derived.Test.YtjlhjjjhblcokaaXf
namespace Go.XG

/-! Stacks. -/
abbrev Stack := Int × Int
def Up : Int → List Stack → Prop
  | _, [] => True
  | a, x :: l => a < x.1 ∧ 1 ≤ x.2 ∧ x.2 ≤ 1125899906842624 ∧ Up x.1 l
def Asc (m : Int) : Int → List Stack → Prop
  | _, [] => True
  | a, x :: l => a < x.1 ∧ x.1 ≤ m ∧ 1 ≤ x.2 ∧ x.2 ≤ 1125899906842624 ∧ Asc m x.1 l
instance decAsc (m : Int) : ∀ (a : Int) (l : List Stack), Decidable (Asc m a l)
  | _, [] => .isTrue trivial
  | a, x :: l => by
    have := decAsc m x.1 l
    unfold Asc
    infer_instance
abbrev gx (l : List Stack) (i : Nat) : Int := (l.getD i (0, 0)).1
abbrev gq (l : List Stack) (i : Nat) : Int := (l.getD i (0, 0)).2
theorem drop_cons {l : List Stack} {k : Nat} (h : k < l.length) : l.drop k = l.getD k (0, 0) :: l.drop (k + 1) := by
  rw [List.drop_eq_getElem_cons h]
  simp [h]
theorem asc_drop {m a : Int} {l : List Stack} {k : Nat} (h : k < l.length) : Asc m a (l.drop k) ↔ a < gx l k ∧ gx l k ≤ m ∧ 1 ≤ gq l k ∧ gq l k ≤ 1125899906842624 ∧ Asc m (gx l k) (l.drop (k + 1)) := by
  rw [drop_cons h]; exact Iff.rfl
theorem asc_end {m a : Int} {l : List Stack} {k : Nat} (h : l.length ≤ k) : Asc m a (l.drop k) := by
  rw [List.drop_of_length_le h]; trivial
theorem up_get : ∀ {l : List Stack} {a : Int} {i : Nat}, Up a l → i < l.length → a < gx l i ∧ 1 ≤ gq l i ∧ gq l i ≤ 1125899906842624
  | x :: l, a, 0, h, _ => ⟨h.1, h.2.1, h.2.2.1⟩
  | x :: l, a, i + 1, h, hi => by
    have := up_get (i := i) h.2.2.2 (by simpa using hi)
    have h1 := h.1
    simp only [gx, gq, List.getD_cons_succ] at this ⊢
    exact ⟨by omega, this.2⟩
theorem up_lt : ∀ {l : List Stack} {a : Int} {i j : Nat}, Up a l → i < j → j < l.length → gx l i < gx l j
  | x :: l, a, 0, j + 1, h, _, hj => (up_get (i := j) h.2.2.2 (by simpa using hj)).1
  | x :: l, a, i + 1, j + 1, h, hij, hj => up_lt (i := i) (j := j) h.2.2.2 (by omega) (by simpa using hj)
theorem up_inj {l : List Stack} {a : Int} {i j : Nat} (h : Up a l) (hi : i < l.length) (hj : j < l.length) (e : gx l i = gx l j) : i = j := by
  rcases Nat.lt_trichotomy i j with h1 | h1 | h1
  · have := up_lt h h1 hj; omega
  · exact h1
  · have := up_lt h h1 hi; omega
theorem up_snoc : ∀ {l : List Stack} {a b : Int} {x : Stack}, Up a l → (∀ y ∈ l, y.1 ≤ b) → a ≤ b → b < x.1 → 1 ≤ x.2 → x.2 ≤ 1125899906842624 → Up a (l ++ [x])
  | [], a, b, x, _, _, h, h1, h2, h3 => ⟨by omega, h2, h3, trivial⟩
  | y :: l, a, b, x, h, hb, _, h1, h2, h3 => ⟨h.1, h.2.1, h.2.2.1, up_snoc h.2.2.2 (fun z hz => hb z (by simp [hz])) (hb y (by simp)) h1 h2 h3⟩
theorem asc_up {m : Int} : ∀ {l : List Stack} {a : Int}, Asc m a l ↔ Up a l ∧ (∀ i, i < l.length → gx l i ≤ m)
  | [], a => by simp [Asc, Up]
  | x :: l, a => by
    simp only [Asc, Up, asc_up (l := l)]
    constructor
    · rintro ⟨h1, h2, h3, h4, h5, h6⟩
      refine ⟨⟨h1, h3, h4, h5⟩, fun i hi => ?_⟩
      cases i with
      | zero => exact h2
      | succ i => exact h6 i (by simpa using hi)
    · rintro ⟨⟨h1, h3, h4, h5⟩, h6⟩
      exact ⟨h1, h6 0 (by simp), h3, h4, h5, fun i hi => h6 (i + 1) (by simpa using hi)⟩
/-- Rising: what the last one is at most, all are. -/
theorem asc_last {m : Int} {l : List Stack} (h : Up 0 l) : Asc m 0 l ↔ (0 < l.length → gx l (l.length - 1) ≤ m) := by
  rw [asc_up]
  constructor
  · rintro ⟨_, h⟩ hl; exact h _ (by omega)
  · intro h1
    refine ⟨h, fun i hi => ?_⟩
    have := h1 (by omega)
    by_cases e : i = l.length - 1
    · rw [e]; exact this
    · have := up_lt h (show i < l.length - 1 by omega) (by omega); omega
/-- What the making of normal stacks keeps. -/
def cnt (l : List Stack) (a : Int) : Nat := (l.filter fun x => decide (a < x.1)).length
theorem filter_le_of {p q : Stack → Bool} : ∀ (l : List Stack), (∀ x, q x = true → p x = true) → (l.filter q).length ≤ (l.filter p).length
  | [], _ => by simp
  | x :: l, h => by
    have ih := filter_le_of l h
    simp only [List.filter_cons]
    cases hq : q x
    · cases hp : p x
      · simpa using ih
      · simp; omega
    · simp [h x hq]; exact ih
theorem cnt_lt : ∀ {l : List Stack} {a b : Int} {i : Nat}, i < l.length → a < gx l i → gx l i ≤ b → cnt l b < cnt l a
  | x :: l, a, b, 0, _, h1, h2 => by
    have h1 : a < x.1 := h1
    have h2 : x.1 ≤ b := h2
    have := filter_le_of (p := fun x => decide (a < x.1)) (q := fun x => decide (b < x.1)) l (fun y hy => by simp at hy ⊢; omega)
    unfold cnt
    rw [List.filter_cons, List.filter_cons, if_neg (by simp; omega), if_pos (by simpa using h1)]
    simp; omega
  | x :: l, a, b, i + 1, hi, h1, h2 => by
    have hab : a < b := Int.lt_of_lt_of_le h1 h2
    have ih : cnt l b < cnt l a := cnt_lt (i := i) (by simpa using hi) h1 h2
    unfold cnt at ih ⊢
    simp only [List.filter_cons]
    by_cases hb : b < x.1
    · have ha : a < x.1 := by omega
      simp [hb, ha, ih]
    · by_cases ha : a < x.1
      · simp [hb, ha]; omega
      · simp [hb, ha, ih]
theorem cnt_le (l : List Stack) (a : Int) : cnt l a ≤ l.length := List.length_filter_le _ _
structure NI (l out : List Stack) (last : Int) : Prop where
  up : Up 0 out
  le : ∀ x ∈ out, x.1 ≤ last
  pos : 0 ≤ last
  count : out.length + cnt l last ≤ l.length
  good : Up 0 l → out = l.take out.length ∧ ∀ i, i < l.length → (last < gx l i ↔ out.length ≤ i)
theorem ni_start (l : List Stack) : NI l [] 0 :=
  ⟨trivial, by simp, by omega, by simpa using cnt_le l 0, fun h => ⟨by simp, fun i hi => by have := up_get h hi; simp; exact this.1⟩⟩
/-- The least type above 'last' of the first k. -/
def Least (l : List Stack) (last kind : Int) (k : Nat) : Prop :=
  (kind = 0 ∧ ∀ i, i < k → gx l i ≤ last) ∨ (last < kind ∧ (∃ i, i < k ∧ gx l i = kind) ∧ ∀ i, i < k → last < gx l i → kind ≤ gx l i)
theorem least_skip {l : List Stack} {last kind : Int} {k : Nat} (h : Least l last kind k) (hs : ¬ last < gx l k ∨ (kind ≠ 0 ∧ kind ≤ gx l k)) : Least l last kind (k + 1) := by
  rcases h with ⟨h1, h2⟩ | ⟨h1, ⟨i, h2, h2'⟩, h3⟩
  · refine .inl ⟨h1, fun i hi => ?_⟩
    by_cases e : i = k
    · subst e; rcases hs with hs | ⟨hs, _⟩
      · omega
      · exact absurd h1 hs
    · exact h2 i (by omega)
  · refine .inr ⟨h1, ⟨i, by omega, h2'⟩, fun j hj hl => ?_⟩
    by_cases e : j = k
    · subst e; rcases hs with hs | ⟨_, hs⟩
      · exact absurd hl hs
      · exact hs
    · exact h3 j (by omega) hl
theorem least_take {l : List Stack} {last kind : Int} {k : Nat} (h : Least l last kind k) (h0 : 0 ≤ last) (hs : last < gx l k) (hk : kind = 0 ∨ gx l k < kind) : Least l last (gx l k) (k + 1) := by
  refine .inr ⟨hs, ⟨k, by omega, rfl⟩, fun j hj hl => ?_⟩
  by_cases e : j = k
  · subst e; exact Int.le_refl _
  · rcases h with ⟨h1, h2⟩ | ⟨h1, _, h3⟩
    · have := h2 j (by omega); omega
    · have := h3 j (by omega) hl
      omega
theorem NI.done {l out : List Stack} {last : Int} (h : NI l out last) (hk : Least l last 0 l.length) (hu : Up 0 l) : out = l := by
  have hp := h.pos
  rcases hk with ⟨_, h2⟩ | ⟨h1, _⟩
  · obtain ⟨e, hi⟩ := h.good hu
    by_cases hl : out.length < l.length
    · have := (hi out.length hl).2 (Nat.le_refl _)
      have := h2 out.length hl
      omega
    · rw [e, List.take_of_length_le (by omega)]
  · omega
/-- The sum of what is of that type, among the first k: of a rising list just one is. -/
def Sum (l out : List Stack) (n : Int) (k : Nat) : Prop := 0 ≤ n ∧ n ≤ 1125899906842624 ∧ (Up 0 l → n = if out.length < k then gq l out.length else 0)
theorem NI.kind {l out : List Stack} {last kind : Int} (h : NI l out last) (hk : Least l last kind l.length) (hk0 : kind ≠ 0) (hu : Up 0 l) : out.length < l.length ∧ gx l out.length = kind := by
  rcases hk with ⟨h1, _⟩ | ⟨h1, ⟨i, h2, h2'⟩, h3⟩
  · exact absurd h1 hk0
  · obtain ⟨e, hi⟩ := h.good hu
    have h4 := (hi i h2).1 (by omega)
    have h5 : out.length < l.length := by omega
    have h6 := h3 out.length h5 ((hi _ h5).2 (Nat.le_refl _))
    refine ⟨h5, ?_⟩
    by_cases e : out.length = i
    · rw [e]; exact h2'
    · have := up_lt hu (show out.length < i by omega) h2
      omega
theorem sum_start (l out : List Stack) : Sum l out 0 0 := ⟨by omega, by omega, fun _ => by simp⟩
theorem sum_skip {l out : List Stack} {last kind n : Int} {k : Nat} (h : NI l out last) (hk : Least l last kind l.length) (hk0 : kind ≠ 0) (hs : Sum l out n k) (hne : gx l k ≠ kind) : Sum l out n (k + 1) := by
  obtain ⟨h1, h2, h3⟩ := hs
  refine ⟨h1, h2, fun hu => ?_⟩
  have := h3 hu
  have h5 := h.kind hk hk0 hu
  by_cases e : out.length = k
  · rw [e] at h5; exact absurd h5.2 hne
  · rw [this]
    by_cases e' : out.length < k
    · rw [if_pos e', if_pos (by omega)]
    · rw [if_neg e', if_neg (by omega)]
theorem sum_take {l out : List Stack} {last kind n : Int} {k : Nat} (h : NI l out last) (hk : Least l last kind l.length) (hk0 : kind ≠ 0) (hs : Sum l out n k) (hkl : k < l.length) (he : gx l k = kind) (hq : 0 ≤ gq l k) (hle : gq l k ≤ 1125899906842624 - n) : Sum l out (n + gq l k) (k + 1) := by
  obtain ⟨h1, h2, h3⟩ := hs
  refine ⟨by omega, by omega, fun hu => ?_⟩
  have h4 := h3 hu
  have h5 := h.kind hk hk0 hu
  have e : out.length = k := up_inj hu h5.1 hkl (by rw [h5.2, he])
  rw [if_neg (by omega)] at h4
  rw [if_pos (by omega), e, h4]; omega
theorem sum_over {l out : List Stack} {last kind n : Int} {k : Nat} (h : NI l out last) (hk : Least l last kind l.length) (hk0 : kind ≠ 0) (hs : Sum l out n k) (hkl : k < l.length) (he : gx l k = kind) (hle : 1125899906842624 - n < gq l k) : ¬ Up 0 l := fun hu => by
  have h4 := hs.2.2 hu
  have h5 := h.kind hk hk0 hu
  have e : out.length = k := up_inj hu h5.1 hkl (by rw [h5.2, he])
  rw [if_neg (by omega)] at h4
  have := up_get hu hkl
  omega
theorem Least.above {l : List Stack} {last kind : Int} {k : Nat} (hk : Least l last kind k) (hk0 : kind ≠ 0) : last < kind ∧ ∃ i, i < k ∧ gx l i = kind := by
  rcases hk with ⟨h1, _⟩ | ⟨h1, h2, _⟩
  · exact absurd h1 hk0
  · exact ⟨h1, h2⟩
theorem take_succ {l : List Stack} {n : Nat} (h : n < l.length) : l.take (n + 1) = l.take n ++ [(gx l n, gq l n)] := by
  have e : l.getD n (0, 0) = l[n] := by simp [h]
  simp only [gx, gq, e]
  exact (List.take_append_getElem h).symm
theorem NI.next {l out : List Stack} {last kind n : Int} (h : NI l out last) (hk : Least l last kind l.length) (hk0 : kind ≠ 0) (hs : Sum l out n l.length) (hn : 0 < n) : NI l (out ++ [(kind, n)]) kind := by
  obtain ⟨h1, i, h2, h2'⟩ := hk.above hk0
  have hp := h.pos
  have hc := cnt_lt (l := l) (a := last) (b := kind) h2 (by omega) (by omega)
  have hcc := h.count
  refine ⟨up_snoc h.up h.le hp h1 (by show 1 ≤ n; omega) hs.2.1, ?_, by omega, by simp; omega, fun hu => ?_⟩
  · intro x hx
    rcases List.mem_append.1 hx with hx | hx
    · have := h.le x hx; omega
    · simp at hx; rw [hx]; exact Int.le_refl _
  · obtain ⟨e, hi⟩ := h.good hu
    obtain ⟨h5, h6⟩ := h.kind hk hk0 hu
    have h7 := hs.2.2 hu
    rw [if_pos h5] at h7
    refine ⟨?_, fun j hj => ?_⟩
    · rw [List.length_append, List.length_singleton, take_succ h5, ← e, h6, h7]
    · rw [List.length_append, List.length_singleton, ← h6]
      constructor
      · intro hlt
        rcases Nat.lt_trichotomy j out.length with h8 | h8 | h8
        · have := up_lt hu h8 h5; omega
        · subst h8; omega
        · omega
      · intro hlt; exact up_lt hu (by omega) hj
theorem NI.next0 {l out : List Stack} {last kind n : Int} (h : NI l out last) (hk : Least l last kind l.length) (hk0 : kind ≠ 0) (hs : Sum l out n l.length) (hn : ¬ 0 < n) : NI l out kind := by
  obtain ⟨h1, i, h2, h2'⟩ := hk.above hk0
  have hp := h.pos
  have hc := cnt_lt (l := l) (a := last) (b := kind) h2 (by omega) (by omega)
  have hcc := h.count
  refine ⟨h.up, fun x hx => by have := h.le x hx; omega, by omega, by omega, fun hu => ?_⟩
  obtain ⟨h5, h6⟩ := h.kind hk hk0 hu
  have h7 := hs.2.2 hu
  rw [if_pos h5] at h7
  have := up_get hu h5
  omega
theorem cnt_next {l : List Stack} {last kind : Int} (hk : Least l last kind l.length) (hk0 : kind ≠ 0) : cnt l kind < cnt l last := by
  obtain ⟨h1, i, h2, h2'⟩ := hk.above hk0
  exact cnt_lt h2 (by omega) (by omega)

def Goods (l : List Stack) (m : Int) : Prop := Asc m 0 l ∧ l.length ≤ 8
instance (l : List Stack) (m : Int) : Decidable (Goods l m) := by unfold Goods; infer_instance
def fl (l : List Stack) : List Value := l.flatMap fun x => [.int .i64 x.1, .int .i64 x.2]
theorem fl_len : ∀ (l : List Stack), (fl l).length = l.length * 2
  | [] => rfl
  | x :: l => by
    have := fl_len l
    simp only [fl, List.flatMap_cons, List.length_append, List.length_cons, List.length_nil] at this ⊢
    omega
theorem fl_get : ∀ (l : List Stack) (k : Nat), k < l.length → (fl l)[k * 2]? = some (.int .i64 (gx l k)) ∧ (fl l)[k * 2 + 1]? = some (.int .i64 (gq l k))
  | x :: l, 0, _ => ⟨rfl, rfl⟩
  | x :: l, k + 1, h => by
    have := fl_get l k (by simpa using h)
    show (Value.int .i64 x.1 :: .int .i64 x.2 :: fl l)[(k + 1) * 2]? = _ ∧ (Value.int .i64 x.1 :: .int .i64 x.2 :: fl l)[(k + 1) * 2 + 1]? = _
    rw [show (k + 1) * 2 = k * 2 + 1 + 1 by omega, show k * 2 + 1 + 1 + 1 = (k * 2 + 1) + 1 + 1 by omega]
    simp only [List.getElem?_cons_succ]
    exact this
theorem fl_snoc (l : List Stack) (x : Stack) : fl (l ++ [x]) = fl l ++ [.int .i64 x.1, .int .i64 x.2] := by simp [fl]
def StksAt (H : Heap) (b off : Nat) (l : List Stack) : Prop :=
  ∀ k, k < l.length → cellAt H b (off + k * 2) = some (.int .i64 (gx l k)) ∧ cellAt H b (off + k * 2 + 1) = some (.int .i64 (gq l k))
def Stks (H : Heap) (a : Option Addr) (l : List Stack) : Prop := l.length = 0 ∨ ∃ b off, a = some ⟨b, off, none⟩ ∧ StksAt H b off l
section
variable {H H' : Heap} {a : Option Addr} {l : List Stack} {b off k : Nat}
theorem StksAt.ext (h : StksAt H b off l) (e : Ext H H') : StksAt H' b off l := fun k hk => ⟨cellAt_ext (h k hk).1 e, cellAt_ext (h k hk).2 e⟩
theorem Stks.ext (h : Stks H a l) (e : Ext H H') : Stks H' a l := by
  rcases h with h | ⟨b, off, h1, h2⟩
  · exact .inl h
  · exact .inr ⟨b, off, h1, h2.ext e⟩
theorem Stks.nil {a : Option Addr} : Stks H a [] := .inl rfl
theorem ld_stk (h : StksAt H b off l) (hk : k < l.length) : Ld H b (off + k * 2) true 2 (.agg #[.int .i64 (gx l k), .int .i64 (gq l k)]) :=
  ⟨[.int .i64 (gx l k), .int .i64 (gq l k)], rfl, rfl, fun j v hj => by
    have := h k hk
    match j, hj with
    | 0, hj => cases hj; exact this.1
    | 1, hj => cases hj; exact this.2⟩
theorem stks_row (h : Row H b off (fl l)) : StksAt H b off l := fun k hk => by
  obtain ⟨h1, h2⟩ := fl_get l k hk
  exact ⟨h _ _ h1, by rw [Nat.add_assoc]; exact h _ _ h2⟩
theorem own_stks {base t n c : Nat} (h : Own H base t 2 (.slice a n c) l.length (fl l)) : Stks H a l := by
  by_cases h0 : l.length = 0
  · exact .inl h0
  · obtain ⟨g, c', h1, h2, _⟩ := h.form (by omega)
    cases h1
    exact .inr ⟨_, _, rfl, stks_row h2⟩
end
theorem drop_eq {l m : List Stack} {k : Nat} (hl : k < l.length) (hm : k < m.length) (h : l = m ↔ l.drop k = m.drop k) : l = m ↔ (gx l k = gx m k ∧ gq l k = gq m k) ∧ l.drop (k + 1) = m.drop (k + 1) := by
  rw [h, drop_cons hl, drop_cons hm, List.cons.injEq, Prod.ext_iff]
theorem lasti {n : Nat} (h : 0 < n) : ((n : Int) - 1).toNat = n - 1 := by omega
theorem bv {a b : Bool} (h : a = b) : Value.bool a = .bool b := by rw [h]
end Go.XG
