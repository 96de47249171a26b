/-
  Stacks and jobs, in plain Lean: what may be one, what comes of it.
-/
import Derived.Test.YtmmogpcmpbkajaaXf
namespace Go.XG

/-! Stacks. -/
abbrev Stack := Int × Int
def Up : Int → List Stack → Prop
  | _, [] => True
  | a, x :: l => a < x.1 ∧ 1 ≤ x.2 ∧ x.2 ≤ 1125899906842624 ∧ Up x.1 l
def Asc (m : Int) : Int → List Stack → Prop
  | _, [] => True
  | a, x :: l => a < x.1 ∧ x.1 ≤ m ∧ 1 ≤ x.2 ∧ x.2 ≤ 1125899906842624 ∧ Asc m x.1 l
instance decAsc (m : Int) : ∀ (a : Int) (l : List Stack), Decidable (Asc m a l)
  | _, [] => .isTrue trivial
  | a, x :: l => by
    have := decAsc m x.1 l
    unfold Asc
    infer_instance
abbrev gx (l : List Stack) (i : Nat) : Int := (l.getD i (0, 0)).1
abbrev gq (l : List Stack) (i : Nat) : Int := (l.getD i (0, 0)).2
theorem drop_cons {l : List Stack} {k : Nat} (h : k < l.length) : l.drop k = l.getD k (0, 0) :: l.drop (k + 1) := by
  rw [List.drop_eq_getElem_cons h]
  simp [h]
theorem asc_drop {m a : Int} {l : List Stack} {k : Nat} (h : k < l.length) : Asc m a (l.drop k) ↔ a < gx l k ∧ gx l k ≤ m ∧ 1 ≤ gq l k ∧ gq l k ≤ 1125899906842624 ∧ Asc m (gx l k) (l.drop (k + 1)) := by
  rw [drop_cons h]; exact Iff.rfl
theorem asc_end {m a : Int} {l : List Stack} {k : Nat} (h : l.length ≤ k) : Asc m a (l.drop k) := by
  rw [List.drop_of_length_le h]; trivial
theorem up_get : ∀ {l : List Stack} {a : Int} {i : Nat}, Up a l → i < l.length → a < gx l i ∧ 1 ≤ gq l i ∧ gq l i ≤ 1125899906842624
  | x :: l, a, 0, h, _ => ⟨h.1, h.2.1, h.2.2.1⟩
  | x :: l, a, i + 1, h, hi => by
    have := up_get (i := i) h.2.2.2 (by simpa using hi)
    have h1 := h.1
    simp only [gx, gq, List.getD_cons_succ] at this ⊢
    exact ⟨by omega, this.2⟩
theorem up_lt : ∀ {l : List Stack} {a : Int} {i j : Nat}, Up a l → i < j → j < l.length → gx l i < gx l j
  | x :: l, a, 0, j + 1, h, _, hj => (up_get (i := j) h.2.2.2 (by simpa using hj)).1
  | x :: l, a, i + 1, j + 1, h, hij, hj => up_lt (i := i) (j := j) h.2.2.2 (by omega) (by simpa using hj)
theorem up_inj {l : List Stack} {a : Int} {i j : Nat} (h : Up a l) (hi : i < l.length) (hj : j < l.length) (e : gx l i = gx l j) : i = j := by
  rcases Nat.lt_trichotomy i j with h1 | h1 | h1
  · have := up_lt h h1 hj; omega
  · exact h1
  · have := up_lt h h1 hi; omega
theorem up_snoc : ∀ {l : List Stack} {a b : Int} {x : Stack}, Up a l → (∀ y ∈ l, y.1 ≤ b) → a ≤ b → b < x.1 → 1 ≤ x.2 → x.2 ≤ 1125899906842624 → Up a (l ++ [x])
  | [], a, b, x, _, _, h, h1, h2, h3 => ⟨by omega, h2, h3, trivial⟩
  | y :: l, a, b, x, h, hb, _, h1, h2, h3 => ⟨h.1, h.2.1, h.2.2.1, up_snoc h.2.2.2 (fun z hz => hb z (by simp [hz])) (hb y (by simp)) h1 h2 h3⟩
theorem asc_up {m : Int} : ∀ {l : List Stack} {a : Int}, Asc m a l ↔ Up a l ∧ (∀ i, i < l.length → gx l i ≤ m)
  | [], a => by simp [Asc, Up]
  | x :: l, a => by
    simp only [Asc, Up, asc_up (l := l)]
    constructor
    · rintro ⟨h1, h2, h3, h4, h5, h6⟩
      refine ⟨⟨h1, h3, h4, h5⟩, fun i hi => ?_⟩
      cases i with
      | zero => exact h2
      | succ i => exact h6 i (by simpa using hi)
    · rintro ⟨⟨h1, h3, h4, h5⟩, h6⟩
      exact ⟨h1, h6 0 (by simp), h3, h4, h5, fun i hi => h6 (i + 1) (by simpa using hi)⟩
/-- Rising: what the last one is at most, all are. -/
theorem asc_last {m : Int} {l : List Stack} (h : Up 0 l) : Asc m 0 l ↔ (0 < l.length → gx l (l.length - 1) ≤ m) := by
  rw [asc_up]
  constructor
  · rintro ⟨_, h⟩ hl; exact h _ (by omega)
  · intro h1
    refine ⟨h, fun i hi => ?_⟩
    have := h1 (by omega)
    by_cases e : i = l.length - 1
    · rw [e]; exact this
    · have := up_lt h (show i < l.length - 1 by omega) (by omega); omega
/-- What the making of normal stacks keeps. -/
def cnt (l : List Stack) (a : Int) : Nat := (l.filter fun x => decide (a < x.1)).length
theorem filter_le_of {p q : Stack → Bool} : ∀ (l : List Stack), (∀ x, q x = true → p x = true) → (l.filter q).length ≤ (l.filter p).length
  | [], _ => by simp
  | x :: l, h => by
    have ih := filter_le_of l h
    simp only [List.filter_cons]
    cases hq : q x
    · cases hp : p x
      · simpa using ih
      · simp; omega
    · simp [h x hq]; exact ih
theorem cnt_lt : ∀ {l : List Stack} {a b : Int} {i : Nat}, i < l.length → a < gx l i → gx l i ≤ b → cnt l b < cnt l a
  | x :: l, a, b, 0, _, h1, h2 => by
    have h1 : a < x.1 := h1
    have h2 : x.1 ≤ b := h2
    have := filter_le_of (p := fun x => decide (a < x.1)) (q := fun x => decide (b < x.1)) l (fun y hy => by simp at hy ⊢; omega)
    unfold cnt
    rw [List.filter_cons, List.filter_cons, if_neg (by simp; omega), if_pos (by simpa using h1)]
    simp; omega
  | x :: l, a, b, i + 1, hi, h1, h2 => by
    have hab : a < b := Int.lt_of_lt_of_le h1 h2
    have ih : cnt l b < cnt l a := cnt_lt (i := i) (by simpa using hi) h1 h2
    unfold cnt at ih ⊢
    simp only [List.filter_cons]
    by_cases hb : b < x.1
    · have ha : a < x.1 := by omega
      simp [hb, ha, ih]
    · by_cases ha : a < x.1
      · simp [hb, ha]; omega
      · simp [hb, ha, ih]
theorem cnt_le (l : List Stack) (a : Int) : cnt l a ≤ l.length := List.length_filter_le _ _
structure NI (l out : List Stack) (last : Int) : Prop where
  up : Up 0 out
  le : ∀ x ∈ out, x.1 ≤ last
  pos : 0 ≤ last
  count : out.length + cnt l last ≤ l.length
  good : Up 0 l → out = l.take out.length ∧ ∀ i, i < l.length → (last < gx l i ↔ out.length ≤ i)
theorem ni_start (l : List Stack) : NI l [] 0 :=
  ⟨trivial, by simp, by omega, by simpa using cnt_le l 0, fun h => ⟨by simp, fun i hi => by have := up_get h hi; simp; exact this.1⟩⟩
/-- The least type above 'last' of the first k. -/
def Least (l : List Stack) (last kind : Int) (k : Nat) : Prop :=
  (kind = 0 ∧ ∀ i, i < k → gx l i ≤ last) ∨ (last < kind ∧ (∃ i, i < k ∧ gx l i = kind) ∧ ∀ i, i < k → last < gx l i → kind ≤ gx l i)
theorem least_skip {l : List Stack} {last kind : Int} {k : Nat} (h : Least l last kind k) (hs : ¬ last < gx l k ∨ (kind ≠ 0 ∧ kind ≤ gx l k)) : Least l last kind (k + 1) := by
  rcases h with ⟨h1, h2⟩ | ⟨h1, ⟨i, h2, h2'⟩, h3⟩
  · refine .inl ⟨h1, fun i hi => ?_⟩
    by_cases e : i = k
    · subst e; rcases hs with hs | ⟨hs, _⟩
      · omega
      · exact absurd h1 hs
    · exact h2 i (by omega)
  · refine .inr ⟨h1, ⟨i, by omega, h2'⟩, fun j hj hl => ?_⟩
    by_cases e : j = k
    · subst e; rcases hs with hs | ⟨_, hs⟩
      · exact absurd hl hs
      · exact hs
    · exact h3 j (by omega) hl
theorem least_take {l : List Stack} {last kind : Int} {k : Nat} (h : Least l last kind k) (h0 : 0 ≤ last) (hs : last < gx l k) (hk : kind = 0 ∨ gx l k < kind) : Least l last (gx l k) (k + 1) := by
  refine .inr ⟨hs, ⟨k, by omega, rfl⟩, fun j hj hl => ?_⟩
  by_cases e : j = k
  · subst e; exact Int.le_refl _
  · rcases h with ⟨h1, h2⟩ | ⟨h1, _, h3⟩
    · have := h2 j (by omega); omega
    · have := h3 j (by omega) hl
      omega
theorem NI.done {l out : List Stack} {last : Int} (h : NI l out last) (hk : Least l last 0 l.length) (hu : Up 0 l) : out = l := by
  have hp := h.pos
  rcases hk with ⟨_, h2⟩ | ⟨h1, _⟩
  · obtain ⟨e, hi⟩ := h.good hu
    by_cases hl : out.length < l.length
    · have := (hi out.length hl).2 (Nat.le_refl _)
      have := h2 out.length hl
      omega
    · rw [e, List.take_of_length_le (by omega)]
  · omega
/-- The sum of what is of that type, among the first k: of a rising list just one is. -/
def Sum (l out : List Stack) (n : Int) (k : Nat) : Prop := 0 ≤ n ∧ n ≤ 1125899906842624 ∧ (Up 0 l → n = if out.length < k then gq l out.length else 0)
theorem NI.kind {l out : List Stack} {last kind : Int} (h : NI l out last) (hk : Least l last kind l.length) (hk0 : kind ≠ 0) (hu : Up 0 l) : out.length < l.length ∧ gx l out.length = kind := by
  rcases hk with ⟨h1, _⟩ | ⟨h1, ⟨i, h2, h2'⟩, h3⟩
  · exact absurd h1 hk0
  · obtain ⟨e, hi⟩ := h.good hu
    have h4 := (hi i h2).1 (by omega)
    have h5 : out.length < l.length := by omega
    have h6 := h3 out.length h5 ((hi _ h5).2 (Nat.le_refl _))
    refine ⟨h5, ?_⟩
    by_cases e : out.length = i
    · rw [e]; exact h2'
    · have := up_lt hu (show out.length < i by omega) h2
      omega
theorem sum_start (l out : List Stack) : Sum l out 0 0 := ⟨by omega, by omega, fun _ => by simp⟩
theorem sum_skip {l out : List Stack} {last kind n : Int} {k : Nat} (h : NI l out last) (hk : Least l last kind l.length) (hk0 : kind ≠ 0) (hs : Sum l out n k) (hne : gx l k ≠ kind) : Sum l out n (k + 1) := by
  obtain ⟨h1, h2, h3⟩ := hs
  refine ⟨h1, h2, fun hu => ?_⟩
  have := h3 hu
  have h5 := h.kind hk hk0 hu
  by_cases e : out.length = k
  · rw [e] at h5; exact absurd h5.2 hne
  · rw [this]
    by_cases e' : out.length < k
    · rw [if_pos e', if_pos (by omega)]
    · rw [if_neg e', if_neg (by omega)]
theorem sum_take {l out : List Stack} {last kind n : Int} {k : Nat} (h : NI l out last) (hk : Least l last kind l.length) (hk0 : kind ≠ 0) (hs : Sum l out n k) (hkl : k < l.length) (he : gx l k = kind) (hq : 0 ≤ gq l k) (hle : gq l k ≤ 1125899906842624 - n) : Sum l out (n + gq l k) (k + 1) := by
  obtain ⟨h1, h2, h3⟩ := hs
  refine ⟨by omega, by omega, fun hu => ?_⟩
  have h4 := h3 hu
  have h5 := h.kind hk hk0 hu
  have e : out.length = k := up_inj hu h5.1 hkl (by rw [h5.2, he])
  rw [if_neg (by omega)] at h4
  rw [if_pos (by omega), e, h4]; omega
theorem sum_over {l out : List Stack} {last kind n : Int} {k : Nat} (h : NI l out last) (hk : Least l last kind l.length) (hk0 : kind ≠ 0) (hs : Sum l out n k) (hkl : k < l.length) (he : gx l k = kind) (hle : 1125899906842624 - n < gq l k) : ¬ Up 0 l := fun hu => by
  have h4 := hs.2.2 hu
  have h5 := h.kind hk hk0 hu
  have e : out.length = k := up_inj hu h5.1 hkl (by rw [h5.2, he])
  rw [if_neg (by omega)] at h4
  have := up_get hu hkl
  omega
theorem Least.above {l : List Stack} {last kind : Int} {k : Nat} (hk : Least l last kind k) (hk0 : kind ≠ 0) : last < kind ∧ ∃ i, i < k ∧ gx l i = kind := by
  rcases hk with ⟨h1, _⟩ | ⟨h1, h2, _⟩
  · exact absurd h1 hk0
  · exact ⟨h1, h2⟩
theorem take_succ {l : List Stack} {n : Nat} (h : n < l.length) : l.take (n + 1) = l.take n ++ [(gx l n, gq l n)] := by
  have e : l.getD n (0, 0) = l[n] := by simp [h]
  simp only [gx, gq, e]
  exact (List.take_append_getElem h).symm
theorem NI.next {l out : List Stack} {last kind n : Int} (h : NI l out last) (hk : Least l last kind l.length) (hk0 : kind ≠ 0) (hs : Sum l out n l.length) (hn : 0 < n) : NI l (out ++ [(kind, n)]) kind := by
  obtain ⟨h1, i, h2, h2'⟩ := hk.above hk0
  have hp := h.pos
  have hc := cnt_lt (l := l) (a := last) (b := kind) h2 (by omega) (by omega)
  have hcc := h.count
  refine ⟨up_snoc h.up h.le hp h1 (by show 1 ≤ n; omega) hs.2.1, ?_, by omega, by simp; omega, fun hu => ?_⟩
  · intro x hx
    rcases List.mem_append.1 hx with hx | hx
    · have := h.le x hx; omega
    · simp at hx; rw [hx]; exact Int.le_refl _
  · obtain ⟨e, hi⟩ := h.good hu
    obtain ⟨h5, h6⟩ := h.kind hk hk0 hu
    have h7 := hs.2.2 hu
    rw [if_pos h5] at h7
    refine ⟨?_, fun j hj => ?_⟩
    · rw [List.length_append, List.length_singleton, take_succ h5, ← e, h6, h7]
    · rw [List.length_append, List.length_singleton, ← h6]
      constructor
      · intro hlt
        rcases Nat.lt_trichotomy j out.length with h8 | h8 | h8
        · have := up_lt hu h8 h5; omega
        · subst h8; omega
        · omega
      · intro hlt; exact up_lt hu (by omega) hj
theorem NI.next0 {l out : List Stack} {last kind n : Int} (h : NI l out last) (hk : Least l last kind l.length) (hk0 : kind ≠ 0) (hs : Sum l out n l.length) (hn : ¬ 0 < n) : NI l out kind := by
  obtain ⟨h1, i, h2, h2'⟩ := hk.above hk0
  have hp := h.pos
  have hc := cnt_lt (l := l) (a := last) (b := kind) h2 (by omega) (by omega)
  have hcc := h.count
  refine ⟨h.up, fun x hx => by have := h.le x hx; omega, by omega, by omega, fun hu => ?_⟩
  obtain ⟨h5, h6⟩ := h.kind hk hk0 hu
  have h7 := hs.2.2 hu
  rw [if_pos h5] at h7
  have := up_get hu h5
  omega
theorem cnt_next {l : List Stack} {last kind : Int} (hk : Least l last kind l.length) (hk0 : kind ≠ 0) : cnt l kind < cnt l last := by
  obtain ⟨h1, i, h2, h2'⟩ := hk.above hk0
  exact cnt_lt h2 (by omega) (by omega)

/-! Jobs. -/
structure J where
  id : Int
  kind : Int
  owner : Int
  div : Int
  man : Int
  bay : Int
  draft : Int
  runs : Int
  copies : Int
  time : Int
  fee : Int
  needs : List Stack
  st : Int
  beg : Int
  fin : Int
  left : Int
  deriving DecidableEq
def J0 : J := ⟨0, 0, 0, 0, 0, 0, 0, 0, 0, 0, 0, [], 0, 0, 0, 0⟩
abbrev jcs (j : J) (a : Option Addr) (c : Nat) : List Value :=
  [.int .i64 j.id, .int .i64 j.kind, .int .i64 j.owner, .int .i64 j.div, .int .i64 j.man, .int .i64 j.bay, .int .i64 j.draft, .int .i64 j.runs, .int .i64 j.copies, .int .i64 j.time, .int .i64 j.fee,
   .slice a j.needs.length c, .int .i64 j.st, .int .i64 j.beg, .int .i64 j.fin, .int .i64 j.left]
abbrev jv (j : J) (a : Option Addr) (c : Nat) : Value := .agg (jcs j a c).toArray
def Stands (j : J) : Prop :=
  (j.st = 1 ∨ j.st = 3) ∧ j.beg = 0 ∧ j.fin = 0 ∧ 1 ≤ j.left ∧ j.left ≤ j.time ∨
  j.st = 2 ∧ 0 ≤ j.beg ∧ j.beg ≤ 1099511627776 ∧ 1 ≤ j.left ∧ j.left ≤ j.time ∧ j.fin = j.beg + j.left ∨
  (j.st = 4 ∨ j.st = 5) ∧ 0 ≤ j.beg ∧ j.beg ≤ 1099511627776 ∧ j.beg < j.fin ∧ j.fin ≤ 2199023255552 ∧ j.left = 0 ∨
  j.st = 6 ∧ j.beg = 0 ∧ j.fin = 0 ∧ j.left = 0
instance (j : J) : Decidable (Stands j) := by unfold Stands; infer_instance
def Six (j : J) : Prop := (1 ≤ j.id ∧ j.id ≤ 1099511627776) ∧ (1 ≤ j.owner ∧ j.owner ≤ 1099511627776) ∧ (1 ≤ j.man ∧ j.man ≤ 1099511627776) ∧ (1 ≤ j.bay ∧ j.bay ≤ 1099511627776) ∧ (1 ≤ j.draft ∧ j.draft ≤ 1099511627776) ∧ (1 ≤ j.time ∧ j.time ≤ 1099511627776)
instance (j : J) : Decidable (Six j) := by unfold Six; infer_instance
def Nums (j : J) : Prop := (1 ≤ j.kind ∧ j.kind ≤ 4) ∧ (0 ≤ j.div ∧ j.div ≤ 4) ∧ (1 ≤ j.runs ∧ j.runs ≤ 1000) ∧ (0 ≤ j.fee ∧ j.fee ≤ 1152921504606846976)
instance (j : J) : Decidable (Nums j) := by unfold Nums; infer_instance
def Cops (j : J) : Prop := j.kind = 4 ∧ 1 ≤ j.copies ∧ j.copies ≤ 10 ∨ j.kind ≠ 4 ∧ j.copies = 0
instance (j : J) : Decidable (Cops j) := by unfold Cops; infer_instance
def Goods (l : List Stack) (m : Int) : Prop := Asc m 0 l ∧ l.length ≤ 8
instance (l : List Stack) (m : Int) : Decidable (Goods l m) := by unfold Goods; infer_instance
def Nds (j : J) : Prop := Goods j.needs 32 ∧ (j.kind = 1 ∨ j.needs.length = 0)
instance (j : J) : Decidable (Nds j) := by unfold Nds; infer_instance
def Good (j : J) : Prop := Six j ∧ Nums j ∧ Cops j ∧ Nds j ∧ Stands j
instance (j : J) : Decidable (Good j) := by unfold Good; infer_instance
/-- What is done, if it may be. -/
def actB (j : J) (what now : Int) : Bool × J :=
  if what = 1 then (decide (j.st = 1), { j with st := 2, beg := now, fin := now + j.left })
  else if what = 2 then (decide (j.st = 2 ∧ j.beg ≤ now ∧ now < j.fin), { j with st := 3, left := j.fin - now, beg := 0, fin := 0 })
  else if what = 3 then (decide (j.st = 3), { j with st := 1 })
  else if what = 4 then (decide (j.st = 2 ∧ j.fin ≤ now), { j with st := 4, left := 0 })
  else if what = 5 then (decide (j.st = 4), { j with st := 5 })
  else (decide (1 ≤ j.st ∧ j.st ≤ 3), { j with st := 6, beg := 0, fin := 0, left := 0 })
def timed (what : Int) : Bool := decide (what = 1 ∨ what = 2 ∨ what = 4)
/-- What comes of a change: an error, and the job. -/
def chg (j : J) (now : Int) (q : Bool × J) : Int × J :=
  if ¬ Good j ∨ ¬ (0 ≤ now ∧ now ≤ 1099511627776) then (1, J0) else if q.1 = true then (0, q.2) else (9, J0)
def doJ (j : J) (what now : Int) : Int × J := chg j (if timed what = true then now else 0) (actB j what now)
theorem act1 (j : J) (now : Int) : actB j 1 now = (decide (j.st = 1), { j with st := 2, beg := now, fin := now + j.left }) := rfl
theorem act2 (j : J) (now : Int) : actB j 2 now = (decide (j.st = 2 ∧ j.beg ≤ now ∧ now < j.fin), { j with st := 3, left := j.fin - now, beg := 0, fin := 0 }) := rfl
theorem act3 (j : J) (now : Int) : actB j 3 now = (decide (j.st = 3), { j with st := 1 }) := rfl
theorem act4 (j : J) (now : Int) : actB j 4 now = (decide (j.st = 2 ∧ j.fin ≤ now), { j with st := 4, left := 0 }) := rfl
theorem act5 (j : J) (now : Int) : actB j 5 now = (decide (j.st = 4), { j with st := 5 }) := rfl
theorem act6 (j : J) (what now : Int) (h1 : what ≠ 1) (h2 : what ≠ 2) (h3 : what ≠ 3) (h4 : what ≠ 4) (h5 : what ≠ 5) : actB j what now = (decide (1 ≤ j.st ∧ j.st ≤ 3), { j with st := 6, beg := 0, fin := 0, left := 0 }) := by
  simp [actB, h1, h2, h3, h4, h5]
theorem chg_bad {j : J} {now : Int} {q : Bool × J} (h : ¬ Good j ∨ ¬ (0 ≤ now ∧ now ≤ 1099511627776)) : chg j now q = (1, J0) := if_pos h
theorem chg_ok {j : J} {now : Int} {q : Bool × J} (h : Good j) (h' : 0 ≤ now ∧ now ≤ 1099511627776) (hq : q.1 = true) : chg j now q = (0, q.2) := by
  unfold chg; rw [if_neg (by rintro (h1 | h1); exact h1 h; exact h1 h'), if_pos hq]
theorem chg_no {j : J} {now : Int} {q : Bool × J} (h : Good j) (h' : 0 ≤ now ∧ now ≤ 1099511627776) (hq : q.1 = false) : chg j now q = (9, J0) := by
  unfold chg; rw [if_neg (by rintro (h1 | h1); exact h1 h; exact h1 h'), if_neg (by simp [hq])]
theorem do1 (j : J) (now : Int) : doJ j 1 now = chg j now (actB j 1 now) := rfl
theorem do2 (j : J) (now : Int) : doJ j 2 now = chg j now (actB j 2 now) := rfl
theorem do3 (j : J) (now : Int) : doJ j 3 now = chg j 0 (actB j 3 0) := rfl
theorem do4 (j : J) (now : Int) : doJ j 4 now = chg j now (actB j 4 now) := rfl
theorem do5 (j : J) (now : Int) : doJ j 5 now = chg j 0 (actB j 5 0) := rfl
theorem act6' {j : J} {what now : Int} (h1 : what ≠ 1) (h2 : what ≠ 2) (h3 : what ≠ 3) (h4 : what ≠ 4) (h5 : what ≠ 5) : actB j what now = actB j 6 0 := (act6 j what now h1 h2 h3 h4 h5).trans rfl
theorem do6 {j : J} {what : Int} (now : Int) (h1 : what ≠ 1) (h2 : what ≠ 2) (h3 : what ≠ 3) (h4 : what ≠ 4) (h5 : what ≠ 5) : doJ j what now = chg j 0 (actB j 6 0) := by
  unfold doJ; rw [act6' h1 h2 h3 h4 h5, if_neg (by simp [timed, h1, h2, h4])]
theorem do_bad {j : J} {what now : Int} (h : ¬ Good j ∨ (what = 1 ∨ what = 2 ∨ what = 4) ∧ ¬ (0 ≤ now ∧ now ≤ 1099511627776)) : doJ j what now = (1, J0) := by
  unfold doJ
  rcases h with h | ⟨h, h'⟩
  · exact chg_bad (.inl h)
  · rw [if_pos (by simpa [timed] using h)]; exact chg_bad (.inr h')
theorem do_act {j : J} {what now : Int} (hg : Good j) (h : what = 1 ∨ what = 2 ∨ what = 4 → 0 ≤ now ∧ now ≤ 1099511627776) : doJ j what now = if (actB j what now).1 = true then (0, (actB j what now).2) else (9, J0) := by
  unfold doJ chg
  rw [if_neg]
  rintro (h1 | h1)
  · exact h1 hg
  · split at h1
    · rename_i ht; exact h1 (h (by simpa [timed] using ht))
    · exact h1 (by omega)
theorem do_ok {j : J} {what now : Int} (hg : Good j) (h : what = 1 ∨ what = 2 ∨ what = 4 → 0 ≤ now ∧ now ≤ 1099511627776) (hq : (actB j what now).1 = true) : doJ j what now = (0, (actB j what now).2) := by
  rw [do_act hg h, if_pos hq]
theorem do_no {j : J} {what now : Int} (hg : Good j) (h : what = 1 ∨ what = 2 ∨ what = 4 → 0 ≤ now ∧ now ≤ 1099511627776) (hq : (actB j what now).1 = false) : doJ j what now = (9, J0) := by
  rw [do_act hg h, if_neg (by rw [hq]; decide)]
theorem act_needs (j : J) (what now : Int) : (actB j what now).2.needs = j.needs := by
  unfold actB
  repeat' split
  all_goals rfl
theorem j_ext {j m : J} (h0 : j.id = m.id) (h1 : j.kind = m.kind) (h2 : j.owner = m.owner) (h3 : j.div = m.div) (h4 : j.man = m.man) (h5 : j.bay = m.bay) (h6 : j.draft = m.draft) (h7 : j.runs = m.runs) (h8 : j.copies = m.copies)
    (h9 : j.time = m.time) (h10 : j.fee = m.fee) (h11 : j.needs = m.needs) (h12 : j.st = m.st) (h13 : j.beg = m.beg) (h14 : j.fin = m.fin) (h15 : j.left = m.left) : j = m := by
  cases j; cases m; simp only at *; simp_all
/-- What a step is that was let. -/
def Step (j x : J) (now : Int) : Prop :=
  j.st = 1 ∧ x.st = 2 ∧ x.beg = now ∧ x.left = j.left ∨ j.st = 2 ∧ x.st = 3 ∧ x.left = j.fin - now ∧ j.beg ≤ now ∧ now < j.fin ∨ j.st = 3 ∧ x.st = 1 ∧ x.left = j.left ∨
  j.st = 2 ∧ x.st = 4 ∧ j.fin ≤ now ∨ j.st = 4 ∧ x.st = 5 ∨ 1 ≤ j.st ∧ j.st ≤ 3 ∧ x.st = 6
theorem act_good {j : J} {what now : Int} (hg : Good j) (hn : what = 1 ∨ what = 2 ∨ what = 4 → 0 ≤ now ∧ now ≤ 1099511627776) (h : (actB j what now).1 = true) :
    Good (actB j what now).2 ∧ (actB j what now).2.time = j.time ∧ Step j (actB j what now).2 now := by
  obtain ⟨h1, h2, h3, h4, h5⟩ := hg
  have h6 : 1 ≤ j.time ∧ j.time ≤ 1099511627776 := h1.2.2.2.2.2
  unfold Stands at h5
  by_cases e1 : what = 1
  · subst e1; have hn := hn (by omega); have h : j.st = 1 := by simpa [act1] using h
    refine ⟨⟨h1, h2, h3, h4, ?_⟩, rfl, .inl ⟨h, rfl, rfl, rfl⟩⟩
    have h5 : j.beg = 0 ∧ j.fin = 0 ∧ 1 ≤ j.left ∧ j.left ≤ j.time := by omega
    exact .inr (.inl ⟨rfl, hn.1, hn.2, h5.2.2.1, h5.2.2.2, rfl⟩)
  by_cases e2 : what = 2
  · subst e2; have hn := hn (by omega); have h : j.st = 2 ∧ j.beg ≤ now ∧ now < j.fin := by simpa [act2] using h
    refine ⟨⟨h1, h2, h3, h4, ?_⟩, rfl, .inr (.inl ⟨h.1, rfl, rfl, h.2.1, h.2.2⟩)⟩
    have h5 : 0 ≤ j.beg ∧ j.beg ≤ 1099511627776 ∧ 1 ≤ j.left ∧ j.left ≤ j.time ∧ j.fin = j.beg + j.left := by omega
    exact .inl ⟨.inr rfl, rfl, rfl, by show 1 ≤ j.fin - now; omega, by show j.fin - now ≤ j.time; omega⟩
  by_cases e3 : what = 3
  · subst e3; have h : j.st = 3 := by simpa [act3] using h
    refine ⟨⟨h1, h2, h3, h4, ?_⟩, rfl, .inr (.inr (.inl ⟨h, rfl, rfl⟩))⟩
    have h5 : j.beg = 0 ∧ j.fin = 0 ∧ 1 ≤ j.left ∧ j.left ≤ j.time := by omega
    exact .inl ⟨.inl rfl, h5.1, h5.2.1, h5.2.2.1, h5.2.2.2⟩
  by_cases e4 : what = 4
  · subst e4; have hn := hn (by omega); have h : j.st = 2 ∧ j.fin ≤ now := by simpa [act4] using h
    refine ⟨⟨h1, h2, h3, h4, ?_⟩, rfl, .inr (.inr (.inr (.inl ⟨h.1, rfl, h.2⟩)))⟩
    have h5 : 0 ≤ j.beg ∧ j.beg ≤ 1099511627776 ∧ 1 ≤ j.left ∧ j.left ≤ j.time ∧ j.fin = j.beg + j.left := by omega
    exact .inr (.inr (.inl ⟨.inl rfl, h5.1, h5.2.1, by show j.beg < j.fin; omega, by show j.fin ≤ _; omega, rfl⟩))
  by_cases e5 : what = 5
  · subst e5; have h : j.st = 4 := by simpa [act5] using h
    refine ⟨⟨h1, h2, h3, h4, ?_⟩, rfl, .inr (.inr (.inr (.inr (.inl ⟨h, rfl⟩))))⟩
    have h5 : 0 ≤ j.beg ∧ j.beg ≤ 1099511627776 ∧ j.beg < j.fin ∧ j.fin ≤ 2199023255552 ∧ j.left = 0 := by omega
    exact .inr (.inr (.inl ⟨.inr rfl, h5.1, h5.2.1, h5.2.2.1, h5.2.2.2.1, h5.2.2.2.2⟩))
  · have ha := act6 j what now e1 e2 e3 e4 e5
    rw [ha] at h ⊢
    have h : 1 ≤ j.st ∧ j.st ≤ 3 := by simpa using h
    refine ⟨⟨h1, h2, h3, h4, ?_⟩, rfl, .inr (.inr (.inr (.inr (.inr ⟨h.1, h.2, rfl⟩))))⟩
    exact .inr (.inr (.inr ⟨rfl, rfl, rfl, rfl⟩))
theorem do_cases {j : J} {what now : Int} (hg : Good j) (hn : 0 ≤ now ∧ now ≤ 1099511627776) :
    doJ j what now = (9, J0) ∨ ∃ x, doJ j what now = (0, x) ∧ Good x ∧ x.time = j.time ∧ x.needs = j.needs ∧ Step j x now := by
  by_cases h : (actB j what now).1 = true
  · obtain ⟨h1, h2, h3⟩ := act_good hg (fun _ => hn) h
    exact .inr ⟨_, do_ok hg (fun _ => hn) h, h1, h2, act_needs _ _ _, h3⟩
  · exact .inl (do_no hg (fun _ => hn) (by simpa using h))
structure Inv (j : J) (ran T : Int) : Prop where
  good : Good j
  needs : j.needs.length = 0
  time : j.time = T
  ran0 : 0 ≤ ran
  ranT : ran ≤ T
  left : 1 ≤ j.st ∧ j.st ≤ 3 → ran + j.left = T
theorem inv0 (time : Int) : Inv ⟨1, 1, 2, 0, 2, 1, 3, 4, 0, 1 + time % 65536, 0, [], 1, 0, 0, 1 + time % 65536⟩ 0 (1 + time % 65536) := by
  have h1 := Int.emod_nonneg time (show (65536 : Int) ≠ 0 by decide)
  have h2 := Int.emod_lt_of_pos time (show (0 : Int) < 65536 by decide)
  have r : ∀ n : Int, 1 ≤ n → n ≤ 1000 → 1 ≤ n ∧ n ≤ 1099511627776 := fun n _ _ => by omega
  have six : Six ⟨1, 1, 2, 0, 2, 1, 3, 4, 0, 1 + time % 65536, 0, [], 1, 0, 0, 1 + time % 65536⟩ :=
    ⟨r 1 (by decide) (by decide), r 2 (by decide) (by decide), r 2 (by decide) (by decide), r 1 (by decide) (by decide), r 3 (by decide) (by decide), by show 1 ≤ 1 + time % 65536; omega, by show 1 + time % 65536 ≤ _; omega⟩
  have nums : Nums ⟨1, 1, 2, 0, 2, 1, 3, 4, 0, 1 + time % 65536, 0, [], 1, 0, 0, 1 + time % 65536⟩ :=
    ⟨show (1 : Int) ≤ 1 ∧ (1 : Int) ≤ 4 by decide, show (0 : Int) ≤ 0 ∧ (0 : Int) ≤ 4 by decide, show (1 : Int) ≤ 4 ∧ (4 : Int) ≤ 1000 by decide, show (0 : Int) ≤ 0 ∧ (0 : Int) ≤ 1152921504606846976 by decide⟩
  refine ⟨⟨six, nums, .inr ⟨show (1 : Int) ≠ 4 by decide, rfl⟩, ⟨⟨trivial, Nat.zero_le _⟩, .inl rfl⟩, .inl ⟨.inl rfl, rfl, rfl, by show 1 ≤ 1 + time % 65536; omega, Int.le_refl _⟩⟩, rfl, rfl, by omega, by omega, fun _ => Int.zero_add _⟩
end Go.XG
