/-
  Jobs at sides of bays, in plain Lean.
-/
import Derived.Test.YtdpgbnflielagaaXj
namespace Go.XG
def isJ (n : Int) : Prop := 1 ≤ n ∧ n ≤ 1099511627776
instance (n : Int) : Decidable (isJ n) := by unfold isJ; infer_instance
def posI (l : List Int) (x : Int) : Nat := (l.filter fun q => decide (q < x)).length
def insI (l : List Int) (x : Int) : List Int := l.take (posI l x) ++ [x] ++ l.drop (posI l x)
def dlI (l : List Int) (x : Int) : List Int := l.filter fun q => !decide (q = x)
def Asc (l : List Int) : Prop := l.Pairwise (· < ·)
def ixO : List Int → Int → Nat
  | [], _ => 0
  | y :: l, x => if y = x then 0 else ixO l x + 1
def idI (l : List Int) (x : Int) : Int := if x ∈ l then (ixO l x : Nat) else -1
section
variable {l : List Int} {x y q : Int} {i j k : Nat}
theorem nx_all {p : Nat → Prop} (h : ∀ j, j < i → p j) (hi : p i) : ∀ j, j < i + 1 → p j := fun j hj => by
  rcases Nat.lt_or_ge j i with h1 | h1
  · exact h j h1
  · obtain rfl : j = i := by omega
    exact hi
theorem gd_mem (h : i < l.length) : l.getD i 0 ∈ l := by
  have : l.getD i 0 = l[i] := by simp [h]
  rw [this]; exact List.getElem_mem _
theorem mem_gd (h : x ∈ l) : ∃ i, i < l.length ∧ l.getD i 0 = x := by
  obtain ⟨i, hi, rfl⟩ := List.getElem_of_mem h
  exact ⟨i, hi, by simp [hi]⟩
theorem posI_le : posI l x ≤ l.length := List.length_filter_le _ _
theorem posI_at : ∀ {l : List Int} {i : Nat}, i ≤ l.length → (∀ x, x < i → l.getD x 0 < q) → (∀ x, i ≤ x → x < l.length → ¬ l.getD x 0 < q) → posI l q = i
  | [], i, h, _, _ => by simp at h; subst h; rfl
  | y :: l, 0, _, h1, h2 => by
    have h3 : ∀ z ∈ y :: l, ¬ (decide (z < q) = true) := fun z hz => by
      obtain ⟨j, hj, rfl⟩ := mem_gd hz
      have := h2 j (Nat.zero_le _) hj
      simpa using this
    unfold posI
    rw [List.filter_eq_nil_iff.2 h3]; rfl
  | y :: l, i + 1, h, h1, h2 => by
    have hy : y < q := by have := h1 0 (by omega); simpa using this
    have ih := posI_at (l := l) (i := i) (by simpa using h) (fun x hx => by have := h1 (x + 1) (by omega); simpa using this) (fun x hx hl => by have := h2 (x + 1) (by omega) (by simpa using hl); simpa using this)
    unfold posI at ih ⊢
    rw [List.filter_cons_of_pos (by simpa using hy), List.length_cons, ih]
theorem asc_get (h : Asc l) (hij : i < j) (hj : j < l.length) : l.getD i 0 < l.getD j 0 := by
  have := List.pairwise_iff_getElem.1 h i j (by omega) hj hij
  simpa [hj, show i < l.length by omega] using this
theorem asc_nil : Asc [] := List.Pairwise.nil
theorem asc_split : ∀ {l : List Int}, Asc l → (∀ a ∈ l.take (posI l x), a < x) ∧ ∀ a ∈ l.drop (posI l x), x ≤ a
  | [], _ => ⟨fun a h => by simp at h, fun a h => by simp at h⟩
  | y :: l, h => by
    obtain ⟨h1, h2⟩ := List.pairwise_cons.1 h
    obtain ⟨i1, i2⟩ := asc_split (l := l) h2
    by_cases hy : y < x
    · have e : posI (y :: l) x = posI l x + 1 := by unfold posI; rw [List.filter_cons_of_pos (by simpa using hy)]; rfl
      rw [e]
      refine ⟨fun a ha => ?_, fun a ha => i2 a (by simpa using ha)⟩
      rw [List.take_succ_cons] at ha
      rcases List.mem_cons.1 ha with rfl | ha
      · exact hy
      · exact i1 a ha
    · have e : posI (y :: l) x = 0 := by
        unfold posI
        rw [List.filter_eq_nil_iff.2 (fun z hz => ?_)]; rfl
        rcases List.mem_cons.1 hz with rfl | hz
        · simpa using hy
        · have := h1 z hz; simp; omega
      rw [e]
      refine ⟨fun a ha => by simp at ha, fun a ha => ?_⟩
      rcases List.mem_cons.1 (by simpa using ha : a ∈ y :: l) with rfl | ha
      · omega
      · have := h1 a ha; omega
theorem mem_ins : y ∈ insI l x ↔ y = x ∨ y ∈ l := by
  unfold insI
  rw [List.mem_append, List.mem_append, List.mem_singleton]
  conv => rhs; rw [← List.take_append_drop (posI l x) l, List.mem_append]
  constructor
  · rintro ((h | h) | h)
    · exact .inr (.inl h)
    · exact .inl h
    · exact .inr (.inr h)
  · rintro (h | h | h)
    · exact .inl (.inr h)
    · exact .inl (.inl h)
    · exact .inr h
theorem len_ins : (insI l x).length = l.length + 1 := by
  have := posI_le (l := l) (x := x)
  unfold insI; simp; omega
theorem asc_ins (h : Asc l) (hn : x ∉ l) : Asc (insI l x) := by
  obtain ⟨h1, h2⟩ := asc_split (x := x) h
  have hs : Asc (l.take (posI l x) ++ l.drop (posI l x)) := by rw [List.take_append_drop]; exact h
  obtain ⟨g1, g2, g3⟩ := List.pairwise_append.1 hs
  have hd : ∀ a ∈ l.drop (posI l x), x < a := fun a ha => by
    have := h2 a ha
    have h4 : a ≠ x := fun e => hn (e ▸ List.mem_of_mem_drop ha)
    omega
  unfold insI
  rw [List.append_assoc]
  refine List.pairwise_append.2 ⟨g1, ?_, fun a ha b hb => ?_⟩
  · exact List.pairwise_append.2 ⟨List.pairwise_singleton _ _, g2, fun a ha b hb => by rw [List.mem_singleton] at ha; subst ha; exact hd b hb⟩
  · rcases List.mem_append.1 hb with hb | hb
    · rw [List.mem_singleton] at hb; subst hb; exact h1 a ha
    · exact g3 a ha b hb
theorem mem_dl : y ∈ dlI l x ↔ y ∈ l ∧ y ≠ x := by unfold dlI; simp
theorem asc_dl (h : Asc l) : Asc (dlI l x) := h.filter _
theorem dl_len : (dlI l x).length ≤ l.length := List.length_filter_le _ _
theorem dl_not (h : x ∉ l) : dlI l x = l := by
  unfold dlI
  rw [List.filter_eq_self]
  intro a ha
  have : a ≠ x := fun e => h (e ▸ ha)
  simpa using this
theorem dl_len_in : ∀ {l : List Int}, x ∈ l → l.Nodup → (dlI l x).length + 1 = l.length
  | [], h, _ => by simp at h
  | y :: l, h, hn => by
    obtain ⟨h1, h2⟩ := List.nodup_cons.1 hn
    by_cases e : y = x
    · subst e
      have : dlI (y :: l) y = dlI l y := by unfold dlI; rw [List.filter_cons_of_neg (by simp)]
      rw [this, dl_not h1]; rfl
    · have h3 : x ∈ l := (List.mem_cons.1 h).resolve_left (fun h => e h.symm)
      have : dlI (y :: l) x = y :: dlI l x := by unfold dlI; rw [List.filter_cons_of_pos (by simpa using e)]
      rw [this, List.length_cons, List.length_cons, dl_len_in h3 h2]
theorem asc_nodup (h : Asc l) : l.Nodup := h.imp fun h => by omega
theorem idxOf_at : ∀ {l : List Int} {k : Nat}, k < l.length → l.getD k 0 = x → (∀ j, j < k → l.getD j 0 ≠ x) → ixO l x = k
  | [], k, h, _, _ => by simp at h
  | y :: l, 0, _, h, _ => by
    have : y = x := by simpa using h
    show (if y = x then 0 else _) = 0
    rw [if_pos this]
  | y :: l, k + 1, h, h1, h2 => by
    have h3 : y ≠ x := by have := h2 0 (by omega); simpa using this
    have := idxOf_at (l := l) (k := k) (by simpa using h) (by simpa using h1) (fun j hj => by have := h2 (j + 1) (by omega); simpa using this)
    show (if y = x then 0 else ixO l x + 1) = k + 1
    rw [if_neg h3, this]
theorem idI_at (h : k < l.length) (h1 : l.getD k 0 = x) (h2 : ∀ j, j < k → l.getD j 0 ≠ x) : idI l x = (k : Nat) := by
  unfold idI
  rw [if_pos (h1 ▸ gd_mem h), idxOf_at h h1 h2]
theorem lo_next {h : Nat} (hA : Asc l) (_ : ∀ z, z < i → l.getD z 0 < x) (hh : h < l.length) (h0 : l.getD h 0 < x) : ∀ z, z < h + 1 → l.getD z 0 < x := fun z hz => by
  rcases Nat.lt_or_ge z h with h1 | h1
  · have := asc_get hA h1 hh; omega
  · obtain rfl : z = h := by omega
    exact h0
theorem hi_next {h : Nat} (hA : Asc l) (hh : h < l.length) (h0 : ¬ l.getD h 0 < x) : ∀ z, h ≤ z → z < l.length → ¬ l.getD z 0 < x := fun z hz hl => by
  rcases Nat.lt_or_ge h z with h1 | h1
  · have := asc_get hA h1 hl; omega
  · obtain rfl : z = h := by omega
    exact h0
theorem tupb {a b : Int} {c : Bool} (h : a = b) : Value.tuple #[.int .i64 a, .bool c] = .tuple #[.int .i64 b, .bool c] := by rw [h]
theorem not_in (h : ∀ j, j < l.length → l.getD j 0 ≠ x) : x ∉ l := fun hx => by
  obtain ⟨j, hj, e⟩ := mem_gd hx
  exact h j hj e
theorem idI_none (h : x ∉ l) : idI l x = -1 := by unfold idI; rw [if_neg h]
theorem idI_some (h : ¬ idI l x = -1) : ∃ n, n < l.length ∧ idI l x = (n : Nat) ∧ l.getD n 0 = x ∧ ∀ j, j < n → l.getD j 0 ≠ x := by
  have hx : x ∈ l := by
    by_cases h1 : x ∈ l
    · exact h1
    · exact absurd (idI_none h1) h
  have key : ∀ {l : List Int}, x ∈ l → ixO l x < l.length ∧ l.getD (ixO l x) 0 = x ∧ ∀ j, j < ixO l x → l.getD j 0 ≠ x := by
    intro l
    induction l with
    | nil => intro h; simp at h
    | cons y l ih =>
      intro h
      by_cases hy : y = x
      · have e : ixO (y :: l) x = 0 := if_pos hy
        rw [e]; exact ⟨by simp, by simpa using hy, fun j hj => absurd hj (by omega)⟩
      · have e : ixO (y :: l) x = ixO l x + 1 := if_neg hy
        obtain ⟨h1, h2, h3⟩ := ih ((List.mem_cons.1 h).resolve_left (fun h => hy h.symm))
        rw [e]
        refine ⟨by simpa using h1, by simpa using h2, fun j hj => ?_⟩
        cases j with
        | zero => simpa using hy
        | succ j => have := h3 j (by omega); simpa using this
  obtain ⟨h1, h2, h3⟩ := key hx
  exact ⟨ixO l x, h1, by unfold idI; rw [if_pos hx], h2, h3⟩
theorem idI_neg (h : idI l x = -1) : x ∉ l := fun hx => by unfold idI at h; rw [if_pos hx] at h; omega
theorem idI_nn : 0 ≤ idI l x ↔ x ∈ l := by
  unfold idI; split
  · rename_i h; exact ⟨fun _ => h, fun _ => by omega⟩
  · rename_i h; exact ⟨fun h => by omega, fun h2 => absurd h2 h⟩
end
end Go.XG
