/-
  Sorted tables, in plain Lean: rows of numbers, of which the first four are the key.
-/
import Derived.Test.YtjlhjjjhblcokaaR
namespace Go.XG
/-- -1, 0 or 1, as keys are below, the same, above. -/
def kcmp : List Int → List Int → Int
  | x :: a, y :: b => if x < y then -1 else if y < x then 1 else kcmp a b
  | _, _ => 0
theorem kcmp_self : ∀ a : List Int, kcmp a a = 0
  | [] => rfl
  | x :: a => by unfold kcmp; rw [if_neg (by omega), if_neg (by omega)]; exact kcmp_self a
theorem kcmp_anti : ∀ a b : List Int, kcmp b a = -kcmp a b
  | [], [] => rfl
  | [], _ :: _ => rfl
  | _ :: _, [] => rfl
  | x :: a, y :: b => by
    have ih := kcmp_anti a b
    unfold kcmp
    by_cases h1 : x < y
    · rw [if_neg (by omega), if_pos h1, if_pos h1]; rfl
    · by_cases h2 : y < x
      · rw [if_pos h2, if_neg h1, if_pos h2]
      · rw [if_neg h2, if_neg h1, if_neg h1, if_neg h2]; exact ih
theorem kcmp_range : ∀ a b : List Int, -1 ≤ kcmp a b ∧ kcmp a b ≤ 1
  | [], [] => by decide
  | [], _ :: _ => by unfold kcmp; omega
  | _ :: _, [] => by unfold kcmp; omega
  | x :: a, y :: b => by
    have ih := kcmp_range a b
    unfold kcmp
    split
    · omega
    · split
      · omega
      · exact ih
theorem kcmp_eq : ∀ {a b : List Int}, a.length = b.length → (kcmp a b = 0 ↔ a = b)
  | [], [], _ => by simp [kcmp]
  | [], _ :: _, h => by simp at h
  | _ :: _, [], h => by simp at h
  | x :: a, y :: b, h => by
    have ih := kcmp_eq (a := a) (b := b) (by simpa using h)
    unfold kcmp
    by_cases h1 : x < y
    · rw [if_pos h1]; simp only [List.cons.injEq]; constructor
      · intro h; omega
      · intro h; omega
    · by_cases h2 : y < x
      · rw [if_neg h1, if_pos h2]; simp only [List.cons.injEq]; constructor
        · intro h; omega
        · intro h; omega
      · rw [if_neg h1, if_neg h2, ih]; simp only [List.cons.injEq]
        exact ⟨fun h => ⟨by omega, h⟩, fun h => h.2⟩
theorem kcmp_trans : ∀ {a b c : List Int}, a.length = b.length → b.length = c.length → kcmp a b ≤ 0 → kcmp b c ≤ 0 → kcmp a c ≤ 0 ∧ (kcmp a b < 0 ∨ kcmp b c < 0 → kcmp a c < 0)
  | [], [], [], _, _, _, _ => by simp [kcmp]
  | [], _ :: _, _, h, _, _, _ => by simp at h
  | _ :: _, [], _, h, _, _, _ => by simp at h
  | _, [], _ :: _, _, h, _, _ => by simp at h
  | _, _ :: _, [], _, h, _, _ => by simp at h
  | x :: a, y :: b, z :: c, h1, h2, h3, h4 => by
    have ih := kcmp_trans (a := a) (b := b) (c := c) (by simpa using h1) (by simpa using h2)
    unfold kcmp at h3 h4 ⊢
    by_cases e1 : x < y
    · by_cases e2 : y < z
      · rw [if_pos (show x < z by omega)]; omega
      · by_cases e3 : z < y
        · rw [if_neg e2, if_pos e3] at h4; omega
        · rw [if_pos (show x < z by omega)]; omega
    · by_cases e1' : y < x
      · rw [if_neg e1, if_pos e1'] at h3; omega
      · rw [if_neg e1, if_neg e1'] at h3 ⊢
        by_cases e2 : y < z
        · rw [if_pos (show x < z by omega)]; omega
        · by_cases e3 : z < y
          · rw [if_neg e2, if_pos e3] at h4; omega
          · rw [if_neg e2, if_neg e3] at h4 ⊢
            rw [if_neg (show ¬ x < z by omega), if_neg (show ¬ z < x by omega)]
            exact ih h3 h4
/-- The key of a row. -/
abbrev ky (r : List Int) : List Int := r.take 4
/-- Keys rise. -/
def Srt (l : List (List Int)) : Prop := l.Pairwise fun a b => kcmp (ky a) (ky b) < 0
/-- How many keys are below one. -/
def bel (l : List (List Int)) (k : List Int) : Nat := (l.filter fun r => decide (kcmp (ky r) k < 0)).length
def hasK (l : List (List Int)) (k : List Int) : Bool := l.any fun r => decide (ky r = k)
theorem bel_le (l : List (List Int)) (k : List Int) : bel l k ≤ l.length := List.length_filter_le _ _
section
variable {l : List (List Int)} {k : List Int} {m i j : Nat}
theorem ky_len {r : List Int} (h : r.length = m) (hm : 4 ≤ m) : (ky r).length = 4 := by simp; omega
theorem Srt.get (h : Srt l) (hij : i < j) (hj : j < l.length) : kcmp (ky (gr l i)) (ky (gr l j)) < 0 := by
  rw [gr_eq (by omega), gr_eq hj]
  exact List.pairwise_iff_getElem.1 h i j (by omega) hj hij
theorem srt_nil : Srt [] := List.Pairwise.nil
theorem Srt.cons {r : List Int} (h : Srt (r :: l)) : (∀ x ∈ l, kcmp (ky r) (ky x) < 0) ∧ Srt l := List.pairwise_cons.1 h
/-- In a sorted row the keys below one stand ahead. -/
theorem bel_iff {k : List Int} : ∀ {l : List (List Int)}, Srt l → Wide m l → 4 ≤ m → k.length = 4 → ∀ i, i < l.length → (kcmp (ky (gr l i)) k < 0 ↔ i < bel l k)
  | [], _, _, _, _, i, hi => by simp at hi
  | r :: l, hs, hw, hm, hk, i, hi => by
    obtain ⟨h1, h2⟩ := hs.cons
    have hw' : Wide m l := fun x hx => hw x (by simp [hx])
    have hr : (ky r).length = 4 := ky_len (hw r (by simp)) hm
    have ih := bel_iff (k := k) h2 hw' hm hk
    by_cases hc : kcmp (ky r) k < 0
    · have e : bel (r :: l) k = bel l k + 1 := by simp [bel, List.filter_cons, hc]
      rw [e]
      cases i with
      | zero => simp [gr, hc]
      | succ i =>
        have := ih i (by simpa using hi)
        have e2 : gr (r :: l) (i + 1) = gr l i := by simp [gr]
        rw [e2, this]; omega
    · have e : bel (r :: l) k = 0 := by
        unfold bel
        rw [List.length_eq_zero_iff, List.filter_eq_nil_iff]
        intro x hx
        simp only [decide_eq_true_eq]
        rcases List.mem_cons.1 hx with rfl | hx
        · exact hc
        · intro hx0
          have hxl : (ky x).length = 4 := ky_len (hw' x hx) hm
          have := (kcmp_trans (by omega) (by omega) (Int.le_of_lt (h1 x hx)) (Int.le_of_lt hx0)).2 (.inl (h1 x hx))
          exact hc this
      rw [e]
      constructor
      · intro h0
        exfalso
        cases i with
        | zero => simp [gr] at h0; exact hc h0
        | succ i =>
          have hi' : i < l.length := by simpa using hi
          have e2 : gr (r :: l) (i + 1) = gr l i := by simp [gr]
          rw [e2] at h0
          have := (ih i hi').1 h0
          have hb : bel l k ≤ bel (r :: l) k := by simp [bel, List.filter_cons, hc]
          omega
      · intro h0; omega
theorem has_iff (hs : Srt l) (hw : Wide m l) (hm : 4 ≤ m) (hk : k.length = 4) : hasK l k = true ↔ bel l k < l.length ∧ ky (gr l (bel l k)) = k := by
  unfold hasK
  rw [List.any_eq_true]
  constructor
  · rintro ⟨r, hr, he⟩
    simp only [decide_eq_true_eq] at he
    obtain ⟨i, hi, rfl⟩ := List.getElem_of_mem hr
    have hg := gr_eq hi
    have h0 : kcmp (ky (gr l i)) k = 0 := by rw [hg, he]; exact kcmp_self k
    have h1 : ¬ i < bel l k := fun h => by have := (bel_iff hs hw hm hk i hi).2 h; omega
    have h2 : ¬ bel l k < i := fun h => by
      have h3 := mt (bel_iff hs hw hm hk (bel l k) (by omega)).1 (Nat.lt_irrefl _)
      have h4 := hs.get h hi
      rw [hg, he] at h4
      exact h3 h4
    have : bel l k = i := by omega
    rw [this, hg]
    exact ⟨hi, he⟩
  · rintro ⟨hi, he⟩
    exact ⟨gr l (bel l k), by rw [gr_eq hi]; exact List.getElem_mem _, by simpa using he⟩
/-- What a search halves down to. -/
theorem bel_found (hs : Srt l) (hw : Wide m l) (hm : 4 ≤ m) (hk : k.length = 4) (hi : i ≤ l.length) (h1 : ∀ x, x < i → kcmp (ky (gr l x)) k < 0) (h2 : ∀ x, i ≤ x → x < l.length → ¬ kcmp (ky (gr l x)) k < 0) : bel l k = i := by
  have hb := bel_le l k
  rcases Nat.lt_trichotomy (bel l k) i with h | h | h
  · have := (bel_iff hs hw hm hk (bel l k) (by omega)).1 (h1 _ h); omega
  · exact h
  · exact absurd ((bel_iff hs hw hm hk i (by omega)).2 h) (h2 i (Nat.le_refl _) (by omega))
end
/-- Put, Delete. -/
def putR (l : List (List Int)) (r : List Int) : List (List Int) := l.take (bel l (ky r)) ++ (r :: l.drop (bel l (ky r) + if hasK l (ky r) then 1 else 0))
def delR (l : List (List Int)) (k : List Int) : List (List Int) := if hasK l k then l.take (bel l k) ++ l.drop (bel l k + 1) else l
section
variable {l : List (List Int)} {k r : List Int} {m : Nat}
theorem wide_put (hw : Wide m l) (hr : r.length = m) : Wide m (putR l r) := (hw.take).app fun x hx => by
  rcases List.mem_cons.1 hx with rfl | hx
  · exact hr
  · exact hw.drop x hx
theorem wide_del (hw : Wide m l) : Wide m (delR l k) := by
  unfold delR; split
  · exact (hw.take).app hw.drop
  · exact hw
theorem srt_put (hs : Srt l) (hw : Wide m l) (hm : 4 ≤ m) (hr : r.length = m) : Srt (putR l r) := by
  have hk : (ky r).length = 4 := ky_len hr hm
  have hbi := bel_iff hs hw hm hk
  have hhi := has_iff hs hw hm hk
  unfold putR Srt
  rw [List.pairwise_append]
  refine ⟨List.Pairwise.sublist (List.take_sublist _ _) hs, ?_, ?_⟩
  · rw [List.pairwise_cons]
    refine ⟨fun x hx => ?_, List.Pairwise.sublist (List.drop_sublist _ _) hs⟩
    obtain ⟨i, hi, rfl⟩ := List.getElem_of_mem hx
    rw [List.getElem_drop]
    rw [List.length_drop] at hi
    have hlt : bel l (ky r) + (if hasK l (ky r) = true then 1 else 0) + i < l.length := by omega
    have hmem : gr l (bel l (ky r) + (if hasK l (ky r) = true then 1 else 0) + i) ∈ l := by rw [gr_eq hlt]; exact List.getElem_mem _
    rw [← gr_eq hlt]
    generalize hz : gr l (bel l (ky r) + (if hasK l (ky r) = true then 1 else 0) + i) = z at hmem
    have h1 : ¬ kcmp (ky z) (ky r) < 0 := fun h => by
      rw [← hz] at h
      have := (hbi _ hlt).1 h; omega
    have h2 : kcmp (ky z) (ky r) ≠ 0 := fun h => by
      have hl : (ky z).length = 4 := ky_len (hw z hmem) hm
      have he := (kcmp_eq (by omega)).1 h
      have hh : hasK l (ky r) = true := by
        unfold hasK; rw [List.any_eq_true]
        exact ⟨z, hmem, by simpa using he⟩
      rw [hh] at hz hlt
      simp only [if_true] at hz hlt
      have h3 := (hhi.1 hh)
      have h4 := hs.get (show bel l (ky r) < bel l (ky r) + 1 + i by omega) hlt
      rw [h3.2, hz, he, kcmp_self] at h4
      omega
    have h3 := kcmp_anti (ky r) (ky z)
    omega
  · intro a ha b hb
    obtain ⟨i, hi, rfl⟩ := List.getElem_of_mem ha
    rw [List.getElem_take]
    rw [List.length_take] at hi
    have hil : i < l.length := by omega
    have h1 := (hbi i hil).2 (by omega)
    rw [gr_eq hil] at h1
    rcases List.mem_cons.1 hb with rfl | hb
    · exact h1
    · obtain ⟨j, hj, rfl⟩ := List.getElem_of_mem hb
      rw [List.getElem_drop]
      rw [List.length_drop] at hj
      exact List.pairwise_iff_getElem.1 hs i _ hil (by omega) (by omega)
theorem srt_del (hs : Srt l) : Srt (delR l k) := by
  unfold delR; split
  · have : (l.take (bel l k) ++ l.drop (bel l k + 1)).Sublist l := by
      have h := (List.drop_sublist 1 (l.drop (bel l k)))
      rw [List.drop_drop] at h
      have := List.Sublist.append (List.Sublist.refl (l.take (bel l k))) h
      rwa [List.take_append_drop] at this
    exact List.Pairwise.sublist this hs
  · exact hs
theorem put_len (l : List (List Int)) (r : List Int) : (putR l r).length ≤ l.length + 1 := by
  have := bel_le l (ky r)
  simp [putR]; omega
theorem del_len (l : List (List Int)) (k : List Int) : (delR l k).length ≤ l.length := by
  unfold delR; split
  · simp; omega
  · exact Nat.le_refl _
end
/-- The rows from a key on, below another one. -/
def rngR (l : List (List Int)) (a b : List Int) : List (List Int) := (l.take (max (bel l a) (bel l b))).drop (bel l a)
theorem rng_filter {m : Nat} {a b : List Int} (hm : 4 ≤ m) (ha : a.length = 4) (hb : b.length = 4) : ∀ {l : List (List Int)}, Srt l → Wide m l →
    rngR l a b = l.filter fun r => decide (0 ≤ kcmp (ky r) a ∧ kcmp (ky r) b < 0)
  | l, hs, hw => by
    have h1 := bel_iff hs hw hm ha
    have h2 := bel_iff hs hw hm hb
    have hla := bel_le l a
    have hlb := bel_le l b
    have e : l = l.take (bel l a) ++ (rngR l a b ++ l.drop (max (bel l a) (bel l b))) := by
      unfold rngR
      have h3 : l.take (bel l a) = (l.take (max (bel l a) (bel l b))).take (bel l a) := by rw [List.take_take, Nat.min_eq_left (by omega)]
      rw [h3, ← List.append_assoc, List.take_append_drop, List.take_append_drop]
    have f1 : (l.take (bel l a)).filter (fun r => decide (0 ≤ kcmp (ky r) a ∧ kcmp (ky r) b < 0)) = [] := by
      rw [List.filter_eq_nil_iff]
      intro x hx
      obtain ⟨i, hi, rfl⟩ := List.getElem_of_mem hx
      rw [List.length_take] at hi
      rw [List.getElem_take]
      have := (h1 i (by omega)).2 (by omega)
      rw [gr_eq (by omega)] at this
      simp; omega
    have f2 : (l.drop (max (bel l a) (bel l b))).filter (fun r => decide (0 ≤ kcmp (ky r) a ∧ kcmp (ky r) b < 0)) = [] := by
      rw [List.filter_eq_nil_iff]
      intro x hx
      obtain ⟨i, hi, rfl⟩ := List.getElem_of_mem hx
      rw [List.length_drop] at hi
      rw [List.getElem_drop]
      have := mt (h2 (max (bel l a) (bel l b) + i) (by omega)).1 (by omega)
      rw [gr_eq (by omega)] at this
      simp; omega
    have f3 : (rngR l a b).filter (fun r => decide (0 ≤ kcmp (ky r) a ∧ kcmp (ky r) b < 0)) = rngR l a b := by
      rw [List.filter_eq_self]
      intro x hx
      unfold rngR at hx
      obtain ⟨i, hi, rfl⟩ := List.getElem_of_mem hx
      rw [List.length_drop, List.length_take] at hi
      rw [List.getElem_drop, List.getElem_take]
      have g1 := mt (h1 (bel l a + i) (by omega)).1 (by omega)
      have g2 := (h2 (bel l a + i) (by omega)).2 (by omega)
      rw [gr_eq (by omega)] at g1 g2
      simp; omega
    conv => rhs; rw [e]
    rw [List.filter_append, List.filter_append, f1, f2, f3]
    simp
end Go.XG
namespace Go.XG
theorem kcmp_drop {a b : List Int} {k : Nat} (ha : k < a.length) (hb : k < b.length) :
    kcmp (a.drop k) (b.drop k) = if a.getD k 0 < b.getD k 0 then -1 else if b.getD k 0 < a.getD k 0 then 1 else kcmp (a.drop (k + 1)) (b.drop (k + 1)) := by
  rw [List.drop_eq_getElem_cons ha, List.drop_eq_getElem_cons hb]
  simp only [kcmp, List.getD_eq_getElem?_getD, List.getElem?_eq_getElem ha, List.getElem?_eq_getElem hb, Option.getD_some]
theorem kc_ne {x y z : Int} (h : ¬ (if x < y then (-1 : Int) else if y < x then 1 else 0) = 0) : (if x < y then (-1 : Int) else if y < x then 1 else 0) = if x < y then -1 else if y < x then 1 else z := by
  split
  · rfl
  · split
    · rfl
    · rename_i h1 h2; rw [if_neg h1, if_neg h2] at h; exact absurd rfl h
theorem kc_eq {x y z : Int} (h : (if x < y then (-1 : Int) else if y < x then 1 else 0) = 0) : (if x < y then (-1 : Int) else if y < x then 1 else z) = z := by
  split at h
  · omega
  · split at h
    · omega
    · rename_i h1 h2; rw [if_neg h1, if_neg h2]
theorem kcmp_end {a b : List Int} {k : Nat} (ha : a.length ≤ k) : kcmp (a.drop k) (b.drop k) = 0 := by
  rw [List.drop_of_length_le ha]; unfold kcmp; rfl
section
variable {l : List (List Int)} {k x : List Int} {m i j h : Nat}
theorem bin_lo (hs : Srt l) (hw : Wide m l) (hm : 4 ≤ m) (hk : k.length = 4) (hh : h < l.length) (h0 : kcmp (ky (gr l h)) k < 0) : ∀ x, x < h + 1 → kcmp (ky (gr l x)) k < 0 := fun x hx => by
  have := (bel_iff hs hw hm hk h hh).1 h0
  exact (bel_iff hs hw hm hk x (by omega)).2 (by omega)
theorem bin_hi (hs : Srt l) (hw : Wide m l) (hm : 4 ≤ m) (hk : k.length = 4) (hh : h < l.length) (h0 : ¬ kcmp (ky (gr l h)) k < 0) : ∀ x, h ≤ x → x < l.length → ¬ kcmp (ky (gr l x)) k < 0 := fun x hx hxl h1 => by
  have := (bel_iff hs hw hm hk x hxl).1 h1
  exact h0 ((bel_iff hs hw hm hk h hh).2 (by omega))
theorem has_true (hs : Srt l) (hw : Wide m l) (hm : 4 ≤ m) (hk : k.length = 4) (hb : bel l k = i) (hi : i < l.length) (h0 : kcmp (ky (gr l i)) k = 0) : true = hasK l k := by
  have hl := ky_len (hw.get hi) hm
  exact ((has_iff hs hw hm hk).2 ⟨by omega, by rw [hb]; exact (kcmp_eq (by omega)).1 h0⟩).symm
theorem has_false (hs : Srt l) (hw : Wide m l) (hm : 4 ≤ m) (hk : k.length = 4) (hb : bel l k = i) (h0 : ¬ (i < l.length ∧ kcmp (ky (gr l i)) k = 0)) : false = hasK l k := by
  cases hh : hasK l k with
  | false => rfl
  | true =>
    obtain ⟨h1, h2⟩ := (has_iff hs hw hm hk).1 hh
    rw [hb] at h1 h2
    exact absurd ⟨h1, by rw [h2]; exact kcmp_self k⟩ h0
theorem ky_app (hk : k.length = 4) (x : List Int) : ky (k ++ x) = k := by
  unfold ky; rw [← hk]; simp
theorem put_has (hk : k.length = 4) (h : hasK l k = true) : putR l (k ++ x) = l.take (bel l k) ++ [k ++ x] ++ (l.drop (bel l k)).drop 1 := by
  unfold putR; rw [ky_app hk, h]; simp
theorem put_new (hk : k.length = 4) (h : hasK l k = false) : putR l (k ++ x) = l.take (bel l k) ++ [k ++ x] ++ l.drop (bel l k) := by
  unfold putR; rw [ky_app hk, h]; simp
theorem has_lt (hs : Srt l) (hw : Wide m l) (hm : 4 ≤ m) (hk : k.length = 4) (h : hasK l k = true) : bel l k < l.length := ((has_iff hs hw hm hk).1 h).1
end
theorem shr1 (i j : Nat) : ((i : Int) + (j : Int)).fdiv (2 ^ min (1 : Int).toNat IntKind.u64.bits) = (((i + j) / 2 : Nat) : Int) := by
  rw [Int.fdiv_eq_ediv_of_nonneg]
  · show ((i : Int) + j) / 2 ^ 1 = _
    omega
  · exact Int.le_of_lt (Int.pow_pos (by decide))
theorem tup2 {i j : Int} {x y : Bool} (h : i = j) (h' : x = y) : Value.tuple #[.int .i64 i, .bool x] = .tuple #[.int .i64 j, .bool y] := by rw [h, h']
end Go.XG
namespace Go.XG
theorem bel_take {l : List (List Int)} {k : List Int} {i : Nat} (h : i < l.length) : bel (l.take (i + 1)) k = bel (l.take i) k + if kcmp (ky (gr l i)) k < 0 then 1 else 0 := by
  unfold bel
  rw [take_gr h, List.filter_append, List.length_append]
  congr 1
  by_cases hc : kcmp (ky (gr l i)) k < 0
  · rw [if_pos hc, List.filter_cons, if_pos (by simpa using hc)]; rfl
  · rw [if_neg hc, List.filter_cons, if_neg (by simpa using hc)]; rfl
theorem has_take {l : List (List Int)} {k : List Int} {i : Nat} (h : i < l.length) : hasK (l.take (i + 1)) k = (hasK (l.take i) k || decide (ky (gr l i) = k)) := by
  unfold hasK
  rw [take_gr h, List.any_append]
  simp
/-- The rows that are not below a key, and below another one. -/
def inR (f t : List Int) (r : List Int) : Bool := decide (0 ≤ kcmp (ky r) f ∧ kcmp (ky r) t < 0)
theorem flt_take {l : List (List Int)} {p : List Int → Bool} {i : Nat} (h : i < l.length) : (l.take (i + 1)).filter p = (l.take i).filter p ++ if p (gr l i) = true then [gr l i] else [] := by
  rw [take_gr h, List.filter_append]
  congr 1
  by_cases hc : p (gr l i) = true
  · rw [if_pos hc, List.filter_cons, if_pos hc, List.filter_nil]
  · rw [if_neg hc, List.filter_cons, if_neg hc, List.filter_nil]
theorem flt_most {l : List (List Int)} {p : List Int → Bool} {i m : Nat} (h : l.length ≤ i ∨ m ≤ ((l.take i).filter p).length) (hm : ((l.take i).filter p).length ≤ m) : (l.take i).filter p = (l.filter p).take m := by
  have e : l.filter p = (l.take i).filter p ++ (l.drop i).filter p := by rw [← List.filter_append, List.take_append_drop]
  rcases h with h | h
  · rw [List.take_of_length_le h] at hm ⊢
    rw [List.take_of_length_le hm]
  · have : m = ((l.take i).filter p).length := by omega
    rw [e, this, List.take_left]
end Go.XG
namespace Go.XG
theorem bv {a b : Bool} (h : a = b) : Value.bool a = .bool b := by rw [h]
end Go.XG
namespace Go.XG
theorem slv {a : Option Addr} {n m c : Nat} (h : n = m) : Value.slice a n c = .slice a m c := by rw [h]
end Go.XG
