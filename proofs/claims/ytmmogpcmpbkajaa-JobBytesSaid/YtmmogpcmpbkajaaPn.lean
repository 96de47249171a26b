/-
  Numbers as bytes, and what a reader does: plain Lean, no program in sight.
-/
namespace Go.Pen
/-- A word's bytes. -/
def Wf : Nat → Nat → List UInt8
  | 0, n => [UInt8.ofNat n]
  | f + 1, n => if n < 128 then [UInt8.ofNat n] else UInt8.ofNat (128 + n % 128) :: Wf f (n / 128)
def W (n : Nat) : List UInt8 := Wf 9 n
theorem wf_end (f m : Nat) (h : m < 128) : Wf f m = [UInt8.ofNat m] := by
  cases f with
  | zero => rfl
  | succ f => simp [Wf, h]
theorem wf_step {f m : Nat} (h : 128 ≤ m) (hb : m < 2 * 128 ^ f) : ∃ f', f = f' + 1 ∧ m / 128 < 2 * 128 ^ f' ∧ Wf f m = UInt8.ofNat (128 + m % 128) :: Wf f' (m / 128) := by
  cases f with
  | zero => simp at hb; omega
  | succ f =>
    refine ⟨f, rfl, ?_, ?_⟩
    · rw [Nat.pow_succ] at hb; omega
    · simp only [Wf]; rw [if_neg (by omega)]
theorem w_bound {n : Nat} (h : n < 18446744073709551616) : n < 2 * 128 ^ 9 := by
  have : (2 : Nat) * 128 ^ 9 = 18446744073709551616 := by decide
  omega
theorem wf_len : ∀ f n, 1 ≤ (Wf f n).length ∧ (Wf f n).length ≤ f + 1
  | 0, n => by simp [Wf]
  | f + 1, n => by
    simp only [Wf]
    split
    · simp
    · have := wf_len f (n / 128); simp; omega
theorem w_len (n : Nat) : 1 ≤ (W n).length ∧ (W n).length ≤ 10 := wf_len 9 n

/-- A word read: k bytes of it are behind, and came to acc. -/
def rd : Nat → Nat → Nat → List UInt8 → Option (Nat × List UInt8)
  | 0, _, _, _ => none
  | _ + 1, _, _, [] => none
  | f + 1, k, acc, b :: l =>
    if (b.toNat = 0 ∧ 0 < k) ∨ (k = 9 ∧ 1 < b.toNat) then none
    else if b.toNat < 128 then some (acc + b.toNat * 128 ^ k, l)
    else rd f (k + 1) (acc + (b.toNat % 128) * 128 ^ k) l
def rdw (l : List UInt8) : Option (Nat × List UInt8) := rd 10 0 0 l
theorem rd_end (f k acc : Nat) (l : List UInt8) (h : f = 0 ∨ l = []) : rd f k acc l = none := by
  cases f with
  | zero => rfl
  | succ f => rcases h with h | h
              · omega
              · subst h; rfl
theorem rd_cons (f k acc : Nat) (b : UInt8) (l : List UInt8) : rd (f + 1) k acc (b :: l) =
    if (b.toNat = 0 ∧ 0 < k) ∨ (k = 9 ∧ 1 < b.toNat) then none
    else if b.toNat < 128 then some (acc + b.toNat * 128 ^ k, l)
    else rd f (k + 1) (acc + (b.toNat % 128) * 128 ^ k) l := rfl
theorem pow128 (k : Nat) : 128 ^ k = 2 ^ (7 * k) := by rw [Nat.pow_mul]
/-- What a word read comes to: less than 2^64, and what is behind is what was there less what was read. -/
theorem rd_bound : ∀ (f k acc : Nat) (l : List UInt8) (n : Nat) (l' : List UInt8), f + k = 10 → acc < 128 ^ k → rd f k acc l = some (n, l') → n < 18446744073709551616 ∧ ∃ j, j ≤ l.length ∧ l' = l.drop j
  | 0, _, _, _, _, _, _, _, h => by cases h
  | _ + 1, _, _, [], _, _, _, _, h => by cases h
  | f + 1, k, acc, b :: l, n, l', hk, ha, h => by
    rw [rd_cons] at h
    split at h
    · cases h
    · rename_i hc
      split at h
      · rename_i hb
        simp only [Option.some.injEq, Prod.mk.injEq] at h
        obtain ⟨rfl, rfl⟩ := h
        refine ⟨?_, 1, by simp, rfl⟩
        have hle : k ≤ 9 := by omega
        by_cases h9 : k = 9
        · subst h9
          have h1 : b.toNat ≤ 1 := by omega
          have : (128 : Nat) ^ 9 = 9223372036854775808 := by decide
          rw [this] at ha ⊢
          have : b.toNat * 9223372036854775808 ≤ 1 * 9223372036854775808 := Nat.mul_le_mul_right _ h1
          omega
        · have h8 : (128 : Nat) ^ k ≤ 128 ^ 8 := Nat.pow_le_pow_right (by omega) (by omega)
          have e8 : (128 : Nat) ^ 8 = 72057594037927936 := by decide
          have : b.toNat * 128 ^ k ≤ 127 * 128 ^ k := Nat.mul_le_mul_right _ (by omega)
          omega
      · have h2 := rd_bound f (k + 1) _ l n l' (by omega) (by
          have : b.toNat % 128 * 128 ^ k ≤ 127 * 128 ^ k := Nat.mul_le_mul_right _ (by omega)
          rw [Nat.pow_succ]; omega) h
        obtain ⟨h3, j, h4, h5⟩ := h2
        exact ⟨h3, j + 1, by simp; omega, by simpa using h5⟩

/-- What a reader has: what is left, and whether it is bad. -/
abbrev St := List UInt8 × Bool
def wordS (s : St) : Nat × Bool × St :=
  if s.2 then (0, false, s) else match rdw s.1 with
    | some (n, l) => (n, true, (l, false))
    | none => (0, false, (s.1, true))
def uintS (most : Int) (s : St) : Nat × St :=
  match wordS s with
  | (n, ok, s') => if ok = true ∧ n ≤ 9223372036854775807 ∧ (n : Int) ≤ most then (n, s') else (0, (s'.1, true))
def unzig (n : Nat) : Int := if n % 2 = 0 then (n / 2 : Nat) else -((n / 2 : Nat) : Int) - 1
def intS (s : St) : Int × St := (unzig (wordS s).1, (wordS s).2.2)
def timesS (most : Int) (s : St) : Nat × St :=
  match uintS most s with
  | (n, s') => if s'.2 = true ∨ s'.1.length < n then (0, (s'.1, true)) else (n, s')
def textS (most : Int) (s : St) : List UInt8 × St :=
  match timesS most s with
  | (n, s') => if s'.2 then ([], s') else (s'.1.take n, (s'.1.drop n, false))
def leftS (s : St) : Nat := if s.2 then 0 else s.1.length
def doneS (s : St) : Bool := !s.2 && decide (s.1 = [])
def uintB (n : Int) : List UInt8 := if n < 0 then [] else W n.toNat
def zig (n : Int) : Nat := if 0 ≤ n then 2 * n.toNat else 2 * (-(n + 1)).toNat + 1
def textB (l : List UInt8) : List UInt8 := uintB l.length ++ l
theorem zig_lt {n : Int} (hl : -9223372036854775808 ≤ n) (hn : n < 9223372036854775808) : zig n < 18446744073709551616 := by
  unfold zig; split <;> omega
theorem uintB_len (l : List UInt8) (hl : l.length < 4611686018427387904) : (uintB (l.length : Int)).length + l.length ≤ 9223372036854775807 := by
  have := w_len (l.length : Int).toNat
  unfold uintB
  split
  · simp; omega
  · omega
theorem tmod128 (n : Nat) : ((n : Int).tmod 128) = ((n % 128 : Nat) : Int) := by
  rw [Int.tmod_eq_emod_of_nonneg (by omega)]; omega
theorem tdiv128 (n : Nat) : ((n : Int).tdiv 128) = ((n / 128 : Nat) : Int) := by
  rw [Int.tdiv_eq_ediv_of_nonneg (by omega)]; omega
theorem uint_no {most : Int} {s : St} {n : Nat} {ok : Bool} {l : List UInt8} {bad : Bool} (h : wordS s = (n, ok, (l, bad))) (hc : ¬ (ok = true ∧ n ≤ 9223372036854775807 ∧ (n : Int) ≤ most)) : uintS most s = (0, (l, true)) := by
  simp only [uintS, h, if_neg hc]
theorem uint_ok {most : Int} {s : St} {n : Nat} {l : List UInt8} {bad : Bool} (h : wordS s = (n, true, (l, bad))) (h1 : n ≤ 9223372036854775807) (h2 : (n : Int) ≤ most) : uintS most s = (n, (l, bad)) := by
  simp only [uintS, h]
  rw [if_pos ⟨trivial, h1, h2⟩]
theorem times_no {most : Int} {s : St} {n : Nat} {l : List UInt8} {bad : Bool} (h : uintS most s = (n, (l, bad))) (hc : bad = true ∨ l.length < n) : timesS most s = (0, (l, true)) := by
  simp only [timesS, h]
  rw [if_pos hc]
theorem times_ok {most : Int} {s : St} {n : Nat} {l : List UInt8} (h : uintS most s = (n, (l, false))) (hc : n ≤ l.length) : timesS most s = (n, (l, false)) := by
  simp only [timesS, h]
  rw [if_neg (by simp; exact hc)]
theorem times_le {most : Int} {s : St} {n : Nat} {l : List UInt8} (h : timesS most s = (n, (l, false))) : n ≤ l.length := by
  simp only [timesS] at h
  split at h
  · cases h
  · rename_i hc
    simp only [not_or, Nat.not_lt] at hc
    have h2 := hc.2
    simp only [Prod.mk.injEq] at h
    obtain ⟨h3, h4⟩ := h
    rw [h3, h4] at h2
    exact h2
theorem text_no {most : Int} {s : St} {n : Nat} {l : List UInt8} {bad : Bool} (h : uintS most s = (n, (l, bad))) (hc : bad = true ∨ l.length < n) : textS most s = ([], (l, true)) := by
  simp only [textS, times_no h hc]
  rfl
theorem text_ok {most : Int} {st : St} {n i1 : Nat} {s : List UInt8} (h : uintS most st = (n, (s.drop i1, false))) (_ : i1 ≤ s.length) (hc : n ≤ s.length - i1) : textS most st = ((s.drop i1).take n, (s.drop (i1 + n), false)) := by
  simp only [textS, times_ok h (by simp; omega)]
  rw [List.drop_drop]
  rfl
theorem wordS_some {l l' : List UInt8} {n : Nat} (h : rdw l = some (n, l')) : wordS (l, false) = (n, true, (l', false)) := by
  simp [wordS, h]
theorem wordS_none {l : List UInt8} (h : rdw l = none) : wordS (l, false) = (0, false, (l, true)) := by
  simp [wordS, h]
theorem ofNat_toNat {x : Nat} (h : x < 256) : (UInt8.ofNat x).toNat = x := UInt8.toNat_ofNat_of_lt' (by simpa using h)
/-- What was written is read again. -/
theorem rd_wf : ∀ (f k acc n : Nat) (r : List UInt8), f + k = 9 → n < 2 * 128 ^ f → (0 < k → 0 < n) → rd (f + 1) k acc (Wf f n ++ r) = some (acc + n * 128 ^ k, r)
  | 0, k, acc, n, r, hk, hn, h0 => by
    have hn2 : n < 2 := by simpa using hn
    have hb : (UInt8.ofNat n).toNat = n := ofNat_toNat (by omega)
    show rd 1 k acc (UInt8.ofNat n :: r) = _
    rw [rd_cons, hb, if_neg (by omega), if_pos (by omega)]
  | f + 1, k, acc, n, r, hk, hn, h0 => by
    by_cases h : n < 128
    · have hb : (UInt8.ofNat n).toNat = n := ofNat_toNat (by omega)
      rw [wf_end _ _ h]
      show rd (f + 1 + 1) k acc (UInt8.ofNat n :: r) = _
      rw [rd_cons, hb, if_neg (by omega), if_pos h]
    · have hb : (UInt8.ofNat (128 + n % 128)).toNat = 128 + n % 128 := ofNat_toNat (by omega)
      have hw : Wf (f + 1) n = UInt8.ofNat (128 + n % 128) :: Wf f (n / 128) := by simp only [Wf]; rw [if_neg h]
      rw [hw]
      show rd (f + 1 + 1) k acc (UInt8.ofNat (128 + n % 128) :: (Wf f (n / 128) ++ r)) = _
      rw [rd_cons, hb, if_neg (by omega), if_neg (by omega)]
      have hn' : n / 128 < 2 * 128 ^ f := by rw [Nat.pow_succ] at hn; omega
      rw [rd_wf f (k + 1) _ (n / 128) r (by omega) hn' (by omega)]
      have e1 : (128 + n % 128) % 128 = n % 128 := by omega
      have e2 : n / 128 * 128 ^ (k + 1) = n / 128 * 128 * 128 ^ k := by rw [Nat.pow_succ, Nat.mul_assoc, Nat.mul_comm (128 ^ k)]
      have e3 : n % 128 * 128 ^ k + n / 128 * 128 * 128 ^ k = n * 128 ^ k := by rw [← Nat.add_mul]; congr 1; omega
      rw [e1, e2, Nat.add_assoc, e3]
theorem rdw_W (n : Nat) (r : List UInt8) (h : n < 18446744073709551616) : rdw (W n ++ r) = some (n, r) := by
  have := rd_wf 9 0 0 n r rfl (w_bound h) (by omega)
  rw [Nat.zero_add, Nat.pow_zero, Nat.mul_one] at this
  exact this
/-- What is read was written so. -/
theorem wf_rd : ∀ (f k acc : Nat) (l : List UInt8) (m : Nat) (l' : List UInt8), f + k = 9 → rd (f + 1) k acc l = some (m, l') → ∃ n, m = acc + n * 128 ^ k ∧ l = Wf f n ++ l' ∧ (0 < k → 0 < n)
  | _, _, _, [], _, _, _, h => by simp [rd_end] at h
  | f, k, acc, b :: l, m, l', hk, h => by
    rw [rd_cons] at h
    split at h
    · cases h
    · rename_i hc
      split at h
      · rename_i hb
        simp only [Option.some.injEq, Prod.mk.injEq] at h
        obtain ⟨rfl, rfl⟩ := h
        refine ⟨b.toNat, rfl, ?_, by omega⟩
        rw [wf_end _ _ hb, UInt8.ofNat_toNat]
        rfl
      · rename_i hb
        cases f with
        | zero => cases h
        | succ f =>
          obtain ⟨n, h1, h2, h3⟩ := wf_rd f (k + 1) _ l m l' (by omega) h
          have hb2 := b.toNat_lt
          have hn := h3 (by omega)
          refine ⟨b.toNat % 128 + 128 * n, ?_, ?_, by omega⟩
          · rw [h1, Nat.add_mul, Nat.pow_succ, Nat.add_assoc]
            congr 2
            rw [Nat.mul_comm (128 ^ k), ← Nat.mul_assoc, Nat.mul_comm n]
          · have hw : Wf (f + 1) (b.toNat % 128 + 128 * n) = UInt8.ofNat (128 + (b.toNat % 128 + 128 * n) % 128) :: Wf f ((b.toNat % 128 + 128 * n) / 128) := by simp only [Wf]; rw [if_neg (by omega)]
            have e1 : 128 + (b.toNat % 128 + 128 * n) % 128 = b.toNat := by omega
            have e2 : (b.toNat % 128 + 128 * n) / 128 = n := by omega
            rw [hw, e1, e2, UInt8.ofNat_toNat, h2]
            rfl
theorem W_rdw {l l' : List UInt8} {n : Nat} (h : rdw l = some (n, l')) : l = W n ++ l' := by
  obtain ⟨m, h1, h2, _⟩ := wf_rd 9 0 0 l n l' rfl h
  have : n = m := by omega
  rw [this]; exact h2
theorem unzig_zig {x : Int} : unzig (zig x) = x := by
  unfold zig unzig
  split
  · rw [if_pos (by omega)]; omega
  · rw [if_neg (by omega)]; omega
theorem zig_unzig (n : Nat) : zig (unzig n) = n := by
  unfold unzig
  split
  · unfold zig; rw [if_pos (by omega)]; omega
  · unfold zig; rw [if_neg (by omega)]; omega
theorem int_back {x : Int} (r : List UInt8) (hl : -9223372036854775808 ≤ x) (hh : x < 9223372036854775808) : intS (W (zig x) ++ r, false) = (x, (r, false)) := by
  simp only [intS, wordS_some (rdw_W (zig x) r (zig_lt hl hh)), unzig_zig]
theorem uint_back {x : Int} (r : List UInt8) (h0 : 0 ≤ x) (hh : x < 9223372036854775808) : uintS 9223372036854775807 (uintB x ++ r, false) = (x.toNat, (r, false)) := by
  have := wordS_some (rdw_W x.toNat r (by omega))
  unfold uintB
  rw [if_neg (by omega)]
  exact uint_ok this (by omega) (by omega)
theorem text_back (t r : List UInt8) (h : t.length ≤ 256) : textS 256 (textB t ++ r, false) = (t, (r, false)) := by
  have hu : uintS 256 (textB t ++ r, false) = (t.length, (t ++ r, false)) := by
    unfold textB uintB
    rw [if_neg (by omega), Int.toNat_natCast, List.append_assoc]
    exact uint_ok (wordS_some (rdw_W t.length (t ++ r) (by omega))) (by omega) (by omega)
  simp only [textS, times_ok hu (by simp)]
  simp
/-- What is left of what was there. -/
theorem word_left {s : List UInt8} {n : Nat} {ok : Bool} {l : List UInt8} {b : Bool} (h : wordS (s, false) = (n, ok, (l, b))) : l.length ≤ s.length ∧ n < 18446744073709551616 ∧ (b = false → s = W n ++ l) := by
  cases hr : rdw s with
  | none =>
    rw [wordS_none hr] at h
    simp only [Prod.mk.injEq] at h
    obtain ⟨rfl, rfl, rfl, rfl⟩ := h
    exact ⟨Nat.le_refl _, by decide, fun h => by cases h⟩
  | some p =>
    obtain ⟨m, l2⟩ := p
    rw [wordS_some hr] at h
    simp only [Prod.mk.injEq] at h
    obtain ⟨rfl, rfl, rfl, rfl⟩ := h
    have hl := W_rdw hr
    exact ⟨by rw [hl]; simp, (rd_bound 10 0 0 s m l2 rfl (by decide) hr).1, fun _ => hl⟩
theorem uint_left {s : List UInt8} {most : Int} {n : Nat} {l : List UInt8} {b : Bool} (h : uintS most (s, false) = (n, (l, b))) : l.length ≤ s.length ∧ (b = false → s = W n ++ l) := by
  cases hw : wordS (s, false) with
  | mk m p =>
    obtain ⟨ok, l2, b2⟩ := p
    obtain ⟨h1, h2, h3⟩ := word_left hw
    by_cases hc : ok = true ∧ m ≤ 9223372036854775807 ∧ (m : Int) ≤ most
    · obtain ⟨rfl, hm⟩ := hc
      rw [uint_ok hw hm.1 hm.2] at h
      simp only [Prod.mk.injEq] at h
      obtain ⟨rfl, rfl, rfl⟩ := h
      exact ⟨h1, h3⟩
    · rw [uint_no hw hc] at h
      simp only [Prod.mk.injEq] at h
      obtain ⟨rfl, rfl, rfl⟩ := h
      exact ⟨h1, fun h => by cases h⟩
theorem int_left {s : List UInt8} {x : Int} {l : List UInt8} {b : Bool} (h : intS (s, false) = (x, (l, b))) : l.length ≤ s.length ∧ (-9223372036854775808 ≤ x ∧ x < 9223372036854775808) ∧ (b = false → s = W (zig x) ++ l) := by
  cases hw : wordS (s, false) with
  | mk m p =>
    obtain ⟨ok, l2, b2⟩ := p
    obtain ⟨h1, h2, h3⟩ := word_left hw
    simp only [intS, hw, Prod.mk.injEq] at h
    obtain ⟨rfl, rfl, rfl⟩ := h
    refine ⟨h1, ?_, fun hb => by rw [zig_unzig]; exact h3 hb⟩
    unfold unzig
    split <;> omega
theorem take_canon {s w l : List UInt8} (h : s = w ++ l) : s.take (s.length - l.length) = w := by
  have : s.length - l.length = w.length := by rw [h]; simp
  rw [this, h]; simp
/-- All that is written. -/
def encI (xs : List Int) : List UInt8 := xs.flatMap fun x => W (zig x) ++ uintB (max 0 x)
def encT (ts : List (List UInt8)) : List UInt8 := ts.flatMap textB
theorem take_snoc {α : Type} (l : List α) (k : Nat) (d : α) (h : k < l.length) : l.take (k + 1) = l.take k ++ [l.getD k d] := by
  rw [List.take_succ_eq_append_getElem h]
  simp [h]
theorem drop_cons {α : Type} (l : List α) (k : Nat) (d : α) (h : k < l.length) : l.drop k = l.getD k d :: l.drop (k + 1) := by
  rw [List.drop_eq_getElem_cons h]
  simp [h]
theorem encI_succ (xs : List Int) (k : Nat) (h : k < xs.length) : encI (xs.take k) ++ W (zig (xs.getD k 0)) ++ uintB (max 0 (xs.getD k 0)) = encI (xs.take (k + 1)) := by
  rw [take_snoc xs k 0 h]
  simp [encI]
theorem encT_succ (a : List UInt8) (ts : List (List UInt8)) (k : Nat) (h : k < ts.length) : (a ++ encT (ts.take k)) ++ textB (ts.getD k []) = a ++ encT (ts.take (k + 1)) := by
  rw [take_snoc ts k [] h]
  simp [encT]
theorem encI_cons (xs : List Int) (k : Nat) (h : k < xs.length) (r : List UInt8) : encI (xs.drop k) ++ r = W (zig (xs.getD k 0)) ++ (uintB (max 0 (xs.getD k 0)) ++ (encI (xs.drop (k + 1)) ++ r)) := by
  rw [drop_cons xs k 0 h]
  simp [encI]
theorem encT_cons (ts : List (List UInt8)) (k : Nat) (h : k < ts.length) : encT (ts.drop k) = textB (ts.getD k []) ++ encT (ts.drop (k + 1)) := by
  rw [drop_cons ts k [] h]
  simp [encT]
theorem uintB_le (n : Int) : (uintB n).length ≤ 10 := by
  unfold uintB
  split
  · simp
  · exact (w_len _).2
theorem encI_len : ∀ xs : List Int, (encI xs).length ≤ 20 * xs.length
  | [] => by simp [encI]
  | x :: xs => by
    have h1 := encI_len xs
    have h2 := (w_len (zig x)).2
    have h3 := uintB_le (max 0 x)
    have : encI (x :: xs) = W (zig x) ++ uintB (max 0 x) ++ encI xs := by simp [encI]
    rw [this]
    simp
    omega
theorem textB_len (t : List UInt8) : (textB t).length ≤ 10 + t.length := by
  have := uintB_le (t.length : Int)
  simp [textB]
  omega
theorem encT_len : ∀ ts : List (List UInt8), (∀ t ∈ ts, t.length ≤ 256) → (encT ts).length ≤ 300 * ts.length
  | [], _ => by simp [encT]
  | t :: ts, h => by
    have h1 := encT_len ts (fun u hu => h u (List.mem_cons_of_mem _ hu))
    have h2 := textB_len t
    have h3 := h t (List.mem_cons_self ..)
    have : encT (t :: ts) = textB t ++ encT ts := by simp [encT]
    rw [this]
    simp
    omega
theorem take_short {ts : List (List UInt8)} {k : Nat} (h : ∀ j, j < k → (ts.getD j []).length ≤ 256) : ∀ t ∈ ts.take k, t.length ≤ 256 := by
  intro t ht
  obtain ⟨j, hj, rfl⟩ := List.getElem_of_mem ht
  rw [List.length_take] at hj
  have h1 := h j (by omega)
  have h2 : j < ts.length := by omega
  simpa [h2] using h1
theorem short_succ {ts : List (List UInt8)} {k : Nat} (h : ∀ j, j < k → (ts.getD j []).length ≤ 256) (hk : (ts.getD k []).length ≤ 256) : ∀ j, j < k + 1 → (ts.getD j []).length ≤ 256 := by
  intro j hj
  by_cases e : j = k
  · subst e; exact hk
  · exact h j (by omega)
theorem all_short {ts : List (List UInt8)} {k : Nat} (h : ∀ j, j < k → (ts.getD j []).length ≤ 256) (hk : ts.length ≤ k) : ∀ j, j < ts.length → (ts.getD j []).length ≤ 256 := fun j hj => h j (by omega)
theorem pb1 (xs : List Int) (k : Nat) (h : xs.length ≤ 12) (n : Nat) : (encI (xs.take k)).length + (W n).length ≤ 9223372036854775807 := by
  have h1 := encI_len (xs.take k)
  have h2 := (w_len n).2
  rw [List.length_take] at h1
  omega
theorem pb2 (xs : List Int) (k : Nat) (h : xs.length ≤ 12) (n : Nat) (m : Int) : (encI (xs.take k) ++ W n).length + (uintB m).length ≤ 9223372036854775807 := by
  have h1 := encI_len (xs.take k)
  have h2 := (w_len n).2
  have h3 := uintB_le m
  rw [List.length_take] at h1
  simp
  omega
theorem pb3 {xs : List Int} {ts : List (List UInt8)} {k : Nat} (h : xs.length ≤ 12) (h' : ts.length ≤ 12) (hsh : ∀ j, j < k → (ts.getD j []).length ≤ 256) (t : List UInt8) (ht : t.length ≤ 256) : (encI xs ++ encT (ts.take k)).length + (textB t).length ≤ 9223372036854775807 := by
  have h1 := encI_len xs
  have h2 := encT_len _ (take_short hsh)
  have h3 := textB_len t
  rw [List.length_take] at h2
  simp
  omega
theorem can1 {s l : List UInt8} {n : Nat} (h : l.length ≤ s.length ∧ (false = false → s = W n ++ l)) : uintB n = s.take ((s.length : Int) - (leftS (l, false) : Nat)).toNat := by
  have e : ((s.length : Int) - (leftS (l, false) : Nat)).toNat = s.length - l.length := by
    simp only [leftS, Bool.false_eq_true, if_false]; omega
  rw [e, take_canon (h.2 rfl)]
  unfold uintB
  rw [if_neg (by omega), Int.toNat_natCast]
theorem can2 {s l : List UInt8} {x : Int} {p : Prop} (h : l.length ≤ s.length ∧ p ∧ (false = false → s = W (zig x) ++ l)) : W (zig x) = s.take ((s.length : Int) - (leftS (l, false) : Nat)).toNat := by
  have e : ((s.length : Int) - (leftS (l, false) : Nat)).toNat = s.length - l.length := by
    simp only [leftS, Bool.false_eq_true, if_false]; omega
  rw [e, take_canon (h.2.2 rfl)]
end Go.Pen
