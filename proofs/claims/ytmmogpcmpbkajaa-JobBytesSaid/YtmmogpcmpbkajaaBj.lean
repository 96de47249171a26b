/-
  Rows of numbers as bytes, and lists of pairs, in plain Lean: what is put is taken as it was, and no other bytes lead there.
  (lib/Bn.lean, over the stacks of this seat.)
-/
import Derived.Test.YtmmogpcmpbkajaaP
import Derived.Test.YtmmogpcmpbkajaaL
import Derived.Test.YtmmogpcmpbkajaaLn
import Derived.Test.YtmmogpcmpbkajaaR
namespace Go.XG
open Go.Pen
def encK (ns : List Int) : List UInt8 := ns.flatMap uintB
theorem encK_app (a b : List Int) : encK (a ++ b) = encK a ++ encK b := by simp [encK]
theorem encK_len : ∀ ns : List Int, (encK ns).length ≤ 10 * ns.length
  | [] => by simp [encK]
  | n :: ns => by
    have h1 := encK_len ns
    have h2 := uintB_le n
    have : encK (n :: ns) = uintB n ++ encK ns := rfl
    rw [this]; simp; omega
theorem encK_take {ns : List Int} {j : Nat} (h : j < ns.length) : encK (ns.take (j + 1)) = encK (ns.take j) ++ uintB (ns.getD j 0) := by
  have : ns.take (j + 1) = ns.take j ++ [ns.getD j 0] := by rw [List.take_succ_eq_append_getElem h]; simp [h]
  rw [this]; simp [encK]
/-- The numbers of pairs. -/
def flat (l : List Stack) : List Int := l.flatMap fun x => [x.1, x.2]
def encL (l : List Stack) : List UInt8 := uintB l.length ++ encK (flat l)
theorem flat_len (l : List Stack) : (flat l).length = 2 * l.length := by
  induction l with
  | nil => rfl
  | cons x l ih => simp only [flat, List.flatMap_cons, List.length_append, List.length_cons] at *; simp at *; omega
theorem flat_take {l : List Stack} {k : Nat} (h : k < l.length) : flat (l.take (k + 1)) = flat (l.take k) ++ [gx l k, gq l k] := by
  have : l.take (k + 1) = l.take k ++ [l.getD k (0, 0)] := by rw [List.take_succ_eq_append_getElem h]; simp [h]
  rw [this]; simp [flat, gx, gq]
theorem encL_len (l : List Stack) : (encL l).length ≤ 10 + 20 * l.length := by
  have h1 := uintB_le (l.length : Int)
  have h2 := encK_len (flat l)
  rw [flat_len] at h2
  simp only [encL, List.length_append]; omega
/-- So many numbers, read. -/
def rdU : Nat → St → List Int × St
  | 0, st => ([], st)
  | k + 1, st => ((rdU k st).1 ++ [((uintS 9223372036854775807 (rdU k st).2).1 : Int)], (uintS 9223372036854775807 (rdU k st).2).2)
def rdP : Nat → St → List Stack × St
  | 0, st => ([], st)
  | k + 1, st => ((rdP k st).1 ++ [(((uintS 9223372036854775807 (rdP k st).2).1 : Int), ((uintS 9223372036854775807 (uintS 9223372036854775807 (rdP k st).2).2).1 : Int))], (uintS 9223372036854775807 (uintS 9223372036854775807 (rdP k st).2).2).2)
def rdL (st : St) : List Stack × St := rdP (uintS 8 st).1 (uintS 8 st).2
section
variable {st s1 s2 s3 : St} {xs : List Int} {l : List Stack} {k n m : Nat}
theorem rdU_succ (h : rdU k st = (xs, s1)) (h1 : uintS 9223372036854775807 s1 = (n, s2)) : rdU (k + 1) st = (xs ++ [(n : Int)], s2) := by simp only [rdU, h, h1]
theorem rdP_succ (h : rdP k st = (l, s1)) (h1 : uintS 9223372036854775807 s1 = (n, s2)) (h2 : uintS 9223372036854775807 s2 = (m, s3)) : rdP (k + 1) st = (l ++ [((n : Int), (m : Int))], s3) := by simp only [rdP, h, h1, h2]
theorem rdU_len : ∀ (k : Nat) (st : St), (rdU k st).1.length = k
  | 0, _ => rfl
  | k + 1, st => by simp only [rdU, List.length_append, rdU_len k st]; rfl
theorem rdP_len : ∀ (k : Nat) (st : St), (rdP k st).1.length = k
  | 0, _ => rfl
  | k + 1, st => by simp only [rdP, List.length_append, rdP_len k st]; rfl
theorem uintS_bad (m : Int) (l : List UInt8) : uintS m (l, true) = (0, (l, true)) := uint_no (ok := false) (n := 0) rfl (fun h => by cases h.1)
theorem rdU_bad {l : List UInt8} : ∀ k, (rdU k (l, true)).2 = (l, true)
  | 0 => rfl
  | k + 1 => by simp only [rdU, rdU_bad k, uintS_bad]
theorem rdP_bad {l : List UInt8} : ∀ k, (rdP k (l, true)).2 = (l, true)
  | 0 => rfl
  | k + 1 => by simp only [rdP, rdP_bad k, uintS_bad]
theorem rdL_bad {l : List UInt8} : (rdL (l, true)).2 = (l, true) := by unfold rdL; rw [uintS_bad]; exact rdP_bad _
theorem rdP_stays {l : List UInt8} {k : Nat} (h : (rdP k st).2 = (l, true)) : ∀ j, (rdP (k + j) st).2 = (l, true)
  | 0 => h
  | j + 1 => by
    show (uintS 9223372036854775807 (uintS 9223372036854775807 (rdP (k + j) st).2).2).2 = _
    rw [rdP_stays h j, uintS_bad, uintS_bad]
theorem uintS_le {m : Int} (hm : 0 ≤ m) {st st' : St} {n : Nat} (h : uintS m st = (n, st')) : (n : Int) ≤ m := by
  obtain ⟨l, b⟩ := st
  cases hw : wordS (l, b) with
  | mk k p =>
    obtain ⟨ok, q1, q2⟩ := p
    by_cases hc : ok = true ∧ k ≤ 9223372036854775807 ∧ (k : Int) ≤ m
    · obtain ⟨rfl, h1, h2⟩ := hc
      rw [uint_ok hw h1 h2] at h
      simp only [Prod.mk.injEq] at h
      omega
    · rw [uint_no hw hc] at h
      simp only [Prod.mk.injEq] at h
      omega
theorem uintS_good {m : Int} {l l' : List UInt8} {b : Bool} {n : Nat} (h : uintS m (l, b) = (n, (l', false))) : b = false ∧ l = uintB n ++ l' := by
  cases b with
  | true => rw [uintS_bad] at h; simp at h
  | false =>
    refine ⟨rfl, ?_⟩
    have := (uint_left h).2 rfl
    unfold uintB
    rw [if_neg (by omega), Int.toNat_natCast]
    exact this
theorem uintS_back {m x : Int} {r : List UInt8} (h0 : 0 ≤ x) (h1 : x ≤ m) (h2 : x < 9223372036854775808) : uintS m (uintB x ++ r, false) = (x.toNat, (r, false)) := by
  have := wordS_some (rdw_W x.toNat r (by omega))
  unfold uintB
  rw [if_neg (by omega)]
  exact uint_ok this (by omega) (by omega)
theorem doneS_true {l : List UInt8} {b : Bool} (h : doneS (l, b) = true) : b = false ∧ l = [] := by
  cases b <;> simp [doneS] at h ⊢
  exact h
/-! What has been read was written so. -/
theorem rdU_wrote {b : Bool} {s : List UInt8} : ∀ (k : Nat) {xs : List Int} {l : List UInt8}, rdU k (s, b) = (xs, (l, false)) → b = false ∧ s = encK xs ++ l
  | 0, xs, l, h => by
    simp only [rdU, Prod.mk.injEq] at h
    obtain ⟨rfl, rfl, rfl⟩ := h
    exact ⟨rfl, rfl⟩
  | k + 1, xs, l, h => by
    cases hp : rdU k (s, b) with
    | mk ys q => cases h1 : uintS 9223372036854775807 q with
      | mk n q2 =>
        rw [rdU_succ hp h1] at h
        simp only [Prod.mk.injEq] at h
        obtain ⟨rfl, rfl⟩ := h
        obtain ⟨l1, b1⟩ := q
        obtain ⟨rfl, e1⟩ := uintS_good h1
        obtain ⟨g1, g2⟩ := rdU_wrote k hp
        exact ⟨g1, by rw [g2, e1, encK_app]; simp [encK]⟩
theorem rdP_wrote {b : Bool} {s : List UInt8} : ∀ (k : Nat) {xs : List Stack} {l : List UInt8}, rdP k (s, b) = (xs, (l, false)) → b = false ∧ s = encK (flat xs) ++ l
  | 0, xs, l, h => by
    simp only [rdP, Prod.mk.injEq] at h
    obtain ⟨rfl, rfl, rfl⟩ := h
    exact ⟨rfl, rfl⟩
  | k + 1, xs, l, h => by
    cases hp : rdP k (s, b) with
    | mk ys q => cases h1 : uintS 9223372036854775807 q with
      | mk n q2 => cases h2 : uintS 9223372036854775807 q2 with
        | mk m q3 =>
          rw [rdP_succ hp h1 h2] at h
          simp only [Prod.mk.injEq] at h
          obtain ⟨rfl, rfl⟩ := h
          obtain ⟨l2, b2⟩ := q2
          obtain ⟨rfl, e2⟩ := uintS_good h2
          obtain ⟨l1, b1⟩ := q
          obtain ⟨rfl, e1⟩ := uintS_good h1
          obtain ⟨g1, g2⟩ := rdP_wrote k hp
          refine ⟨g1, ?_⟩
          have : flat (ys ++ [((n : Int), (m : Int))]) = flat ys ++ [(n : Int), (m : Int)] := by simp [flat]
          rw [this, encK_app, g2, e1, e2]; simp [encK]
theorem rdL_wrote {b : Bool} {s l : List UInt8} {xs : List Stack} (h : rdL (s, b) = (xs, (l, false))) : b = false ∧ s = encL xs ++ l := by
  unfold rdL at h
  cases hu : uintS 8 (s, b) with
  | mk n q =>
    rw [hu] at h
    obtain ⟨l1, b1⟩ := q
    obtain ⟨rfl, e1⟩ := rdP_wrote n h
    obtain ⟨rfl, e2⟩ := uintS_good hu
    have hl : xs.length = n := by have := rdP_len n (l1, false); rw [h] at this; exact this
    exact ⟨rfl, by rw [e2, e1]; simp [encL, hl]⟩
/-! What was written is read again. -/
def InU (x : Int) : Prop := 0 ≤ x ∧ x < 9223372036854775808
theorem rdU_back {r : List UInt8} : ∀ {xs : List Int} (k : Nat), k ≤ xs.length → (∀ x ∈ xs, InU x) → rdU k (encK xs ++ r, false) = (xs.take k, (encK (xs.drop k) ++ r, false))
  | xs, 0, _, _ => by simp [rdU]
  | xs, k + 1, h, hx => by
    have ih := rdU_back (r := r) k (by omega) hx
    have hk : k < xs.length := by omega
    have e0 : encK (xs.drop k) ++ r = uintB (xs.getD k 0) ++ (encK (xs.drop (k + 1)) ++ r) := by
      have hg : xs.getD k 0 = xs[k] := by simp [hk]
      have : encK (xs[k] :: xs.drop (k + 1)) = uintB xs[k] ++ encK (xs.drop (k + 1)) := rfl
      rw [List.drop_eq_getElem_cons hk, this, List.append_assoc, hg]
    rw [e0] at ih
    have hi := hx xs[k] (List.getElem_mem hk)
    have hg : xs.getD k 0 = xs[k] := by simp [hk]
    unfold InU at hi
    rw [rdU_succ ih (uintS_back (by omega) (by omega) (by omega)), Int.toNat_of_nonneg (by omega), hg, List.take_append_getElem hk]
theorem rdP_back {r : List UInt8} : ∀ {xs : List Stack} (k : Nat), k ≤ xs.length → (∀ x ∈ xs, InU x.1 ∧ InU x.2) → rdP k (encK (flat xs) ++ r, false) = (xs.take k, (encK (flat (xs.drop k)) ++ r, false))
  | xs, 0, _, _ => by simp [rdP]
  | xs, k + 1, h, hx => by
    have ih := rdP_back (r := r) k (by omega) hx
    have hk : k < xs.length := by omega
    have e0 : encK (flat (xs.drop k)) ++ r = uintB xs[k].1 ++ (uintB xs[k].2 ++ (encK (flat (xs.drop (k + 1))) ++ r)) := by
      have : encK (flat (xs[k] :: xs.drop (k + 1))) = uintB xs[k].1 ++ (uintB xs[k].2 ++ encK (flat (xs.drop (k + 1)))) := rfl
      rw [List.drop_eq_getElem_cons hk, this, List.append_assoc, List.append_assoc]
    rw [e0] at ih
    have hi := hx xs[k] (List.getElem_mem hk)
    unfold InU at hi
    rw [rdP_succ ih (uintS_back (by omega) (by omega) (by omega)) (uintS_back (by omega) (by omega) (by omega)), Int.toNat_of_nonneg (by omega), Int.toNat_of_nonneg (by omega), List.take_append_getElem hk]
theorem rdL_back {r : List UInt8} {xs : List Stack} (h8 : xs.length ≤ 8) (hx : ∀ x ∈ xs, InU x.1 ∧ InU x.2) : rdL (encL xs ++ r, false) = (xs, (r, false)) := by
  unfold rdL encL
  have h1 := uintS_back (m := 8) (x := (xs.length : Int)) (r := encK (flat xs) ++ r) (by omega) (by omega) (by omega)
  rw [Int.toNat_natCast] at h1
  rw [List.append_assoc, h1]
  have := rdP_back (r := r) xs.length (Nat.le_refl _) hx
  simpa [flat, encK] using this
end
theorem goods_in : ∀ {m : Int} (l : List Stack) (a : Int), 0 ≤ a → m < 9223372036854775808 → Asc m a l → ∀ x ∈ l, InU x.1 ∧ InU x.2
  | _, [], _, _, _, _, x, hx => by cases hx
  | m, y :: l, a, ha, hm, h, x, hx => by
    obtain ⟨h1, h2, h3, h4, h5⟩ := h
    rcases List.mem_cons.1 hx with rfl | hx
    · unfold InU; omega
    · exact goods_in l y.1 (by omega) hm h5 x hx
theorem blk_int {H : Heap} {b t k : Nat} {ns : List Int} (h : Blk H b (ints ns) t) (hk : k < ns.length) : cellAt H b (0 + k * 1) = some (.int .i64 (ns.getD k 0)) := by
  rw [h.cell]
  simp [ints, hk]
theorem blk_int0 {H : Heap} {b t k : Nat} {ns : List Int} (h : Blk H b (ints ns) t) (hk : k < ns.length) : cellAt H b k = some (.int .i64 (ns.getD k 0)) := by
  rw [h.cell]
  simp [ints, hk]
section
variable {st t0 t1 t2 t3 t4 t5 t6 t7 t8 t9 u0 u1 u2 u3 : St} {x0 x1 x2 x3 x4 x5 x6 x7 x8 x9 y0 y1 y2 y3 : Nat}
theorem rdU_zero (st : St) : rdU 0 st = ([], st) := rfl
theorem rdU_4 (h0 : uintS 9223372036854775807 st = (x0, t0)) (h1 : uintS 9223372036854775807 t0 = (x1, t1)) (h2 : uintS 9223372036854775807 t1 = (x2, t2)) (h3 : uintS 9223372036854775807 t2 = (x3, t3)) :
    rdU 4 st = ([(x0 : Int), (x1 : Int), (x2 : Int), (x3 : Int)], t3) := rdU_succ (rdU_succ (rdU_succ (rdU_succ (rdU_zero st) h0) h1) h2) h3
theorem rdU_13 (h0 : uintS 9223372036854775807 st = (x0, t0)) (h1 : uintS 9223372036854775807 t0 = (x1, t1)) (h2 : uintS 9223372036854775807 t1 = (x2, t2)) (h3 : uintS 9223372036854775807 t2 = (x3, t3))
    (h4 : uintS 9223372036854775807 t3 = (x4, t4)) (h5 : uintS 9223372036854775807 t4 = (x5, t5)) (h6 : uintS 9223372036854775807 t5 = (x6, t6)) (h7 : uintS 9223372036854775807 t6 = (x7, t7)) (h8 : uintS 9223372036854775807 t7 = (x8, t8)) (h9 : uintS 9223372036854775807 t8 = (x9, t9))
    (k0 : uintS 9223372036854775807 t9 = (y0, u0)) (k1 : uintS 9223372036854775807 u0 = (y1, u1)) (k2 : uintS 9223372036854775807 u1 = (y2, u2)) :
    rdU 13 st = ([(x0 : Int), (x1 : Int), (x2 : Int), (x3 : Int), (x4 : Int), (x5 : Int), (x6 : Int), (x7 : Int), (x8 : Int), (x9 : Int), (y0 : Int), (y1 : Int), (y2 : Int)], u2) :=
  rdU_succ (rdU_succ (rdU_succ (rdU_succ (rdU_succ (rdU_succ (rdU_succ (rdU_succ (rdU_succ (rdU_succ (rdU_succ (rdU_succ (rdU_succ (rdU_zero st) h0) h1) h2) h3) h4) h5) h6) h7) h8) h9) k0) k1) k2
theorem rdU_clean {k : Nat} {st : St} (h : (rdU k st).2.2 = false) : st.2 = false := by
  obtain ⟨l, b⟩ := st
  cases b with
  | false => rfl
  | true => rw [rdU_bad] at h; exact h
theorem rdL_clean {st : St} (h : (rdL st).2.2 = false) : st.2 = false := by
  obtain ⟨l, b⟩ := st
  cases b with
  | false => rfl
  | true => rw [rdL_bad] at h; exact h
end
end Go.XG
