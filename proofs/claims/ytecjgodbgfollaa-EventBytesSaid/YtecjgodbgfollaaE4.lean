/-
  The marks of bytes, in plain Lean: what is put is taken as it was, and no other bytes lead there.
-/
import Derived.Test.YtecjgodbgfollaaE3
namespace Go.XG
open Go.Pen
def rdM (a : Int) (st : St) : List Int × St :=
  ([a + (uintS 1099511627776 st).1, (uintS 9223372036854775807 (uintS 1099511627776 st).2).1, (uintS 9223372036854775807 (uintS 9223372036854775807 (uintS 1099511627776 st).2).2).1, (uintS 9223372036854775807 (uintS 9223372036854775807 (uintS 9223372036854775807 (uintS 1099511627776 st).2).2).2).1], (uintS 9223372036854775807 (uintS 9223372036854775807 (uintS 9223372036854775807 (uintS 1099511627776 st).2).2).2).2)
def rdN : Nat → St → List (List Int) × Int × St
  | 0, st => ([], 0, st)
  | k + 1, st => ((rdN k st).1 ++ [(rdM (rdN k st).2.1 (rdN k st).2.2).1], (rdM (rdN k st).2.1 (rdN k st).2.2).1.getD 0 0, (rdM (rdN k st).2.1 (rdN k st).2.2).2)
section
variable {st s1 s2 s3 s4 : St} {rows : List (List Int)} {a : Int} {k n n1 n2 n3 : Nat}
theorem rdN_succ (h : rdN k st = (rows, a, s1)) (h1 : uintS 1099511627776 s1 = (n, s2)) (h2 : uintS 9223372036854775807 s2 = (n1, s3)) (h3 : uintS 9223372036854775807 s3 = (n2, s4)) {s5 : St} (h4 : uintS 9223372036854775807 s4 = (n3, s5)) :
    rdN (k + 1) st = (rows ++ [[a + n, n1, n2, n3]], a + n, s5) := by
  simp only [rdN, rdM, h, h1, h2, h3, h4]; rfl
theorem rdN_len : ∀ (k : Nat) (st : St), (rdN k st).1.length = k
  | 0, _ => rfl
  | k + 1, st => by simp only [rdN, List.length_append, rdN_len k st]; rfl
theorem rdN_wide : ∀ (k : Nat) (st : St), Wide 4 (rdN k st).1
  | 0, _ => wide_nil
  | k + 1, st => wide_snoc (rdN_wide k st) rfl
theorem uintS_bad (m : Int) (l : List UInt8) : uintS m (l, true) = (0, (l, true)) := uint_no (ok := false) (n := 0) rfl (fun h => by cases h.1)
theorem rdM_bad {l : List UInt8} : (rdM a (l, true)).2 = (l, true) := by simp only [rdM, uintS_bad]
theorem rdN_bad {l : List UInt8} {k : Nat} (h : (rdN k st).2.2 = (l, true)) : ∀ j, (rdN (k + j) st).2.2 = (l, true)
  | 0 => h
  | j + 1 => by
    show (rdM (rdN (k + j) st).2.1 (rdN (k + j) st).2.2).2 = _
    rw [rdN_bad h j, rdM_bad]
end
def takeS (s : List UInt8) : Int × List (List Int) :=
  if doneS (rdN (uintS 128 (s, false)).1 (uintS 128 (s, false)).2).2.2 = true ∧ (loadL (rdN (uintS 128 (s, false)).1 (uintS 128 (s, false)).2).1).isSome = true then (0, (rdN (uintS 128 (s, false)).1 (uintS 128 (s, false)).2).1) else (2, [])
section
variable {s : List UInt8} {st s1 : St} {n k : Nat} {rows x : List (List Int)} {a : Int}
theorem take_ok (h : uintS 128 (s, false) = (n, st)) (hr : rdN n st = (rows, a, s1)) (hd : doneS s1 = true) (hl : loadL rows = some x) : takeS s = (0, rows) := by
  unfold takeS; rw [h]; simp only [hr]; rw [if_pos ⟨hd, by rw [hl]; rfl⟩]
theorem take_no (h : uintS 128 (s, false) = (n, st)) (hr : rdN n st = (rows, a, s1)) (hd : doneS s1 = false ∨ loadL rows = none) : takeS s = (2, []) := by
  unfold takeS; rw [h]; simp only [hr]; rw [if_neg (fun hc => ?_)]
  rcases hd with hd | hd
  · rw [hd] at hc; exact absurd hc.1 (by decide)
  · rw [hd] at hc; exact absurd hc.2 (by decide)
theorem take_bad {l : List UInt8} (h : uintS 128 (s, false) = (n, st)) (hk : k ≤ n) (hr : rdN k st = (rows, a, (l, true))) : takeS s = (2, []) := by
  have h1 := rdN_bad (st := st) (k := k) (l := l) (by rw [hr]) (n - k)
  rw [show k + (n - k) = n by omega] at h1
  exact take_no (rows := (rdN n st).1) (a := (rdN n st).2.1) (s1 := (l, true)) h (by rw [← h1]) (.inl (by simp [doneS]))
end
/-! What is read, where it was there. -/
theorem uintS_le {m : Int} (hm : 0 ≤ m) {st st' : St} {n : Nat} (h : uintS m st = (n, st')) : (n : Int) ≤ m := by
  obtain ⟨l, b⟩ := st
  cases hw : wordS (l, b) with
  | mk k p =>
    obtain ⟨ok, q⟩ := p
    by_cases hc : ok = true ∧ k ≤ 9223372036854775807 ∧ (k : Int) ≤ m
    · obtain ⟨rfl, h1, h2⟩ := hc
      obtain ⟨q1, q2⟩ := q
      rw [uint_ok hw h1 h2] at h
      simp only [Prod.mk.injEq] at h
      omega
    · obtain ⟨q1, q2⟩ := q
      rw [uint_no hw hc] at h
      simp only [Prod.mk.injEq] at h
      omega
theorem uintS_good {m : Int} {l l' : List UInt8} {b : Bool} {n : Nat} (h : uintS m (l, b) = (n, (l', false))) : b = false ∧ l = uintB n ++ l' := by
  cases b with
  | true => rw [uintS_bad] at h; simp at h
  | false =>
    refine ⟨rfl, ?_⟩
    have := (uint_left h).2 rfl
    unfold uintB
    rw [if_neg (by omega), Int.toNat_natCast]
    exact this
theorem uintS_back {m x : Int} {r : List UInt8} (h0 : 0 ≤ x) (h1 : x ≤ m) (h2 : x < 9223372036854775808) : uintS m (uintB x ++ r, false) = (x.toNat, (r, false)) := by
  have := wordS_some (rdw_W x.toNat r (by omega))
  unfold uintB
  rw [if_neg (by omega)]
  exact uint_ok this (by omega) (by omega)
theorem doneS_true {l : List UInt8} {b : Bool} (h : doneS (l, b) = true) : b = false ∧ l = [] := by
  cases b <;> simp [doneS] at h ⊢
  exact h
/-- What has been read was written so. -/
theorem rdN_wrote {st : List UInt8} {b0 : Bool} : ∀ (k : Nat) {rows : List (List Int)} {a : Int} {l : List UInt8}, rdN k (st, b0) = (rows, a, (l, false)) →
    b0 = false ∧ st = encU k rows ++ l ∧ a = atK rows k ∧ rows.length = k
  | 0, rows, a, l, h => by
    simp only [rdN, Prod.mk.injEq] at h
    obtain ⟨rfl, rfl, rfl, rfl⟩ := h
    exact ⟨rfl, rfl, rfl, rfl⟩
  | k + 1, rows, a, l, h => by
    cases hp : rdN k (st, b0) with
    | mk rows0 q =>
      obtain ⟨a0, l0, b1⟩ := q
      cases h1 : uintS 1099511627776 (l0, b1) with
      | mk n1 s1 => cases h2 : uintS 9223372036854775807 s1 with
        | mk n2 s2 => cases h3 : uintS 9223372036854775807 s2 with
          | mk n3 s3 => cases h4 : uintS 9223372036854775807 s3 with
            | mk n4 s4 =>
              rw [rdN_succ hp h1 h2 h3 h4] at h
              simp only [Prod.mk.injEq] at h
              obtain ⟨rfl, rfl, rfl⟩ := h
              obtain ⟨l3, b3⟩ := s3
              obtain ⟨rfl, e4⟩ := uintS_good h4
              obtain ⟨l2, b2⟩ := s2
              obtain ⟨rfl, e3⟩ := uintS_good h3
              obtain ⟨l1, b4⟩ := s1
              obtain ⟨rfl, e2⟩ := uintS_good h2
              obtain ⟨rfl, e1⟩ := uintS_good h1
              obtain ⟨g1, g2, g3, g4⟩ := rdN_wrote k hp
              have hg : gr (rows0 ++ [[a0 + ↑n1, ↑n2, ↑n3, ↑n4]]) k = [a0 + ↑n1, ↑n2, ↑n3, ↑n4] := by rw [← g4]; exact gr_last
              have hat : atK (rows0 ++ [[a0 + ↑n1, ↑n2, ↑n3, ↑n4]]) k = a0 := by
                rw [g3]
                unfold atK
                split
                · rfl
                · rw [gr_left (by omega)]
              have hen : ∀ j, j ≤ k → encU j (rows0 ++ [[a0 + ↑n1, ↑n2, ↑n3, ↑n4]]) = encU j rows0 := by
                intro j
                induction j with
                | zero => intro _; rfl
                | succ j ih =>
                  intro hj
                  have h5 : numK (rows0 ++ [[a0 + ↑n1, ↑n2, ↑n3, ↑n4]]) j = numK rows0 j := by
                    unfold numK atK
                    rw [gr_left (by omega)]
                    split
                    · rfl
                    · rw [gr_left (by omega)]
                  simp only [encU]
                  rw [ih (by omega), h5]
              refine ⟨g1, ?_, ?_, by simp [g4]⟩
              · have hnum : numK (rows0 ++ [[a0 + ↑n1, ↑n2, ↑n3, ↑n4]]) k = [(n1 : Int), n2, n3, n4] := by
                  unfold numK
                  rw [hg, hat]
                  simp only [List.getD_cons_zero, List.getD_cons_succ]
                  rw [show a0 + (n1 : Int) - a0 = n1 by omega]
                simp only [encU]
                rw [hen k (Nat.le_refl _), hnum, g2, e1, e2, e3, e4]
                simp [encK]
              · show a0 + ↑n1 = atK _ (k + 1)
                unfold atK
                rw [if_neg (by omega), show k + 1 - 1 = k by omega, hg]
                rfl
/-- What comes behind the first k of marks. -/
def encF (k : Nat) (l : List (List Int)) : List UInt8 := (List.range' k (l.length - k)).flatMap fun j => encK (numK l j)
theorem encF_step {l : List (List Int)} {k : Nat} (h : k < l.length) : encF k l = encK (numK l k) ++ encF (k + 1) l := by
  unfold encF
  rw [show l.length - k = (l.length - (k + 1)) + 1 by omega, List.range'_succ, List.flatMap_cons]
theorem encF_end {l : List (List Int)} : encF l.length l = [] := by unfold encF; simp
theorem encU_F {l : List (List Int)} : ∀ k, k ≤ l.length → encU k l ++ encF k l = encF 0 l
  | 0, _ => rfl
  | k + 1, h => by
    have := encU_F (l := l) k (by omega)
    rw [← this, encF_step (show k < l.length by omega)]
    simp [encU]
theorem rdN_read {l : List (List Int)} (hw : Wide 4 l) (hs : Stood l) : ∀ k, k ≤ l.length → rdN k (encF 0 l, false) = (l.take k, atK l k, (encF k l, false))
  | 0, _ => by simp [rdN, atK]
  | k + 1, h => by
    have ih := rdN_read hw hs k (by omega)
    have hk : k < l.length := by omega
    have hm := hs.may k hk
    have hb := (num_bd hs hk 0).2
    have hup : atK l k ≤ (gr l k).getD 0 0 := by
      unfold atK
      split
      · exact hb.1
      · have := hs.up (k - 1) (by omega)
        rw [show k - 1 + 1 = k by omega] at this
        exact this
    unfold MayR May at hm
    have hr : gr l k = [(gr l k).getD 0 0, (gr l k).getD 1 0, (gr l k).getD 2 0, (gr l k).getD 3 0] := row4 (hw.get hk)
    have e0 : encF k l = uintB ((gr l k).getD 0 0 - atK l k) ++ (uintB ((gr l k).getD 1 0) ++ (uintB ((gr l k).getD 2 0) ++ (uintB ((gr l k).getD 3 0) ++ encF (k + 1) l))) := by
      rw [encF_step hk]; simp [encK, numK]
    rw [e0] at ih
    rw [rdN_succ ih (uintS_back (by omega) (by omega) (by omega)) (uintS_back (by omega) (by omega) (by omega)) (uintS_back (by omega) (by omega) (by omega)) (uintS_back (by omega) (by omega) (by omega))]
    have t1 : (((gr l k).getD 0 0 - atK l k).toNat : Int) = (gr l k).getD 0 0 - atK l k := Int.toNat_of_nonneg (by omega)
    have t2 : (((gr l k).getD 1 0).toNat : Int) = (gr l k).getD 1 0 := Int.toNat_of_nonneg (by omega)
    have t3 : (((gr l k).getD 2 0).toNat : Int) = (gr l k).getD 2 0 := Int.toNat_of_nonneg (by omega)
    have t4 : (((gr l k).getD 3 0).toNat : Int) = (gr l k).getD 3 0 := Int.toNat_of_nonneg (by omega)
    rw [t1, t2, t3, t4, show atK l k + ((gr l k).getD 0 0 - atK l k) = (gr l k).getD 0 0 by omega, ← hr, ← take_gr hk]
    simp [atK]
theorem put_take {l : List (List Int)} (hw : Wide 4 l) (h : loadL l = some l) : takeS (putB l) = (0, l) := by
  have hs := (load_self hw h).2
  have h1 : putB l = uintB (l.length : Int) ++ encF 0 l := by
    unfold putB
    have := encU_F (l := l) l.length (Nat.le_refl _)
    rw [encF_end, List.append_nil] at this
    rw [this]
  have hl := hs.len
  rw [h1]
  refine take_ok (n := l.length) (st := (encF 0 l, false)) (a := atK l l.length) (s1 := (encF l.length l, false)) (x := l) ?_ ?_ ?_ h
  · have := uintS_back (m := 128) (x := (l.length : Int)) (r := encF 0 l) (by omega) (by omega) (by omega)
    rw [Int.toNat_natCast] at this
    exact this
  · have := rdN_read hw hs l.length (Nat.le_refl _)
    rw [List.take_length] at this
    exact this
  · rw [encF_end]; rfl
theorem take_put {s : List UInt8} {x : List (List Int)} (h : takeS s = (0, x)) : loadL x = some x ∧ putB x = s ∧ Wide 4 x := by
  unfold takeS at h
  cases hu : uintS 128 (s, false) with
  | mk n st =>
    rw [hu] at h
    simp only at h
    cases hp : rdN n st with
    | mk rows q =>
      obtain ⟨a, l, b⟩ := q
      rw [hp] at h
      simp only at h
      split at h
      · rename_i hc
        simp only [Prod.mk.injEq, true_and] at h
        subst h
        obtain ⟨rfl, rfl⟩ := doneS_true hc.1
        obtain ⟨st1, st2⟩ := st
        obtain ⟨rfl, h2, _, h4⟩ := rdN_wrote n hp
        have hw : Wide 4 rows := by have := rdN_wide n (st1, false); rw [hp] at this; exact this
        cases hl : loadL rows with
        | none => rw [hl] at hc; exact absurd hc.2 (by decide)
        | some y =>
          have := (load_self hw hl).1
          subst this
          refine ⟨rfl, ?_, hw⟩
          obtain ⟨_, h5⟩ := uintS_good hu
          unfold putB
          rw [h5, h2, h4, List.append_nil]
      · simp at h
theorem take_cases (s : List UInt8) : (takeS s).1 = 0 ∨ takeS s = (2, []) := by
  unfold takeS; split
  · exact .inl rfl
  · exact .inr rfl
theorem putA {l : List (List Int)} {k m : Nat} {a : Int} (hk : k ≤ 1048576) : (uintB m ++ encU k l).length + (uintB a).length ≤ 9223372036854775807 := by
  have h1 := uintB_le (m : Int); have h2 := encU_len l k; have h3 := uintB_le a
  simp only [List.length_append]; omega
theorem putA2 {l : List (List Int)} {k m : Nat} {a b : Int} (hk : k ≤ 1048576) : (uintB m ++ encU k l ++ uintB a).length + (uintB b).length ≤ 9223372036854775807 := by
  have h1 := uintB_le (m : Int); have h2 := encU_len l k; have h3 := uintB_le a; have h4 := uintB_le b
  simp only [List.length_append]; omega
theorem putA3 {l : List (List Int)} {k m : Nat} {a b c : Int} (hk : k ≤ 1048576) : (uintB m ++ encU k l ++ uintB a ++ uintB b).length + (uintB c).length ≤ 9223372036854775807 := by
  have h1 := uintB_le (m : Int); have h2 := encU_len l k; have h3 := uintB_le a; have h4 := uintB_le b; have h5 := uintB_le c
  simp only [List.length_append]; omega
theorem putA4 {l : List (List Int)} {k m : Nat} {a b c d : Int} (hk : k ≤ 1048576) : (uintB m ++ encU k l ++ uintB a ++ uintB b ++ uintB c).length + (uintB d).length ≤ 9223372036854775807 := by
  have h1 := uintB_le (m : Int); have h2 := encU_len l k; have h3 := uintB_le a; have h4 := uintB_le b; have h5 := uintB_le c; have h6 := uintB_le d
  simp only [List.length_append]; omega
end Go.XG
namespace Go.XG
theorem take_split {s : List UInt8} {e : Int} {x : List (List Int)} (h : takeS s = (e, x)) : (e = 0 ∧ loadL x = some x ∧ Go.Pen.uintB 0 = Go.Pen.uintB 0 ∧ putB x = s) ∨ (e = 2 ∧ x = []) := by
  rcases take_cases s with h0 | h0
  · rw [h] at h0
    simp only at h0
    subst h0
    have := take_put h
    exact .inl ⟨rfl, this.1, rfl, this.2.1⟩
  · rw [h] at h0
    simp only [Prod.mk.injEq] at h0
    exact .inr h0
end Go.XG
namespace Go.XG
theorem done_bad {l : List UInt8} : ¬ Go.Pen.doneS (l, true) = true := by simp [Go.Pen.doneS]
end Go.XG
