/-
  A job as bytes, in plain Lean: what is put is taken as it was, and no other bytes lead there.
-/
import Derived.Test.YtmmogpcmpbkajaaBj
namespace Go.XG
open Go.Pen
def n11 (j : J) : List Int := [j.id, j.kind, j.owner, j.div, j.man, j.bay, j.draft, j.runs, j.copies, j.time, j.fee]
def n4 (j : J) : List Int := [j.st, j.beg, j.fin, j.left]
def putB (j : J) : List UInt8 := encK (n11 j) ++ encL j.needs ++ encK (n4 j)
def mkJ (ns : List Int) (gs : List Stack) (ms : List Int) : J :=
  ⟨ns.getD 0 0, ns.getD 1 0, ns.getD 2 0, ns.getD 3 0, ns.getD 4 0, ns.getD 5 0, ns.getD 6 0, ns.getD 7 0, ns.getD 8 0, ns.getD 9 0, ns.getD 10 0, gs, ms.getD 0 0, ms.getD 1 0, ms.getD 2 0, ms.getD 3 0⟩
theorem get11 : ∀ {ns : List Int}, ns.length = 11 → ∀ {gs : List Stack} {ms : List Int}, n11 (mkJ ns gs ms) = ns
  | [_, _, _, _, _, _, _, _, _, _, _], _, _, _ => rfl
theorem get4 : ∀ {ms : List Int}, ms.length = 4 → ∀ {gs : List Stack} {ns : List Int}, n4 (mkJ ns gs ms) = ms
  | [_, _, _, _], _, _, _ => rfl
def jobS (st : St) : J × St :=
  (mkJ (rdU 11 st).1 (rdL (rdU 11 st).2).1 (rdU 4 (rdL (rdU 11 st).2).2).1, (rdU 4 (rdL (rdU 11 st).2).2).2)
section
variable {st s1 s2 s3 s4 : St} {ns ms : List Int} {gs : List Stack} {d : J}
theorem job_eq (h1 : rdU 11 st = (ns, s1)) (h2 : rdL s1 = (gs, s2)) (h4 : rdU 4 s2 = (ms, s4)) : jobS st = (mkJ ns gs ms, s4) := by
  simp only [jobS, h1, h2, h4]
def readS (s : List UInt8) : Int × J := if doneS (jobS (s, false)).2 = true ∧ Good (jobS (s, false)).1 then (0, (jobS (s, false)).1) else (2, J0)
theorem read_ok {s : List UInt8} (h : jobS (s, false) = (d, s1)) (hd : doneS s1 = true) (hg : Good d) : (0, d) = readS s := by
  unfold readS; rw [h]; exact (if_pos ⟨hd, hg⟩).symm
theorem read_nd {s : List UInt8} (h : (jobS (s, false)).2 = s1) (hd : doneS s1 = false) : (2, J0) = readS s := by
  unfold readS; rw [h]; exact (if_neg (fun hc => absurd hc.1 (by rw [hd]; decide))).symm
theorem read_ng {s : List UInt8} (h : jobS (s, false) = (d, s1)) (hg : ¬ Good d) : (2, J0) = readS s := by
  unfold readS; rw [h]; exact (if_neg (fun hc => hg hc.2)).symm
theorem read_cases (s : List UInt8) : (readS s).1 = 0 ∧ Good (readS s).2 ∨ readS s = (2, J0) := by
  unfold readS; split
  · rename_i h; exact .inl ⟨rfl, h.2⟩
  · exact .inr rfl
end
theorem job_wrote {s : List UInt8} {d : J} {l : List UInt8} (h : jobS (s, false) = (d, (l, false))) : s = putB d ++ l := by
  unfold jobS at h
  cases h1 : rdU 11 (s, false) with
  | mk ns s1 => cases h2 : rdL s1 with
    | mk gs s2 => cases h4 : rdU 4 s2 with
        | mk ms s4 =>
          simp only [h1, h2, h4, Prod.mk.injEq] at h
          obtain ⟨rfl, rfl⟩ := h
          obtain ⟨l2, b2⟩ := s2
          obtain ⟨rfl, e4⟩ := rdU_wrote 4 h4
          obtain ⟨l1, b1⟩ := s1
          obtain ⟨rfl, e2⟩ := rdL_wrote h2
          obtain ⟨_, e1⟩ := rdU_wrote 11 h1
          have hn : ns.length = 11 := by have := rdU_len 11 (s, false); rw [h1] at this; exact this
          have hm : ms.length = 4 := by have := rdU_len 4 (l2, false); rw [h4] at this; exact this
          unfold putB
          rw [get11 hn, get4 hm, e1, e2, e4]
          simp [mkJ]
theorem good_11 {d : J} (h : Good d) : ∀ x ∈ n11 d, InU x := by
  obtain ⟨h1, h2, h3, -⟩ := h
  unfold Six at h1; unfold Nums at h2; unfold Cops at h3
  intro x hx
  simp only [n11, List.mem_cons, List.not_mem_nil, or_false] at hx
  unfold InU
  rcases hx with rfl | rfl | rfl | rfl | rfl | rfl | rfl | rfl | rfl | rfl | rfl <;> omega
theorem good_4 {d : J} (h : Good d) : ∀ x ∈ n4 d, InU x := by
  obtain ⟨h1, -, -, -, h5⟩ := h
  unfold Six at h1; unfold Stands at h5
  intro x hx
  simp only [n4, List.mem_cons, List.not_mem_nil, or_false] at hx
  unfold InU
  rcases hx with rfl | rfl | rfl | rfl <;> omega
theorem good_nl {d : J} (h : Good d) : d.needs.length ≤ 8 := h.2.2.2.1.1.2
theorem good_n {d : J} (h : Good d) : ∀ x ∈ d.needs, InU x.1 ∧ InU x.2 := goods_in d.needs 0 (by decide) (by decide) h.2.2.2.1.1.1
theorem good_12 {d : J} (h : Good d) : ∀ x ∈ n11 d ++ [(d.needs.length : Int)], InU x := fun x hx => by
  rcases List.mem_append.1 hx with hx | hx
  · exact good_11 h x hx
  · have := good_nl h
    simp at hx; subst hx; unfold InU; omega
theorem put_read {d : J} (h : Good d) : readS (putB d) = (0, d) := by
  have h1 := rdU_back (r := encL d.needs ++ (encK (n4 d) ++ [])) (xs := n11 d) 11 (Nat.le_refl _) (good_11 h)
  have h2 := rdL_back (r := encK (n4 d) ++ []) (good_nl h) (good_n h)
  have h4 := rdU_back (r := []) (xs := n4 d) 4 (Nat.le_refl _) (good_4 h)
  have e : putB d = encK (n11 d) ++ (encL d.needs ++ (encK (n4 d) ++ [])) := by simp [putB]
  have e1 : (encK ((n11 d).drop 11) ++ (encL d.needs ++ (encK (n4 d) ++ []))) = encL d.needs ++ (encK (n4 d) ++ []) := rfl
  rw [e1] at h1
  have hd := job_eq h1 h2 h4
  rw [← e] at hd
  exact (read_ok hd rfl h).symm
theorem read_put {s : List UInt8} {d : J} (h : readS s = (0, d)) : Good d ∧ putB d = s := by
  unfold readS at h
  cases hd : jobS (s, false) with
  | mk x q =>
    obtain ⟨l, b⟩ := q
    rw [hd] at h
    split at h
    · rename_i hc
      simp only [Prod.mk.injEq, true_and] at h
      subst h
      obtain ⟨rfl, rfl⟩ := doneS_true hc.1
      exact ⟨hc.2, by rw [job_wrote hd, List.append_nil]⟩
    · simp at h
theorem read_split {s : List UInt8} {e : Int} {x : J} (h : (e, x) = readS s) : (e = 0 ∧ Good x ∧ putB x = s) ∨ (e = 2 ∧ x = J0) := by
  rcases read_cases s with h0 | h0
  · rw [← h] at h0
    have h1 : e = 0 := h0.1
    subst h1
    exact .inl ⟨rfl, read_put h.symm⟩
  · rw [h0] at h
    simp only [Prod.mk.injEq] at h
    exact .inr h
theorem put_a (j : J) : [] ++ encK (n11 j ++ [(j.needs.length : Int)]) = encK (n11 j) ++ (uintB j.needs.length ++ encK (flat (j.needs.take 0))) := by
  rw [encK_app]; simp [flat, encK]
/-- The array of fifteen. -/
def ar15 (ns : List Int) : List Int := ns ++ List.replicate (15 - ns.length) 0
theorem ar15_len {ns : List Int} (h : ns.length ≤ 15) : (ar15 ns).length = 15 := by simp [ar15]; omega
theorem ar15_set {ns : List Int} {n : Int} (h : ns.length < 15) : setRange (ints (ar15 ns)) (0 + ns.length * 1) [.int .i64 n] = ints (ar15 (ns ++ [n])) := by
  unfold setRange ar15
  rw [show 15 - ns.length = (15 - (ns ++ [n]).length) + 1 by simp; omega, List.replicate_succ]
  simp [ints]
  rfl
theorem ar15_all : ∀ {ns : List Int}, ns.length = 11 → ∀ {ms : List Int}, ms.length = 4 → ar15 (ns ++ ms) = [ns.getD 0 0, ns.getD 1 0, ns.getD 2 0, ns.getD 3 0, ns.getD 4 0, ns.getD 5 0, ns.getD 6 0, ns.getD 7 0, ns.getD 8 0, ns.getD 9 0, ns.getD 10 0, ms.getD 0 0, ms.getD 1 0, ms.getD 2 0, ms.getD 3 0]
  | [_, _, _, _, _, _, _, _, _, _, _], _, [_, _, _, _], _ => rfl
section
variable {st s1 s2 s3 s4 : St} {ns ms : List Int} {gs : List Stack}
theorem scan_st (h1 : rdU 11 st = (ns, s1)) (h2 : (rdL s1).2 = s2) (h4 : rdU 4 s2 = (ms, s4)) : (jobS st).2 = s4 := by
  simp only [jobS, h1, h2, h4]
theorem scan_x (h1 : rdU 11 st = (ns, s1)) (h2 : (rdL s1).2 = s2) (h4 : rdU 4 s2 = (ms, s4)) (g2 : s2.2 = false → gs = (rdL s1).1) (hb : s4.2 = false) :
    mkJ ns gs ms = (jobS st).1 := by
  have b2 : s2.2 = false := rdU_clean (k := 4) (by rw [h4]; exact hb)
  rw [g2 b2]
  simp only [jobS, h1, h2, h4]
end
theorem read_ok2 {s : List UInt8} {x : J} {st : St} (h : (jobS (s, false)).2 = st) (hx : st.2 = false → x = (jobS (s, false)).1) (hd : doneS st = true) (hg : Good x) : (0, x) = readS s := by
  have hb : st.2 = false := by
    obtain ⟨l, b⟩ := st
    exact (doneS_true hd).1
  have := hx hb
  subst this
  unfold readS; rw [h]; exact (if_pos ⟨hd, hg⟩).symm
theorem read_ng2 {s : List UInt8} {x : J} {st : St} (h : (jobS (s, false)).2 = st) (hx : st.2 = false → x = (jobS (s, false)).1) (hd : doneS st = true) (hg : ¬ Good x) : (2, J0) = readS s := by
  have hb : st.2 = false := by
    obtain ⟨l, b⟩ := st
    exact (doneS_true hd).1
  have := hx hb
  subst this
  unfold readS; exact (if_neg (fun hc => hg hc.2)).symm
theorem jcs_snoc {H : Heap} {b t c : Nat} {ns : List Int} {xs : List Stack} {p : Stack} {a va : Option Addr} {vc : Nat} (h : Blk H b (setRange (jcs (mkJ ns xs []) va vc) 11 [.slice a (xs.length + 1) c]) t) :
    Blk H b (jcs (mkJ ns (xs ++ [p]) []) a c) t := by
  have e : (mkJ ns (xs ++ [p]) []).needs.length = xs.length + 1 := by simp [mkJ]
  unfold jcs
  rw [e]
  exact h
theorem rdU_11 {st t0 t1 t2 t3 t4 t5 t6 t7 t8 t9 u0 : St} {x0 x1 x2 x3 x4 x5 x6 x7 x8 x9 y0 : Nat} (h0 : uintS 9223372036854775807 st = (x0, t0)) (h1 : uintS 9223372036854775807 t0 = (x1, t1)) (h2 : uintS 9223372036854775807 t1 = (x2, t2)) (h3 : uintS 9223372036854775807 t2 = (x3, t3))
    (h4 : uintS 9223372036854775807 t3 = (x4, t4)) (h5 : uintS 9223372036854775807 t4 = (x5, t5)) (h6 : uintS 9223372036854775807 t5 = (x6, t6)) (h7 : uintS 9223372036854775807 t6 = (x7, t7)) (h8 : uintS 9223372036854775807 t7 = (x8, t8)) (h9 : uintS 9223372036854775807 t8 = (x9, t9))
    (k0 : uintS 9223372036854775807 t9 = (y0, u0)) :
    rdU 11 st = ([(x0 : Int), (x1 : Int), (x2 : Int), (x3 : Int), (x4 : Int), (x5 : Int), (x6 : Int), (x7 : Int), (x8 : Int), (x9 : Int), (y0 : Int)], u0) :=
  rdU_succ (rdU_succ (rdU_succ (rdU_succ (rdU_succ (rdU_succ (rdU_succ (rdU_succ (rdU_succ (rdU_succ (rdU_succ (rdU_zero st) h0) h1) h2) h3) h4) h5) h6) h7) h8) h9) k0
end Go.XG
