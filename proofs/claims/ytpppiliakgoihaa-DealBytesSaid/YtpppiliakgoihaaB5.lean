/-
  A contract as bytes, in plain Lean: what is put is taken as it was, and no other bytes lead there.
-/
import Derived.Test.YtpppiliakgoihaaBn
import Derived.Test.YtpppiliakgoihaaP
namespace Go.XG
open Go.Pen
def n13 (d : D) : List Int := [d.id, d.kind, d.iss, d.div, d.man, d.to, d.place, d.dest, d.pay, d.pledge, d.lasts, d.days, d.fee]
def n4 (d : D) : List Int := [d.st, d.due, d.taker, d.into]
def putB (d : D) : List UInt8 := encK (n13 d) ++ encL d.gives ++ encL d.wants ++ encK (n4 d)
def mkD (ns : List Int) (gs ws : List Stack) (ms : List Int) : D :=
  ⟨ns.getD 0 0, ns.getD 1 0, ns.getD 2 0, ns.getD 3 0, ns.getD 4 0, ns.getD 5 0, ns.getD 6 0, ns.getD 7 0, ns.getD 8 0, ns.getD 9 0, ns.getD 10 0, ns.getD 11 0, ns.getD 12 0, gs, ws, ms.getD 0 0, ms.getD 1 0, ms.getD 2 0, ms.getD 3 0⟩
theorem mkD_self (d : D) : mkD (n13 d) d.gives d.wants (n4 d) = d := rfl
theorem get13 : ∀ {ns : List Int}, ns.length = 13 → ∀ {gs ws : List Stack} {ms : List Int}, n13 (mkD ns gs ws ms) = ns
  | [_, _, _, _, _, _, _, _, _, _, _, _, _], _, _, _, _ => rfl
theorem get4 : ∀ {ms : List Int}, ms.length = 4 → ∀ {gs ws : List Stack} {ns : List Int}, n4 (mkD ns gs ws ms) = ms
  | [_, _, _, _], _, _, _, _ => rfl
def dealS (st : St) : D × St :=
  (mkD (rdU 13 st).1 (rdL (rdU 13 st).2).1 (rdL (rdL (rdU 13 st).2).2).1 (rdU 4 (rdL (rdL (rdU 13 st).2).2).2).1, (rdU 4 (rdL (rdL (rdU 13 st).2).2).2).2)
section
variable {st s1 s2 s3 s4 : St} {ns ms : List Int} {gs ws : List Stack} {d : D}
theorem deal_eq (h1 : rdU 13 st = (ns, s1)) (h2 : rdL s1 = (gs, s2)) (h3 : rdL s2 = (ws, s3)) (h4 : rdU 4 s3 = (ms, s4)) : dealS st = (mkD ns gs ws ms, s4) := by
  simp only [dealS, h1, h2, h3, h4]
def readS (s : List UInt8) : Int × D := if doneS (dealS (s, false)).2 = true ∧ Good (dealS (s, false)).1 then (0, (dealS (s, false)).1) else (2, D0)
theorem read_ok {s : List UInt8} (h : dealS (s, false) = (d, s1)) (hd : doneS s1 = true) (hg : Good d) : (0, d) = readS s := by
  unfold readS; rw [h]; exact (if_pos ⟨hd, hg⟩).symm
theorem read_nd {s : List UInt8} (h : (dealS (s, false)).2 = s1) (hd : doneS s1 = false) : (2, D0) = readS s := by
  unfold readS; rw [h]; exact (if_neg (fun hc => absurd hc.1 (by rw [hd]; decide))).symm
theorem read_ng {s : List UInt8} (h : dealS (s, false) = (d, s1)) (hg : ¬ Good d) : (2, D0) = readS s := by
  unfold readS; rw [h]; exact (if_neg (fun hc => hg hc.2)).symm
theorem read_cases (s : List UInt8) : (readS s).1 = 0 ∧ Good (readS s).2 ∨ readS s = (2, D0) := by
  unfold readS; split
  · rename_i h; exact .inl ⟨rfl, h.2⟩
  · exact .inr rfl
end
theorem deal_wrote {s : List UInt8} {d : D} {l : List UInt8} (h : dealS (s, false) = (d, (l, false))) : s = putB d ++ l := by
  unfold dealS at h
  cases h1 : rdU 13 (s, false) with
  | mk ns s1 => cases h2 : rdL s1 with
    | mk gs s2 => cases h3 : rdL s2 with
      | mk ws s3 => cases h4 : rdU 4 s3 with
        | mk ms s4 =>
          simp only [h1, h2, h3, h4, Prod.mk.injEq] at h
          obtain ⟨rfl, rfl⟩ := h
          obtain ⟨l3, b3⟩ := s3
          obtain ⟨rfl, e4⟩ := rdU_wrote 4 h4
          obtain ⟨l2, b2⟩ := s2
          obtain ⟨rfl, e3⟩ := rdL_wrote h3
          obtain ⟨l1, b1⟩ := s1
          obtain ⟨rfl, e2⟩ := rdL_wrote h2
          obtain ⟨_, e1⟩ := rdU_wrote 13 h1
          have hn : ns.length = 13 := by have := rdU_len 13 (s, false); rw [h1] at this; exact this
          have hm : ms.length = 4 := by have := rdU_len 4 (l3, false); rw [h4] at this; exact this
          unfold putB
          rw [get13 hn, get4 hm, e1, e2, e3, e4]
          simp [mkD]
theorem good_13 {d : D} (h : Good d) : ∀ x ∈ n13 d, InU x := by
  obtain ⟨h1, h2, -, h4, -⟩ := h
  unfold Who at h1; unfold What at h2; unfold Kin at h4
  intro x hx
  simp only [n13, List.mem_cons, List.not_mem_nil, or_false] at hx
  unfold InU
  rcases hx with rfl | rfl | rfl | rfl | rfl | rfl | rfl | rfl | rfl | rfl | rfl | rfl | rfl <;> omega
theorem good_4 {d : D} (h : Good d) : ∀ x ∈ n4 d, InU x := by
  obtain ⟨-, -, -, -, h5⟩ := h
  unfold Stands Due Free Taken at h5
  intro x hx
  simp only [n4, List.mem_cons, List.not_mem_nil, or_false] at hx
  unfold InU
  rcases hx with rfl | rfl | rfl | rfl <;> omega
theorem good_gl {d : D} (h : Good d) : d.gives.length ≤ 8 ∧ d.wants.length ≤ 8 := ⟨by have := h.2.2.1.1.2; omega, by have := h.2.2.1.2.2; omega⟩
theorem good_g {d : D} (h : Good d) : ∀ x ∈ d.gives, InU x.1 ∧ InU x.2 := goods_in d.gives 0 (by decide) (by decide) h.2.2.1.1.1
theorem good_w {d : D} (h : Good d) : ∀ x ∈ d.wants, InU x.1 ∧ InU x.2 := goods_in d.wants 0 (by decide) (by decide) h.2.2.1.2.1
theorem flat_in {l : List Stack} (h : ∀ x ∈ l, InU x.1 ∧ InU x.2) : ∀ x ∈ flat l, InU x := by
  intro x hx
  simp only [flat, List.mem_flatMap, List.mem_cons, List.not_mem_nil, or_false] at hx
  obtain ⟨y, hy, rfl | rfl⟩ := hx
  · exact (h y hy).1
  · exact (h y hy).2
theorem put_read {d : D} (h : Good d) : readS (putB d) = (0, d) := by
  have hl := good_gl h
  have h1 := rdU_back (r := encL d.gives ++ (encL d.wants ++ (encK (n4 d) ++ []))) (xs := n13 d) 13 (Nat.le_refl _) (good_13 h)
  have h2 := rdL_back (r := encL d.wants ++ (encK (n4 d) ++ [])) hl.1 (good_g h)
  have h3 := rdL_back (r := encK (n4 d) ++ []) hl.2 (good_w h)
  have h4 := rdU_back (r := []) (xs := n4 d) 4 (Nat.le_refl _) (good_4 h)
  have e : putB d = encK (n13 d) ++ (encL d.gives ++ (encL d.wants ++ (encK (n4 d) ++ []))) := by simp [putB]
  have e1 : (encK ((n13 d).drop 13) ++ (encL d.gives ++ (encL d.wants ++ (encK (n4 d) ++ [])))) = encL d.gives ++ (encL d.wants ++ (encK (n4 d) ++ [])) := rfl
  rw [e1] at h1
  have hd := deal_eq h1 h2 h3 h4
  rw [← e] at hd
  exact (read_ok hd rfl h).symm
theorem read_put {s : List UInt8} {d : D} (h : readS s = (0, d)) : Good d ∧ putB d = s := by
  unfold readS at h
  cases hd : dealS (s, false) with
  | mk x q =>
    obtain ⟨l, b⟩ := q
    rw [hd] at h
    split at h
    · rename_i hc
      simp only [Prod.mk.injEq, true_and] at h
      subst h
      obtain ⟨rfl, rfl⟩ := doneS_true hc.1
      exact ⟨hc.2, by rw [deal_wrote hd, List.append_nil]⟩
    · simp at h
theorem read_split {s : List UInt8} {e : Int} {x : D} (h : (e, x) = readS s) : (e = 0 ∧ Good x ∧ putB x = s) ∨ (e = 2 ∧ x = D0) := by
  rcases read_cases s with h0 | h0
  · rw [← h] at h0
    have h1 : e = 0 := h0.1
    subst h1
    exact .inl ⟨rfl, read_put h.symm⟩
  · rw [h0] at h
    simp only [Prod.mk.injEq] at h
    exact .inr h
/-! The lists, by number. -/
def gw (d : D) (k : Nat) : List Stack := if k = 0 then d.gives else d.wants
def encW (d : D) : Nat → List UInt8
  | 0 => []
  | k + 1 => encW d k ++ encL (gw d k)
theorem gw_len {d : D} {k m : Nat} (h : d.gives.length ≤ m) (h' : d.wants.length ≤ m) : (gw d k).length ≤ m := by unfold gw; split <;> assumption
theorem encW_le {d : D} {k : Nat} (h : d.gives.length ≤ 12) (h' : d.wants.length ≤ 12) : (encW d k).length ≤ 250 * k := by
  induction k with
  | zero => simp [encW]
  | succ k ih =>
    have h1 := encL_len (gw d k)
    have h2 := gw_len (k := k) h h'
    simp only [encW, List.length_append]
    omega
theorem ld_gw {H : Heap} {b0 t : Nat} {d : D} {a b : Option Addr} {c e k : Nat} (h : Blk H b0 [.slice a d.gives.length c, .slice b d.wants.length e] t) (hk : k < 2) :
    cellAt H b0 (0 + k * 1) = some (.slice (if k = 0 then a else b) (gw d k).length (if k = 0 then c else e)) := by
  rw [h.cell]
  rcases (show k = 0 ∨ k = 1 by omega) with rfl | rfl <;> rfl
theorem gw_stks {H : Heap} {d : D} {a b : Option Addr} {k : Nat} (h : Stks H a d.gives) (h' : Stks H b d.wants) : Stks H (if k = 0 then a else b) (gw d k) := by
  unfold gw; split <;> assumption
theorem put_end {d : D} {k : Nat} (h : ¬ k < 2) (hk : k ≤ 2) : encK (n13 d) ++ encW d k ++ encK (n4 d) = putB d := by
  obtain rfl : k = 2 := by omega
  simp [encW, gw, putB]
/-- The array of seventeen. -/
def ar17 (ns : List Int) : List Int := ns ++ List.replicate (17 - ns.length) 0
theorem ar17_len {ns : List Int} (h : ns.length ≤ 17) : (ar17 ns).length = 17 := by simp [ar17]; omega
theorem ar17_set {ns : List Int} {n : Int} (h : ns.length < 17) : setRange (ints (ar17 ns)) (0 + ns.length * 1) [.int .i64 n] = ints (ar17 (ns ++ [n])) := by
  unfold setRange ar17
  rw [show 17 - ns.length = (17 - (ns ++ [n]).length) + 1 by simp; omega, List.replicate_succ]
  simp [ints]
  rfl
theorem ar17_get {ns : List Int} {k : Nat} (h : k < ns.length) : (ar17 ns).getD k 0 = ns.getD k 0 := by
  simp [ar17, List.getElem?_append_left h, h]
theorem ar17_all : ∀ {ns : List Int}, ns.length = 13 → ∀ {ms : List Int}, ms.length = 4 → ar17 (ns ++ ms) = [ns.getD 0 0, ns.getD 1 0, ns.getD 2 0, ns.getD 3 0, ns.getD 4 0, ns.getD 5 0, ns.getD 6 0, ns.getD 7 0, ns.getD 8 0, ns.getD 9 0, ns.getD 10 0, ns.getD 11 0, ns.getD 12 0, ms.getD 0 0, ms.getD 1 0, ms.getD 2 0, ms.getD 3 0]
  | [_, _, _, _, _, _, _, _, _, _, _, _, _], _, [_, _, _, _], _ => rfl
section
variable {st s1 s2 s3 s4 : St} {ns ms : List Int} {gs ws : List Stack}
theorem scan_st (h1 : rdU 13 st = (ns, s1)) (h2 : (rdL s1).2 = s2) (h3 : (rdL s2).2 = s3) (h4 : rdU 4 s3 = (ms, s4)) : (dealS st).2 = s4 := by
  simp only [dealS, h1, h2, h3, h4]
theorem scan_x (h1 : rdU 13 st = (ns, s1)) (h2 : (rdL s1).2 = s2) (h3 : (rdL s2).2 = s3) (h4 : rdU 4 s3 = (ms, s4)) (g2 : s2.2 = false → gs = (rdL s1).1) (g3 : s3.2 = false → ws = (rdL s2).1) (hb : s4.2 = false) :
    mkD ns gs ws ms = (dealS st).1 := by
  have b3 : s3.2 = false := rdU_clean (k := 4) (by rw [h4]; exact hb)
  have b2 : s2.2 = false := rdL_clean (by rw [h3]; exact b3)
  rw [g2 b2, g3 b3]
  simp only [dealS, h1, h2, h3, h4]
end
theorem read_ok2 {s : List UInt8} {x : D} {st : St} (h : (dealS (s, false)).2 = st) (hx : st.2 = false → x = (dealS (s, false)).1) (hd : doneS st = true) (hg : Good x) : (0, x) = readS s := by
  have hb : st.2 = false := by
    obtain ⟨l, b⟩ := st
    exact (doneS_true hd).1
  have := hx hb
  subst this
  unfold readS; rw [h]; exact (if_pos ⟨hd, hg⟩).symm
theorem read_ng2 {s : List UInt8} {x : D} {st : St} (h : (dealS (s, false)).2 = st) (hx : st.2 = false → x = (dealS (s, false)).1) (hd : doneS st = true) (hg : ¬ Good x) : (2, D0) = readS s := by
  have hb : st.2 = false := by
    obtain ⟨l, b⟩ := st
    exact (doneS_true hd).1
  have := hx hb
  subst this
  unfold readS; exact (if_neg (fun hc => hg hc.2)).symm
end Go.XG
