/-
  What the laws are given, opened. Printed by a program.
-/
import Derived.Test.YtoabjfmegnjicaaXy
import Derived.Test.YtoabjfmegnjicaaI
import Derived.Test.YtoabjfmegnjicaaD
namespace Go.XG
open Go.Proofs Go.ChangeShapes Go.WideShapes Go.RowKit
instance : Flat Try.prog 3 1 := Flat.int Try.underlying3 (by kernel_rfl)
instance : Flat Try.prog 23 4 := Flat.struct Try.underlying23 (.cons rfl (inferInstance : Flat Try.prog 3 1) (.cons rfl (inferInstance : Flat Try.prog 3 1) (.cons rfl (inferInstance : Flat Try.prog 3 1) (.cons rfl (inferInstance : Flat Try.prog 3 1) (.nil _))))) (by kernel_rfl)
instance : Flat Try.prog 44 2 := Flat.struct Try.underlying44 (.cons rfl (inferInstance : Flat Try.prog 3 1) (.cons rfl (inferInstance : Flat Try.prog 3 1) (.nil _))) (by kernel_rfl)
instance : Flat Try.prog 74 5 := Flat.struct Try.underlying74 (.cons rfl (inferInstance : Flat Try.prog 23 4) (.cons rfl (inferInstance : Flat Try.prog 3 1) (.nil _))) (by kernel_rfl)
theorem of4 {ns : List Int} (h : ns.length = 4) : ∃ x0 x1 x2 x3, ns = [x0, x1, x2, x3] := by
  match ns, h with
  | [x0, x1, x2, x3], _ => exact ⟨_, _, _, _, rfl⟩
theorem of1 {ns : List Int} (h : ns.length = 1) : ∃ x0, ns = [x0] := by
  match ns, h with
  | [x0], _ => exact ⟨_, rfl⟩
section
variable {Hd : Type} {enc : TypeId × Value → Hd} {W : World} {a : Option Addr} {n m : Nat} {d : DataW Hd} {p : List MemPlace}
theorem open_stks (h : DataW.Trod enc Try.prog W 0 (fun _ => true) true 24 (.slice a n m) d p) : ∃ l : List Stack, n = l.length ∧ Stks W.heap a l := by
  obtain ⟨l, rfl, h1, _⟩ := slice_flat (k := 2) Try.underlying24 (by omega) h
  obtain ⟨s, h2, h3⟩ := rows_stks h1
  exact ⟨s, h2.symm, h3⟩
theorem cells26 : Try.prog.cellsOf 26 = 11 := by kernel_rfl
theorem cells24 : Try.prog.cellsOf 24 = 1 := by kernel_rfl
theorem cells23 : Try.prog.cellsOf 23 = 4 := by kernel_rfl
theorem cells3 : Try.prog.cellsOf 3 = 1 := by kernel_rfl
theorem act_cells {cs : List Value} {k0 k1 a0 a1 a2 a3 b0 b1 b2 b3 : Int} {l : List Stack} {sa : Option Addr} {sc : Nat} (hl : cs.length = 11) (e0 : (cs.drop 0).take 1 = [.int .i64 k0]) (e1 : (cs.drop 1).take 1 = [.int .i64 k1])
    (e2 : (cs.drop 2).take 4 = ints [a0, a1, a2, a3]) (e3 : (cs.drop 6).take 4 = ints [b0, b1, b2, b3]) (e4 : (cs.drop 10).take 1 = [.slice sa l.length sc]) : cs = acs ⟨k0, k1, a0, a1, a2, a3, b0, b1, b2, b3, l, sa, sc⟩ := by
  match cs, hl with
  | [c0, c1, c2, c3, c4, c5, c6, c7, c8, c9, c10], _ =>
    simp [ints] at e0 e1 e2 e3 e4
    obtain ⟨rfl, rfl, rfl, rfl⟩ := e2
    obtain ⟨rfl, rfl, rfl, rfl⟩ := e3
    subst e0 e1 e4
    rfl
theorem open_act0 {fuel : Nat} {cs : List Value} {y : DataW Hd × List MemPlace} (h : DataW.trod enc Try.prog W 0 (fun _ => true) true fuel 26 cs = some y) : ∃ r : BAct, cs = acs r ∧ Stks W.heap r.sa r.s ∧ r.n < 9223372036854775808 := by
  obtain ⟨xs, n', _, _, hl, hxl, hf⟩ := DataW.trod_struct Try.underlying26 h
  rw [cells26] at hl
  have gs : ∀ i (hi : i < 5), xs[i]? = some (xs[i]'(by rw [hxl]; exact hi)) := fun i hi => List.getElem?_eq_getElem _
  have h0 : DataW.trod enc Try.prog W 0 (fun _ => true) true n' 3 ((cs.drop 0).take (Try.prog.cellsOf 3)) = some _ := (hf 0 _ rfl).trans (gs 0 (by omega))
  have h1 : DataW.trod enc Try.prog W 0 (fun _ => true) true n' 3 ((cs.drop 1).take (Try.prog.cellsOf 3)) = some _ := (hf 1 _ rfl).trans (gs 1 (by omega))
  have h2 : DataW.trod enc Try.prog W 0 (fun _ => true) true n' 23 ((cs.drop 2).take (Try.prog.cellsOf 23)) = some _ := (hf 2 _ rfl).trans (gs 2 (by omega))
  have h3 : DataW.trod enc Try.prog W 0 (fun _ => true) true n' 23 ((cs.drop 6).take (Try.prog.cellsOf 23)) = some _ := (hf 3 _ rfl).trans (gs 3 (by omega))
  have h4 : DataW.trod enc Try.prog W 0 (fun _ => true) true n' 24 ((cs.drop 10).take (Try.prog.cellsOf 24)) = some _ := (hf 4 _ rfl).trans (gs 4 (by omega))
  rw [cells3] at h0 h1
  rw [cells23] at h2 h3
  rw [cells24] at h4
  obtain ⟨k0, e0, i0⟩ := DataW.trod_int Try.underlying3 h0
  obtain ⟨q1, e1, l1, i1⟩ := (inferInstance : Flat Try.prog 3 1).h h1
  obtain ⟨k1, rfl⟩ := of1 l1
  obtain ⟨q2, e2, l2, _⟩ := (inferInstance : Flat Try.prog 23 4).h h2
  obtain ⟨q3, e3, l3, _⟩ := (inferInstance : Flat Try.prog 23 4).h h3
  obtain ⟨a0, a1, a2, a3, rfl⟩ := of4 l2
  obtain ⟨b0, b1, b2, b3, rfl⟩ := of4 l3
  obtain ⟨sa, sn, sc, e4⟩ := slice_form Try.underlying24 h4
  rw [e4] at h4
  obtain ⟨l4, rfl, hs4⟩ := open_stks (a := sa) (n := sn) (m := sc) (d := _) (p := _) ⟨n', h4⟩
  refine ⟨⟨k0, k1, a0, a1, a2, a3, b0, b1, b2, b3, l4, sa, sc⟩, ?_, hs4, ?_⟩
  · exact act_cells hl e0 e1 e2 e3 e4
  · exact (i1 k1 (by simp)).2
theorem slice_acts (h : DataW.Trod enc Try.prog W 0 (fun _ => true) true 46 (.slice a n m) d p) : ∃ A : List BAct, n = A.length ∧ Acts W.heap a A ∧ ∀ i, i < A.length → (gA A i).n < 9223372036854775808 := by
  obtain ⟨hnm, hm, h0 | ⟨b, off, rfl, hi⟩⟩ := slice_cells Try.underlying46 cells26 (by omega) h
  · subst h0; exact ⟨[], rfl, .inl rfl, fun i hi => absurd hi (by simp)⟩
  · obtain ⟨l, hl, hx⟩ := collect (default : BAct) (R := fun i r => (Row W.heap b (off + i * 11) (acs r) ∧ Stks W.heap r.sa r.s) ∧ r.n < 9223372036854775808) n (fun i hin => by
      obtain ⟨cs, fuel, y, h1, h2, h3⟩ := hi i hin
      obtain ⟨r, rfl, g2, g3⟩ := open_act0 h3
      exact ⟨r, ⟨h2, g2⟩, g3⟩)
    subst hl
    exact ⟨l, rfl, .inr ⟨b, off, rfl, fun i hi => (hx i hi).1⟩, fun i hi => (hx i hi).2⟩
theorem open_act {v : Value} {cs : Array Value} (hv : v = .agg cs) (h : DataW.Trod enc Try.prog W 0 (fun _ => true) true 26 v d p) : ∃ r : BAct, v = .agg (acs r).toArray ∧ Stks W.heap r.sa r.s := by
  subst hv
  obtain ⟨fuel, h⟩ := h
  obtain ⟨r, h1, h2, _⟩ := open_act0 h
  refine ⟨r, ?_, h2⟩
  rw [← h1]; simp [Value.cells]
end
end Go.XG
