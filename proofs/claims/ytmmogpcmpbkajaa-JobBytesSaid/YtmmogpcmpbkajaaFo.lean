/-
  What the laws are given, opened: slices of pairs, jobs.
-/
import Derived.Test.YtmmogpcmpbkajaaXz
import Derived.Test.YtmmogpcmpbkajaaL
namespace Go.XG
open Go.Proofs Go.ChangeShapes Go.WideShapes Go.RowKit
variable {Hd : Type} {enc : TypeId × Value → Hd} {W : World} {a : Option Addr} {n m : Nat} {d : DataW Hd} {p : List MemPlace}
theorem cells3 : Try.prog.cellsOf 3 = 1 := by kernel_rfl
theorem open_pairs {t e : TypeId} {fs : Array Field} {g0 g1 : Field} (ht : Try.prog.underlying t = some (.slice e)) (he : Try.prog.underlying e = some (.struct fs)) (hC : Try.prog.cellsOf e = 2)
    (e0 : fs[0]? = some g0) (e1 : fs[1]? = some g1) (o0 : g0.offset = 0) (o1 : g1.offset = 1) (t0 : g0.type = 3) (t1 : g1.type = 3)
    (h : DataW.Trod enc Try.prog W 0 (fun _ => true) true t (.slice a n m) d p) :
    ∃ l : List Stack, n = l.length ∧ Stks W.heap a l := by
  obtain ⟨_, _, h0 | ⟨b, off, rfl, hi⟩⟩ := slice_cells ht hC (by omega) h
  · subst h0; exact ⟨[], rfl, .inl rfl⟩
  · obtain ⟨xs, hl, hx⟩ := collect ((0, 0) : Int × Int) (R := fun i x => cellAt W.heap b (off + i * 2) = some (.int .i64 x.1) ∧ cellAt W.heap b (off + i * 2 + 1) = some (.int .i64 x.2)) n (fun i hin => by
      obtain ⟨cs, fuel, y, h1, h2, h3⟩ := hi i hin
      obtain ⟨ys, n', _, _, _, hy, hf⟩ := DataW.trod_struct he h3
      have f0 := hf 0 _ e0
      have f1 := hf 1 _ e1
      rw [t0, o0, cells3] at f0
      rw [t1, o1, cells3] at f1
      have l0 : 0 < fs.size := (Array.getElem?_eq_some_iff.1 e0).1
      have l1 : 1 < fs.size := (Array.getElem?_eq_some_iff.1 e1).1
      match cs, h1 with
      | [c0, c1], _ =>
        obtain ⟨z0, e0, _, _⟩ := DataW.trod_int Try.underlying3 (f0.trans (List.getElem?_eq_getElem (show 0 < ys.length by omega)))
        obtain ⟨z1, e1, _, _⟩ := DataW.trod_int Try.underlying3 (f1.trans (List.getElem?_eq_getElem (show 1 < ys.length by omega)))
        simp at e0 e1
        subst e0 e1
        exact ⟨(z0, z1), h2 0 _ rfl, h2 1 _ rfl⟩)
    subst hl
    exact ⟨xs, rfl, .inr ⟨b, off, rfl, hx⟩⟩
theorem slice_form {t e : TypeId} {cs : List Value} {fuel : Nat} {y : DataW Hd × List MemPlace} (ht : Try.prog.underlying t = some (.slice e)) (h : DataW.trod enc Try.prog W 0 (fun _ => true) true fuel t cs = some y) : ∃ a n m, cs = [.slice a n m] := by
  rcases Deep.open_slice ht h with ⟨hcs, _⟩ | ⟨_, _, _, _, _, _, _, hcs, _⟩
  · exact ⟨_, _, _, hcs⟩
  · exact ⟨_, _, _, hcs⟩
theorem cells26 : Try.prog.cellsOf 26 = 16 := by kernel_rfl
theorem cells24 : Try.prog.cellsOf 24 = 1 := by kernel_rfl
theorem open_stks (h : DataW.Trod enc Try.prog W 0 (fun _ => true) true 24 (.slice a n m) d p) : ∃ l : List Stack, n = l.length ∧ Stks W.heap a l :=
  open_pairs Try.underlying24 Try.underlying53 (by kernel_rfl) rfl rfl rfl rfl rfl rfl h
theorem open_job {v : Value} {cs : Array Value} (hv : v = .agg cs) (h : DataW.Trod enc Try.prog W 0 (fun _ => true) true 26 v d p) :
    ∃ (j : J) (a : Option Addr) (c : Nat), v = .agg (jcs j a c).toArray ∧ Stks W.heap a j.needs := by
  subst hv
  obtain ⟨fuel, h⟩ := h
  obtain ⟨xs, n', _, _, hl, hxl, hf⟩ := DataW.trod_struct Try.underlying26 h
  rw [cells26] at hl
  have gi : ∀ i z, (∃ f, (f : Field).type = 3 ∧ f.offset = i ∧ (DataW.trod enc Try.prog W 0 (fun _ => true) true n' f.type (((Value.agg cs).cells.toList.drop f.offset).take (Try.prog.cellsOf f.type)) = some z)) → ∃ k, ((Value.agg cs).cells.toList.drop i).take 1 = [.int .i64 k] := by
    rintro i z ⟨f, h1, h2, h3⟩
    rw [h1, h2, cells3] at h3
    obtain ⟨k, e, _⟩ := DataW.trod_int Try.underlying3 h3
    exact ⟨k, e⟩
  have gs : ∀ i (hi : i < 16), xs[i]? = some (xs[i]'(by rw [hxl]; exact hi)) := fun i hi => List.getElem?_eq_getElem _
  obtain ⟨k0, e0⟩ := gi 0 _ ⟨_, rfl, rfl, (hf 0 _ rfl).trans (gs 0 (by omega))⟩
  obtain ⟨k1, e1⟩ := gi 1 _ ⟨_, rfl, rfl, (hf 1 _ rfl).trans (gs 1 (by omega))⟩
  obtain ⟨k2, e2⟩ := gi 2 _ ⟨_, rfl, rfl, (hf 2 _ rfl).trans (gs 2 (by omega))⟩
  obtain ⟨k3, e3⟩ := gi 3 _ ⟨_, rfl, rfl, (hf 3 _ rfl).trans (gs 3 (by omega))⟩
  obtain ⟨k4, e4⟩ := gi 4 _ ⟨_, rfl, rfl, (hf 4 _ rfl).trans (gs 4 (by omega))⟩
  obtain ⟨k5, e5⟩ := gi 5 _ ⟨_, rfl, rfl, (hf 5 _ rfl).trans (gs 5 (by omega))⟩
  obtain ⟨k6, e6⟩ := gi 6 _ ⟨_, rfl, rfl, (hf 6 _ rfl).trans (gs 6 (by omega))⟩
  obtain ⟨k7, e7⟩ := gi 7 _ ⟨_, rfl, rfl, (hf 7 _ rfl).trans (gs 7 (by omega))⟩
  obtain ⟨k8, e8⟩ := gi 8 _ ⟨_, rfl, rfl, (hf 8 _ rfl).trans (gs 8 (by omega))⟩
  obtain ⟨k9, e9⟩ := gi 9 _ ⟨_, rfl, rfl, (hf 9 _ rfl).trans (gs 9 (by omega))⟩
  obtain ⟨k10, e10⟩ := gi 10 _ ⟨_, rfl, rfl, (hf 10 _ rfl).trans (gs 10 (by omega))⟩
  obtain ⟨k12, e12⟩ := gi 12 _ ⟨_, rfl, rfl, (hf 12 _ rfl).trans (gs 12 (by omega))⟩
  obtain ⟨k13, e13⟩ := gi 13 _ ⟨_, rfl, rfl, (hf 13 _ rfl).trans (gs 13 (by omega))⟩
  obtain ⟨k14, e14⟩ := gi 14 _ ⟨_, rfl, rfl, (hf 14 _ rfl).trans (gs 14 (by omega))⟩
  obtain ⟨k15, e15⟩ := gi 15 _ ⟨_, rfl, rfl, (hf 15 _ rfl).trans (gs 15 (by omega))⟩
  have h11 : DataW.trod enc Try.prog W 0 (fun _ => true) true n' 24 (((Value.agg cs).cells.toList.drop 11).take (Try.prog.cellsOf 24)) = some _ := (hf 11 _ rfl).trans (gs 11 (by omega))
  rw [cells24] at h11
  obtain ⟨a, n, m, e11⟩ := slice_form Try.underlying24 h11
  rw [e11] at h11
  obtain ⟨l, rfl, hs⟩ := open_stks (a := a) (n := n) (m := m) (d := _) (p := _) ⟨n', h11⟩
  refine ⟨⟨k0, k1, k2, k3, k4, k5, k6, k7, k8, k9, k10, l, k12, k13, k14, k15⟩, a, m, ?_, hs⟩
  obtain ⟨cl⟩ := cs
  simp only [Value.cells] at *
  match cl, hl with
  | [c0, c1, c2, c3, c4, c5, c6, c7, c8, c9, c10, c11, c12, c13, c14, c15], _ =>
    simp at e0 e1 e2 e3 e4 e5 e6 e7 e8 e9 e10 e11 e12 e13 e14 e15
    subst e0 e1 e2 e3 e4 e5 e6 e7 e8 e9 e10 e11 e12 e13 e14 e15
    rfl
end Go.XG
