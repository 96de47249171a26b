/-
  What the laws are given, opened. Printed by a program.
-/
import Derived.Test.YtpppiliakgoihaaXy
import Derived.Test.YtpppiliakgoihaaI
import Derived.Test.YtpppiliakgoihaaP
namespace Go.XG
open Go.Proofs Go.ChangeShapes Go.WideShapes Go.RowKit
instance : Flat Try.prog 3 1 := Flat.int Try.underlying3 (by kernel_rfl)
instance : Flat Try.prog 25 3 := Flat.array (m := 3) (k := 1) Try.underlying25 inferInstance (by kernel_rfl)
instance : Flat Try.prog 63 2 := Flat.struct Try.underlying63 (.cons rfl (inferInstance : Flat Try.prog 3 1) (.cons rfl (inferInstance : Flat Try.prog 3 1) (.nil _))) (by kernel_rfl)
variable {Hd : Type} {enc : TypeId × Value → Hd} {W : World} {a : Option Addr} {n m : Nat} {d : DataW Hd} {p : List MemPlace}
theorem open_stks (h : DataW.Trod enc Try.prog W 0 (fun _ => true) true 22 (.slice a n m) d p) : ∃ l : List Stack, n = l.length ∧ Stks W.heap a l := by
  obtain ⟨l, rfl, h1, _⟩ := slice_flat (k := 2) Try.underlying22 (by omega) h
  obtain ⟨s, h2, h3⟩ := rows_stks h1
  exact ⟨s, h2.symm, h3⟩
theorem cells24 : Try.prog.cellsOf 24 = 19 := by kernel_rfl
theorem cells22 : Try.prog.cellsOf 22 = 1 := by kernel_rfl
theorem cells3 : Try.prog.cellsOf 3 = 1 := by kernel_rfl
theorem open_deal {v : Value} {cs : Array Value} (hv : v = .agg cs) (h : DataW.Trod enc Try.prog W 0 (fun _ => true) true 24 v d p) :
    ∃ (d : D) (a b : Option Addr) (c e : Nat), v = .agg (dcs d a b c e).toArray ∧ Stks W.heap a d.gives ∧ Stks W.heap b d.wants := by
  subst hv
  obtain ⟨fuel, h⟩ := h
  obtain ⟨xs, n', _, _, hl, hxl, hf⟩ := DataW.trod_struct Try.underlying24 h
  rw [cells24] at hl
  have gi : ∀ i z, (∃ f, (f : Field).type = 3 ∧ f.offset = i ∧ (DataW.trod enc Try.prog W 0 (fun _ => true) true n' f.type (((Value.agg cs).cells.toList.drop f.offset).take (Try.prog.cellsOf f.type)) = some z)) → ∃ k, ((Value.agg cs).cells.toList.drop i).take 1 = [.int .i64 k] := by
    rintro i z ⟨f, h1, h2, h3⟩
    rw [h1, h2, cells3] at h3
    obtain ⟨k, e, _⟩ := DataW.trod_int Try.underlying3 h3
    exact ⟨k, e⟩
  have gs : ∀ i (hi : i < 19), xs[i]? = some (xs[i]'(by rw [hxl]; exact hi)) := fun i hi => List.getElem?_eq_getElem _
  obtain ⟨k0, e0⟩ := gi 0 _ ⟨_, rfl, rfl, (hf 0 _ rfl).trans (gs 0 (by omega))⟩
  obtain ⟨k1, e1⟩ := gi 1 _ ⟨_, rfl, rfl, (hf 1 _ rfl).trans (gs 1 (by omega))⟩
  obtain ⟨k2, e2⟩ := gi 2 _ ⟨_, rfl, rfl, (hf 2 _ rfl).trans (gs 2 (by omega))⟩
  obtain ⟨k3, e3⟩ := gi 3 _ ⟨_, rfl, rfl, (hf 3 _ rfl).trans (gs 3 (by omega))⟩
  obtain ⟨k4, e4⟩ := gi 4 _ ⟨_, rfl, rfl, (hf 4 _ rfl).trans (gs 4 (by omega))⟩
  obtain ⟨k5, e5⟩ := gi 5 _ ⟨_, rfl, rfl, (hf 5 _ rfl).trans (gs 5 (by omega))⟩
  obtain ⟨k6, e6⟩ := gi 6 _ ⟨_, rfl, rfl, (hf 6 _ rfl).trans (gs 6 (by omega))⟩
  obtain ⟨k7, e7⟩ := gi 7 _ ⟨_, rfl, rfl, (hf 7 _ rfl).trans (gs 7 (by omega))⟩
  obtain ⟨k8, e8⟩ := gi 8 _ ⟨_, rfl, rfl, (hf 8 _ rfl).trans (gs 8 (by omega))⟩
  obtain ⟨k9, e9⟩ := gi 9 _ ⟨_, rfl, rfl, (hf 9 _ rfl).trans (gs 9 (by omega))⟩
  obtain ⟨k10, e10⟩ := gi 10 _ ⟨_, rfl, rfl, (hf 10 _ rfl).trans (gs 10 (by omega))⟩
  obtain ⟨k11, e11⟩ := gi 11 _ ⟨_, rfl, rfl, (hf 11 _ rfl).trans (gs 11 (by omega))⟩
  obtain ⟨k12, e12⟩ := gi 12 _ ⟨_, rfl, rfl, (hf 12 _ rfl).trans (gs 12 (by omega))⟩
  have h13 : DataW.trod enc Try.prog W 0 (fun _ => true) true n' 22 (((Value.agg cs).cells.toList.drop 13).take (Try.prog.cellsOf 22)) = some _ := (hf 13 _ rfl).trans (gs 13 (by omega))
  rw [cells22] at h13
  obtain ⟨a13, n13, m13, e13⟩ := slice_form Try.underlying22 h13
  rw [e13] at h13
  obtain ⟨l13, rfl, hs13⟩ := open_stks (a := a13) (n := n13) (m := m13) (d := _) (p := _) ⟨n', h13⟩
  have h14 : DataW.trod enc Try.prog W 0 (fun _ => true) true n' 22 (((Value.agg cs).cells.toList.drop 14).take (Try.prog.cellsOf 22)) = some _ := (hf 14 _ rfl).trans (gs 14 (by omega))
  rw [cells22] at h14
  obtain ⟨a14, n14, m14, e14⟩ := slice_form Try.underlying22 h14
  rw [e14] at h14
  obtain ⟨l14, rfl, hs14⟩ := open_stks (a := a14) (n := n14) (m := m14) (d := _) (p := _) ⟨n', h14⟩
  obtain ⟨k15, e15⟩ := gi 15 _ ⟨_, rfl, rfl, (hf 15 _ rfl).trans (gs 15 (by omega))⟩
  obtain ⟨k16, e16⟩ := gi 16 _ ⟨_, rfl, rfl, (hf 16 _ rfl).trans (gs 16 (by omega))⟩
  obtain ⟨k17, e17⟩ := gi 17 _ ⟨_, rfl, rfl, (hf 17 _ rfl).trans (gs 17 (by omega))⟩
  obtain ⟨k18, e18⟩ := gi 18 _ ⟨_, rfl, rfl, (hf 18 _ rfl).trans (gs 18 (by omega))⟩
  refine ⟨⟨k0, k1, k2, k3, k4, k5, k6, k7, k8, k9, k10, k11, k12, l13, l14, k15, k16, k17, k18⟩, a13, a14, m13, m14, ?_, hs13, hs14⟩
  obtain ⟨cl⟩ := cs
  simp only [Value.cells] at *
  match cl, hl with
  | [c0, c1, c2, c3, c4, c5, c6, c7, c8, c9, c10, c11, c12, c13, c14, c15, c16, c17, c18], _ =>
    simp at e0 e1 e2 e3 e4 e5 e6 e7 e8 e9 e10 e11 e12 e13 e14 e15 e16 e17 e18
    subst e0 e1 e2 e3 e4 e5 e6 e7 e8 e9 e10 e11 e12 e13 e14 e15 e16 e17 e18
    rfl
end Go.XG
