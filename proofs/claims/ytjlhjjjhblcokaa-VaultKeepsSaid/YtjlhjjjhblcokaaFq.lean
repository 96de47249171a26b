/-
  What the laws are given, opened. Printed by a program.
-/
import Derived.Test.YtjlhjjjhblcokaaXy
import Derived.Test.YtjlhjjjhblcokaaI
import Derived.Test.YtjlhjjjhblcokaaKx
namespace Go.XG
open Go.Proofs Go.ChangeShapes Go.WideShapes Go.RowKit
instance : Flat Try.prog 3 1 := Flat.int Try.underlying3 (by kernel_rfl)
instance : Flat Try.prog 37 4 := Flat.struct Try.underlying37 (.cons rfl (inferInstance : Flat Try.prog 3 1) (.cons rfl (inferInstance : Flat Try.prog 3 1) (.cons rfl (inferInstance : Flat Try.prog 3 1) (.cons rfl (inferInstance : Flat Try.prog 3 1) (.nil _))))) (by kernel_rfl)
instance : Flat Try.prog 90 2 := Flat.struct Try.underlying90 (.cons rfl (inferInstance : Flat Try.prog 3 1) (.cons rfl (inferInstance : Flat Try.prog 3 1) (.nil _))) (by kernel_rfl)
instance : Flat Try.prog 99 5 := Flat.struct Try.underlying99 (.cons rfl (inferInstance : Flat Try.prog 37 4) (.cons rfl (inferInstance : Flat Try.prog 3 1) (.nil _))) (by kernel_rfl)
theorem of4 {ns : List Int} (h : ns.length = 4) : ∃ x0 x1 x2 x3, ns = [x0, x1, x2, x3] := by
  match ns, h with
  | [x0, x1, x2, x3], _ => exact ⟨_, _, _, _, rfl⟩
section
variable {Hd : Type} {enc : TypeId × Value → Hd} {W : World} {a : Option Addr} {n m : Nat} {d : DataW Hd} {p : List MemPlace} {v : Value}
theorem open_stks (h : DataW.Trod enc Try.prog W 0 (fun _ => true) true 38 (.slice a n m) d p) : ∃ l : List Stack, n = l.length ∧ Stks W.heap a l := by
  obtain ⟨l, rfl, h1, _⟩ := slice_flat (k := 2) Try.underlying38 (by omega) h
  obtain ⟨s, h2, h3⟩ := rows_stks h1
  exact ⟨s, h2.symm, h3⟩
theorem cells76 : Try.prog.cellsOf 76 = 2 := by kernel_rfl
theorem cells38 : Try.prog.cellsOf 38 = 1 := by kernel_rfl
theorem open_two (h : DataW.Trod enc Try.prog W 0 (fun _ => true) true 76 v d p) : ∃ (a0 a1 : Option Addr) (c0 c1 : Nat) (s0 s1 : List Stack), v = .agg #[.slice a0 s0.length c0, .slice a1 s1.length c1] ∧ Stks W.heap a0 s0 ∧ Stks W.heap a1 s1 := by
  obtain ⟨fuel, h⟩ := h
  obtain ⟨xs, q, _, _, hl, hxl, hf⟩ := DataW.trod_array Try.underlying76 h
  rw [cells76] at hl
  rw [cells38] at hf
  have h0 := hf 0 (by omega)
  have h1 := hf 1 (by omega)
  rw [List.getElem?_eq_getElem (by omega)] at h0 h1
  obtain ⟨a0, n0, c0, e0⟩ := slice_form Try.underlying38 h0
  obtain ⟨a1, n1, c1, e1⟩ := slice_form Try.underlying38 h1
  rw [e0] at h0
  rw [e1] at h1
  obtain ⟨s0, rfl, hs0⟩ := open_stks (a := a0) (n := n0) (m := c0) (d := _) (p := _) ⟨q, h0⟩
  obtain ⟨s1, rfl, hs1⟩ := open_stks (a := a1) (n := n1) (m := c1) (d := _) (p := _) ⟨q, h1⟩
  refine ⟨a0, a1, c0, c1, s0, s1, ?_, hs0, hs1⟩
  have hlen : v.cells.size = 2 := by simpa using hl
  have hc : v.cells.toList = [.slice a0 s0.length c0, .slice a1 s1.length c1] := by
    match hcs : v.cells.toList, hl with
    | [x0, x1], _ =>
      rw [hcs] at e0 e1
      simp at e0 e1
      rw [e0, e1]
  cases v <;> simp [Value.cells] at hc hlen <;> first | omega | skip
  rename_i cs
  rw [← hc]
end
end Go.XG
