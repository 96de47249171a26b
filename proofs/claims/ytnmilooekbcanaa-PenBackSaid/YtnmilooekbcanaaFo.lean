/-
  The slices that the laws are given, opened.
-/
import Derived.Test.YtnmilooekbcanaaXz
import Derived.Test.YtnmilooekbcanaaL
namespace Go.XG
open Go.Proofs Go.ChangeShapes Go.WideShapes Go.RowKit
variable {Hd : Type} {enc : TypeId × Value → Hd} {W : World} {a : Option Addr} {n m : Nat} {d : DataW Hd} {p : List MemPlace}
theorem open_xs (h : DataW.Trod enc Try.prog W 0 (fun _ => true) true 37 (.slice a n m) d p) :
    ∃ xs : List Int, n = xs.length ∧ (xs.length = 0 ∨ ∃ b off, a = some ⟨b, off, none⟩ ∧ IntsAt W.heap b off xs) ∧ I64s xs := slice_ints Try.underlying37 Try.underlying3 (by kernel_rfl) h
theorem open_ts (h : DataW.Trod enc Try.prog W 0 (fun _ => true) true 38 (.slice a n m) d p) :
    ∃ xs : List (List UInt8), n = xs.length ∧ (xs.length = 0 ∨ ∃ b off, a = some ⟨b, off, none⟩ ∧ StrsAt W.heap b off xs) := slice_strings Try.underlying38 Try.underlying9 (by kernel_rfl) h
theorem cells33 : Try.prog.cellsOf 33 = 2 := by kernel_rfl
theorem cells3 : Try.prog.cellsOf 3 = 1 := by kernel_rfl
theorem open_acts (h : DataW.Trod enc Try.prog W 0 (fun _ => true) true 26 (.slice a n m) d p) :
    ∃ acts : List (Int × Int), n = acts.length ∧ (acts.length = 0 ∨ ∃ b off, a = some ⟨b, off, none⟩ ∧ ActsAt W.heap b off acts) := by
  obtain ⟨_, _, h0 | ⟨b, off, rfl, hi⟩⟩ := slice_cells Try.underlying26 cells33 (by omega) h
  · subst h0; exact ⟨[], rfl, .inl rfl⟩
  · obtain ⟨xs, hl, hx⟩ := collect ((0, 0) : Int × Int) (R := fun i x => cellAt W.heap b (off + i * 2) = some (.int .i64 x.1) ∧ cellAt W.heap b (off + i * 2 + 1) = some (.int .i64 x.2)) n (fun i hin => by
      obtain ⟨cs, fuel, y, h1, h2, h3⟩ := hi i hin
      obtain ⟨ys, n', _, _, _, _, hf⟩ := DataW.trod_struct Try.underlying33 h3
      have f0 : DataW.trod enc Try.prog W 0 (fun _ => true) true n' 3 ((cs.drop 0).take (Try.prog.cellsOf 3)) = ys[0]? := hf 0 _ rfl
      have f1 : DataW.trod enc Try.prog W 0 (fun _ => true) true n' 3 ((cs.drop 1).take (Try.prog.cellsOf 3)) = ys[1]? := hf 1 _ rfl
      rw [cells3] at f0 f1
      match cs, h1 with
      | [c0, c1], _ =>
        have hy : ys.length = 2 := by assumption
        obtain ⟨z0, e0, _, _⟩ := DataW.trod_int Try.underlying3 (f0.trans (List.getElem?_eq_getElem (show 0 < ys.length by omega)))
        obtain ⟨z1, e1, _, _⟩ := DataW.trod_int Try.underlying3 (f1.trans (List.getElem?_eq_getElem (show 1 < ys.length by omega)))
        simp at e0 e1
        subst e0 e1
        exact ⟨(z0, z1), h2 0 _ rfl, h2 1 _ rfl⟩)
    subst hl
    exact ⟨xs, rfl, .inr ⟨b, off, rfl, hx⟩⟩
end Go.XG
