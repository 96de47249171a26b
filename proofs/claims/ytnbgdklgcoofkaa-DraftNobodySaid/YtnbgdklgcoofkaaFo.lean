/-
  What the laws are given, opened. Printed by a program.
-/
import Derived.Test.YtnbgdklgcoofkaaXy
import Derived.Test.YtnbgdklgcoofkaaI
import Derived.Test.YtnbgdklgcoofkaaP
namespace Go.XG
open Go.Proofs Go.ChangeShapes Go.WideShapes Go.RowKit
instance : Flat Try.prog 3 1 := Flat.int Try.underlying3 (by kernel_rfl)
instance : Flat Try.prog 23 9 := Flat.struct Try.underlying23 (.cons rfl (inferInstance : Flat Try.prog 3 1) (.cons rfl (inferInstance : Flat Try.prog 3 1) (.cons rfl (inferInstance : Flat Try.prog 3 1) (.cons rfl (inferInstance : Flat Try.prog 3 1) (.cons rfl (inferInstance : Flat Try.prog 3 1) (.cons rfl (inferInstance : Flat Try.prog 3 1) (.cons rfl (inferInstance : Flat Try.prog 3 1) (.cons rfl (inferInstance : Flat Try.prog 3 1) (.cons rfl (inferInstance : Flat Try.prog 3 1) (.nil _)))))))))) (by kernel_rfl)
instance : Flat Try.prog 39 13 := Flat.struct Try.underlying39 (.cons rfl (inferInstance : Flat Try.prog 3 1) (.cons rfl (inferInstance : Flat Try.prog 3 1) (.cons rfl (inferInstance : Flat Try.prog 3 1) (.cons rfl (inferInstance : Flat Try.prog 3 1) (.cons rfl (inferInstance : Flat Try.prog 23 9) (.nil _)))))) (by kernel_rfl)
theorem of9 {ns : List Int} (h : ns.length = 9) : ∃ x0 x1 x2 x3 x4 x5 x6 x7 x8, ns = [x0, x1, x2, x3, x4, x5, x6, x7, x8] := by
  match ns, h with
  | [x0, x1, x2, x3, x4, x5, x6, x7, x8], _ => exact ⟨_, _, _, _, _, _, _, _, _, rfl⟩
theorem of13 {ns : List Int} (h : ns.length = 13) : ∃ x0 x1 x2 x3 x4 x5 x6 x7 x8 x9 x10 x11 x12, ns = [x0, x1, x2, x3, x4, x5, x6, x7, x8, x9, x10, x11, x12] := by
  match ns, h with
  | [x0, x1, x2, x3, x4, x5, x6, x7, x8, x9, x10, x11, x12], _ => exact ⟨_, _, _, _, _, _, _, _, _, _, _, _, _, rfl⟩
end Go.XG
