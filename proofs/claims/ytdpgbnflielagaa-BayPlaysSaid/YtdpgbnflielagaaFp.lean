/-
  Rows of numbers, opened. Printed by a program.
-/
import Derived.Test.YtdpgbnflielagaaXy
import Derived.Test.YtdpgbnflielagaaI
import Derived.Test.YtdpgbnflielagaaM
namespace Go.XG
open Go.Proofs Go.ChangeShapes Go.WideShapes Go.RowKit
instance : Flat Try.prog 3 1 := Flat.int Try.underlying3 (by kernel_rfl)
instance : Flat Try.prog 28 4 := Flat.struct Try.underlying28 (.cons rfl (inferInstance : Flat Try.prog 3 1) (.cons rfl (inferInstance : Flat Try.prog 3 1) (.cons rfl (inferInstance : Flat Try.prog 3 1) (.cons rfl (inferInstance : Flat Try.prog 3 1) (.nil _))))) (by kernel_rfl)
instance : Flat Try.prog 43 4 := Flat.struct Try.underlying43 (.cons rfl (inferInstance : Flat Try.prog 3 1) (.cons rfl (inferInstance : Flat Try.prog 3 1) (.cons rfl (inferInstance : Flat Try.prog 3 1) (.cons rfl (inferInstance : Flat Try.prog 3 1) (.nil _))))) (by kernel_rfl)
theorem of4 {ns : List Int} (h : ns.length = 4) : ∃ x0 x1 x2 x3, ns = [x0, x1, x2, x3] := by
  match ns, h with
  | [x0, x1, x2, x3], _ => exact ⟨_, _, _, _, rfl⟩
end Go.XG
