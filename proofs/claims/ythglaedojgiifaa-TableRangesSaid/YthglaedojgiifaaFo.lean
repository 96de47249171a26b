/-
  What the laws are given, opened. Printed by a program.
-/
import Derived.Test.YthglaedojgiifaaXy
import Derived.Test.YthglaedojgiifaaI
import Derived.Test.YthglaedojgiifaaP
namespace Go.XG
open Go.Proofs Go.ChangeShapes Go.WideShapes Go.RowKit
instance : Flat Try.prog 3 1 := Flat.int Try.underlying3 (by kernel_rfl)
instance : Flat Try.prog 23 4 := Flat.array (m := 4) (k := 1) Try.underlying23 inferInstance (by kernel_rfl)
instance : Flat Try.prog 24 12 := Flat.array (m := 3) (k := 4) Try.underlying24 inferInstance (by kernel_rfl)
instance : Flat Try.prog 40 6 := Flat.struct Try.underlying40 (.cons rfl (inferInstance : Flat Try.prog 3 1) (.cons rfl (inferInstance : Flat Try.prog 3 1) (.cons rfl (inferInstance : Flat Try.prog 23 4) (.nil _)))) (by kernel_rfl)
instance : Flat Try.prog 54 8 := Flat.array (m := 2) (k := 4) Try.underlying54 inferInstance (by kernel_rfl)
theorem of4 {ns : List Int} (h : ns.length = 4) : ∃ x0 x1 x2 x3, ns = [x0, x1, x2, x3] := by
  match ns, h with
  | [x0, x1, x2, x3], _ => exact ⟨_, _, _, _, rfl⟩
theorem of8 {ns : List Int} (h : ns.length = 8) : ∃ x0 x1 x2 x3 x4 x5 x6 x7, ns = [x0, x1, x2, x3, x4, x5, x6, x7] := by
  match ns, h with
  | [x0, x1, x2, x3, x4, x5, x6, x7], _ => exact ⟨_, _, _, _, _, _, _, _, rfl⟩
theorem of12 {ns : List Int} (h : ns.length = 12) : ∃ x0 x1 x2 x3 x4 x5 x6 x7 x8 x9 x10 x11, ns = [x0, x1, x2, x3, x4, x5, x6, x7, x8, x9, x10, x11] := by
  match ns, h with
  | [x0, x1, x2, x3, x4, x5, x6, x7, x8, x9, x10, x11], _ => exact ⟨_, _, _, _, _, _, _, _, _, _, _, _, rfl⟩
end Go.XG
