/-
  What the laws are given, opened. Printed by a program.
-/
import Derived.Test.YtecjgodbgfollaaXy
import Derived.Test.YtecjgodbgfollaaI
namespace Go.XG
open Go.Proofs
instance : Flat Try.prog 3 1 := Flat.int Try.underlying3 (by kernel_rfl)
instance : Flat Try.prog 29 4 := Flat.struct Try.underlying29 (.cons rfl (inferInstance : Flat Try.prog 3 1) (.cons rfl (inferInstance : Flat Try.prog 3 1) (.cons rfl (inferInstance : Flat Try.prog 3 1) (.cons rfl (inferInstance : Flat Try.prog 3 1) (.nil _))))) (by kernel_rfl)
instance : Flat Try.prog 38 2 := Flat.array (m := 2) (k := 1) Try.underlying38 inferInstance (by kernel_rfl)
end Go.XG
