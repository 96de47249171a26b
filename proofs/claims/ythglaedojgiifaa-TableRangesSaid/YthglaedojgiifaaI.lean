/-
  The types and functions of this seat, as instances. Printed by a program.
-/
import Derived.Test.YthglaedojgiifaaProg
import Derived.Test.YthglaedojgiifaaXh
import Derived.Test.YthglaedojgiifaaXs
namespace Go.XG
open Go.Proofs
instance : Und Try.prog 3 (.int .i64) := ⟨Try.underlying3⟩
instance : Inf Try.prog 3 false 1 8 (.int .i64 (0)) := ⟨⟨Try.t3, rfl, rfl, rfl, rfl⟩, Try.isAgg3⟩
instance : Und Try.prog 4 .bool := ⟨Try.underlying4⟩
instance : Inf Try.prog 4 false 1 1 (.bool false) := ⟨⟨Try.t4, rfl, rfl, rfl, rfl⟩, Try.isAgg4⟩
instance : Und Try.prog 23 (.array 4 3) := ⟨Try.underlying23⟩
instance : Inf Try.prog 23 true 4 32 (.agg #[.int .i64 (0), .int .i64 (0), .int .i64 (0), .int .i64 (0)]) := ⟨⟨Try.t23, rfl, rfl, rfl, rfl⟩, Try.isAgg23⟩
instance : NoGuard Try.prog 23 := ⟨by kernel_rfl⟩
instance : Und Try.prog 24 (.array 3 23) := ⟨Try.underlying24⟩
instance : Inf Try.prog 24 true 12 96 (.agg #[.int .i64 (0), .int .i64 (0), .int .i64 (0), .int .i64 (0), .int .i64 (0), .int .i64 (0), .int .i64 (0), .int .i64 (0), .int .i64 (0), .int .i64 (0), .int .i64 (0), .int .i64 (0)]) := ⟨⟨Try.t24, rfl, rfl, rfl, rfl⟩, Try.isAgg24⟩
instance : Und Try.prog 28 (.slice 40) := ⟨Try.underlying28⟩
instance : Inf Try.prog 28 false 1 24 (.slice none 0 0) := ⟨⟨Try.t28, rfl, rfl, rfl, rfl⟩, Try.isAgg28⟩
instance : Und Try.prog 29 (.pointer 32) := ⟨Try.underlying29⟩
instance : Inf Try.prog 29 false 1 8 (.pointer none) := ⟨⟨Try.t29, rfl, rfl, rfl, rfl⟩, Try.isAgg29⟩
instance : Und Try.prog 30 (.slice 69) := ⟨Try.underlying30⟩
instance : Inf Try.prog 30 false 1 24 (.slice none 0 0) := ⟨⟨Try.t30, rfl, rfl, rfl, rfl⟩, Try.isAgg30⟩
instance : Inf Try.prog 32 true 1 24 (.agg #[.slice none 0 0]) := ⟨⟨Try.t32, rfl, rfl, rfl, rfl⟩, Try.isAgg32⟩
instance : FieldAt Try.prog 32 0 0 30 := ⟨⟨_, _, Try.underlying32, rfl, rfl, rfl⟩⟩
instance : Und Try.prog 33 (.slice 52) := ⟨Try.underlying33⟩
instance : Inf Try.prog 33 false 1 24 (.slice none 0 0) := ⟨⟨Try.t33, rfl, rfl, rfl, rfl⟩, Try.isAgg33⟩
instance : Inf Try.prog 40 true 6 48 (.agg #[.int .i64 (0), .int .i64 (0), .int .i64 (0), .int .i64 (0), .int .i64 (0), .int .i64 (0)]) := ⟨⟨Try.t40, rfl, rfl, rfl, rfl⟩, Try.isAgg40⟩
instance : FieldAt Try.prog 40 0 0 3 := ⟨⟨_, _, Try.underlying40, rfl, rfl, rfl⟩⟩
instance : FieldAt Try.prog 40 1 1 3 := ⟨⟨_, _, Try.underlying40, rfl, rfl, rfl⟩⟩
instance : FieldAt Try.prog 40 2 2 23 := ⟨⟨_, _, Try.underlying40, rfl, rfl, rfl⟩⟩
instance : Inf Try.prog 42 false 1 8 (.nilFunc) := ⟨⟨Try.t42, rfl, rfl, rfl, rfl⟩, Try.isAgg42⟩
instance : Und Try.prog 46 (.slice 23) := ⟨Try.underlying46⟩
instance : Inf Try.prog 46 false 1 24 (.slice none 0 0) := ⟨⟨Try.t46, rfl, rfl, rfl, rfl⟩, Try.isAgg46⟩
instance : Inf Try.prog 52 true 5 40 (.agg #[.int .i64 (0), .int .i64 (0), .int .i64 (0), .int .i64 (0), .int .i64 (0)]) := ⟨⟨Try.t52, rfl, rfl, rfl, rfl⟩, Try.isAgg52⟩
instance : NoGuard Try.prog 52 := ⟨by kernel_rfl⟩
instance : FieldAt Try.prog 52 0 0 23 := ⟨⟨_, _, Try.underlying52, rfl, rfl, rfl⟩⟩
instance : FieldAt Try.prog 52 1 4 3 := ⟨⟨_, _, Try.underlying52, rfl, rfl, rfl⟩⟩
instance : Und Try.prog 54 (.array 2 23) := ⟨Try.underlying54⟩
instance : Inf Try.prog 54 true 8 64 (.agg #[.int .i64 (0), .int .i64 (0), .int .i64 (0), .int .i64 (0), .int .i64 (0), .int .i64 (0), .int .i64 (0), .int .i64 (0)]) := ⟨⟨Try.t54, rfl, rfl, rfl, rfl⟩, Try.isAgg54⟩
instance : Inf Try.prog 65 false 1 8 (.nilFunc) := ⟨⟨Try.t65, rfl, rfl, rfl, rfl⟩, Try.isAgg65⟩
instance : Inf Try.prog 66 false 1 8 (.nilFunc) := ⟨⟨Try.t66, rfl, rfl, rfl, rfl⟩, Try.isAgg66⟩
instance : Inf Try.prog 69 true 5 40 (.agg #[.int .i64 (0), .int .i64 (0), .int .i64 (0), .int .i64 (0), .int .i64 (0)]) := ⟨⟨Try.t69, rfl, rfl, rfl, rfl⟩, Try.isAgg69⟩
instance : FieldAt Try.prog 69 0 0 23 := ⟨⟨_, _, Try.underlying69, rfl, rfl, rfl⟩⟩
instance : FieldAt Try.prog 69 1 4 3 := ⟨⟨_, _, Try.underlying69, rfl, rfl, rfl⟩⟩
instance : Inf Try.prog 72 false 1 8 (.nilFunc) := ⟨⟨Try.t72, rfl, rfl, rfl, rfl⟩, Try.isAgg72⟩
instance : Und Try.prog 75 (.int .u64) := ⟨Try.underlying75⟩
instance : Inf Try.prog 75 false 1 8 (.int .u64 (0)) := ⟨⟨Try.t75, rfl, rfl, rfl, rfl⟩, Try.isAgg75⟩
instance : Places Try.prog 32 [(0, 1)] := ⟨_, Try.underlying32, fun w => by simp [Inf.run]⟩
instance : Places Try.prog 40 [(0, 1), (1, 1), (2, 4)] := ⟨_, Try.underlying40, fun w => by simp [Inf.run]⟩
instance : Places Try.prog 52 [(0, 4), (4, 1)] := ⟨_, Try.underlying52, fun w => by simp [Inf.run]⟩
instance : Places Try.prog 69 [(0, 4), (4, 1)] := ⟨_, Try.underlying69, fun w => by simp [Inf.run]⟩
instance : Has Try.prog 2 := ⟨Try.call2⟩
instance : Has Try.prog 3 := ⟨Try.call3⟩
instance : Has Try.prog 4 := ⟨Try.call4⟩
instance : Has Try.prog 5 := ⟨Try.call5⟩
instance : Has Try.prog 6 := ⟨Try.call6⟩
instance : Has Try.prog 7 := ⟨Try.call7⟩
instance : Has Try.prog 8 := ⟨Try.call8⟩
instance : Has Try.prog 9 := ⟨Try.call9⟩
instance : Has Try.prog 10 := ⟨Try.call10⟩
instance : Has Try.prog 11 := ⟨Try.call11⟩
instance : Has Try.prog 12 := ⟨Try.call12⟩
instance : Has Try.prog 13 := ⟨Try.call13⟩
instance : Has Try.prog 14 := ⟨Try.call14⟩
instance : Has Try.prog 15 := ⟨Try.call15⟩
instance : Has Try.prog 16 := ⟨Try.call16⟩
instance : Has Try.prog 17 := ⟨Try.call17⟩
instance : Has Try.prog 18 := ⟨Try.call18⟩
instance : Has Try.prog 19 := ⟨Try.call19⟩
instance : Has Try.prog 20 := ⟨Try.call20⟩
instance : Has Try.prog 21 := ⟨Try.call21⟩
instance : Has Try.prog 22 := ⟨Try.call22⟩
instance : Has Try.prog 23 := ⟨Try.call23⟩
instance : Has Try.prog 24 := ⟨Try.call24⟩
instance : Has Try.prog 25 := ⟨Try.call25⟩
instance : Has Try.prog 26 := ⟨Try.call26⟩
instance : Has Try.prog 27 := ⟨Try.call27⟩
instance : Has Try.prog 28 := ⟨Try.call28⟩
instance : Has Try.prog 29 := ⟨Try.call29⟩
instance : Has Try.prog 30 := ⟨Try.call30⟩
instance : Has Try.prog 31 := ⟨Try.call31⟩
instance : Has Try.prog 32 := ⟨Try.call32⟩
instance : Has Try.prog 33 := ⟨Try.call33⟩
instance : Has Try.prog 34 := ⟨Try.call34⟩
instance : Has Try.prog 35 := ⟨Try.call35⟩
instance : Has Try.prog 36 := ⟨Try.call36⟩
instance : Has Try.prog 37 := ⟨Try.call37⟩
instance : Has Try.prog 38 := ⟨Try.call38⟩
instance : Has Try.prog 39 := ⟨Try.call39⟩
instance : Has Try.prog 40 := ⟨Try.call40⟩
instance : EqL Try.prog 23 .i64 4 2 := eqArr
instance : EqL Try.prog 52 .i64 5 3 := eqS (lv := 2) Try.underlying52 (by kernel_rfl) (by decide) (.agg (by decide) rfl (by decide) (inferInstance : EqL Try.prog 23 .i64 4 2) (fun w => Inf.run w) Try.isAgg23 (.int (by decide) rfl Try.underlying3 Try.isAgg3 (.nil)))
instance : UndF Try.prog 66 := ⟨_, _, _, Try.underlying66⟩
end Go.XG
