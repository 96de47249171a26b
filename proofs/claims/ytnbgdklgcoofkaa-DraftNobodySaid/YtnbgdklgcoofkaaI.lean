/-
  The types and functions of this seat, as instances. Printed by a program.
-/
import Derived.Test.YtnbgdklgcoofkaaProg
import Derived.Test.YtnbgdklgcoofkaaXh
import Derived.Test.YtnbgdklgcoofkaaXs
namespace Go.XG
open Go.Proofs
instance : Und Try.prog 3 (.int .i64) := ⟨Try.underlying3⟩
instance : Inf Try.prog 3 false 1 8 (.int .i64 (0)) := ⟨⟨Try.t3, rfl, rfl, rfl, rfl⟩, Try.isAgg3⟩
instance : Und Try.prog 4 .bool := ⟨Try.underlying4⟩
instance : Inf Try.prog 4 false 1 1 (.bool false) := ⟨⟨Try.t4, rfl, rfl, rfl, rfl⟩, Try.isAgg4⟩
instance : Inf Try.prog 23 true 9 72 (.agg #[.int .i64 (0), .int .i64 (0), .int .i64 (0), .int .i64 (0), .int .i64 (0), .int .i64 (0), .int .i64 (0), .int .i64 (0), .int .i64 (0)]) := ⟨⟨Try.t23, rfl, rfl, rfl, rfl⟩, Try.isAgg23⟩
instance : IntS Try.prog 23 .i64 9 := ⟨_, Try.underlying23, by kernel_rfl, .cons (by decide) rfl Try.underlying3 Try.isAgg3 (.cons (by decide) rfl Try.underlying3 Try.isAgg3 (.cons (by decide) rfl Try.underlying3 Try.isAgg3 (.cons (by decide) rfl Try.underlying3 Try.isAgg3 (.cons (by decide) rfl Try.underlying3 Try.isAgg3 (.cons (by decide) rfl Try.underlying3 Try.isAgg3 (.cons (by decide) rfl Try.underlying3 Try.isAgg3 (.cons (by decide) rfl Try.underlying3 Try.isAgg3 (.cons (by decide) rfl Try.underlying3 Try.isAgg3 (.nil)))))))))⟩
instance : NoGuard Try.prog 23 := ⟨by kernel_rfl⟩
instance : FieldAt Try.prog 23 0 0 3 := ⟨⟨_, _, Try.underlying23, rfl, rfl, rfl⟩⟩
instance : FieldAt Try.prog 23 1 1 3 := ⟨⟨_, _, Try.underlying23, rfl, rfl, rfl⟩⟩
instance : FieldAt Try.prog 23 2 2 3 := ⟨⟨_, _, Try.underlying23, rfl, rfl, rfl⟩⟩
instance : FieldAt Try.prog 23 3 3 3 := ⟨⟨_, _, Try.underlying23, rfl, rfl, rfl⟩⟩
instance : FieldAt Try.prog 23 4 4 3 := ⟨⟨_, _, Try.underlying23, rfl, rfl, rfl⟩⟩
instance : FieldAt Try.prog 23 5 5 3 := ⟨⟨_, _, Try.underlying23, rfl, rfl, rfl⟩⟩
instance : FieldAt Try.prog 23 6 6 3 := ⟨⟨_, _, Try.underlying23, rfl, rfl, rfl⟩⟩
instance : FieldAt Try.prog 23 7 7 3 := ⟨⟨_, _, Try.underlying23, rfl, rfl, rfl⟩⟩
instance : FieldAt Try.prog 23 8 8 3 := ⟨⟨_, _, Try.underlying23, rfl, rfl, rfl⟩⟩
instance : Und Try.prog 24 (.pointer 29) := ⟨Try.underlying24⟩
instance : Inf Try.prog 24 false 1 8 (.pointer none) := ⟨⟨Try.t24, rfl, rfl, rfl, rfl⟩, Try.isAgg24⟩
instance : Und Try.prog 25 (.slice 75) := ⟨Try.underlying25⟩
instance : Inf Try.prog 25 false 1 24 (.slice none 0 0) := ⟨⟨Try.t25, rfl, rfl, rfl, rfl⟩, Try.isAgg25⟩
instance : Inf Try.prog 27 true 1 24 (.agg #[.slice none 0 0]) := ⟨⟨Try.t27, rfl, rfl, rfl, rfl⟩, Try.isAgg27⟩
instance : FieldAt Try.prog 27 0 0 25 := ⟨⟨_, _, Try.underlying27, rfl, rfl, rfl⟩⟩
instance : Inf Try.prog 29 true 2 32 (.agg #[.slice none 0 0, .int .i64 (0)]) := ⟨⟨Try.t29, rfl, rfl, rfl, rfl⟩, Try.isAgg29⟩
instance : FieldAt Try.prog 29 0 0 27 := ⟨⟨_, _, Try.underlying29, rfl, rfl, rfl⟩⟩
instance : FieldAt Try.prog 29 1 1 3 := ⟨⟨_, _, Try.underlying29, rfl, rfl, rfl⟩⟩
instance : Und Try.prog 30 (.int .i64) := ⟨Try.underlying30⟩
instance : Inf Try.prog 30 false 1 8 (.int .i64 (0)) := ⟨⟨Try.t30, rfl, rfl, rfl, rfl⟩, Try.isAgg30⟩
instance : Inf Try.prog 39 true 13 104 (.agg #[.int .i64 (0), .int .i64 (0), .int .i64 (0), .int .i64 (0), .int .i64 (0), .int .i64 (0), .int .i64 (0), .int .i64 (0), .int .i64 (0), .int .i64 (0), .int .i64 (0), .int .i64 (0), .int .i64 (0)]) := ⟨⟨Try.t39, rfl, rfl, rfl, rfl⟩, Try.isAgg39⟩
instance : FieldAt Try.prog 39 0 0 3 := ⟨⟨_, _, Try.underlying39, rfl, rfl, rfl⟩⟩
instance : FieldAt Try.prog 39 1 1 3 := ⟨⟨_, _, Try.underlying39, rfl, rfl, rfl⟩⟩
instance : FieldAt Try.prog 39 2 2 3 := ⟨⟨_, _, Try.underlying39, rfl, rfl, rfl⟩⟩
instance : FieldAt Try.prog 39 3 3 3 := ⟨⟨_, _, Try.underlying39, rfl, rfl, rfl⟩⟩
instance : FieldAt Try.prog 39 4 4 23 := ⟨⟨_, _, Try.underlying39, rfl, rfl, rfl⟩⟩
instance : Und Try.prog 40 (.slice 3) := ⟨Try.underlying40⟩
instance : Inf Try.prog 40 false 1 24 (.slice none 0 0) := ⟨⟨Try.t40, rfl, rfl, rfl, rfl⟩, Try.isAgg40⟩
instance : Und Try.prog 44 (.slice 23) := ⟨Try.underlying44⟩
instance : Inf Try.prog 44 false 1 24 (.slice none 0 0) := ⟨⟨Try.t44, rfl, rfl, rfl, rfl⟩, Try.isAgg44⟩
instance : Und Try.prog 48 (.slice 39) := ⟨Try.underlying48⟩
instance : Inf Try.prog 48 false 1 24 (.slice none 0 0) := ⟨⟨Try.t48, rfl, rfl, rfl, rfl⟩, Try.isAgg48⟩
instance : Inf Try.prog 55 false 1 8 (.nilFunc) := ⟨⟨Try.t55, rfl, rfl, rfl, rfl⟩, Try.isAgg55⟩
instance : Und Try.prog 57 (.array 4 3) := ⟨Try.underlying57⟩
instance : Inf Try.prog 57 true 4 32 (.agg #[.int .i64 (0), .int .i64 (0), .int .i64 (0), .int .i64 (0)]) := ⟨⟨Try.t57, rfl, rfl, rfl, rfl⟩, Try.isAgg57⟩
instance : NoGuard Try.prog 57 := ⟨by kernel_rfl⟩
instance : Und Try.prog 64 (.pointer 23) := ⟨Try.underlying64⟩
instance : Inf Try.prog 64 false 1 8 (.pointer none) := ⟨⟨Try.t64, rfl, rfl, rfl, rfl⟩, Try.isAgg64⟩
instance : Inf Try.prog 66 false 1 8 (.nilFunc) := ⟨⟨Try.t66, rfl, rfl, rfl, rfl⟩, Try.isAgg66⟩
instance : Inf Try.prog 68 false 1 8 (.nilFunc) := ⟨⟨Try.t68, rfl, rfl, rfl, rfl⟩, Try.isAgg68⟩
instance : Inf Try.prog 69 false 1 8 (.nilFunc) := ⟨⟨Try.t69, rfl, rfl, rfl, rfl⟩, Try.isAgg69⟩
instance : Und Try.prog 71 (.pointer 27) := ⟨Try.underlying71⟩
instance : Inf Try.prog 71 false 1 8 (.pointer none) := ⟨⟨Try.t71, rfl, rfl, rfl, rfl⟩, Try.isAgg71⟩
instance : Inf Try.prog 75 true 13 104 (.agg #[.int .i64 (0), .int .i64 (0), .int .i64 (0), .int .i64 (0), .int .i64 (0), .int .i64 (0), .int .i64 (0), .int .i64 (0), .int .i64 (0), .int .i64 (0), .int .i64 (0), .int .i64 (0), .int .i64 (0)]) := ⟨⟨Try.t75, rfl, rfl, rfl, rfl⟩, Try.isAgg75⟩
instance : FieldAt Try.prog 75 0 0 57 := ⟨⟨_, _, Try.underlying75, rfl, rfl, rfl⟩⟩
instance : FieldAt Try.prog 75 1 4 23 := ⟨⟨_, _, Try.underlying75, rfl, rfl, rfl⟩⟩
instance : Inf Try.prog 80 false 1 8 (.nilFunc) := ⟨⟨Try.t80, rfl, rfl, rfl, rfl⟩, Try.isAgg80⟩
instance : Und Try.prog 81 (.int .u64) := ⟨Try.underlying81⟩
instance : Inf Try.prog 81 false 1 8 (.int .u64 (0)) := ⟨⟨Try.t81, rfl, rfl, rfl, rfl⟩, Try.isAgg81⟩
instance : Places Try.prog 23 [(0, 1), (1, 1), (2, 1), (3, 1), (4, 1), (5, 1), (6, 1), (7, 1), (8, 1)] := ⟨_, Try.underlying23, fun w => by simp [Inf.run]⟩
instance : Places Try.prog 27 [(0, 1)] := ⟨_, Try.underlying27, fun w => by simp [Inf.run]⟩
instance : Places Try.prog 29 [(0, 1), (1, 1)] := ⟨_, Try.underlying29, fun w => by simp [Inf.run]⟩
instance : Places Try.prog 39 [(0, 1), (1, 1), (2, 1), (3, 1), (4, 9)] := ⟨_, Try.underlying39, fun w => by simp [Inf.run]⟩
instance : Places Try.prog 75 [(0, 4), (4, 9)] := ⟨_, Try.underlying75, fun w => by simp [Inf.run]⟩
instance : Has Try.prog 2 := ⟨Try.call2⟩
instance : Has Try.prog 3 := ⟨Try.call3⟩
instance : Has Try.prog 4 := ⟨Try.call4⟩
instance : Has Try.prog 5 := ⟨Try.call5⟩
instance : Has Try.prog 6 := ⟨Try.call6⟩
instance : Has Try.prog 7 := ⟨Try.call7⟩
instance : Has Try.prog 8 := ⟨Try.call8⟩
instance : Has Try.prog 9 := ⟨Try.call9⟩
instance : Has Try.prog 10 := ⟨Try.call10⟩
instance : Has Try.prog 11 := ⟨Try.call11⟩
instance : Has Try.prog 12 := ⟨Try.call12⟩
instance : Has Try.prog 13 := ⟨Try.call13⟩
instance : Has Try.prog 14 := ⟨Try.call14⟩
instance : Has Try.prog 15 := ⟨Try.call15⟩
instance : Has Try.prog 16 := ⟨Try.call16⟩
instance : Has Try.prog 17 := ⟨Try.call17⟩
instance : Has Try.prog 18 := ⟨Try.call18⟩
instance : Has Try.prog 19 := ⟨Try.call19⟩
instance : Has Try.prog 20 := ⟨Try.call20⟩
instance : Has Try.prog 21 := ⟨Try.call21⟩
instance : Has Try.prog 22 := ⟨Try.call22⟩
instance : Has Try.prog 23 := ⟨Try.call23⟩
instance : Has Try.prog 24 := ⟨Try.call24⟩
instance : Has Try.prog 25 := ⟨Try.call25⟩
instance : Has Try.prog 26 := ⟨Try.call26⟩
instance : Has Try.prog 27 := ⟨Try.call27⟩
instance : Has Try.prog 28 := ⟨Try.call28⟩
instance : Has Try.prog 29 := ⟨Try.call29⟩
instance : Has Try.prog 30 := ⟨Try.call30⟩
instance : Has Try.prog 31 := ⟨Try.call31⟩
instance : Has Try.prog 32 := ⟨Try.call32⟩
instance : Has Try.prog 33 := ⟨Try.call33⟩
instance : Has Try.prog 34 := ⟨Try.call34⟩
instance : Has Try.prog 35 := ⟨Try.call35⟩
instance : Has Try.prog 36 := ⟨Try.call36⟩
instance : Has Try.prog 37 := ⟨Try.call37⟩
instance : Has Try.prog 38 := ⟨Try.call38⟩
instance : Has Try.prog 39 := ⟨Try.call39⟩
instance : Has Try.prog 40 := ⟨Try.call40⟩
instance : Has Try.prog 41 := ⟨Try.call41⟩
instance : Has Try.prog 42 := ⟨Try.call42⟩
instance : Has Try.prog 43 := ⟨Try.call43⟩
instance : Has Try.prog 44 := ⟨Try.call44⟩
instance : EqL Try.prog 23 .i64 9 2 := eqS (lv := 1) Try.underlying23 (by kernel_rfl) (by decide) (.int (by decide) rfl Try.underlying3 Try.isAgg3 (.int (by decide) rfl Try.underlying3 Try.isAgg3 (.int (by decide) rfl Try.underlying3 Try.isAgg3 (.int (by decide) rfl Try.underlying3 Try.isAgg3 (.int (by decide) rfl Try.underlying3 Try.isAgg3 (.int (by decide) rfl Try.underlying3 Try.isAgg3 (.int (by decide) rfl Try.underlying3 Try.isAgg3 (.int (by decide) rfl Try.underlying3 Try.isAgg3 (.int (by decide) rfl Try.underlying3 Try.isAgg3 (.nil))))))))))
instance : EqL Try.prog 57 .i64 4 2 := eqArr
end Go.XG
