/-
  The types and functions of this seat, as instances. Printed by a program.
-/
import Derived.Test.YtmjnbdbbbgabnaaProg
import Derived.Test.YtmjnbdbbbgabnaaXh
import Derived.Test.YtmjnbdbbbgabnaaXs
namespace Go.XG
open Go.Proofs
instance : Und Try.prog 3 (.int .i64) := ⟨Try.underlying3⟩
instance : Inf Try.prog 3 false 1 8 (.int .i64 (0)) := ⟨⟨Try.t3, rfl, rfl, rfl, rfl⟩, Try.isAgg3⟩
instance : Und Try.prog 4 .bool := ⟨Try.underlying4⟩
instance : Inf Try.prog 4 false 1 1 (.bool false) := ⟨⟨Try.t4, rfl, rfl, rfl, rfl⟩, Try.isAgg4⟩
instance : Und Try.prog 22 (.slice 60) := ⟨Try.underlying22⟩
instance : Inf Try.prog 22 false 1 24 (.slice none 0 0) := ⟨⟨Try.t22, rfl, rfl, rfl, rfl⟩, Try.isAgg22⟩
instance : Und Try.prog 23 (.slice 34) := ⟨Try.underlying23⟩
instance : Inf Try.prog 23 false 1 24 (.slice none 0 0) := ⟨⟨Try.t23, rfl, rfl, rfl, rfl⟩, Try.isAgg23⟩
instance : Und Try.prog 25 (.pointer 56) := ⟨Try.underlying25⟩
instance : Inf Try.prog 25 false 1 8 (.pointer none) := ⟨⟨Try.t25, rfl, rfl, rfl, rfl⟩, Try.isAgg25⟩
instance : Und Try.prog 26 (.int .i64) := ⟨Try.underlying26⟩
instance : Inf Try.prog 26 false 1 8 (.int .i64 (0)) := ⟨⟨Try.t26, rfl, rfl, rfl, rfl⟩, Try.isAgg26⟩
instance : Inf Try.prog 34 true 4 32 (.agg #[.int .i64 (0), .int .i64 (0), .int .i64 (0), .int .i64 (0)]) := ⟨⟨Try.t34, rfl, rfl, rfl, rfl⟩, Try.isAgg34⟩
instance : FieldAt Try.prog 34 0 0 3 := ⟨⟨_, _, Try.underlying34, rfl, rfl, rfl⟩⟩
instance : FieldAt Try.prog 34 1 1 3 := ⟨⟨_, _, Try.underlying34, rfl, rfl, rfl⟩⟩
instance : FieldAt Try.prog 34 2 2 3 := ⟨⟨_, _, Try.underlying34, rfl, rfl, rfl⟩⟩
instance : FieldAt Try.prog 34 3 3 3 := ⟨⟨_, _, Try.underlying34, rfl, rfl, rfl⟩⟩
instance : Und Try.prog 42 (.slice 46) := ⟨Try.underlying42⟩
instance : Inf Try.prog 42 false 1 24 (.slice none 0 0) := ⟨⟨Try.t42, rfl, rfl, rfl, rfl⟩, Try.isAgg42⟩
instance : Inf Try.prog 46 true 3 24 (.agg #[.int .i64 (0), .int .i64 (0), .int .i64 (0)]) := ⟨⟨Try.t46, rfl, rfl, rfl, rfl⟩, Try.isAgg46⟩
instance : FieldAt Try.prog 46 0 0 3 := ⟨⟨_, _, Try.underlying46, rfl, rfl, rfl⟩⟩
instance : FieldAt Try.prog 46 1 1 3 := ⟨⟨_, _, Try.underlying46, rfl, rfl, rfl⟩⟩
instance : FieldAt Try.prog 46 2 2 3 := ⟨⟨_, _, Try.underlying46, rfl, rfl, rfl⟩⟩
instance : Und Try.prog 52 (.slice 85) := ⟨Try.underlying52⟩
instance : Inf Try.prog 52 false 1 24 (.slice none 0 0) := ⟨⟨Try.t52, rfl, rfl, rfl, rfl⟩, Try.isAgg52⟩
instance : Inf Try.prog 54 true 1 24 (.agg #[.slice none 0 0]) := ⟨⟨Try.t54, rfl, rfl, rfl, rfl⟩, Try.isAgg54⟩
instance : FieldAt Try.prog 54 0 0 52 := ⟨⟨_, _, Try.underlying54, rfl, rfl, rfl⟩⟩
instance : Inf Try.prog 56 true 2 32 (.agg #[.slice none 0 0, .int .i64 (0)]) := ⟨⟨Try.t56, rfl, rfl, rfl, rfl⟩, Try.isAgg56⟩
instance : FieldAt Try.prog 56 0 0 54 := ⟨⟨_, _, Try.underlying56, rfl, rfl, rfl⟩⟩
instance : FieldAt Try.prog 56 1 1 3 := ⟨⟨_, _, Try.underlying56, rfl, rfl, rfl⟩⟩
instance : Inf Try.prog 60 true 2 16 (.agg #[.int .i64 (0), .int .i64 (0)]) := ⟨⟨Try.t60, rfl, rfl, rfl, rfl⟩, Try.isAgg60⟩
instance : IntS Try.prog 60 .i64 2 := ⟨_, Try.underlying60, by kernel_rfl, .cons (by decide) rfl Try.underlying3 Try.isAgg3 (.cons (by decide) rfl Try.underlying3 Try.isAgg3 (.nil))⟩
instance : NoGuard Try.prog 60 := ⟨by kernel_rfl⟩
instance : FieldAt Try.prog 60 0 0 3 := ⟨⟨_, _, Try.underlying60, rfl, rfl, rfl⟩⟩
instance : FieldAt Try.prog 60 1 1 3 := ⟨⟨_, _, Try.underlying60, rfl, rfl, rfl⟩⟩
instance : Inf Try.prog 67 false 1 8 (.nilFunc) := ⟨⟨Try.t67, rfl, rfl, rfl, rfl⟩, Try.isAgg67⟩
instance : Inf Try.prog 68 false 1 8 (.nilFunc) := ⟨⟨Try.t68, rfl, rfl, rfl, rfl⟩, Try.isAgg68⟩
instance : Und Try.prog 71 (.array 4 3) := ⟨Try.underlying71⟩
instance : Inf Try.prog 71 true 4 32 (.agg #[.int .i64 (0), .int .i64 (0), .int .i64 (0), .int .i64 (0)]) := ⟨⟨Try.t71, rfl, rfl, rfl, rfl⟩, Try.isAgg71⟩
instance : NoGuard Try.prog 71 := ⟨by kernel_rfl⟩
instance : Und Try.prog 72 (.pointer 54) := ⟨Try.underlying72⟩
instance : Inf Try.prog 72 false 1 8 (.pointer none) := ⟨⟨Try.t72, rfl, rfl, rfl, rfl⟩, Try.isAgg72⟩
instance : Und Try.prog 74 (.slice 3) := ⟨Try.underlying74⟩
instance : Inf Try.prog 74 false 1 24 (.slice none 0 0) := ⟨⟨Try.t74, rfl, rfl, rfl, rfl⟩, Try.isAgg74⟩
instance : Inf Try.prog 79 false 1 8 (.nilFunc) := ⟨⟨Try.t79, rfl, rfl, rfl, rfl⟩, Try.isAgg79⟩
instance : Inf Try.prog 85 true 5 40 (.agg #[.int .i64 (0), .int .i64 (0), .int .i64 (0), .int .i64 (0), .int .i64 (0)]) := ⟨⟨Try.t85, rfl, rfl, rfl, rfl⟩, Try.isAgg85⟩
instance : FieldAt Try.prog 85 0 0 71 := ⟨⟨_, _, Try.underlying85, rfl, rfl, rfl⟩⟩
instance : FieldAt Try.prog 85 1 4 3 := ⟨⟨_, _, Try.underlying85, rfl, rfl, rfl⟩⟩
instance : Inf Try.prog 88 false 1 8 (.nilFunc) := ⟨⟨Try.t88, rfl, rfl, rfl, rfl⟩, Try.isAgg88⟩
instance : Und Try.prog 89 (.int .u64) := ⟨Try.underlying89⟩
instance : Inf Try.prog 89 false 1 8 (.int .u64 (0)) := ⟨⟨Try.t89, rfl, rfl, rfl, rfl⟩, Try.isAgg89⟩
instance : Places Try.prog 34 [(0, 1), (1, 1), (2, 1), (3, 1)] := ⟨_, Try.underlying34, fun w => by simp [Inf.run]⟩
instance : Places Try.prog 46 [(0, 1), (1, 1), (2, 1)] := ⟨_, Try.underlying46, fun w => by simp [Inf.run]⟩
instance : Places Try.prog 54 [(0, 1)] := ⟨_, Try.underlying54, fun w => by simp [Inf.run]⟩
instance : Places Try.prog 56 [(0, 1), (1, 1)] := ⟨_, Try.underlying56, fun w => by simp [Inf.run]⟩
instance : Places Try.prog 60 [(0, 1), (1, 1)] := ⟨_, Try.underlying60, fun w => by simp [Inf.run]⟩
instance : Places Try.prog 85 [(0, 4), (4, 1)] := ⟨_, Try.underlying85, fun w => by simp [Inf.run]⟩
instance : Has Try.prog 2 := ⟨Try.call2⟩
instance : Has Try.prog 3 := ⟨Try.call3⟩
instance : Has Try.prog 4 := ⟨Try.call4⟩
instance : Has Try.prog 5 := ⟨Try.call5⟩
instance : Has Try.prog 6 := ⟨Try.call6⟩
instance : Has Try.prog 7 := ⟨Try.call7⟩
instance : Has Try.prog 8 := ⟨Try.call8⟩
instance : Has Try.prog 9 := ⟨Try.call9⟩
instance : Has Try.prog 10 := ⟨Try.call10⟩
instance : Has Try.prog 11 := ⟨Try.call11⟩
instance : Has Try.prog 12 := ⟨Try.call12⟩
instance : Has Try.prog 13 := ⟨Try.call13⟩
instance : Has Try.prog 14 := ⟨Try.call14⟩
instance : Has Try.prog 15 := ⟨Try.call15⟩
instance : Has Try.prog 16 := ⟨Try.call16⟩
instance : Has Try.prog 17 := ⟨Try.call17⟩
instance : Has Try.prog 18 := ⟨Try.call18⟩
instance : Has Try.prog 19 := ⟨Try.call19⟩
instance : Has Try.prog 20 := ⟨Try.call20⟩
instance : Has Try.prog 21 := ⟨Try.call21⟩
instance : Has Try.prog 22 := ⟨Try.call22⟩
instance : Has Try.prog 23 := ⟨Try.call23⟩
instance : Has Try.prog 24 := ⟨Try.call24⟩
instance : Has Try.prog 25 := ⟨Try.call25⟩
instance : Has Try.prog 26 := ⟨Try.call26⟩
instance : Has Try.prog 27 := ⟨Try.call27⟩
instance : Has Try.prog 28 := ⟨Try.call28⟩
instance : Has Try.prog 29 := ⟨Try.call29⟩
instance : Has Try.prog 30 := ⟨Try.call30⟩
instance : Has Try.prog 31 := ⟨Try.call31⟩
instance : Has Try.prog 32 := ⟨Try.call32⟩
instance : Has Try.prog 33 := ⟨Try.call33⟩
instance : Has Try.prog 34 := ⟨Try.call34⟩
instance : Has Try.prog 35 := ⟨Try.call35⟩
instance : Has Try.prog 36 := ⟨Try.call36⟩
instance : Has Try.prog 37 := ⟨Try.call37⟩
instance : Has Try.prog 38 := ⟨Try.call38⟩
instance : Has Try.prog 39 := ⟨Try.call39⟩
instance : Has Try.prog 40 := ⟨Try.call40⟩
instance : Has Try.prog 41 := ⟨Try.call41⟩
instance : Has Try.prog 42 := ⟨Try.call42⟩
instance : Has Try.prog 43 := ⟨Try.call43⟩
instance : Has Try.prog 44 := ⟨Try.call44⟩
instance : Has Try.prog 45 := ⟨Try.call45⟩
instance : Has Try.prog 46 := ⟨Try.call46⟩
instance : Has Try.prog 47 := ⟨Try.call47⟩
instance : Has Try.prog 48 := ⟨Try.call48⟩
instance : Has Try.prog 49 := ⟨Try.call49⟩
instance : EqL Try.prog 60 .i64 2 2 := eqS (lv := 1) Try.underlying60 (by kernel_rfl) (by decide) (.int (by decide) rfl Try.underlying3 Try.isAgg3 (.int (by decide) rfl Try.underlying3 Try.isAgg3 (.nil)))
instance : EqL Try.prog 71 .i64 4 2 := eqArr
end Go.XG
