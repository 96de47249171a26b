/-
  The types and functions of this seat, as instances. Printed by a program.
-/
import Derived.Test.YtoabjfmegnjicaaProg
import Derived.Test.YtoabjfmegnjicaaXh
import Derived.Test.YtoabjfmegnjicaaXs
namespace Go.XG
open Go.Proofs
instance : Und Try.prog 3 (.int .i64) := ⟨Try.underlying3⟩
instance : Inf Try.prog 3 false 1 8 (.int .i64 (0)) := ⟨⟨Try.t3, rfl, rfl, rfl, rfl⟩, Try.isAgg3⟩
instance : Und Try.prog 4 .bool := ⟨Try.underlying4⟩
instance : Inf Try.prog 4 false 1 1 (.bool false) := ⟨⟨Try.t4, rfl, rfl, rfl, rfl⟩, Try.isAgg4⟩
instance : Inf Try.prog 23 true 4 32 (.agg #[.int .i64 (0), .int .i64 (0), .int .i64 (0), .int .i64 (0)]) := ⟨⟨Try.t23, rfl, rfl, rfl, rfl⟩, Try.isAgg23⟩
instance : IntS Try.prog 23 .i64 4 := ⟨_, Try.underlying23, by kernel_rfl, .cons (by decide) rfl Try.underlying3 Try.isAgg3 (.cons (by decide) rfl Try.underlying3 Try.isAgg3 (.cons (by decide) rfl Try.underlying3 Try.isAgg3 (.cons (by decide) rfl Try.underlying3 Try.isAgg3 (.nil))))⟩
instance : NoGuard Try.prog 23 := ⟨by kernel_rfl⟩
instance : FieldAt Try.prog 23 0 0 3 := ⟨⟨_, _, Try.underlying23, rfl, rfl, rfl⟩⟩
instance : FieldAt Try.prog 23 1 1 3 := ⟨⟨_, _, Try.underlying23, rfl, rfl, rfl⟩⟩
instance : FieldAt Try.prog 23 2 2 3 := ⟨⟨_, _, Try.underlying23, rfl, rfl, rfl⟩⟩
instance : FieldAt Try.prog 23 3 3 3 := ⟨⟨_, _, Try.underlying23, rfl, rfl, rfl⟩⟩
instance : Und Try.prog 24 (.slice 44) := ⟨Try.underlying24⟩
instance : Inf Try.prog 24 false 1 24 (.slice none 0 0) := ⟨⟨Try.t24, rfl, rfl, rfl, rfl⟩, Try.isAgg24⟩
instance : Inf Try.prog 26 true 11 104 (.agg #[.int .i64 (0), .int .i64 (0), .int .i64 (0), .int .i64 (0), .int .i64 (0), .int .i64 (0), .int .i64 (0), .int .i64 (0), .int .i64 (0), .int .i64 (0), .slice none 0 0]) := ⟨⟨Try.t26, rfl, rfl, rfl, rfl⟩, Try.isAgg26⟩
instance : FieldAt Try.prog 26 0 0 3 := ⟨⟨_, _, Try.underlying26, rfl, rfl, rfl⟩⟩
instance : FieldAt Try.prog 26 1 1 3 := ⟨⟨_, _, Try.underlying26, rfl, rfl, rfl⟩⟩
instance : FieldAt Try.prog 26 2 2 23 := ⟨⟨_, _, Try.underlying26, rfl, rfl, rfl⟩⟩
instance : FieldAt Try.prog 26 3 6 23 := ⟨⟨_, _, Try.underlying26, rfl, rfl, rfl⟩⟩
instance : FieldAt Try.prog 26 4 10 24 := ⟨⟨_, _, Try.underlying26, rfl, rfl, rfl⟩⟩
instance : Und Try.prog 28 (.pointer 62) := ⟨Try.underlying28⟩
instance : Inf Try.prog 28 false 1 8 (.pointer none) := ⟨⟨Try.t28, rfl, rfl, rfl, rfl⟩, Try.isAgg28⟩
instance : Und Try.prog 30 (.int .i64) := ⟨Try.underlying30⟩
instance : Inf Try.prog 30 false 1 8 (.int .i64 (0)) := ⟨⟨Try.t30, rfl, rfl, rfl, rfl⟩, Try.isAgg30⟩
instance : Und Try.prog 34 (.slice 74) := ⟨Try.underlying34⟩
instance : Inf Try.prog 34 false 1 24 (.slice none 0 0) := ⟨⟨Try.t34, rfl, rfl, rfl, rfl⟩, Try.isAgg34⟩
instance : Inf Try.prog 44 true 2 16 (.agg #[.int .i64 (0), .int .i64 (0)]) := ⟨⟨Try.t44, rfl, rfl, rfl, rfl⟩, Try.isAgg44⟩
instance : IntS Try.prog 44 .i64 2 := ⟨_, Try.underlying44, by kernel_rfl, .cons (by decide) rfl Try.underlying3 Try.isAgg3 (.cons (by decide) rfl Try.underlying3 Try.isAgg3 (.nil))⟩
instance : NoGuard Try.prog 44 := ⟨by kernel_rfl⟩
instance : FieldAt Try.prog 44 0 0 3 := ⟨⟨_, _, Try.underlying44, rfl, rfl, rfl⟩⟩
instance : FieldAt Try.prog 44 1 1 3 := ⟨⟨_, _, Try.underlying44, rfl, rfl, rfl⟩⟩
instance : Und Try.prog 46 (.slice 26) := ⟨Try.underlying46⟩
instance : Inf Try.prog 46 false 1 24 (.slice none 0 0) := ⟨⟨Try.t46, rfl, rfl, rfl, rfl⟩, Try.isAgg46⟩
instance : Und Try.prog 57 (.slice 88) := ⟨Try.underlying57⟩
instance : Inf Try.prog 57 false 1 24 (.slice none 0 0) := ⟨⟨Try.t57, rfl, rfl, rfl, rfl⟩, Try.isAgg57⟩
instance : Inf Try.prog 59 true 1 24 (.agg #[.slice none 0 0]) := ⟨⟨Try.t59, rfl, rfl, rfl, rfl⟩, Try.isAgg59⟩
instance : FieldAt Try.prog 59 0 0 57 := ⟨⟨_, _, Try.underlying59, rfl, rfl, rfl⟩⟩
instance : Und Try.prog 60 (.array 33 3) := ⟨Try.underlying60⟩
instance : Inf Try.prog 60 true 33 264 (.agg #[.int .i64 (0), .int .i64 (0), .int .i64 (0), .int .i64 (0), .int .i64 (0), .int .i64 (0), .int .i64 (0), .int .i64 (0), .int .i64 (0), .int .i64 (0), .int .i64 (0), .int .i64 (0), .int .i64 (0), .int .i64 (0), .int .i64 (0), .int .i64 (0), .int .i64 (0), .int .i64 (0), .int .i64 (0), .int .i64 (0), .int .i64 (0), .int .i64 (0), .int .i64 (0), .int .i64 (0), .int .i64 (0), .int .i64 (0), .int .i64 (0), .int .i64 (0), .int .i64 (0), .int .i64 (0), .int .i64 (0), .int .i64 (0), .int .i64 (0)]) := ⟨⟨Try.t60, rfl, rfl, rfl, rfl⟩, Try.isAgg60⟩
instance : Inf Try.prog 62 true 34 288 (.agg #[.slice none 0 0, .int .i64 (0), .int .i64 (0), .int .i64 (0), .int .i64 (0), .int .i64 (0), .int .i64 (0), .int .i64 (0), .int .i64 (0), .int .i64 (0), .int .i64 (0), .int .i64 (0), .int .i64 (0), .int .i64 (0), .int .i64 (0), .int .i64 (0), .int .i64 (0), .int .i64 (0), .int .i64 (0), .int .i64 (0), .int .i64 (0), .int .i64 (0), .int .i64 (0), .int .i64 (0), .int .i64 (0), .int .i64 (0), .int .i64 (0), .int .i64 (0), .int .i64 (0), .int .i64 (0), .int .i64 (0), .int .i64 (0), .int .i64 (0), .int .i64 (0)]) := ⟨⟨Try.t62, rfl, rfl, rfl, rfl⟩, Try.isAgg62⟩
instance : FieldAt Try.prog 62 0 0 59 := ⟨⟨_, _, Try.underlying62, rfl, rfl, rfl⟩⟩
instance : FieldAt Try.prog 62 1 1 60 := ⟨⟨_, _, Try.underlying62, rfl, rfl, rfl⟩⟩
instance : Und Try.prog 67 (.array 4 3) := ⟨Try.underlying67⟩
instance : Inf Try.prog 67 true 4 32 (.agg #[.int .i64 (0), .int .i64 (0), .int .i64 (0), .int .i64 (0)]) := ⟨⟨Try.t67, rfl, rfl, rfl, rfl⟩, Try.isAgg67⟩
instance : NoGuard Try.prog 67 := ⟨by kernel_rfl⟩
instance : Inf Try.prog 70 false 1 8 (.nilFunc) := ⟨⟨Try.t70, rfl, rfl, rfl, rfl⟩, Try.isAgg70⟩
instance : Inf Try.prog 71 false 1 8 (.nilFunc) := ⟨⟨Try.t71, rfl, rfl, rfl, rfl⟩, Try.isAgg71⟩
instance : Inf Try.prog 74 true 5 40 (.agg #[.int .i64 (0), .int .i64 (0), .int .i64 (0), .int .i64 (0), .int .i64 (0)]) := ⟨⟨Try.t74, rfl, rfl, rfl, rfl⟩, Try.isAgg74⟩
instance : NoGuard Try.prog 74 := ⟨by kernel_rfl⟩
instance : FieldAt Try.prog 74 0 0 23 := ⟨⟨_, _, Try.underlying74, rfl, rfl, rfl⟩⟩
instance : FieldAt Try.prog 74 1 4 3 := ⟨⟨_, _, Try.underlying74, rfl, rfl, rfl⟩⟩
instance : Inf Try.prog 78 false 1 8 (.nilFunc) := ⟨⟨Try.t78, rfl, rfl, rfl, rfl⟩, Try.isAgg78⟩
instance : Inf Try.prog 80 false 1 8 (.nilFunc) := ⟨⟨Try.t80, rfl, rfl, rfl, rfl⟩, Try.isAgg80⟩
instance : Und Try.prog 86 (.pointer 59) := ⟨Try.underlying86⟩
instance : Inf Try.prog 86 false 1 8 (.pointer none) := ⟨⟨Try.t86, rfl, rfl, rfl, rfl⟩, Try.isAgg86⟩
instance : Inf Try.prog 88 true 5 40 (.agg #[.int .i64 (0), .int .i64 (0), .int .i64 (0), .int .i64 (0), .int .i64 (0)]) := ⟨⟨Try.t88, rfl, rfl, rfl, rfl⟩, Try.isAgg88⟩
instance : FieldAt Try.prog 88 0 0 67 := ⟨⟨_, _, Try.underlying88, rfl, rfl, rfl⟩⟩
instance : FieldAt Try.prog 88 1 4 3 := ⟨⟨_, _, Try.underlying88, rfl, rfl, rfl⟩⟩
instance : Inf Try.prog 96 false 1 8 (.nilFunc) := ⟨⟨Try.t96, rfl, rfl, rfl, rfl⟩, Try.isAgg96⟩
instance : Und Try.prog 99 (.int .u64) := ⟨Try.underlying99⟩
instance : Inf Try.prog 99 false 1 8 (.int .u64 (0)) := ⟨⟨Try.t99, rfl, rfl, rfl, rfl⟩, Try.isAgg99⟩
instance : Places Try.prog 23 [(0, 1), (1, 1), (2, 1), (3, 1)] := ⟨_, Try.underlying23, fun w => by simp [Inf.run]⟩
instance : Places Try.prog 26 [(0, 1), (1, 1), (2, 4), (6, 4), (10, 1)] := ⟨_, Try.underlying26, fun w => by simp [Inf.run]⟩
instance : Places Try.prog 44 [(0, 1), (1, 1)] := ⟨_, Try.underlying44, fun w => by simp [Inf.run]⟩
instance : Places Try.prog 59 [(0, 1)] := ⟨_, Try.underlying59, fun w => by simp [Inf.run]⟩
instance : Places Try.prog 62 [(0, 1), (1, 33)] := ⟨_, Try.underlying62, fun w => by simp [Inf.run]⟩
instance : Places Try.prog 74 [(0, 4), (4, 1)] := ⟨_, Try.underlying74, fun w => by simp [Inf.run]⟩
instance : Places Try.prog 88 [(0, 4), (4, 1)] := ⟨_, Try.underlying88, fun w => by simp [Inf.run]⟩
instance : Has Try.prog 2 := ⟨Try.call2⟩
instance : Has Try.prog 3 := ⟨Try.call3⟩
instance : Has Try.prog 4 := ⟨Try.call4⟩
instance : Has Try.prog 5 := ⟨Try.call5⟩
instance : Has Try.prog 6 := ⟨Try.call6⟩
instance : Has Try.prog 7 := ⟨Try.call7⟩
instance : Has Try.prog 8 := ⟨Try.call8⟩
instance : Has Try.prog 9 := ⟨Try.call9⟩
instance : Has Try.prog 10 := ⟨Try.call10⟩
instance : Has Try.prog 11 := ⟨Try.call11⟩
instance : Has Try.prog 12 := ⟨Try.call12⟩
instance : Has Try.prog 13 := ⟨Try.call13⟩
instance : Has Try.prog 14 := ⟨Try.call14⟩
instance : Has Try.prog 15 := ⟨Try.call15⟩
instance : Has Try.prog 16 := ⟨Try.call16⟩
instance : Has Try.prog 17 := ⟨Try.call17⟩
instance : Has Try.prog 18 := ⟨Try.call18⟩
instance : Has Try.prog 19 := ⟨Try.call19⟩
instance : Has Try.prog 20 := ⟨Try.call20⟩
instance : Has Try.prog 21 := ⟨Try.call21⟩
instance : Has Try.prog 22 := ⟨Try.call22⟩
instance : Has Try.prog 23 := ⟨Try.call23⟩
instance : Has Try.prog 24 := ⟨Try.call24⟩
instance : Has Try.prog 25 := ⟨Try.call25⟩
instance : Has Try.prog 26 := ⟨Try.call26⟩
instance : Has Try.prog 27 := ⟨Try.call27⟩
instance : Has Try.prog 28 := ⟨Try.call28⟩
instance : Has Try.prog 29 := ⟨Try.call29⟩
instance : Has Try.prog 30 := ⟨Try.call30⟩
instance : Has Try.prog 31 := ⟨Try.call31⟩
instance : Has Try.prog 32 := ⟨Try.call32⟩
instance : Has Try.prog 33 := ⟨Try.call33⟩
instance : Has Try.prog 34 := ⟨Try.call34⟩
instance : Has Try.prog 35 := ⟨Try.call35⟩
instance : Has Try.prog 36 := ⟨Try.call36⟩
instance : Has Try.prog 37 := ⟨Try.call37⟩
instance : Has Try.prog 38 := ⟨Try.call38⟩
instance : Has Try.prog 39 := ⟨Try.call39⟩
instance : Has Try.prog 40 := ⟨Try.call40⟩
instance : Has Try.prog 41 := ⟨Try.call41⟩
instance : Has Try.prog 42 := ⟨Try.call42⟩
instance : Has Try.prog 43 := ⟨Try.call43⟩
instance : Has Try.prog 44 := ⟨Try.call44⟩
instance : Has Try.prog 45 := ⟨Try.call45⟩
instance : Has Try.prog 46 := ⟨Try.call46⟩
instance : Has Try.prog 47 := ⟨Try.call47⟩
instance : Has Try.prog 48 := ⟨Try.call48⟩
instance : Has Try.prog 49 := ⟨Try.call49⟩
instance : Has Try.prog 50 := ⟨Try.call50⟩
instance : Has Try.prog 51 := ⟨Try.call51⟩
instance : Has Try.prog 52 := ⟨Try.call52⟩
instance : Has Try.prog 53 := ⟨Try.call53⟩
instance : Has Try.prog 54 := ⟨Try.call54⟩
instance : Has Try.prog 55 := ⟨Try.call55⟩
instance : Has Try.prog 56 := ⟨Try.call56⟩
instance : Has Try.prog 57 := ⟨Try.call57⟩
instance : Has Try.prog 58 := ⟨Try.call58⟩
instance : Has Try.prog 59 := ⟨Try.call59⟩
instance : Has Try.prog 60 := ⟨Try.call60⟩
instance : Has Try.prog 61 := ⟨Try.call61⟩
instance : EqL Try.prog 23 .i64 4 2 := eqS (lv := 1) Try.underlying23 (by kernel_rfl) (by decide) (.int (by decide) rfl Try.underlying3 Try.isAgg3 (.int (by decide) rfl Try.underlying3 Try.isAgg3 (.int (by decide) rfl Try.underlying3 Try.isAgg3 (.int (by decide) rfl Try.underlying3 Try.isAgg3 (.nil)))))
instance : EqL Try.prog 44 .i64 2 2 := eqS (lv := 1) Try.underlying44 (by kernel_rfl) (by decide) (.int (by decide) rfl Try.underlying3 Try.isAgg3 (.int (by decide) rfl Try.underlying3 Try.isAgg3 (.nil)))
instance : EqL Try.prog 67 .i64 4 2 := eqArr
instance : EqL Try.prog 74 .i64 5 3 := eqS (lv := 2) Try.underlying74 (by kernel_rfl) (by decide) (.agg (by decide) rfl (by decide) (inferInstance : EqL Try.prog 23 .i64 4 2) (fun w => Inf.run w) Try.isAgg23 (.int (by decide) rfl Try.underlying3 Try.isAgg3 (.nil)))
end Go.XG
