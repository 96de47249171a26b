/-
  The types and functions of this seat, as instances. Printed by a program.
-/
import Derived.Test.YthobcnpdognbfaaProg
import Derived.Test.YthobcnpdognbfaaXh
import Derived.Test.YthobcnpdognbfaaXs
namespace Go.XG
open Go.Proofs
instance : Und Try.prog 3 (.int .i64) := ⟨Try.underlying3⟩
instance : Inf Try.prog 3 false 1 8 (.int .i64 (0)) := ⟨⟨Try.t3, rfl, rfl, rfl, rfl⟩, Try.isAgg3⟩
instance : Und Try.prog 4 .bool := ⟨Try.underlying4⟩
instance : Inf Try.prog 4 false 1 1 (.bool false) := ⟨⟨Try.t4, rfl, rfl, rfl, rfl⟩, Try.isAgg4⟩
instance : Und Try.prog 22 (.slice 35) := ⟨Try.underlying22⟩
instance : Inf Try.prog 22 false 1 24 (.slice none 0 0) := ⟨⟨Try.t22, rfl, rfl, rfl, rfl⟩, Try.isAgg22⟩
instance : Und Try.prog 24 (.pointer 27) := ⟨Try.underlying24⟩
instance : Inf Try.prog 24 false 1 8 (.pointer none) := ⟨⟨Try.t24, rfl, rfl, rfl, rfl⟩, Try.isAgg24⟩
instance : Und Try.prog 25 (.slice 37) := ⟨Try.underlying25⟩
instance : Inf Try.prog 25 false 1 24 (.slice none 0 0) := ⟨⟨Try.t25, rfl, rfl, rfl, rfl⟩, Try.isAgg25⟩
instance : Inf Try.prog 27 true 1 24 (.agg #[.slice none 0 0]) := ⟨⟨Try.t27, rfl, rfl, rfl, rfl⟩, Try.isAgg27⟩
instance : FieldAt Try.prog 27 0 0 25 := ⟨⟨_, _, Try.underlying27, rfl, rfl, rfl⟩⟩
instance : Und Try.prog 29 (.slice 39) := ⟨Try.underlying29⟩
instance : Inf Try.prog 29 false 1 24 (.slice none 0 0) := ⟨⟨Try.t29, rfl, rfl, rfl, rfl⟩, Try.isAgg29⟩
instance : Und Try.prog 31 (.int .i64) := ⟨Try.underlying31⟩
instance : Inf Try.prog 31 false 1 8 (.int .i64 (0)) := ⟨⟨Try.t31, rfl, rfl, rfl, rfl⟩, Try.isAgg31⟩
instance : Inf Try.prog 35 true 4 32 (.agg #[.int .i64 (0), .int .i64 (0), .int .i64 (0), .int .i64 (0)]) := ⟨⟨Try.t35, rfl, rfl, rfl, rfl⟩, Try.isAgg35⟩
instance : FieldAt Try.prog 35 0 0 3 := ⟨⟨_, _, Try.underlying35, rfl, rfl, rfl⟩⟩
instance : FieldAt Try.prog 35 1 1 3 := ⟨⟨_, _, Try.underlying35, rfl, rfl, rfl⟩⟩
instance : FieldAt Try.prog 35 2 2 3 := ⟨⟨_, _, Try.underlying35, rfl, rfl, rfl⟩⟩
instance : FieldAt Try.prog 35 3 3 3 := ⟨⟨_, _, Try.underlying35, rfl, rfl, rfl⟩⟩
instance : Und Try.prog 37 (.slice 41) := ⟨Try.underlying37⟩
instance : Inf Try.prog 37 false 1 24 (.slice none 0 0) := ⟨⟨Try.t37, rfl, rfl, rfl, rfl⟩, Try.isAgg37⟩
instance : Inf Try.prog 39 true 2 32 (.agg #[.int .i64 (0), .slice none 0 0]) := ⟨⟨Try.t39, rfl, rfl, rfl, rfl⟩, Try.isAgg39⟩
instance : FieldAt Try.prog 39 0 0 3 := ⟨⟨_, _, Try.underlying39, rfl, rfl, rfl⟩⟩
instance : FieldAt Try.prog 39 1 1 37 := ⟨⟨_, _, Try.underlying39, rfl, rfl, rfl⟩⟩
instance : Inf Try.prog 41 true 2 16 (.agg #[.int .i64 (0), .int .i64 (0)]) := ⟨⟨Try.t41, rfl, rfl, rfl, rfl⟩, Try.isAgg41⟩
instance : IntS Try.prog 41 .i64 2 := ⟨_, Try.underlying41, by kernel_rfl, .cons (by decide) rfl Try.underlying3 Try.isAgg3 (.cons (by decide) rfl Try.underlying3 Try.isAgg3 (.nil))⟩
instance : NoGuard Try.prog 41 := ⟨by kernel_rfl⟩
instance : FieldAt Try.prog 41 0 0 3 := ⟨⟨_, _, Try.underlying41, rfl, rfl, rfl⟩⟩
instance : FieldAt Try.prog 41 1 1 3 := ⟨⟨_, _, Try.underlying41, rfl, rfl, rfl⟩⟩
instance : Und Try.prog 45 (.slice 3) := ⟨Try.underlying45⟩
instance : Inf Try.prog 45 false 1 24 (.slice none 0 0) := ⟨⟨Try.t45, rfl, rfl, rfl, rfl⟩, Try.isAgg45⟩
instance : Und Try.prog 48 (.array 2 3) := ⟨Try.underlying48⟩
instance : Inf Try.prog 48 true 2 16 (.agg #[.int .i64 (0), .int .i64 (0)]) := ⟨⟨Try.t48, rfl, rfl, rfl, rfl⟩, Try.isAgg48⟩
instance : Inf Try.prog 81 false 1 8 (.nilFunc) := ⟨⟨Try.t81, rfl, rfl, rfl, rfl⟩, Try.isAgg81⟩
instance : Inf Try.prog 86 false 1 8 (.nilFunc) := ⟨⟨Try.t86, rfl, rfl, rfl, rfl⟩, Try.isAgg86⟩
instance : Und Try.prog 89 (.int .u64) := ⟨Try.underlying89⟩
instance : Inf Try.prog 89 false 1 8 (.int .u64 (0)) := ⟨⟨Try.t89, rfl, rfl, rfl, rfl⟩, Try.isAgg89⟩
instance : Places Try.prog 27 [(0, 1)] := ⟨_, Try.underlying27, fun w => by simp [Inf.run]⟩
instance : Places Try.prog 35 [(0, 1), (1, 1), (2, 1), (3, 1)] := ⟨_, Try.underlying35, fun w => by simp [Inf.run]⟩
instance : Places Try.prog 39 [(0, 1), (1, 1)] := ⟨_, Try.underlying39, fun w => by simp [Inf.run]⟩
instance : Places Try.prog 41 [(0, 1), (1, 1)] := ⟨_, Try.underlying41, fun w => by simp [Inf.run]⟩
instance : Has Try.prog 2 := ⟨Try.call2⟩
instance : Has Try.prog 3 := ⟨Try.call3⟩
instance : Has Try.prog 4 := ⟨Try.call4⟩
instance : Has Try.prog 5 := ⟨Try.call5⟩
instance : Has Try.prog 6 := ⟨Try.call6⟩
instance : Has Try.prog 7 := ⟨Try.call7⟩
instance : Has Try.prog 8 := ⟨Try.call8⟩
instance : Has Try.prog 9 := ⟨Try.call9⟩
instance : Has Try.prog 10 := ⟨Try.call10⟩
instance : Has Try.prog 11 := ⟨Try.call11⟩
instance : Has Try.prog 12 := ⟨Try.call12⟩
instance : Has Try.prog 13 := ⟨Try.call13⟩
instance : Has Try.prog 14 := ⟨Try.call14⟩
instance : Has Try.prog 15 := ⟨Try.call15⟩
instance : Has Try.prog 16 := ⟨Try.call16⟩
instance : Has Try.prog 17 := ⟨Try.call17⟩
instance : Has Try.prog 18 := ⟨Try.call18⟩
instance : Has Try.prog 19 := ⟨Try.call19⟩
instance : Has Try.prog 20 := ⟨Try.call20⟩
instance : Has Try.prog 21 := ⟨Try.call21⟩
instance : Has Try.prog 22 := ⟨Try.call22⟩
instance : Has Try.prog 23 := ⟨Try.call23⟩
instance : Has Try.prog 24 := ⟨Try.call24⟩
instance : Has Try.prog 25 := ⟨Try.call25⟩
instance : Has Try.prog 26 := ⟨Try.call26⟩
instance : Has Try.prog 27 := ⟨Try.call27⟩
instance : Has Try.prog 28 := ⟨Try.call28⟩
instance : Has Try.prog 29 := ⟨Try.call29⟩
instance : Has Try.prog 30 := ⟨Try.call30⟩
instance : Has Try.prog 31 := ⟨Try.call31⟩
instance : Has Try.prog 32 := ⟨Try.call32⟩
instance : Has Try.prog 33 := ⟨Try.call33⟩
instance : Has Try.prog 34 := ⟨Try.call34⟩
instance : Has Try.prog 35 := ⟨Try.call35⟩
instance : Has Try.prog 36 := ⟨Try.call36⟩
instance : Has Try.prog 37 := ⟨Try.call37⟩
instance : Has Try.prog 38 := ⟨Try.call38⟩
instance : Has Try.prog 39 := ⟨Try.call39⟩
instance : Has Try.prog 40 := ⟨Try.call40⟩
instance : Has Try.prog 41 := ⟨Try.call41⟩
instance : Has Try.prog 42 := ⟨Try.call42⟩
instance : Has Try.prog 43 := ⟨Try.call43⟩
instance : Has Try.prog 44 := ⟨Try.call44⟩
instance : Has Try.prog 45 := ⟨Try.call45⟩
instance : Has Try.prog 46 := ⟨Try.call46⟩
instance : Has Try.prog 47 := ⟨Try.call47⟩
instance : Has Try.prog 48 := ⟨Try.call48⟩
instance : Has Try.prog 49 := ⟨Try.call49⟩
instance : Has Try.prog 50 := ⟨Try.call50⟩
instance : Has Try.prog 52 := ⟨Try.call52⟩
instance : Has Try.prog 53 := ⟨Try.call53⟩
instance : Has Try.prog 54 := ⟨Try.call54⟩
instance : Has Try.prog 55 := ⟨Try.call55⟩
instance : EqL Try.prog 41 .i64 2 2 := eqS (lv := 1) Try.underlying41 (by kernel_rfl) (by decide) (.int (by decide) rfl Try.underlying3 Try.isAgg3 (.int (by decide) rfl Try.underlying3 Try.isAgg3 (.nil)))
end Go.XG
