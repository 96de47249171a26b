/-
  The types and functions of this seat, as instances. Printed by a program.
-/
import Derived.Test.YtbcbgjikgilpcaaProg
import Derived.Test.YtbcbgjikgilpcaaXh
import Derived.Test.YtbcbgjikgilpcaaXs
namespace Go.XG
open Go.Proofs
instance : Und Try.prog 3 (.int .i64) := ⟨Try.underlying3⟩
instance : Inf Try.prog 3 false 1 8 (.int .i64 (0)) := ⟨⟨Try.t3, rfl, rfl, rfl, rfl⟩, Try.isAgg3⟩
instance : Und Try.prog 4 .bool := ⟨Try.underlying4⟩
instance : Inf Try.prog 4 false 1 1 (.bool false) := ⟨⟨Try.t4, rfl, rfl, rfl, rfl⟩, Try.isAgg4⟩
instance : Und Try.prog 5 (.int .u8) := ⟨Try.underlying5⟩
instance : Inf Try.prog 5 false 1 1 (.int .u8 (0)) := ⟨⟨Try.t5, rfl, rfl, rfl, rfl⟩, Try.isAgg5⟩
instance : Und Try.prog 22 (.int .i64) := ⟨Try.underlying22⟩
instance : Inf Try.prog 22 false 1 8 (.int .i64 (0)) := ⟨⟨Try.t22, rfl, rfl, rfl, rfl⟩, Try.isAgg22⟩
instance : Und Try.prog 27 (.slice 54) := ⟨Try.underlying27⟩
instance : Inf Try.prog 27 false 1 24 (.slice none 0 0) := ⟨⟨Try.t27, rfl, rfl, rfl, rfl⟩, Try.isAgg27⟩
instance : Und Try.prog 28 (.array 4 3) := ⟨Try.underlying28⟩
instance : Inf Try.prog 28 true 4 32 (.agg #[.int .i64 (0), .int .i64 (0), .int .i64 (0), .int .i64 (0)]) := ⟨⟨Try.t28, rfl, rfl, rfl, rfl⟩, Try.isAgg28⟩
instance : Und Try.prog 30 (.pointer 47) := ⟨Try.underlying30⟩
instance : Inf Try.prog 30 false 1 8 (.pointer none) := ⟨⟨Try.t30, rfl, rfl, rfl, rfl⟩, Try.isAgg30⟩
instance : Und Try.prog 40 (.slice 3) := ⟨Try.underlying40⟩
instance : Inf Try.prog 40 false 1 24 (.slice none 0 0) := ⟨⟨Try.t40, rfl, rfl, rfl, rfl⟩, Try.isAgg40⟩
instance : Und Try.prog 44 (.array 2 5) := ⟨Try.underlying44⟩
instance : Inf Try.prog 44 true 2 2 (.agg #[.int .u8 (0), .int .u8 (0)]) := ⟨⟨Try.t44, rfl, rfl, rfl, rfl⟩, Try.isAgg44⟩
instance : Und Try.prog 45 (.slice 52) := ⟨Try.underlying45⟩
instance : Inf Try.prog 45 false 1 24 (.slice none 0 0) := ⟨⟨Try.t45, rfl, rfl, rfl, rfl⟩, Try.isAgg45⟩
instance : Inf Try.prog 47 true 1 24 (.agg #[.slice none 0 0]) := ⟨⟨Try.t47, rfl, rfl, rfl, rfl⟩, Try.isAgg47⟩
instance : FieldAt Try.prog 47 0 0 45 := ⟨⟨_, _, Try.underlying47, rfl, rfl, rfl⟩⟩
instance : Und Try.prog 52 (.slice 56) := ⟨Try.underlying52⟩
instance : Inf Try.prog 52 false 1 24 (.slice none 0 0) := ⟨⟨Try.t52, rfl, rfl, rfl, rfl⟩, Try.isAgg52⟩
instance : Inf Try.prog 54 true 2 32 (.agg #[.int .i64 (0), .slice none 0 0]) := ⟨⟨Try.t54, rfl, rfl, rfl, rfl⟩, Try.isAgg54⟩
instance : FieldAt Try.prog 54 0 0 3 := ⟨⟨_, _, Try.underlying54, rfl, rfl, rfl⟩⟩
instance : FieldAt Try.prog 54 1 1 52 := ⟨⟨_, _, Try.underlying54, rfl, rfl, rfl⟩⟩
instance : Inf Try.prog 56 true 2 16 (.agg #[.int .i64 (0), .int .i64 (0)]) := ⟨⟨Try.t56, rfl, rfl, rfl, rfl⟩, Try.isAgg56⟩
instance : FieldAt Try.prog 56 0 0 3 := ⟨⟨_, _, Try.underlying56, rfl, rfl, rfl⟩⟩
instance : FieldAt Try.prog 56 1 1 3 := ⟨⟨_, _, Try.underlying56, rfl, rfl, rfl⟩⟩
instance : Inf Try.prog 71 false 1 8 (.nilFunc) := ⟨⟨Try.t71, rfl, rfl, rfl, rfl⟩, Try.isAgg71⟩
instance : Inf Try.prog 74 false 1 8 (.nilFunc) := ⟨⟨Try.t74, rfl, rfl, rfl, rfl⟩, Try.isAgg74⟩
instance : Und Try.prog 78 (.int .u64) := ⟨Try.underlying78⟩
instance : Inf Try.prog 78 false 1 8 (.int .u64 (0)) := ⟨⟨Try.t78, rfl, rfl, rfl, rfl⟩, Try.isAgg78⟩
instance : Places Try.prog 47 [(0, 1)] := ⟨_, Try.underlying47, fun w => by simp [Inf.run]⟩
instance : Places Try.prog 54 [(0, 1), (1, 1)] := ⟨_, Try.underlying54, fun w => by simp [Inf.run]⟩
instance : Places Try.prog 56 [(0, 1), (1, 1)] := ⟨_, Try.underlying56, fun w => by simp [Inf.run]⟩
instance : Has Try.prog 2 := ⟨Try.call2⟩
instance : Has Try.prog 3 := ⟨Try.call3⟩
instance : Has Try.prog 4 := ⟨Try.call4⟩
instance : Has Try.prog 5 := ⟨Try.call5⟩
instance : Has Try.prog 6 := ⟨Try.call6⟩
instance : Has Try.prog 7 := ⟨Try.call7⟩
instance : Has Try.prog 8 := ⟨Try.call8⟩
instance : Has Try.prog 9 := ⟨Try.call9⟩
instance : Has Try.prog 10 := ⟨Try.call10⟩
instance : Has Try.prog 11 := ⟨Try.call11⟩
instance : Has Try.prog 12 := ⟨Try.call12⟩
instance : Has Try.prog 13 := ⟨Try.call13⟩
instance : Has Try.prog 14 := ⟨Try.call14⟩
instance : Has Try.prog 15 := ⟨Try.call15⟩
instance : Has Try.prog 16 := ⟨Try.call16⟩
instance : Has Try.prog 17 := ⟨Try.call17⟩
instance : Has Try.prog 18 := ⟨Try.call18⟩
instance : Has Try.prog 19 := ⟨Try.call19⟩
instance : Has Try.prog 20 := ⟨Try.call20⟩
instance : Has Try.prog 21 := ⟨Try.call21⟩
instance : Has Try.prog 22 := ⟨Try.call22⟩
instance : Has Try.prog 23 := ⟨Try.call23⟩
instance : Has Try.prog 24 := ⟨Try.call24⟩
instance : Has Try.prog 25 := ⟨Try.call25⟩
instance : Has Try.prog 26 := ⟨Try.call26⟩
instance : Has Try.prog 27 := ⟨Try.call27⟩
instance : Has Try.prog 28 := ⟨Try.call28⟩
instance : Has Try.prog 29 := ⟨Try.call29⟩
instance : Has Try.prog 30 := ⟨Try.call30⟩
instance : Has Try.prog 31 := ⟨Try.call31⟩
instance : Has Try.prog 32 := ⟨Try.call32⟩
instance : Has Try.prog 33 := ⟨Try.call33⟩
instance : Has Try.prog 34 := ⟨Try.call34⟩
instance : Has Try.prog 35 := ⟨Try.call35⟩
instance : Has Try.prog 36 := ⟨Try.call36⟩
instance : Has Try.prog 37 := ⟨Try.call37⟩
instance : Has Try.prog 38 := ⟨Try.call38⟩
instance : Has Try.prog 39 := ⟨Try.call39⟩
instance : Has Try.prog 40 := ⟨Try.call40⟩
instance : Has Try.prog 41 := ⟨Try.call41⟩
instance : Has Try.prog 42 := ⟨Try.call42⟩
instance : Has Try.prog 43 := ⟨Try.call43⟩
instance : Has Try.prog 44 := ⟨Try.call44⟩
instance : Has Try.prog 45 := ⟨Try.call45⟩
instance : Has Try.prog 46 := ⟨Try.call46⟩
instance : Has Try.prog 47 := ⟨Try.call47⟩
instance : Has Try.prog 48 := ⟨Try.call48⟩
instance : Has Try.prog 49 := ⟨Try.call49⟩
instance : Has Try.prog 50 := ⟨Try.call50⟩
instance : Has Try.prog 51 := ⟨Try.call51⟩
instance : Has Try.prog 52 := ⟨Try.call52⟩
instance : Has Try.prog 54 := ⟨Try.call54⟩
instance : Has Try.prog 55 := ⟨Try.call55⟩
instance : Has Try.prog 56 := ⟨Try.call56⟩
instance : Has Try.prog 57 := ⟨Try.call57⟩
end Go.XG
