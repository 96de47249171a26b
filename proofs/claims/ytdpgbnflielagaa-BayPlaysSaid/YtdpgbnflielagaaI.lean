/-
  The types and functions of this seat, as instances. Printed by a program.
-/
import Derived.Test.YtdpgbnflielagaaProg
import Derived.Test.YtdpgbnflielagaaXh
namespace Go.XG
open Go.Proofs
instance : Und Try.prog 3 (.int .i64) := ⟨Try.underlying3⟩
instance : Inf Try.prog 3 false 1 8 (.int .i64 (0)) := ⟨⟨Try.t3, rfl, rfl, rfl, rfl⟩, Try.isAgg3⟩
instance : Und Try.prog 4 .bool := ⟨Try.underlying4⟩
instance : Inf Try.prog 4 false 1 1 (.bool false) := ⟨⟨Try.t4, rfl, rfl, rfl, rfl⟩, Try.isAgg4⟩
instance : Und Try.prog 5 (.int .u8) := ⟨Try.underlying5⟩
instance : Inf Try.prog 5 false 1 1 (.int .u8 (0)) := ⟨⟨Try.t5, rfl, rfl, rfl, rfl⟩, Try.isAgg5⟩
instance : Und Try.prog 22 (.slice 5) := ⟨Try.underlying22⟩
instance : Inf Try.prog 22 false 1 24 (.slice none 0 0) := ⟨⟨Try.t22, rfl, rfl, rfl, rfl⟩, Try.isAgg22⟩
instance : Und Try.prog 23 (.pointer 52) := ⟨Try.underlying23⟩
instance : Inf Try.prog 23 false 1 8 (.pointer none) := ⟨⟨Try.t23, rfl, rfl, rfl, rfl⟩, Try.isAgg23⟩
instance : Und Try.prog 24 (.int .i64) := ⟨Try.underlying24⟩
instance : Inf Try.prog 24 false 1 8 (.int .i64 (0)) := ⟨⟨Try.t24, rfl, rfl, rfl, rfl⟩, Try.isAgg24⟩
instance : Inf Try.prog 28 true 4 32 (.agg #[.int .i64 (0), .int .i64 (0), .int .i64 (0), .int .i64 (0)]) := ⟨⟨Try.t28, rfl, rfl, rfl, rfl⟩, Try.isAgg28⟩
instance : FieldAt Try.prog 28 0 0 3 := ⟨⟨_, _, Try.underlying28, rfl, rfl, rfl⟩⟩
instance : FieldAt Try.prog 28 1 1 3 := ⟨⟨_, _, Try.underlying28, rfl, rfl, rfl⟩⟩
instance : FieldAt Try.prog 28 2 2 3 := ⟨⟨_, _, Try.underlying28, rfl, rfl, rfl⟩⟩
instance : FieldAt Try.prog 28 3 3 3 := ⟨⟨_, _, Try.underlying28, rfl, rfl, rfl⟩⟩
instance : Und Try.prog 29 (.slice 28) := ⟨Try.underlying29⟩
instance : Inf Try.prog 29 false 1 24 (.slice none 0 0) := ⟨⟨Try.t29, rfl, rfl, rfl, rfl⟩, Try.isAgg29⟩
instance : Und Try.prog 35 (.int .u64) := ⟨Try.underlying35⟩
instance : Inf Try.prog 35 false 1 8 (.int .u64 (0)) := ⟨⟨Try.t35, rfl, rfl, rfl, rfl⟩, Try.isAgg35⟩
instance : Und Try.prog 36 (.slice 40) := ⟨Try.underlying36⟩
instance : Inf Try.prog 36 false 1 24 (.slice none 0 0) := ⟨⟨Try.t36, rfl, rfl, rfl, rfl⟩, Try.isAgg36⟩
instance : Und Try.prog 38 (.slice 3) := ⟨Try.underlying38⟩
instance : Inf Try.prog 38 false 1 24 (.slice none 0 0) := ⟨⟨Try.t38, rfl, rfl, rfl, rfl⟩, Try.isAgg38⟩
instance : Inf Try.prog 40 true 2 48 (.agg #[.slice none 0 0, .slice none 0 0]) := ⟨⟨Try.t40, rfl, rfl, rfl, rfl⟩, Try.isAgg40⟩
instance : FieldAt Try.prog 40 0 0 38 := ⟨⟨_, _, Try.underlying40, rfl, rfl, rfl⟩⟩
instance : FieldAt Try.prog 40 1 1 38 := ⟨⟨_, _, Try.underlying40, rfl, rfl, rfl⟩⟩
instance : Inf Try.prog 43 true 4 32 (.agg #[.int .i64 (0), .int .i64 (0), .int .i64 (0), .int .i64 (0)]) := ⟨⟨Try.t43, rfl, rfl, rfl, rfl⟩, Try.isAgg43⟩
instance : FieldAt Try.prog 43 0 0 3 := ⟨⟨_, _, Try.underlying43, rfl, rfl, rfl⟩⟩
instance : FieldAt Try.prog 43 1 1 3 := ⟨⟨_, _, Try.underlying43, rfl, rfl, rfl⟩⟩
instance : FieldAt Try.prog 43 2 2 3 := ⟨⟨_, _, Try.underlying43, rfl, rfl, rfl⟩⟩
instance : FieldAt Try.prog 43 3 3 3 := ⟨⟨_, _, Try.underlying43, rfl, rfl, rfl⟩⟩
instance : Inf Try.prog 45 true 2 48 (.agg #[.slice none 0 0, .slice none 0 0]) := ⟨⟨Try.t45, rfl, rfl, rfl, rfl⟩, Try.isAgg45⟩
instance : FieldAt Try.prog 45 0 0 29 := ⟨⟨_, _, Try.underlying45, rfl, rfl, rfl⟩⟩
instance : FieldAt Try.prog 45 1 1 36 := ⟨⟨_, _, Try.underlying45, rfl, rfl, rfl⟩⟩
instance : Und Try.prog 49 (.slice 69) := ⟨Try.underlying49⟩
instance : Inf Try.prog 49 false 1 24 (.slice none 0 0) := ⟨⟨Try.t49, rfl, rfl, rfl, rfl⟩, Try.isAgg49⟩
instance : Und Try.prog 50 (.map 3 3) := ⟨Try.underlying50⟩
instance : Inf Try.prog 50 false 1 8 (.map none) := ⟨⟨Try.t50, rfl, rfl, rfl, rfl⟩, Try.isAgg50⟩
instance : Inf Try.prog 52 true 2 32 (.agg #[.slice none 0 0, .map none]) := ⟨⟨Try.t52, rfl, rfl, rfl, rfl⟩, Try.isAgg52⟩
instance : FieldAt Try.prog 52 0 0 49 := ⟨⟨_, _, Try.underlying52, rfl, rfl, rfl⟩⟩
instance : FieldAt Try.prog 52 1 1 50 := ⟨⟨_, _, Try.underlying52, rfl, rfl, rfl⟩⟩
instance : Und Try.prog 53 (.slice 23) := ⟨Try.underlying53⟩
instance : Inf Try.prog 53 false 1 24 (.slice none 0 0) := ⟨⟨Try.t53, rfl, rfl, rfl, rfl⟩, Try.isAgg53⟩
instance : Und Try.prog 59 (.slice 43) := ⟨Try.underlying59⟩
instance : Inf Try.prog 59 false 1 24 (.slice none 0 0) := ⟨⟨Try.t59, rfl, rfl, rfl, rfl⟩, Try.isAgg59⟩
instance : Und Try.prog 67 (.array 2 3) := ⟨Try.underlying67⟩
instance : Inf Try.prog 67 true 2 16 (.agg #[.int .i64 (0), .int .i64 (0)]) := ⟨⟨Try.t67, rfl, rfl, rfl, rfl⟩, Try.isAgg67⟩
instance : Inf Try.prog 69 true 3 56 (.agg #[.int .i64 (0), .slice none 0 0, .slice none 0 0]) := ⟨⟨Try.t69, rfl, rfl, rfl, rfl⟩, Try.isAgg69⟩
instance : FieldAt Try.prog 69 0 0 3 := ⟨⟨_, _, Try.underlying69, rfl, rfl, rfl⟩⟩
instance : FieldAt Try.prog 69 1 1 38 := ⟨⟨_, _, Try.underlying69, rfl, rfl, rfl⟩⟩
instance : FieldAt Try.prog 69 2 2 38 := ⟨⟨_, _, Try.underlying69, rfl, rfl, rfl⟩⟩
instance : Inf Try.prog 70 false 1 8 (.nilFunc) := ⟨⟨Try.t70, rfl, rfl, rfl, rfl⟩, Try.isAgg70⟩
instance : Und Try.prog 72 (.pointer 69) := ⟨Try.underlying72⟩
instance : Inf Try.prog 72 false 1 8 (.pointer none) := ⟨⟨Try.t72, rfl, rfl, rfl, rfl⟩, Try.isAgg72⟩
instance : Places Try.prog 28 [(0, 1), (1, 1), (2, 1), (3, 1)] := ⟨_, Try.underlying28, fun w => by simp [Inf.run]⟩
instance : Places Try.prog 40 [(0, 1), (1, 1)] := ⟨_, Try.underlying40, fun w => by simp [Inf.run]⟩
instance : Places Try.prog 43 [(0, 1), (1, 1), (2, 1), (3, 1)] := ⟨_, Try.underlying43, fun w => by simp [Inf.run]⟩
instance : Places Try.prog 45 [(0, 1), (1, 1)] := ⟨_, Try.underlying45, fun w => by simp [Inf.run]⟩
instance : Places Try.prog 52 [(0, 1), (1, 1)] := ⟨_, Try.underlying52, fun w => by simp [Inf.run]⟩
instance : Places Try.prog 69 [(0, 1), (1, 1), (2, 1)] := ⟨_, Try.underlying69, fun w => by simp [Inf.run]⟩
instance : Has Try.prog 2 := ⟨Try.call2⟩
instance : Has Try.prog 3 := ⟨Try.call3⟩
instance : Has Try.prog 4 := ⟨Try.call4⟩
instance : Has Try.prog 5 := ⟨Try.call5⟩
instance : Has Try.prog 6 := ⟨Try.call6⟩
instance : Has Try.prog 7 := ⟨Try.call7⟩
instance : Has Try.prog 8 := ⟨Try.call8⟩
instance : Has Try.prog 9 := ⟨Try.call9⟩
instance : Has Try.prog 10 := ⟨Try.call10⟩
instance : Has Try.prog 11 := ⟨Try.call11⟩
instance : Has Try.prog 12 := ⟨Try.call12⟩
instance : Has Try.prog 13 := ⟨Try.call13⟩
instance : Has Try.prog 14 := ⟨Try.call14⟩
instance : Has Try.prog 15 := ⟨Try.call15⟩
instance : Has Try.prog 16 := ⟨Try.call16⟩
instance : Has Try.prog 17 := ⟨Try.call17⟩
instance : Has Try.prog 18 := ⟨Try.call18⟩
instance : Has Try.prog 19 := ⟨Try.call19⟩
instance : Has Try.prog 20 := ⟨Try.call20⟩
instance : Has Try.prog 21 := ⟨Try.call21⟩
instance : Has Try.prog 22 := ⟨Try.call22⟩
instance : Has Try.prog 23 := ⟨Try.call23⟩
instance : Has Try.prog 24 := ⟨Try.call24⟩
instance : Has Try.prog 25 := ⟨Try.call25⟩
instance : Has Try.prog 26 := ⟨Try.call26⟩
instance : Has Try.prog 27 := ⟨Try.call27⟩
instance : Has Try.prog 28 := ⟨Try.call28⟩
instance : Has Try.prog 29 := ⟨Try.call29⟩
instance : Has Try.prog 30 := ⟨Try.call30⟩
instance : Has Try.prog 31 := ⟨Try.call31⟩
instance : Has Try.prog 32 := ⟨Try.call32⟩
instance : Has Try.prog 33 := ⟨Try.call33⟩
instance : Has Try.prog 34 := ⟨Try.call34⟩
instance : Has Try.prog 35 := ⟨Try.call35⟩
instance : Has Try.prog 36 := ⟨Try.call36⟩
instance : Has Try.prog 37 := ⟨Try.call37⟩
instance : Has Try.prog 38 := ⟨Try.call38⟩
instance : Has Try.prog 39 := ⟨Try.call39⟩
instance : Has Try.prog 40 := ⟨Try.call40⟩
instance : Has Try.prog 41 := ⟨Try.call41⟩
instance : Has Try.prog 42 := ⟨Try.call42⟩
instance : Has Try.prog 43 := ⟨Try.call43⟩
instance : Has Try.prog 44 := ⟨Try.call44⟩
instance : Has Try.prog 45 := ⟨Try.call45⟩
instance : Has Try.prog 46 := ⟨Try.call46⟩
instance : Has Try.prog 47 := ⟨Try.call47⟩
instance : Has Try.prog 48 := ⟨Try.call48⟩
instance : Has Try.prog 49 := ⟨Try.call49⟩
instance : Has Try.prog 51 := ⟨Try.call51⟩
instance : Has Try.prog 52 := ⟨Try.call52⟩
instance : Has Try.prog 53 := ⟨Try.call53⟩
instance : Has Try.prog 54 := ⟨Try.call54⟩
end Go.XG
