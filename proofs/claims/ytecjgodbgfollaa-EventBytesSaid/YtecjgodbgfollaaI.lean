/-
  The types and functions of this seat, as instances. Printed by a program.
-/
import Derived.Test.YtecjgodbgfollaaProg
import Derived.Test.YtecjgodbgfollaaXh
namespace Go.XG
open Go.Proofs
instance : Und Try.prog 3 (.int .i64) := ⟨Try.underlying3⟩
instance : Inf Try.prog 3 false 1 8 (.int .i64 (0)) := ⟨⟨Try.t3, rfl, rfl, rfl, rfl⟩, Try.isAgg3⟩
instance : Und Try.prog 4 .bool := ⟨Try.underlying4⟩
instance : Inf Try.prog 4 false 1 1 (.bool false) := ⟨⟨Try.t4, rfl, rfl, rfl, rfl⟩, Try.isAgg4⟩
instance : Und Try.prog 5 (.int .u8) := ⟨Try.underlying5⟩
instance : Inf Try.prog 5 false 1 1 (.int .u8 (0)) := ⟨⟨Try.t5, rfl, rfl, rfl, rfl⟩, Try.isAgg5⟩
instance : Und Try.prog 9 .string := ⟨Try.underlying9⟩
instance : Inf Try.prog 9 false 1 16 (.string (bs [])) := ⟨⟨Try.t9, rfl, rfl, rfl, rfl⟩, Try.isAgg9⟩
instance : Inf Try.prog 20 false 1 16 (.nilIface) := ⟨⟨Try.t20, rfl, rfl, rfl, rfl⟩, Try.isAgg20⟩
instance : Und Try.prog 22 (.slice 29) := ⟨Try.underlying22⟩
instance : Inf Try.prog 22 false 1 24 (.slice none 0 0) := ⟨⟨Try.t22, rfl, rfl, rfl, rfl⟩, Try.isAgg22⟩
instance : Und Try.prog 24 (.pointer 27) := ⟨Try.underlying24⟩
instance : Inf Try.prog 24 false 1 8 (.pointer none) := ⟨⟨Try.t24, rfl, rfl, rfl, rfl⟩, Try.isAgg24⟩
instance : Und Try.prog 25 (.map 38 3) := ⟨Try.underlying25⟩
instance : Inf Try.prog 25 false 1 8 (.map none) := ⟨⟨Try.t25, rfl, rfl, rfl, rfl⟩, Try.isAgg25⟩
instance : Inf Try.prog 27 true 2 32 (.agg #[.slice none 0 0, .map none]) := ⟨⟨Try.t27, rfl, rfl, rfl, rfl⟩, Try.isAgg27⟩
instance : FieldAt Try.prog 27 0 0 22 := ⟨⟨_, _, Try.underlying27, rfl, rfl, rfl⟩⟩
instance : FieldAt Try.prog 27 1 1 25 := ⟨⟨_, _, Try.underlying27, rfl, rfl, rfl⟩⟩
instance : Inf Try.prog 29 true 4 32 (.agg #[.int .i64 (0), .int .i64 (0), .int .i64 (0), .int .i64 (0)]) := ⟨⟨Try.t29, rfl, rfl, rfl, rfl⟩, Try.isAgg29⟩
instance : IntS Try.prog 29 .i64 4 := ⟨_, Try.underlying29, by kernel_rfl, .cons (by decide) rfl Try.underlying3 Try.isAgg3 (.cons (by decide) rfl Try.underlying3 Try.isAgg3 (.cons (by decide) rfl Try.underlying3 Try.isAgg3 (.cons (by decide) rfl Try.underlying3 Try.isAgg3 (.nil))))⟩
instance : NoGuard Try.prog 29 := ⟨by kernel_rfl⟩
instance : FieldAt Try.prog 29 0 0 3 := ⟨⟨_, _, Try.underlying29, rfl, rfl, rfl⟩⟩
instance : FieldAt Try.prog 29 1 1 3 := ⟨⟨_, _, Try.underlying29, rfl, rfl, rfl⟩⟩
instance : FieldAt Try.prog 29 2 2 3 := ⟨⟨_, _, Try.underlying29, rfl, rfl, rfl⟩⟩
instance : FieldAt Try.prog 29 3 3 3 := ⟨⟨_, _, Try.underlying29, rfl, rfl, rfl⟩⟩
instance : Und Try.prog 32 (.int .i64) := ⟨Try.underlying32⟩
instance : Inf Try.prog 32 false 1 8 (.int .i64 (0)) := ⟨⟨Try.t32, rfl, rfl, rfl, rfl⟩, Try.isAgg32⟩
instance : Und Try.prog 38 (.array 2 3) := ⟨Try.underlying38⟩
instance : Inf Try.prog 38 true 2 16 (.agg #[.int .i64 (0), .int .i64 (0)]) := ⟨⟨Try.t38, rfl, rfl, rfl, rfl⟩, Try.isAgg38⟩
instance : Inf Try.prog 55 false 1 8 (.nilFunc) := ⟨⟨Try.t55, rfl, rfl, rfl, rfl⟩, Try.isAgg55⟩
instance : Und Try.prog 61 (.array 4 3) := ⟨Try.underlying61⟩
instance : Inf Try.prog 61 true 4 32 (.agg #[.int .i64 (0), .int .i64 (0), .int .i64 (0), .int .i64 (0)]) := ⟨⟨Try.t61, rfl, rfl, rfl, rfl⟩, Try.isAgg61⟩
instance : Und Try.prog 62 (.pointer 73) := ⟨Try.underlying62⟩
instance : Inf Try.prog 62 false 1 8 (.pointer none) := ⟨⟨Try.t62, rfl, rfl, rfl, rfl⟩, Try.isAgg62⟩
instance : Und Try.prog 65 (.pointer 67) := ⟨Try.underlying65⟩
instance : Inf Try.prog 65 false 1 8 (.pointer none) := ⟨⟨Try.t65, rfl, rfl, rfl, rfl⟩, Try.isAgg65⟩
instance : Inf Try.prog 67 true 3 32 (.agg #[.string (bs []), .int .i64 (0), .bool false]) := ⟨⟨Try.t67, rfl, rfl, rfl, rfl⟩, Try.isAgg67⟩
instance : FieldAt Try.prog 67 0 0 9 := ⟨⟨_, _, Try.underlying67, rfl, rfl, rfl⟩⟩
instance : FieldAt Try.prog 67 1 1 3 := ⟨⟨_, _, Try.underlying67, rfl, rfl, rfl⟩⟩
instance : FieldAt Try.prog 67 2 2 4 := ⟨⟨_, _, Try.underlying67, rfl, rfl, rfl⟩⟩
instance : Und Try.prog 71 (.int .u64) := ⟨Try.underlying71⟩
instance : Inf Try.prog 71 false 1 8 (.int .u64 (0)) := ⟨⟨Try.t71, rfl, rfl, rfl, rfl⟩, Try.isAgg71⟩
instance : Inf Try.prog 73 true 3 24 (.agg #[.string (bs []), .bool false, .bool false]) := ⟨⟨Try.t73, rfl, rfl, rfl, rfl⟩, Try.isAgg73⟩
instance : FieldAt Try.prog 73 0 0 9 := ⟨⟨_, _, Try.underlying73, rfl, rfl, rfl⟩⟩
instance : FieldAt Try.prog 73 1 1 4 := ⟨⟨_, _, Try.underlying73, rfl, rfl, rfl⟩⟩
instance : FieldAt Try.prog 73 2 2 4 := ⟨⟨_, _, Try.underlying73, rfl, rfl, rfl⟩⟩
instance : Und Try.prog 77 (.slice 5) := ⟨Try.underlying77⟩
instance : Inf Try.prog 77 false 1 24 (.slice none 0 0) := ⟨⟨Try.t77, rfl, rfl, rfl, rfl⟩, Try.isAgg77⟩
instance : Places Try.prog 27 [(0, 1), (1, 1)] := ⟨_, Try.underlying27, fun w => by simp [Inf.run]⟩
instance : Places Try.prog 29 [(0, 1), (1, 1), (2, 1), (3, 1)] := ⟨_, Try.underlying29, fun w => by simp [Inf.run]⟩
instance : Places Try.prog 67 [(0, 1), (1, 1), (2, 1)] := ⟨_, Try.underlying67, fun w => by simp [Inf.run]⟩
instance : Places Try.prog 73 [(0, 1), (1, 1), (2, 1)] := ⟨_, Try.underlying73, fun w => by simp [Inf.run]⟩
instance : Has Try.prog 2 := ⟨Try.call2⟩
instance : Has Try.prog 3 := ⟨Try.call3⟩
instance : Has Try.prog 4 := ⟨Try.call4⟩
instance : Has Try.prog 5 := ⟨Try.call5⟩
instance : Has Try.prog 6 := ⟨Try.call6⟩
instance : Has Try.prog 7 := ⟨Try.call7⟩
instance : Has Try.prog 8 := ⟨Try.call8⟩
instance : Has Try.prog 9 := ⟨Try.call9⟩
instance : Has Try.prog 10 := ⟨Try.call10⟩
instance : Has Try.prog 11 := ⟨Try.call11⟩
instance : Has Try.prog 12 := ⟨Try.call12⟩
instance : Has Try.prog 13 := ⟨Try.call13⟩
instance : Has Try.prog 14 := ⟨Try.call14⟩
instance : Has Try.prog 15 := ⟨Try.call15⟩
instance : Has Try.prog 16 := ⟨Try.call16⟩
instance : Has Try.prog 17 := ⟨Try.call17⟩
instance : Has Try.prog 18 := ⟨Try.call18⟩
instance : Has Try.prog 19 := ⟨Try.call19⟩
instance : Has Try.prog 20 := ⟨Try.call20⟩
instance : Has Try.prog 21 := ⟨Try.call21⟩
instance : Has Try.prog 22 := ⟨Try.call22⟩
instance : Has Try.prog 23 := ⟨Try.call23⟩
instance : Has Try.prog 24 := ⟨Try.call24⟩
instance : Has Try.prog 25 := ⟨Try.call25⟩
instance : Has Try.prog 26 := ⟨Try.call26⟩
instance : Has Try.prog 27 := ⟨Try.call27⟩
instance : Has Try.prog 28 := ⟨Try.call28⟩
instance : Has Try.prog 29 := ⟨Try.call29⟩
instance : Has Try.prog 30 := ⟨Try.call30⟩
instance : Has Try.prog 31 := ⟨Try.call31⟩
instance : Has Try.prog 32 := ⟨Try.call32⟩
instance : Has Try.prog 33 := ⟨Try.call33⟩
instance : Has Try.prog 34 := ⟨Try.call34⟩
instance : Has Try.prog 35 := ⟨Try.call35⟩
instance : Has Try.prog 36 := ⟨Try.call36⟩
instance : Has Try.prog 37 := ⟨Try.call37⟩
instance : Has Try.prog 39 := ⟨Try.call39⟩
instance : Has Try.prog 40 := ⟨Try.call40⟩
instance : Has Try.prog 41 := ⟨Try.call41⟩
instance : Has Try.prog 42 := ⟨Try.call42⟩
instance : Has Try.prog 43 := ⟨Try.call43⟩
instance : Has Try.prog 44 := ⟨Try.call44⟩
instance : Has Try.prog 45 := ⟨Try.call45⟩
instance : Has Try.prog 46 := ⟨Try.call46⟩
end Go.XG
