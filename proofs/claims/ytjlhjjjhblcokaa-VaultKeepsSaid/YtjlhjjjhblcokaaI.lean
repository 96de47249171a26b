/-
  The types and functions of this seat, as instances. Printed by a program.
-/
import Derived.Test.YtjlhjjjhblcokaaProg
import Derived.Test.YtjlhjjjhblcokaaXh
import Derived.Test.YtjlhjjjhblcokaaXs
namespace Go.XG
open Go.Proofs
set_option maxRecDepth 20000
instance : Inf Try.prog 1 false 1 8 (.nilFunc) := ⟨⟨Try.t1, rfl, rfl, rfl, rfl⟩, Try.isAgg1⟩
instance : Und Try.prog 3 (.int .i64) := ⟨Try.underlying3⟩
instance : Inf Try.prog 3 false 1 8 (.int .i64 (0)) := ⟨⟨Try.t3, rfl, rfl, rfl, rfl⟩, Try.isAgg3⟩
instance : Und Try.prog 4 .bool := ⟨Try.underlying4⟩
instance : Inf Try.prog 4 false 1 1 (.bool false) := ⟨⟨Try.t4, rfl, rfl, rfl, rfl⟩, Try.isAgg4⟩
instance : Und Try.prog 22 (.int .i64) := ⟨Try.underlying22⟩
instance : Inf Try.prog 22 false 1 8 (.int .i64 (0)) := ⟨⟨Try.t22, rfl, rfl, rfl, rfl⟩, Try.isAgg22⟩
instance : Und Try.prog 29 (.slice 99) := ⟨Try.underlying29⟩
instance : Inf Try.prog 29 false 1 24 (.slice none 0 0) := ⟨⟨Try.t29, rfl, rfl, rfl, rfl⟩, Try.isAgg29⟩
instance : Und Try.prog 30 (.slice 40) := ⟨Try.underlying30⟩
instance : Inf Try.prog 30 false 1 24 (.slice none 0 0) := ⟨⟨Try.t30, rfl, rfl, rfl, rfl⟩, Try.isAgg30⟩
instance : Und Try.prog 31 (.pointer 87) := ⟨Try.underlying31⟩
instance : Inf Try.prog 31 false 1 8 (.pointer none) := ⟨⟨Try.t31, rfl, rfl, rfl, rfl⟩, Try.isAgg31⟩
instance : Inf Try.prog 37 true 4 32 (.agg #[.int .i64 (0), .int .i64 (0), .int .i64 (0), .int .i64 (0)]) := ⟨⟨Try.t37, rfl, rfl, rfl, rfl⟩, Try.isAgg37⟩
instance : IntS Try.prog 37 .i64 4 := ⟨_, Try.underlying37, by kernel_rfl, .cons (by decide) rfl Try.underlying3 Try.isAgg3 (.cons (by decide) rfl Try.underlying3 Try.isAgg3 (.cons (by decide) rfl Try.underlying3 Try.isAgg3 (.cons (by decide) rfl Try.underlying3 Try.isAgg3 (.nil))))⟩
instance : NoGuard Try.prog 37 := ⟨by kernel_rfl⟩
instance : FieldAt Try.prog 37 0 0 3 := ⟨⟨_, _, Try.underlying37, rfl, rfl, rfl⟩⟩
instance : FieldAt Try.prog 37 1 1 3 := ⟨⟨_, _, Try.underlying37, rfl, rfl, rfl⟩⟩
instance : FieldAt Try.prog 37 2 2 3 := ⟨⟨_, _, Try.underlying37, rfl, rfl, rfl⟩⟩
instance : FieldAt Try.prog 37 3 3 3 := ⟨⟨_, _, Try.underlying37, rfl, rfl, rfl⟩⟩
instance : Und Try.prog 38 (.slice 90) := ⟨Try.underlying38⟩
instance : Inf Try.prog 38 false 1 24 (.slice none 0 0) := ⟨⟨Try.t38, rfl, rfl, rfl, rfl⟩, Try.isAgg38⟩
instance : Inf Try.prog 40 true 9 88 (.agg #[.int .i64 (0), .int .i64 (0), .int .i64 (0), .int .i64 (0), .int .i64 (0), .int .i64 (0), .int .i64 (0), .int .i64 (0), .slice none 0 0]) := ⟨⟨Try.t40, rfl, rfl, rfl, rfl⟩, Try.isAgg40⟩
instance : FieldAt Try.prog 40 0 0 3 := ⟨⟨_, _, Try.underlying40, rfl, rfl, rfl⟩⟩
instance : FieldAt Try.prog 40 1 1 3 := ⟨⟨_, _, Try.underlying40, rfl, rfl, rfl⟩⟩
instance : FieldAt Try.prog 40 2 2 3 := ⟨⟨_, _, Try.underlying40, rfl, rfl, rfl⟩⟩
instance : FieldAt Try.prog 40 3 3 3 := ⟨⟨_, _, Try.underlying40, rfl, rfl, rfl⟩⟩
instance : FieldAt Try.prog 40 4 4 37 := ⟨⟨_, _, Try.underlying40, rfl, rfl, rfl⟩⟩
instance : FieldAt Try.prog 40 5 8 38 := ⟨⟨_, _, Try.underlying40, rfl, rfl, rfl⟩⟩
instance : Und Try.prog 55 (.slice 122) := ⟨Try.underlying55⟩
instance : Inf Try.prog 55 false 1 24 (.slice none 0 0) := ⟨⟨Try.t55, rfl, rfl, rfl, rfl⟩, Try.isAgg55⟩
instance : Und Try.prog 56 (.slice 64) := ⟨Try.underlying56⟩
instance : Inf Try.prog 56 false 1 24 (.slice none 0 0) := ⟨⟨Try.t56, rfl, rfl, rfl, rfl⟩, Try.isAgg56⟩
instance : Und Try.prog 57 (.pointer 92) := ⟨Try.underlying57⟩
instance : Inf Try.prog 57 false 1 8 (.pointer none) := ⟨⟨Try.t57, rfl, rfl, rfl, rfl⟩, Try.isAgg57⟩
instance : Und Try.prog 62 (.slice 96) := ⟨Try.underlying62⟩
instance : Inf Try.prog 62 false 1 24 (.slice none 0 0) := ⟨⟨Try.t62, rfl, rfl, rfl, rfl⟩, Try.isAgg62⟩
instance : Inf Try.prog 64 true 5 56 (.agg #[.bool false, .int .i64 (0), .int .i64 (0), .int .i64 (0), .slice none 0 0]) := ⟨⟨Try.t64, rfl, rfl, rfl, rfl⟩, Try.isAgg64⟩
instance : FieldAt Try.prog 64 0 0 4 := ⟨⟨_, _, Try.underlying64, rfl, rfl, rfl⟩⟩
instance : FieldAt Try.prog 64 1 1 3 := ⟨⟨_, _, Try.underlying64, rfl, rfl, rfl⟩⟩
instance : FieldAt Try.prog 64 2 2 3 := ⟨⟨_, _, Try.underlying64, rfl, rfl, rfl⟩⟩
instance : FieldAt Try.prog 64 3 3 3 := ⟨⟨_, _, Try.underlying64, rfl, rfl, rfl⟩⟩
instance : FieldAt Try.prog 64 4 4 62 := ⟨⟨_, _, Try.underlying64, rfl, rfl, rfl⟩⟩
instance : Und Try.prog 76 (.array 2 38) := ⟨Try.underlying76⟩
instance : Inf Try.prog 76 true 2 48 (.agg #[.slice none 0 0, .slice none 0 0]) := ⟨⟨Try.t76, rfl, rfl, rfl, rfl⟩, Try.isAgg76⟩
instance : Und Try.prog 81 (.slice 3) := ⟨Try.underlying81⟩
instance : Inf Try.prog 81 false 1 24 (.slice none 0 0) := ⟨⟨Try.t81, rfl, rfl, rfl, rfl⟩, Try.isAgg81⟩
instance : Und Try.prog 82 (.slice 138) := ⟨Try.underlying82⟩
instance : Inf Try.prog 82 false 1 24 (.slice none 0 0) := ⟨⟨Try.t82, rfl, rfl, rfl, rfl⟩, Try.isAgg82⟩
instance : Inf Try.prog 84 true 1 24 (.agg #[.slice none 0 0]) := ⟨⟨Try.t84, rfl, rfl, rfl, rfl⟩, Try.isAgg84⟩
instance : FieldAt Try.prog 84 0 0 82 := ⟨⟨_, _, Try.underlying84, rfl, rfl, rfl⟩⟩
instance : Und Try.prog 85 (.array 33 3) := ⟨Try.underlying85⟩
instance : Inf Try.prog 85 true 33 264 (.agg #[.int .i64 (0), .int .i64 (0), .int .i64 (0), .int .i64 (0), .int .i64 (0), .int .i64 (0), .int .i64 (0), .int .i64 (0), .int .i64 (0), .int .i64 (0), .int .i64 (0), .int .i64 (0), .int .i64 (0), .int .i64 (0), .int .i64 (0), .int .i64 (0), .int .i64 (0), .int .i64 (0), .int .i64 (0), .int .i64 (0), .int .i64 (0), .int .i64 (0), .int .i64 (0), .int .i64 (0), .int .i64 (0), .int .i64 (0), .int .i64 (0), .int .i64 (0), .int .i64 (0), .int .i64 (0), .int .i64 (0), .int .i64 (0), .int .i64 (0)]) := ⟨⟨Try.t85, rfl, rfl, rfl, rfl⟩, Try.isAgg85⟩
instance : Inf Try.prog 87 true 34 288 (.agg #[.slice none 0 0, .int .i64 (0), .int .i64 (0), .int .i64 (0), .int .i64 (0), .int .i64 (0), .int .i64 (0), .int .i64 (0), .int .i64 (0), .int .i64 (0), .int .i64 (0), .int .i64 (0), .int .i64 (0), .int .i64 (0), .int .i64 (0), .int .i64 (0), .int .i64 (0), .int .i64 (0), .int .i64 (0), .int .i64 (0), .int .i64 (0), .int .i64 (0), .int .i64 (0), .int .i64 (0), .int .i64 (0), .int .i64 (0), .int .i64 (0), .int .i64 (0), .int .i64 (0), .int .i64 (0), .int .i64 (0), .int .i64 (0), .int .i64 (0), .int .i64 (0)]) := ⟨⟨Try.t87, rfl, rfl, rfl, rfl⟩, Try.isAgg87⟩
instance : FieldAt Try.prog 87 0 0 84 := ⟨⟨_, _, Try.underlying87, rfl, rfl, rfl⟩⟩
instance : FieldAt Try.prog 87 1 1 85 := ⟨⟨_, _, Try.underlying87, rfl, rfl, rfl⟩⟩
instance : Inf Try.prog 90 true 2 16 (.agg #[.int .i64 (0), .int .i64 (0)]) := ⟨⟨Try.t90, rfl, rfl, rfl, rfl⟩, Try.isAgg90⟩
instance : IntS Try.prog 90 .i64 2 := ⟨_, Try.underlying90, by kernel_rfl, .cons (by decide) rfl Try.underlying3 Try.isAgg3 (.cons (by decide) rfl Try.underlying3 Try.isAgg3 (.nil))⟩
instance : NoGuard Try.prog 90 := ⟨by kernel_rfl⟩
instance : FieldAt Try.prog 90 0 0 3 := ⟨⟨_, _, Try.underlying90, rfl, rfl, rfl⟩⟩
instance : FieldAt Try.prog 90 1 1 3 := ⟨⟨_, _, Try.underlying90, rfl, rfl, rfl⟩⟩
instance : Inf Try.prog 92 true 2 32 (.agg #[.slice none 0 0, .int .i64 (0)]) := ⟨⟨Try.t92, rfl, rfl, rfl, rfl⟩, Try.isAgg92⟩
instance : FieldAt Try.prog 92 0 0 84 := ⟨⟨_, _, Try.underlying92, rfl, rfl, rfl⟩⟩
instance : FieldAt Try.prog 92 1 1 3 := ⟨⟨_, _, Try.underlying92, rfl, rfl, rfl⟩⟩
instance : Inf Try.prog 96 true 3 24 (.agg #[.int .i64 (0), .int .i64 (0), .int .i64 (0)]) := ⟨⟨Try.t96, rfl, rfl, rfl, rfl⟩, Try.isAgg96⟩
instance : FieldAt Try.prog 96 0 0 3 := ⟨⟨_, _, Try.underlying96, rfl, rfl, rfl⟩⟩
instance : FieldAt Try.prog 96 1 1 3 := ⟨⟨_, _, Try.underlying96, rfl, rfl, rfl⟩⟩
instance : FieldAt Try.prog 96 2 2 3 := ⟨⟨_, _, Try.underlying96, rfl, rfl, rfl⟩⟩
instance : Inf Try.prog 99 true 5 40 (.agg #[.int .i64 (0), .int .i64 (0), .int .i64 (0), .int .i64 (0), .int .i64 (0)]) := ⟨⟨Try.t99, rfl, rfl, rfl, rfl⟩, Try.isAgg99⟩
instance : NoGuard Try.prog 99 := ⟨by kernel_rfl⟩
instance : FieldAt Try.prog 99 0 0 37 := ⟨⟨_, _, Try.underlying99, rfl, rfl, rfl⟩⟩
instance : FieldAt Try.prog 99 1 4 3 := ⟨⟨_, _, Try.underlying99, rfl, rfl, rfl⟩⟩
instance : Inf Try.prog 101 false 1 8 (.nilFunc) := ⟨⟨Try.t101, rfl, rfl, rfl, rfl⟩, Try.isAgg101⟩
instance : Und Try.prog 103 (.array 4 3) := ⟨Try.underlying103⟩
instance : Inf Try.prog 103 true 4 32 (.agg #[.int .i64 (0), .int .i64 (0), .int .i64 (0), .int .i64 (0)]) := ⟨⟨Try.t103, rfl, rfl, rfl, rfl⟩, Try.isAgg103⟩
instance : NoGuard Try.prog 103 := ⟨by kernel_rfl⟩
instance : Inf Try.prog 113 false 1 8 (.nilFunc) := ⟨⟨Try.t113, rfl, rfl, rfl, rfl⟩, Try.isAgg113⟩
instance : Inf Try.prog 118 false 1 8 (.nilFunc) := ⟨⟨Try.t118, rfl, rfl, rfl, rfl⟩, Try.isAgg118⟩
instance : Inf Try.prog 119 false 1 8 (.nilFunc) := ⟨⟨Try.t119, rfl, rfl, rfl, rfl⟩, Try.isAgg119⟩
instance : Inf Try.prog 122 true 2 16 (.agg #[.int .i64 (0), .int .i64 (0)]) := ⟨⟨Try.t122, rfl, rfl, rfl, rfl⟩, Try.isAgg122⟩
instance : IntS Try.prog 122 .i64 2 := ⟨_, Try.underlying122, by kernel_rfl, .cons (by decide) rfl Try.underlying3 Try.isAgg3 (.cons (by decide) rfl Try.underlying3 Try.isAgg3 (.nil))⟩
instance : NoGuard Try.prog 122 := ⟨by kernel_rfl⟩
instance : FieldAt Try.prog 122 0 0 3 := ⟨⟨_, _, Try.underlying122, rfl, rfl, rfl⟩⟩
instance : FieldAt Try.prog 122 1 1 3 := ⟨⟨_, _, Try.underlying122, rfl, rfl, rfl⟩⟩
instance : Und Try.prog 136 (.pointer 84) := ⟨Try.underlying136⟩
instance : Inf Try.prog 136 false 1 8 (.pointer none) := ⟨⟨Try.t136, rfl, rfl, rfl, rfl⟩, Try.isAgg136⟩
instance : Inf Try.prog 138 true 5 40 (.agg #[.int .i64 (0), .int .i64 (0), .int .i64 (0), .int .i64 (0), .int .i64 (0)]) := ⟨⟨Try.t138, rfl, rfl, rfl, rfl⟩, Try.isAgg138⟩
instance : FieldAt Try.prog 138 0 0 103 := ⟨⟨_, _, Try.underlying138, rfl, rfl, rfl⟩⟩
instance : FieldAt Try.prog 138 1 4 3 := ⟨⟨_, _, Try.underlying138, rfl, rfl, rfl⟩⟩
instance : Inf Try.prog 143 false 1 8 (.nilFunc) := ⟨⟨Try.t143, rfl, rfl, rfl, rfl⟩, Try.isAgg143⟩
instance : Inf Try.prog 153 false 1 8 (.nilFunc) := ⟨⟨Try.t153, rfl, rfl, rfl, rfl⟩, Try.isAgg153⟩
instance : Und Try.prog 154 (.int .u64) := ⟨Try.underlying154⟩
instance : Inf Try.prog 154 false 1 8 (.int .u64 (0)) := ⟨⟨Try.t154, rfl, rfl, rfl, rfl⟩, Try.isAgg154⟩
instance : Places Try.prog 37 [(0, 1), (1, 1), (2, 1), (3, 1)] := ⟨_, Try.underlying37, fun w => by simp [Inf.run]⟩
instance : Places Try.prog 40 [(0, 1), (1, 1), (2, 1), (3, 1), (4, 4), (8, 1)] := ⟨_, Try.underlying40, fun w => by simp [Inf.run]⟩
instance : Places Try.prog 64 [(0, 1), (1, 1), (2, 1), (3, 1), (4, 1)] := ⟨_, Try.underlying64, fun w => by simp [Inf.run]⟩
instance : Places Try.prog 84 [(0, 1)] := ⟨_, Try.underlying84, fun w => by simp [Inf.run]⟩
instance : Places Try.prog 87 [(0, 1), (1, 33)] := ⟨_, Try.underlying87, fun w => by simp [Inf.run]⟩
instance : Places Try.prog 90 [(0, 1), (1, 1)] := ⟨_, Try.underlying90, fun w => by simp [Inf.run]⟩
instance : Places Try.prog 92 [(0, 1), (1, 1)] := ⟨_, Try.underlying92, fun w => by simp [Inf.run]⟩
instance : Places Try.prog 96 [(0, 1), (1, 1), (2, 1)] := ⟨_, Try.underlying96, fun w => by simp [Inf.run]⟩
instance : Places Try.prog 99 [(0, 4), (4, 1)] := ⟨_, Try.underlying99, fun w => by simp [Inf.run]⟩
instance : Places Try.prog 122 [(0, 1), (1, 1)] := ⟨_, Try.underlying122, fun w => by simp [Inf.run]⟩
instance : Places Try.prog 138 [(0, 4), (4, 1)] := ⟨_, Try.underlying138, fun w => by simp [Inf.run]⟩
instance : Has Try.prog 2 := ⟨Try.call2⟩
instance : Has Try.prog 3 := ⟨Try.call3⟩
instance : Has Try.prog 4 := ⟨Try.call4⟩
instance : Has Try.prog 5 := ⟨Try.call5⟩
instance : Has Try.prog 6 := ⟨Try.call6⟩
instance : Has Try.prog 7 := ⟨Try.call7⟩
instance : Has Try.prog 8 := ⟨Try.call8⟩
instance : Has Try.prog 9 := ⟨Try.call9⟩
instance : Has Try.prog 10 := ⟨Try.call10⟩
instance : Has Try.prog 11 := ⟨Try.call11⟩
instance : Has Try.prog 12 := ⟨Try.call12⟩
instance : Has Try.prog 13 := ⟨Try.call13⟩
instance : Has Try.prog 14 := ⟨Try.call14⟩
instance : Has Try.prog 15 := ⟨Try.call15⟩
instance : Has Try.prog 16 := ⟨Try.call16⟩
instance : Has Try.prog 17 := ⟨Try.call17⟩
instance : Has Try.prog 18 := ⟨Try.call18⟩
instance : Has Try.prog 19 := ⟨Try.call19⟩
instance : Has Try.prog 20 := ⟨Try.call20⟩
instance : Has Try.prog 21 := ⟨Try.call21⟩
instance : Has Try.prog 22 := ⟨Try.call22⟩
instance : Has Try.prog 23 := ⟨Try.call23⟩
instance : Has Try.prog 24 := ⟨Try.call24⟩
instance : Has Try.prog 25 := ⟨Try.call25⟩
instance : Has Try.prog 26 := ⟨Try.call26⟩
instance : Has Try.prog 27 := ⟨Try.call27⟩
instance : Has Try.prog 28 := ⟨Try.call28⟩
instance : Has Try.prog 29 := ⟨Try.call29⟩
instance : Has Try.prog 30 := ⟨Try.call30⟩
instance : Has Try.prog 31 := ⟨Try.call31⟩
instance : Has Try.prog 32 := ⟨Try.call32⟩
instance : Has Try.prog 33 := ⟨Try.call33⟩
instance : Has Try.prog 34 := ⟨Try.call34⟩
instance : Has Try.prog 35 := ⟨Try.call35⟩
instance : Has Try.prog 36 := ⟨Try.call36⟩
instance : Has Try.prog 37 := ⟨Try.call37⟩
instance : Has Try.prog 38 := ⟨Try.call38⟩
instance : Has Try.prog 39 := ⟨Try.call39⟩
instance : Has Try.prog 40 := ⟨Try.call40⟩
instance : Has Try.prog 41 := ⟨Try.call41⟩
instance : Has Try.prog 42 := ⟨Try.call42⟩
instance : Has Try.prog 43 := ⟨Try.call43⟩
instance : Has Try.prog 44 := ⟨Try.call44⟩
instance : Has Try.prog 45 := ⟨Try.call45⟩
instance : Has Try.prog 46 := ⟨Try.call46⟩
instance : Has Try.prog 47 := ⟨Try.call47⟩
instance : Has Try.prog 48 := ⟨Try.call48⟩
instance : Has Try.prog 49 := ⟨Try.call49⟩
instance : Has Try.prog 50 := ⟨Try.call50⟩
instance : Has Try.prog 51 := ⟨Try.call51⟩
instance : Has Try.prog 52 := ⟨Try.call52⟩
instance : Has Try.prog 53 := ⟨Try.call53⟩
instance : Has Try.prog 54 := ⟨Try.call54⟩
instance : Has Try.prog 55 := ⟨Try.call55⟩
instance : Has Try.prog 56 := ⟨Try.call56⟩
instance : Has Try.prog 57 := ⟨Try.call57⟩
instance : Has Try.prog 58 := ⟨Try.call58⟩
instance : Has Try.prog 59 := ⟨Try.call59⟩
instance : Has Try.prog 60 := ⟨Try.call60⟩
instance : Has Try.prog 61 := ⟨Try.call61⟩
instance : Has Try.prog 62 := ⟨Try.call62⟩
instance : Has Try.prog 63 := ⟨Try.call63⟩
instance : Has Try.prog 64 := ⟨Try.call64⟩
instance : Has Try.prog 65 := ⟨Try.call65⟩
instance : Has Try.prog 66 := ⟨Try.call66⟩
instance : Has Try.prog 67 := ⟨Try.call67⟩
instance : Has Try.prog 68 := ⟨Try.call68⟩
instance : Has Try.prog 69 := ⟨Try.call69⟩
instance : Has Try.prog 70 := ⟨Try.call70⟩
instance : Has Try.prog 71 := ⟨Try.call71⟩
instance : Has Try.prog 72 := ⟨Try.call72⟩
instance : Has Try.prog 73 := ⟨Try.call73⟩
instance : Has Try.prog 74 := ⟨Try.call74⟩
instance : Has Try.prog 75 := ⟨Try.call75⟩
instance : Has Try.prog 76 := ⟨Try.call76⟩
instance : Has Try.prog 77 := ⟨Try.call77⟩
instance : Has Try.prog 78 := ⟨Try.call78⟩
instance : Has Try.prog 79 := ⟨Try.call79⟩
instance : Has Try.prog 80 := ⟨Try.call80⟩
instance : Has Try.prog 81 := ⟨Try.call81⟩
instance : Has Try.prog 82 := ⟨Try.call82⟩
instance : Has Try.prog 83 := ⟨Try.call83⟩
instance : Has Try.prog 84 := ⟨Try.call84⟩
instance : Has Try.prog 85 := ⟨Try.call85⟩
instance : Has Try.prog 86 := ⟨Try.call86⟩
instance : Has Try.prog 87 := ⟨Try.call87⟩
instance : Has Try.prog 88 := ⟨Try.call88⟩
instance : Has Try.prog 89 := ⟨Try.call89⟩
instance : Has Try.prog 90 := ⟨Try.call90⟩
instance : Has Try.prog 91 := ⟨Try.call91⟩
instance : Has Try.prog 92 := ⟨Try.call92⟩
instance : Has Try.prog 93 := ⟨Try.call93⟩
instance : Has Try.prog 94 := ⟨Try.call94⟩
instance : Has Try.prog 95 := ⟨Try.call95⟩
instance : Has Try.prog 96 := ⟨Try.call96⟩
instance : Has Try.prog 97 := ⟨Try.call97⟩
instance : Has Try.prog 98 := ⟨Try.call98⟩
instance : Has Try.prog 99 := ⟨Try.call99⟩
instance : Has Try.prog 100 := ⟨Try.call100⟩
instance : Has Try.prog 101 := ⟨Try.call101⟩
instance : Has Try.prog 102 := ⟨Try.call102⟩
instance : Has Try.prog 103 := ⟨Try.call103⟩
instance : Has Try.prog 104 := ⟨Try.call104⟩
instance : Has Try.prog 105 := ⟨Try.call105⟩
instance : EqL Try.prog 37 .i64 4 2 := eqS (lv := 1) Try.underlying37 (by kernel_rfl) (by decide) (.int (by decide) rfl Try.underlying3 Try.isAgg3 (.int (by decide) rfl Try.underlying3 Try.isAgg3 (.int (by decide) rfl Try.underlying3 Try.isAgg3 (.int (by decide) rfl Try.underlying3 Try.isAgg3 (.nil)))))
instance : EqL Try.prog 90 .i64 2 2 := eqS (lv := 1) Try.underlying90 (by kernel_rfl) (by decide) (.int (by decide) rfl Try.underlying3 Try.isAgg3 (.int (by decide) rfl Try.underlying3 Try.isAgg3 (.nil)))
instance : EqL Try.prog 99 .i64 5 3 := eqS (lv := 2) Try.underlying99 (by kernel_rfl) (by decide) (.agg (by decide) rfl (by decide) (inferInstance : EqL Try.prog 37 .i64 4 2) (fun w => Inf.run w) Try.isAgg37 (.int (by decide) rfl Try.underlying3 Try.isAgg3 (.nil)))
instance : EqL Try.prog 103 .i64 4 2 := eqArr
instance : EqL Try.prog 122 .i64 2 2 := eqS (lv := 1) Try.underlying122 (by kernel_rfl) (by decide) (.int (by decide) rfl Try.underlying3 Try.isAgg3 (.int (by decide) rfl Try.underlying3 Try.isAgg3 (.nil)))
end Go.XG
