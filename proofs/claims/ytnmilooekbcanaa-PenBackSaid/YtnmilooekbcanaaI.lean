/-
  The types and functions of this seat, as instances. Printed by a program.
-/
import Derived.Test.YtnmilooekbcanaaProg
import Derived.Test.YtnmilooekbcanaaXe
namespace Go.XG
open Go.Proofs
instance : Und Try.prog 3 (.int .i64) := ⟨Try.underlying3⟩
instance : Inf Try.prog 3 false 1 8 (.int .i64 (0)) := ⟨⟨Try.t3, rfl, rfl, rfl, rfl⟩, Try.isAgg3⟩
instance : Und Try.prog 4 .bool := ⟨Try.underlying4⟩
instance : Inf Try.prog 4 false 1 1 (.bool false) := ⟨⟨Try.t4, rfl, rfl, rfl, rfl⟩, Try.isAgg4⟩
instance : Und Try.prog 5 (.int .u8) := ⟨Try.underlying5⟩
instance : Inf Try.prog 5 false 1 1 (.int .u8 (0)) := ⟨⟨Try.t5, rfl, rfl, rfl, rfl⟩, Try.isAgg5⟩
instance : Und Try.prog 9 .string := ⟨Try.underlying9⟩
instance : Inf Try.prog 9 false 1 16 (.string (bs [])) := ⟨⟨Try.t9, rfl, rfl, rfl, rfl⟩, Try.isAgg9⟩
instance : Und Try.prog 26 (.slice 33) := ⟨Try.underlying26⟩
instance : Inf Try.prog 26 false 1 24 (.slice none 0 0) := ⟨⟨Try.t26, rfl, rfl, rfl, rfl⟩, Try.isAgg26⟩
instance : Und Try.prog 27 (.pointer 41) := ⟨Try.underlying27⟩
instance : Inf Try.prog 27 false 1 8 (.pointer none) := ⟨⟨Try.t27, rfl, rfl, rfl, rfl⟩, Try.isAgg27⟩
instance : Und Try.prog 29 (.pointer 31) := ⟨Try.underlying29⟩
instance : Inf Try.prog 29 false 1 8 (.pointer none) := ⟨⟨Try.t29, rfl, rfl, rfl, rfl⟩, Try.isAgg29⟩
instance : Inf Try.prog 31 true 3 32 (.agg #[.string (bs []), .int .i64 (0), .bool false]) := ⟨⟨Try.t31, rfl, rfl, rfl, rfl⟩, Try.isAgg31⟩
instance : FieldAt Try.prog 31 0 0 9 := ⟨⟨_, _, Try.underlying31, rfl, rfl, rfl⟩⟩
instance : FieldAt Try.prog 31 1 1 3 := ⟨⟨_, _, Try.underlying31, rfl, rfl, rfl⟩⟩
instance : FieldAt Try.prog 31 2 2 4 := ⟨⟨_, _, Try.underlying31, rfl, rfl, rfl⟩⟩
instance : Inf Try.prog 33 true 2 16 (.agg #[.int .i64 (0), .int .i64 (0)]) := ⟨⟨Try.t33, rfl, rfl, rfl, rfl⟩, Try.isAgg33⟩
instance : FieldAt Try.prog 33 0 0 3 := ⟨⟨_, _, Try.underlying33, rfl, rfl, rfl⟩⟩
instance : FieldAt Try.prog 33 1 1 3 := ⟨⟨_, _, Try.underlying33, rfl, rfl, rfl⟩⟩
instance : Und Try.prog 37 (.slice 3) := ⟨Try.underlying37⟩
instance : Inf Try.prog 37 false 1 24 (.slice none 0 0) := ⟨⟨Try.t37, rfl, rfl, rfl, rfl⟩, Try.isAgg37⟩
instance : Und Try.prog 38 (.slice 9) := ⟨Try.underlying38⟩
instance : Inf Try.prog 38 false 1 24 (.slice none 0 0) := ⟨⟨Try.t38, rfl, rfl, rfl, rfl⟩, Try.isAgg38⟩
instance : Inf Try.prog 41 true 3 24 (.agg #[.string (bs []), .bool false, .bool false]) := ⟨⟨Try.t41, rfl, rfl, rfl, rfl⟩, Try.isAgg41⟩
instance : FieldAt Try.prog 41 0 0 9 := ⟨⟨_, _, Try.underlying41, rfl, rfl, rfl⟩⟩
instance : FieldAt Try.prog 41 1 1 4 := ⟨⟨_, _, Try.underlying41, rfl, rfl, rfl⟩⟩
instance : FieldAt Try.prog 41 2 2 4 := ⟨⟨_, _, Try.underlying41, rfl, rfl, rfl⟩⟩
instance : Und Try.prog 42 (.slice 27) := ⟨Try.underlying42⟩
instance : Inf Try.prog 42 false 1 24 (.slice none 0 0) := ⟨⟨Try.t42, rfl, rfl, rfl, rfl⟩, Try.isAgg42⟩
instance : Und Try.prog 45 (.int .u64) := ⟨Try.underlying45⟩
instance : Inf Try.prog 45 false 1 8 (.int .u64 (0)) := ⟨⟨Try.t45, rfl, rfl, rfl, rfl⟩, Try.isAgg45⟩
instance : Und Try.prog 51 (.slice 5) := ⟨Try.underlying51⟩
instance : Inf Try.prog 51 false 1 24 (.slice none 0 0) := ⟨⟨Try.t51, rfl, rfl, rfl, rfl⟩, Try.isAgg51⟩
instance : Places Try.prog 31 [(0, 1), (1, 1), (2, 1)] := ⟨_, Try.underlying31, fun w => by simp [Inf.run]⟩
instance : Places Try.prog 33 [(0, 1), (1, 1)] := ⟨_, Try.underlying33, fun w => by simp [Inf.run]⟩
instance : Places Try.prog 41 [(0, 1), (1, 1), (2, 1)] := ⟨_, Try.underlying41, fun w => by simp [Inf.run]⟩
instance : Has Try.prog 2 := ⟨Try.call2⟩
instance : Has Try.prog 3 := ⟨Try.call3⟩
instance : Has Try.prog 4 := ⟨Try.call4⟩
instance : Has Try.prog 5 := ⟨Try.call5⟩
instance : Has Try.prog 6 := ⟨Try.call6⟩
instance : Has Try.prog 7 := ⟨Try.call7⟩
instance : Has Try.prog 8 := ⟨Try.call8⟩
instance : Has Try.prog 9 := ⟨Try.call9⟩
instance : Has Try.prog 10 := ⟨Try.call10⟩
instance : Has Try.prog 11 := ⟨Try.call11⟩
instance : Has Try.prog 12 := ⟨Try.call12⟩
instance : Has Try.prog 13 := ⟨Try.call13⟩
instance : Has Try.prog 14 := ⟨Try.call14⟩
instance : Has Try.prog 15 := ⟨Try.call15⟩
instance : Has Try.prog 16 := ⟨Try.call16⟩
instance : Has Try.prog 17 := ⟨Try.call17⟩
instance : Has Try.prog 18 := ⟨Try.call18⟩
instance : Has Try.prog 19 := ⟨Try.call19⟩
instance : Has Try.prog 20 := ⟨Try.call20⟩
instance : Has Try.prog 21 := ⟨Try.call21⟩
instance : Has Try.prog 22 := ⟨Try.call22⟩
instance : Has Try.prog 23 := ⟨Try.call23⟩
instance : Has Try.prog 24 := ⟨Try.call24⟩
instance : Has Try.prog 25 := ⟨Try.call25⟩
instance : Has Try.prog 26 := ⟨Try.call26⟩
instance : Has Try.prog 27 := ⟨Try.call27⟩
instance : Has Try.prog 28 := ⟨Try.call28⟩
instance : Has Try.prog 29 := ⟨Try.call29⟩
instance : Has Try.prog 30 := ⟨Try.call30⟩
instance : Has Try.prog 31 := ⟨Try.call31⟩
instance : Has Try.prog 32 := ⟨Try.call32⟩
instance : Has Try.prog 33 := ⟨Try.call33⟩
instance : Has Try.prog 34 := ⟨Try.call34⟩
end Go.XG
