/-
  No cell of these rows narrows 'for every input' (looked for: loops, veiled, ifaces, maps, wideKeys, modest, calm, conditions, laid).
  DERIVED. THE GIVEN ROWS OF THIS SEAT. 3 by the template 'for every input the law returns true; each argument reads behind the call as it read before'; 0 by the template 'total and deterministic' (their statements: YthobcnpdognbfaaTotals.lean).
  GIVEN WITH THE SEED: the statements are not yours to turn. If you find one false, say at which input.
  Laid BY PROGRAM, IN A SANDBOX (cutbox-rows.mjs): the forced cells as the released guide's own fill.sh prints them over the translation c8c2a8641ffd0e2e… (all of the seat's roots in one cut). By AI agents, Wed Nov 11 2026. No macro, syntax, notation, axiom, sorry.
-/
import Derived.Test.YthobcnpdognbfaaChecked
import GoSem.Claim
import GoSem.ClaimJoined
import GoSem.ClaimMapViews
import Derived.JoinedTies
import Derived.KernelRfl
namespace Go.Proofs.Ythobcnpdognbfaa
/- THE CELL 'sum', in the pinned program and in every row, IS THE sha256 OF THE DUMP (.gsa) THAT YthobcnpdognbfaaProg.lean LOADS. Nothing in Lean hashes anything: it is a label: what it is worth is what the hold of that sum in a sandbox is worth. -/
noncomputable def Try.pinned : Pinned := { name := "ythobcnpdognbfaa", sum := "c8c2a8641ffd0e2ec1c3e26abafe5cca38b9f182a2dffc07c07c55be84dba846", checked := Try.checked }
namespace Rows
def none {H : Type} : Left H := { results := [], args := [] }

/-- 'bottomrylaw26.GuildLed': WHATEVER THE INPUT: true; the input reads as it did. -/
def guildLedSpec : ChangeSpec := { name := "guildLed", fn := fun _ => fun
  | [d] => { results := [.lit (.bool true)], args := [d] }
  | _ => none }
def guildLedRow : OpenClaim := { program := "ythobcnpdognbfaa", sum := "c8c2a8641ffd0e2ec1c3e26abafe5cca38b9f182a2dffc07c07c55be84dba846", func := "bottomry/bottomrylaw26.GuildLed", spec := "guildLed", inPlace := ["slices.overlaps[bottomry/api.Member]"], unfollowed := true, recurses := true, apart := false }
def GuildLedSaid : Prop := guildLedRow.holds Try.pinned (OpenSpec.ofChange guildLedSpec)

/-- ITS FALSE NEIGHBOUR: 'it returns false'. Refute it at one input. -/
def guildLedWrong : ChangeSpec := { name := "guildLed", fn := fun _ => fun
  | [d] => { results := [.lit (.bool false)], args := [d] }
  | _ => none }
def GuildLedWrongFalsely : Prop := guildLedRow.holds Try.pinned (OpenSpec.ofChange guildLedWrong)

/-- 'bottomrylaw26.GuildNobody': WHATEVER THE INPUT: true; the input reads as it did. -/
def guildNobodySpec : ChangeSpec := { name := "guildNobody", fn := fun _ => fun
  | [d] => { results := [.lit (.bool true)], args := [d] }
  | _ => none }
def guildNobodyRow : OpenClaim := { program := "ythobcnpdognbfaa", sum := "c8c2a8641ffd0e2ec1c3e26abafe5cca38b9f182a2dffc07c07c55be84dba846", func := "bottomry/bottomrylaw26.GuildNobody", spec := "guildNobody", inPlace := ["slices.overlaps[bottomry/api.Member]"], unfollowed := true, recurses := true, apart := false }
def GuildNobodySaid : Prop := guildNobodyRow.holds Try.pinned (OpenSpec.ofChange guildNobodySpec)

/-- ITS FALSE NEIGHBOUR: 'it returns false'. Refute it at one input. -/
def guildNobodyWrong : ChangeSpec := { name := "guildNobody", fn := fun _ => fun
  | [d] => { results := [.lit (.bool false)], args := [d] }
  | _ => none }
def GuildNobodyWrongFalsely : Prop := guildNobodyRow.holds Try.pinned (OpenSpec.ofChange guildNobodyWrong)

/-- 'bottomrylaw26.GuildPlays': WHATEVER THE INPUT: true; the input reads as it did. -/
def guildPlaysSpec : ChangeSpec := { name := "guildPlays", fn := fun _ => fun
  | [d1, d2, d3] => { results := [.lit (.bool true)], args := [d1, d2, d3] }
  | _ => none }
def guildPlaysRow : OpenClaim := { program := "ythobcnpdognbfaa", sum := "c8c2a8641ffd0e2ec1c3e26abafe5cca38b9f182a2dffc07c07c55be84dba846", func := "bottomry/bottomrylaw26.GuildPlays", spec := "guildPlays", inPlace := ["slices.overlaps[bottomry/api.Member]"], unfollowed := true, recurses := true, apart := false }
def GuildPlaysSaid : Prop := guildPlaysRow.holds Try.pinned (OpenSpec.ofChange guildPlaysSpec)

/-- ITS FALSE NEIGHBOUR: 'it returns false'. Refute it at one input. -/
def guildPlaysWrong : ChangeSpec := { name := "guildPlays", fn := fun _ => fun
  | [d1, d2, d3] => { results := [.lit (.bool false)], args := [d1, d2, d3] }
  | _ => none }
def GuildPlaysWrongFalsely : Prop := guildPlaysRow.holds Try.pinned (OpenSpec.ofChange guildPlaysWrong)

/- THE SECOND FORM. 'bulk': how many values and letters a reading holds, each counted each time it is reached (what is shared counts as often as it is met; a slice's spare places count too). A statement '..UptoSaid' is the law's where the arguments, and the package variables that the reading takes, are together of bulk at most 1048576: NARROWER than '..Said'. Prove '..Said' where nothing that the law and all that it calls make is longer than what came in: it says more and counts as full. Else prove '..UptoSaid'. A law counts once. -/
mutual
def uptoBulk {H : Type} : DataW H → Nat
  | .lit (.string bytes) => bytes.length + 1
  | .lit _ => 1
  | .nil => 1
  | .ptr d => uptoBulk d + 1
  | .slice elems spare => uptoBulkAll elems + uptoBulkAll spare + 1
  | .agg parts => uptoBulkAll parts + 1
  | .iface _ d => uptoBulk d + 1
  | .map entries => uptoBulkEntries entries + 1
  | .held _ => 1
def uptoBulkAll {H : Type} : List (DataW H) → Nat
  | [] => 0
  | d :: r => uptoBulk d + uptoBulkAll r
def uptoBulkEntries {H : Type} : List (Lit × DataW H) → Nat
  | [] => 0
  | x :: r => uptoBulkEntry x + uptoBulkEntries r
def uptoBulkEntry {H : Type} : Lit × DataW H → Nat
  | (.string bytes, d) => bytes.length + uptoBulk d + 1
  | (_, d) => uptoBulk d + 1
 end
def uptoSmall : (H : Type) → List (DataW H) → Bool := fun _ ds => decide (uptoBulkAll ds ≤ 1048576)
def OpenSpec.upto (s : _root_.Go.ChangeSpec) : _root_.Go.OpenSpec := { _root_.Go.OpenSpec.ofChange s with cond := some uptoSmall }

/-- 'bottomrylaw26.GuildLed', WHERE WHAT IT READS IS OF BULK AT MOST 1048576: true; the input reads as it did. -/
def guildLedUptoRow : OpenClaim := { program := "ythobcnpdognbfaa", sum := "c8c2a8641ffd0e2ec1c3e26abafe5cca38b9f182a2dffc07c07c55be84dba846", func := "bottomry/bottomrylaw26.GuildLed", spec := "guildLed", inPlace := ["slices.overlaps[bottomry/api.Member]"], unfollowed := true, recurses := true, apart := false, narrowed := true }
def GuildLedUptoSaid : Prop := guildLedUptoRow.holds Try.pinned (OpenSpec.upto guildLedSpec)

/-- 'bottomrylaw26.GuildNobody', WHERE WHAT IT READS IS OF BULK AT MOST 1048576: true; the input reads as it did. -/
def guildNobodyUptoRow : OpenClaim := { program := "ythobcnpdognbfaa", sum := "c8c2a8641ffd0e2ec1c3e26abafe5cca38b9f182a2dffc07c07c55be84dba846", func := "bottomry/bottomrylaw26.GuildNobody", spec := "guildNobody", inPlace := ["slices.overlaps[bottomry/api.Member]"], unfollowed := true, recurses := true, apart := false, narrowed := true }
def GuildNobodyUptoSaid : Prop := guildNobodyUptoRow.holds Try.pinned (OpenSpec.upto guildNobodySpec)

/-- 'bottomrylaw26.GuildPlays', WHERE WHAT IT READS IS OF BULK AT MOST 1048576: true; the input reads as it did. -/
def guildPlaysUptoRow : OpenClaim := { program := "ythobcnpdognbfaa", sum := "c8c2a8641ffd0e2ec1c3e26abafe5cca38b9f182a2dffc07c07c55be84dba846", func := "bottomry/bottomrylaw26.GuildPlays", spec := "guildPlays", inPlace := ["slices.overlaps[bottomry/api.Member]"], unfollowed := true, recurses := true, apart := false, narrowed := true }
def GuildPlaysUptoSaid : Prop := guildPlaysUptoRow.holds Try.pinned (OpenSpec.upto guildPlaysSpec)

end Rows
end Go.Proofs.Ythobcnpdognbfaa
