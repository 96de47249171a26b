/-
  No cell of these rows narrows 'for every input' (looked for: loops, veiled, ifaces, maps, wideKeys, modest, calm, conditions, laid).
  DERIVED. THE GIVEN ROWS OF THIS SEAT. 3 by the template 'for every input the law returns true; each argument reads behind the call as it read before'; 0 by the template 'total and deterministic' (their statements: YtpppiliakgoihaaTotals.lean).
  GIVEN WITH THE SEED: the statements are not yours to turn. If you find one false, say at which input.
  Laid BY PROGRAM, IN A SANDBOX (cutbox-rows.mjs): the forced cells as the released guide's own fill.sh prints them over the translation bc67b1f458f93198… (all of the seat's roots in one cut). By AI agents, Wed Nov 11 2026. No macro, syntax, notation, axiom, sorry.
-/
import Derived.Test.YtpppiliakgoihaaChecked
import GoSem.Claim
import GoSem.ClaimJoined
import GoSem.ClaimMapViews
import Derived.JoinedTies
import Derived.KernelRfl
namespace Go.Proofs.Ytpppiliakgoihaa
/- THE CELL 'sum', in the pinned program and in every row, IS THE sha256 OF THE DUMP (.gsa) THAT YtpppiliakgoihaaProg.lean LOADS. Nothing in Lean hashes anything: it is a label: what it is worth is what the hold of that sum in a sandbox is worth. -/
noncomputable def Try.pinned : Pinned := { name := "ytpppiliakgoihaa", sum := "bc67b1f458f93198d857cf136703c8908e10009a00b0d9b9b070e60fbfe6043b", checked := Try.checked }
namespace Rows
def none {H : Type} : Left H := { results := [], args := [] }

/-- 'bottomrylaw23.DealSteps': WHATEVER THE INPUT: true; the input reads as it did. -/
def dealStepsSpec : ChangeSpec := { name := "dealSteps", fn := fun _ => fun
  | [d1, d2] => { results := [.lit (.bool true)], args := [d1, d2] }
  | _ => none }
def dealStepsRow : OpenClaim := { program := "ytpppiliakgoihaa", sum := "bc67b1f458f93198d857cf136703c8908e10009a00b0d9b9b070e60fbfe6043b", func := "bottomry/bottomrylaw23.DealSteps", spec := "dealSteps", unfollowed := true, recurses := true, apart := false }
def DealStepsSaid : Prop := dealStepsRow.holds Try.pinned (OpenSpec.ofChange dealStepsSpec)

/-- ITS FALSE NEIGHBOUR: 'it returns false'. Refute it at one input. -/
def dealStepsWrong : ChangeSpec := { name := "dealSteps", fn := fun _ => fun
  | [d1, d2] => { results := [.lit (.bool false)], args := [d1, d2] }
  | _ => none }
def DealStepsWrongFalsely : Prop := dealStepsRow.holds Try.pinned (OpenSpec.ofChange dealStepsWrong)

/-- 'bottomrylaw23.DealOnce': WHATEVER THE INPUT: true; the input reads as it did. -/
def dealOnceSpec : ChangeSpec := { name := "dealOnce", fn := fun _ => fun
  | [d1, d2, d3] => { results := [.lit (.bool true)], args := [d1, d2, d3] }
  | _ => none }
def dealOnceRow : OpenClaim := { program := "ytpppiliakgoihaa", sum := "bc67b1f458f93198d857cf136703c8908e10009a00b0d9b9b070e60fbfe6043b", func := "bottomry/bottomrylaw23.DealOnce", spec := "dealOnce", unfollowed := true, recurses := true, apart := false }
def DealOnceSaid : Prop := dealOnceRow.holds Try.pinned (OpenSpec.ofChange dealOnceSpec)

/-- ITS FALSE NEIGHBOUR: 'it returns false'. Refute it at one input. -/
def dealOnceWrong : ChangeSpec := { name := "dealOnce", fn := fun _ => fun
  | [d1, d2, d3] => { results := [.lit (.bool false)], args := [d1, d2, d3] }
  | _ => none }
def DealOnceWrongFalsely : Prop := dealOnceRow.holds Try.pinned (OpenSpec.ofChange dealOnceWrong)

/-- 'bottomrylaw23.DealBytes': WHATEVER THE INPUT: true; the input reads as it did. -/
def dealBytesSpec : ChangeSpec := { name := "dealBytes", fn := fun _ => fun
  | [d1, d2] => { results := [.lit (.bool true)], args := [d1, d2] }
  | _ => none }
def dealBytesRow : OpenClaim := { program := "ytpppiliakgoihaa", sum := "bc67b1f458f93198d857cf136703c8908e10009a00b0d9b9b070e60fbfe6043b", func := "bottomry/bottomrylaw23.DealBytes", spec := "dealBytes", unfollowed := true, recurses := true, apart := false }
def DealBytesSaid : Prop := dealBytesRow.holds Try.pinned (OpenSpec.ofChange dealBytesSpec)

/-- ITS FALSE NEIGHBOUR: 'it returns false'. Refute it at one input. -/
def dealBytesWrong : ChangeSpec := { name := "dealBytes", fn := fun _ => fun
  | [d1, d2] => { results := [.lit (.bool false)], args := [d1, d2] }
  | _ => none }
def DealBytesWrongFalsely : Prop := dealBytesRow.holds Try.pinned (OpenSpec.ofChange dealBytesWrong)

/- THE SECOND FORM. 'bulk': how many values and letters a reading holds, each counted each time it is reached (what is shared counts as often as it is met; a slice's spare places count too). A statement '..UptoSaid' is the law's where the arguments, and the package variables that the reading takes, are together of bulk at most 1048576: NARROWER than '..Said'. Prove '..Said' where nothing that the law and all that it calls make is longer than what came in: it says more and counts as full. Else prove '..UptoSaid'. A law counts once. -/
mutual
def uptoBulk {H : Type} : DataW H → Nat
  | .lit (.string bytes) => bytes.length + 1
  | .lit _ => 1
  | .nil => 1
  | .ptr d => uptoBulk d + 1
  | .slice elems spare => uptoBulkAll elems + uptoBulkAll spare + 1
  | .agg parts => uptoBulkAll parts + 1
  | .iface _ d => uptoBulk d + 1
  | .map entries => uptoBulkEntries entries + 1
  | .held _ => 1
def uptoBulkAll {H : Type} : List (DataW H) → Nat
  | [] => 0
  | d :: r => uptoBulk d + uptoBulkAll r
def uptoBulkEntries {H : Type} : List (Lit × DataW H) → Nat
  | [] => 0
  | x :: r => uptoBulkEntry x + uptoBulkEntries r
def uptoBulkEntry {H : Type} : Lit × DataW H → Nat
  | (.string bytes, d) => bytes.length + uptoBulk d + 1
  | (_, d) => uptoBulk d + 1
 end
def uptoSmall : (H : Type) → List (DataW H) → Bool := fun _ ds => decide (uptoBulkAll ds ≤ 1048576)
def OpenSpec.upto (s : _root_.Go.ChangeSpec) : _root_.Go.OpenSpec := { _root_.Go.OpenSpec.ofChange s with cond := some uptoSmall }

/-- 'bottomrylaw23.DealSteps', WHERE WHAT IT READS IS OF BULK AT MOST 1048576: true; the input reads as it did. -/
def dealStepsUptoRow : OpenClaim := { program := "ytpppiliakgoihaa", sum := "bc67b1f458f93198d857cf136703c8908e10009a00b0d9b9b070e60fbfe6043b", func := "bottomry/bottomrylaw23.DealSteps", spec := "dealSteps", unfollowed := true, recurses := true, apart := false, narrowed := true }
def DealStepsUptoSaid : Prop := dealStepsUptoRow.holds Try.pinned (OpenSpec.upto dealStepsSpec)

/-- 'bottomrylaw23.DealOnce', WHERE WHAT IT READS IS OF BULK AT MOST 1048576: true; the input reads as it did. -/
def dealOnceUptoRow : OpenClaim := { program := "ytpppiliakgoihaa", sum := "bc67b1f458f93198d857cf136703c8908e10009a00b0d9b9b070e60fbfe6043b", func := "bottomry/bottomrylaw23.DealOnce", spec := "dealOnce", unfollowed := true, recurses := true, apart := false, narrowed := true }
def DealOnceUptoSaid : Prop := dealOnceUptoRow.holds Try.pinned (OpenSpec.upto dealOnceSpec)

/-- 'bottomrylaw23.DealBytes', WHERE WHAT IT READS IS OF BULK AT MOST 1048576: true; the input reads as it did. -/
def dealBytesUptoRow : OpenClaim := { program := "ytpppiliakgoihaa", sum := "bc67b1f458f93198d857cf136703c8908e10009a00b0d9b9b070e60fbfe6043b", func := "bottomry/bottomrylaw23.DealBytes", spec := "dealBytes", unfollowed := true, recurses := true, apart := false, narrowed := true }
def DealBytesUptoSaid : Prop := dealBytesUptoRow.holds Try.pinned (OpenSpec.upto dealBytesSpec)

end Rows
end Go.Proofs.Ytpppiliakgoihaa
