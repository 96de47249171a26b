/-
  No cell of these rows narrows 'for every input' (looked for: loops, veiled, ifaces, maps, wideKeys, modest, calm, conditions, laid).
  DERIVED. THE GIVEN ROWS OF THIS SEAT. 4 by the template 'for every input the law returns true; each argument reads behind the call as it read before'; 0 by the template 'total and deterministic' (their statements: YtjlhjjjhblcokaaTotals.lean).
  GIVEN WITH THE SEED: the statements are not yours to turn. If you find one false, say at which input.
  Laid BY PROGRAM, IN A SANDBOX (cutbox-rows.mjs): the forced cells as the released guide's own fill.sh prints them over the translation 07972543c099b195… (all of the seat's roots in one cut). By AI agents, Wed Nov 11 2026. No macro, syntax, notation, axiom, sorry.
-/
import Derived.Test.YtjlhjjjhblcokaaChecked
import GoSem.Claim
import GoSem.ClaimJoined
import GoSem.ClaimMapViews
import Derived.JoinedTies
import Derived.KernelRfl
namespace Go.Proofs.Ytjlhjjjhblcokaa
/- THE CELL 'sum', in the pinned program and in every row, IS THE sha256 OF THE DUMP (.gsa) THAT YtjlhjjjhblcokaaProg.lean LOADS. Nothing in Lean hashes anything: it is a label: what it is worth is what the hold of that sum in a sandbox is worth. -/
noncomputable def Try.pinned : Pinned := { name := "ytjlhjjjhblcokaa", sum := "07972543c099b1958bee9ab9d50da858e57f71a0f78cf1546be001a1e480559f", checked := Try.checked }
namespace Rows
def none {H : Type} : Left H := { results := [], args := [] }

/-- 'bottomrylaw21.VaultOwners': WHATEVER THE INPUT: true; the input reads as it did. -/
def vaultOwnersSpec : ChangeSpec := { name := "vaultOwners", fn := fun _ => fun
  | [d1, d2, d3] => { results := [.lit (.bool true)], args := [d1, d2, d3] }
  | _ => none }
def vaultOwnersRow : OpenClaim := { program := "ytjlhjjjhblcokaa", sum := "07972543c099b1958bee9ab9d50da858e57f71a0f78cf1546be001a1e480559f", func := "bottomry/bottomrylaw21.VaultOwners", spec := "vaultOwners", unfollowed := true, recurses := true, apart := false }
def VaultOwnersSaid : Prop := vaultOwnersRow.holds Try.pinned (OpenSpec.ofChange vaultOwnersSpec)

/-- ITS FALSE NEIGHBOUR: 'it returns false'. Refute it at one input. -/
def vaultOwnersWrong : ChangeSpec := { name := "vaultOwners", fn := fun _ => fun
  | [d1, d2, d3] => { results := [.lit (.bool false)], args := [d1, d2, d3] }
  | _ => none }
def VaultOwnersWrongFalsely : Prop := vaultOwnersRow.holds Try.pinned (OpenSpec.ofChange vaultOwnersWrong)

/-- 'bottomrylaw21.VaultItems': WHATEVER THE INPUT: true; the input reads as it did. -/
def vaultItemsSpec : ChangeSpec := { name := "vaultItems", fn := fun _ => fun
  | [d1, d2] => { results := [.lit (.bool true)], args := [d1, d2] }
  | _ => none }
def vaultItemsRow : OpenClaim := { program := "ytjlhjjjhblcokaa", sum := "07972543c099b1958bee9ab9d50da858e57f71a0f78cf1546be001a1e480559f", func := "bottomry/bottomrylaw21.VaultItems", spec := "vaultItems", unfollowed := true, recurses := true, apart := false }
def VaultItemsSaid : Prop := vaultItemsRow.holds Try.pinned (OpenSpec.ofChange vaultItemsSpec)

/-- ITS FALSE NEIGHBOUR: 'it returns false'. Refute it at one input. -/
def vaultItemsWrong : ChangeSpec := { name := "vaultItems", fn := fun _ => fun
  | [d1, d2] => { results := [.lit (.bool false)], args := [d1, d2] }
  | _ => none }
def VaultItemsWrongFalsely : Prop := vaultItemsRow.holds Try.pinned (OpenSpec.ofChange vaultItemsWrong)

/-- 'bottomrylaw21.VaultMoney': WHATEVER THE INPUT: true; the input reads as it did. -/
def vaultMoneySpec : ChangeSpec := { name := "vaultMoney", fn := fun _ => fun
  | [d1, d2] => { results := [.lit (.bool true)], args := [d1, d2] }
  | _ => none }
def vaultMoneyRow : OpenClaim := { program := "ytjlhjjjhblcokaa", sum := "07972543c099b1958bee9ab9d50da858e57f71a0f78cf1546be001a1e480559f", func := "bottomry/bottomrylaw21.VaultMoney", spec := "vaultMoney", unfollowed := true, recurses := true, apart := false }
def VaultMoneySaid : Prop := vaultMoneyRow.holds Try.pinned (OpenSpec.ofChange vaultMoneySpec)

/-- ITS FALSE NEIGHBOUR: 'it returns false'. Refute it at one input. -/
def vaultMoneyWrong : ChangeSpec := { name := "vaultMoney", fn := fun _ => fun
  | [d1, d2] => { results := [.lit (.bool false)], args := [d1, d2] }
  | _ => none }
def VaultMoneyWrongFalsely : Prop := vaultMoneyRow.holds Try.pinned (OpenSpec.ofChange vaultMoneyWrong)

/-- 'bottomrylaw21.VaultKeeps': WHATEVER THE INPUT: true; the input reads as it did. -/
def vaultKeepsSpec : ChangeSpec := { name := "vaultKeeps", fn := fun _ => fun
  | [d1, d2, d3] => { results := [.lit (.bool true)], args := [d1, d2, d3] }
  | _ => none }
def vaultKeepsRow : OpenClaim := { program := "ytjlhjjjhblcokaa", sum := "07972543c099b1958bee9ab9d50da858e57f71a0f78cf1546be001a1e480559f", func := "bottomry/bottomrylaw21.VaultKeeps", spec := "vaultKeeps", unfollowed := true, recurses := true, apart := false }
def VaultKeepsSaid : Prop := vaultKeepsRow.holds Try.pinned (OpenSpec.ofChange vaultKeepsSpec)

/-- ITS FALSE NEIGHBOUR: 'it returns false'. Refute it at one input. -/
def vaultKeepsWrong : ChangeSpec := { name := "vaultKeeps", fn := fun _ => fun
  | [d1, d2, d3] => { results := [.lit (.bool false)], args := [d1, d2, d3] }
  | _ => none }
def VaultKeepsWrongFalsely : Prop := vaultKeepsRow.holds Try.pinned (OpenSpec.ofChange vaultKeepsWrong)

/- THE SECOND FORM. 'bulk': how many values and letters a reading holds, each counted each time it is reached (what is shared counts as often as it is met; a slice's spare places count too). A statement '..UptoSaid' is the law's where the arguments, and the package variables that the reading takes, are together of bulk at most 1048576: NARROWER than '..Said'. Prove '..Said' where nothing that the law and all that it calls make is longer than what came in: it says more and counts as full. Else prove '..UptoSaid'. A law counts once. -/
mutual
def uptoBulk {H : Type} : DataW H → Nat
  | .lit (.string bytes) => bytes.length + 1
  | .lit _ => 1
  | .nil => 1
  | .ptr d => uptoBulk d + 1
  | .slice elems spare => uptoBulkAll elems + uptoBulkAll spare + 1
  | .agg parts => uptoBulkAll parts + 1
  | .iface _ d => uptoBulk d + 1
  | .map entries => uptoBulkEntries entries + 1
  | .held _ => 1
def uptoBulkAll {H : Type} : List (DataW H) → Nat
  | [] => 0
  | d :: r => uptoBulk d + uptoBulkAll r
def uptoBulkEntries {H : Type} : List (Lit × DataW H) → Nat
  | [] => 0
  | x :: r => uptoBulkEntry x + uptoBulkEntries r
def uptoBulkEntry {H : Type} : Lit × DataW H → Nat
  | (.string bytes, d) => bytes.length + uptoBulk d + 1
  | (_, d) => uptoBulk d + 1
 end
def uptoSmall : (H : Type) → List (DataW H) → Bool := fun _ ds => decide (uptoBulkAll ds ≤ 1048576)
def OpenSpec.upto (s : _root_.Go.ChangeSpec) : _root_.Go.OpenSpec := { _root_.Go.OpenSpec.ofChange s with cond := some uptoSmall }

/-- 'bottomrylaw21.VaultOwners', WHERE WHAT IT READS IS OF BULK AT MOST 1048576: true; the input reads as it did. -/
def vaultOwnersUptoRow : OpenClaim := { program := "ytjlhjjjhblcokaa", sum := "07972543c099b1958bee9ab9d50da858e57f71a0f78cf1546be001a1e480559f", func := "bottomry/bottomrylaw21.VaultOwners", spec := "vaultOwners", unfollowed := true, recurses := true, apart := false, narrowed := true }
def VaultOwnersUptoSaid : Prop := vaultOwnersUptoRow.holds Try.pinned (OpenSpec.upto vaultOwnersSpec)

/-- 'bottomrylaw21.VaultItems', WHERE WHAT IT READS IS OF BULK AT MOST 1048576: true; the input reads as it did. -/
def vaultItemsUptoRow : OpenClaim := { program := "ytjlhjjjhblcokaa", sum := "07972543c099b1958bee9ab9d50da858e57f71a0f78cf1546be001a1e480559f", func := "bottomry/bottomrylaw21.VaultItems", spec := "vaultItems", unfollowed := true, recurses := true, apart := false, narrowed := true }
def VaultItemsUptoSaid : Prop := vaultItemsUptoRow.holds Try.pinned (OpenSpec.upto vaultItemsSpec)

/-- 'bottomrylaw21.VaultMoney', WHERE WHAT IT READS IS OF BULK AT MOST 1048576: true; the input reads as it did. -/
def vaultMoneyUptoRow : OpenClaim := { program := "ytjlhjjjhblcokaa", sum := "07972543c099b1958bee9ab9d50da858e57f71a0f78cf1546be001a1e480559f", func := "bottomry/bottomrylaw21.VaultMoney", spec := "vaultMoney", unfollowed := true, recurses := true, apart := false, narrowed := true }
def VaultMoneyUptoSaid : Prop := vaultMoneyUptoRow.holds Try.pinned (OpenSpec.upto vaultMoneySpec)

/-- 'bottomrylaw21.VaultKeeps', WHERE WHAT IT READS IS OF BULK AT MOST 1048576: true; the input reads as it did. -/
def vaultKeepsUptoRow : OpenClaim := { program := "ytjlhjjjhblcokaa", sum := "07972543c099b1958bee9ab9d50da858e57f71a0f78cf1546be001a1e480559f", func := "bottomry/bottomrylaw21.VaultKeeps", spec := "vaultKeeps", unfollowed := true, recurses := true, apart := false, narrowed := true }
def VaultKeepsUptoSaid : Prop := vaultKeepsUptoRow.holds Try.pinned (OpenSpec.upto vaultKeepsSpec)

end Rows
end Go.Proofs.Ytjlhjjjhblcokaa
