/-
  No cell of these rows narrows 'for every input' (looked for: loops, veiled, ifaces, maps, wideKeys, modest, calm, conditions, laid).
  DERIVED. THE GIVEN ROWS OF THIS SEAT. 3 by the template 'for every input the law returns true; each argument reads behind the call as it read before'; 0 by the template 'total and deterministic' (their statements: YtkiofjedeecijaaTotals.lean).
  GIVEN WITH THE SEED: the statements are not yours to turn. If you find one false, say at which input.
  Laid BY PROGRAM, IN A SANDBOX (cutbox-rows.mjs): the forced cells as the released guide's own fill.sh prints them over the translation f2dcb9672863e8dd… (all of the seat's roots in one cut). By AI agents, Wed Nov 11 2026. No macro, syntax, notation, axiom, sorry.
-/
import Derived.Test.YtkiofjedeecijaaChecked
import GoSem.Claim
import GoSem.ClaimJoined
import GoSem.ClaimMapViews
import Derived.JoinedTies
import Derived.KernelRfl
namespace Go.Proofs.Ytkiofjedeecijaa
/- THE CELL 'sum', in the pinned program and in every row, IS THE sha256 OF THE DUMP (.gsa) THAT YtkiofjedeecijaaProg.lean LOADS. Nothing in Lean hashes anything: it is a label: what it is worth is what the hold of that sum in a sandbox is worth. -/
noncomputable def Try.pinned : Pinned := { name := "ytkiofjedeecijaa", sum := "f2dcb9672863e8dd518c1de9887043fbcdd71a6a67a848629bded2b3cc8912a3", checked := Try.checked }
namespace Rows
def none {H : Type} : Left H := { results := [], args := [] }

/-- 'sealchainlaw24.ViewNodes': WHATEVER THE INPUT: true; the input reads as it did. -/
def viewNodesSpec : ChangeSpec := { name := "viewNodes", fn := fun _ => fun
  | [d] => { results := [.lit (.bool true)], args := [d] }
  | _ => none }
def viewNodesRow : OpenClaim := { program := "ytkiofjedeecijaa", sum := "f2dcb9672863e8dd518c1de9887043fbcdd71a6a67a848629bded2b3cc8912a3", func := "sealchain/sealchainlaw24.ViewNodes", spec := "viewNodes", unfollowed := true, recurses := true, apart := false }
def ViewNodesSaid : Prop := viewNodesRow.holds Try.pinned (OpenSpec.ofChange viewNodesSpec)

/-- ITS FALSE NEIGHBOUR: 'it returns false'. Refute it at one input. -/
def viewNodesWrong : ChangeSpec := { name := "viewNodes", fn := fun _ => fun
  | [d] => { results := [.lit (.bool false)], args := [d] }
  | _ => none }
def ViewNodesWrongFalsely : Prop := viewNodesRow.holds Try.pinned (OpenSpec.ofChange viewNodesWrong)

/-- 'sealchainlaw24.ViewUntil': WHATEVER THE INPUT: true; the input reads as it did. -/
def viewUntilSpec : ChangeSpec := { name := "viewUntil", fn := fun _ => fun
  | [d1, d2] => { results := [.lit (.bool true)], args := [d1, d2] }
  | _ => none }
def viewUntilRow : OpenClaim := { program := "ytkiofjedeecijaa", sum := "f2dcb9672863e8dd518c1de9887043fbcdd71a6a67a848629bded2b3cc8912a3", func := "sealchain/sealchainlaw24.ViewUntil", spec := "viewUntil", unfollowed := true, recurses := true, apart := false }
def ViewUntilSaid : Prop := viewUntilRow.holds Try.pinned (OpenSpec.ofChange viewUntilSpec)

/-- ITS FALSE NEIGHBOUR: 'it returns false'. Refute it at one input. -/
def viewUntilWrong : ChangeSpec := { name := "viewUntil", fn := fun _ => fun
  | [d1, d2] => { results := [.lit (.bool false)], args := [d1, d2] }
  | _ => none }
def ViewUntilWrongFalsely : Prop := viewUntilRow.holds Try.pinned (OpenSpec.ofChange viewUntilWrong)

/-- 'sealchainlaw24.ViewAgain': WHATEVER THE INPUT: true; the input reads as it did. -/
def viewAgainSpec : ChangeSpec := { name := "viewAgain", fn := fun _ => fun
  | [d1, d2] => { results := [.lit (.bool true)], args := [d1, d2] }
  | _ => none }
def viewAgainRow : OpenClaim := { program := "ytkiofjedeecijaa", sum := "f2dcb9672863e8dd518c1de9887043fbcdd71a6a67a848629bded2b3cc8912a3", func := "sealchain/sealchainlaw24.ViewAgain", spec := "viewAgain", unfollowed := true, recurses := true, apart := false }
def ViewAgainSaid : Prop := viewAgainRow.holds Try.pinned (OpenSpec.ofChange viewAgainSpec)

/-- ITS FALSE NEIGHBOUR: 'it returns false'. Refute it at one input. -/
def viewAgainWrong : ChangeSpec := { name := "viewAgain", fn := fun _ => fun
  | [d1, d2] => { results := [.lit (.bool false)], args := [d1, d2] }
  | _ => none }
def ViewAgainWrongFalsely : Prop := viewAgainRow.holds Try.pinned (OpenSpec.ofChange viewAgainWrong)

/- THE SECOND FORM. 'bulk': how many values and letters a reading holds, each counted each time it is reached (what is shared counts as often as it is met; a slice's spare places count too). A statement '..UptoSaid' is the law's where the arguments, and the package variables that the reading takes, are together of bulk at most 1048576: NARROWER than '..Said'. Prove '..Said' where nothing that the law and all that it calls make is longer than what came in: it says more and counts as full. Else prove '..UptoSaid'. A law counts once. -/
mutual
def uptoBulk {H : Type} : DataW H → Nat
  | .lit (.string bytes) => bytes.length + 1
  | .lit _ => 1
  | .nil => 1
  | .ptr d => uptoBulk d + 1
  | .slice elems spare => uptoBulkAll elems + uptoBulkAll spare + 1
  | .agg parts => uptoBulkAll parts + 1
  | .iface _ d => uptoBulk d + 1
  | .map entries => uptoBulkEntries entries + 1
  | .held _ => 1
def uptoBulkAll {H : Type} : List (DataW H) → Nat
  | [] => 0
  | d :: r => uptoBulk d + uptoBulkAll r
def uptoBulkEntries {H : Type} : List (Lit × DataW H) → Nat
  | [] => 0
  | x :: r => uptoBulkEntry x + uptoBulkEntries r
def uptoBulkEntry {H : Type} : Lit × DataW H → Nat
  | (.string bytes, d) => bytes.length + uptoBulk d + 1
  | (_, d) => uptoBulk d + 1
 end
def uptoSmall : (H : Type) → List (DataW H) → Bool := fun _ ds => decide (uptoBulkAll ds ≤ 1048576)
def OpenSpec.upto (s : _root_.Go.ChangeSpec) : _root_.Go.OpenSpec := { _root_.Go.OpenSpec.ofChange s with cond := some uptoSmall }

/-- 'sealchainlaw24.ViewNodes', WHERE WHAT IT READS IS OF BULK AT MOST 1048576: true; the input reads as it did. -/
def viewNodesUptoRow : OpenClaim := { program := "ytkiofjedeecijaa", sum := "f2dcb9672863e8dd518c1de9887043fbcdd71a6a67a848629bded2b3cc8912a3", func := "sealchain/sealchainlaw24.ViewNodes", spec := "viewNodes", unfollowed := true, recurses := true, apart := false, narrowed := true }
def ViewNodesUptoSaid : Prop := viewNodesUptoRow.holds Try.pinned (OpenSpec.upto viewNodesSpec)

/-- 'sealchainlaw24.ViewUntil', WHERE WHAT IT READS IS OF BULK AT MOST 1048576: true; the input reads as it did. -/
def viewUntilUptoRow : OpenClaim := { program := "ytkiofjedeecijaa", sum := "f2dcb9672863e8dd518c1de9887043fbcdd71a6a67a848629bded2b3cc8912a3", func := "sealchain/sealchainlaw24.ViewUntil", spec := "viewUntil", unfollowed := true, recurses := true, apart := false, narrowed := true }
def ViewUntilUptoSaid : Prop := viewUntilUptoRow.holds Try.pinned (OpenSpec.upto viewUntilSpec)

/-- 'sealchainlaw24.ViewAgain', WHERE WHAT IT READS IS OF BULK AT MOST 1048576: true; the input reads as it did. -/
def viewAgainUptoRow : OpenClaim := { program := "ytkiofjedeecijaa", sum := "f2dcb9672863e8dd518c1de9887043fbcdd71a6a67a848629bded2b3cc8912a3", func := "sealchain/sealchainlaw24.ViewAgain", spec := "viewAgain", unfollowed := true, recurses := true, apart := false, narrowed := true }
def ViewAgainUptoSaid : Prop := viewAgainUptoRow.holds Try.pinned (OpenSpec.upto viewAgainSpec)

end Rows
end Go.Proofs.Ytkiofjedeecijaa
