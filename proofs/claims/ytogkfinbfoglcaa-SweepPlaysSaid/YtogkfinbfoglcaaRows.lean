/-
  No cell of these rows narrows 'for every input' (looked for: loops, veiled, ifaces, maps, wideKeys, modest, calm, conditions, laid).
  DERIVED. THE GIVEN ROWS OF THIS SEAT. 3 by the template 'for every input the law returns true; each argument reads behind the call as it read before'; 0 by the template 'total and deterministic' (their statements: YtogkfinbfoglcaaTotals.lean).
  GIVEN WITH THE SEED: the statements are not yours to turn. If you find one false, say at which input.
  Laid BY PROGRAM, IN A SANDBOX (cutbox-rows.mjs): the forced cells as the released guide's own fill.sh prints them over the translation c59cf9bac55a771f… (all of the seat's roots in one cut). By AI agents, Wed Nov 11 2026. No macro, syntax, notation, axiom, sorry.
-/
import Derived.Test.YtogkfinbfoglcaaChecked
import GoSem.Claim
import GoSem.ClaimJoined
import GoSem.ClaimMapViews
import Derived.JoinedTies
import Derived.KernelRfl
namespace Go.Proofs.Ytogkfinbfoglcaa
/- THE CELL 'sum', in the pinned program and in every row, IS THE sha256 OF THE DUMP (.gsa) THAT YtogkfinbfoglcaaProg.lean LOADS. Nothing in Lean hashes anything: it is a label: what it is worth is what the hold of that sum in a sandbox is worth. -/
noncomputable def Try.pinned : Pinned := { name := "ytogkfinbfoglcaa", sum := "c59cf9bac55a771f4f1d7a73e5fcd9e3793876fae0e806354aa3accaadf6c2b7", checked := Try.checked }
namespace Rows
def none {H : Type} : Left H := { results := [], args := [] }

/-- 'sealchainlaw22.SweepPlays': WHATEVER THE INPUT: true; the input reads as it did. -/
def sweepPlaysSpec : ChangeSpec := { name := "sweepPlays", fn := fun _ => fun
  | [d1, d2] => { results := [.lit (.bool true)], args := [d1, d2] }
  | _ => none }
def sweepPlaysRow : OpenClaim := { program := "ytogkfinbfoglcaa", sum := "c59cf9bac55a771f4f1d7a73e5fcd9e3793876fae0e806354aa3accaadf6c2b7", func := "sealchain/sealchainlaw22.SweepPlays", spec := "sweepPlays", unfollowed := true, recurses := true, apart := false }
def SweepPlaysSaid : Prop := sweepPlaysRow.holds Try.pinned (OpenSpec.ofChange sweepPlaysSpec)

/-- ITS FALSE NEIGHBOUR: 'it returns false'. Refute it at one input. -/
def sweepPlaysWrong : ChangeSpec := { name := "sweepPlays", fn := fun _ => fun
  | [d1, d2] => { results := [.lit (.bool false)], args := [d1, d2] }
  | _ => none }
def SweepPlaysWrongFalsely : Prop := sweepPlaysRow.holds Try.pinned (OpenSpec.ofChange sweepPlaysWrong)

/-- 'sealchainlaw22.SweepEnds': WHATEVER THE INPUT: true; the input reads as it did. -/
def sweepEndsSpec : ChangeSpec := { name := "sweepEnds", fn := fun _ => fun
  | [d1, d2, d3] => { results := [.lit (.bool true)], args := [d1, d2, d3] }
  | _ => none }
def sweepEndsRow : OpenClaim := { program := "ytogkfinbfoglcaa", sum := "c59cf9bac55a771f4f1d7a73e5fcd9e3793876fae0e806354aa3accaadf6c2b7", func := "sealchain/sealchainlaw22.SweepEnds", spec := "sweepEnds", unfollowed := true, recurses := true, apart := false }
def SweepEndsSaid : Prop := sweepEndsRow.holds Try.pinned (OpenSpec.ofChange sweepEndsSpec)

/-- ITS FALSE NEIGHBOUR: 'it returns false'. Refute it at one input. -/
def sweepEndsWrong : ChangeSpec := { name := "sweepEnds", fn := fun _ => fun
  | [d1, d2, d3] => { results := [.lit (.bool false)], args := [d1, d2, d3] }
  | _ => none }
def SweepEndsWrongFalsely : Prop := sweepEndsRow.holds Try.pinned (OpenSpec.ofChange sweepEndsWrong)

/-- 'sealchainlaw22.SweepLate': WHATEVER THE INPUT: true; the input reads as it did. -/
def sweepLateSpec : ChangeSpec := { name := "sweepLate", fn := fun _ => fun
  | [d1, d2] => { results := [.lit (.bool true)], args := [d1, d2] }
  | _ => none }
def sweepLateRow : OpenClaim := { program := "ytogkfinbfoglcaa", sum := "c59cf9bac55a771f4f1d7a73e5fcd9e3793876fae0e806354aa3accaadf6c2b7", func := "sealchain/sealchainlaw22.SweepLate", spec := "sweepLate", unfollowed := true, recurses := true, apart := false }
def SweepLateSaid : Prop := sweepLateRow.holds Try.pinned (OpenSpec.ofChange sweepLateSpec)

/-- ITS FALSE NEIGHBOUR: 'it returns false'. Refute it at one input. -/
def sweepLateWrong : ChangeSpec := { name := "sweepLate", fn := fun _ => fun
  | [d1, d2] => { results := [.lit (.bool false)], args := [d1, d2] }
  | _ => none }
def SweepLateWrongFalsely : Prop := sweepLateRow.holds Try.pinned (OpenSpec.ofChange sweepLateWrong)

/- THE SECOND FORM. 'bulk': how many values and letters a reading holds, each counted each time it is reached (what is shared counts as often as it is met; a slice's spare places count too). A statement '..UptoSaid' is the law's where the arguments, and the package variables that the reading takes, are together of bulk at most 1048576: NARROWER than '..Said'. Prove '..Said' where nothing that the law and all that it calls make is longer than what came in: it says more and counts as full. Else prove '..UptoSaid'. A law counts once. -/
mutual
def uptoBulk {H : Type} : DataW H → Nat
  | .lit (.string bytes) => bytes.length + 1
  | .lit _ => 1
  | .nil => 1
  | .ptr d => uptoBulk d + 1
  | .slice elems spare => uptoBulkAll elems + uptoBulkAll spare + 1
  | .agg parts => uptoBulkAll parts + 1
  | .iface _ d => uptoBulk d + 1
  | .map entries => uptoBulkEntries entries + 1
  | .held _ => 1
def uptoBulkAll {H : Type} : List (DataW H) → Nat
  | [] => 0
  | d :: r => uptoBulk d + uptoBulkAll r
def uptoBulkEntries {H : Type} : List (Lit × DataW H) → Nat
  | [] => 0
  | x :: r => uptoBulkEntry x + uptoBulkEntries r
def uptoBulkEntry {H : Type} : Lit × DataW H → Nat
  | (.string bytes, d) => bytes.length + uptoBulk d + 1
  | (_, d) => uptoBulk d + 1
 end
def uptoSmall : (H : Type) → List (DataW H) → Bool := fun _ ds => decide (uptoBulkAll ds ≤ 1048576)
def OpenSpec.upto (s : _root_.Go.ChangeSpec) : _root_.Go.OpenSpec := { _root_.Go.OpenSpec.ofChange s with cond := some uptoSmall }

/-- 'sealchainlaw22.SweepPlays', WHERE WHAT IT READS IS OF BULK AT MOST 1048576: true; the input reads as it did. -/
def sweepPlaysUptoRow : OpenClaim := { program := "ytogkfinbfoglcaa", sum := "c59cf9bac55a771f4f1d7a73e5fcd9e3793876fae0e806354aa3accaadf6c2b7", func := "sealchain/sealchainlaw22.SweepPlays", spec := "sweepPlays", unfollowed := true, recurses := true, apart := false, narrowed := true }
def SweepPlaysUptoSaid : Prop := sweepPlaysUptoRow.holds Try.pinned (OpenSpec.upto sweepPlaysSpec)

/-- 'sealchainlaw22.SweepEnds', WHERE WHAT IT READS IS OF BULK AT MOST 1048576: true; the input reads as it did. -/
def sweepEndsUptoRow : OpenClaim := { program := "ytogkfinbfoglcaa", sum := "c59cf9bac55a771f4f1d7a73e5fcd9e3793876fae0e806354aa3accaadf6c2b7", func := "sealchain/sealchainlaw22.SweepEnds", spec := "sweepEnds", unfollowed := true, recurses := true, apart := false, narrowed := true }
def SweepEndsUptoSaid : Prop := sweepEndsUptoRow.holds Try.pinned (OpenSpec.upto sweepEndsSpec)

/-- 'sealchainlaw22.SweepLate', WHERE WHAT IT READS IS OF BULK AT MOST 1048576: true; the input reads as it did. -/
def sweepLateUptoRow : OpenClaim := { program := "ytogkfinbfoglcaa", sum := "c59cf9bac55a771f4f1d7a73e5fcd9e3793876fae0e806354aa3accaadf6c2b7", func := "sealchain/sealchainlaw22.SweepLate", spec := "sweepLate", unfollowed := true, recurses := true, apart := false, narrowed := true }
def SweepLateUptoSaid : Prop := sweepLateUptoRow.holds Try.pinned (OpenSpec.upto sweepLateSpec)

end Rows
end Go.Proofs.Ytogkfinbfoglcaa
