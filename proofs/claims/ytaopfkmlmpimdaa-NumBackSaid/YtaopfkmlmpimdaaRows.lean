/-
  No cell of these rows narrows 'for every input' (looked for: loops, veiled, ifaces, maps, wideKeys, modest, calm, conditions, laid).
  DERIVED. THE GIVEN ROWS OF THIS SEAT. 6 by the template 'for every input the law returns true; each argument reads behind the call as it read before'; 0 by the template 'total and deterministic' (their statements: YtaopfkmlmpimdaaTotals.lean).
  GIVEN WITH THE SEED: the statements are not yours to turn. If you find one false, say at which input.
  Laid BY PROGRAM, IN A SANDBOX (cutbox-rows.mjs): the forced cells as the released guide's own fill.sh prints them over the translation 4f8693a8bb5f122a… (all of the seat's roots in one cut). By AI agents, Wed Nov 11 2026. No macro, syntax, notation, axiom, sorry.
-/
import Derived.Test.YtaopfkmlmpimdaaChecked
import GoSem.Claim
import GoSem.ClaimJoined
import GoSem.ClaimMapViews
import Derived.JoinedTies
import Derived.KernelRfl
namespace Go.Proofs.Ytaopfkmlmpimdaa
/- THE CELL 'sum', in the pinned program and in every row, IS THE sha256 OF THE DUMP (.gsa) THAT YtaopfkmlmpimdaaProg.lean LOADS. Nothing in Lean hashes anything: it is a label: what it is worth is what the hold of that sum in a sandbox is worth. -/
noncomputable def Try.pinned : Pinned := { name := "ytaopfkmlmpimdaa", sum := "4f8693a8bb5f122a8a9d50d54cc092cfb246f36b7d412ce97534cccb1c8afaf7", checked := Try.checked }
namespace Rows
def none {H : Type} : Left H := { results := [], args := [] }

/-- 'sealchainlaw01.NumWrites': WHATEVER THE INPUT: true; the input reads as it did. -/
def numWritesSpec : ChangeSpec := { name := "numWrites", fn := fun _ => fun
  | [d] => { results := [.lit (.bool true)], args := [d] }
  | _ => none }
def numWritesRow : OpenClaim := { program := "ytaopfkmlmpimdaa", sum := "4f8693a8bb5f122a8a9d50d54cc092cfb246f36b7d412ce97534cccb1c8afaf7", func := "sealchain/sealchainlaw01.NumWrites", spec := "numWrites", apart := false }
def NumWritesSaid : Prop := numWritesRow.holds Try.pinned (OpenSpec.ofChange numWritesSpec)

/-- ITS FALSE NEIGHBOUR: 'it returns false'. Refute it at one input. -/
def numWritesWrong : ChangeSpec := { name := "numWrites", fn := fun _ => fun
  | [d] => { results := [.lit (.bool false)], args := [d] }
  | _ => none }
def NumWritesWrongFalsely : Prop := numWritesRow.holds Try.pinned (OpenSpec.ofChange numWritesWrong)

/-- 'sealchainlaw01.NumOrder': WHATEVER THE INPUT: true; the input reads as it did. -/
def numOrderSpec : ChangeSpec := { name := "numOrder", fn := fun _ => fun
  | [d1, d2] => { results := [.lit (.bool true)], args := [d1, d2] }
  | _ => none }
def numOrderRow : OpenClaim := { program := "ytaopfkmlmpimdaa", sum := "4f8693a8bb5f122a8a9d50d54cc092cfb246f36b7d412ce97534cccb1c8afaf7", func := "sealchain/sealchainlaw01.NumOrder", spec := "numOrder", apart := false }
def NumOrderSaid : Prop := numOrderRow.holds Try.pinned (OpenSpec.ofChange numOrderSpec)

/-- ITS FALSE NEIGHBOUR: 'it returns false'. Refute it at one input. -/
def numOrderWrong : ChangeSpec := { name := "numOrder", fn := fun _ => fun
  | [d1, d2] => { results := [.lit (.bool false)], args := [d1, d2] }
  | _ => none }
def NumOrderWrongFalsely : Prop := numOrderRow.holds Try.pinned (OpenSpec.ofChange numOrderWrong)

/-- 'sealchainlaw01.NumAgain': WHATEVER THE INPUT: true; the input reads as it did. -/
def numAgainSpec : ChangeSpec := { name := "numAgain", fn := fun _ => fun
  | [d] => { results := [.lit (.bool true)], args := [d] }
  | _ => none }
def numAgainRow : OpenClaim := { program := "ytaopfkmlmpimdaa", sum := "4f8693a8bb5f122a8a9d50d54cc092cfb246f36b7d412ce97534cccb1c8afaf7", func := "sealchain/sealchainlaw01.NumAgain", spec := "numAgain", apart := false }
def NumAgainSaid : Prop := numAgainRow.holds Try.pinned (OpenSpec.ofChange numAgainSpec)

/-- ITS FALSE NEIGHBOUR: 'it returns false'. Refute it at one input. -/
def numAgainWrong : ChangeSpec := { name := "numAgain", fn := fun _ => fun
  | [d] => { results := [.lit (.bool false)], args := [d] }
  | _ => none }
def NumAgainWrongFalsely : Prop := numAgainRow.holds Try.pinned (OpenSpec.ofChange numAgainWrong)

/-- 'sealchainlaw01.NumReads': WHATEVER THE INPUT: true; the input reads as it did. -/
def numReadsSpec : ChangeSpec := { name := "numReads", fn := fun _ => fun
  | [d1, d2] => { results := [.lit (.bool true)], args := [d1, d2] }
  | _ => none }
def numReadsRow : OpenClaim := { program := "ytaopfkmlmpimdaa", sum := "4f8693a8bb5f122a8a9d50d54cc092cfb246f36b7d412ce97534cccb1c8afaf7", func := "sealchain/sealchainlaw01.NumReads", spec := "numReads", apart := false }
def NumReadsSaid : Prop := numReadsRow.holds Try.pinned (OpenSpec.ofChange numReadsSpec)

/-- ITS FALSE NEIGHBOUR: 'it returns false'. Refute it at one input. -/
def numReadsWrong : ChangeSpec := { name := "numReads", fn := fun _ => fun
  | [d1, d2] => { results := [.lit (.bool false)], args := [d1, d2] }
  | _ => none }
def NumReadsWrongFalsely : Prop := numReadsRow.holds Try.pinned (OpenSpec.ofChange numReadsWrong)

/-- 'sealchainlaw01.NumBack': WHATEVER THE INPUT: true; the input reads as it did. -/
def numBackSpec : ChangeSpec := { name := "numBack", fn := fun _ => fun
  | [d1, d2] => { results := [.lit (.bool true)], args := [d1, d2] }
  | _ => none }
def numBackRow : OpenClaim := { program := "ytaopfkmlmpimdaa", sum := "4f8693a8bb5f122a8a9d50d54cc092cfb246f36b7d412ce97534cccb1c8afaf7", func := "sealchain/sealchainlaw01.NumBack", spec := "numBack", apart := false }
def NumBackSaid : Prop := numBackRow.holds Try.pinned (OpenSpec.ofChange numBackSpec)

/-- ITS FALSE NEIGHBOUR: 'it returns false'. Refute it at one input. -/
def numBackWrong : ChangeSpec := { name := "numBack", fn := fun _ => fun
  | [d1, d2] => { results := [.lit (.bool false)], args := [d1, d2] }
  | _ => none }
def NumBackWrongFalsely : Prop := numBackRow.holds Try.pinned (OpenSpec.ofChange numBackWrong)

/-- 'sealchainlaw01.NumFirst': WHATEVER THE INPUT: true; the input reads as it did. -/
def numFirstSpec : ChangeSpec := { name := "numFirst", fn := fun _ => fun
  | [d1, d2, d3] => { results := [.lit (.bool true)], args := [d1, d2, d3] }
  | _ => none }
def numFirstRow : OpenClaim := { program := "ytaopfkmlmpimdaa", sum := "4f8693a8bb5f122a8a9d50d54cc092cfb246f36b7d412ce97534cccb1c8afaf7", func := "sealchain/sealchainlaw01.NumFirst", spec := "numFirst", apart := false }
def NumFirstSaid : Prop := numFirstRow.holds Try.pinned (OpenSpec.ofChange numFirstSpec)

/-- ITS FALSE NEIGHBOUR: 'it returns false'. Refute it at one input. -/
def numFirstWrong : ChangeSpec := { name := "numFirst", fn := fun _ => fun
  | [d1, d2, d3] => { results := [.lit (.bool false)], args := [d1, d2, d3] }
  | _ => none }
def NumFirstWrongFalsely : Prop := numFirstRow.holds Try.pinned (OpenSpec.ofChange numFirstWrong)

/- THE SECOND FORM. 'bulk': how many values and letters a reading holds, each counted each time it is reached (what is shared counts as often as it is met; a slice's spare places count too). A statement '..UptoSaid' is the law's where the arguments, and the package variables that the reading takes, are together of bulk at most 1048576: NARROWER than '..Said'. Prove '..Said' where nothing that the law and all that it calls make is longer than what came in: it says more and counts as full. Else prove '..UptoSaid'. A law counts once. -/
mutual
def uptoBulk {H : Type} : DataW H → Nat
  | .lit (.string bytes) => bytes.length + 1
  | .lit _ => 1
  | .nil => 1
  | .ptr d => uptoBulk d + 1
  | .slice elems spare => uptoBulkAll elems + uptoBulkAll spare + 1
  | .agg parts => uptoBulkAll parts + 1
  | .iface _ d => uptoBulk d + 1
  | .map entries => uptoBulkEntries entries + 1
  | .held _ => 1
def uptoBulkAll {H : Type} : List (DataW H) → Nat
  | [] => 0
  | d :: r => uptoBulk d + uptoBulkAll r
def uptoBulkEntries {H : Type} : List (Lit × DataW H) → Nat
  | [] => 0
  | x :: r => uptoBulkEntry x + uptoBulkEntries r
def uptoBulkEntry {H : Type} : Lit × DataW H → Nat
  | (.string bytes, d) => bytes.length + uptoBulk d + 1
  | (_, d) => uptoBulk d + 1
 end
def uptoSmall : (H : Type) → List (DataW H) → Bool := fun _ ds => decide (uptoBulkAll ds ≤ 1048576)
def OpenSpec.upto (s : _root_.Go.ChangeSpec) : _root_.Go.OpenSpec := { _root_.Go.OpenSpec.ofChange s with cond := some uptoSmall }

/-- 'sealchainlaw01.NumWrites', WHERE WHAT IT READS IS OF BULK AT MOST 1048576: true; the input reads as it did. -/
def numWritesUptoRow : OpenClaim := { program := "ytaopfkmlmpimdaa", sum := "4f8693a8bb5f122a8a9d50d54cc092cfb246f36b7d412ce97534cccb1c8afaf7", func := "sealchain/sealchainlaw01.NumWrites", spec := "numWrites", apart := false, narrowed := true }
def NumWritesUptoSaid : Prop := numWritesUptoRow.holds Try.pinned (OpenSpec.upto numWritesSpec)

/-- 'sealchainlaw01.NumOrder', WHERE WHAT IT READS IS OF BULK AT MOST 1048576: true; the input reads as it did. -/
def numOrderUptoRow : OpenClaim := { program := "ytaopfkmlmpimdaa", sum := "4f8693a8bb5f122a8a9d50d54cc092cfb246f36b7d412ce97534cccb1c8afaf7", func := "sealchain/sealchainlaw01.NumOrder", spec := "numOrder", apart := false, narrowed := true }
def NumOrderUptoSaid : Prop := numOrderUptoRow.holds Try.pinned (OpenSpec.upto numOrderSpec)

/-- 'sealchainlaw01.NumAgain', WHERE WHAT IT READS IS OF BULK AT MOST 1048576: true; the input reads as it did. -/
def numAgainUptoRow : OpenClaim := { program := "ytaopfkmlmpimdaa", sum := "4f8693a8bb5f122a8a9d50d54cc092cfb246f36b7d412ce97534cccb1c8afaf7", func := "sealchain/sealchainlaw01.NumAgain", spec := "numAgain", apart := false, narrowed := true }
def NumAgainUptoSaid : Prop := numAgainUptoRow.holds Try.pinned (OpenSpec.upto numAgainSpec)

/-- 'sealchainlaw01.NumReads', WHERE WHAT IT READS IS OF BULK AT MOST 1048576: true; the input reads as it did. -/
def numReadsUptoRow : OpenClaim := { program := "ytaopfkmlmpimdaa", sum := "4f8693a8bb5f122a8a9d50d54cc092cfb246f36b7d412ce97534cccb1c8afaf7", func := "sealchain/sealchainlaw01.NumReads", spec := "numReads", apart := false, narrowed := true }
def NumReadsUptoSaid : Prop := numReadsUptoRow.holds Try.pinned (OpenSpec.upto numReadsSpec)

/-- 'sealchainlaw01.NumBack', WHERE WHAT IT READS IS OF BULK AT MOST 1048576: true; the input reads as it did. -/
def numBackUptoRow : OpenClaim := { program := "ytaopfkmlmpimdaa", sum := "4f8693a8bb5f122a8a9d50d54cc092cfb246f36b7d412ce97534cccb1c8afaf7", func := "sealchain/sealchainlaw01.NumBack", spec := "numBack", apart := false, narrowed := true }
def NumBackUptoSaid : Prop := numBackUptoRow.holds Try.pinned (OpenSpec.upto numBackSpec)

/-- 'sealchainlaw01.NumFirst', WHERE WHAT IT READS IS OF BULK AT MOST 1048576: true; the input reads as it did. -/
def numFirstUptoRow : OpenClaim := { program := "ytaopfkmlmpimdaa", sum := "4f8693a8bb5f122a8a9d50d54cc092cfb246f36b7d412ce97534cccb1c8afaf7", func := "sealchain/sealchainlaw01.NumFirst", spec := "numFirst", apart := false, narrowed := true }
def NumFirstUptoSaid : Prop := numFirstUptoRow.holds Try.pinned (OpenSpec.upto numFirstSpec)

end Rows
end Go.Proofs.Ytaopfkmlmpimdaa
