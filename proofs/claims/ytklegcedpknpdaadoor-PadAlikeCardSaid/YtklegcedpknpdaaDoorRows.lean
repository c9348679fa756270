/-
  NARROWER THAN 'FOR EVERY INPUT', by the rows' own cells (each row's printed sentence says how): PadPads: laid · PadOpens: laid · PadBack: laid · PadAlike: laid · PadAgain: laid · PadTurned: laid · PadKnown: laid.
  DERIVED. THE GIVEN ROWS OF THIS SEAT. 7 by the template 'for every input the law returns true; each argument reads behind the call as it read before'; 0 by the template 'total and deterministic' (their statements: YtklegcedpknpdaaDoorTotals.lean).
  GIVEN WITH THE SEED: the statements are not yours to turn. If you find one false, say at which input.
  Laid BY PROGRAM, IN A SANDBOX (cutbox-rows.mjs): the forced cells as the released guide's own fill.sh prints them over the translation 571a5a534df5e134… (all of the seat's roots in one cut). By AI agents, Wed Nov 11 2026. No macro, syntax, notation, axiom, sorry.
-/
import Derived.Test.YtklegcedpknpdaaDoorChecked
import GoSem.Claim
import GoSem.ClaimJoined
import GoSem.ClaimMapViews
import Derived.JoinedTies
import Derived.KernelRfl
namespace Go.Proofs.YtklegcedpknpdaaDoor
/- THE CELL 'sum', in the pinned program and in every row, IS THE sha256 OF THE DUMP (.gsa) THAT YtklegcedpknpdaaDoorProg.lean LOADS. Nothing in Lean hashes anything: it is a label: what it is worth is what the hold of that sum in a sandbox is worth. -/
noncomputable def Tryd.pinned : Pinned := { name := "ytklegcedpknpdaadoor", sum := "571a5a534df5e1347bb154b82d650d90a7f9ab337297a71aa303087e0ca0d1b7", checked := Tryd.checked }
namespace Rows
def none {H : Type} : Left H := { results := [], args := [] }

/- WHAT THE LISTED PACKAGE-LEVEL VARIABLES READ AS WHEN THE CALL BEGINS. Each datum BY PROGRAM (the guide's laid-datum.mjs) off the statement by which the dump's own 'gosem.cut.vars' lays the variable. In a bare row this is a premise. The card (YtklegcedpknpdaaDoorCards.lean) ties it to the program's text. -/
def laid_sealchain_pad_classes {H : Type} : DataW H := .agg [.lit (.int .i64 16), .lit (.int .i64 64), .lit (.int .i64 256)]

/-- 'sealchainlaw07.PadPads': WHATEVER THE INPUT: true; the input reads as it did. -/
def padPadsSpec : ChangeSpec := { name := "padPads", fn := fun _ => fun
  | [d1, d2, d3] => { results := [.lit (.bool true)], args := [d1, d2, d3] }
  | _ => none }
def padPadsRow : OpenClaim := { program := "ytklegcedpknpdaadoor", sum := "571a5a534df5e1347bb154b82d650d90a7f9ab337297a71aa303087e0ca0d1b7", func := "sealchain/sealchainlaw07.PadPads", spec := "padPads", named := ["sealchain/pad.classes"], apart := false, laid := [("sealchain/pad.classes", laid_sealchain_pad_classes)] }
def PadPadsSaid : Prop := padPadsRow.holds Tryd.pinned (OpenSpec.ofChange padPadsSpec)

/-- ITS FALSE NEIGHBOUR: 'it returns false'. Refute it at one input. -/
def padPadsWrong : ChangeSpec := { name := "padPads", fn := fun _ => fun
  | [d1, d2, d3] => { results := [.lit (.bool false)], args := [d1, d2, d3] }
  | _ => none }
def PadPadsWrongFalsely : Prop := padPadsRow.holds Tryd.pinned (OpenSpec.ofChange padPadsWrong)

/-- 'sealchainlaw07.PadOpens': WHATEVER THE INPUT: true; the input reads as it did. -/
def padOpensSpec : ChangeSpec := { name := "padOpens", fn := fun _ => fun
  | [d] => { results := [.lit (.bool true)], args := [d] }
  | _ => none }
def padOpensRow : OpenClaim := { program := "ytklegcedpknpdaadoor", sum := "571a5a534df5e1347bb154b82d650d90a7f9ab337297a71aa303087e0ca0d1b7", func := "sealchain/sealchainlaw07.PadOpens", spec := "padOpens", named := ["sealchain/pad.classes"], apart := false, laid := [("sealchain/pad.classes", laid_sealchain_pad_classes)] }
def PadOpensSaid : Prop := padOpensRow.holds Tryd.pinned (OpenSpec.ofChange padOpensSpec)

/-- ITS FALSE NEIGHBOUR: 'it returns false'. Refute it at one input. -/
def padOpensWrong : ChangeSpec := { name := "padOpens", fn := fun _ => fun
  | [d] => { results := [.lit (.bool false)], args := [d] }
  | _ => none }
def PadOpensWrongFalsely : Prop := padOpensRow.holds Tryd.pinned (OpenSpec.ofChange padOpensWrong)

/-- 'sealchainlaw07.PadBack': WHATEVER THE INPUT: true; the input reads as it did. -/
def padBackSpec : ChangeSpec := { name := "padBack", fn := fun _ => fun
  | [d1, d2] => { results := [.lit (.bool true)], args := [d1, d2] }
  | _ => none }
def padBackRow : OpenClaim := { program := "ytklegcedpknpdaadoor", sum := "571a5a534df5e1347bb154b82d650d90a7f9ab337297a71aa303087e0ca0d1b7", func := "sealchain/sealchainlaw07.PadBack", spec := "padBack", named := ["sealchain/pad.classes"], apart := false, laid := [("sealchain/pad.classes", laid_sealchain_pad_classes)] }
def PadBackSaid : Prop := padBackRow.holds Tryd.pinned (OpenSpec.ofChange padBackSpec)

/-- ITS FALSE NEIGHBOUR: 'it returns false'. Refute it at one input. -/
def padBackWrong : ChangeSpec := { name := "padBack", fn := fun _ => fun
  | [d1, d2] => { results := [.lit (.bool false)], args := [d1, d2] }
  | _ => none }
def PadBackWrongFalsely : Prop := padBackRow.holds Tryd.pinned (OpenSpec.ofChange padBackWrong)

/-- 'sealchainlaw07.PadAlike': WHATEVER THE INPUT: true; the input reads as it did. -/
def padAlikeSpec : ChangeSpec := { name := "padAlike", fn := fun _ => fun
  | [d1, d2, d3] => { results := [.lit (.bool true)], args := [d1, d2, d3] }
  | _ => none }
def padAlikeRow : OpenClaim := { program := "ytklegcedpknpdaadoor", sum := "571a5a534df5e1347bb154b82d650d90a7f9ab337297a71aa303087e0ca0d1b7", func := "sealchain/sealchainlaw07.PadAlike", spec := "padAlike", named := ["sealchain/pad.classes"], apart := false, laid := [("sealchain/pad.classes", laid_sealchain_pad_classes)] }
def PadAlikeSaid : Prop := padAlikeRow.holds Tryd.pinned (OpenSpec.ofChange padAlikeSpec)

/-- ITS FALSE NEIGHBOUR: 'it returns false'. Refute it at one input. -/
def padAlikeWrong : ChangeSpec := { name := "padAlike", fn := fun _ => fun
  | [d1, d2, d3] => { results := [.lit (.bool false)], args := [d1, d2, d3] }
  | _ => none }
def PadAlikeWrongFalsely : Prop := padAlikeRow.holds Tryd.pinned (OpenSpec.ofChange padAlikeWrong)

/-- 'sealchainlaw07.PadAgain': WHATEVER THE INPUT: true; the input reads as it did. -/
def padAgainSpec : ChangeSpec := { name := "padAgain", fn := fun _ => fun
  | [d] => { results := [.lit (.bool true)], args := [d] }
  | _ => none }
def padAgainRow : OpenClaim := { program := "ytklegcedpknpdaadoor", sum := "571a5a534df5e1347bb154b82d650d90a7f9ab337297a71aa303087e0ca0d1b7", func := "sealchain/sealchainlaw07.PadAgain", spec := "padAgain", named := ["sealchain/pad.classes"], apart := false, laid := [("sealchain/pad.classes", laid_sealchain_pad_classes)] }
def PadAgainSaid : Prop := padAgainRow.holds Tryd.pinned (OpenSpec.ofChange padAgainSpec)

/-- ITS FALSE NEIGHBOUR: 'it returns false'. Refute it at one input. -/
def padAgainWrong : ChangeSpec := { name := "padAgain", fn := fun _ => fun
  | [d] => { results := [.lit (.bool false)], args := [d] }
  | _ => none }
def PadAgainWrongFalsely : Prop := padAgainRow.holds Tryd.pinned (OpenSpec.ofChange padAgainWrong)

/-- 'sealchainlaw07.PadTurned': WHATEVER THE INPUT: true; the input reads as it did. -/
def padTurnedSpec : ChangeSpec := { name := "padTurned", fn := fun _ => fun
  | [d1, d2, d3] => { results := [.lit (.bool true)], args := [d1, d2, d3] }
  | _ => none }
def padTurnedRow : OpenClaim := { program := "ytklegcedpknpdaadoor", sum := "571a5a534df5e1347bb154b82d650d90a7f9ab337297a71aa303087e0ca0d1b7", func := "sealchain/sealchainlaw07.PadTurned", spec := "padTurned", named := ["sealchain/pad.classes"], apart := false, laid := [("sealchain/pad.classes", laid_sealchain_pad_classes)] }
def PadTurnedSaid : Prop := padTurnedRow.holds Tryd.pinned (OpenSpec.ofChange padTurnedSpec)

/-- ITS FALSE NEIGHBOUR: 'it returns false'. Refute it at one input. -/
def padTurnedWrong : ChangeSpec := { name := "padTurned", fn := fun _ => fun
  | [d1, d2, d3] => { results := [.lit (.bool false)], args := [d1, d2, d3] }
  | _ => none }
def PadTurnedWrongFalsely : Prop := padTurnedRow.holds Tryd.pinned (OpenSpec.ofChange padTurnedWrong)

/-- 'sealchainlaw07.PadKnown': WHATEVER THE INPUT: true; the input reads as it did. -/
def padKnownSpec : ChangeSpec := { name := "padKnown", fn := fun _ => fun
  | [] => { results := [.lit (.bool true)], args := [] }
  | _ => none }
def padKnownRow : OpenClaim := { program := "ytklegcedpknpdaadoor", sum := "571a5a534df5e1347bb154b82d650d90a7f9ab337297a71aa303087e0ca0d1b7", func := "sealchain/sealchainlaw07.PadKnown", spec := "padKnown", named := ["sealchain/pad.classes"], apart := false, laid := [("sealchain/pad.classes", laid_sealchain_pad_classes)] }
def PadKnownSaid : Prop := padKnownRow.holds Tryd.pinned (OpenSpec.ofChange padKnownSpec)

/-- ITS FALSE NEIGHBOUR: 'it returns false'. Refute it at one input. -/
def padKnownWrong : ChangeSpec := { name := "padKnown", fn := fun _ => fun
  | [] => { results := [.lit (.bool false)], args := [] }
  | _ => none }
def PadKnownWrongFalsely : Prop := padKnownRow.holds Tryd.pinned (OpenSpec.ofChange padKnownWrong)

/- THE SECOND FORM. 'bulk': how many values and letters a reading holds, each counted each time it is reached (what is shared counts as often as it is met; a slice's spare places count too). A statement '..UptoSaid' is the law's where the arguments, and the package variables that the reading takes, are together of bulk at most 1048576: NARROWER than '..Said'. Prove '..Said' where nothing that the law and all that it calls make is longer than what came in: it says more and counts as full. Else prove '..UptoSaid'. A law counts once. -/
mutual
def uptoBulk {H : Type} : DataW H → Nat
  | .lit (.string bytes) => bytes.length + 1
  | .lit _ => 1
  | .nil => 1
  | .ptr d => uptoBulk d + 1
  | .slice elems spare => uptoBulkAll elems + uptoBulkAll spare + 1
  | .agg parts => uptoBulkAll parts + 1
  | .iface _ d => uptoBulk d + 1
  | .map entries => uptoBulkEntries entries + 1
  | .held _ => 1
def uptoBulkAll {H : Type} : List (DataW H) → Nat
  | [] => 0
  | d :: r => uptoBulk d + uptoBulkAll r
def uptoBulkEntries {H : Type} : List (Lit × DataW H) → Nat
  | [] => 0
  | x :: r => uptoBulkEntry x + uptoBulkEntries r
def uptoBulkEntry {H : Type} : Lit × DataW H → Nat
  | (.string bytes, d) => bytes.length + uptoBulk d + 1
  | (_, d) => uptoBulk d + 1
 end
def uptoSmall : (H : Type) → List (DataW H) → Bool := fun _ ds => decide (uptoBulkAll ds ≤ 1048576)
def OpenSpec.upto (s : _root_.Go.ChangeSpec) : _root_.Go.OpenSpec := { _root_.Go.OpenSpec.ofChange s with cond := some uptoSmall }

/-- 'sealchainlaw07.PadPads', WHERE WHAT IT READS IS OF BULK AT MOST 1048576: true; the input reads as it did. -/
def padPadsUptoRow : OpenClaim := { program := "ytklegcedpknpdaadoor", sum := "571a5a534df5e1347bb154b82d650d90a7f9ab337297a71aa303087e0ca0d1b7", func := "sealchain/sealchainlaw07.PadPads", spec := "padPads", named := ["sealchain/pad.classes"], apart := false, laid := [("sealchain/pad.classes", laid_sealchain_pad_classes)], narrowed := true }
def PadPadsUptoSaid : Prop := padPadsUptoRow.holds Tryd.pinned (OpenSpec.upto padPadsSpec)

/-- 'sealchainlaw07.PadOpens', WHERE WHAT IT READS IS OF BULK AT MOST 1048576: true; the input reads as it did. -/
def padOpensUptoRow : OpenClaim := { program := "ytklegcedpknpdaadoor", sum := "571a5a534df5e1347bb154b82d650d90a7f9ab337297a71aa303087e0ca0d1b7", func := "sealchain/sealchainlaw07.PadOpens", spec := "padOpens", named := ["sealchain/pad.classes"], apart := false, laid := [("sealchain/pad.classes", laid_sealchain_pad_classes)], narrowed := true }
def PadOpensUptoSaid : Prop := padOpensUptoRow.holds Tryd.pinned (OpenSpec.upto padOpensSpec)

/-- 'sealchainlaw07.PadBack', WHERE WHAT IT READS IS OF BULK AT MOST 1048576: true; the input reads as it did. -/
def padBackUptoRow : OpenClaim := { program := "ytklegcedpknpdaadoor", sum := "571a5a534df5e1347bb154b82d650d90a7f9ab337297a71aa303087e0ca0d1b7", func := "sealchain/sealchainlaw07.PadBack", spec := "padBack", named := ["sealchain/pad.classes"], apart := false, laid := [("sealchain/pad.classes", laid_sealchain_pad_classes)], narrowed := true }
def PadBackUptoSaid : Prop := padBackUptoRow.holds Tryd.pinned (OpenSpec.upto padBackSpec)

/-- 'sealchainlaw07.PadAlike', WHERE WHAT IT READS IS OF BULK AT MOST 1048576: true; the input reads as it did. -/
def padAlikeUptoRow : OpenClaim := { program := "ytklegcedpknpdaadoor", sum := "571a5a534df5e1347bb154b82d650d90a7f9ab337297a71aa303087e0ca0d1b7", func := "sealchain/sealchainlaw07.PadAlike", spec := "padAlike", named := ["sealchain/pad.classes"], apart := false, laid := [("sealchain/pad.classes", laid_sealchain_pad_classes)], narrowed := true }
def PadAlikeUptoSaid : Prop := padAlikeUptoRow.holds Tryd.pinned (OpenSpec.upto padAlikeSpec)

/-- 'sealchainlaw07.PadAgain', WHERE WHAT IT READS IS OF BULK AT MOST 1048576: true; the input reads as it did. -/
def padAgainUptoRow : OpenClaim := { program := "ytklegcedpknpdaadoor", sum := "571a5a534df5e1347bb154b82d650d90a7f9ab337297a71aa303087e0ca0d1b7", func := "sealchain/sealchainlaw07.PadAgain", spec := "padAgain", named := ["sealchain/pad.classes"], apart := false, laid := [("sealchain/pad.classes", laid_sealchain_pad_classes)], narrowed := true }
def PadAgainUptoSaid : Prop := padAgainUptoRow.holds Tryd.pinned (OpenSpec.upto padAgainSpec)

/-- 'sealchainlaw07.PadTurned', WHERE WHAT IT READS IS OF BULK AT MOST 1048576: true; the input reads as it did. -/
def padTurnedUptoRow : OpenClaim := { program := "ytklegcedpknpdaadoor", sum := "571a5a534df5e1347bb154b82d650d90a7f9ab337297a71aa303087e0ca0d1b7", func := "sealchain/sealchainlaw07.PadTurned", spec := "padTurned", named := ["sealchain/pad.classes"], apart := false, laid := [("sealchain/pad.classes", laid_sealchain_pad_classes)], narrowed := true }
def PadTurnedUptoSaid : Prop := padTurnedUptoRow.holds Tryd.pinned (OpenSpec.upto padTurnedSpec)

/-- 'sealchainlaw07.PadKnown', WHERE WHAT IT READS IS OF BULK AT MOST 1048576: true; the input reads as it did. -/
def padKnownUptoRow : OpenClaim := { program := "ytklegcedpknpdaadoor", sum := "571a5a534df5e1347bb154b82d650d90a7f9ab337297a71aa303087e0ca0d1b7", func := "sealchain/sealchainlaw07.PadKnown", spec := "padKnown", named := ["sealchain/pad.classes"], apart := false, laid := [("sealchain/pad.classes", laid_sealchain_pad_classes)], narrowed := true }
def PadKnownUptoSaid : Prop := padKnownUptoRow.holds Tryd.pinned (OpenSpec.upto padKnownSpec)

end Rows
end Go.Proofs.YtklegcedpknpdaaDoor
