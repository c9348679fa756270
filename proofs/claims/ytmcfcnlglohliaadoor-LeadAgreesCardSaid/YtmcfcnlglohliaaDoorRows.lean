/-
  NARROWER THAN 'FOR EVERY INPUT', by the rows' own cells (each row's printed sentence says how): LeadBinds: laid · LeadBallots: laid · LeadCounts: laid · LeadPlays: laid · LeadAgrees: laid · LeadNames: laid.
  DERIVED. THE GIVEN ROWS OF THIS SEAT. 6 by the template 'for every input the law returns true; each argument reads behind the call as it read before'; 0 by the template 'total and deterministic' (their statements: YtmcfcnlglohliaaDoorTotals.lean).
  GIVEN WITH THE SEED: the statements are not yours to turn. If you find one false, say at which input.
  Laid BY PROGRAM, IN A SANDBOX (cutbox-rows.mjs): the forced cells as the released guide's own fill.sh prints them over the translation 42873ea5806ffdf2… (all of the seat's roots in one cut). By AI agents, Wed Nov 11 2026. No macro, syntax, notation, axiom, sorry.
-/
import Derived.Test.YtmcfcnlglohliaaDoorChecked
import GoSem.Claim
import GoSem.ClaimJoined
import GoSem.ClaimMapViews
import Derived.JoinedTies
import Derived.KernelRfl
namespace Go.Proofs.YtmcfcnlglohliaaDoor
/- THE CELL 'sum', in the pinned program and in every row, IS THE sha256 OF THE DUMP (.gsa) THAT YtmcfcnlglohliaaDoorProg.lean LOADS. Nothing in Lean hashes anything: it is a label: what it is worth is what the hold of that sum in a sandbox is worth. -/
noncomputable def Tryd.pinned : Pinned := { name := "ytmcfcnlglohliaadoor", sum := "42873ea5806ffdf27f5254f34930a1b58d5c7249ec6c8e22273a76f754510fac", checked := Tryd.checked }
namespace Rows
def none {H : Type} : Left H := { results := [], args := [] }

/- WHAT THE LISTED PACKAGE-LEVEL VARIABLES READ AS WHEN THE CALL BEGINS. Each datum BY PROGRAM (the guide's laid-datum.mjs) off the statement by which the dump's own 'gosem.cut.vars' lays the variable. In a bare row this is a premise. The card (YtmcfcnlglohliaaDoorCards.lean) ties it to the program's text. -/
def laid_math_bits_deBruijn32tab {H : Type} : DataW H := .agg [.lit (.int .u8 0), .lit (.int .u8 1), .lit (.int .u8 28), .lit (.int .u8 2), .lit (.int .u8 29), .lit (.int .u8 14), .lit (.int .u8 24), .lit (.int .u8 3), .lit (.int .u8 30), .lit (.int .u8 22), .lit (.int .u8 20), .lit (.int .u8 15), .lit (.int .u8 25), .lit (.int .u8 17), .lit (.int .u8 4), .lit (.int .u8 8), .lit (.int .u8 31), .lit (.int .u8 27), .lit (.int .u8 13), .lit (.int .u8 23), .lit (.int .u8 21), .lit (.int .u8 19), .lit (.int .u8 16), .lit (.int .u8 7), .lit (.int .u8 26), .lit (.int .u8 12), .lit (.int .u8 18), .lit (.int .u8 6), .lit (.int .u8 11), .lit (.int .u8 5), .lit (.int .u8 10), .lit (.int .u8 9)]
def laid_math_bits_deBruijn64tab {H : Type} : DataW H := .agg [.lit (.int .u8 0), .lit (.int .u8 1), .lit (.int .u8 56), .lit (.int .u8 2), .lit (.int .u8 57), .lit (.int .u8 49), .lit (.int .u8 28), .lit (.int .u8 3), .lit (.int .u8 61), .lit (.int .u8 58), .lit (.int .u8 42), .lit (.int .u8 50), .lit (.int .u8 38), .lit (.int .u8 29), .lit (.int .u8 17), .lit (.int .u8 4), .lit (.int .u8 62), .lit (.int .u8 47), .lit (.int .u8 59), .lit (.int .u8 36), .lit (.int .u8 45), .lit (.int .u8 43), .lit (.int .u8 51), .lit (.int .u8 22), .lit (.int .u8 53), .lit (.int .u8 39), .lit (.int .u8 33), .lit (.int .u8 30), .lit (.int .u8 24), .lit (.int .u8 18), .lit (.int .u8 12), .lit (.int .u8 5), .lit (.int .u8 63), .lit (.int .u8 55), .lit (.int .u8 48), .lit (.int .u8 27), .lit (.int .u8 60), .lit (.int .u8 41), .lit (.int .u8 37), .lit (.int .u8 16), .lit (.int .u8 46), .lit (.int .u8 35), .lit (.int .u8 44), .lit (.int .u8 21), .lit (.int .u8 52), .lit (.int .u8 32), .lit (.int .u8 23), .lit (.int .u8 11), .lit (.int .u8 54), .lit (.int .u8 26), .lit (.int .u8 40), .lit (.int .u8 15), .lit (.int .u8 34), .lit (.int .u8 20), .lit (.int .u8 31), .lit (.int .u8 10), .lit (.int .u8 25), .lit (.int .u8 14), .lit (.int .u8 19), .lit (.int .u8 9), .lit (.int .u8 13), .lit (.int .u8 8), .lit (.int .u8 7), .lit (.int .u8 6)]

/-- 'sealchainlaw16.LeadBinds': WHATEVER THE INPUT: true; the input reads as it did. -/
def leadBindsSpec : ChangeSpec := { name := "leadBinds", fn := fun _ => fun
  | [d1, d2, d3] => { results := [.lit (.bool true)], args := [d1, d2, d3] }
  | _ => none }
def leadBindsRow : OpenClaim := { program := "ytmcfcnlglohliaadoor", sum := "42873ea5806ffdf27f5254f34930a1b58d5c7249ec6c8e22273a76f754510fac", func := "sealchain/sealchainlaw16.LeadBinds", spec := "leadBinds", unfollowed := true, recurses := true, named := ["math/bits.deBruijn32tab", "math/bits.deBruijn64tab"], apart := false, laid := [("math/bits.deBruijn32tab", laid_math_bits_deBruijn32tab), ("math/bits.deBruijn64tab", laid_math_bits_deBruijn64tab)] }
def LeadBindsSaid : Prop := leadBindsRow.holds Tryd.pinned (OpenSpec.ofChange leadBindsSpec)

/-- ITS FALSE NEIGHBOUR: 'it returns false'. Refute it at one input. -/
def leadBindsWrong : ChangeSpec := { name := "leadBinds", fn := fun _ => fun
  | [d1, d2, d3] => { results := [.lit (.bool false)], args := [d1, d2, d3] }
  | _ => none }
def LeadBindsWrongFalsely : Prop := leadBindsRow.holds Tryd.pinned (OpenSpec.ofChange leadBindsWrong)

/-- 'sealchainlaw16.LeadBallots': WHATEVER THE INPUT: true; the input reads as it did. -/
def leadBallotsSpec : ChangeSpec := { name := "leadBallots", fn := fun _ => fun
  | [d] => { results := [.lit (.bool true)], args := [d] }
  | _ => none }
def leadBallotsRow : OpenClaim := { program := "ytmcfcnlglohliaadoor", sum := "42873ea5806ffdf27f5254f34930a1b58d5c7249ec6c8e22273a76f754510fac", func := "sealchain/sealchainlaw16.LeadBallots", spec := "leadBallots", unfollowed := true, recurses := true, named := ["math/bits.deBruijn32tab", "math/bits.deBruijn64tab"], apart := false, laid := [("math/bits.deBruijn32tab", laid_math_bits_deBruijn32tab), ("math/bits.deBruijn64tab", laid_math_bits_deBruijn64tab)] }
def LeadBallotsSaid : Prop := leadBallotsRow.holds Tryd.pinned (OpenSpec.ofChange leadBallotsSpec)

/-- ITS FALSE NEIGHBOUR: 'it returns false'. Refute it at one input. -/
def leadBallotsWrong : ChangeSpec := { name := "leadBallots", fn := fun _ => fun
  | [d] => { results := [.lit (.bool false)], args := [d] }
  | _ => none }
def LeadBallotsWrongFalsely : Prop := leadBallotsRow.holds Tryd.pinned (OpenSpec.ofChange leadBallotsWrong)

/-- 'sealchainlaw16.LeadCounts': WHATEVER THE INPUT: true; the input reads as it did. -/
def leadCountsSpec : ChangeSpec := { name := "leadCounts", fn := fun _ => fun
  | [d1, d2, d3] => { results := [.lit (.bool true)], args := [d1, d2, d3] }
  | _ => none }
def leadCountsRow : OpenClaim := { program := "ytmcfcnlglohliaadoor", sum := "42873ea5806ffdf27f5254f34930a1b58d5c7249ec6c8e22273a76f754510fac", func := "sealchain/sealchainlaw16.LeadCounts", spec := "leadCounts", unfollowed := true, recurses := true, named := ["math/bits.deBruijn32tab", "math/bits.deBruijn64tab"], apart := false, laid := [("math/bits.deBruijn32tab", laid_math_bits_deBruijn32tab), ("math/bits.deBruijn64tab", laid_math_bits_deBruijn64tab)] }
def LeadCountsSaid : Prop := leadCountsRow.holds Tryd.pinned (OpenSpec.ofChange leadCountsSpec)

/-- ITS FALSE NEIGHBOUR: 'it returns false'. Refute it at one input. -/
def leadCountsWrong : ChangeSpec := { name := "leadCounts", fn := fun _ => fun
  | [d1, d2, d3] => { results := [.lit (.bool false)], args := [d1, d2, d3] }
  | _ => none }
def LeadCountsWrongFalsely : Prop := leadCountsRow.holds Tryd.pinned (OpenSpec.ofChange leadCountsWrong)

/-- 'sealchainlaw16.LeadPlays': WHATEVER THE INPUT: true; the input reads as it did. -/
def leadPlaysSpec : ChangeSpec := { name := "leadPlays", fn := fun _ => fun
  | [d1, d2] => { results := [.lit (.bool true)], args := [d1, d2] }
  | _ => none }
def leadPlaysRow : OpenClaim := { program := "ytmcfcnlglohliaadoor", sum := "42873ea5806ffdf27f5254f34930a1b58d5c7249ec6c8e22273a76f754510fac", func := "sealchain/sealchainlaw16.LeadPlays", spec := "leadPlays", unfollowed := true, recurses := true, named := ["math/bits.deBruijn32tab", "math/bits.deBruijn64tab"], apart := false, laid := [("math/bits.deBruijn32tab", laid_math_bits_deBruijn32tab), ("math/bits.deBruijn64tab", laid_math_bits_deBruijn64tab)] }
def LeadPlaysSaid : Prop := leadPlaysRow.holds Tryd.pinned (OpenSpec.ofChange leadPlaysSpec)

/-- ITS FALSE NEIGHBOUR: 'it returns false'. Refute it at one input. -/
def leadPlaysWrong : ChangeSpec := { name := "leadPlays", fn := fun _ => fun
  | [d1, d2] => { results := [.lit (.bool false)], args := [d1, d2] }
  | _ => none }
def LeadPlaysWrongFalsely : Prop := leadPlaysRow.holds Tryd.pinned (OpenSpec.ofChange leadPlaysWrong)

/-- 'sealchainlaw16.LeadAgrees': WHATEVER THE INPUT: true; the input reads as it did. -/
def leadAgreesSpec : ChangeSpec := { name := "leadAgrees", fn := fun _ => fun
  | [d] => { results := [.lit (.bool true)], args := [d] }
  | _ => none }
def leadAgreesRow : OpenClaim := { program := "ytmcfcnlglohliaadoor", sum := "42873ea5806ffdf27f5254f34930a1b58d5c7249ec6c8e22273a76f754510fac", func := "sealchain/sealchainlaw16.LeadAgrees", spec := "leadAgrees", unfollowed := true, recurses := true, named := ["math/bits.deBruijn32tab", "math/bits.deBruijn64tab"], apart := false, laid := [("math/bits.deBruijn32tab", laid_math_bits_deBruijn32tab), ("math/bits.deBruijn64tab", laid_math_bits_deBruijn64tab)] }
def LeadAgreesSaid : Prop := leadAgreesRow.holds Tryd.pinned (OpenSpec.ofChange leadAgreesSpec)

/-- ITS FALSE NEIGHBOUR: 'it returns false'. Refute it at one input. -/
def leadAgreesWrong : ChangeSpec := { name := "leadAgrees", fn := fun _ => fun
  | [d] => { results := [.lit (.bool false)], args := [d] }
  | _ => none }
def LeadAgreesWrongFalsely : Prop := leadAgreesRow.holds Tryd.pinned (OpenSpec.ofChange leadAgreesWrong)

/-- 'sealchainlaw16.LeadNames': WHATEVER THE INPUT: true; the input reads as it did. -/
def leadNamesSpec : ChangeSpec := { name := "leadNames", fn := fun _ => fun
  | [] => { results := [.lit (.bool true)], args := [] }
  | _ => none }
def leadNamesRow : OpenClaim := { program := "ytmcfcnlglohliaadoor", sum := "42873ea5806ffdf27f5254f34930a1b58d5c7249ec6c8e22273a76f754510fac", func := "sealchain/sealchainlaw16.LeadNames", spec := "leadNames", unfollowed := true, recurses := true, named := ["math/bits.deBruijn32tab", "math/bits.deBruijn64tab"], apart := false, laid := [("math/bits.deBruijn32tab", laid_math_bits_deBruijn32tab), ("math/bits.deBruijn64tab", laid_math_bits_deBruijn64tab)] }
def LeadNamesSaid : Prop := leadNamesRow.holds Tryd.pinned (OpenSpec.ofChange leadNamesSpec)

/-- ITS FALSE NEIGHBOUR: 'it returns false'. Refute it at one input. -/
def leadNamesWrong : ChangeSpec := { name := "leadNames", fn := fun _ => fun
  | [] => { results := [.lit (.bool false)], args := [] }
  | _ => none }
def LeadNamesWrongFalsely : Prop := leadNamesRow.holds Tryd.pinned (OpenSpec.ofChange leadNamesWrong)

/- THE SECOND FORM. 'bulk': how many values and letters a reading holds, each counted each time it is reached (what is shared counts as often as it is met; a slice's spare places count too). A statement '..UptoSaid' is the law's where the arguments, and the package variables that the reading takes, are together of bulk at most 1048576: NARROWER than '..Said'. Prove '..Said' where nothing that the law and all that it calls make is longer than what came in: it says more and counts as full. Else prove '..UptoSaid'. A law counts once. -/
mutual
def uptoBulk {H : Type} : DataW H → Nat
  | .lit (.string bytes) => bytes.length + 1
  | .lit _ => 1
  | .nil => 1
  | .ptr d => uptoBulk d + 1
  | .slice elems spare => uptoBulkAll elems + uptoBulkAll spare + 1
  | .agg parts => uptoBulkAll parts + 1
  | .iface _ d => uptoBulk d + 1
  | .map entries => uptoBulkEntries entries + 1
  | .held _ => 1
def uptoBulkAll {H : Type} : List (DataW H) → Nat
  | [] => 0
  | d :: r => uptoBulk d + uptoBulkAll r
def uptoBulkEntries {H : Type} : List (Lit × DataW H) → Nat
  | [] => 0
  | x :: r => uptoBulkEntry x + uptoBulkEntries r
def uptoBulkEntry {H : Type} : Lit × DataW H → Nat
  | (.string bytes, d) => bytes.length + uptoBulk d + 1
  | (_, d) => uptoBulk d + 1
 end
def uptoSmall : (H : Type) → List (DataW H) → Bool := fun _ ds => decide (uptoBulkAll ds ≤ 1048576)
def OpenSpec.upto (s : _root_.Go.ChangeSpec) : _root_.Go.OpenSpec := { _root_.Go.OpenSpec.ofChange s with cond := some uptoSmall }

/-- 'sealchainlaw16.LeadBinds', WHERE WHAT IT READS IS OF BULK AT MOST 1048576: true; the input reads as it did. -/
def leadBindsUptoRow : OpenClaim := { program := "ytmcfcnlglohliaadoor", sum := "42873ea5806ffdf27f5254f34930a1b58d5c7249ec6c8e22273a76f754510fac", func := "sealchain/sealchainlaw16.LeadBinds", spec := "leadBinds", unfollowed := true, recurses := true, named := ["math/bits.deBruijn32tab", "math/bits.deBruijn64tab"], apart := false, laid := [("math/bits.deBruijn32tab", laid_math_bits_deBruijn32tab), ("math/bits.deBruijn64tab", laid_math_bits_deBruijn64tab)], narrowed := true }
def LeadBindsUptoSaid : Prop := leadBindsUptoRow.holds Tryd.pinned (OpenSpec.upto leadBindsSpec)

/-- 'sealchainlaw16.LeadBallots', WHERE WHAT IT READS IS OF BULK AT MOST 1048576: true; the input reads as it did. -/
def leadBallotsUptoRow : OpenClaim := { program := "ytmcfcnlglohliaadoor", sum := "42873ea5806ffdf27f5254f34930a1b58d5c7249ec6c8e22273a76f754510fac", func := "sealchain/sealchainlaw16.LeadBallots", spec := "leadBallots", unfollowed := true, recurses := true, named := ["math/bits.deBruijn32tab", "math/bits.deBruijn64tab"], apart := false, laid := [("math/bits.deBruijn32tab", laid_math_bits_deBruijn32tab), ("math/bits.deBruijn64tab", laid_math_bits_deBruijn64tab)], narrowed := true }
def LeadBallotsUptoSaid : Prop := leadBallotsUptoRow.holds Tryd.pinned (OpenSpec.upto leadBallotsSpec)

/-- 'sealchainlaw16.LeadCounts', WHERE WHAT IT READS IS OF BULK AT MOST 1048576: true; the input reads as it did. -/
def leadCountsUptoRow : OpenClaim := { program := "ytmcfcnlglohliaadoor", sum := "42873ea5806ffdf27f5254f34930a1b58d5c7249ec6c8e22273a76f754510fac", func := "sealchain/sealchainlaw16.LeadCounts", spec := "leadCounts", unfollowed := true, recurses := true, named := ["math/bits.deBruijn32tab", "math/bits.deBruijn64tab"], apart := false, laid := [("math/bits.deBruijn32tab", laid_math_bits_deBruijn32tab), ("math/bits.deBruijn64tab", laid_math_bits_deBruijn64tab)], narrowed := true }
def LeadCountsUptoSaid : Prop := leadCountsUptoRow.holds Tryd.pinned (OpenSpec.upto leadCountsSpec)

/-- 'sealchainlaw16.LeadPlays', WHERE WHAT IT READS IS OF BULK AT MOST 1048576: true; the input reads as it did. -/
def leadPlaysUptoRow : OpenClaim := { program := "ytmcfcnlglohliaadoor", sum := "42873ea5806ffdf27f5254f34930a1b58d5c7249ec6c8e22273a76f754510fac", func := "sealchain/sealchainlaw16.LeadPlays", spec := "leadPlays", unfollowed := true, recurses := true, named := ["math/bits.deBruijn32tab", "math/bits.deBruijn64tab"], apart := false, laid := [("math/bits.deBruijn32tab", laid_math_bits_deBruijn32tab), ("math/bits.deBruijn64tab", laid_math_bits_deBruijn64tab)], narrowed := true }
def LeadPlaysUptoSaid : Prop := leadPlaysUptoRow.holds Tryd.pinned (OpenSpec.upto leadPlaysSpec)

/-- 'sealchainlaw16.LeadAgrees', WHERE WHAT IT READS IS OF BULK AT MOST 1048576: true; the input reads as it did. -/
def leadAgreesUptoRow : OpenClaim := { program := "ytmcfcnlglohliaadoor", sum := "42873ea5806ffdf27f5254f34930a1b58d5c7249ec6c8e22273a76f754510fac", func := "sealchain/sealchainlaw16.LeadAgrees", spec := "leadAgrees", unfollowed := true, recurses := true, named := ["math/bits.deBruijn32tab", "math/bits.deBruijn64tab"], apart := false, laid := [("math/bits.deBruijn32tab", laid_math_bits_deBruijn32tab), ("math/bits.deBruijn64tab", laid_math_bits_deBruijn64tab)], narrowed := true }
def LeadAgreesUptoSaid : Prop := leadAgreesUptoRow.holds Tryd.pinned (OpenSpec.upto leadAgreesSpec)

/-- 'sealchainlaw16.LeadNames', WHERE WHAT IT READS IS OF BULK AT MOST 1048576: true; the input reads as it did. -/
def leadNamesUptoRow : OpenClaim := { program := "ytmcfcnlglohliaadoor", sum := "42873ea5806ffdf27f5254f34930a1b58d5c7249ec6c8e22273a76f754510fac", func := "sealchain/sealchainlaw16.LeadNames", spec := "leadNames", unfollowed := true, recurses := true, named := ["math/bits.deBruijn32tab", "math/bits.deBruijn64tab"], apart := false, laid := [("math/bits.deBruijn32tab", laid_math_bits_deBruijn32tab), ("math/bits.deBruijn64tab", laid_math_bits_deBruijn64tab)], narrowed := true }
def LeadNamesUptoSaid : Prop := leadNamesUptoRow.holds Tryd.pinned (OpenSpec.upto leadNamesSpec)

end Rows
end Go.Proofs.YtmcfcnlglohliaaDoor
