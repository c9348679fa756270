/-
  DERIVED. GIVEN WITH THE SEED: THE CARDS: each row of YtmcfcnlglohliaaDoorRows.lean that lists a variable, with what it lists TIED to the program's text (the seventh form; the later family's looks); each row that meets fmt, with fmt's text TOLD by the authors' own Lean function (tested against real Go, not proved from fmt's source: count such statements apart). THE CARD IS WHAT COUNTS. Prove the row's statement (the work); the ties are given (YtmcfcnlglohliaaDoorTie.lean); close each card by the builder's one call (the guide's Derived/Test/ToyasCard.lean, 'card_holds'). Laid BY PROGRAM, IN A SANDBOX (cutbox-door.mjs). By AI agents, Wed Nov 11 2026. No macro, syntax, notation, axiom, sorry.
-/
import Derived.Test.YtmcfcnlglohliaaDoorRows
import GoSem.ClaimSeven
namespace Go.Proofs.YtmcfcnlglohliaaDoor
namespace Rows

/-- THE TIED CARD OF 'sealchainlaw16.LeadBinds'. -/
def leadBindsCard : Claim7 := { stood := { row := leadBindsRow, standIns := [], harness := (true, "97b39d53ad23f08eb3ec0357f3721250e6e253b27ba62ae43d980cea96696e75"), looks := false }, kinds := [], alts := [], laidByText := true, laidKinds := [.data, .data], laidTests := true, laidLooks := .later }
def LeadBindsCardSaid : Prop := Claim7.holds Tryd.pinned (.plain (OpenSpec.ofChange leadBindsSpec)) leadBindsCard

/-- THE TIED CARD OF 'sealchainlaw16.LeadBallots'. -/
def leadBallotsCard : Claim7 := { stood := { row := leadBallotsRow, standIns := [], harness := (true, "97b39d53ad23f08eb3ec0357f3721250e6e253b27ba62ae43d980cea96696e75"), looks := false }, kinds := [], alts := [], laidByText := true, laidKinds := [.data, .data], laidTests := true, laidLooks := .later }
def LeadBallotsCardSaid : Prop := Claim7.holds Tryd.pinned (.plain (OpenSpec.ofChange leadBallotsSpec)) leadBallotsCard

/-- THE TIED CARD OF 'sealchainlaw16.LeadCounts'. -/
def leadCountsCard : Claim7 := { stood := { row := leadCountsRow, standIns := [], harness := (true, "97b39d53ad23f08eb3ec0357f3721250e6e253b27ba62ae43d980cea96696e75"), looks := false }, kinds := [], alts := [], laidByText := true, laidKinds := [.data, .data], laidTests := true, laidLooks := .later }
def LeadCountsCardSaid : Prop := Claim7.holds Tryd.pinned (.plain (OpenSpec.ofChange leadCountsSpec)) leadCountsCard

/-- THE TIED CARD OF 'sealchainlaw16.LeadPlays'. -/
def leadPlaysCard : Claim7 := { stood := { row := leadPlaysRow, standIns := [], harness := (true, "97b39d53ad23f08eb3ec0357f3721250e6e253b27ba62ae43d980cea96696e75"), looks := false }, kinds := [], alts := [], laidByText := true, laidKinds := [.data, .data], laidTests := true, laidLooks := .later }
def LeadPlaysCardSaid : Prop := Claim7.holds Tryd.pinned (.plain (OpenSpec.ofChange leadPlaysSpec)) leadPlaysCard

/-- THE TIED CARD OF 'sealchainlaw16.LeadAgrees'. -/
def leadAgreesCard : Claim7 := { stood := { row := leadAgreesRow, standIns := [], harness := (true, "97b39d53ad23f08eb3ec0357f3721250e6e253b27ba62ae43d980cea96696e75"), looks := false }, kinds := [], alts := [], laidByText := true, laidKinds := [.data, .data], laidTests := true, laidLooks := .later }
def LeadAgreesCardSaid : Prop := Claim7.holds Tryd.pinned (.plain (OpenSpec.ofChange leadAgreesSpec)) leadAgreesCard

/-- THE TIED CARD OF 'sealchainlaw16.LeadNames'. -/
def leadNamesCard : Claim7 := { stood := { row := leadNamesRow, standIns := [], harness := (true, "97b39d53ad23f08eb3ec0357f3721250e6e253b27ba62ae43d980cea96696e75"), looks := false }, kinds := [], alts := [], laidByText := true, laidKinds := [.data, .data], laidTests := true, laidLooks := .later }
def LeadNamesCardSaid : Prop := Claim7.holds Tryd.pinned (.plain (OpenSpec.ofChange leadNamesSpec)) leadNamesCard

/-- THE SECOND FORM's CARD OF 'sealchainlaw16.LeadBinds'. -/
def leadBindsUptoCard : Claim7 := { stood := { row := leadBindsUptoRow, standIns := [], harness := (true, "97b39d53ad23f08eb3ec0357f3721250e6e253b27ba62ae43d980cea96696e75"), looks := false }, kinds := [], alts := [], laidByText := true, laidKinds := [.data, .data], laidTests := true, laidLooks := .later }
def LeadBindsUptoCardSaid : Prop := Claim7.holds Tryd.pinned (.plain (OpenSpec.upto leadBindsSpec)) leadBindsUptoCard

/-- THE SECOND FORM's CARD OF 'sealchainlaw16.LeadBallots'. -/
def leadBallotsUptoCard : Claim7 := { stood := { row := leadBallotsUptoRow, standIns := [], harness := (true, "97b39d53ad23f08eb3ec0357f3721250e6e253b27ba62ae43d980cea96696e75"), looks := false }, kinds := [], alts := [], laidByText := true, laidKinds := [.data, .data], laidTests := true, laidLooks := .later }
def LeadBallotsUptoCardSaid : Prop := Claim7.holds Tryd.pinned (.plain (OpenSpec.upto leadBallotsSpec)) leadBallotsUptoCard

/-- THE SECOND FORM's CARD OF 'sealchainlaw16.LeadCounts'. -/
def leadCountsUptoCard : Claim7 := { stood := { row := leadCountsUptoRow, standIns := [], harness := (true, "97b39d53ad23f08eb3ec0357f3721250e6e253b27ba62ae43d980cea96696e75"), looks := false }, kinds := [], alts := [], laidByText := true, laidKinds := [.data, .data], laidTests := true, laidLooks := .later }
def LeadCountsUptoCardSaid : Prop := Claim7.holds Tryd.pinned (.plain (OpenSpec.upto leadCountsSpec)) leadCountsUptoCard

/-- THE SECOND FORM's CARD OF 'sealchainlaw16.LeadPlays'. -/
def leadPlaysUptoCard : Claim7 := { stood := { row := leadPlaysUptoRow, standIns := [], harness := (true, "97b39d53ad23f08eb3ec0357f3721250e6e253b27ba62ae43d980cea96696e75"), looks := false }, kinds := [], alts := [], laidByText := true, laidKinds := [.data, .data], laidTests := true, laidLooks := .later }
def LeadPlaysUptoCardSaid : Prop := Claim7.holds Tryd.pinned (.plain (OpenSpec.upto leadPlaysSpec)) leadPlaysUptoCard

/-- THE SECOND FORM's CARD OF 'sealchainlaw16.LeadAgrees'. -/
def leadAgreesUptoCard : Claim7 := { stood := { row := leadAgreesUptoRow, standIns := [], harness := (true, "97b39d53ad23f08eb3ec0357f3721250e6e253b27ba62ae43d980cea96696e75"), looks := false }, kinds := [], alts := [], laidByText := true, laidKinds := [.data, .data], laidTests := true, laidLooks := .later }
def LeadAgreesUptoCardSaid : Prop := Claim7.holds Tryd.pinned (.plain (OpenSpec.upto leadAgreesSpec)) leadAgreesUptoCard

/-- THE SECOND FORM's CARD OF 'sealchainlaw16.LeadNames'. -/
def leadNamesUptoCard : Claim7 := { stood := { row := leadNamesUptoRow, standIns := [], harness := (true, "97b39d53ad23f08eb3ec0357f3721250e6e253b27ba62ae43d980cea96696e75"), looks := false }, kinds := [], alts := [], laidByText := true, laidKinds := [.data, .data], laidTests := true, laidLooks := .later }
def LeadNamesUptoCardSaid : Prop := Claim7.holds Tryd.pinned (.plain (OpenSpec.upto leadNamesSpec)) leadNamesUptoCard
end Rows
end Go.Proofs.YtmcfcnlglohliaaDoor
