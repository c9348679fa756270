/-
  DERIVED. GIVEN WITH THE SEED: THE CARDS: each row of YtklegcedpknpdaaDoorRows.lean that lists a variable, with what it lists TIED to the program's text (the seventh form; the later family's looks); each row that meets fmt, with fmt's text TOLD by the authors' own Lean function (tested against real Go, not proved from fmt's source: count such statements apart). THE CARD IS WHAT COUNTS. Prove the row's statement (the work); the ties are given (YtklegcedpknpdaaDoorTie.lean); close each card by the builder's one call (the guide's Derived/Test/ToyasCard.lean, 'card_holds'). Laid BY PROGRAM, IN A SANDBOX (cutbox-door.mjs). By AI agents, Wed Nov 11 2026. No macro, syntax, notation, axiom, sorry.
-/
import Derived.Test.YtklegcedpknpdaaDoorRows
import GoSem.ClaimSeven
namespace Go.Proofs.YtklegcedpknpdaaDoor
namespace Rows

/-- THE TIED CARD OF 'sealchainlaw07.PadPads'. -/
def padPadsCard : Claim7 := { stood := { row := padPadsRow, standIns := [], harness := (true, "407fbca9fcb41c521ef5e26e16a67bdda69947489f30873d2b16663a34321fe3"), looks := false }, kinds := [], alts := [], laidByText := true, laidKinds := [.widerDeep], laidTests := true, laidLooks := .later }
def PadPadsCardSaid : Prop := Claim7.holds Tryd.pinned (.plain (OpenSpec.ofChange padPadsSpec)) padPadsCard

/-- THE TIED CARD OF 'sealchainlaw07.PadOpens'. -/
def padOpensCard : Claim7 := { stood := { row := padOpensRow, standIns := [], harness := (true, "407fbca9fcb41c521ef5e26e16a67bdda69947489f30873d2b16663a34321fe3"), looks := false }, kinds := [], alts := [], laidByText := true, laidKinds := [.widerDeep], laidTests := true, laidLooks := .later }
def PadOpensCardSaid : Prop := Claim7.holds Tryd.pinned (.plain (OpenSpec.ofChange padOpensSpec)) padOpensCard

/-- THE TIED CARD OF 'sealchainlaw07.PadBack'. -/
def padBackCard : Claim7 := { stood := { row := padBackRow, standIns := [], harness := (true, "407fbca9fcb41c521ef5e26e16a67bdda69947489f30873d2b16663a34321fe3"), looks := false }, kinds := [], alts := [], laidByText := true, laidKinds := [.widerDeep], laidTests := true, laidLooks := .later }
def PadBackCardSaid : Prop := Claim7.holds Tryd.pinned (.plain (OpenSpec.ofChange padBackSpec)) padBackCard

/-- THE TIED CARD OF 'sealchainlaw07.PadAlike'. -/
def padAlikeCard : Claim7 := { stood := { row := padAlikeRow, standIns := [], harness := (true, "407fbca9fcb41c521ef5e26e16a67bdda69947489f30873d2b16663a34321fe3"), looks := false }, kinds := [], alts := [], laidByText := true, laidKinds := [.widerDeep], laidTests := true, laidLooks := .later }
def PadAlikeCardSaid : Prop := Claim7.holds Tryd.pinned (.plain (OpenSpec.ofChange padAlikeSpec)) padAlikeCard

/-- THE TIED CARD OF 'sealchainlaw07.PadAgain'. -/
def padAgainCard : Claim7 := { stood := { row := padAgainRow, standIns := [], harness := (true, "407fbca9fcb41c521ef5e26e16a67bdda69947489f30873d2b16663a34321fe3"), looks := false }, kinds := [], alts := [], laidByText := true, laidKinds := [.widerDeep], laidTests := true, laidLooks := .later }
def PadAgainCardSaid : Prop := Claim7.holds Tryd.pinned (.plain (OpenSpec.ofChange padAgainSpec)) padAgainCard

/-- THE TIED CARD OF 'sealchainlaw07.PadTurned'. -/
def padTurnedCard : Claim7 := { stood := { row := padTurnedRow, standIns := [], harness := (true, "407fbca9fcb41c521ef5e26e16a67bdda69947489f30873d2b16663a34321fe3"), looks := false }, kinds := [], alts := [], laidByText := true, laidKinds := [.widerDeep], laidTests := true, laidLooks := .later }
def PadTurnedCardSaid : Prop := Claim7.holds Tryd.pinned (.plain (OpenSpec.ofChange padTurnedSpec)) padTurnedCard

/-- THE TIED CARD OF 'sealchainlaw07.PadKnown'. -/
def padKnownCard : Claim7 := { stood := { row := padKnownRow, standIns := [], harness := (true, "407fbca9fcb41c521ef5e26e16a67bdda69947489f30873d2b16663a34321fe3"), looks := false }, kinds := [], alts := [], laidByText := true, laidKinds := [.widerDeep], laidTests := true, laidLooks := .later }
def PadKnownCardSaid : Prop := Claim7.holds Tryd.pinned (.plain (OpenSpec.ofChange padKnownSpec)) padKnownCard

/-- THE SECOND FORM's CARD OF 'sealchainlaw07.PadPads'. -/
def padPadsUptoCard : Claim7 := { stood := { row := padPadsUptoRow, standIns := [], harness := (true, "407fbca9fcb41c521ef5e26e16a67bdda69947489f30873d2b16663a34321fe3"), looks := false }, kinds := [], alts := [], laidByText := true, laidKinds := [.widerDeep], laidTests := true, laidLooks := .later }
def PadPadsUptoCardSaid : Prop := Claim7.holds Tryd.pinned (.plain (OpenSpec.upto padPadsSpec)) padPadsUptoCard

/-- THE SECOND FORM's CARD OF 'sealchainlaw07.PadOpens'. -/
def padOpensUptoCard : Claim7 := { stood := { row := padOpensUptoRow, standIns := [], harness := (true, "407fbca9fcb41c521ef5e26e16a67bdda69947489f30873d2b16663a34321fe3"), looks := false }, kinds := [], alts := [], laidByText := true, laidKinds := [.widerDeep], laidTests := true, laidLooks := .later }
def PadOpensUptoCardSaid : Prop := Claim7.holds Tryd.pinned (.plain (OpenSpec.upto padOpensSpec)) padOpensUptoCard

/-- THE SECOND FORM's CARD OF 'sealchainlaw07.PadBack'. -/
def padBackUptoCard : Claim7 := { stood := { row := padBackUptoRow, standIns := [], harness := (true, "407fbca9fcb41c521ef5e26e16a67bdda69947489f30873d2b16663a34321fe3"), looks := false }, kinds := [], alts := [], laidByText := true, laidKinds := [.widerDeep], laidTests := true, laidLooks := .later }
def PadBackUptoCardSaid : Prop := Claim7.holds Tryd.pinned (.plain (OpenSpec.upto padBackSpec)) padBackUptoCard

/-- THE SECOND FORM's CARD OF 'sealchainlaw07.PadAlike'. -/
def padAlikeUptoCard : Claim7 := { stood := { row := padAlikeUptoRow, standIns := [], harness := (true, "407fbca9fcb41c521ef5e26e16a67bdda69947489f30873d2b16663a34321fe3"), looks := false }, kinds := [], alts := [], laidByText := true, laidKinds := [.widerDeep], laidTests := true, laidLooks := .later }
def PadAlikeUptoCardSaid : Prop := Claim7.holds Tryd.pinned (.plain (OpenSpec.upto padAlikeSpec)) padAlikeUptoCard

/-- THE SECOND FORM's CARD OF 'sealchainlaw07.PadAgain'. -/
def padAgainUptoCard : Claim7 := { stood := { row := padAgainUptoRow, standIns := [], harness := (true, "407fbca9fcb41c521ef5e26e16a67bdda69947489f30873d2b16663a34321fe3"), looks := false }, kinds := [], alts := [], laidByText := true, laidKinds := [.widerDeep], laidTests := true, laidLooks := .later }
def PadAgainUptoCardSaid : Prop := Claim7.holds Tryd.pinned (.plain (OpenSpec.upto padAgainSpec)) padAgainUptoCard

/-- THE SECOND FORM's CARD OF 'sealchainlaw07.PadTurned'. -/
def padTurnedUptoCard : Claim7 := { stood := { row := padTurnedUptoRow, standIns := [], harness := (true, "407fbca9fcb41c521ef5e26e16a67bdda69947489f30873d2b16663a34321fe3"), looks := false }, kinds := [], alts := [], laidByText := true, laidKinds := [.widerDeep], laidTests := true, laidLooks := .later }
def PadTurnedUptoCardSaid : Prop := Claim7.holds Tryd.pinned (.plain (OpenSpec.upto padTurnedSpec)) padTurnedUptoCard

/-- THE SECOND FORM's CARD OF 'sealchainlaw07.PadKnown'. -/
def padKnownUptoCard : Claim7 := { stood := { row := padKnownUptoRow, standIns := [], harness := (true, "407fbca9fcb41c521ef5e26e16a67bdda69947489f30873d2b16663a34321fe3"), looks := false }, kinds := [], alts := [], laidByText := true, laidKinds := [.widerDeep], laidTests := true, laidLooks := .later }
def PadKnownUptoCardSaid : Prop := Claim7.holds Tryd.pinned (.plain (OpenSpec.upto padKnownSpec)) padKnownUptoCard
end Rows
end Go.Proofs.YtklegcedpknpdaaDoor
