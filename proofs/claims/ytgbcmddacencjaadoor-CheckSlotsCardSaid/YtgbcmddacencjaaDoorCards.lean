/-
  DERIVED. GIVEN WITH THE SEED: THE CARDS: each row of YtgbcmddacencjaaDoorRows.lean that lists a variable, with what it lists TIED to the program's text (the seventh form; the later family's looks); each row that meets fmt, with fmt's text TOLD by the authors' own Lean function (tested against real Go, not proved from fmt's source: count such statements apart). THE CARD IS WHAT COUNTS. Prove the row's statement (the work); the ties are given (YtgbcmddacencjaaDoorTie.lean); close each card by the builder's one call (the guide's Derived/Test/ToyasCard.lean, 'card_holds'). Laid BY PROGRAM, IN A SANDBOX (cutbox-door.mjs). By AI agents, Wed Nov 11 2026. No macro, syntax, notation, axiom, sorry.
-/
import Derived.Test.YtgbcmddacencjaaDoorRows
import GoSem.ClaimSeven
namespace Go.Proofs.YtgbcmddacencjaaDoor
namespace Rows

/-- THE TIED CARD OF 'facsimilelaw02.CheckBlocks'. -/
def checkBlocksCard : Claim7 := { stood := { row := checkBlocksRow, standIns := [], harness := (true, "5b4fd9c6afab9eb6480ecfd2dfa860e7362b047c503c24bd0acba7ad0f7b589d"), looks := true }, kinds := [], alts := [], laidByText := true, laidKinds := [.data, .data, .data, .data, .pinned], laidTests := true, laidLooks := .later }
def CheckBlocksCardSaid : Prop := Claim7.holds Tryd.pinned (.plain (OpenSpec.ofChange checkBlocksSpec)) checkBlocksCard

/-- THE TIED CARD OF 'facsimilelaw02.CheckParents'. -/
def checkParentsCard : Claim7 := { stood := { row := checkParentsRow, standIns := [], harness := (true, "5b4fd9c6afab9eb6480ecfd2dfa860e7362b047c503c24bd0acba7ad0f7b589d"), looks := true }, kinds := [], alts := [], laidByText := true, laidKinds := [.data, .data, .data, .data, .pinned], laidTests := true, laidLooks := .later }
def CheckParentsCardSaid : Prop := Claim7.holds Tryd.pinned (.plain (OpenSpec.ofChange checkParentsSpec)) checkParentsCard

/-- THE TIED CARD OF 'facsimilelaw02.CheckStays'. -/
def checkStaysCard : Claim7 := { stood := { row := checkStaysRow, standIns := [], harness := (true, "5b4fd9c6afab9eb6480ecfd2dfa860e7362b047c503c24bd0acba7ad0f7b589d"), looks := true }, kinds := [], alts := [], laidByText := true, laidKinds := [.data, .data, .data, .data, .pinned], laidTests := true, laidLooks := .later }
def CheckStaysCardSaid : Prop := Claim7.holds Tryd.pinned (.plain (OpenSpec.ofChange checkStaysSpec)) checkStaysCard

/-- THE TIED CARD OF 'facsimilelaw02.CheckSlots'. -/
def checkSlotsCard : Claim7 := { stood := { row := checkSlotsRow, standIns := [], harness := (true, "5b4fd9c6afab9eb6480ecfd2dfa860e7362b047c503c24bd0acba7ad0f7b589d"), looks := true }, kinds := [], alts := [], laidByText := true, laidKinds := [.data, .data, .data, .data, .pinned], laidTests := true, laidLooks := .later }
def CheckSlotsCardSaid : Prop := Claim7.holds Tryd.pinned (.plain (OpenSpec.ofChange checkSlotsSpec)) checkSlotsCard

/-- THE SECOND FORM's CARD OF 'facsimilelaw02.CheckBlocks'. -/
def checkBlocksUptoCard : Claim7 := { stood := { row := checkBlocksUptoRow, standIns := [], harness := (true, "5b4fd9c6afab9eb6480ecfd2dfa860e7362b047c503c24bd0acba7ad0f7b589d"), looks := true }, kinds := [], alts := [], laidByText := true, laidKinds := [.data, .data, .data, .data, .pinned], laidTests := true, laidLooks := .later }
def CheckBlocksUptoCardSaid : Prop := Claim7.holds Tryd.pinned (.plain (OpenSpec.upto checkBlocksSpec)) checkBlocksUptoCard

/-- THE SECOND FORM's CARD OF 'facsimilelaw02.CheckParents'. -/
def checkParentsUptoCard : Claim7 := { stood := { row := checkParentsUptoRow, standIns := [], harness := (true, "5b4fd9c6afab9eb6480ecfd2dfa860e7362b047c503c24bd0acba7ad0f7b589d"), looks := true }, kinds := [], alts := [], laidByText := true, laidKinds := [.data, .data, .data, .data, .pinned], laidTests := true, laidLooks := .later }
def CheckParentsUptoCardSaid : Prop := Claim7.holds Tryd.pinned (.plain (OpenSpec.upto checkParentsSpec)) checkParentsUptoCard

/-- THE SECOND FORM's CARD OF 'facsimilelaw02.CheckStays'. -/
def checkStaysUptoCard : Claim7 := { stood := { row := checkStaysUptoRow, standIns := [], harness := (true, "5b4fd9c6afab9eb6480ecfd2dfa860e7362b047c503c24bd0acba7ad0f7b589d"), looks := true }, kinds := [], alts := [], laidByText := true, laidKinds := [.data, .data, .data, .data, .pinned], laidTests := true, laidLooks := .later }
def CheckStaysUptoCardSaid : Prop := Claim7.holds Tryd.pinned (.plain (OpenSpec.upto checkStaysSpec)) checkStaysUptoCard

/-- THE SECOND FORM's CARD OF 'facsimilelaw02.CheckSlots'. -/
def checkSlotsUptoCard : Claim7 := { stood := { row := checkSlotsUptoRow, standIns := [], harness := (true, "5b4fd9c6afab9eb6480ecfd2dfa860e7362b047c503c24bd0acba7ad0f7b589d"), looks := true }, kinds := [], alts := [], laidByText := true, laidKinds := [.data, .data, .data, .data, .pinned], laidTests := true, laidLooks := .later }
def CheckSlotsUptoCardSaid : Prop := Claim7.holds Tryd.pinned (.plain (OpenSpec.upto checkSlotsSpec)) checkSlotsUptoCard
end Rows
end Go.Proofs.YtgbcmddacencjaaDoor
