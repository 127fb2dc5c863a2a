/-
  DERIVED. GIVEN WITH THE SEED: THE CARDS: each row of YtnblakihpoacjaaGreatDoorRows.lean that lists a variable, with what it lists TIED to the program's text (the seventh form; the later family's looks); each row that meets fmt, with fmt's text TOLD by the authors' own Lean function (tested against real Go, not proved from fmt's source: count such statements apart). THE CARD IS WHAT COUNTS. Prove the row's statement (the work); the ties are given (YtnblakihpoacjaaGreatDoorTie.lean); close each card by the builder's one call (the guide's Derived/Test/ToyasCard.lean, 'card_holds'). Laid BY PROGRAM, IN A SANDBOX (cutbox-door.mjs). By AI agents, Wed Nov 11 2026. No macro, syntax, notation, axiom, sorry.
-/
import Derived.Test.YtnblakihpoacjaaGreatDoorRows
import GoSem.ClaimSeven
namespace Go.Proofs.YtnblakihpoacjaaGreatDoor
namespace Rows

/-- THE TIED CARD OF 'wicketgatelaw08.AclBack'. -/
def aclBackCard : Claim7 := { stood := { row := aclBackRow, standIns := [], harness := (true, "d49c69f80073e17546a8e9f20660e45336d19366b19518dfcc7c8b4a097a68f9"), looks := true }, kinds := [], alts := [], laidByText := true, laidKinds := [.data, .data, .data, .handle, .sentinel, .sentinel, .sentinel, .sentinel, .sentinel, .sentinel], laidTests := true, laidLooks := .later }
def AclBackCardSaid : Prop := Claim7.holds Tryz.pinned (.plain (OpenSpec.ofChange aclBackSpec)) aclBackCard

/-- THE TIED CARD OF 'wicketgatelaw08.AclLast'. -/
def aclLastCard : Claim7 := { stood := { row := aclLastRow, standIns := [], harness := (true, "d49c69f80073e17546a8e9f20660e45336d19366b19518dfcc7c8b4a097a68f9"), looks := true }, kinds := [], alts := [], laidByText := true, laidKinds := [.data, .data, .data, .handle, .sentinel, .sentinel, .sentinel, .sentinel, .sentinel, .sentinel], laidTests := true, laidLooks := .later }
def AclLastCardSaid : Prop := Claim7.holds Tryz.pinned (.plain (OpenSpec.ofChange aclLastSpec)) aclLastCard

/-- THE TIED CARD OF 'wicketgatelaw08.AclTexts'. -/
def aclTextsCard : Claim7 := { stood := { row := aclTextsRow, standIns := [], harness := (true, "d49c69f80073e17546a8e9f20660e45336d19366b19518dfcc7c8b4a097a68f9"), looks := true }, kinds := [], alts := [], laidByText := true, laidKinds := [.data, .data, .data, .handle, .sentinel, .sentinel, .sentinel, .sentinel, .sentinel, .sentinel], laidTests := true, laidLooks := .later }
def AclTextsCardSaid : Prop := Claim7.holds Tryz.pinned (.plain (OpenSpec.ofChange aclTextsSpec)) aclTextsCard

/-- THE TIED CARD OF 'wicketgatelaw08.AclFirst'. -/
def aclFirstCard : Claim7 := { stood := { row := aclFirstRow, standIns := [], harness := (true, "d49c69f80073e17546a8e9f20660e45336d19366b19518dfcc7c8b4a097a68f9"), looks := true }, kinds := [], alts := [], laidByText := true, laidKinds := [.data, .data, .data, .handle, .sentinel, .sentinel, .sentinel, .sentinel, .sentinel, .sentinel], laidTests := true, laidLooks := .later }
def AclFirstCardSaid : Prop := Claim7.holds Tryz.pinned (.plain (OpenSpec.ofChange aclFirstSpec)) aclFirstCard

/-- THE TIED CARD OF 'wicketgatelaw08.AclAhead'. -/
def aclAheadCard : Claim7 := { stood := { row := aclAheadRow, standIns := [], harness := (true, "d49c69f80073e17546a8e9f20660e45336d19366b19518dfcc7c8b4a097a68f9"), looks := true }, kinds := [], alts := [], laidByText := true, laidKinds := [.data, .data, .data, .handle, .sentinel, .sentinel, .sentinel, .sentinel, .sentinel, .sentinel], laidTests := true, laidLooks := .later }
def AclAheadCardSaid : Prop := Claim7.holds Tryz.pinned (.plain (OpenSpec.ofChange aclAheadSpec)) aclAheadCard

/-- THE TIED CARD OF 'wicketgatelaw08.AclNone'. -/
def aclNoneCard : Claim7 := { stood := { row := aclNoneRow, standIns := [], harness := (true, "d49c69f80073e17546a8e9f20660e45336d19366b19518dfcc7c8b4a097a68f9"), looks := true }, kinds := [], alts := [], laidByText := true, laidKinds := [.data, .data, .data, .handle, .sentinel, .sentinel, .sentinel, .sentinel, .sentinel, .sentinel], laidTests := true, laidLooks := .later }
def AclNoneCardSaid : Prop := Claim7.holds Tryz.pinned (.plain (OpenSpec.ofChange aclNoneSpec)) aclNoneCard

/-- THE TIED CARD OF 'wicketgatelaw08.AclDecides'. -/
def aclDecidesCard : Claim7 := { stood := { row := aclDecidesRow, standIns := [], harness := (true, "d49c69f80073e17546a8e9f20660e45336d19366b19518dfcc7c8b4a097a68f9"), looks := true }, kinds := [], alts := [], laidByText := true, laidKinds := [.data, .data, .data, .handle, .sentinel, .sentinel, .sentinel, .sentinel, .sentinel, .sentinel], laidTests := true, laidLooks := .later }
def AclDecidesCardSaid : Prop := Claim7.holds Tryz.pinned (.plain (OpenSpec.ofChange aclDecidesSpec)) aclDecidesCard

/-- THE TIED CARD OF 'wicketgatelaw08.AclTurns'. -/
def aclTurnsCard : Claim7 := { stood := { row := aclTurnsRow, standIns := [], harness := (true, "d49c69f80073e17546a8e9f20660e45336d19366b19518dfcc7c8b4a097a68f9"), looks := true }, kinds := [], alts := [], laidByText := true, laidKinds := [.data, .data, .data, .handle, .sentinel, .sentinel, .sentinel, .sentinel, .sentinel, .sentinel], laidTests := true, laidLooks := .later }
def AclTurnsCardSaid : Prop := Claim7.holds Tryz.pinned (.plain (OpenSpec.ofChange aclTurnsSpec)) aclTurnsCard

/-- THE SECOND FORM's CARD OF 'wicketgatelaw08.AclBack'. -/
def aclBackUptoCard : Claim7 := { stood := { row := aclBackUptoRow, standIns := [], harness := (true, "d49c69f80073e17546a8e9f20660e45336d19366b19518dfcc7c8b4a097a68f9"), looks := true }, kinds := [], alts := [], laidByText := true, laidKinds := [.data, .data, .data, .handle, .sentinel, .sentinel, .sentinel, .sentinel, .sentinel, .sentinel], laidTests := true, laidLooks := .later }
def AclBackUptoCardSaid : Prop := Claim7.holds Tryz.pinned (.plain (OpenSpec.upto aclBackSpec)) aclBackUptoCard

/-- THE SECOND FORM's CARD OF 'wicketgatelaw08.AclLast'. -/
def aclLastUptoCard : Claim7 := { stood := { row := aclLastUptoRow, standIns := [], harness := (true, "d49c69f80073e17546a8e9f20660e45336d19366b19518dfcc7c8b4a097a68f9"), looks := true }, kinds := [], alts := [], laidByText := true, laidKinds := [.data, .data, .data, .handle, .sentinel, .sentinel, .sentinel, .sentinel, .sentinel, .sentinel], laidTests := true, laidLooks := .later }
def AclLastUptoCardSaid : Prop := Claim7.holds Tryz.pinned (.plain (OpenSpec.upto aclLastSpec)) aclLastUptoCard

/-- THE SECOND FORM's CARD OF 'wicketgatelaw08.AclTexts'. -/
def aclTextsUptoCard : Claim7 := { stood := { row := aclTextsUptoRow, standIns := [], harness := (true, "d49c69f80073e17546a8e9f20660e45336d19366b19518dfcc7c8b4a097a68f9"), looks := true }, kinds := [], alts := [], laidByText := true, laidKinds := [.data, .data, .data, .handle, .sentinel, .sentinel, .sentinel, .sentinel, .sentinel, .sentinel], laidTests := true, laidLooks := .later }
def AclTextsUptoCardSaid : Prop := Claim7.holds Tryz.pinned (.plain (OpenSpec.upto aclTextsSpec)) aclTextsUptoCard

/-- THE SECOND FORM's CARD OF 'wicketgatelaw08.AclFirst'. -/
def aclFirstUptoCard : Claim7 := { stood := { row := aclFirstUptoRow, standIns := [], harness := (true, "d49c69f80073e17546a8e9f20660e45336d19366b19518dfcc7c8b4a097a68f9"), looks := true }, kinds := [], alts := [], laidByText := true, laidKinds := [.data, .data, .data, .handle, .sentinel, .sentinel, .sentinel, .sentinel, .sentinel, .sentinel], laidTests := true, laidLooks := .later }
def AclFirstUptoCardSaid : Prop := Claim7.holds Tryz.pinned (.plain (OpenSpec.upto aclFirstSpec)) aclFirstUptoCard

/-- THE SECOND FORM's CARD OF 'wicketgatelaw08.AclAhead'. -/
def aclAheadUptoCard : Claim7 := { stood := { row := aclAheadUptoRow, standIns := [], harness := (true, "d49c69f80073e17546a8e9f20660e45336d19366b19518dfcc7c8b4a097a68f9"), looks := true }, kinds := [], alts := [], laidByText := true, laidKinds := [.data, .data, .data, .handle, .sentinel, .sentinel, .sentinel, .sentinel, .sentinel, .sentinel], laidTests := true, laidLooks := .later }
def AclAheadUptoCardSaid : Prop := Claim7.holds Tryz.pinned (.plain (OpenSpec.upto aclAheadSpec)) aclAheadUptoCard

/-- THE SECOND FORM's CARD OF 'wicketgatelaw08.AclNone'. -/
def aclNoneUptoCard : Claim7 := { stood := { row := aclNoneUptoRow, standIns := [], harness := (true, "d49c69f80073e17546a8e9f20660e45336d19366b19518dfcc7c8b4a097a68f9"), looks := true }, kinds := [], alts := [], laidByText := true, laidKinds := [.data, .data, .data, .handle, .sentinel, .sentinel, .sentinel, .sentinel, .sentinel, .sentinel], laidTests := true, laidLooks := .later }
def AclNoneUptoCardSaid : Prop := Claim7.holds Tryz.pinned (.plain (OpenSpec.upto aclNoneSpec)) aclNoneUptoCard

/-- THE SECOND FORM's CARD OF 'wicketgatelaw08.AclDecides'. -/
def aclDecidesUptoCard : Claim7 := { stood := { row := aclDecidesUptoRow, standIns := [], harness := (true, "d49c69f80073e17546a8e9f20660e45336d19366b19518dfcc7c8b4a097a68f9"), looks := true }, kinds := [], alts := [], laidByText := true, laidKinds := [.data, .data, .data, .handle, .sentinel, .sentinel, .sentinel, .sentinel, .sentinel, .sentinel], laidTests := true, laidLooks := .later }
def AclDecidesUptoCardSaid : Prop := Claim7.holds Tryz.pinned (.plain (OpenSpec.upto aclDecidesSpec)) aclDecidesUptoCard

/-- THE SECOND FORM's CARD OF 'wicketgatelaw08.AclTurns'. -/
def aclTurnsUptoCard : Claim7 := { stood := { row := aclTurnsUptoRow, standIns := [], harness := (true, "d49c69f80073e17546a8e9f20660e45336d19366b19518dfcc7c8b4a097a68f9"), looks := true }, kinds := [], alts := [], laidByText := true, laidKinds := [.data, .data, .data, .handle, .sentinel, .sentinel, .sentinel, .sentinel, .sentinel, .sentinel], laidTests := true, laidLooks := .later }
def AclTurnsUptoCardSaid : Prop := Claim7.holds Tryz.pinned (.plain (OpenSpec.upto aclTurnsSpec)) aclTurnsUptoCard
end Rows
end Go.Proofs.YtnblakihpoacjaaGreatDoor
