/-
  DERIVED. GIVEN WITH THE SEED: THE CARDS: each row of YtnnafnjdngjkoaaDoorRows.lean that lists a variable, with what it lists TIED to the program's text (the seventh form; the later family's looks); each row that meets fmt, with fmt's text TOLD by the authors' own Lean function (tested against real Go, not proved from fmt's source: count such statements apart). THE CARD IS WHAT COUNTS. Prove the row's statement (the work); the ties are given (YtnnafnjdngjkoaaDoorTie.lean); close each card by the builder's one call (the guide's Derived/Test/ToyasCard.lean, 'card_holds'). Laid BY PROGRAM, IN A SANDBOX (cutbox-door.mjs). By AI agents, Wed Nov 11 2026. No macro, syntax, notation, axiom, sorry.
-/
import Derived.Test.YtnnafnjdngjkoaaDoorRows
import GoSem.ClaimSeven
namespace Go.Proofs.YtnnafnjdngjkoaaDoor
namespace Rows

/-- THE TIED CARD OF 'wicketgatelaw07.PortsTexts'. -/
def portsTextsCard : Claim7 := { stood := { row := portsTextsRow, standIns := [], harness := (true, "287787cfb6b2221eec778d21695328704946aaa140080022428890981b862536"), looks := true }, kinds := [], alts := [], laidByText := true, laidKinds := [.data, .data, .data, .sentinel, .sentinel], laidTests := true, laidLooks := .later }
def PortsTextsCardSaid : Prop := Claim7.holds Tryd.pinned (.plain (OpenSpec.ofChange portsTextsSpec)) portsTextsCard

/-- THE TIED CARD OF 'wicketgatelaw07.PortsTargets'. -/
def portsTargetsCard : Claim7 := { stood := { row := portsTargetsRow, standIns := [], harness := (true, "287787cfb6b2221eec778d21695328704946aaa140080022428890981b862536"), looks := true }, kinds := [], alts := [], laidByText := true, laidKinds := [.data, .data, .data, .sentinel, .sentinel], laidTests := true, laidLooks := .later }
def PortsTargetsCardSaid : Prop := Claim7.holds Tryd.pinned (.plain (OpenSpec.ofChange portsTargetsSpec)) portsTargetsCard

/-- THE TIED CARD OF 'wicketgatelaw07.PortsBack'. -/
def portsBackCard : Claim7 := { stood := { row := portsBackRow, standIns := [], harness := (true, "287787cfb6b2221eec778d21695328704946aaa140080022428890981b862536"), looks := true }, kinds := [], alts := [], laidByText := true, laidKinds := [.data, .data, .data, .sentinel, .sentinel], laidTests := true, laidLooks := .later }
def PortsBackCardSaid : Prop := Claim7.holds Tryd.pinned (.plain (OpenSpec.ofChange portsBackSpec)) portsBackCard

/-- THE TIED CARD OF 'wicketgatelaw07.PortsMeet'. -/
def portsMeetCard : Claim7 := { stood := { row := portsMeetRow, standIns := [], harness := (true, "287787cfb6b2221eec778d21695328704946aaa140080022428890981b862536"), looks := true }, kinds := [], alts := [], laidByText := true, laidKinds := [.data, .data, .data, .sentinel, .sentinel], laidTests := true, laidLooks := .later }
def PortsMeetCardSaid : Prop := Claim7.holds Tryd.pinned (.plain (OpenSpec.ofChange portsMeetSpec)) portsMeetCard

/-- THE TIED CARD OF 'wicketgatelaw07.PortsSelf'. -/
def portsSelfCard : Claim7 := { stood := { row := portsSelfRow, standIns := [], harness := (true, "287787cfb6b2221eec778d21695328704946aaa140080022428890981b862536"), looks := true }, kinds := [], alts := [], laidByText := true, laidKinds := [.data, .data, .data, .sentinel, .sentinel], laidTests := true, laidLooks := .later }
def PortsSelfCardSaid : Prop := Claim7.holds Tryd.pinned (.plain (OpenSpec.ofChange portsSelfSpec)) portsSelfCard

/-- THE SECOND FORM's CARD OF 'wicketgatelaw07.PortsTexts'. -/
def portsTextsUptoCard : Claim7 := { stood := { row := portsTextsUptoRow, standIns := [], harness := (true, "287787cfb6b2221eec778d21695328704946aaa140080022428890981b862536"), looks := true }, kinds := [], alts := [], laidByText := true, laidKinds := [.data, .data, .data, .sentinel, .sentinel], laidTests := true, laidLooks := .later }
def PortsTextsUptoCardSaid : Prop := Claim7.holds Tryd.pinned (.plain (OpenSpec.upto portsTextsSpec)) portsTextsUptoCard

/-- THE SECOND FORM's CARD OF 'wicketgatelaw07.PortsTargets'. -/
def portsTargetsUptoCard : Claim7 := { stood := { row := portsTargetsUptoRow, standIns := [], harness := (true, "287787cfb6b2221eec778d21695328704946aaa140080022428890981b862536"), looks := true }, kinds := [], alts := [], laidByText := true, laidKinds := [.data, .data, .data, .sentinel, .sentinel], laidTests := true, laidLooks := .later }
def PortsTargetsUptoCardSaid : Prop := Claim7.holds Tryd.pinned (.plain (OpenSpec.upto portsTargetsSpec)) portsTargetsUptoCard

/-- THE SECOND FORM's CARD OF 'wicketgatelaw07.PortsBack'. -/
def portsBackUptoCard : Claim7 := { stood := { row := portsBackUptoRow, standIns := [], harness := (true, "287787cfb6b2221eec778d21695328704946aaa140080022428890981b862536"), looks := true }, kinds := [], alts := [], laidByText := true, laidKinds := [.data, .data, .data, .sentinel, .sentinel], laidTests := true, laidLooks := .later }
def PortsBackUptoCardSaid : Prop := Claim7.holds Tryd.pinned (.plain (OpenSpec.upto portsBackSpec)) portsBackUptoCard

/-- THE SECOND FORM's CARD OF 'wicketgatelaw07.PortsMeet'. -/
def portsMeetUptoCard : Claim7 := { stood := { row := portsMeetUptoRow, standIns := [], harness := (true, "287787cfb6b2221eec778d21695328704946aaa140080022428890981b862536"), looks := true }, kinds := [], alts := [], laidByText := true, laidKinds := [.data, .data, .data, .sentinel, .sentinel], laidTests := true, laidLooks := .later }
def PortsMeetUptoCardSaid : Prop := Claim7.holds Tryd.pinned (.plain (OpenSpec.upto portsMeetSpec)) portsMeetUptoCard

/-- THE SECOND FORM's CARD OF 'wicketgatelaw07.PortsSelf'. -/
def portsSelfUptoCard : Claim7 := { stood := { row := portsSelfUptoRow, standIns := [], harness := (true, "287787cfb6b2221eec778d21695328704946aaa140080022428890981b862536"), looks := true }, kinds := [], alts := [], laidByText := true, laidKinds := [.data, .data, .data, .sentinel, .sentinel], laidTests := true, laidLooks := .later }
def PortsSelfUptoCardSaid : Prop := Claim7.holds Tryd.pinned (.plain (OpenSpec.upto portsSelfSpec)) portsSelfUptoCard
end Rows
end Go.Proofs.YtnnafnjdngjkoaaDoor
