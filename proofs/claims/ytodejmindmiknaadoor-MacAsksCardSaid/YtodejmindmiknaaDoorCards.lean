/-
  DERIVED. GIVEN WITH THE SEED: THE CARDS: each row of YtodejmindmiknaaDoorRows.lean that lists a variable, with what it lists TIED to the program's text (the seventh form; the later family's looks); each row that meets fmt, with fmt's text TOLD by the authors' own Lean function (tested against real Go, not proved from fmt's source: count such statements apart). THE CARD IS WHAT COUNTS. Prove the row's statement (the work); the ties are given (YtodejmindmiknaaDoorTie.lean); close each card by the builder's one call (the guide's Derived/Test/ToyasCard.lean, 'card_holds'). Laid BY PROGRAM, IN A SANDBOX (cutbox-door.mjs). By AI agents, Wed Nov 11 2026. No macro, syntax, notation, axiom, sorry.
-/
import Derived.Test.YtodejmindmiknaaDoorRows
import GoSem.ClaimSeven
namespace Go.Proofs.YtodejmindmiknaaDoor
namespace Rows

/-- THE TIED CARD OF 'wicketgatelaw05.MacMacs'. -/
def macMacsCard : Claim7 := { stood := { row := macMacsRow, standIns := [], harness := (true, "ab8bb367bf00445a5d810a33ee895707a34d84f86d278a826ce310c1939306b0"), looks := true }, kinds := [], alts := [], laidByText := true, laidKinds := [.data, .data, .data, .data, .data, .sentinel, .sentinel], laidTests := true, laidLooks := .later }
def MacMacsCardSaid : Prop := Claim7.holds Tryd.pinned (.plain (OpenSpec.ofChange macMacsSpec)) macMacsCard

/-- THE TIED CARD OF 'wicketgatelaw05.MacAsks'. -/
def macAsksCard : Claim7 := { stood := { row := macAsksRow, standIns := [], harness := (true, "ab8bb367bf00445a5d810a33ee895707a34d84f86d278a826ce310c1939306b0"), looks := true }, kinds := [], alts := [], laidByText := true, laidKinds := [.data, .data, .data, .data, .data, .sentinel, .sentinel], laidTests := true, laidLooks := .later }
def MacAsksCardSaid : Prop := Claim7.holds Tryd.pinned (.plain (OpenSpec.ofChange macAsksSpec)) macAsksCard

/-- THE TIED CARD OF 'wicketgatelaw05.MacPads'. -/
def macPadsCard : Claim7 := { stood := { row := macPadsRow, standIns := [], harness := (true, "ab8bb367bf00445a5d810a33ee895707a34d84f86d278a826ce310c1939306b0"), looks := true }, kinds := [], alts := [], laidByText := true, laidKinds := [.data, .data, .data, .data, .sentinel, .sentinel], laidTests := true, laidLooks := .later }
def MacPadsCardSaid : Prop := Claim7.holds Tryd.pinned (.plain (OpenSpec.ofChange macPadsSpec)) macPadsCard

/-- THE TIED CARD OF 'wicketgatelaw05.MacAnswers'. -/
def macAnswersCard : Claim7 := { stood := { row := macAnswersRow, standIns := [], harness := (true, "ab8bb367bf00445a5d810a33ee895707a34d84f86d278a826ce310c1939306b0"), looks := true }, kinds := [], alts := [], laidByText := true, laidKinds := [.data, .data, .data, .data, .sentinel, .sentinel], laidTests := true, laidLooks := .later }
def MacAnswersCardSaid : Prop := Claim7.holds Tryd.pinned (.plain (OpenSpec.ofChange macAnswersSpec)) macAnswersCard

/-- THE TIED CARD OF 'wicketgatelaw05.MacSums'. -/
def macSumsCard : Claim7 := { stood := { row := macSumsRow, standIns := [], harness := (true, "ab8bb367bf00445a5d810a33ee895707a34d84f86d278a826ce310c1939306b0"), looks := true }, kinds := [], alts := [], laidByText := true, laidKinds := [.data, .data, .data, .data, .sentinel, .sentinel], laidTests := true, laidLooks := .later }
def MacSumsCardSaid : Prop := Claim7.holds Tryd.pinned (.plain (OpenSpec.ofChange macSumsSpec)) macSumsCard

/-- THE SECOND FORM's CARD OF 'wicketgatelaw05.MacMacs'. -/
def macMacsUptoCard : Claim7 := { stood := { row := macMacsUptoRow, standIns := [], harness := (true, "ab8bb367bf00445a5d810a33ee895707a34d84f86d278a826ce310c1939306b0"), looks := true }, kinds := [], alts := [], laidByText := true, laidKinds := [.data, .data, .data, .data, .data, .sentinel, .sentinel], laidTests := true, laidLooks := .later }
def MacMacsUptoCardSaid : Prop := Claim7.holds Tryd.pinned (.plain (OpenSpec.upto macMacsSpec)) macMacsUptoCard

/-- THE SECOND FORM's CARD OF 'wicketgatelaw05.MacAsks'. -/
def macAsksUptoCard : Claim7 := { stood := { row := macAsksUptoRow, standIns := [], harness := (true, "ab8bb367bf00445a5d810a33ee895707a34d84f86d278a826ce310c1939306b0"), looks := true }, kinds := [], alts := [], laidByText := true, laidKinds := [.data, .data, .data, .data, .data, .sentinel, .sentinel], laidTests := true, laidLooks := .later }
def MacAsksUptoCardSaid : Prop := Claim7.holds Tryd.pinned (.plain (OpenSpec.upto macAsksSpec)) macAsksUptoCard

/-- THE SECOND FORM's CARD OF 'wicketgatelaw05.MacPads'. -/
def macPadsUptoCard : Claim7 := { stood := { row := macPadsUptoRow, standIns := [], harness := (true, "ab8bb367bf00445a5d810a33ee895707a34d84f86d278a826ce310c1939306b0"), looks := true }, kinds := [], alts := [], laidByText := true, laidKinds := [.data, .data, .data, .data, .sentinel, .sentinel], laidTests := true, laidLooks := .later }
def MacPadsUptoCardSaid : Prop := Claim7.holds Tryd.pinned (.plain (OpenSpec.upto macPadsSpec)) macPadsUptoCard

/-- THE SECOND FORM's CARD OF 'wicketgatelaw05.MacAnswers'. -/
def macAnswersUptoCard : Claim7 := { stood := { row := macAnswersUptoRow, standIns := [], harness := (true, "ab8bb367bf00445a5d810a33ee895707a34d84f86d278a826ce310c1939306b0"), looks := true }, kinds := [], alts := [], laidByText := true, laidKinds := [.data, .data, .data, .data, .sentinel, .sentinel], laidTests := true, laidLooks := .later }
def MacAnswersUptoCardSaid : Prop := Claim7.holds Tryd.pinned (.plain (OpenSpec.upto macAnswersSpec)) macAnswersUptoCard

/-- THE SECOND FORM's CARD OF 'wicketgatelaw05.MacSums'. -/
def macSumsUptoCard : Claim7 := { stood := { row := macSumsUptoRow, standIns := [], harness := (true, "ab8bb367bf00445a5d810a33ee895707a34d84f86d278a826ce310c1939306b0"), looks := true }, kinds := [], alts := [], laidByText := true, laidKinds := [.data, .data, .data, .data, .sentinel, .sentinel], laidTests := true, laidLooks := .later }
def MacSumsUptoCardSaid : Prop := Claim7.holds Tryd.pinned (.plain (OpenSpec.upto macSumsSpec)) macSumsUptoCard
end Rows
end Go.Proofs.YtodejmindmiknaaDoor
