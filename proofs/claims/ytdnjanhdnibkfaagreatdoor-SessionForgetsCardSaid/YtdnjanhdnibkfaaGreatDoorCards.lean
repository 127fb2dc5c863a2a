/-
  DERIVED. GIVEN WITH THE SEED: THE CARDS: each row of YtdnjanhdnibkfaaGreatDoorRows.lean that lists a variable, with what it lists TIED to the program's text (the seventh form; the later family's looks); each row that meets fmt, with fmt's text TOLD by the authors' own Lean function (tested against real Go, not proved from fmt's source: count such statements apart). THE CARD IS WHAT COUNTS. Prove the row's statement (the work); the ties are given (YtdnjanhdnibkfaaGreatDoorTie.lean); close each card by the builder's one call (the guide's Derived/Test/ToyasCard.lean, 'card_holds'). Laid BY PROGRAM, IN A SANDBOX (cutbox-door.mjs). By AI agents, Wed Nov 11 2026. No macro, syntax, notation, axiom, sorry.
-/
import Derived.Test.YtdnjanhdnibkfaaGreatDoorRows
import GoSem.ClaimSeven
namespace Go.Proofs.YtdnjanhdnibkfaaGreatDoor
namespace Rows

/-- THE TIED CARD OF 'wicketgatelaw18.SessionProofs'. -/
def sessionProofsCard : Claim7 := { stood := { row := sessionProofsRow, standIns := [], harness := (true, "ec371177d4819beda3a6a12f4dc938eae16d8f34c15bd2c4d16de8096f939954"), looks := true }, kinds := [], alts := [], laidByText := true, laidKinds := [.data, .data, .data, .handle, .sentinel, .sentinel, .data, .sentinel, .sentinel, .sentinel, .sentinel, .sentinel, .sentinel, .sentinel, .sentinel, .sentinel, .sentinel, .sentinel, .data, .sentinel, .sentinel, .sentinel], laidTests := true, laidLooks := .later }
def SessionProofsCardSaid : Prop := Claim7.holds Tryz.pinned (.plain (OpenSpec.ofChange sessionProofsSpec)) sessionProofsCard

/-- THE TIED CARD OF 'wicketgatelaw18.SessionOpens'. -/
def sessionOpensCard : Claim7 := { stood := { row := sessionOpensRow, standIns := [], harness := (true, "ec371177d4819beda3a6a12f4dc938eae16d8f34c15bd2c4d16de8096f939954"), looks := true }, kinds := [], alts := [], laidByText := true, laidKinds := [.data, .data, .data, .handle, .sentinel, .sentinel, .data, .sentinel, .sentinel, .sentinel, .sentinel, .sentinel, .sentinel, .sentinel, .sentinel, .sentinel, .sentinel, .sentinel, .data, .sentinel, .sentinel, .sentinel], laidTests := true, laidLooks := .later }
def SessionOpensCardSaid : Prop := Claim7.holds Tryz.pinned (.plain (OpenSpec.ofChange sessionOpensSpec)) sessionOpensCard

/-- THE TIED CARD OF 'wicketgatelaw18.SessionStreams'. -/
def sessionStreamsCard : Claim7 := { stood := { row := sessionStreamsRow, standIns := [], harness := (true, "ec371177d4819beda3a6a12f4dc938eae16d8f34c15bd2c4d16de8096f939954"), looks := true }, kinds := [], alts := [], laidByText := true, laidKinds := [.data, .data, .data, .handle, .sentinel, .sentinel, .data, .sentinel, .sentinel, .sentinel, .sentinel, .sentinel, .sentinel, .sentinel, .sentinel, .sentinel, .sentinel, .sentinel, .data, .sentinel, .sentinel, .sentinel], laidTests := true, laidLooks := .later }
def SessionStreamsCardSaid : Prop := Claim7.holds Tryz.pinned (.plain (OpenSpec.ofChange sessionStreamsSpec)) sessionStreamsCard

/-- THE TIED CARD OF 'wicketgatelaw18.SessionForgets'. -/
def sessionForgetsCard : Claim7 := { stood := { row := sessionForgetsRow, standIns := [], harness := (true, "ec371177d4819beda3a6a12f4dc938eae16d8f34c15bd2c4d16de8096f939954"), looks := true }, kinds := [], alts := [], laidByText := true, laidKinds := [.data, .data, .data, .handle, .sentinel, .sentinel, .data, .sentinel, .sentinel, .sentinel, .sentinel, .sentinel, .sentinel, .sentinel, .sentinel, .sentinel, .sentinel, .sentinel, .data, .sentinel, .sentinel, .sentinel], laidTests := true, laidLooks := .later }
def SessionForgetsCardSaid : Prop := Claim7.holds Tryz.pinned (.plain (OpenSpec.ofChange sessionForgetsSpec)) sessionForgetsCard

/-- THE TIED CARD OF 'wicketgatelaw18.SessionTells'. -/
def sessionTellsCard : Claim7 := { stood := { row := sessionTellsRow, standIns := [], harness := (true, "ec371177d4819beda3a6a12f4dc938eae16d8f34c15bd2c4d16de8096f939954"), looks := true }, kinds := [], alts := [], laidByText := true, laidKinds := [.data, .data, .data, .handle, .sentinel, .sentinel, .data, .sentinel, .sentinel, .sentinel, .sentinel, .sentinel, .sentinel, .sentinel, .sentinel, .sentinel, .sentinel, .sentinel, .data, .sentinel, .sentinel, .sentinel], laidTests := true, laidLooks := .later }
def SessionTellsCardSaid : Prop := Claim7.holds Tryz.pinned (.plain (OpenSpec.ofChange sessionTellsSpec)) sessionTellsCard

/-- THE TIED CARD OF 'wicketgatelaw18.SessionKeeps'. -/
def sessionKeepsCard : Claim7 := { stood := { row := sessionKeepsRow, standIns := [], harness := (true, "ec371177d4819beda3a6a12f4dc938eae16d8f34c15bd2c4d16de8096f939954"), looks := true }, kinds := [], alts := [], laidByText := true, laidKinds := [.data, .data, .data, .handle, .sentinel, .sentinel, .data, .sentinel, .sentinel, .sentinel, .sentinel, .sentinel, .sentinel, .sentinel, .sentinel, .sentinel, .sentinel, .sentinel, .data, .sentinel, .sentinel, .sentinel], laidTests := true, laidLooks := .later }
def SessionKeepsCardSaid : Prop := Claim7.holds Tryz.pinned (.plain (OpenSpec.ofChange sessionKeepsSpec)) sessionKeepsCard

/-- THE TIED CARD OF 'wicketgatelaw18.SessionPings'. -/
def sessionPingsCard : Claim7 := { stood := { row := sessionPingsRow, standIns := [], harness := (true, "ec371177d4819beda3a6a12f4dc938eae16d8f34c15bd2c4d16de8096f939954"), looks := true }, kinds := [], alts := [], laidByText := true, laidKinds := [.data, .data, .data, .handle, .sentinel, .sentinel, .data, .sentinel, .sentinel, .sentinel, .sentinel, .sentinel, .sentinel, .sentinel, .sentinel, .sentinel, .sentinel, .sentinel, .data, .sentinel, .sentinel, .sentinel], laidTests := true, laidLooks := .later }
def SessionPingsCardSaid : Prop := Claim7.holds Tryz.pinned (.plain (OpenSpec.ofChange sessionPingsSpec)) sessionPingsCard

/-- THE SECOND FORM's CARD OF 'wicketgatelaw18.SessionProofs'. -/
def sessionProofsUptoCard : Claim7 := { stood := { row := sessionProofsUptoRow, standIns := [], harness := (true, "ec371177d4819beda3a6a12f4dc938eae16d8f34c15bd2c4d16de8096f939954"), looks := true }, kinds := [], alts := [], laidByText := true, laidKinds := [.data, .data, .data, .handle, .sentinel, .sentinel, .data, .sentinel, .sentinel, .sentinel, .sentinel, .sentinel, .sentinel, .sentinel, .sentinel, .sentinel, .sentinel, .sentinel, .data, .sentinel, .sentinel, .sentinel], laidTests := true, laidLooks := .later }
def SessionProofsUptoCardSaid : Prop := Claim7.holds Tryz.pinned (.plain (OpenSpec.upto sessionProofsSpec)) sessionProofsUptoCard

/-- THE SECOND FORM's CARD OF 'wicketgatelaw18.SessionOpens'. -/
def sessionOpensUptoCard : Claim7 := { stood := { row := sessionOpensUptoRow, standIns := [], harness := (true, "ec371177d4819beda3a6a12f4dc938eae16d8f34c15bd2c4d16de8096f939954"), looks := true }, kinds := [], alts := [], laidByText := true, laidKinds := [.data, .data, .data, .handle, .sentinel, .sentinel, .data, .sentinel, .sentinel, .sentinel, .sentinel, .sentinel, .sentinel, .sentinel, .sentinel, .sentinel, .sentinel, .sentinel, .data, .sentinel, .sentinel, .sentinel], laidTests := true, laidLooks := .later }
def SessionOpensUptoCardSaid : Prop := Claim7.holds Tryz.pinned (.plain (OpenSpec.upto sessionOpensSpec)) sessionOpensUptoCard

/-- THE SECOND FORM's CARD OF 'wicketgatelaw18.SessionStreams'. -/
def sessionStreamsUptoCard : Claim7 := { stood := { row := sessionStreamsUptoRow, standIns := [], harness := (true, "ec371177d4819beda3a6a12f4dc938eae16d8f34c15bd2c4d16de8096f939954"), looks := true }, kinds := [], alts := [], laidByText := true, laidKinds := [.data, .data, .data, .handle, .sentinel, .sentinel, .data, .sentinel, .sentinel, .sentinel, .sentinel, .sentinel, .sentinel, .sentinel, .sentinel, .sentinel, .sentinel, .sentinel, .data, .sentinel, .sentinel, .sentinel], laidTests := true, laidLooks := .later }
def SessionStreamsUptoCardSaid : Prop := Claim7.holds Tryz.pinned (.plain (OpenSpec.upto sessionStreamsSpec)) sessionStreamsUptoCard

/-- THE SECOND FORM's CARD OF 'wicketgatelaw18.SessionForgets'. -/
def sessionForgetsUptoCard : Claim7 := { stood := { row := sessionForgetsUptoRow, standIns := [], harness := (true, "ec371177d4819beda3a6a12f4dc938eae16d8f34c15bd2c4d16de8096f939954"), looks := true }, kinds := [], alts := [], laidByText := true, laidKinds := [.data, .data, .data, .handle, .sentinel, .sentinel, .data, .sentinel, .sentinel, .sentinel, .sentinel, .sentinel, .sentinel, .sentinel, .sentinel, .sentinel, .sentinel, .sentinel, .data, .sentinel, .sentinel, .sentinel], laidTests := true, laidLooks := .later }
def SessionForgetsUptoCardSaid : Prop := Claim7.holds Tryz.pinned (.plain (OpenSpec.upto sessionForgetsSpec)) sessionForgetsUptoCard

/-- THE SECOND FORM's CARD OF 'wicketgatelaw18.SessionTells'. -/
def sessionTellsUptoCard : Claim7 := { stood := { row := sessionTellsUptoRow, standIns := [], harness := (true, "ec371177d4819beda3a6a12f4dc938eae16d8f34c15bd2c4d16de8096f939954"), looks := true }, kinds := [], alts := [], laidByText := true, laidKinds := [.data, .data, .data, .handle, .sentinel, .sentinel, .data, .sentinel, .sentinel, .sentinel, .sentinel, .sentinel, .sentinel, .sentinel, .sentinel, .sentinel, .sentinel, .sentinel, .data, .sentinel, .sentinel, .sentinel], laidTests := true, laidLooks := .later }
def SessionTellsUptoCardSaid : Prop := Claim7.holds Tryz.pinned (.plain (OpenSpec.upto sessionTellsSpec)) sessionTellsUptoCard

/-- THE SECOND FORM's CARD OF 'wicketgatelaw18.SessionKeeps'. -/
def sessionKeepsUptoCard : Claim7 := { stood := { row := sessionKeepsUptoRow, standIns := [], harness := (true, "ec371177d4819beda3a6a12f4dc938eae16d8f34c15bd2c4d16de8096f939954"), looks := true }, kinds := [], alts := [], laidByText := true, laidKinds := [.data, .data, .data, .handle, .sentinel, .sentinel, .data, .sentinel, .sentinel, .sentinel, .sentinel, .sentinel, .sentinel, .sentinel, .sentinel, .sentinel, .sentinel, .sentinel, .data, .sentinel, .sentinel, .sentinel], laidTests := true, laidLooks := .later }
def SessionKeepsUptoCardSaid : Prop := Claim7.holds Tryz.pinned (.plain (OpenSpec.upto sessionKeepsSpec)) sessionKeepsUptoCard

/-- THE SECOND FORM's CARD OF 'wicketgatelaw18.SessionPings'. -/
def sessionPingsUptoCard : Claim7 := { stood := { row := sessionPingsUptoRow, standIns := [], harness := (true, "ec371177d4819beda3a6a12f4dc938eae16d8f34c15bd2c4d16de8096f939954"), looks := true }, kinds := [], alts := [], laidByText := true, laidKinds := [.data, .data, .data, .handle, .sentinel, .sentinel, .data, .sentinel, .sentinel, .sentinel, .sentinel, .sentinel, .sentinel, .sentinel, .sentinel, .sentinel, .sentinel, .sentinel, .data, .sentinel, .sentinel, .sentinel], laidTests := true, laidLooks := .later }
def SessionPingsUptoCardSaid : Prop := Claim7.holds Tryz.pinned (.plain (OpenSpec.upto sessionPingsSpec)) sessionPingsUptoCard
end Rows
end Go.Proofs.YtdnjanhdnibkfaaGreatDoor
