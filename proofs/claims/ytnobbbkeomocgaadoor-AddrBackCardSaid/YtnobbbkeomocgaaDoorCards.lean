/-
  DERIVED. GIVEN WITH THE SEED: THE CARDS: each row of YtnobbbkeomocgaaDoorRows.lean that lists a variable, with what it lists TIED to the program's text (the seventh form; the later family's looks); each row that meets fmt, with fmt's text TOLD by the authors' own Lean function (tested against real Go, not proved from fmt's source: count such statements apart). THE CARD IS WHAT COUNTS. Prove the row's statement (the work); the ties are given (YtnobbbkeomocgaaDoorTie.lean); close each card by the builder's one call (the guide's Derived/Test/ToyasCard.lean, 'card_holds'). Laid BY PROGRAM, IN A SANDBOX (cutbox-door.mjs). By AI agents, Wed Nov 11 2026. No macro, syntax, notation, axiom, sorry.
-/
import Derived.Test.YtnobbbkeomocgaaDoorRows
import GoSem.ClaimSeven
namespace Go.Proofs.YtnobbbkeomocgaaDoor
namespace Rows

/-- THE TIED CARD OF 'wicketgatelaw06.AddrEnds'. -/
def addrEndsCard : Claim7 := { stood := { row := addrEndsRow, standIns := [], harness := (true, "7a728c1dbb20a62e63fc6471b5be1c974e49a93272e0519864aac805598ac166"), looks := false }, kinds := [], alts := [], laidByText := true, laidKinds := [.data, .data, .data], laidTests := true, laidLooks := .later }
def AddrEndsCardSaid : Prop := Claim7.holds Tryd.pinned (.plain (OpenSpec.ofChange addrEndsSpec)) addrEndsCard

/-- THE TIED CARD OF 'wicketgatelaw06.AddrNested'. -/
def addrNestedCard : Claim7 := { stood := { row := addrNestedRow, standIns := [], harness := (true, "7a728c1dbb20a62e63fc6471b5be1c974e49a93272e0519864aac805598ac166"), looks := false }, kinds := [], alts := [], laidByText := true, laidKinds := [.data, .data, .data], laidTests := true, laidLooks := .later }
def AddrNestedCardSaid : Prop := Claim7.holds Tryd.pinned (.plain (OpenSpec.ofChange addrNestedSpec)) addrNestedCard

/-- THE TIED CARD OF 'wicketgatelaw06.AddrTexts'. -/
def addrTextsCard : Claim7 := { stood := { row := addrTextsRow, standIns := [], harness := (true, "7a728c1dbb20a62e63fc6471b5be1c974e49a93272e0519864aac805598ac166"), looks := false }, kinds := [], alts := [], laidByText := true, laidKinds := [.data, .data, .data], laidTests := true, laidLooks := .later }
def AddrTextsCardSaid : Prop := Claim7.holds Tryd.pinned (.plain (OpenSpec.ofChange addrTextsSpec)) addrTextsCard

/-- THE TIED CARD OF 'wicketgatelaw06.AddrBack'. -/
def addrBackCard : Claim7 := { stood := { row := addrBackRow, standIns := [], harness := (true, "7a728c1dbb20a62e63fc6471b5be1c974e49a93272e0519864aac805598ac166"), looks := false }, kinds := [], alts := [], laidByText := true, laidKinds := [.data, .data, .data], laidTests := true, laidLooks := .later }
def AddrBackCardSaid : Prop := Claim7.holds Tryd.pinned (.plain (OpenSpec.ofChange addrBackSpec)) addrBackCard

/-- THE TIED CARD OF 'wicketgatelaw06.AddrHas'. -/
def addrHasCard : Claim7 := { stood := { row := addrHasRow, standIns := [], harness := (true, "7a728c1dbb20a62e63fc6471b5be1c974e49a93272e0519864aac805598ac166"), looks := false }, kinds := [], alts := [], laidByText := true, laidKinds := [.data, .data, .data], laidTests := true, laidLooks := .later }
def AddrHasCardSaid : Prop := Claim7.holds Tryd.pinned (.plain (OpenSpec.ofChange addrHasSpec)) addrHasCard

/-- THE TIED CARD OF 'wicketgatelaw06.AddrOf'. -/
def addrOfCard : Claim7 := { stood := { row := addrOfRow, standIns := [], harness := (true, "7a728c1dbb20a62e63fc6471b5be1c974e49a93272e0519864aac805598ac166"), looks := false }, kinds := [], alts := [], laidByText := true, laidKinds := [.data, .data, .data], laidTests := true, laidLooks := .later }
def AddrOfCardSaid : Prop := Claim7.holds Tryd.pinned (.plain (OpenSpec.ofChange addrOfSpec)) addrOfCard

/-- THE TIED CARD OF 'wicketgatelaw06.AddrSplits'. -/
def addrSplitsCard : Claim7 := { stood := { row := addrSplitsRow, standIns := [], harness := (true, "7a728c1dbb20a62e63fc6471b5be1c974e49a93272e0519864aac805598ac166"), looks := false }, kinds := [], alts := [], laidByText := true, laidKinds := [.data, .data, .data], laidTests := true, laidLooks := .later }
def AddrSplitsCardSaid : Prop := Claim7.holds Tryd.pinned (.plain (OpenSpec.ofChange addrSplitsSpec)) addrSplitsCard

/-- THE SECOND FORM's CARD OF 'wicketgatelaw06.AddrEnds'. -/
def addrEndsUptoCard : Claim7 := { stood := { row := addrEndsUptoRow, standIns := [], harness := (true, "7a728c1dbb20a62e63fc6471b5be1c974e49a93272e0519864aac805598ac166"), looks := false }, kinds := [], alts := [], laidByText := true, laidKinds := [.data, .data, .data], laidTests := true, laidLooks := .later }
def AddrEndsUptoCardSaid : Prop := Claim7.holds Tryd.pinned (.plain (OpenSpec.upto addrEndsSpec)) addrEndsUptoCard

/-- THE SECOND FORM's CARD OF 'wicketgatelaw06.AddrNested'. -/
def addrNestedUptoCard : Claim7 := { stood := { row := addrNestedUptoRow, standIns := [], harness := (true, "7a728c1dbb20a62e63fc6471b5be1c974e49a93272e0519864aac805598ac166"), looks := false }, kinds := [], alts := [], laidByText := true, laidKinds := [.data, .data, .data], laidTests := true, laidLooks := .later }
def AddrNestedUptoCardSaid : Prop := Claim7.holds Tryd.pinned (.plain (OpenSpec.upto addrNestedSpec)) addrNestedUptoCard

/-- THE SECOND FORM's CARD OF 'wicketgatelaw06.AddrTexts'. -/
def addrTextsUptoCard : Claim7 := { stood := { row := addrTextsUptoRow, standIns := [], harness := (true, "7a728c1dbb20a62e63fc6471b5be1c974e49a93272e0519864aac805598ac166"), looks := false }, kinds := [], alts := [], laidByText := true, laidKinds := [.data, .data, .data], laidTests := true, laidLooks := .later }
def AddrTextsUptoCardSaid : Prop := Claim7.holds Tryd.pinned (.plain (OpenSpec.upto addrTextsSpec)) addrTextsUptoCard

/-- THE SECOND FORM's CARD OF 'wicketgatelaw06.AddrBack'. -/
def addrBackUptoCard : Claim7 := { stood := { row := addrBackUptoRow, standIns := [], harness := (true, "7a728c1dbb20a62e63fc6471b5be1c974e49a93272e0519864aac805598ac166"), looks := false }, kinds := [], alts := [], laidByText := true, laidKinds := [.data, .data, .data], laidTests := true, laidLooks := .later }
def AddrBackUptoCardSaid : Prop := Claim7.holds Tryd.pinned (.plain (OpenSpec.upto addrBackSpec)) addrBackUptoCard

/-- THE SECOND FORM's CARD OF 'wicketgatelaw06.AddrHas'. -/
def addrHasUptoCard : Claim7 := { stood := { row := addrHasUptoRow, standIns := [], harness := (true, "7a728c1dbb20a62e63fc6471b5be1c974e49a93272e0519864aac805598ac166"), looks := false }, kinds := [], alts := [], laidByText := true, laidKinds := [.data, .data, .data], laidTests := true, laidLooks := .later }
def AddrHasUptoCardSaid : Prop := Claim7.holds Tryd.pinned (.plain (OpenSpec.upto addrHasSpec)) addrHasUptoCard

/-- THE SECOND FORM's CARD OF 'wicketgatelaw06.AddrOf'. -/
def addrOfUptoCard : Claim7 := { stood := { row := addrOfUptoRow, standIns := [], harness := (true, "7a728c1dbb20a62e63fc6471b5be1c974e49a93272e0519864aac805598ac166"), looks := false }, kinds := [], alts := [], laidByText := true, laidKinds := [.data, .data, .data], laidTests := true, laidLooks := .later }
def AddrOfUptoCardSaid : Prop := Claim7.holds Tryd.pinned (.plain (OpenSpec.upto addrOfSpec)) addrOfUptoCard

/-- THE SECOND FORM's CARD OF 'wicketgatelaw06.AddrSplits'. -/
def addrSplitsUptoCard : Claim7 := { stood := { row := addrSplitsUptoRow, standIns := [], harness := (true, "7a728c1dbb20a62e63fc6471b5be1c974e49a93272e0519864aac805598ac166"), looks := false }, kinds := [], alts := [], laidByText := true, laidKinds := [.data, .data, .data], laidTests := true, laidLooks := .later }
def AddrSplitsUptoCardSaid : Prop := Claim7.holds Tryd.pinned (.plain (OpenSpec.upto addrSplitsSpec)) addrSplitsUptoCard
end Rows
end Go.Proofs.YtnobbbkeomocgaaDoor
