/-
  DERIVED. GIVEN WITH THE SEED: THE CARDS: each row of YtcmondhpiahchaaGreatDoorRows.lean that lists a variable, with what it lists TIED to the program's text (the seventh form; the later family's looks); each row that meets fmt, with fmt's text TOLD by the authors' own Lean function (tested against real Go, not proved from fmt's source: count such statements apart). THE CARD IS WHAT COUNTS. Prove the row's statement (the work); the ties are given (YtcmondhpiahchaaGreatDoorTie.lean); close each card by the builder's one call (the guide's Derived/Test/ToyasCard.lean, 'card_holds'). Laid BY PROGRAM, IN A SANDBOX (cutbox-door.mjs). By AI agents, Wed Nov 11 2026. No macro, syntax, notation, axiom, sorry.
-/
import Derived.Test.YtcmondhpiahchaaGreatDoorRows
import GoSem.ClaimSeven
namespace Go.Proofs.YtcmondhpiahchaaGreatDoor
namespace Rows

/-- THE TIED CARD OF 'wicketgatelaw11.CredTurns'. -/
def credTurnsCard : Claim7 := { stood := { row := credTurnsRow, standIns := [], harness := (true, "b2a2cb5f0842359966d90297d870594ad5666d6db75a3431d1fdb9d3444a9259"), looks := true }, kinds := [], alts := [], laidByText := true, laidKinds := [.data, .data, .data, .handle, .data, .sentinel, .sentinel], laidTests := true, laidLooks := .later }
def CredTurnsCardSaid : Prop := Claim7.holds Tryz.pinned (.plain (OpenSpec.ofChange credTurnsSpec)) credTurnsCard

/-- THE TIED CARD OF 'wicketgatelaw11.CredOverlap'. -/
def credOverlapCard : Claim7 := { stood := { row := credOverlapRow, standIns := [], harness := (true, "b2a2cb5f0842359966d90297d870594ad5666d6db75a3431d1fdb9d3444a9259"), looks := true }, kinds := [], alts := [], laidByText := true, laidKinds := [.data, .data, .data, .handle, .data, .sentinel, .sentinel], laidTests := true, laidLooks := .later }
def CredOverlapCardSaid : Prop := Claim7.holds Tryz.pinned (.plain (OpenSpec.ofChange credOverlapSpec)) credOverlapCard

/-- THE TIED CARD OF 'wicketgatelaw11.CredEnds'. -/
def credEndsCard : Claim7 := { stood := { row := credEndsRow, standIns := [], harness := (true, "b2a2cb5f0842359966d90297d870594ad5666d6db75a3431d1fdb9d3444a9259"), looks := true }, kinds := [], alts := [], laidByText := true, laidKinds := [.data, .data, .data, .handle, .data, .sentinel, .sentinel], laidTests := true, laidLooks := .later }
def CredEndsCardSaid : Prop := Claim7.holds Tryz.pinned (.plain (OpenSpec.ofChange credEndsSpec)) credEndsCard

/-- THE TIED CARD OF 'wicketgatelaw11.CredNew'. -/
def credNewCard : Claim7 := { stood := { row := credNewRow, standIns := [], harness := (true, "b2a2cb5f0842359966d90297d870594ad5666d6db75a3431d1fdb9d3444a9259"), looks := true }, kinds := [], alts := [], laidByText := true, laidKinds := [.data, .data, .data, .handle, .data, .sentinel, .sentinel], laidTests := true, laidLooks := .later }
def CredNewCardSaid : Prop := Claim7.holds Tryz.pinned (.plain (OpenSpec.ofChange credNewSpec)) credNewCard

/-- THE TIED CARD OF 'wicketgatelaw11.CredTwice'. -/
def credTwiceCard : Claim7 := { stood := { row := credTwiceRow, standIns := [], harness := (true, "b2a2cb5f0842359966d90297d870594ad5666d6db75a3431d1fdb9d3444a9259"), looks := true }, kinds := [], alts := [], laidByText := true, laidKinds := [.data, .data, .data, .handle, .data, .sentinel, .sentinel], laidTests := true, laidLooks := .later }
def CredTwiceCardSaid : Prop := Claim7.holds Tryz.pinned (.plain (OpenSpec.ofChange credTwiceSpec)) credTwiceCard

/-- THE SECOND FORM's CARD OF 'wicketgatelaw11.CredTurns'. -/
def credTurnsUptoCard : Claim7 := { stood := { row := credTurnsUptoRow, standIns := [], harness := (true, "b2a2cb5f0842359966d90297d870594ad5666d6db75a3431d1fdb9d3444a9259"), looks := true }, kinds := [], alts := [], laidByText := true, laidKinds := [.data, .data, .data, .handle, .data, .sentinel, .sentinel], laidTests := true, laidLooks := .later }
def CredTurnsUptoCardSaid : Prop := Claim7.holds Tryz.pinned (.plain (OpenSpec.upto credTurnsSpec)) credTurnsUptoCard

/-- THE SECOND FORM's CARD OF 'wicketgatelaw11.CredOverlap'. -/
def credOverlapUptoCard : Claim7 := { stood := { row := credOverlapUptoRow, standIns := [], harness := (true, "b2a2cb5f0842359966d90297d870594ad5666d6db75a3431d1fdb9d3444a9259"), looks := true }, kinds := [], alts := [], laidByText := true, laidKinds := [.data, .data, .data, .handle, .data, .sentinel, .sentinel], laidTests := true, laidLooks := .later }
def CredOverlapUptoCardSaid : Prop := Claim7.holds Tryz.pinned (.plain (OpenSpec.upto credOverlapSpec)) credOverlapUptoCard

/-- THE SECOND FORM's CARD OF 'wicketgatelaw11.CredEnds'. -/
def credEndsUptoCard : Claim7 := { stood := { row := credEndsUptoRow, standIns := [], harness := (true, "b2a2cb5f0842359966d90297d870594ad5666d6db75a3431d1fdb9d3444a9259"), looks := true }, kinds := [], alts := [], laidByText := true, laidKinds := [.data, .data, .data, .handle, .data, .sentinel, .sentinel], laidTests := true, laidLooks := .later }
def CredEndsUptoCardSaid : Prop := Claim7.holds Tryz.pinned (.plain (OpenSpec.upto credEndsSpec)) credEndsUptoCard

/-- THE SECOND FORM's CARD OF 'wicketgatelaw11.CredNew'. -/
def credNewUptoCard : Claim7 := { stood := { row := credNewUptoRow, standIns := [], harness := (true, "b2a2cb5f0842359966d90297d870594ad5666d6db75a3431d1fdb9d3444a9259"), looks := true }, kinds := [], alts := [], laidByText := true, laidKinds := [.data, .data, .data, .handle, .data, .sentinel, .sentinel], laidTests := true, laidLooks := .later }
def CredNewUptoCardSaid : Prop := Claim7.holds Tryz.pinned (.plain (OpenSpec.upto credNewSpec)) credNewUptoCard

/-- THE SECOND FORM's CARD OF 'wicketgatelaw11.CredTwice'. -/
def credTwiceUptoCard : Claim7 := { stood := { row := credTwiceUptoRow, standIns := [], harness := (true, "b2a2cb5f0842359966d90297d870594ad5666d6db75a3431d1fdb9d3444a9259"), looks := true }, kinds := [], alts := [], laidByText := true, laidKinds := [.data, .data, .data, .handle, .data, .sentinel, .sentinel], laidTests := true, laidLooks := .later }
def CredTwiceUptoCardSaid : Prop := Claim7.holds Tryz.pinned (.plain (OpenSpec.upto credTwiceSpec)) credTwiceUptoCard
end Rows
end Go.Proofs.YtcmondhpiahchaaGreatDoor
