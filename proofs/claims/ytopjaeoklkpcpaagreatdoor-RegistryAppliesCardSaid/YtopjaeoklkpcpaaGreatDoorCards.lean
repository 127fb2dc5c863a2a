/-
  DERIVED. GIVEN WITH THE SEED: THE CARDS: each row of YtopjaeoklkpcpaaGreatDoorRows.lean that lists a variable, with what it lists TIED to the program's text (the seventh form; the later family's looks); each row that meets fmt, with fmt's text TOLD by the authors' own Lean function (tested against real Go, not proved from fmt's source: count such statements apart). THE CARD IS WHAT COUNTS. Prove the row's statement (the work); the ties are given (YtopjaeoklkpcpaaGreatDoorTie.lean); close each card by the builder's one call (the guide's Derived/Test/ToyasCard.lean, 'card_holds'). Laid BY PROGRAM, IN A SANDBOX (cutbox-door.mjs). By AI agents, Wed Nov 11 2026. No macro, syntax, notation, axiom, sorry.
-/
import Derived.Test.YtopjaeoklkpcpaaGreatDoorRows
import GoSem.ClaimSeven
namespace Go.Proofs.YtopjaeoklkpcpaaGreatDoor
namespace Rows

/-- THE TIED CARD OF 'wicketgatelaw15.RegistryApplies'. -/
def registryAppliesCard : Claim7 := { stood := { row := registryAppliesRow, standIns := [], harness := (true, "7b063f57de069919cf679890c1fd952e91a4151f744b3b4f0803ed4a397b9bdd"), looks := true }, kinds := [], alts := [], laidByText := true, laidKinds := [.handle, .sentinel, .sentinel, .sentinel, .sentinel, .data], laidTests := true, laidLooks := .later }
def RegistryAppliesCardSaid : Prop := Claim7.holds Tryz.pinned (.plain (OpenSpec.ofChange registryAppliesSpec)) registryAppliesCard

/-- THE TIED CARD OF 'wicketgatelaw15.RegistryOld'. -/
def registryOldCard : Claim7 := { stood := { row := registryOldRow, standIns := [], harness := (true, "7b063f57de069919cf679890c1fd952e91a4151f744b3b4f0803ed4a397b9bdd"), looks := true }, kinds := [], alts := [], laidByText := true, laidKinds := [.handle, .sentinel, .sentinel, .sentinel, .sentinel, .data], laidTests := true, laidLooks := .later }
def RegistryOldCardSaid : Prop := Claim7.holds Tryz.pinned (.plain (OpenSpec.ofChange registryOldSpec)) registryOldCard

/-- THE TIED CARD OF 'wicketgatelaw15.RegistryDrains'. -/
def registryDrainsCard : Claim7 := { stood := { row := registryDrainsRow, standIns := [], harness := (true, "7b063f57de069919cf679890c1fd952e91a4151f744b3b4f0803ed4a397b9bdd"), looks := true }, kinds := [], alts := [], laidByText := true, laidKinds := [.handle, .sentinel, .sentinel, .sentinel, .sentinel, .data], laidTests := true, laidLooks := .later }
def RegistryDrainsCardSaid : Prop := Claim7.holds Tryz.pinned (.plain (OpenSpec.ofChange registryDrainsSpec)) registryDrainsCard

/-- THE TIED CARD OF 'wicketgatelaw15.RegistryKeeps'. -/
def registryKeepsCard : Claim7 := { stood := { row := registryKeepsRow, standIns := [], harness := (true, "7b063f57de069919cf679890c1fd952e91a4151f744b3b4f0803ed4a397b9bdd"), looks := true }, kinds := [], alts := [], laidByText := true, laidKinds := [.handle, .sentinel, .sentinel, .sentinel, .sentinel, .data], laidTests := true, laidLooks := .later }
def RegistryKeepsCardSaid : Prop := Claim7.holds Tryz.pinned (.plain (OpenSpec.ofChange registryKeepsSpec)) registryKeepsCard

/-- THE TIED CARD OF 'wicketgatelaw15.RegistryStates'. -/
def registryStatesCard : Claim7 := { stood := { row := registryStatesRow, standIns := [], harness := (true, "7b063f57de069919cf679890c1fd952e91a4151f744b3b4f0803ed4a397b9bdd"), looks := true }, kinds := [], alts := [], laidByText := true, laidKinds := [.handle, .sentinel, .sentinel, .sentinel, .sentinel, .data], laidTests := true, laidLooks := .later }
def RegistryStatesCardSaid : Prop := Claim7.holds Tryz.pinned (.plain (OpenSpec.ofChange registryStatesSpec)) registryStatesCard

/-- THE TIED CARD OF 'wicketgatelaw15.RegistryRotates'. -/
def registryRotatesCard : Claim7 := { stood := { row := registryRotatesRow, standIns := [], harness := (true, "7b063f57de069919cf679890c1fd952e91a4151f744b3b4f0803ed4a397b9bdd"), looks := true }, kinds := [], alts := [], laidByText := true, laidKinds := [.handle, .sentinel, .sentinel, .sentinel, .sentinel, .data], laidTests := true, laidLooks := .later }
def RegistryRotatesCardSaid : Prop := Claim7.holds Tryz.pinned (.plain (OpenSpec.ofChange registryRotatesSpec)) registryRotatesCard

/-- THE TIED CARD OF 'wicketgatelaw15.RegistryOthers'. -/
def registryOthersCard : Claim7 := { stood := { row := registryOthersRow, standIns := [], harness := (true, "7b063f57de069919cf679890c1fd952e91a4151f744b3b4f0803ed4a397b9bdd"), looks := true }, kinds := [], alts := [], laidByText := true, laidKinds := [.handle, .sentinel, .sentinel, .sentinel, .sentinel, .data], laidTests := true, laidLooks := .later }
def RegistryOthersCardSaid : Prop := Claim7.holds Tryz.pinned (.plain (OpenSpec.ofChange registryOthersSpec)) registryOthersCard

/-- THE TIED CARD OF 'wicketgatelaw15.RegistryVersions'. -/
def registryVersionsCard : Claim7 := { stood := { row := registryVersionsRow, standIns := [], harness := (true, "7b063f57de069919cf679890c1fd952e91a4151f744b3b4f0803ed4a397b9bdd"), looks := true }, kinds := [], alts := [], laidByText := true, laidKinds := [.handle, .sentinel, .sentinel, .sentinel, .sentinel, .data], laidTests := true, laidLooks := .later }
def RegistryVersionsCardSaid : Prop := Claim7.holds Tryz.pinned (.plain (OpenSpec.ofChange registryVersionsSpec)) registryVersionsCard

/-- THE TIED CARD OF 'wicketgatelaw15.RegistryReads'. -/
def registryReadsCard : Claim7 := { stood := { row := registryReadsRow, standIns := [], harness := (true, "7b063f57de069919cf679890c1fd952e91a4151f744b3b4f0803ed4a397b9bdd"), looks := true }, kinds := [], alts := [], laidByText := true, laidKinds := [.handle, .sentinel, .sentinel, .sentinel, .sentinel, .data], laidTests := true, laidLooks := .later }
def RegistryReadsCardSaid : Prop := Claim7.holds Tryz.pinned (.plain (OpenSpec.ofChange registryReadsSpec)) registryReadsCard

/-- THE TIED CARD OF 'wicketgatelaw15.RegistryTells'. -/
def registryTellsCard : Claim7 := { stood := { row := registryTellsRow, standIns := [], harness := (true, "7b063f57de069919cf679890c1fd952e91a4151f744b3b4f0803ed4a397b9bdd"), looks := true }, kinds := [], alts := [], laidByText := true, laidKinds := [.handle, .sentinel, .sentinel, .sentinel, .sentinel, .data], laidTests := true, laidLooks := .later }
def RegistryTellsCardSaid : Prop := Claim7.holds Tryz.pinned (.plain (OpenSpec.ofChange registryTellsSpec)) registryTellsCard

/-- THE TIED CARD OF 'wicketgatelaw15.RegistryCreates'. -/
def registryCreatesCard : Claim7 := { stood := { row := registryCreatesRow, standIns := [], harness := (true, "7b063f57de069919cf679890c1fd952e91a4151f744b3b4f0803ed4a397b9bdd"), looks := true }, kinds := [], alts := [], laidByText := true, laidKinds := [.handle, .sentinel, .sentinel, .sentinel, .sentinel, .data], laidTests := true, laidLooks := .later }
def RegistryCreatesCardSaid : Prop := Claim7.holds Tryz.pinned (.plain (OpenSpec.ofChange registryCreatesSpec)) registryCreatesCard

/-- THE SECOND FORM's CARD OF 'wicketgatelaw15.RegistryApplies'. -/
def registryAppliesUptoCard : Claim7 := { stood := { row := registryAppliesUptoRow, standIns := [], harness := (true, "7b063f57de069919cf679890c1fd952e91a4151f744b3b4f0803ed4a397b9bdd"), looks := true }, kinds := [], alts := [], laidByText := true, laidKinds := [.handle, .sentinel, .sentinel, .sentinel, .sentinel, .data], laidTests := true, laidLooks := .later }
def RegistryAppliesUptoCardSaid : Prop := Claim7.holds Tryz.pinned (.plain (OpenSpec.upto registryAppliesSpec)) registryAppliesUptoCard

/-- THE SECOND FORM's CARD OF 'wicketgatelaw15.RegistryOld'. -/
def registryOldUptoCard : Claim7 := { stood := { row := registryOldUptoRow, standIns := [], harness := (true, "7b063f57de069919cf679890c1fd952e91a4151f744b3b4f0803ed4a397b9bdd"), looks := true }, kinds := [], alts := [], laidByText := true, laidKinds := [.handle, .sentinel, .sentinel, .sentinel, .sentinel, .data], laidTests := true, laidLooks := .later }
def RegistryOldUptoCardSaid : Prop := Claim7.holds Tryz.pinned (.plain (OpenSpec.upto registryOldSpec)) registryOldUptoCard

/-- THE SECOND FORM's CARD OF 'wicketgatelaw15.RegistryDrains'. -/
def registryDrainsUptoCard : Claim7 := { stood := { row := registryDrainsUptoRow, standIns := [], harness := (true, "7b063f57de069919cf679890c1fd952e91a4151f744b3b4f0803ed4a397b9bdd"), looks := true }, kinds := [], alts := [], laidByText := true, laidKinds := [.handle, .sentinel, .sentinel, .sentinel, .sentinel, .data], laidTests := true, laidLooks := .later }
def RegistryDrainsUptoCardSaid : Prop := Claim7.holds Tryz.pinned (.plain (OpenSpec.upto registryDrainsSpec)) registryDrainsUptoCard

/-- THE SECOND FORM's CARD OF 'wicketgatelaw15.RegistryKeeps'. -/
def registryKeepsUptoCard : Claim7 := { stood := { row := registryKeepsUptoRow, standIns := [], harness := (true, "7b063f57de069919cf679890c1fd952e91a4151f744b3b4f0803ed4a397b9bdd"), looks := true }, kinds := [], alts := [], laidByText := true, laidKinds := [.handle, .sentinel, .sentinel, .sentinel, .sentinel, .data], laidTests := true, laidLooks := .later }
def RegistryKeepsUptoCardSaid : Prop := Claim7.holds Tryz.pinned (.plain (OpenSpec.upto registryKeepsSpec)) registryKeepsUptoCard

/-- THE SECOND FORM's CARD OF 'wicketgatelaw15.RegistryStates'. -/
def registryStatesUptoCard : Claim7 := { stood := { row := registryStatesUptoRow, standIns := [], harness := (true, "7b063f57de069919cf679890c1fd952e91a4151f744b3b4f0803ed4a397b9bdd"), looks := true }, kinds := [], alts := [], laidByText := true, laidKinds := [.handle, .sentinel, .sentinel, .sentinel, .sentinel, .data], laidTests := true, laidLooks := .later }
def RegistryStatesUptoCardSaid : Prop := Claim7.holds Tryz.pinned (.plain (OpenSpec.upto registryStatesSpec)) registryStatesUptoCard

/-- THE SECOND FORM's CARD OF 'wicketgatelaw15.RegistryRotates'. -/
def registryRotatesUptoCard : Claim7 := { stood := { row := registryRotatesUptoRow, standIns := [], harness := (true, "7b063f57de069919cf679890c1fd952e91a4151f744b3b4f0803ed4a397b9bdd"), looks := true }, kinds := [], alts := [], laidByText := true, laidKinds := [.handle, .sentinel, .sentinel, .sentinel, .sentinel, .data], laidTests := true, laidLooks := .later }
def RegistryRotatesUptoCardSaid : Prop := Claim7.holds Tryz.pinned (.plain (OpenSpec.upto registryRotatesSpec)) registryRotatesUptoCard

/-- THE SECOND FORM's CARD OF 'wicketgatelaw15.RegistryOthers'. -/
def registryOthersUptoCard : Claim7 := { stood := { row := registryOthersUptoRow, standIns := [], harness := (true, "7b063f57de069919cf679890c1fd952e91a4151f744b3b4f0803ed4a397b9bdd"), looks := true }, kinds := [], alts := [], laidByText := true, laidKinds := [.handle, .sentinel, .sentinel, .sentinel, .sentinel, .data], laidTests := true, laidLooks := .later }
def RegistryOthersUptoCardSaid : Prop := Claim7.holds Tryz.pinned (.plain (OpenSpec.upto registryOthersSpec)) registryOthersUptoCard

/-- THE SECOND FORM's CARD OF 'wicketgatelaw15.RegistryVersions'. -/
def registryVersionsUptoCard : Claim7 := { stood := { row := registryVersionsUptoRow, standIns := [], harness := (true, "7b063f57de069919cf679890c1fd952e91a4151f744b3b4f0803ed4a397b9bdd"), looks := true }, kinds := [], alts := [], laidByText := true, laidKinds := [.handle, .sentinel, .sentinel, .sentinel, .sentinel, .data], laidTests := true, laidLooks := .later }
def RegistryVersionsUptoCardSaid : Prop := Claim7.holds Tryz.pinned (.plain (OpenSpec.upto registryVersionsSpec)) registryVersionsUptoCard

/-- THE SECOND FORM's CARD OF 'wicketgatelaw15.RegistryReads'. -/
def registryReadsUptoCard : Claim7 := { stood := { row := registryReadsUptoRow, standIns := [], harness := (true, "7b063f57de069919cf679890c1fd952e91a4151f744b3b4f0803ed4a397b9bdd"), looks := true }, kinds := [], alts := [], laidByText := true, laidKinds := [.handle, .sentinel, .sentinel, .sentinel, .sentinel, .data], laidTests := true, laidLooks := .later }
def RegistryReadsUptoCardSaid : Prop := Claim7.holds Tryz.pinned (.plain (OpenSpec.upto registryReadsSpec)) registryReadsUptoCard

/-- THE SECOND FORM's CARD OF 'wicketgatelaw15.RegistryTells'. -/
def registryTellsUptoCard : Claim7 := { stood := { row := registryTellsUptoRow, standIns := [], harness := (true, "7b063f57de069919cf679890c1fd952e91a4151f744b3b4f0803ed4a397b9bdd"), looks := true }, kinds := [], alts := [], laidByText := true, laidKinds := [.handle, .sentinel, .sentinel, .sentinel, .sentinel, .data], laidTests := true, laidLooks := .later }
def RegistryTellsUptoCardSaid : Prop := Claim7.holds Tryz.pinned (.plain (OpenSpec.upto registryTellsSpec)) registryTellsUptoCard

/-- THE SECOND FORM's CARD OF 'wicketgatelaw15.RegistryCreates'. -/
def registryCreatesUptoCard : Claim7 := { stood := { row := registryCreatesUptoRow, standIns := [], harness := (true, "7b063f57de069919cf679890c1fd952e91a4151f744b3b4f0803ed4a397b9bdd"), looks := true }, kinds := [], alts := [], laidByText := true, laidKinds := [.handle, .sentinel, .sentinel, .sentinel, .sentinel, .data], laidTests := true, laidLooks := .later }
def RegistryCreatesUptoCardSaid : Prop := Claim7.holds Tryz.pinned (.plain (OpenSpec.upto registryCreatesSpec)) registryCreatesUptoCard
end Rows
end Go.Proofs.YtopjaeoklkpcpaaGreatDoor
