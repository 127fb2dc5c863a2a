/-
  NARROWER THAN 'FOR EVERY INPUT', by the rows' own cells (each row's printed sentence says how): RegistryApplies: laid · RegistryOld: laid · RegistryDrains: laid · RegistryKeeps: laid · RegistryStates: laid · RegistryRotates: laid · RegistryOthers: laid · RegistryVersions: laid · RegistryReads: laid · RegistryTells: laid · RegistryCreates: laid.
  DERIVED. THE GIVEN ROWS OF THIS SEAT. 11 by the template 'for every input the law returns true; each argument reads behind the call as it read before'; 0 by the template 'total and deterministic' (their statements: YtopjaeoklkpcpaaGreatDoorTotals.lean).
  GIVEN WITH THE SEED: the statements are not yours to turn. If you find one false, say at which input.
  Laid BY PROGRAM, IN A SANDBOX (cutbox-rows.mjs): the forced cells as the released guide's own fill.sh prints them over the translation 48d59a852642d274… (all of the seat's roots in one cut). By AI agents, Wed Nov 11 2026. No macro, syntax, notation, axiom, sorry.
-/
import Derived.Test.YtopjaeoklkpcpaaGreatDoorChecked
import GoSem.Claim
import GoSem.ClaimJoined
import GoSem.ClaimMapViews
import Derived.JoinedTies
import Derived.KernelRfl
namespace Go.Proofs.YtopjaeoklkpcpaaGreatDoor
/- THE CELL 'sum', in the pinned program and in every row, IS THE sha256 OF THE DUMP (.gsa) THAT YtopjaeoklkpcpaaGreatDoorProg.lean LOADS. Nothing in Lean hashes anything: it is a label: what it is worth is what the hold of that sum in a sandbox is worth. -/
noncomputable def Tryz.pinned : Pinned := { name := "ytopjaeoklkpcpaagreatdoor", sum := "48d59a852642d2745fa3c000b562458882ca9b5fef1ed033dd83b6655e03c730", checked := Tryz.checked }
namespace Rows
def none {H : Type} : Left H := { results := [], args := [] }

/- WHAT THE LISTED PACKAGE-LEVEL VARIABLES READ AS WHEN THE CALL BEGINS. Each datum BY PROGRAM (the guide's laid-datum.mjs) off the statement by which the dump's own 'gosem.cut.vars' lays the variable. In a bare row this is a premise. The card (YtopjaeoklkpcpaaGreatDoorCards.lean) ties it to the program's text. -/
def laid_errors_errorType {H : Type} : DataW H := .iface "internal/reflectlite.rtype" (.agg [.ptr (.lit (.string [101, 114, 114, 111, 114]))])
def laid_wicketgate_acl_errRules {H : Type} : DataW H := .iface "*errors.errorString" (.ptr (.agg [.lit (.string [110, 111, 32, 114, 117, 108, 101, 115])]))
def laid_wicketgate_acl_errRule {H : Type} : DataW H := .iface "*errors.errorString" (.ptr (.agg [.lit (.string [110, 111, 32, 114, 117, 108, 101])]))
def laid_wicketgate_acl_errPlace {H : Type} : DataW H := .iface "*errors.errorString" (.ptr (.agg [.lit (.string [110, 111, 32, 112, 108, 97, 99, 101])]))
def laid_wicketgate_acl_errTarget {H : Type} : DataW H := .iface "*errors.errorString" (.ptr (.agg [.lit (.string [110, 111, 32, 116, 97, 114, 103, 101, 116])]))
def laid_wicketgate_roles_verbs {H : Type} : DataW H := .agg [.agg [.lit (.int .i64 1), .lit (.string [99, 114, 101, 97, 116, 101]), .lit (.int .i64 4)], .agg [.lit (.int .i64 2), .lit (.string [115, 117, 115, 112, 101, 110, 100]), .lit (.int .i64 2)], .agg [.lit (.int .i64 3), .lit (.string [114, 101, 115, 117, 109, 101]), .lit (.int .i64 2)], .agg [.lit (.int .i64 4), .lit (.string [100, 114, 97, 105, 110]), .lit (.int .i64 2)], .agg [.lit (.int .i64 5), .lit (.string [100, 101, 108, 101, 116, 101]), .lit (.int .i64 4)], .agg [.lit (.int .i64 6), .lit (.string [114, 111, 116, 97, 116, 101]), .lit (.int .i64 4)], .agg [.lit (.int .i64 7), .lit (.string [97, 99, 108]), .lit (.int .i64 4)], .agg [.lit (.int .i64 8), .lit (.string [107, 105, 108, 108]), .lit (.int .i64 2)], .agg [.lit (.int .i64 9), .lit (.string [108, 105, 115, 116]), .lit (.int .i64 1)], .agg [.lit (.int .i64 10), .lit (.string [115, 104, 111, 119]), .lit (.int .i64 1)]]

/-- 'wicketgatelaw15.RegistryApplies': WHATEVER THE INPUT: true; the input reads as it did. -/
def registryAppliesSpec : ChangeSpec := { name := "registryApplies", fn := fun _ => fun
  | [d1, d2, d3, d4] => { results := [.lit (.bool true)], args := [d1, d2, d3, d4] }
  | _ => none }
def registryAppliesRow : OpenClaim := { program := "ytopjaeoklkpcpaagreatdoor", sum := "48d59a852642d2745fa3c000b562458882ca9b5fef1ed033dd83b6655e03c730", func := "wicketgate/wicketgatelaw15.RegistryApplies", spec := "registryApplies", inPlace := ["internal/reflectlite.ValueOf", "(internal/reflectlite.Value).Type", "(internal/reflectlite.Value).IsNil", "internal/reflectlite.TypeOf", "(internal/reflectlite.Value).Elem", "(internal/reflectlite.Value).Set", "slices.overlaps[wicketgate/api.Rule]"], unfollowed := true, recurses := true, named := ["wicketgate/roles.verbs", "errors.errorType", "wicketgate/acl.errRules", "wicketgate/acl.errRule", "wicketgate/acl.errPlace", "wicketgate/acl.errTarget"], apart := false, laid := [("errors.errorType", laid_errors_errorType), ("wicketgate/acl.errRules", laid_wicketgate_acl_errRules), ("wicketgate/acl.errRule", laid_wicketgate_acl_errRule), ("wicketgate/acl.errPlace", laid_wicketgate_acl_errPlace), ("wicketgate/acl.errTarget", laid_wicketgate_acl_errTarget), ("wicketgate/roles.verbs", laid_wicketgate_roles_verbs)] }
def RegistryAppliesSaid : Prop := registryAppliesRow.holds Tryz.pinned (OpenSpec.ofChange registryAppliesSpec)

/-- ITS FALSE NEIGHBOUR: 'it returns false'. Refute it at one input. -/
def registryAppliesWrong : ChangeSpec := { name := "registryApplies", fn := fun _ => fun
  | [d1, d2, d3, d4] => { results := [.lit (.bool false)], args := [d1, d2, d3, d4] }
  | _ => none }
def RegistryAppliesWrongFalsely : Prop := registryAppliesRow.holds Tryz.pinned (OpenSpec.ofChange registryAppliesWrong)

/-- 'wicketgatelaw15.RegistryOld': WHATEVER THE INPUT: true; the input reads as it did. -/
def registryOldSpec : ChangeSpec := { name := "registryOld", fn := fun _ => fun
  | [d1, d2, d3] => { results := [.lit (.bool true)], args := [d1, d2, d3] }
  | _ => none }
def registryOldRow : OpenClaim := { program := "ytopjaeoklkpcpaagreatdoor", sum := "48d59a852642d2745fa3c000b562458882ca9b5fef1ed033dd83b6655e03c730", func := "wicketgate/wicketgatelaw15.RegistryOld", spec := "registryOld", inPlace := ["internal/reflectlite.ValueOf", "(internal/reflectlite.Value).Type", "(internal/reflectlite.Value).IsNil", "internal/reflectlite.TypeOf", "(internal/reflectlite.Value).Elem", "(internal/reflectlite.Value).Set", "slices.overlaps[wicketgate/api.Rule]"], unfollowed := true, recurses := true, named := ["wicketgate/roles.verbs", "errors.errorType", "wicketgate/acl.errRules", "wicketgate/acl.errRule", "wicketgate/acl.errPlace", "wicketgate/acl.errTarget"], apart := false, laid := [("errors.errorType", laid_errors_errorType), ("wicketgate/acl.errRules", laid_wicketgate_acl_errRules), ("wicketgate/acl.errRule", laid_wicketgate_acl_errRule), ("wicketgate/acl.errPlace", laid_wicketgate_acl_errPlace), ("wicketgate/acl.errTarget", laid_wicketgate_acl_errTarget), ("wicketgate/roles.verbs", laid_wicketgate_roles_verbs)] }
def RegistryOldSaid : Prop := registryOldRow.holds Tryz.pinned (OpenSpec.ofChange registryOldSpec)

/-- ITS FALSE NEIGHBOUR: 'it returns false'. Refute it at one input. -/
def registryOldWrong : ChangeSpec := { name := "registryOld", fn := fun _ => fun
  | [d1, d2, d3] => { results := [.lit (.bool false)], args := [d1, d2, d3] }
  | _ => none }
def RegistryOldWrongFalsely : Prop := registryOldRow.holds Tryz.pinned (OpenSpec.ofChange registryOldWrong)

/-- 'wicketgatelaw15.RegistryDrains': WHATEVER THE INPUT: true; the input reads as it did. -/
def registryDrainsSpec : ChangeSpec := { name := "registryDrains", fn := fun _ => fun
  | [d1, d2, d3, d4] => { results := [.lit (.bool true)], args := [d1, d2, d3, d4] }
  | _ => none }
def registryDrainsRow : OpenClaim := { program := "ytopjaeoklkpcpaagreatdoor", sum := "48d59a852642d2745fa3c000b562458882ca9b5fef1ed033dd83b6655e03c730", func := "wicketgate/wicketgatelaw15.RegistryDrains", spec := "registryDrains", inPlace := ["internal/reflectlite.ValueOf", "(internal/reflectlite.Value).Type", "(internal/reflectlite.Value).IsNil", "internal/reflectlite.TypeOf", "(internal/reflectlite.Value).Elem", "(internal/reflectlite.Value).Set", "slices.overlaps[wicketgate/api.Rule]"], unfollowed := true, recurses := true, named := ["wicketgate/roles.verbs", "errors.errorType", "wicketgate/acl.errRules", "wicketgate/acl.errRule", "wicketgate/acl.errPlace", "wicketgate/acl.errTarget"], apart := false, laid := [("errors.errorType", laid_errors_errorType), ("wicketgate/acl.errRules", laid_wicketgate_acl_errRules), ("wicketgate/acl.errRule", laid_wicketgate_acl_errRule), ("wicketgate/acl.errPlace", laid_wicketgate_acl_errPlace), ("wicketgate/acl.errTarget", laid_wicketgate_acl_errTarget), ("wicketgate/roles.verbs", laid_wicketgate_roles_verbs)] }
def RegistryDrainsSaid : Prop := registryDrainsRow.holds Tryz.pinned (OpenSpec.ofChange registryDrainsSpec)

/-- ITS FALSE NEIGHBOUR: 'it returns false'. Refute it at one input. -/
def registryDrainsWrong : ChangeSpec := { name := "registryDrains", fn := fun _ => fun
  | [d1, d2, d3, d4] => { results := [.lit (.bool false)], args := [d1, d2, d3, d4] }
  | _ => none }
def RegistryDrainsWrongFalsely : Prop := registryDrainsRow.holds Tryz.pinned (OpenSpec.ofChange registryDrainsWrong)

/-- 'wicketgatelaw15.RegistryKeeps': WHATEVER THE INPUT: true; the input reads as it did. -/
def registryKeepsSpec : ChangeSpec := { name := "registryKeeps", fn := fun _ => fun
  | [d1, d2, d3, d4] => { results := [.lit (.bool true)], args := [d1, d2, d3, d4] }
  | _ => none }
def registryKeepsRow : OpenClaim := { program := "ytopjaeoklkpcpaagreatdoor", sum := "48d59a852642d2745fa3c000b562458882ca9b5fef1ed033dd83b6655e03c730", func := "wicketgate/wicketgatelaw15.RegistryKeeps", spec := "registryKeeps", inPlace := ["internal/reflectlite.ValueOf", "(internal/reflectlite.Value).Type", "(internal/reflectlite.Value).IsNil", "internal/reflectlite.TypeOf", "(internal/reflectlite.Value).Elem", "(internal/reflectlite.Value).Set", "slices.overlaps[wicketgate/api.Rule]"], unfollowed := true, recurses := true, named := ["wicketgate/roles.verbs", "errors.errorType", "wicketgate/acl.errRules", "wicketgate/acl.errRule", "wicketgate/acl.errPlace", "wicketgate/acl.errTarget"], apart := false, laid := [("errors.errorType", laid_errors_errorType), ("wicketgate/acl.errRules", laid_wicketgate_acl_errRules), ("wicketgate/acl.errRule", laid_wicketgate_acl_errRule), ("wicketgate/acl.errPlace", laid_wicketgate_acl_errPlace), ("wicketgate/acl.errTarget", laid_wicketgate_acl_errTarget), ("wicketgate/roles.verbs", laid_wicketgate_roles_verbs)] }
def RegistryKeepsSaid : Prop := registryKeepsRow.holds Tryz.pinned (OpenSpec.ofChange registryKeepsSpec)

/-- ITS FALSE NEIGHBOUR: 'it returns false'. Refute it at one input. -/
def registryKeepsWrong : ChangeSpec := { name := "registryKeeps", fn := fun _ => fun
  | [d1, d2, d3, d4] => { results := [.lit (.bool false)], args := [d1, d2, d3, d4] }
  | _ => none }
def RegistryKeepsWrongFalsely : Prop := registryKeepsRow.holds Tryz.pinned (OpenSpec.ofChange registryKeepsWrong)

/-- 'wicketgatelaw15.RegistryStates': WHATEVER THE INPUT: true; the input reads as it did. -/
def registryStatesSpec : ChangeSpec := { name := "registryStates", fn := fun _ => fun
  | [d1, d2, d3, d4] => { results := [.lit (.bool true)], args := [d1, d2, d3, d4] }
  | _ => none }
def registryStatesRow : OpenClaim := { program := "ytopjaeoklkpcpaagreatdoor", sum := "48d59a852642d2745fa3c000b562458882ca9b5fef1ed033dd83b6655e03c730", func := "wicketgate/wicketgatelaw15.RegistryStates", spec := "registryStates", inPlace := ["internal/reflectlite.ValueOf", "(internal/reflectlite.Value).Type", "(internal/reflectlite.Value).IsNil", "internal/reflectlite.TypeOf", "(internal/reflectlite.Value).Elem", "(internal/reflectlite.Value).Set", "slices.overlaps[wicketgate/api.Rule]"], unfollowed := true, recurses := true, named := ["wicketgate/roles.verbs", "errors.errorType", "wicketgate/acl.errRules", "wicketgate/acl.errRule", "wicketgate/acl.errPlace", "wicketgate/acl.errTarget"], apart := false, laid := [("errors.errorType", laid_errors_errorType), ("wicketgate/acl.errRules", laid_wicketgate_acl_errRules), ("wicketgate/acl.errRule", laid_wicketgate_acl_errRule), ("wicketgate/acl.errPlace", laid_wicketgate_acl_errPlace), ("wicketgate/acl.errTarget", laid_wicketgate_acl_errTarget), ("wicketgate/roles.verbs", laid_wicketgate_roles_verbs)] }
def RegistryStatesSaid : Prop := registryStatesRow.holds Tryz.pinned (OpenSpec.ofChange registryStatesSpec)

/-- ITS FALSE NEIGHBOUR: 'it returns false'. Refute it at one input. -/
def registryStatesWrong : ChangeSpec := { name := "registryStates", fn := fun _ => fun
  | [d1, d2, d3, d4] => { results := [.lit (.bool false)], args := [d1, d2, d3, d4] }
  | _ => none }
def RegistryStatesWrongFalsely : Prop := registryStatesRow.holds Tryz.pinned (OpenSpec.ofChange registryStatesWrong)

/-- 'wicketgatelaw15.RegistryRotates': WHATEVER THE INPUT: true; the input reads as it did. -/
def registryRotatesSpec : ChangeSpec := { name := "registryRotates", fn := fun _ => fun
  | [d1, d2, d3] => { results := [.lit (.bool true)], args := [d1, d2, d3] }
  | _ => none }
def registryRotatesRow : OpenClaim := { program := "ytopjaeoklkpcpaagreatdoor", sum := "48d59a852642d2745fa3c000b562458882ca9b5fef1ed033dd83b6655e03c730", func := "wicketgate/wicketgatelaw15.RegistryRotates", spec := "registryRotates", inPlace := ["internal/reflectlite.ValueOf", "(internal/reflectlite.Value).Type", "(internal/reflectlite.Value).IsNil", "internal/reflectlite.TypeOf", "(internal/reflectlite.Value).Elem", "(internal/reflectlite.Value).Set", "slices.overlaps[wicketgate/api.Rule]"], unfollowed := true, recurses := true, named := ["wicketgate/roles.verbs", "errors.errorType", "wicketgate/acl.errRules", "wicketgate/acl.errRule", "wicketgate/acl.errPlace", "wicketgate/acl.errTarget"], apart := false, laid := [("errors.errorType", laid_errors_errorType), ("wicketgate/acl.errRules", laid_wicketgate_acl_errRules), ("wicketgate/acl.errRule", laid_wicketgate_acl_errRule), ("wicketgate/acl.errPlace", laid_wicketgate_acl_errPlace), ("wicketgate/acl.errTarget", laid_wicketgate_acl_errTarget), ("wicketgate/roles.verbs", laid_wicketgate_roles_verbs)] }
def RegistryRotatesSaid : Prop := registryRotatesRow.holds Tryz.pinned (OpenSpec.ofChange registryRotatesSpec)

/-- ITS FALSE NEIGHBOUR: 'it returns false'. Refute it at one input. -/
def registryRotatesWrong : ChangeSpec := { name := "registryRotates", fn := fun _ => fun
  | [d1, d2, d3] => { results := [.lit (.bool false)], args := [d1, d2, d3] }
  | _ => none }
def RegistryRotatesWrongFalsely : Prop := registryRotatesRow.holds Tryz.pinned (OpenSpec.ofChange registryRotatesWrong)

/-- 'wicketgatelaw15.RegistryOthers': WHATEVER THE INPUT: true; the input reads as it did. -/
def registryOthersSpec : ChangeSpec := { name := "registryOthers", fn := fun _ => fun
  | [d1, d2, d3, d4, d5] => { results := [.lit (.bool true)], args := [d1, d2, d3, d4, d5] }
  | _ => none }
def registryOthersRow : OpenClaim := { program := "ytopjaeoklkpcpaagreatdoor", sum := "48d59a852642d2745fa3c000b562458882ca9b5fef1ed033dd83b6655e03c730", func := "wicketgate/wicketgatelaw15.RegistryOthers", spec := "registryOthers", inPlace := ["internal/reflectlite.ValueOf", "(internal/reflectlite.Value).Type", "(internal/reflectlite.Value).IsNil", "internal/reflectlite.TypeOf", "(internal/reflectlite.Value).Elem", "(internal/reflectlite.Value).Set", "slices.overlaps[wicketgate/api.Rule]"], unfollowed := true, recurses := true, named := ["wicketgate/roles.verbs", "errors.errorType", "wicketgate/acl.errRules", "wicketgate/acl.errRule", "wicketgate/acl.errPlace", "wicketgate/acl.errTarget"], apart := false, laid := [("errors.errorType", laid_errors_errorType), ("wicketgate/acl.errRules", laid_wicketgate_acl_errRules), ("wicketgate/acl.errRule", laid_wicketgate_acl_errRule), ("wicketgate/acl.errPlace", laid_wicketgate_acl_errPlace), ("wicketgate/acl.errTarget", laid_wicketgate_acl_errTarget), ("wicketgate/roles.verbs", laid_wicketgate_roles_verbs)] }
def RegistryOthersSaid : Prop := registryOthersRow.holds Tryz.pinned (OpenSpec.ofChange registryOthersSpec)

/-- ITS FALSE NEIGHBOUR: 'it returns false'. Refute it at one input. -/
def registryOthersWrong : ChangeSpec := { name := "registryOthers", fn := fun _ => fun
  | [d1, d2, d3, d4, d5] => { results := [.lit (.bool false)], args := [d1, d2, d3, d4, d5] }
  | _ => none }
def RegistryOthersWrongFalsely : Prop := registryOthersRow.holds Tryz.pinned (OpenSpec.ofChange registryOthersWrong)

/-- 'wicketgatelaw15.RegistryVersions': WHATEVER THE INPUT: true; the input reads as it did. -/
def registryVersionsSpec : ChangeSpec := { name := "registryVersions", fn := fun _ => fun
  | [d1, d2, d3, d4] => { results := [.lit (.bool true)], args := [d1, d2, d3, d4] }
  | _ => none }
def registryVersionsRow : OpenClaim := { program := "ytopjaeoklkpcpaagreatdoor", sum := "48d59a852642d2745fa3c000b562458882ca9b5fef1ed033dd83b6655e03c730", func := "wicketgate/wicketgatelaw15.RegistryVersions", spec := "registryVersions", inPlace := ["internal/reflectlite.ValueOf", "(internal/reflectlite.Value).Type", "(internal/reflectlite.Value).IsNil", "internal/reflectlite.TypeOf", "(internal/reflectlite.Value).Elem", "(internal/reflectlite.Value).Set", "slices.overlaps[wicketgate/api.Rule]"], unfollowed := true, recurses := true, named := ["wicketgate/roles.verbs", "errors.errorType", "wicketgate/acl.errRules", "wicketgate/acl.errRule", "wicketgate/acl.errPlace", "wicketgate/acl.errTarget"], apart := false, laid := [("errors.errorType", laid_errors_errorType), ("wicketgate/acl.errRules", laid_wicketgate_acl_errRules), ("wicketgate/acl.errRule", laid_wicketgate_acl_errRule), ("wicketgate/acl.errPlace", laid_wicketgate_acl_errPlace), ("wicketgate/acl.errTarget", laid_wicketgate_acl_errTarget), ("wicketgate/roles.verbs", laid_wicketgate_roles_verbs)] }
def RegistryVersionsSaid : Prop := registryVersionsRow.holds Tryz.pinned (OpenSpec.ofChange registryVersionsSpec)

/-- ITS FALSE NEIGHBOUR: 'it returns false'. Refute it at one input. -/
def registryVersionsWrong : ChangeSpec := { name := "registryVersions", fn := fun _ => fun
  | [d1, d2, d3, d4] => { results := [.lit (.bool false)], args := [d1, d2, d3, d4] }
  | _ => none }
def RegistryVersionsWrongFalsely : Prop := registryVersionsRow.holds Tryz.pinned (OpenSpec.ofChange registryVersionsWrong)

/-- 'wicketgatelaw15.RegistryReads': WHATEVER THE INPUT: true; the input reads as it did. -/
def registryReadsSpec : ChangeSpec := { name := "registryReads", fn := fun _ => fun
  | [d1, d2, d3, d4, d5] => { results := [.lit (.bool true)], args := [d1, d2, d3, d4, d5] }
  | _ => none }
def registryReadsRow : OpenClaim := { program := "ytopjaeoklkpcpaagreatdoor", sum := "48d59a852642d2745fa3c000b562458882ca9b5fef1ed033dd83b6655e03c730", func := "wicketgate/wicketgatelaw15.RegistryReads", spec := "registryReads", inPlace := ["internal/reflectlite.ValueOf", "(internal/reflectlite.Value).Type", "(internal/reflectlite.Value).IsNil", "internal/reflectlite.TypeOf", "(internal/reflectlite.Value).Elem", "(internal/reflectlite.Value).Set", "slices.overlaps[wicketgate/api.Rule]"], unfollowed := true, recurses := true, named := ["wicketgate/roles.verbs", "errors.errorType", "wicketgate/acl.errRules", "wicketgate/acl.errRule", "wicketgate/acl.errPlace", "wicketgate/acl.errTarget"], apart := false, laid := [("errors.errorType", laid_errors_errorType), ("wicketgate/acl.errRules", laid_wicketgate_acl_errRules), ("wicketgate/acl.errRule", laid_wicketgate_acl_errRule), ("wicketgate/acl.errPlace", laid_wicketgate_acl_errPlace), ("wicketgate/acl.errTarget", laid_wicketgate_acl_errTarget), ("wicketgate/roles.verbs", laid_wicketgate_roles_verbs)] }
def RegistryReadsSaid : Prop := registryReadsRow.holds Tryz.pinned (OpenSpec.ofChange registryReadsSpec)

/-- ITS FALSE NEIGHBOUR: 'it returns false'. Refute it at one input. -/
def registryReadsWrong : ChangeSpec := { name := "registryReads", fn := fun _ => fun
  | [d1, d2, d3, d4, d5] => { results := [.lit (.bool false)], args := [d1, d2, d3, d4, d5] }
  | _ => none }
def RegistryReadsWrongFalsely : Prop := registryReadsRow.holds Tryz.pinned (OpenSpec.ofChange registryReadsWrong)

/-- 'wicketgatelaw15.RegistryTells': WHATEVER THE INPUT: true; the input reads as it did. -/
def registryTellsSpec : ChangeSpec := { name := "registryTells", fn := fun _ => fun
  | [d1, d2, d3, d4] => { results := [.lit (.bool true)], args := [d1, d2, d3, d4] }
  | _ => none }
def registryTellsRow : OpenClaim := { program := "ytopjaeoklkpcpaagreatdoor", sum := "48d59a852642d2745fa3c000b562458882ca9b5fef1ed033dd83b6655e03c730", func := "wicketgate/wicketgatelaw15.RegistryTells", spec := "registryTells", inPlace := ["internal/reflectlite.ValueOf", "(internal/reflectlite.Value).Type", "(internal/reflectlite.Value).IsNil", "internal/reflectlite.TypeOf", "(internal/reflectlite.Value).Elem", "(internal/reflectlite.Value).Set", "slices.overlaps[wicketgate/api.Rule]"], unfollowed := true, recurses := true, named := ["wicketgate/roles.verbs", "errors.errorType", "wicketgate/acl.errRules", "wicketgate/acl.errRule", "wicketgate/acl.errPlace", "wicketgate/acl.errTarget"], apart := false, laid := [("errors.errorType", laid_errors_errorType), ("wicketgate/acl.errRules", laid_wicketgate_acl_errRules), ("wicketgate/acl.errRule", laid_wicketgate_acl_errRule), ("wicketgate/acl.errPlace", laid_wicketgate_acl_errPlace), ("wicketgate/acl.errTarget", laid_wicketgate_acl_errTarget), ("wicketgate/roles.verbs", laid_wicketgate_roles_verbs)] }
def RegistryTellsSaid : Prop := registryTellsRow.holds Tryz.pinned (OpenSpec.ofChange registryTellsSpec)

/-- ITS FALSE NEIGHBOUR: 'it returns false'. Refute it at one input. -/
def registryTellsWrong : ChangeSpec := { name := "registryTells", fn := fun _ => fun
  | [d1, d2, d3, d4] => { results := [.lit (.bool false)], args := [d1, d2, d3, d4] }
  | _ => none }
def RegistryTellsWrongFalsely : Prop := registryTellsRow.holds Tryz.pinned (OpenSpec.ofChange registryTellsWrong)

/-- 'wicketgatelaw15.RegistryCreates': WHATEVER THE INPUT: true; the input reads as it did. -/
def registryCreatesSpec : ChangeSpec := { name := "registryCreates", fn := fun _ => fun
  | [d1, d2, d3] => { results := [.lit (.bool true)], args := [d1, d2, d3] }
  | _ => none }
def registryCreatesRow : OpenClaim := { program := "ytopjaeoklkpcpaagreatdoor", sum := "48d59a852642d2745fa3c000b562458882ca9b5fef1ed033dd83b6655e03c730", func := "wicketgate/wicketgatelaw15.RegistryCreates", spec := "registryCreates", inPlace := ["internal/reflectlite.ValueOf", "(internal/reflectlite.Value).Type", "(internal/reflectlite.Value).IsNil", "internal/reflectlite.TypeOf", "(internal/reflectlite.Value).Elem", "(internal/reflectlite.Value).Set", "slices.overlaps[wicketgate/api.Rule]"], unfollowed := true, recurses := true, named := ["wicketgate/roles.verbs", "errors.errorType", "wicketgate/acl.errRules", "wicketgate/acl.errRule", "wicketgate/acl.errPlace", "wicketgate/acl.errTarget"], apart := false, laid := [("errors.errorType", laid_errors_errorType), ("wicketgate/acl.errRules", laid_wicketgate_acl_errRules), ("wicketgate/acl.errRule", laid_wicketgate_acl_errRule), ("wicketgate/acl.errPlace", laid_wicketgate_acl_errPlace), ("wicketgate/acl.errTarget", laid_wicketgate_acl_errTarget), ("wicketgate/roles.verbs", laid_wicketgate_roles_verbs)] }
def RegistryCreatesSaid : Prop := registryCreatesRow.holds Tryz.pinned (OpenSpec.ofChange registryCreatesSpec)

/-- ITS FALSE NEIGHBOUR: 'it returns false'. Refute it at one input. -/
def registryCreatesWrong : ChangeSpec := { name := "registryCreates", fn := fun _ => fun
  | [d1, d2, d3] => { results := [.lit (.bool false)], args := [d1, d2, d3] }
  | _ => none }
def RegistryCreatesWrongFalsely : Prop := registryCreatesRow.holds Tryz.pinned (OpenSpec.ofChange registryCreatesWrong)

/- THE SECOND FORM. 'bulk': how many values and letters a reading holds, each counted each time it is reached (what is shared counts as often as it is met; a slice's spare places count too). A statement '..UptoSaid' is the law's where the arguments, and the package variables that the reading takes, are together of bulk at most 1048576: NARROWER than '..Said'. Prove '..Said' where nothing that the law and all that it calls make is longer than what came in: it says more and counts as full. Else prove '..UptoSaid'. A law counts once. -/
mutual
def uptoBulk {H : Type} : DataW H → Nat
  | .lit (.string bytes) => bytes.length + 1
  | .lit _ => 1
  | .nil => 1
  | .ptr d => uptoBulk d + 1
  | .slice elems spare => uptoBulkAll elems + uptoBulkAll spare + 1
  | .agg parts => uptoBulkAll parts + 1
  | .iface _ d => uptoBulk d + 1
  | .map entries => uptoBulkEntries entries + 1
  | .held _ => 1
def uptoBulkAll {H : Type} : List (DataW H) → Nat
  | [] => 0
  | d :: r => uptoBulk d + uptoBulkAll r
def uptoBulkEntries {H : Type} : List (Lit × DataW H) → Nat
  | [] => 0
  | x :: r => uptoBulkEntry x + uptoBulkEntries r
def uptoBulkEntry {H : Type} : Lit × DataW H → Nat
  | (.string bytes, d) => bytes.length + uptoBulk d + 1
  | (_, d) => uptoBulk d + 1
 end
def uptoSmall : (H : Type) → List (DataW H) → Bool := fun _ ds => decide (uptoBulkAll ds ≤ 1048576)
def OpenSpec.upto (s : _root_.Go.ChangeSpec) : _root_.Go.OpenSpec := { _root_.Go.OpenSpec.ofChange s with cond := some uptoSmall }

/-- 'wicketgatelaw15.RegistryApplies', WHERE WHAT IT READS IS OF BULK AT MOST 1048576: true; the input reads as it did. -/
def registryAppliesUptoRow : OpenClaim := { program := "ytopjaeoklkpcpaagreatdoor", sum := "48d59a852642d2745fa3c000b562458882ca9b5fef1ed033dd83b6655e03c730", func := "wicketgate/wicketgatelaw15.RegistryApplies", spec := "registryApplies", inPlace := ["internal/reflectlite.ValueOf", "(internal/reflectlite.Value).Type", "(internal/reflectlite.Value).IsNil", "internal/reflectlite.TypeOf", "(internal/reflectlite.Value).Elem", "(internal/reflectlite.Value).Set", "slices.overlaps[wicketgate/api.Rule]"], unfollowed := true, recurses := true, named := ["wicketgate/roles.verbs", "errors.errorType", "wicketgate/acl.errRules", "wicketgate/acl.errRule", "wicketgate/acl.errPlace", "wicketgate/acl.errTarget"], apart := false, laid := [("errors.errorType", laid_errors_errorType), ("wicketgate/acl.errRules", laid_wicketgate_acl_errRules), ("wicketgate/acl.errRule", laid_wicketgate_acl_errRule), ("wicketgate/acl.errPlace", laid_wicketgate_acl_errPlace), ("wicketgate/acl.errTarget", laid_wicketgate_acl_errTarget), ("wicketgate/roles.verbs", laid_wicketgate_roles_verbs)], narrowed := true }
def RegistryAppliesUptoSaid : Prop := registryAppliesUptoRow.holds Tryz.pinned (OpenSpec.upto registryAppliesSpec)

/-- 'wicketgatelaw15.RegistryOld', WHERE WHAT IT READS IS OF BULK AT MOST 1048576: true; the input reads as it did. -/
def registryOldUptoRow : OpenClaim := { program := "ytopjaeoklkpcpaagreatdoor", sum := "48d59a852642d2745fa3c000b562458882ca9b5fef1ed033dd83b6655e03c730", func := "wicketgate/wicketgatelaw15.RegistryOld", spec := "registryOld", inPlace := ["internal/reflectlite.ValueOf", "(internal/reflectlite.Value).Type", "(internal/reflectlite.Value).IsNil", "internal/reflectlite.TypeOf", "(internal/reflectlite.Value).Elem", "(internal/reflectlite.Value).Set", "slices.overlaps[wicketgate/api.Rule]"], unfollowed := true, recurses := true, named := ["wicketgate/roles.verbs", "errors.errorType", "wicketgate/acl.errRules", "wicketgate/acl.errRule", "wicketgate/acl.errPlace", "wicketgate/acl.errTarget"], apart := false, laid := [("errors.errorType", laid_errors_errorType), ("wicketgate/acl.errRules", laid_wicketgate_acl_errRules), ("wicketgate/acl.errRule", laid_wicketgate_acl_errRule), ("wicketgate/acl.errPlace", laid_wicketgate_acl_errPlace), ("wicketgate/acl.errTarget", laid_wicketgate_acl_errTarget), ("wicketgate/roles.verbs", laid_wicketgate_roles_verbs)], narrowed := true }
def RegistryOldUptoSaid : Prop := registryOldUptoRow.holds Tryz.pinned (OpenSpec.upto registryOldSpec)

/-- 'wicketgatelaw15.RegistryDrains', WHERE WHAT IT READS IS OF BULK AT MOST 1048576: true; the input reads as it did. -/
def registryDrainsUptoRow : OpenClaim := { program := "ytopjaeoklkpcpaagreatdoor", sum := "48d59a852642d2745fa3c000b562458882ca9b5fef1ed033dd83b6655e03c730", func := "wicketgate/wicketgatelaw15.RegistryDrains", spec := "registryDrains", inPlace := ["internal/reflectlite.ValueOf", "(internal/reflectlite.Value).Type", "(internal/reflectlite.Value).IsNil", "internal/reflectlite.TypeOf", "(internal/reflectlite.Value).Elem", "(internal/reflectlite.Value).Set", "slices.overlaps[wicketgate/api.Rule]"], unfollowed := true, recurses := true, named := ["wicketgate/roles.verbs", "errors.errorType", "wicketgate/acl.errRules", "wicketgate/acl.errRule", "wicketgate/acl.errPlace", "wicketgate/acl.errTarget"], apart := false, laid := [("errors.errorType", laid_errors_errorType), ("wicketgate/acl.errRules", laid_wicketgate_acl_errRules), ("wicketgate/acl.errRule", laid_wicketgate_acl_errRule), ("wicketgate/acl.errPlace", laid_wicketgate_acl_errPlace), ("wicketgate/acl.errTarget", laid_wicketgate_acl_errTarget), ("wicketgate/roles.verbs", laid_wicketgate_roles_verbs)], narrowed := true }
def RegistryDrainsUptoSaid : Prop := registryDrainsUptoRow.holds Tryz.pinned (OpenSpec.upto registryDrainsSpec)

/-- 'wicketgatelaw15.RegistryKeeps', WHERE WHAT IT READS IS OF BULK AT MOST 1048576: true; the input reads as it did. -/
def registryKeepsUptoRow : OpenClaim := { program := "ytopjaeoklkpcpaagreatdoor", sum := "48d59a852642d2745fa3c000b562458882ca9b5fef1ed033dd83b6655e03c730", func := "wicketgate/wicketgatelaw15.RegistryKeeps", spec := "registryKeeps", inPlace := ["internal/reflectlite.ValueOf", "(internal/reflectlite.Value).Type", "(internal/reflectlite.Value).IsNil", "internal/reflectlite.TypeOf", "(internal/reflectlite.Value).Elem", "(internal/reflectlite.Value).Set", "slices.overlaps[wicketgate/api.Rule]"], unfollowed := true, recurses := true, named := ["wicketgate/roles.verbs", "errors.errorType", "wicketgate/acl.errRules", "wicketgate/acl.errRule", "wicketgate/acl.errPlace", "wicketgate/acl.errTarget"], apart := false, laid := [("errors.errorType", laid_errors_errorType), ("wicketgate/acl.errRules", laid_wicketgate_acl_errRules), ("wicketgate/acl.errRule", laid_wicketgate_acl_errRule), ("wicketgate/acl.errPlace", laid_wicketgate_acl_errPlace), ("wicketgate/acl.errTarget", laid_wicketgate_acl_errTarget), ("wicketgate/roles.verbs", laid_wicketgate_roles_verbs)], narrowed := true }
def RegistryKeepsUptoSaid : Prop := registryKeepsUptoRow.holds Tryz.pinned (OpenSpec.upto registryKeepsSpec)

/-- 'wicketgatelaw15.RegistryStates', WHERE WHAT IT READS IS OF BULK AT MOST 1048576: true; the input reads as it did. -/
def registryStatesUptoRow : OpenClaim := { program := "ytopjaeoklkpcpaagreatdoor", sum := "48d59a852642d2745fa3c000b562458882ca9b5fef1ed033dd83b6655e03c730", func := "wicketgate/wicketgatelaw15.RegistryStates", spec := "registryStates", inPlace := ["internal/reflectlite.ValueOf", "(internal/reflectlite.Value).Type", "(internal/reflectlite.Value).IsNil", "internal/reflectlite.TypeOf", "(internal/reflectlite.Value).Elem", "(internal/reflectlite.Value).Set", "slices.overlaps[wicketgate/api.Rule]"], unfollowed := true, recurses := true, named := ["wicketgate/roles.verbs", "errors.errorType", "wicketgate/acl.errRules", "wicketgate/acl.errRule", "wicketgate/acl.errPlace", "wicketgate/acl.errTarget"], apart := false, laid := [("errors.errorType", laid_errors_errorType), ("wicketgate/acl.errRules", laid_wicketgate_acl_errRules), ("wicketgate/acl.errRule", laid_wicketgate_acl_errRule), ("wicketgate/acl.errPlace", laid_wicketgate_acl_errPlace), ("wicketgate/acl.errTarget", laid_wicketgate_acl_errTarget), ("wicketgate/roles.verbs", laid_wicketgate_roles_verbs)], narrowed := true }
def RegistryStatesUptoSaid : Prop := registryStatesUptoRow.holds Tryz.pinned (OpenSpec.upto registryStatesSpec)

/-- 'wicketgatelaw15.RegistryRotates', WHERE WHAT IT READS IS OF BULK AT MOST 1048576: true; the input reads as it did. -/
def registryRotatesUptoRow : OpenClaim := { program := "ytopjaeoklkpcpaagreatdoor", sum := "48d59a852642d2745fa3c000b562458882ca9b5fef1ed033dd83b6655e03c730", func := "wicketgate/wicketgatelaw15.RegistryRotates", spec := "registryRotates", inPlace := ["internal/reflectlite.ValueOf", "(internal/reflectlite.Value).Type", "(internal/reflectlite.Value).IsNil", "internal/reflectlite.TypeOf", "(internal/reflectlite.Value).Elem", "(internal/reflectlite.Value).Set", "slices.overlaps[wicketgate/api.Rule]"], unfollowed := true, recurses := true, named := ["wicketgate/roles.verbs", "errors.errorType", "wicketgate/acl.errRules", "wicketgate/acl.errRule", "wicketgate/acl.errPlace", "wicketgate/acl.errTarget"], apart := false, laid := [("errors.errorType", laid_errors_errorType), ("wicketgate/acl.errRules", laid_wicketgate_acl_errRules), ("wicketgate/acl.errRule", laid_wicketgate_acl_errRule), ("wicketgate/acl.errPlace", laid_wicketgate_acl_errPlace), ("wicketgate/acl.errTarget", laid_wicketgate_acl_errTarget), ("wicketgate/roles.verbs", laid_wicketgate_roles_verbs)], narrowed := true }
def RegistryRotatesUptoSaid : Prop := registryRotatesUptoRow.holds Tryz.pinned (OpenSpec.upto registryRotatesSpec)

/-- 'wicketgatelaw15.RegistryOthers', WHERE WHAT IT READS IS OF BULK AT MOST 1048576: true; the input reads as it did. -/
def registryOthersUptoRow : OpenClaim := { program := "ytopjaeoklkpcpaagreatdoor", sum := "48d59a852642d2745fa3c000b562458882ca9b5fef1ed033dd83b6655e03c730", func := "wicketgate/wicketgatelaw15.RegistryOthers", spec := "registryOthers", inPlace := ["internal/reflectlite.ValueOf", "(internal/reflectlite.Value).Type", "(internal/reflectlite.Value).IsNil", "internal/reflectlite.TypeOf", "(internal/reflectlite.Value).Elem", "(internal/reflectlite.Value).Set", "slices.overlaps[wicketgate/api.Rule]"], unfollowed := true, recurses := true, named := ["wicketgate/roles.verbs", "errors.errorType", "wicketgate/acl.errRules", "wicketgate/acl.errRule", "wicketgate/acl.errPlace", "wicketgate/acl.errTarget"], apart := false, laid := [("errors.errorType", laid_errors_errorType), ("wicketgate/acl.errRules", laid_wicketgate_acl_errRules), ("wicketgate/acl.errRule", laid_wicketgate_acl_errRule), ("wicketgate/acl.errPlace", laid_wicketgate_acl_errPlace), ("wicketgate/acl.errTarget", laid_wicketgate_acl_errTarget), ("wicketgate/roles.verbs", laid_wicketgate_roles_verbs)], narrowed := true }
def RegistryOthersUptoSaid : Prop := registryOthersUptoRow.holds Tryz.pinned (OpenSpec.upto registryOthersSpec)

/-- 'wicketgatelaw15.RegistryVersions', WHERE WHAT IT READS IS OF BULK AT MOST 1048576: true; the input reads as it did. -/
def registryVersionsUptoRow : OpenClaim := { program := "ytopjaeoklkpcpaagreatdoor", sum := "48d59a852642d2745fa3c000b562458882ca9b5fef1ed033dd83b6655e03c730", func := "wicketgate/wicketgatelaw15.RegistryVersions", spec := "registryVersions", inPlace := ["internal/reflectlite.ValueOf", "(internal/reflectlite.Value).Type", "(internal/reflectlite.Value).IsNil", "internal/reflectlite.TypeOf", "(internal/reflectlite.Value).Elem", "(internal/reflectlite.Value).Set", "slices.overlaps[wicketgate/api.Rule]"], unfollowed := true, recurses := true, named := ["wicketgate/roles.verbs", "errors.errorType", "wicketgate/acl.errRules", "wicketgate/acl.errRule", "wicketgate/acl.errPlace", "wicketgate/acl.errTarget"], apart := false, laid := [("errors.errorType", laid_errors_errorType), ("wicketgate/acl.errRules", laid_wicketgate_acl_errRules), ("wicketgate/acl.errRule", laid_wicketgate_acl_errRule), ("wicketgate/acl.errPlace", laid_wicketgate_acl_errPlace), ("wicketgate/acl.errTarget", laid_wicketgate_acl_errTarget), ("wicketgate/roles.verbs", laid_wicketgate_roles_verbs)], narrowed := true }
def RegistryVersionsUptoSaid : Prop := registryVersionsUptoRow.holds Tryz.pinned (OpenSpec.upto registryVersionsSpec)

/-- 'wicketgatelaw15.RegistryReads', WHERE WHAT IT READS IS OF BULK AT MOST 1048576: true; the input reads as it did. -/
def registryReadsUptoRow : OpenClaim := { program := "ytopjaeoklkpcpaagreatdoor", sum := "48d59a852642d2745fa3c000b562458882ca9b5fef1ed033dd83b6655e03c730", func := "wicketgate/wicketgatelaw15.RegistryReads", spec := "registryReads", inPlace := ["internal/reflectlite.ValueOf", "(internal/reflectlite.Value).Type", "(internal/reflectlite.Value).IsNil", "internal/reflectlite.TypeOf", "(internal/reflectlite.Value).Elem", "(internal/reflectlite.Value).Set", "slices.overlaps[wicketgate/api.Rule]"], unfollowed := true, recurses := true, named := ["wicketgate/roles.verbs", "errors.errorType", "wicketgate/acl.errRules", "wicketgate/acl.errRule", "wicketgate/acl.errPlace", "wicketgate/acl.errTarget"], apart := false, laid := [("errors.errorType", laid_errors_errorType), ("wicketgate/acl.errRules", laid_wicketgate_acl_errRules), ("wicketgate/acl.errRule", laid_wicketgate_acl_errRule), ("wicketgate/acl.errPlace", laid_wicketgate_acl_errPlace), ("wicketgate/acl.errTarget", laid_wicketgate_acl_errTarget), ("wicketgate/roles.verbs", laid_wicketgate_roles_verbs)], narrowed := true }
def RegistryReadsUptoSaid : Prop := registryReadsUptoRow.holds Tryz.pinned (OpenSpec.upto registryReadsSpec)

/-- 'wicketgatelaw15.RegistryTells', WHERE WHAT IT READS IS OF BULK AT MOST 1048576: true; the input reads as it did. -/
def registryTellsUptoRow : OpenClaim := { program := "ytopjaeoklkpcpaagreatdoor", sum := "48d59a852642d2745fa3c000b562458882ca9b5fef1ed033dd83b6655e03c730", func := "wicketgate/wicketgatelaw15.RegistryTells", spec := "registryTells", inPlace := ["internal/reflectlite.ValueOf", "(internal/reflectlite.Value).Type", "(internal/reflectlite.Value).IsNil", "internal/reflectlite.TypeOf", "(internal/reflectlite.Value).Elem", "(internal/reflectlite.Value).Set", "slices.overlaps[wicketgate/api.Rule]"], unfollowed := true, recurses := true, named := ["wicketgate/roles.verbs", "errors.errorType", "wicketgate/acl.errRules", "wicketgate/acl.errRule", "wicketgate/acl.errPlace", "wicketgate/acl.errTarget"], apart := false, laid := [("errors.errorType", laid_errors_errorType), ("wicketgate/acl.errRules", laid_wicketgate_acl_errRules), ("wicketgate/acl.errRule", laid_wicketgate_acl_errRule), ("wicketgate/acl.errPlace", laid_wicketgate_acl_errPlace), ("wicketgate/acl.errTarget", laid_wicketgate_acl_errTarget), ("wicketgate/roles.verbs", laid_wicketgate_roles_verbs)], narrowed := true }
def RegistryTellsUptoSaid : Prop := registryTellsUptoRow.holds Tryz.pinned (OpenSpec.upto registryTellsSpec)

/-- 'wicketgatelaw15.RegistryCreates', WHERE WHAT IT READS IS OF BULK AT MOST 1048576: true; the input reads as it did. -/
def registryCreatesUptoRow : OpenClaim := { program := "ytopjaeoklkpcpaagreatdoor", sum := "48d59a852642d2745fa3c000b562458882ca9b5fef1ed033dd83b6655e03c730", func := "wicketgate/wicketgatelaw15.RegistryCreates", spec := "registryCreates", inPlace := ["internal/reflectlite.ValueOf", "(internal/reflectlite.Value).Type", "(internal/reflectlite.Value).IsNil", "internal/reflectlite.TypeOf", "(internal/reflectlite.Value).Elem", "(internal/reflectlite.Value).Set", "slices.overlaps[wicketgate/api.Rule]"], unfollowed := true, recurses := true, named := ["wicketgate/roles.verbs", "errors.errorType", "wicketgate/acl.errRules", "wicketgate/acl.errRule", "wicketgate/acl.errPlace", "wicketgate/acl.errTarget"], apart := false, laid := [("errors.errorType", laid_errors_errorType), ("wicketgate/acl.errRules", laid_wicketgate_acl_errRules), ("wicketgate/acl.errRule", laid_wicketgate_acl_errRule), ("wicketgate/acl.errPlace", laid_wicketgate_acl_errPlace), ("wicketgate/acl.errTarget", laid_wicketgate_acl_errTarget), ("wicketgate/roles.verbs", laid_wicketgate_roles_verbs)], narrowed := true }
def RegistryCreatesUptoSaid : Prop := registryCreatesUptoRow.holds Tryz.pinned (OpenSpec.upto registryCreatesSpec)

end Rows
end Go.Proofs.YtopjaeoklkpcpaaGreatDoor
