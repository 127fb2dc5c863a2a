/- The law of this text is proved here. Its conditions: none. -/
import Derived.Test.YtnblakihpoacjaaGreatDoorCards
import Derived.Test.YtnblakihpoacjaaGreatDoorTie
import Derived.Test.YtnblakihpoacjaaGreatDoorP6
import Derived.Test.YtnblakihpoacjaaGreatDoorJCXAclAhead
import Derived.Test.YtnblakihpoacjaaGreatDoorP2
namespace Go.Proofs.YtnblakihpoacjaaGreatDoor
open Go.Proofs Go.Proofs.YtnblakihpoacjaaGreatDoor.Jd
open Go.ChangeShapes Go.WideShapes Go.ChangeAt Go.RowKit Go.ChangeMaps
set_option maxRecDepth 100000
set_option linter.unusedVariables false
set_option linter.unusedSimpArgs false
theorem gl_of {W : World} (h : laidMetH Tryz.prog Rows.aclAheadRow.laid W) (hsh : W.ShapedOpen Tryz.prog) : Gl W := by
  have h2 : laidMet Tryz.prog laidD W ∧ handlesMet Tryz.prog [("errors.errorType", Rows.laid_errors_errorType)] W := h
  have h := h2.1
  exact ⟨Tryz.laysM145.s1_3 W hsh, Lib.tabIs_of_head (rest := [("wicketgate/ports.errPorts", Rows.laid_wicketgate_ports_errPorts), ("wicketgate/ports.errTarget", Rows.laid_wicketgate_ports_errTarget), ("wicketgate/acl.errRules", Rows.laid_wicketgate_acl_errRules), ("wicketgate/acl.errRule", Rows.laid_wicketgate_acl_errRule), ("wicketgate/acl.errPlace", Rows.laid_wicketgate_acl_errPlace), ("wicketgate/acl.errTarget", Rows.laid_wicketgate_acl_errTarget)]) (g := 8) (by kernel_rfl) (by kernel_rfl) Tryz.underlying232 Tryz.underlying213 (by kernel_rfl) (by kernel_rfl) (laidMet_tail (laidMet_tail h)), handle_at h2.2 List.mem_cons_self rfl rfl (by kernel_rfl) (by kernel_rfl) (N := 273) (by kernel_rfl) (by kernel_rfl) (by kernel_rfl)⟩
theorem er_of {W : World} (h : laidMetH Tryz.prog Rows.aclAheadRow.laid W) : ∃ ea0 ea1 ea2 ea3 ea4 ea5 : Addr, Er W ea0 ea1 ea2 ea3 ea4 ea5 := by
  have h2 : laidMet Tryz.prog laidD W ∧ handlesMet Tryz.prog [("errors.errorType", Rows.laid_errors_errorType)] W := h
  have h := h2.1
  obtain ⟨ea0, v0, b0⟩ := sent_one (laidMet.tail (laidMet.tail (laidMet.tail h))) ern0 ert0 Tryz.underlying57 er_row Tryz.underlying242 Tryz.underlying261 rfl rfl Tryz.underlying9 er_c1 er_c2
  obtain ⟨ea1, v1, b1⟩ := sent_one (laidMet.tail (laidMet.tail (laidMet.tail (laidMet.tail h)))) ern1 ert1 Tryz.underlying57 er_row Tryz.underlying242 Tryz.underlying261 rfl rfl Tryz.underlying9 er_c1 er_c2
  obtain ⟨ea2, v2, b2⟩ := sent_one (laidMet.tail (laidMet.tail (laidMet.tail (laidMet.tail (laidMet.tail h))))) ern2 ert2 Tryz.underlying57 er_row Tryz.underlying242 Tryz.underlying261 rfl rfl Tryz.underlying9 er_c1 er_c2
  obtain ⟨ea3, v3, b3⟩ := sent_one (laidMet.tail (laidMet.tail (laidMet.tail (laidMet.tail (laidMet.tail (laidMet.tail h)))))) ern3 ert3 Tryz.underlying57 er_row Tryz.underlying242 Tryz.underlying261 rfl rfl Tryz.underlying9 er_c1 er_c2
  obtain ⟨ea4, v4, b4⟩ := sent_one (laidMet.tail (laidMet.tail (laidMet.tail (laidMet.tail (laidMet.tail (laidMet.tail (laidMet.tail h))))))) ern4 ert4 Tryz.underlying57 er_row Tryz.underlying242 Tryz.underlying261 rfl rfl Tryz.underlying9 er_c1 er_c2
  obtain ⟨ea5, v5, b5⟩ := sent_one (laidMet.tail (laidMet.tail (laidMet.tail (laidMet.tail (laidMet.tail (laidMet.tail (laidMet.tail (laidMet.tail h)))))))) ern5 ert5 Tryz.underlying57 er_row Tryz.underlying242 Tryz.underlying261 rfl rfl Tryz.underlying9 er_c1 er_c2
  have n0_1 : ea0 ≠ ea1 := sent_ne (laidMet.tail (laidMet.tail (laidMet.tail h))) ern0 ert0 ern1 ert1 Tryz.underlying57 er_row Tryz.underlying242 Tryz.underlying261 rfl rfl Tryz.underlying9 er_c1 er_c2 v0 v1
  have n0_2 : ea0 ≠ ea2 := sent_ne (laidMet_skip (laidMet.tail (laidMet.tail (laidMet.tail h)))) ern0 ert0 ern2 ert2 Tryz.underlying57 er_row Tryz.underlying242 Tryz.underlying261 rfl rfl Tryz.underlying9 er_c1 er_c2 v0 v2
  have n0_3 : ea0 ≠ ea3 := sent_ne (laidMet_skip (laidMet_skip (laidMet.tail (laidMet.tail (laidMet.tail h))))) ern0 ert0 ern3 ert3 Tryz.underlying57 er_row Tryz.underlying242 Tryz.underlying261 rfl rfl Tryz.underlying9 er_c1 er_c2 v0 v3
  have n0_4 : ea0 ≠ ea4 := sent_ne (laidMet_skip (laidMet_skip (laidMet_skip (laidMet.tail (laidMet.tail (laidMet.tail h)))))) ern0 ert0 ern4 ert4 Tryz.underlying57 er_row Tryz.underlying242 Tryz.underlying261 rfl rfl Tryz.underlying9 er_c1 er_c2 v0 v4
  have n0_5 : ea0 ≠ ea5 := sent_ne (laidMet_skip (laidMet_skip (laidMet_skip (laidMet_skip (laidMet.tail (laidMet.tail (laidMet.tail h))))))) ern0 ert0 ern5 ert5 Tryz.underlying57 er_row Tryz.underlying242 Tryz.underlying261 rfl rfl Tryz.underlying9 er_c1 er_c2 v0 v5
  have n1_2 : ea1 ≠ ea2 := sent_ne (laidMet.tail (laidMet.tail (laidMet.tail (laidMet.tail h)))) ern1 ert1 ern2 ert2 Tryz.underlying57 er_row Tryz.underlying242 Tryz.underlying261 rfl rfl Tryz.underlying9 er_c1 er_c2 v1 v2
  have n1_3 : ea1 ≠ ea3 := sent_ne (laidMet_skip (laidMet.tail (laidMet.tail (laidMet.tail (laidMet.tail h))))) ern1 ert1 ern3 ert3 Tryz.underlying57 er_row Tryz.underlying242 Tryz.underlying261 rfl rfl Tryz.underlying9 er_c1 er_c2 v1 v3
  have n1_4 : ea1 ≠ ea4 := sent_ne (laidMet_skip (laidMet_skip (laidMet.tail (laidMet.tail (laidMet.tail (laidMet.tail h)))))) ern1 ert1 ern4 ert4 Tryz.underlying57 er_row Tryz.underlying242 Tryz.underlying261 rfl rfl Tryz.underlying9 er_c1 er_c2 v1 v4
  have n1_5 : ea1 ≠ ea5 := sent_ne (laidMet_skip (laidMet_skip (laidMet_skip (laidMet.tail (laidMet.tail (laidMet.tail (laidMet.tail h))))))) ern1 ert1 ern5 ert5 Tryz.underlying57 er_row Tryz.underlying242 Tryz.underlying261 rfl rfl Tryz.underlying9 er_c1 er_c2 v1 v5
  have n2_3 : ea2 ≠ ea3 := sent_ne (laidMet.tail (laidMet.tail (laidMet.tail (laidMet.tail (laidMet.tail h))))) ern2 ert2 ern3 ert3 Tryz.underlying57 er_row Tryz.underlying242 Tryz.underlying261 rfl rfl Tryz.underlying9 er_c1 er_c2 v2 v3
  have n2_4 : ea2 ≠ ea4 := sent_ne (laidMet_skip (laidMet.tail (laidMet.tail (laidMet.tail (laidMet.tail (laidMet.tail h)))))) ern2 ert2 ern4 ert4 Tryz.underlying57 er_row Tryz.underlying242 Tryz.underlying261 rfl rfl Tryz.underlying9 er_c1 er_c2 v2 v4
  have n2_5 : ea2 ≠ ea5 := sent_ne (laidMet_skip (laidMet_skip (laidMet.tail (laidMet.tail (laidMet.tail (laidMet.tail (laidMet.tail h))))))) ern2 ert2 ern5 ert5 Tryz.underlying57 er_row Tryz.underlying242 Tryz.underlying261 rfl rfl Tryz.underlying9 er_c1 er_c2 v2 v5
  have n3_4 : ea3 ≠ ea4 := sent_ne (laidMet.tail (laidMet.tail (laidMet.tail (laidMet.tail (laidMet.tail (laidMet.tail h)))))) ern3 ert3 ern4 ert4 Tryz.underlying57 er_row Tryz.underlying242 Tryz.underlying261 rfl rfl Tryz.underlying9 er_c1 er_c2 v3 v4
  have n3_5 : ea3 ≠ ea5 := sent_ne (laidMet_skip (laidMet.tail (laidMet.tail (laidMet.tail (laidMet.tail (laidMet.tail (laidMet.tail h))))))) ern3 ert3 ern5 ert5 Tryz.underlying57 er_row Tryz.underlying242 Tryz.underlying261 rfl rfl Tryz.underlying9 er_c1 er_c2 v3 v5
  have n4_5 : ea4 ≠ ea5 := sent_ne (laidMet.tail (laidMet.tail (laidMet.tail (laidMet.tail (laidMet.tail (laidMet.tail (laidMet.tail h))))))) ern4 ert4 ern5 ert5 Tryz.underlying57 er_row Tryz.underlying242 Tryz.underlying261 rfl rfl Tryz.underlying9 er_c1 er_c2 v4 v5
  exact ⟨ea0, ea1, ea2, ea3, ea4, ea5, ⟨v0, b0, v1, b1, v2, b2, v3, b3, v4, b4, v5, b5, n0_1, n0_2, n0_3, n0_4, n0_5, n0_1.symm, n1_2, n1_3, n1_4, n1_5, n0_2.symm, n1_2.symm, n2_3, n2_4, n2_5, n0_3.symm, n1_3.symm, n2_3.symm, n3_4, n3_5, n0_4.symm, n1_4.symm, n2_4.symm, n3_4.symm, n4_5, n0_5.symm, n1_5.symm, n2_5.symm, n3_5.symm, n4_5.symm⟩⟩
theorem aclAhead_contract (H : Type) (enc : TypeId × Value → H) (W : World) (base : Nat) (args : Array Value) (ds gs : List (DataW H)) (before : List MemPlace)
    (hval : ∀ (j : Nat) t v, Tryz.f7.params[j]? = some t → args[j]? = some v → Value.okWide Tryz.prog W .any base t v)
    (hW : DataW.Whole enc Tryz.prog Tryz.f7.params.toList Rows.aclAheadSpec.vars false W args.toList ds gs before) (hG : Gl W) (hE : ∃ ea0 ea1 ea2 ea3 ea4 ea5 : Addr, Er W ea0 ea1 ea2 ea3 ea4 ea5) :
    Calls Tryz.prog 7 args W fun e W' => ∃ v, e = .returned v ∧ Rows.aclAheadSpec.post enc Tryz.prog Tryz.f7 false true false false W args v W' := by
  obtain ⟨ea0, ea1, ea2, ea3, ea4, ea5, hE⟩ := hE
  have hW' := hW
  obtain ⟨p, q, hA, hV, rfl, hfz, hnd⟩ := hW
  rw [Tryz.params7] at hA hval
  obtain ⟨v0, vs0, d0, ds0, p0, q0, hargs, rfl, rfl, h0, r0⟩ := trodAll_cons hA
  obtain ⟨v1, vs1, d1, ds1, p1, q1, rfl, rfl, rfl, h1, r1⟩ := trodAll_cons r0
  obtain ⟨v2, vs2, d2, ds2, p2, q2, rfl, rfl, rfl, h2, r2⟩ := trodAll_cons r1
  obtain ⟨v3, vs3, d3, ds3, p3, q3, rfl, rfl, rfl, h3, r3⟩ := trodAll_cons r2
  obtain ⟨rfl, rfl, rfl⟩ := trodAll_nil r3
  obtain rfl : args = #[v0, v1, v2, v3] := by cases args; simp_all
  obtain ⟨ua0, un0, uc0, rfl⟩ := okWide_slice Tryz.underlying36 (hval 0 36 v0 rfl rfl)
  obtain ⟨m0, h0⟩ := h0
  obtain ⟨x0_0, x0_1, x0_2, z0, y0_0, y0_1⟩ := open_36 h0
  obtain ⟨rfl, rfl, rfl⟩ : ua0 = x0_0 ∧ un0 = x0_2.length ∧ uc0 = x0_1 := by simpa [Value.cells] using z0
  obtain ⟨cs1, rfl, _⟩ := okWide_struct Tryz.underlying39 (hval 1 39 v1 rfl rfl)
  obtain ⟨m1, h1⟩ := h1
  obtain ⟨x1_0, x1_1, z1, y1_0, y1_1⟩ := open_39 h1
  obtain rfl : cs1 = [Value.int .i64 x1_0, Value.int .i64 x1_1].toArray := by rw [← z1]; simp [Value.cells]
  obtain ⟨x2, rfl, _, _, w2⟩ := open_int Tryz.underlying3 (hval 2 3 v2 rfl rfl) h2
  obtain ⟨cs3, rfl, _⟩ := okWide_struct Tryz.underlying27 (hval 3 27 v3 rfl rfl)
  obtain ⟨m3, h3⟩ := h3
  obtain ⟨x3_0, x3_1, x3_2, x3_3, x3_4, z3, y3_0, y3_1, y3_2, y3_3⟩ := open_27 h3
  obtain rfl : cs3 = [Value.bool x3_0, Value.int .i64 x3_1, Value.int .i64 x3_2, Value.int .i64 x3_3, Value.int .i64 x3_4].toArray := by rw [← z3]; simp [Value.cells]
  have hwalk := lAclAhead_ok W (l := x0_2) (t := (Target.mk x1_0 x1_1)) (at_ := x2) (r := (Rule.mk x3_0 (Prefix.mk x3_1 x3_2) (PortsT.mk x3_3 x3_4))) (l_a := ua0) (l_c := uc0) y0_1 (y0_0) hG hE
  rw [show (lAclAhead x0_2 (Target.mk x1_0 x1_1) x2 (Rule.mk x3_0 (Prefix.mk x3_1 x3_2) (PortsT.mk x3_3 x3_4))) = true from (lAclAhead_true _ _ _ _)] at hwalk
  refine hwalk.mono fun e W' ⟨he, hE⟩ => ⟨_, he, ?_⟩
  exact law_post laidOut (by kernel_rfl) rfl Tryz.underlying4 rfl (fun ds hds => by
    match ds, hds with
    | [a0, a1, a2, a3], _ => exact ⟨rfl, rfl, rfl⟩) hW' hE

theorem aclAhead_laid_met (os : Os) : laidMetH Tryz.prog Rows.aclAheadRow.laid ((laidWorld os).forCall (fun _ _ => 0) ⟨#[], #[.slice none 0 0, .agg #[.int .i64 0, .int .i64 0], .int .i64 0, .agg #[.bool false, .int .i64 0, .int .i64 0, .int .i64 0, .int .i64 0]], []⟩).memory :=
  laidMetH_of_parts (by rw [show (Rows.aclAheadRow.laid.filter fun x => x.2.handleName?.isNone) = laidD by kernel_rfl]; exact laidMet_from (laidW0 os) _ (by kernel_rfl) (by kernel_rfl)) (by kernel_rfl)
theorem aclAhead_reads (os : Os) {H : Type} (enc : TypeId × Value → H) : ∃ ds, ∃ places, DataW.whole enc Tryz.prog ((laidWorld os).forCall (fun _ _ => 0) ⟨#[], #[.slice none 0 0, .agg #[.int .i64 0, .int .i64 0], .int .i64 0, .agg #[.bool false, .int .i64 0, .int .i64 0, .int .i64 0, .int .i64 0]], []⟩).memory Tryz.f7.params.toList Rows.aclAheadSpec.vars false (#[.slice none 0 0, .agg #[.int .i64 0, .int .i64 0], .int .i64 0, .agg #[.bool false, .int .i64 0, .int .i64 0, .int .i64 0, .int .i64 0]] : Array Value).toList 8 = some (ds, [], places) :=
  ⟨[.nil, .agg [.lit (.int .i64 0), .lit (.int .i64 0)], .lit (.int .i64 0), .agg [.lit (.bool false), .agg [.lit (.int .i64 0), .lit (.int .i64 0)], .agg [.lit (.int .i64 0), .lit (.int .i64 0)]]], [], by kernel_rfl⟩
set_option maxRecDepth 100000 in
theorem aclAhead_lifted (os : Os) (started : os.Started) (H : Type) (enc : TypeId × Value → H) (F : Stop.Interp) :
    ReturnsInHanded {} Tryz.checked os 7 .any ((OpenSpec.ofChange Rows.aclAheadSpec).preRow enc Tryz.prog Tryz.f7 Rows.aclAheadRow.domain false Rows.aclAheadRow.laid) (((OpenSpec.ofChange Rows.aclAheadSpec).at F).post enc Tryz.prog Tryz.f7 false true false false) := by
  obtain ⟨ds0, places, hx⟩ := aclAhead_reads os enc
  refine returnsInHanded_of_row (C := Tryz.checked) (s := OpenSpec.ofChange Rows.aclAheadSpec) own' started (by kernel_rfl) Tryz.func7
    (witness_row_at (enc := enc) (C := Tryz.checked) false (laidWorld os) #[.slice none 0 0, .agg #[.int .i64 0, .int .i64 0], .int .i64 0, .agg #[.bool false, .int .i64 0, .int .i64 0, .int .i64 0, .int .i64 0]] rfl (by kernel_rfl) (by kernel_rfl) (by kernel_rfl)
      (OpenSpec.preRow_of_cond 8 hx (by kernel_rfl) (fun k hk => by cases hk) (by kernel_rfl) (aclAhead_laid_met os))) ?_
  intro W base args ds gs before hval hW _ _ _ hL hsh _
  exact aclAhead_contract H enc W base args ds gs before hval hW (gl_of hL hsh) (er_of hL)
theorem aclAhead_said : Rows.AclAheadSaid :=
  OpenClaim.holds_of_cond 7 Tryz.f7 rfl rfl rfl rfl rfl rfl rfl ⟨rfl, rfl, rfl, rfl, rfl⟩ rfl rfl rfl rfl rfl (by kernel_rfl) Tryz.func7 (by kernel_rfl)
    (of_decide_eq_true (by kernel_rfl)) (by unfold Func.isWrapper; first | (rw [if_pos (by decide +kernel)]; kernel_rfl) | (rw [if_neg (by decide +kernel)]; exact ⟨rfl, rfl⟩))
    (fun os started H enc _ F => by rw [OpenClaim.pre_eq_preRow]; exact aclAhead_lifted os started H enc F)
theorem aclAhead_plain (f : FuncId) (fn : Func) (hf : Tryz.pinned.checked.prog.funcNamed "wicketgate/wicketgatelaw08.AclAhead" = some f) (hfn : Tryz.pinned.checked.prog.funcs[f]? = some fn) :
    true = Tryz.pinned.checked.prog.looks [] ∧ ∀ (j : Nat) t, fn.params[j]? = some t → Tryz.pinned.checked.prog.wantsStandIn t = false := by
  obtain rfl : f = 7 := Option.some.inj ((show Tryz.prog.funcNamed "wicketgate/wicketgatelaw08.AclAhead" = some 7 by kernel_rfl).symm.trans hf) |>.symm
  obtain rfl : fn = Tryz.f7 := (Option.some.inj (Tryz.func7.symm.trans hfn)).symm
  refine ⟨by kernel_rfl, fun j t ht => ?_⟩
  rw [Tryz.params7] at ht
  have hm := Array.mem_of_getElem? ht
  have hall : (#[36, 39, 3, 27] : Array TypeId).toList.all (fun t => !Tryz.prog.wantsStandIn t) = true := by kernel_rfl
  have := List.all_eq_true.1 hall t (by simpa using hm)
  have h9 : Tryz.prog.wantsStandIn t = false := by simpa using this
  exact h9
theorem aclAhead_card : Rows.AclAheadCardSaid :=
  Claim7.holds_tied_plain_at .later [] _ _ _ _ aclAhead_said (fun _ h => by cases h) (by kernel_rfl) (fun _ h => by cases h) aclAhead_row_tie rfl ⟨rfl, rfl⟩ (by kernel_rfl) rfl aclAhead_plain (by kernel_rfl)

end Go.Proofs.YtnblakihpoacjaaGreatDoor

