/- The law of this text is proved here. Its conditions: none. -/
import Derived.Test.YtopjaeoklkpcpaaGreatDoorP0
import Derived.Test.YtopjaeoklkpcpaaGreatDoorCards
import Derived.Test.YtopjaeoklkpcpaaGreatDoorTie
import Derived.Shelf.Slices.Equal
import Derived.Ground.Names2Prog
import Derived.Shelf.Slices.Clone
import Derived.Shelf.Slices.Empties2
import Derived.Test.YtopjaeoklkpcpaaGreatDoorProg
import Derived.Test.YtopjaeoklkpcpaaGreatDoorP5
import Derived.Test.YtopjaeoklkpcpaaGreatDoorP2
import Derived.Test.YtopjaeoklkpcpaaGreatDoorP3
import Derived.Test.YtopjaeoklkpcpaaGreatDoorP1
import Derived.Test.YtopjaeoklkpcpaaGreatDoorP19
import Derived.Test.YtopjaeoklkpcpaaGreatDoorP4
namespace Go.Proofs.YtopjaeoklkpcpaaGreatDoor
open Go.Proofs Go.Proofs.YtopjaeoklkpcpaaGreatDoor.Jd
open Go.ChangeShapes Go.WideShapes Go.ChangeAt Go.RowKit Go.ChangeMaps
set_option maxRecDepth 100000
set_option linter.unusedVariables false
set_option linter.unusedSimpArgs false
theorem gl_of {W : World} (h : laidMetH Tryz.prog Rows.registryStatesRow.laid W) (hsh : W.ShapedOpen Tryz.prog) : Gl W := by
  have h2 : laidMet Tryz.prog laidD W ∧ handlesMet Tryz.prog [("errors.errorType", Rows.laid_errors_errorType)] W := h
  have h := h2.1
  exact ⟨heap_of_var (g := 1) (by kernel_rfl) (rows_of_head (l := [(1, [99, 114, 101, 97, 116, 101], 4), (2, [115, 117, 115, 112, 101, 110, 100], 2), (3, [114, 101, 115, 117, 109, 101], 2), (4, [100, 114, 97, 105, 110], 2), (5, [100, 101, 108, 101, 116, 101], 4), (6, [114, 111, 116, 97, 116, 101], 4), (7, [97, 99, 108], 4), (8, [107, 105, 108, 108], 2), (9, [108, 105, 115, 116], 1), (10, [115, 104, 111, 119], 1)]) (rest := []) (g := 1) (by kernel_rfl) (by kernel_rfl) Tryz.underlying193 Tryz.underlying156 rfl (by kernel_rfl) (by kernel_rfl) rfl rfl rfl Tryz.underlying3 Tryz.underlying9 Tryz.underlying3 (by kernel_rfl) (by kernel_rfl) (by kernel_rfl) (by kernel_rfl) (laidMet_tail (laidMet_tail (laidMet_tail (laidMet_tail h))))), handle_at h2.2 List.mem_cons_self rfl rfl (by kernel_rfl) (by kernel_rfl) (N := 273) (by kernel_rfl) (by kernel_rfl) (by kernel_rfl)⟩
theorem er_of {W : World} (h : laidMetH Tryz.prog Rows.registryStatesRow.laid W) : ∃ ea0 ea1 ea2 ea3 : Addr, Er W ea0 ea1 ea2 ea3 := by
  have h2 : laidMet Tryz.prog laidD W ∧ handlesMet Tryz.prog [("errors.errorType", Rows.laid_errors_errorType)] W := h
  have h := h2.1
  obtain ⟨ea0, v0, b0⟩ := sent_one h ern0 ert0 Tryz.underlying78 er_row Tryz.underlying240 Tryz.underlying261 rfl rfl Tryz.underlying9 er_c1 er_c2
  obtain ⟨ea1, v1, b1⟩ := sent_one (laidMet.tail h) ern1 ert1 Tryz.underlying78 er_row Tryz.underlying240 Tryz.underlying261 rfl rfl Tryz.underlying9 er_c1 er_c2
  obtain ⟨ea2, v2, b2⟩ := sent_one (laidMet.tail (laidMet.tail h)) ern2 ert2 Tryz.underlying78 er_row Tryz.underlying240 Tryz.underlying261 rfl rfl Tryz.underlying9 er_c1 er_c2
  obtain ⟨ea3, v3, b3⟩ := sent_one (laidMet.tail (laidMet.tail (laidMet.tail h))) ern3 ert3 Tryz.underlying78 er_row Tryz.underlying240 Tryz.underlying261 rfl rfl Tryz.underlying9 er_c1 er_c2
  have n0_1 : ea0 ≠ ea1 := sent_ne h ern0 ert0 ern1 ert1 Tryz.underlying78 er_row Tryz.underlying240 Tryz.underlying261 rfl rfl Tryz.underlying9 er_c1 er_c2 v0 v1
  have n0_2 : ea0 ≠ ea2 := sent_ne (laidMet_skip h) ern0 ert0 ern2 ert2 Tryz.underlying78 er_row Tryz.underlying240 Tryz.underlying261 rfl rfl Tryz.underlying9 er_c1 er_c2 v0 v2
  have n0_3 : ea0 ≠ ea3 := sent_ne (laidMet_skip (laidMet_skip h)) ern0 ert0 ern3 ert3 Tryz.underlying78 er_row Tryz.underlying240 Tryz.underlying261 rfl rfl Tryz.underlying9 er_c1 er_c2 v0 v3
  have n1_2 : ea1 ≠ ea2 := sent_ne (laidMet.tail h) ern1 ert1 ern2 ert2 Tryz.underlying78 er_row Tryz.underlying240 Tryz.underlying261 rfl rfl Tryz.underlying9 er_c1 er_c2 v1 v2
  have n1_3 : ea1 ≠ ea3 := sent_ne (laidMet_skip (laidMet.tail h)) ern1 ert1 ern3 ert3 Tryz.underlying78 er_row Tryz.underlying240 Tryz.underlying261 rfl rfl Tryz.underlying9 er_c1 er_c2 v1 v3
  have n2_3 : ea2 ≠ ea3 := sent_ne (laidMet.tail (laidMet.tail h)) ern2 ert2 ern3 ert3 Tryz.underlying78 er_row Tryz.underlying240 Tryz.underlying261 rfl rfl Tryz.underlying9 er_c1 er_c2 v2 v3
  exact ⟨ea0, ea1, ea2, ea3, ⟨v0, b0, v1, b1, v2, b2, v3, b3, n0_1, n0_2, n0_3, n0_1.symm, n1_2, n1_3, n0_2.symm, n1_2.symm, n2_3, n0_3.symm, n1_3.symm, n2_3.symm⟩⟩
theorem registryStates_contract (H : Type) (enc : TypeId × Value → H) (W : World) (base : Nat) (args : Array Value) (ds gs : List (DataW H)) (before : List MemPlace)
    (hval : ∀ (j : Nat) t v, Tryz.f7.params[j]? = some t → args[j]? = some v → Value.okWide Tryz.prog W .any base t v)
    (hW : DataW.Whole enc Tryz.prog Tryz.f7.params.toList Rows.registryStatesSpec.vars false W args.toList ds gs before) (hG : Gl W) (hE : ∃ ea0 ea1 ea2 ea3 : Addr, Er W ea0 ea1 ea2 ea3) :
    Calls Tryz.prog 7 args W fun e W' => ∃ v, e = .returned v ∧ Rows.registryStatesSpec.post enc Tryz.prog Tryz.f7 false true false false W args v W' := by
  obtain ⟨ea0, ea1, ea2, ea3, hE⟩ := hE
  have hW' := hW
  obtain ⟨p, q, hA, hV, rfl, hfz, hnd⟩ := hW
  rw [Tryz.params7] at hA hval
  obtain ⟨v0, vs0, d0, ds0, p0, q0, hargs, rfl, rfl, h0, r0⟩ := trodAll_cons hA
  obtain ⟨v1, vs1, d1, ds1, p1, q1, rfl, rfl, rfl, h1, r1⟩ := trodAll_cons r0
  obtain ⟨v2, vs2, d2, ds2, p2, q2, rfl, rfl, rfl, h2, r2⟩ := trodAll_cons r1
  obtain ⟨v3, vs3, d3, ds3, p3, q3, rfl, rfl, rfl, h3, r3⟩ := trodAll_cons r2
  obtain ⟨rfl, rfl, rfl⟩ := trodAll_nil r3
  obtain rfl : args = #[v0, v1, v2, v3] := by cases args; simp_all
  obtain ⟨cs0, rfl, _⟩ := okWide_struct Tryz.underlying28 (hval 0 28 v0 rfl rfl)
  obtain ⟨m0, h0⟩ := h0
  obtain ⟨x0_0, x0_1, x0_2, x0_3, x0_4, x0_5, x0_6, x0_7, x0_8, x0_9, x0_10, x0_11, x0_12, x0_13, z0, y0_0, y0_1, y0_2, y0_3, y0_4, y0_5, y0_6, y0_7, y0_8⟩ := open_28 h0
  obtain rfl : cs0 = [Value.slice x0_0 x0_2.length x0_1, Value.slice x0_3 x0_5.length x0_4, Value.slice x0_6 x0_8.length x0_7, Value.slice x0_9 x0_11.length x0_10, Value.int .i64 x0_13].toArray := by rw [← z0]; simp [Value.cells]
  obtain ⟨u1, rfl, _⟩ := open_string Tryz.underlying9 (hval 1 9 v1 rfl rfl) h1
  obtain ⟨x1, rfl⟩ : ∃ x : Str, u1 = bs x := ⟨u1.data.toList, bs_of u1⟩
  obtain ⟨x2, rfl, _, _, w2⟩ := open_int Tryz.underlying3 (hval 2 3 v2 rfl rfl) h2
  obtain ⟨x3, rfl, _, _, w3⟩ := open_int Tryz.underlying3 (hval 3 3 v3 rfl rfl) h3
  have hwalk := lRegistryStates_ok W (r := (Registry.mk (Slots.mk x0_2 x0_5 x0_8) x0_11 x0_13)) (name := x1) (now := x2) (n_ := x3) y0_1 (y0_0) y0_3 (y0_2) y0_5 (y0_4) y0_7 (y0_6) hG hE
  rw [show (lRegistryStates (Registry.mk (Slots.mk x0_2 x0_5 x0_8) x0_11 x0_13) x1 x2 x3) = true from (lRegistryStates_true _ _ _ _)] at hwalk
  refine hwalk.mono fun e W' ⟨he, hE⟩ => ⟨_, he, ?_⟩
  exact law_post laidOut (by kernel_rfl) rfl Tryz.underlying4 rfl (fun ds hds => by
    match ds, hds with
    | [a0, a1, a2, a3], _ => exact ⟨rfl, rfl, rfl⟩) hW' hE

theorem registryStates_laid_met (os : Os) : laidMetH Tryz.prog Rows.registryStatesRow.laid ((laidWorld os).forCall (fun _ _ => 0) ⟨#[], #[.agg #[.slice none 0 0, .slice none 0 0, .slice none 0 0, .slice none 0 0, .int .i64 0], .string ⟨#[]⟩, .int .i64 0, .int .i64 0], []⟩).memory :=
  laidMetH_of_parts (by rw [show (Rows.registryStatesRow.laid.filter fun x => x.2.handleName?.isNone) = laidD by kernel_rfl]; exact laidMet_from (laidW0 os) _ (by kernel_rfl) (by kernel_rfl)) (by kernel_rfl)
theorem registryStates_reads (os : Os) {H : Type} (enc : TypeId × Value → H) : ∃ ds, ∃ places, DataW.whole enc Tryz.prog ((laidWorld os).forCall (fun _ _ => 0) ⟨#[], #[.agg #[.slice none 0 0, .slice none 0 0, .slice none 0 0, .slice none 0 0, .int .i64 0], .string ⟨#[]⟩, .int .i64 0, .int .i64 0], []⟩).memory Tryz.f7.params.toList Rows.registryStatesSpec.vars false (#[.agg #[.slice none 0 0, .slice none 0 0, .slice none 0 0, .slice none 0 0, .int .i64 0], .string ⟨#[]⟩, .int .i64 0, .int .i64 0] : Array Value).toList 8 = some (ds, [], places) :=
  ⟨[.agg [.agg [.nil, .nil, .nil], .nil, .lit (.int .i64 0)], .lit (.string []), .lit (.int .i64 0), .lit (.int .i64 0)], [], by kernel_rfl⟩
set_option maxRecDepth 100000 in
theorem registryStates_lifted (os : Os) (started : os.Started) (H : Type) (enc : TypeId × Value → H) (F : Stop.Interp) :
    ReturnsInHanded {} Tryz.checked os 7 .any ((OpenSpec.ofChange Rows.registryStatesSpec).preRow enc Tryz.prog Tryz.f7 Rows.registryStatesRow.domain false Rows.registryStatesRow.laid) (((OpenSpec.ofChange Rows.registryStatesSpec).at F).post enc Tryz.prog Tryz.f7 false true false false) := by
  obtain ⟨ds0, places, hx⟩ := registryStates_reads os enc
  refine returnsInHanded_of_row (C := Tryz.checked) (s := OpenSpec.ofChange Rows.registryStatesSpec) own' started (by kernel_rfl) Tryz.func7
    (witness_row_at (enc := enc) (C := Tryz.checked) false (laidWorld os) #[.agg #[.slice none 0 0, .slice none 0 0, .slice none 0 0, .slice none 0 0, .int .i64 0], .string ⟨#[]⟩, .int .i64 0, .int .i64 0] rfl (by kernel_rfl) (by kernel_rfl) (by kernel_rfl)
      (OpenSpec.preRow_of_cond 8 hx (by kernel_rfl) (fun k hk => by cases hk) (by kernel_rfl) (registryStates_laid_met os))) ?_
  intro W base args ds gs before hval hW _ _ _ hL hsh _
  exact registryStates_contract H enc W base args ds gs before hval hW (gl_of hL hsh) (er_of hL)
theorem registryStates_said : Rows.RegistryStatesSaid :=
  OpenClaim.holds_of_cond 7 Tryz.f7 rfl rfl rfl rfl rfl rfl rfl ⟨rfl, rfl, rfl, rfl, rfl⟩ rfl rfl rfl rfl rfl (by kernel_rfl) Tryz.func7 (by unfold joinedFacts; rw [jf1, jf2, jf3, jf4, jf5]; kernel_rfl)
    (of_decide_eq_true (by kernel_rfl)) (by unfold Func.isWrapper; first | (rw [if_pos (by decide +kernel)]; kernel_rfl) | (rw [if_neg (by decide +kernel)]; exact ⟨rfl, rfl⟩))
    (fun os started H enc _ F => by rw [OpenClaim.pre_eq_preRow]; exact registryStates_lifted os started H enc F)
theorem registryStates_plain (f : FuncId) (fn : Func) (hf : Tryz.pinned.checked.prog.funcNamed "wicketgate/wicketgatelaw15.RegistryStates" = some f) (hfn : Tryz.pinned.checked.prog.funcs[f]? = some fn) :
    true = Tryz.pinned.checked.prog.looks [] ∧ ∀ (j : Nat) t, fn.params[j]? = some t → Tryz.pinned.checked.prog.wantsStandIn t = false := by
  obtain rfl : f = 7 := Option.some.inj ((show Tryz.prog.funcNamed "wicketgate/wicketgatelaw15.RegistryStates" = some 7 by kernel_rfl).symm.trans hf) |>.symm
  obtain rfl : fn = Tryz.f7 := (Option.some.inj (Tryz.func7.symm.trans hfn)).symm
  refine ⟨by kernel_rfl, fun j t ht => ?_⟩
  rw [Tryz.params7] at ht
  have hm := Array.mem_of_getElem? ht
  have hall : (#[28, 9, 3, 3] : Array TypeId).toList.all (fun t => !Tryz.prog.wantsStandIn t) = true := by kernel_rfl
  have := List.all_eq_true.1 hall t (by simpa using hm)
  have h9 : Tryz.prog.wantsStandIn t = false := by simpa using this
  exact h9
theorem registryStates_card : Rows.RegistryStatesCardSaid :=
  Claim7.holds_tied_plain_at .later [] _ _ _ _ registryStates_said (fun _ h => by cases h) (by kernel_rfl) (fun _ h => by cases h) registryStates_row_tie rfl ⟨rfl, rfl⟩ (by kernel_rfl) rfl registryStates_plain (by kernel_rfl)

end Go.Proofs.YtopjaeoklkpcpaaGreatDoor

