/- The law 'CredTwice' is proved here. Its conditions: none. -/
import Derived.Test.YtcmondhpiahchaaGreatDoorCards
import Derived.Test.YtcmondhpiahchaaGreatDoorTie
import Derived.Test.YtcmondhpiahchaaGreatDoorJCL
import Derived.Test.YtcmondhpiahchaaGreatDoorJLW
import Derived.Test.YtcmondhpiahchaaGreatDoorJPY
import Derived.Test.YtcmondhpiahchaaGreatDoorShelf
namespace Go.Proofs.YtcmondhpiahchaaGreatDoor
open Go.Proofs Go.Proofs.YtcmondhpiahchaaGreatDoor.Jd
open Go.ChangeShapes Go.WideShapes Go.ChangeAt Go.RowKit Go.ChangeMaps
set_option maxRecDepth 100000
set_option linter.unusedVariables false
set_option linter.unusedSimpArgs false
theorem gl_of {W : World} (h : laidMetH Tryz.prog Rows.credTwiceRow.laid W) (hsh : W.ShapedOpen Tryz.prog) : Gl W := by
  have h2 : laidMet Tryz.prog laidD W ∧ handlesMet Tryz.prog [("errors.errorType", Rows.laid_errors_errorType)] W := h
  have h := h2.1
  exact ⟨Lib.tabIs_of_head (rest := [("wicketgate/sha.constants", Rows.laid_wicketgate_sha_constants), ("wicketgate/mac.errKey", Rows.laid_wicketgate_mac_errKey), ("wicketgate/mac.errArg", Rows.laid_wicketgate_mac_errArg)]) (g := 4) (by kernel_rfl) (by kernel_rfl) Tryz.underlying166 Tryz.underlying152 (by kernel_rfl) (by kernel_rfl) (laidMet_tail (laidMet_tail h)), heap_of_var (g := 3) (by kernel_rfl) (show Lib.TabIs Tryz.prog W "wicketgate/sha.constants" .u32 shaTab from Lib.tabIs_of_head (rest := [("wicketgate/mac.errKey", Rows.laid_wicketgate_mac_errKey), ("wicketgate/mac.errArg", Rows.laid_wicketgate_mac_errArg)]) (g := 3) (by kernel_rfl) (by kernel_rfl) Tryz.underlying128 Tryz.underlying83 (by kernel_rfl) (by kernel_rfl) (laidMet_tail (laidMet_tail (laidMet_tail h)))), handle_at h2.2 List.mem_cons_self rfl rfl (by kernel_rfl) (by kernel_rfl) (N := 204) (by kernel_rfl) (by kernel_rfl) (by kernel_rfl)⟩
theorem er_of {W : World} (h : laidMetH Tryz.prog Rows.credTwiceRow.laid W) : ∃ ea0 ea1 : Addr, Er W ea0 ea1 := by
  have h2 : laidMet Tryz.prog laidD W ∧ handlesMet Tryz.prog [("errors.errorType", Rows.laid_errors_errorType)] W := h
  have h := h2.1
  obtain ⟨ea0, v0, b0⟩ := sent_one (laidMet.tail (laidMet.tail (laidMet.tail (laidMet.tail (laidMet.tail h))))) ern0 ert0 Tryz.underlying47 er_row Tryz.underlying174 Tryz.underlying193 rfl rfl Tryz.underlying9 er_c1 er_c2
  obtain ⟨ea1, v1, b1⟩ := sent_one (laidMet.tail (laidMet.tail (laidMet.tail (laidMet.tail h)))) ern1 ert1 Tryz.underlying47 er_row Tryz.underlying174 Tryz.underlying193 rfl rfl Tryz.underlying9 er_c1 er_c2
  have n1_0 : ea1 ≠ ea0 := sent_ne (laidMet.tail (laidMet.tail (laidMet.tail (laidMet.tail h)))) ern1 ert1 ern0 ert0 Tryz.underlying47 er_row Tryz.underlying174 Tryz.underlying193 rfl rfl Tryz.underlying9 er_c1 er_c2 v1 v0
  exact ⟨ea0, ea1, ⟨v0, b0, v1, b1, n1_0.symm, n1_0⟩⟩
theorem credTwice_contract (H : Type) (enc : TypeId × Value → H) (W : World) (base : Nat) (args : Array Value) (ds gs : List (DataW H)) (before : List MemPlace)
    (hval : ∀ (j : Nat) t v, Tryz.f7.params[j]? = some t → args[j]? = some v → Value.okWide Tryz.prog W .any base t v)
    (hW : DataW.Whole enc Tryz.prog Tryz.f7.params.toList Rows.credTwiceSpec.vars false W args.toList ds gs before) (hG : Gl W) (hE : ∃ ea0 ea1 : Addr, Er W ea0 ea1) :
    Calls Tryz.prog 7 args W fun e W' => ∃ v, e = .returned v ∧ Rows.credTwiceSpec.post enc Tryz.prog Tryz.f7 false true false false W args v W' := by
  obtain ⟨ea0, ea1, hE⟩ := hE
  have hW' := hW
  obtain ⟨p, q, hA, hV, rfl, hfz, hnd⟩ := hW
  rw [Tryz.params7] at hA hval
  obtain ⟨v0, vs0, d0, ds0, p0, q0, hargs, rfl, rfl, h0, r0⟩ := trodAll_cons hA
  obtain ⟨v1, vs1, d1, ds1, p1, q1, rfl, rfl, rfl, h1, r1⟩ := trodAll_cons r0
  obtain ⟨v2, vs2, d2, ds2, p2, q2, rfl, rfl, rfl, h2, r2⟩ := trodAll_cons r1
  obtain ⟨v3, vs3, d3, ds3, p3, q3, rfl, rfl, rfl, h3, r3⟩ := trodAll_cons r2
  obtain ⟨v4, vs4, d4, ds4, p4, q4, rfl, rfl, rfl, h4, r4⟩ := trodAll_cons r3
  obtain ⟨v5, vs5, d5, ds5, p5, q5, rfl, rfl, rfl, h5, r5⟩ := trodAll_cons r4
  obtain ⟨v6, vs6, d6, ds6, p6, q6, rfl, rfl, rfl, h6, r6⟩ := trodAll_cons r5
  obtain ⟨rfl, rfl, rfl⟩ := trodAll_nil r6
  obtain rfl : args = #[v0, v1, v2, v3, v4, v5, v6] := by cases args; simp_all
  obtain ⟨ua0, un0, uc0, rfl⟩ := okWide_slice Tryz.underlying22 (hval 0 22 v0 rfl rfl)
  obtain ⟨m0, h0⟩ := h0
  obtain ⟨x0_0, x0_1, x0_2, z0, y0_0, y0_1⟩ := open_22 h0
  obtain ⟨rfl, rfl, rfl⟩ : ua0 = x0_0 ∧ un0 = x0_2.length ∧ uc0 = x0_1 := by simpa [Value.cells] using z0
  obtain ⟨u1, rfl, _⟩ := open_string Tryz.underlying9 (hval 1 9 v1 rfl rfl) h1
  obtain ⟨x1, rfl⟩ : ∃ x : Str, u1 = bs x := ⟨u1.data.toList, bs_of u1⟩
  obtain ⟨u2, rfl, _⟩ := open_string Tryz.underlying9 (hval 2 9 v2 rfl rfl) h2
  obtain ⟨x2, rfl⟩ : ∃ x : Str, u2 = bs x := ⟨u2.data.toList, bs_of u2⟩
  obtain ⟨x3, rfl, _, _, w3⟩ := open_int Tryz.underlying3 (hval 3 3 v3 rfl rfl) h3
  obtain ⟨x4, rfl, _, _, w4⟩ := open_int Tryz.underlying3 (hval 4 3 v4 rfl rfl) h4
  obtain ⟨x5, rfl, _, _, w5⟩ := open_int Tryz.underlying3 (hval 5 3 v5 rfl rfl) h5
  obtain ⟨x6, rfl, _, _, w6⟩ := open_int Tryz.underlying3 (hval 6 3 v6 rfl rfl) h6
  have hwalk := lCredTwice_ok W (l := x0_2) (a := x1) (b := x2) (now := x3) (overlap := x4) (span := x5) (at_ := x6) (l_a := ua0) (l_c := uc0) y0_1 hG hE
  rw [show (lCredTwice x0_2 x1 x2 x3 x4 x5 x6) = true from (lCredTwice_true _ _ _ _ _ _ _)] at hwalk
  refine hwalk.mono fun e W' ⟨he, hE⟩ => ⟨_, he, ?_⟩
  exact law_post laidOut (by kernel_rfl) rfl Tryz.underlying4 rfl (fun ds hds => by
    match ds, hds with
    | [a0, a1, a2, a3, a4, a5, a6], _ => exact ⟨rfl, rfl, rfl⟩) hW' hE

theorem credTwice_laid_met (os : Os) : laidMetH Tryz.prog Rows.credTwiceRow.laid ((laidWorld os).forCall (fun _ _ => 0) ⟨#[], #[.slice none 0 0, .string ⟨#[]⟩, .string ⟨#[]⟩, .int .i64 0, .int .i64 0, .int .i64 0, .int .i64 0], []⟩).memory :=
  laidMetH_of_parts (by rw [show (Rows.credTwiceRow.laid.filter fun x => x.2.handleName?.isNone) = laidD by kernel_rfl]; exact laidMet_from (laidW0 os) _ (by kernel_rfl) (by kernel_rfl)) (by kernel_rfl)
theorem credTwice_reads (os : Os) {H : Type} (enc : TypeId × Value → H) : ∃ ds, ∃ places, DataW.whole enc Tryz.prog ((laidWorld os).forCall (fun _ _ => 0) ⟨#[], #[.slice none 0 0, .string ⟨#[]⟩, .string ⟨#[]⟩, .int .i64 0, .int .i64 0, .int .i64 0, .int .i64 0], []⟩).memory Tryz.f7.params.toList Rows.credTwiceSpec.vars false (#[.slice none 0 0, .string ⟨#[]⟩, .string ⟨#[]⟩, .int .i64 0, .int .i64 0, .int .i64 0, .int .i64 0] : Array Value).toList 8 = some (ds, [], places) :=
  ⟨[.nil, .lit (.string []), .lit (.string []), .lit (.int .i64 0), .lit (.int .i64 0), .lit (.int .i64 0), .lit (.int .i64 0)], [], by kernel_rfl⟩
set_option maxRecDepth 100000 in
theorem credTwice_lifted (os : Os) (started : os.Started) (H : Type) (enc : TypeId × Value → H) (F : Stop.Interp) :
    ReturnsInHanded {} Tryz.checked os 7 .any ((OpenSpec.ofChange Rows.credTwiceSpec).preRow enc Tryz.prog Tryz.f7 Rows.credTwiceRow.domain false Rows.credTwiceRow.laid) (((OpenSpec.ofChange Rows.credTwiceSpec).at F).post enc Tryz.prog Tryz.f7 false true false false) := by
  obtain ⟨ds0, places, hx⟩ := credTwice_reads os enc
  refine returnsInHanded_of_row (C := Tryz.checked) (s := OpenSpec.ofChange Rows.credTwiceSpec) own' started (by kernel_rfl) Tryz.func7
    (witness_row_at (enc := enc) (C := Tryz.checked) false (laidWorld os) #[.slice none 0 0, .string ⟨#[]⟩, .string ⟨#[]⟩, .int .i64 0, .int .i64 0, .int .i64 0, .int .i64 0] rfl (by kernel_rfl) (by kernel_rfl) (by kernel_rfl)
      (OpenSpec.preRow_of_cond 8 hx (by kernel_rfl) (fun k hk => by cases hk) (by kernel_rfl) (credTwice_laid_met os))) ?_
  intro W base args ds gs before hval hW _ _ _ hL hsh _
  exact credTwice_contract H enc W base args ds gs before hval hW (gl_of hL hsh) (er_of hL)
theorem credTwice_said : Rows.CredTwiceSaid :=
  OpenClaim.holds_of_cond 7 Tryz.f7 rfl rfl rfl rfl rfl rfl rfl ⟨rfl, rfl, rfl, rfl, rfl⟩ rfl rfl rfl rfl rfl (by kernel_rfl) Tryz.func7 (by kernel_rfl)
    (of_decide_eq_true (by kernel_rfl)) (by unfold Func.isWrapper; first | (rw [if_pos (by decide +kernel)]; kernel_rfl) | (rw [if_neg (by decide +kernel)]; exact ⟨rfl, rfl⟩))
    (fun os started H enc _ F => by rw [OpenClaim.pre_eq_preRow]; exact credTwice_lifted os started H enc F)
theorem credTwice_plain (f : FuncId) (fn : Func) (hf : Tryz.pinned.checked.prog.funcNamed "wicketgate/wicketgatelaw11.CredTwice" = some f) (hfn : Tryz.pinned.checked.prog.funcs[f]? = some fn) :
    true = Tryz.pinned.checked.prog.looks [] ∧ ∀ (j : Nat) t, fn.params[j]? = some t → Tryz.pinned.checked.prog.wantsStandIn t = false := by
  obtain rfl : f = 7 := Option.some.inj ((show Tryz.prog.funcNamed "wicketgate/wicketgatelaw11.CredTwice" = some 7 by kernel_rfl).symm.trans hf) |>.symm
  obtain rfl : fn = Tryz.f7 := (Option.some.inj (Tryz.func7.symm.trans hfn)).symm
  refine ⟨by kernel_rfl, fun j t ht => ?_⟩
  rw [Tryz.params7] at ht
  have hm := Array.mem_of_getElem? ht
  have hall : (#[22, 9, 9, 3, 3, 3, 3] : Array TypeId).toList.all (fun t => !Tryz.prog.wantsStandIn t) = true := by kernel_rfl
  have := List.all_eq_true.1 hall t (by simpa using hm)
  have h9 : Tryz.prog.wantsStandIn t = false := by simpa using this
  exact h9
/-- 'credTwice': its card is proved. -/
theorem credTwice_card : Rows.CredTwiceCardSaid :=
  Claim7.holds_tied_plain_at .later [] _ _ _ _ credTwice_said (fun _ h => by cases h) (by kernel_rfl) (fun _ h => by cases h) credTwice_row_tie rfl ⟨rfl, rfl⟩ (by kernel_rfl) rfl credTwice_plain (by kernel_rfl)

end Go.Proofs.YtcmondhpiahchaaGreatDoor
