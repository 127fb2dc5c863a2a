/- The law 'MacPads' is proved here. Its conditions: none. -/
import Derived.Test.YtodejmindmiknaaDoorCards
import Derived.Test.YtodejmindmiknaaDoorTie
import Derived.Test.YtodejmindmiknaaDoorJML2
import Derived.Test.YtodejmindmiknaaDoorJZW2
import Derived.Test.YtodejmindmiknaaDoorJMQ
import Derived.Test.YtodejmindmiknaaDoorShelf
namespace Go.Proofs.YtodejmindmiknaaDoor
open Go.Proofs Go.Proofs.YtodejmindmiknaaDoor.Jd
open Go.ChangeShapes Go.WideShapes Go.ChangeAt Go.RowKit Go.ChangeMaps
set_option maxRecDepth 100000
set_option linter.unusedVariables false
set_option linter.unusedSimpArgs false
theorem gl_of {W : World} (h : laidMetH Tryd.prog Rows.macPadsRow.laid W) (hsh : W.ShapedOpen Tryd.prog) : Gl W := by
  have h : laidMet Tryd.prog Rows.macPadsRow.laid W := h
  exact ⟨Lib.tabIs_of_head (rest := [("wicketgate/sha.constants", Rows.laid_wicketgate_sha_constants), ("wicketgate/mac.errKey", Rows.laid_wicketgate_mac_errKey), ("wicketgate/mac.errArg", Rows.laid_wicketgate_mac_errArg)]) (g := 4) (by kernel_rfl) (by kernel_rfl) Tryd.underlying123 Tryd.underlying113 (by kernel_rfl) (by kernel_rfl) (laidMet_tail (laidMet_tail h)), heap_of_var (g := 3) (by kernel_rfl) (show Lib.TabIs Tryd.prog W "wicketgate/sha.constants" .u32 shaTab from Lib.tabIs_of_head (rest := [("wicketgate/mac.errKey", Rows.laid_wicketgate_mac_errKey), ("wicketgate/mac.errArg", Rows.laid_wicketgate_mac_errArg)]) (g := 3) (by kernel_rfl) (by kernel_rfl) Tryd.underlying74 Tryd.underlying48 (by kernel_rfl) (by kernel_rfl) (laidMet_tail (laidMet_tail (laidMet_tail h))))⟩
theorem er_of {W : World} (h : laidMetH Tryd.prog Rows.macPadsRow.laid W) : ∃ ea0 ea1 : Addr, Er W ea0 ea1 := by
  have h : laidMet Tryd.prog Rows.macPadsRow.laid W := h
  obtain ⟨ea0, v0, b0⟩ := sent_one (laidMet.tail (laidMet.tail (laidMet.tail (laidMet.tail (laidMet.tail h))))) ern0 ert0 Tryd.underlying37 er_row Tryd.underlying130 Tryd.underlying153 rfl rfl Tryd.underlying9 er_c1 er_c2
  obtain ⟨ea1, v1, b1⟩ := sent_one (laidMet.tail (laidMet.tail (laidMet.tail (laidMet.tail h)))) ern1 ert1 Tryd.underlying37 er_row Tryd.underlying130 Tryd.underlying153 rfl rfl Tryd.underlying9 er_c1 er_c2
  have n1_0 : ea1 ≠ ea0 := sent_ne (laidMet.tail (laidMet.tail (laidMet.tail (laidMet.tail h)))) ern1 ert1 ern0 ert0 Tryd.underlying37 er_row Tryd.underlying130 Tryd.underlying153 rfl rfl Tryd.underlying9 er_c1 er_c2 v1 v0
  exact ⟨ea0, ea1, ⟨v0, b0, v1, b1, n1_0.symm, n1_0⟩⟩
theorem macPads_contract (H : Type) (enc : TypeId × Value → H) (W : World) (base : Nat) (args : Array Value) (ds gs : List (DataW H)) (before : List MemPlace)
    (hval : ∀ (j : Nat) t v, Tryd.f5.params[j]? = some t → args[j]? = some v → Value.okWide Tryd.prog W .any base t v)
    (hW : DataW.Whole enc Tryd.prog Tryd.f5.params.toList Rows.macPadsSpec.vars false W args.toList ds gs before) (hG : Gl W) (hE : ∃ ea0 ea1 : Addr, Er W ea0 ea1) :
    Calls Tryd.prog 5 args W fun e W' => ∃ v, e = .returned v ∧ Rows.macPadsSpec.post enc Tryd.prog Tryd.f5 false true false false W args v W' := by
  obtain ⟨ea0, ea1, hE⟩ := hE
  have hW' := hW
  obtain ⟨p, q, hA, hV, rfl, hfz, hnd⟩ := hW
  rw [Tryd.params5] at hA hval
  obtain ⟨v0, vs0, d0, ds0, p0, q0, hargs, rfl, rfl, h0, r0⟩ := trodAll_cons hA
  obtain ⟨v1, vs1, d1, ds1, p1, q1, rfl, rfl, rfl, h1, r1⟩ := trodAll_cons r0
  obtain ⟨v2, vs2, d2, ds2, p2, q2, rfl, rfl, rfl, h2, r2⟩ := trodAll_cons r1
  obtain ⟨rfl, rfl, rfl⟩ := trodAll_nil r2
  obtain rfl : args = #[v0, v1, v2] := by cases args; simp_all
  obtain ⟨u0, rfl, _⟩ := open_string Tryd.underlying9 (hval 0 9 v0 rfl rfl) h0
  obtain ⟨x0, rfl⟩ : ∃ x : Str, u0 = bs x := ⟨u0.data.toList, bs_of u0⟩
  obtain ⟨u1, rfl, _⟩ := open_string Tryd.underlying9 (hval 1 9 v1 rfl rfl) h1
  obtain ⟨x1, rfl⟩ : ∃ x : Str, u1 = bs x := ⟨u1.data.toList, bs_of u1⟩
  obtain ⟨x2, rfl, _, _, w2⟩ := open_int Tryd.underlying3 (hval 2 3 v2 rfl rfl) h2
  have hwalk := lMacPads_ok W (key := x0) (s := x1) (n_ := x2) hG hE
  rw [show (lMacPads x0 x1 x2) = true from (lMacPads_true _ _ _)] at hwalk
  refine hwalk.mono fun e W' ⟨he, hE⟩ => ⟨_, he, ?_⟩
  exact law_post laidOut (by kernel_rfl) rfl Tryd.underlying4 rfl (fun ds hds => by
    match ds, hds with
    | [a0, a1, a2], _ => exact ⟨rfl, rfl, rfl⟩) hW' hE

theorem macPads_laid_met (os : Os) : laidMet Tryd.prog Rows.macPadsRow.laid ((laidWorld os).forCall (fun _ _ => 0) ⟨#[], #[.string ⟨#[]⟩, .string ⟨#[]⟩, .int .i64 0], []⟩).memory :=
  laidMet_laidAll _ (by kernel_rfl) (by kernel_rfl)
theorem macPads_reads (os : Os) {H : Type} (enc : TypeId × Value → H) : ∃ ds, ∃ places, DataW.whole enc Tryd.prog ((laidWorld os).forCall (fun _ _ => 0) ⟨#[], #[.string ⟨#[]⟩, .string ⟨#[]⟩, .int .i64 0], []⟩).memory Tryd.f5.params.toList Rows.macPadsSpec.vars false (#[.string ⟨#[]⟩, .string ⟨#[]⟩, .int .i64 0] : Array Value).toList 8 = some (ds, [], places) :=
  ⟨[.lit (.string []), .lit (.string []), .lit (.int .i64 0)], [], by kernel_rfl⟩
set_option maxRecDepth 100000 in
theorem macPads_lifted (os : Os) (started : os.Started) (H : Type) (enc : TypeId × Value → H) (F : Stop.Interp) :
    ReturnsInHanded {} Tryd.checked os 5 .any ((OpenSpec.ofChange Rows.macPadsSpec).preRow enc Tryd.prog Tryd.f5 Rows.macPadsRow.domain false Rows.macPadsRow.laid) (((OpenSpec.ofChange Rows.macPadsSpec).at F).post enc Tryd.prog Tryd.f5 false true false false) := by
  obtain ⟨ds0, places, hx⟩ := macPads_reads os enc
  refine returnsInHanded_of_row (C := Tryd.checked) (s := OpenSpec.ofChange Rows.macPadsSpec) own' started (by kernel_rfl) Tryd.func5
    (witness_row_at (enc := enc) (C := Tryd.checked) false (laidWorld os) #[.string ⟨#[]⟩, .string ⟨#[]⟩, .int .i64 0] rfl (by kernel_rfl) (by kernel_rfl) (by kernel_rfl)
      (OpenSpec.preRow_of_cond 8 hx (by kernel_rfl) (fun k hk => by cases hk) (by kernel_rfl) (macPads_laid_met os))) ?_
  intro W base args ds gs before hval hW _ _ _ hL hsh _
  exact macPads_contract H enc W base args ds gs before hval hW (gl_of hL hsh) (er_of hL)
theorem macPads_said : Rows.MacPadsSaid :=
  OpenClaim.holds_of_cond 5 Tryd.f5 rfl rfl rfl rfl rfl rfl rfl ⟨rfl, rfl, rfl, rfl, rfl⟩ rfl rfl rfl rfl rfl (by kernel_rfl) Tryd.func5 (by kernel_rfl)
    (of_decide_eq_true (by kernel_rfl)) (by unfold Func.isWrapper; first | (rw [if_pos (by decide +kernel)]; kernel_rfl) | (rw [if_neg (by decide +kernel)]; exact ⟨rfl, rfl⟩))
    (fun os started H enc _ F => by rw [OpenClaim.pre_eq_preRow]; exact macPads_lifted os started H enc F)
theorem macPads_plain (f : FuncId) (fn : Func) (hf : Tryd.pinned.checked.prog.funcNamed "wicketgate/wicketgatelaw05.MacPads" = some f) (hfn : Tryd.pinned.checked.prog.funcs[f]? = some fn) :
    true = Tryd.pinned.checked.prog.looks [] ∧ ∀ (j : Nat) t, fn.params[j]? = some t → Tryd.pinned.checked.prog.wantsStandIn t = false := by
  obtain rfl : f = 5 := Option.some.inj ((show Tryd.prog.funcNamed "wicketgate/wicketgatelaw05.MacPads" = some 5 by kernel_rfl).symm.trans hf) |>.symm
  obtain rfl : fn = Tryd.f5 := (Option.some.inj (Tryd.func5.symm.trans hfn)).symm
  refine ⟨by kernel_rfl, fun j t ht => ?_⟩
  rw [Tryd.params5] at ht
  have hm := Array.mem_of_getElem? ht
  have hall : (#[9, 9, 3] : Array TypeId).toList.all (fun t => !Tryd.prog.wantsStandIn t) = true := by kernel_rfl
  have := List.all_eq_true.1 hall t (by simpa using hm)
  have h9 : Tryd.prog.wantsStandIn t = false := by simpa using this
  exact h9
/-- 'macPads': its card is proved. -/
theorem macPads_card : Rows.MacPadsCardSaid :=
  Claim7.holds_tied_plain_at .later [] _ _ _ _ macPads_said (fun _ h => by cases h) (by kernel_rfl) (fun _ h => by cases h) macPads_row_tie rfl ⟨rfl, rfl⟩ (by kernel_rfl) rfl macPads_plain (by kernel_rfl)

end Go.Proofs.YtodejmindmiknaaDoor
