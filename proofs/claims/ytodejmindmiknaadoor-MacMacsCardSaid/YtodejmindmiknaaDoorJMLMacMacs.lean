/- The law 'MacMacs' is proved here. Its conditions: none. -/
import Derived.Test.YtodejmindmiknaaDoorCards
import Derived.Test.YtodejmindmiknaaDoorTie
import Derived.Test.YtodejmindmiknaaDoorJML
import Derived.Test.YtodejmindmiknaaDoorJZW
import Derived.Test.YtodejmindmiknaaDoorJMQ
import Derived.Test.YtodejmindmiknaaDoorShelf
namespace Go.Proofs.YtodejmindmiknaaDoor
open Go.Proofs Go.Proofs.YtodejmindmiknaaDoor.Jd
open Go.ChangeShapes Go.WideShapes Go.ChangeAt Go.RowKit Go.ChangeMaps
set_option maxRecDepth 100000
set_option linter.unusedVariables false
set_option linter.unusedSimpArgs false
theorem gl_of {W : World} (h : laidMetH Tryd.prog Rows.macMacsRow.laid W) (hsh : W.ShapedOpen Tryd.prog) : Gl W := by
  have h : laidMet Tryd.prog Rows.macMacsRow.laid W := h
  exact ⟨Lib.tabIs_of_head (rest := [("wicketgate/wicketgateref04.constant", Rows.laid_wicketgate_wicketgateref04_constant), ("wicketgate/sha.constants", Rows.laid_wicketgate_sha_constants), ("wicketgate/mac.errKey", Rows.laid_wicketgate_mac_errKey), ("wicketgate/mac.errArg", Rows.laid_wicketgate_mac_errArg)]) (g := 4) (by kernel_rfl) (by kernel_rfl) Tryd.underlying123 Tryd.underlying113 (by kernel_rfl) (by kernel_rfl) (laidMet_tail (laidMet_tail h)), heap_of_var (g := 3) (by kernel_rfl) (show Lib.TabIs Tryd.prog W "wicketgate/sha.constants" .u32 shaTab from Lib.tabIs_of_head (rest := [("wicketgate/mac.errKey", Rows.laid_wicketgate_mac_errKey), ("wicketgate/mac.errArg", Rows.laid_wicketgate_mac_errArg)]) (g := 3) (by kernel_rfl) (by kernel_rfl) Tryd.underlying74 Tryd.underlying48 (by kernel_rfl) (by kernel_rfl) (laidMet_tail (laidMet_tail (laidMet_tail (laidMet_tail h))))), heap_of_var (g := 2) (by kernel_rfl) (show Lib.TabIs Tryd.prog W "wicketgate/wicketgateref04.constant" .u32 rTab from Lib.tabIs_of_head (rest := [("wicketgate/sha.constants", Rows.laid_wicketgate_sha_constants), ("wicketgate/mac.errKey", Rows.laid_wicketgate_mac_errKey), ("wicketgate/mac.errArg", Rows.laid_wicketgate_mac_errArg)]) (g := 2) (by kernel_rfl) (by kernel_rfl) Tryd.underlying74 Tryd.underlying48 (by kernel_rfl) (by kernel_rfl) (laidMet_tail (laidMet_tail (laidMet_tail h))))⟩
theorem er_of {W : World} (h : laidMetH Tryd.prog Rows.macMacsRow.laid W) : ∃ ea0 ea1 : Addr, Er W ea0 ea1 := by
  have h : laidMet Tryd.prog Rows.macMacsRow.laid W := h
  obtain ⟨ea0, v0, b0⟩ := sent_one (laidMet.tail (laidMet.tail (laidMet.tail (laidMet.tail (laidMet.tail (laidMet.tail h)))))) ern0 ert0 Tryd.underlying37 er_row Tryd.underlying130 Tryd.underlying153 rfl rfl Tryd.underlying9 er_c1 er_c2
  obtain ⟨ea1, v1, b1⟩ := sent_one (laidMet.tail (laidMet.tail (laidMet.tail (laidMet.tail (laidMet.tail h))))) ern1 ert1 Tryd.underlying37 er_row Tryd.underlying130 Tryd.underlying153 rfl rfl Tryd.underlying9 er_c1 er_c2
  have n1_0 : ea1 ≠ ea0 := sent_ne (laidMet.tail (laidMet.tail (laidMet.tail (laidMet.tail (laidMet.tail h))))) ern1 ert1 ern0 ert0 Tryd.underlying37 er_row Tryd.underlying130 Tryd.underlying153 rfl rfl Tryd.underlying9 er_c1 er_c2 v1 v0
  exact ⟨ea0, ea1, ⟨v0, b0, v1, b1, n1_0.symm, n1_0⟩⟩
theorem macMacs_contract (H : Type) (enc : TypeId × Value → H) (W : World) (base : Nat) (args : Array Value) (ds gs : List (DataW H)) (before : List MemPlace)
    (hval : ∀ (j : Nat) t v, Tryd.f3.params[j]? = some t → args[j]? = some v → Value.okWide Tryd.prog W .any base t v)
    (hW : DataW.Whole enc Tryd.prog Tryd.f3.params.toList Rows.macMacsSpec.vars false W args.toList ds gs before) (hG : Gl W) (hE : ∃ ea0 ea1 : Addr, Er W ea0 ea1) :
    Calls Tryd.prog 3 args W fun e W' => ∃ v, e = .returned v ∧ Rows.macMacsSpec.post enc Tryd.prog Tryd.f3 false true false false W args v W' := by
  obtain ⟨ea0, ea1, hE⟩ := hE
  have hW' := hW
  obtain ⟨p, q, hA, hV, rfl, hfz, hnd⟩ := hW
  rw [Tryd.params3] at hA hval
  obtain ⟨v0, vs0, d0, ds0, p0, q0, hargs, rfl, rfl, h0, r0⟩ := trodAll_cons hA
  obtain ⟨v1, vs1, d1, ds1, p1, q1, rfl, rfl, rfl, h1, r1⟩ := trodAll_cons r0
  obtain ⟨v2, vs2, d2, ds2, p2, q2, rfl, rfl, rfl, h2, r2⟩ := trodAll_cons r1
  obtain ⟨rfl, rfl, rfl⟩ := trodAll_nil r2
  obtain rfl : args = #[v0, v1, v2] := by cases args; simp_all
  obtain ⟨u0, rfl, _⟩ := open_string Tryd.underlying9 (hval 0 9 v0 rfl rfl) h0
  obtain ⟨x0, rfl⟩ : ∃ x : Str, u0 = bs x := ⟨u0.data.toList, bs_of u0⟩
  obtain ⟨u1, rfl, _⟩ := open_string Tryd.underlying9 (hval 1 9 v1 rfl rfl) h1
  obtain ⟨x1, rfl⟩ : ∃ x : Str, u1 = bs x := ⟨u1.data.toList, bs_of u1⟩
  obtain ⟨u2, rfl, _⟩ := open_string Tryd.underlying9 (hval 2 9 v2 rfl rfl) h2
  obtain ⟨x2, rfl⟩ : ∃ x : Str, u2 = bs x := ⟨u2.data.toList, bs_of u2⟩
  have hwalk := lMacMacs_ok W (key := x0) (s := x1) (t := x2) hG hE
  rw [show (lMacMacs x0 x1 x2) = true from (lMacMacs_true _ _ _)] at hwalk
  refine hwalk.mono fun e W' ⟨he, hE⟩ => ⟨_, he, ?_⟩
  exact law_post laidOut (by kernel_rfl) rfl Tryd.underlying4 rfl (fun ds hds => by
    match ds, hds with
    | [a0, a1, a2], _ => exact ⟨rfl, rfl, rfl⟩) hW' hE

theorem macMacs_laid_met (os : Os) : laidMet Tryd.prog Rows.macMacsRow.laid ((laidWorld os).forCall (fun _ _ => 0) ⟨#[], #[.string ⟨#[]⟩, .string ⟨#[]⟩, .string ⟨#[]⟩], []⟩).memory :=
  laidMet_laidAll _ (by kernel_rfl) (by kernel_rfl)
theorem macMacs_reads (os : Os) {H : Type} (enc : TypeId × Value → H) : ∃ ds, ∃ places, DataW.whole enc Tryd.prog ((laidWorld os).forCall (fun _ _ => 0) ⟨#[], #[.string ⟨#[]⟩, .string ⟨#[]⟩, .string ⟨#[]⟩], []⟩).memory Tryd.f3.params.toList Rows.macMacsSpec.vars false (#[.string ⟨#[]⟩, .string ⟨#[]⟩, .string ⟨#[]⟩] : Array Value).toList 8 = some (ds, [], places) :=
  ⟨[.lit (.string []), .lit (.string []), .lit (.string [])], [], by kernel_rfl⟩
set_option maxRecDepth 100000 in
theorem macMacs_lifted (os : Os) (started : os.Started) (H : Type) (enc : TypeId × Value → H) (F : Stop.Interp) :
    ReturnsInHanded {} Tryd.checked os 3 .any ((OpenSpec.ofChange Rows.macMacsSpec).preRow enc Tryd.prog Tryd.f3 Rows.macMacsRow.domain false Rows.macMacsRow.laid) (((OpenSpec.ofChange Rows.macMacsSpec).at F).post enc Tryd.prog Tryd.f3 false true false false) := by
  obtain ⟨ds0, places, hx⟩ := macMacs_reads os enc
  refine returnsInHanded_of_row (C := Tryd.checked) (s := OpenSpec.ofChange Rows.macMacsSpec) own' started (by kernel_rfl) Tryd.func3
    (witness_row_at (enc := enc) (C := Tryd.checked) false (laidWorld os) #[.string ⟨#[]⟩, .string ⟨#[]⟩, .string ⟨#[]⟩] rfl (by kernel_rfl) (by kernel_rfl) (by kernel_rfl)
      (OpenSpec.preRow_of_cond 8 hx (by kernel_rfl) (fun k hk => by cases hk) (by kernel_rfl) (macMacs_laid_met os))) ?_
  intro W base args ds gs before hval hW _ _ _ hL hsh _
  exact macMacs_contract H enc W base args ds gs before hval hW (gl_of hL hsh) (er_of hL)
theorem macMacs_said : Rows.MacMacsSaid :=
  OpenClaim.holds_of_cond 3 Tryd.f3 rfl rfl rfl rfl rfl rfl rfl ⟨rfl, rfl, rfl, rfl, rfl⟩ rfl rfl rfl rfl rfl (by kernel_rfl) Tryd.func3 (by kernel_rfl)
    (of_decide_eq_true (by kernel_rfl)) (by unfold Func.isWrapper; first | (rw [if_pos (by decide +kernel)]; kernel_rfl) | (rw [if_neg (by decide +kernel)]; exact ⟨rfl, rfl⟩))
    (fun os started H enc _ F => by rw [OpenClaim.pre_eq_preRow]; exact macMacs_lifted os started H enc F)
theorem macMacs_plain (f : FuncId) (fn : Func) (hf : Tryd.pinned.checked.prog.funcNamed "wicketgate/wicketgatelaw05.MacMacs" = some f) (hfn : Tryd.pinned.checked.prog.funcs[f]? = some fn) :
    true = Tryd.pinned.checked.prog.looks [] ∧ ∀ (j : Nat) t, fn.params[j]? = some t → Tryd.pinned.checked.prog.wantsStandIn t = false := by
  obtain rfl : f = 3 := Option.some.inj ((show Tryd.prog.funcNamed "wicketgate/wicketgatelaw05.MacMacs" = some 3 by kernel_rfl).symm.trans hf) |>.symm
  obtain rfl : fn = Tryd.f3 := (Option.some.inj (Tryd.func3.symm.trans hfn)).symm
  refine ⟨by kernel_rfl, fun j t ht => ?_⟩
  rw [Tryd.params3] at ht
  have hm := Array.mem_of_getElem? ht
  have hall : (#[9, 9, 9] : Array TypeId).toList.all (fun t => !Tryd.prog.wantsStandIn t) = true := by kernel_rfl
  have := List.all_eq_true.1 hall t (by simpa using hm)
  have h9 : Tryd.prog.wantsStandIn t = false := by simpa using this
  exact h9
/-- 'macMacs': its card is proved. -/
theorem macMacs_card : Rows.MacMacsCardSaid :=
  Claim7.holds_tied_plain_at .later [] _ _ _ _ macMacs_said (fun _ h => by cases h) (by kernel_rfl) (fun _ h => by cases h) macMacs_row_tie rfl ⟨rfl, rfl⟩ (by kernel_rfl) rfl macMacs_plain (by kernel_rfl)

end Go.Proofs.YtodejmindmiknaaDoor
