/- The law 'PortsTexts' is proved here. Its conditions: none. -/
import Derived.Test.YtnnafnjdngjkoaaDoorCards
import Derived.Test.YtnnafnjdngjkoaaDoorTie
import Derived.Test.YtnnafnjdngjkoaaDoorJQL
import Derived.Test.YtnnafnjdngjkoaaDoorJQX
import Derived.Test.YtnnafnjdngjkoaaDoorJQR
import Derived.Test.YtnnafnjdngjkoaaDoorJQS
import Derived.Test.YtnnafnjdngjkoaaDoorJQT
import Derived.Test.YtnnafnjdngjkoaaDoorShelf
namespace Go.Proofs.YtnnafnjdngjkoaaDoor
open Go.Proofs Go.Proofs.YtnnafnjdngjkoaaDoor.Jd
open Go.ChangeShapes Go.WideShapes Go.ChangeAt Go.RowKit Go.ChangeMaps
set_option maxRecDepth 100000
set_option linter.unusedVariables false
set_option linter.unusedSimpArgs false
theorem gl_of {W : World} (h : laidMetH Tryd.prog Rows.portsTextsRow.laid W) (hsh : W.ShapedOpen Tryd.prog) : Gl W := by
  have h : laidMet Tryd.prog Rows.portsTextsRow.laid W := h
  refine ⟨Tryd.laysM145.s1_3 W hsh, ?_⟩
  exact Lib.tabIs_of_head (rest := [("wicketgate/ports.errPorts", Rows.laid_wicketgate_ports_errPorts), ("wicketgate/ports.errTarget", Rows.laid_wicketgate_ports_errTarget)]) (g := 3) (by kernel_rfl) (by kernel_rfl) Tryd.underlying123 Tryd.underlying114 (by kernel_rfl) (by kernel_rfl) (laidMet_tail (laidMet_tail h))
theorem er_of {W : World} (h : laidMetH Tryd.prog Rows.portsTextsRow.laid W) : ∃ ea0 ea1 : Addr, Er W ea0 ea1 := by
  have h : laidMet Tryd.prog Rows.portsTextsRow.laid W := h
  obtain ⟨ea0, v0, b0⟩ := sent_one (laidMet.tail (laidMet.tail (laidMet.tail h))) ern0 ert0 Tryd.underlying46 er_row Tryd.underlying135 Tryd.underlying157 rfl rfl Tryd.underlying9 er_c1 er_c2
  obtain ⟨ea1, v1, b1⟩ := sent_one (laidMet.tail (laidMet.tail (laidMet.tail (laidMet.tail h)))) ern1 ert1 Tryd.underlying46 er_row Tryd.underlying135 Tryd.underlying157 rfl rfl Tryd.underlying9 er_c1 er_c2
  have n0_1 : ea0 ≠ ea1 := sent_ne (laidMet.tail (laidMet.tail (laidMet.tail h))) ern0 ert0 ern1 ert1 Tryd.underlying46 er_row Tryd.underlying135 Tryd.underlying157 rfl rfl Tryd.underlying9 er_c1 er_c2 v0 v1
  exact ⟨ea0, ea1, ⟨v0, b0, v1, b1, n0_1, n0_1.symm⟩⟩
theorem portsTexts_contract (H : Type) (enc : TypeId × Value → H) (W : World) (base : Nat) (args : Array Value) (ds gs : List (DataW H)) (before : List MemPlace)
    (hval : ∀ (j : Nat) t v, Tryd.f3.params[j]? = some t → args[j]? = some v → Value.okWide Tryd.prog W .any base t v)
    (hW : DataW.Whole enc Tryd.prog Tryd.f3.params.toList Rows.portsTextsSpec.vars false W args.toList ds gs before) (hG : Gl W) (hE : ∃ ea0 ea1 : Addr, Er W ea0 ea1) :
    Calls Tryd.prog 3 args W fun e W' => ∃ v, e = .returned v ∧ Rows.portsTextsSpec.post enc Tryd.prog Tryd.f3 false true false false W args v W' := by
  obtain ⟨ea0, ea1, hE⟩ := hE
  have hW' := hW
  obtain ⟨p, q, hA, hV, rfl, hfz, hnd⟩ := hW
  rw [Tryd.params3] at hA hval
  obtain ⟨v0, vs0, d0, ds0, p0, q0, hargs, rfl, rfl, h0, r0⟩ := trodAll_cons hA
  obtain ⟨v1, vs1, d1, ds1, p1, q1, rfl, rfl, rfl, h1, r1⟩ := trodAll_cons r0
  obtain ⟨v2, vs2, d2, ds2, p2, q2, rfl, rfl, rfl, h2, r2⟩ := trodAll_cons r1
  obtain ⟨v3, vs3, d3, ds3, p3, q3, rfl, rfl, rfl, h3, r3⟩ := trodAll_cons r2
  obtain ⟨rfl, rfl, rfl⟩ := trodAll_nil r3
  obtain rfl : args = #[v0, v1, v2, v3] := by cases args; simp_all
  obtain ⟨cs0, rfl, _⟩ := okWide_struct Tryd.underlying23 (hval 0 23 v0 rfl rfl)
  obtain ⟨m0, h0⟩ := h0
  obtain ⟨x0_0, x0_1, z0, y0_0, y0_1⟩ := open_23 h0
  obtain rfl : cs0 = [Value.int .i64 x0_0, Value.int .i64 x0_1].toArray := by rw [← z0]; simp [Value.cells]
  obtain ⟨cs1, rfl, _⟩ := okWide_struct Tryd.underlying23 (hval 1 23 v1 rfl rfl)
  obtain ⟨m1, h1⟩ := h1
  obtain ⟨x1_0, x1_1, z1, y1_0, y1_1⟩ := open_23 h1
  obtain rfl : cs1 = [Value.int .i64 x1_0, Value.int .i64 x1_1].toArray := by rw [← z1]; simp [Value.cells]
  obtain ⟨u2, rfl, _⟩ := open_string Tryd.underlying9 (hval 2 9 v2 rfl rfl) h2
  obtain ⟨x2, rfl⟩ : ∃ x : Str, u2 = bs x := ⟨u2.data.toList, bs_of u2⟩
  obtain ⟨x3, rfl, _, _, w3⟩ := open_int Tryd.underlying3 (hval 3 3 v3 rfl rfl) h3
  have hwalk := lPortsTexts_ok W (p := (PortsT.mk x0_0 x0_1)) (q := (PortsT.mk x1_0 x1_1)) (s := x2) (n_ := x3) hG hE
  rw [show (lPortsTexts (PortsT.mk x0_0 x0_1) (PortsT.mk x1_0 x1_1) x2 x3) = true from (lPortsTexts_true _ _ _ _)] at hwalk
  refine hwalk.mono fun e W' ⟨he, hE⟩ => ⟨_, he, ?_⟩
  exact law_post laidOut (by kernel_rfl) rfl Tryd.underlying4 rfl (fun ds hds => by
    match ds, hds with
    | [a0, a1, a2, a3], _ => exact ⟨rfl, rfl, rfl⟩) hW' hE

theorem portsTexts_laid_met (os : Os) : laidMet Tryd.prog Rows.portsTextsRow.laid ((laidWorld os).forCall (fun _ _ => 0) ⟨#[], #[.agg #[.int .i64 0, .int .i64 0], .agg #[.int .i64 0, .int .i64 0], .string ⟨#[]⟩, .int .i64 0], []⟩).memory :=
  laidMet_laidAll _ (by kernel_rfl) (by kernel_rfl)
theorem portsTexts_reads (os : Os) {H : Type} (enc : TypeId × Value → H) : ∃ ds, ∃ places, DataW.whole enc Tryd.prog ((laidWorld os).forCall (fun _ _ => 0) ⟨#[], #[.agg #[.int .i64 0, .int .i64 0], .agg #[.int .i64 0, .int .i64 0], .string ⟨#[]⟩, .int .i64 0], []⟩).memory Tryd.f3.params.toList Rows.portsTextsSpec.vars false (#[.agg #[.int .i64 0, .int .i64 0], .agg #[.int .i64 0, .int .i64 0], .string ⟨#[]⟩, .int .i64 0] : Array Value).toList 8 = some (ds, [], places) :=
  ⟨[.agg [.lit (.int .i64 0), .lit (.int .i64 0)], .agg [.lit (.int .i64 0), .lit (.int .i64 0)], .lit (.string []), .lit (.int .i64 0)], [], by kernel_rfl⟩
set_option maxRecDepth 100000 in
theorem portsTexts_lifted (os : Os) (started : os.Started) (H : Type) (enc : TypeId × Value → H) (F : Stop.Interp) :
    ReturnsInHanded {} Tryd.checked os 3 .any ((OpenSpec.ofChange Rows.portsTextsSpec).preRow enc Tryd.prog Tryd.f3 Rows.portsTextsRow.domain false Rows.portsTextsRow.laid) (((OpenSpec.ofChange Rows.portsTextsSpec).at F).post enc Tryd.prog Tryd.f3 false true false false) := by
  obtain ⟨ds0, places, hx⟩ := portsTexts_reads os enc
  refine returnsInHanded_of_row (C := Tryd.checked) (s := OpenSpec.ofChange Rows.portsTextsSpec) own' started (by kernel_rfl) Tryd.func3
    (witness_row_at (enc := enc) (C := Tryd.checked) false (laidWorld os) #[.agg #[.int .i64 0, .int .i64 0], .agg #[.int .i64 0, .int .i64 0], .string ⟨#[]⟩, .int .i64 0] rfl (by kernel_rfl) (by kernel_rfl) (by kernel_rfl)
      (OpenSpec.preRow_of_cond 8 hx (by kernel_rfl) (fun k hk => by cases hk) (by kernel_rfl) (portsTexts_laid_met os))) ?_
  intro W base args ds gs before hval hW _ _ _ hL hsh _
  exact portsTexts_contract H enc W base args ds gs before hval hW (gl_of hL hsh) (er_of hL)
theorem portsTexts_said : Rows.PortsTextsSaid :=
  OpenClaim.holds_of_cond 3 Tryd.f3 rfl rfl rfl rfl rfl rfl rfl ⟨rfl, rfl, rfl, rfl, rfl⟩ rfl rfl rfl rfl rfl (by kernel_rfl) Tryd.func3 (by kernel_rfl)
    (of_decide_eq_true (by kernel_rfl)) (by unfold Func.isWrapper; first | (rw [if_pos (by decide +kernel)]; kernel_rfl) | (rw [if_neg (by decide +kernel)]; exact ⟨rfl, rfl⟩))
    (fun os started H enc _ F => by rw [OpenClaim.pre_eq_preRow]; exact portsTexts_lifted os started H enc F)
theorem portsTexts_plain (f : FuncId) (fn : Func) (hf : Tryd.pinned.checked.prog.funcNamed "wicketgate/wicketgatelaw07.PortsTexts" = some f) (hfn : Tryd.pinned.checked.prog.funcs[f]? = some fn) :
    true = Tryd.pinned.checked.prog.looks [] ∧ ∀ (j : Nat) t, fn.params[j]? = some t → Tryd.pinned.checked.prog.wantsStandIn t = false := by
  obtain rfl : f = 3 := Option.some.inj ((show Tryd.prog.funcNamed "wicketgate/wicketgatelaw07.PortsTexts" = some 3 by kernel_rfl).symm.trans hf) |>.symm
  obtain rfl : fn = Tryd.f3 := (Option.some.inj (Tryd.func3.symm.trans hfn)).symm
  refine ⟨by kernel_rfl, fun j t ht => ?_⟩
  rw [Tryd.params3] at ht
  have hm := Array.mem_of_getElem? ht
  have hall : (#[23, 23, 9, 3] : Array TypeId).toList.all (fun t => !Tryd.prog.wantsStandIn t) = true := by kernel_rfl
  have := List.all_eq_true.1 hall t (by simpa using hm)
  have h9 : Tryd.prog.wantsStandIn t = false := by simpa using this
  exact h9
/-- 'portsTexts': its card is proved. -/
theorem portsTexts_card : Rows.PortsTextsCardSaid :=
  Claim7.holds_tied_plain_at .later [] _ _ _ _ portsTexts_said (fun _ h => by cases h) (by kernel_rfl) (fun _ h => by cases h) portsTexts_row_tie rfl ⟨rfl, rfl⟩ (by kernel_rfl) rfl portsTexts_plain (by kernel_rfl)

end Go.Proofs.YtnnafnjdngjkoaaDoor
