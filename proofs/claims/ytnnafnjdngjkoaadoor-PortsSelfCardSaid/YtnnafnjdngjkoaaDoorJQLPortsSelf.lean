/- The law 'PortsSelf' is proved here. Its conditions: none. -/
import Derived.Test.YtnnafnjdngjkoaaDoorCards
import Derived.Test.YtnnafnjdngjkoaaDoorTie
import Derived.Test.YtnnafnjdngjkoaaDoorJQL
import Derived.Test.YtnnafnjdngjkoaaDoorJQX
import Derived.Test.YtnnafnjdngjkoaaDoorJQR
import Derived.Test.YtnnafnjdngjkoaaDoorJQS
import Derived.Test.YtnnafnjdngjkoaaDoorJQT
import Derived.Test.YtnnafnjdngjkoaaDoorShelf
namespace Go.Proofs.YtnnafnjdngjkoaaDoor
open Go.Proofs Go.Proofs.YtnnafnjdngjkoaaDoor.Jd
open Go.ChangeShapes Go.WideShapes Go.ChangeAt Go.RowKit Go.ChangeMaps
set_option maxRecDepth 100000
set_option linter.unusedVariables false
set_option linter.unusedSimpArgs false
theorem gl_of {W : World} (h : laidMetH Tryd.prog Rows.portsSelfRow.laid W) (hsh : W.ShapedOpen Tryd.prog) : Gl W := by
  have h : laidMet Tryd.prog Rows.portsSelfRow.laid W := h
  refine ⟨Tryd.laysM145.s1_3 W hsh, ?_⟩
  exact Lib.tabIs_of_head (rest := [("wicketgate/ports.errPorts", Rows.laid_wicketgate_ports_errPorts), ("wicketgate/ports.errTarget", Rows.laid_wicketgate_ports_errTarget)]) (g := 3) (by kernel_rfl) (by kernel_rfl) Tryd.underlying123 Tryd.underlying114 (by kernel_rfl) (by kernel_rfl) (laidMet_tail (laidMet_tail h))
theorem er_of {W : World} (h : laidMetH Tryd.prog Rows.portsSelfRow.laid W) : ∃ ea0 ea1 : Addr, Er W ea0 ea1 := by
  have h : laidMet Tryd.prog Rows.portsSelfRow.laid W := h
  obtain ⟨ea0, v0, b0⟩ := sent_one (laidMet.tail (laidMet.tail (laidMet.tail h))) ern0 ert0 Tryd.underlying46 er_row Tryd.underlying135 Tryd.underlying157 rfl rfl Tryd.underlying9 er_c1 er_c2
  obtain ⟨ea1, v1, b1⟩ := sent_one (laidMet.tail (laidMet.tail (laidMet.tail (laidMet.tail h)))) ern1 ert1 Tryd.underlying46 er_row Tryd.underlying135 Tryd.underlying157 rfl rfl Tryd.underlying9 er_c1 er_c2
  have n0_1 : ea0 ≠ ea1 := sent_ne (laidMet.tail (laidMet.tail (laidMet.tail h))) ern0 ert0 ern1 ert1 Tryd.underlying46 er_row Tryd.underlying135 Tryd.underlying157 rfl rfl Tryd.underlying9 er_c1 er_c2 v0 v1
  exact ⟨ea0, ea1, ⟨v0, b0, v1, b1, n0_1, n0_1.symm⟩⟩
theorem portsSelf_contract (H : Type) (enc : TypeId × Value → H) (W : World) (base : Nat) (args : Array Value) (ds gs : List (DataW H)) (before : List MemPlace)
    (hval : ∀ (j : Nat) t v, Tryd.f7.params[j]? = some t → args[j]? = some v → Value.okWide Tryd.prog W .any base t v)
    (hW : DataW.Whole enc Tryd.prog Tryd.f7.params.toList Rows.portsSelfSpec.vars false W args.toList ds gs before) (hG : Gl W) (hE : ∃ ea0 ea1 : Addr, Er W ea0 ea1) :
    Calls Tryd.prog 7 args W fun e W' => ∃ v, e = .returned v ∧ Rows.portsSelfSpec.post enc Tryd.prog Tryd.f7 false true false false W args v W' := by
  obtain ⟨ea0, ea1, hE⟩ := hE
  have hW' := hW
  obtain ⟨p, q, hA, hV, rfl, hfz, hnd⟩ := hW
  rw [Tryd.params7] at hA hval
  obtain ⟨v0, vs0, d0, ds0, p0, q0, hargs, rfl, rfl, h0, r0⟩ := trodAll_cons hA
  obtain ⟨rfl, rfl, rfl⟩ := trodAll_nil r0
  obtain rfl : args = #[v0] := by cases args; simp_all
  obtain ⟨cs0, rfl, _⟩ := okWide_struct Tryd.underlying23 (hval 0 23 v0 rfl rfl)
  obtain ⟨m0, h0⟩ := h0
  obtain ⟨x0_0, x0_1, z0, y0_0, y0_1⟩ := open_23 h0
  obtain rfl : cs0 = [Value.int .i64 x0_0, Value.int .i64 x0_1].toArray := by rw [← z0]; simp [Value.cells]
  have hwalk := lPortsSelf_ok W (p := (PortsT.mk x0_0 x0_1)) (y0_0) (y0_1) hG hE
  rw [show (lPortsSelf (PortsT.mk x0_0 x0_1)) = true from (lPortsSelf_true _)] at hwalk
  refine hwalk.mono fun e W' ⟨he, hE⟩ => ⟨_, he, ?_⟩
  exact law_post laidOut (by kernel_rfl) rfl Tryd.underlying4 rfl (fun ds hds => by
    match ds, hds with
    | [a0], _ => exact ⟨rfl, rfl, rfl⟩) hW' hE

theorem portsSelf_laid_met (os : Os) : laidMet Tryd.prog Rows.portsSelfRow.laid ((laidWorld os).forCall (fun _ _ => 0) ⟨#[], #[.agg #[.int .i64 0, .int .i64 0]], []⟩).memory :=
  laidMet_laidAll _ (by kernel_rfl) (by kernel_rfl)
theorem portsSelf_reads (os : Os) {H : Type} (enc : TypeId × Value → H) : ∃ ds, ∃ places, DataW.whole enc Tryd.prog ((laidWorld os).forCall (fun _ _ => 0) ⟨#[], #[.agg #[.int .i64 0, .int .i64 0]], []⟩).memory Tryd.f7.params.toList Rows.portsSelfSpec.vars false (#[.agg #[.int .i64 0, .int .i64 0]] : Array Value).toList 8 = some (ds, [], places) :=
  ⟨[.agg [.lit (.int .i64 0), .lit (.int .i64 0)]], [], by kernel_rfl⟩
set_option maxRecDepth 100000 in
theorem portsSelf_lifted (os : Os) (started : os.Started) (H : Type) (enc : TypeId × Value → H) (F : Stop.Interp) :
    ReturnsInHanded {} Tryd.checked os 7 .any ((OpenSpec.ofChange Rows.portsSelfSpec).preRow enc Tryd.prog Tryd.f7 Rows.portsSelfRow.domain false Rows.portsSelfRow.laid) (((OpenSpec.ofChange Rows.portsSelfSpec).at F).post enc Tryd.prog Tryd.f7 false true false false) := by
  obtain ⟨ds0, places, hx⟩ := portsSelf_reads os enc
  refine returnsInHanded_of_row (C := Tryd.checked) (s := OpenSpec.ofChange Rows.portsSelfSpec) own' started (by kernel_rfl) Tryd.func7
    (witness_row_at (enc := enc) (C := Tryd.checked) false (laidWorld os) #[.agg #[.int .i64 0, .int .i64 0]] rfl (by kernel_rfl) (by kernel_rfl) (by kernel_rfl)
      (OpenSpec.preRow_of_cond 8 hx (by kernel_rfl) (fun k hk => by cases hk) (by kernel_rfl) (portsSelf_laid_met os))) ?_
  intro W base args ds gs before hval hW _ _ _ hL hsh _
  exact portsSelf_contract H enc W base args ds gs before hval hW (gl_of hL hsh) (er_of hL)
theorem portsSelf_said : Rows.PortsSelfSaid :=
  OpenClaim.holds_of_cond 7 Tryd.f7 rfl rfl rfl rfl rfl rfl rfl ⟨rfl, rfl, rfl, rfl, rfl⟩ rfl rfl rfl rfl rfl (by kernel_rfl) Tryd.func7 (by kernel_rfl)
    (of_decide_eq_true (by kernel_rfl)) (by unfold Func.isWrapper; first | (rw [if_pos (by decide +kernel)]; kernel_rfl) | (rw [if_neg (by decide +kernel)]; exact ⟨rfl, rfl⟩))
    (fun os started H enc _ F => by rw [OpenClaim.pre_eq_preRow]; exact portsSelf_lifted os started H enc F)
theorem portsSelf_plain (f : FuncId) (fn : Func) (hf : Tryd.pinned.checked.prog.funcNamed "wicketgate/wicketgatelaw07.PortsSelf" = some f) (hfn : Tryd.pinned.checked.prog.funcs[f]? = some fn) :
    true = Tryd.pinned.checked.prog.looks [] ∧ ∀ (j : Nat) t, fn.params[j]? = some t → Tryd.pinned.checked.prog.wantsStandIn t = false := by
  obtain rfl : f = 7 := Option.some.inj ((show Tryd.prog.funcNamed "wicketgate/wicketgatelaw07.PortsSelf" = some 7 by kernel_rfl).symm.trans hf) |>.symm
  obtain rfl : fn = Tryd.f7 := (Option.some.inj (Tryd.func7.symm.trans hfn)).symm
  refine ⟨by kernel_rfl, fun j t ht => ?_⟩
  rw [Tryd.params7] at ht
  have hm := Array.mem_of_getElem? ht
  have hall : (#[23] : Array TypeId).toList.all (fun t => !Tryd.prog.wantsStandIn t) = true := by kernel_rfl
  have := List.all_eq_true.1 hall t (by simpa using hm)
  have h9 : Tryd.prog.wantsStandIn t = false := by simpa using this
  exact h9
/-- 'portsSelf': its card is proved. -/
theorem portsSelf_card : Rows.PortsSelfCardSaid :=
  Claim7.holds_tied_plain_at .later [] _ _ _ _ portsSelf_said (fun _ h => by cases h) (by kernel_rfl) (fun _ h => by cases h) portsSelf_row_tie rfl ⟨rfl, rfl⟩ (by kernel_rfl) rfl portsSelf_plain (by kernel_rfl)

end Go.Proofs.YtnnafnjdngjkoaaDoor
