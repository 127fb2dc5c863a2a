/- The law 'AddrSplits' is proved here. Its conditions: none. -/
import Derived.Test.YtnobbbkeomocgaaDoorCards
import Derived.Test.YtnobbbkeomocgaaDoorTie
import Derived.Test.YtnobbbkeomocgaaDoorJLA
import Derived.Test.YtnobbbkeomocgaaDoorJWB
import Derived.Test.YtnobbbkeomocgaaDoorJPF
import Derived.Test.YtnobbbkeomocgaaDoorShelf
namespace Go.Proofs.YtnobbbkeomocgaaDoor
open Go.Proofs Go.Proofs.YtnobbbkeomocgaaDoor.Jd
open Go.ChangeShapes Go.WideShapes Go.ChangeAt Go.RowKit Go.ChangeMaps
set_option linter.unusedVariables false
set_option linter.unusedSimpArgs false
theorem gl_of {W : World} (h : laidMetH Tryd.prog Rows.addrSplitsRow.laid W) (hsh : W.ShapedOpen Tryd.prog) : Gl W := by
  have h : laidMet Tryd.prog Rows.addrSplitsRow.laid W := h
  refine ⟨Tryd.laysM145.s1_3 W hsh, ?_⟩
  exact Lib.tabIs_of_head (rest := []) (g := 1) (by kernel_rfl) (by kernel_rfl) Tryd.underlying96 Tryd.underlying86 (by kernel_rfl) (by kernel_rfl) (laidMet_tail (laidMet_tail h))
theorem addrSplits_contract (H : Type) (enc : TypeId × Value → H) (W : World) (base : Nat) (args : Array Value) (ds gs : List (DataW H)) (before : List MemPlace)
    (hval : ∀ (j : Nat) t v, Tryd.f9.params[j]? = some t → args[j]? = some v → Value.okWide Tryd.prog W .any base t v)
    (hW : DataW.Whole enc Tryd.prog Tryd.f9.params.toList Rows.addrSplitsSpec.vars false W args.toList ds gs before) (hG : Gl W) :
    Calls Tryd.prog 9 args W fun e W' => ∃ v, e = .returned v ∧ Rows.addrSplitsSpec.post enc Tryd.prog Tryd.f9 false true false false W args v W' := by
  have hW' := hW
  obtain ⟨p, q, hA, hV, rfl, hfz, hnd⟩ := hW
  rw [Tryd.params9] at hA hval
  obtain ⟨v0, vs0, d0, ds0, p0, q0, hargs, rfl, rfl, h0, r0⟩ := trodAll_cons hA
  obtain ⟨v1, vs1, d1, ds1, p1, q1, rfl, rfl, rfl, h1, r1⟩ := trodAll_cons r0
  obtain ⟨rfl, rfl, rfl⟩ := trodAll_nil r1
  obtain rfl : args = #[v0, v1] := by cases args; simp_all
  obtain ⟨cs0, rfl, _⟩ := okWide_struct Tryd.underlying23 (hval 0 23 v0 rfl rfl)
  obtain ⟨m0, h0⟩ := h0
  obtain ⟨x0_0, x0_1, z0, y0_0, y0_1⟩ := open_23 h0
  obtain rfl : cs0 = [Value.int .i64 x0_0, Value.int .i64 x0_1].toArray := by rw [← z0]; simp [Value.cells]
  obtain ⟨x1, rfl, _, _, w1⟩ := open_int Tryd.underlying3 (hval 1 3 v1 rfl rfl) h1
  have hwalk := lAddrSplits_ok W (p := (Prefix.mk x0_0 x0_1)) (a := x1) (y0_1) hG
  rw [show (lAddrSplits (Prefix.mk x0_0 x0_1) x1) = true from (lAddrSplits_true _ _)] at hwalk
  refine hwalk.mono fun e W' ⟨he, hE⟩ => ⟨_, he, ?_⟩
  exact law_post laidOut (by kernel_rfl) rfl Tryd.underlying4 rfl (fun ds hds => by
    match ds, hds with
    | [a0, a1], _ => exact ⟨rfl, rfl, rfl⟩) hW' hE

theorem addrSplits_laid_met (os : Os) : laidMet Tryd.prog Rows.addrSplitsRow.laid ((laidWorld os).forCall (fun _ _ => 0) ⟨#[], #[.agg #[.int .i64 0, .int .i64 0], .int .i64 0], []⟩).memory :=
  laidMet_of_run' 8 (by kernel_rfl) (by kernel_rfl)
theorem addrSplits_reads (os : Os) {H : Type} (enc : TypeId × Value → H) : ∃ ds, ∃ places, DataW.whole enc Tryd.prog ((laidWorld os).forCall (fun _ _ => 0) ⟨#[], #[.agg #[.int .i64 0, .int .i64 0], .int .i64 0], []⟩).memory Tryd.f9.params.toList Rows.addrSplitsSpec.vars false (#[.agg #[.int .i64 0, .int .i64 0], .int .i64 0] : Array Value).toList 8 = some (ds, [], places) :=
  ⟨[.agg [.lit (.int .i64 0), .lit (.int .i64 0)], .lit (.int .i64 0)], [], by kernel_rfl⟩
set_option maxRecDepth 100000 in
theorem addrSplits_lifted (os : Os) (started : os.Started) (H : Type) (enc : TypeId × Value → H) (F : Stop.Interp) :
    ReturnsInHanded {} Tryd.checked os 9 .any ((OpenSpec.ofChange Rows.addrSplitsSpec).preRow enc Tryd.prog Tryd.f9 Rows.addrSplitsRow.domain false Rows.addrSplitsRow.laid) (((OpenSpec.ofChange Rows.addrSplitsSpec).at F).post enc Tryd.prog Tryd.f9 false true false false) := by
  obtain ⟨ds0, places, hx⟩ := addrSplits_reads os enc
  refine returnsInHanded_of_row (C := Tryd.checked) (s := OpenSpec.ofChange Rows.addrSplitsSpec) own' started (by kernel_rfl) Tryd.func9
    (witness_row_at (enc := enc) (C := Tryd.checked) false (laidWorld os) #[.agg #[.int .i64 0, .int .i64 0], .int .i64 0] rfl (by kernel_rfl) (by kernel_rfl) (by kernel_rfl)
      (OpenSpec.preRow_of_cond 8 hx (by kernel_rfl) (fun k hk => by cases hk) (by kernel_rfl) (addrSplits_laid_met os))) ?_
  intro W base args ds gs before hval hW _ _ _ hL hsh _
  exact addrSplits_contract H enc W base args ds gs before hval hW (gl_of hL hsh)
theorem addrSplits_said : Rows.AddrSplitsSaid :=
  OpenClaim.holds_of_cond 9 Tryd.f9 rfl rfl rfl rfl rfl rfl rfl ⟨rfl, rfl, rfl, rfl, rfl⟩ rfl rfl rfl rfl rfl (by kernel_rfl) Tryd.func9 (by kernel_rfl)
    (of_decide_eq_true (by kernel_rfl)) (by unfold Func.isWrapper; first | (rw [if_pos (by decide +kernel)]; kernel_rfl) | (rw [if_neg (by decide +kernel)]; exact ⟨rfl, rfl⟩))
    (fun os started H enc _ F => by rw [OpenClaim.pre_eq_preRow]; exact addrSplits_lifted os started H enc F)
theorem addrSplits_plain (f : FuncId) (fn : Func) (hf : Tryd.pinned.checked.prog.funcNamed "wicketgate/wicketgatelaw06.AddrSplits" = some f) (hfn : Tryd.pinned.checked.prog.funcs[f]? = some fn) :
    false = Tryd.pinned.checked.prog.looks [] ∧ ∀ (j : Nat) t, fn.params[j]? = some t → Tryd.pinned.checked.prog.wantsStandIn t = false := by
  obtain rfl : f = 9 := Option.some.inj ((show Tryd.prog.funcNamed "wicketgate/wicketgatelaw06.AddrSplits" = some 9 by kernel_rfl).symm.trans hf) |>.symm
  obtain rfl : fn = Tryd.f9 := (Option.some.inj (Tryd.func9.symm.trans hfn)).symm
  refine ⟨by kernel_rfl, fun j t ht => ?_⟩
  rw [Tryd.params9] at ht
  have hm := Array.mem_of_getElem? ht
  have hall : (#[23, 3] : Array TypeId).toList.all (fun t => !Tryd.prog.wantsStandIn t) = true := by kernel_rfl
  have := List.all_eq_true.1 hall t (by simpa using hm)
  have h9 : Tryd.prog.wantsStandIn t = false := by simpa using this
  exact h9
/-- 'addrSplits': its card is proved. -/
theorem addrSplits_card : Rows.AddrSplitsCardSaid :=
  Claim7.holds_tied_plain_at .later [] _ _ _ _ addrSplits_said (fun _ h => by cases h) (by kernel_rfl) (fun _ h => by cases h) addrSplits_row_tie rfl ⟨rfl, rfl⟩ (by kernel_rfl) rfl addrSplits_plain (by kernel_rfl)

end Go.Proofs.YtnobbbkeomocgaaDoor
