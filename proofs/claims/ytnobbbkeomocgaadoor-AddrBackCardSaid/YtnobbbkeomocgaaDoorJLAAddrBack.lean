/- The law 'AddrBack' is proved here. Its conditions: none. -/
import Derived.Test.YtnobbbkeomocgaaDoorCards
import Derived.Test.YtnobbbkeomocgaaDoorTie
import Derived.Test.YtnobbbkeomocgaaDoorJLA
import Derived.Test.YtnobbbkeomocgaaDoorJWB
import Derived.Test.YtnobbbkeomocgaaDoorJPF
import Derived.Test.YtnobbbkeomocgaaDoorShelf
namespace Go.Proofs.YtnobbbkeomocgaaDoor
open Go.Proofs Go.Proofs.YtnobbbkeomocgaaDoor.Jd
open Go.ChangeShapes Go.WideShapes Go.ChangeAt Go.RowKit Go.ChangeMaps
set_option linter.unusedVariables false
set_option linter.unusedSimpArgs false
theorem gl_of {W : World} (h : laidMetH Tryd.prog Rows.addrBackRow.laid W) (hsh : W.ShapedOpen Tryd.prog) : Gl W := by
  have h : laidMet Tryd.prog Rows.addrBackRow.laid W := h
  refine ⟨Tryd.laysM145.s1_3 W hsh, ?_⟩
  exact Lib.tabIs_of_head (rest := []) (g := 1) (by kernel_rfl) (by kernel_rfl) Tryd.underlying96 Tryd.underlying86 (by kernel_rfl) (by kernel_rfl) (laidMet_tail (laidMet_tail h))
theorem addrBack_contract (H : Type) (enc : TypeId × Value → H) (W : World) (base : Nat) (args : Array Value) (ds gs : List (DataW H)) (before : List MemPlace)
    (hval : ∀ (j : Nat) t v, Tryd.f6.params[j]? = some t → args[j]? = some v → Value.okWide Tryd.prog W .any base t v)
    (hW : DataW.Whole enc Tryd.prog Tryd.f6.params.toList Rows.addrBackSpec.vars false W args.toList ds gs before) (hG : Gl W) :
    Calls Tryd.prog 6 args W fun e W' => ∃ v, e = .returned v ∧ Rows.addrBackSpec.post enc Tryd.prog Tryd.f6 false true false false W args v W' := by
  have hW' := hW
  obtain ⟨p, q, hA, hV, rfl, hfz, hnd⟩ := hW
  rw [Tryd.params6] at hA hval
  obtain ⟨v0, vs0, d0, ds0, p0, q0, hargs, rfl, rfl, h0, r0⟩ := trodAll_cons hA
  obtain ⟨v1, vs1, d1, ds1, p1, q1, rfl, rfl, rfl, h1, r1⟩ := trodAll_cons r0
  obtain ⟨v2, vs2, d2, ds2, p2, q2, rfl, rfl, rfl, h2, r2⟩ := trodAll_cons r1
  obtain ⟨rfl, rfl, rfl⟩ := trodAll_nil r2
  obtain rfl : args = #[v0, v1, v2] := by cases args; simp_all
  obtain ⟨x0, rfl, _, _, w0⟩ := open_int Tryd.underlying3 (hval 0 3 v0 rfl rfl) h0
  obtain ⟨cs1, rfl, _⟩ := okWide_struct Tryd.underlying23 (hval 1 23 v1 rfl rfl)
  obtain ⟨m1, h1⟩ := h1
  obtain ⟨x1_0, x1_1, z1, y1_0, y1_1⟩ := open_23 h1
  obtain rfl : cs1 = [Value.int .i64 x1_0, Value.int .i64 x1_1].toArray := by rw [← z1]; simp [Value.cells]
  obtain ⟨u2, rfl, _⟩ := open_string Tryd.underlying9 (hval 2 9 v2 rfl rfl) h2
  obtain ⟨x2, rfl⟩ : ∃ x : Str, u2 = bs x := ⟨u2.data.toList, bs_of u2⟩
  have hwalk := lAddrBack_ok W (a := x0) (p := (Prefix.mk x1_0 x1_1)) (s := x2) hG
  rw [show (lAddrBack x0 (Prefix.mk x1_0 x1_1) x2) = true from (lAddrBack_true _ _ _)] at hwalk
  refine hwalk.mono fun e W' ⟨he, hE⟩ => ⟨_, he, ?_⟩
  exact law_post laidOut (by kernel_rfl) rfl Tryd.underlying4 rfl (fun ds hds => by
    match ds, hds with
    | [a0, a1, a2], _ => exact ⟨rfl, rfl, rfl⟩) hW' hE

theorem addrBack_laid_met (os : Os) : laidMet Tryd.prog Rows.addrBackRow.laid ((laidWorld os).forCall (fun _ _ => 0) ⟨#[], #[.int .i64 0, .agg #[.int .i64 0, .int .i64 0], .string ⟨#[]⟩], []⟩).memory :=
  laidMet_of_run' 8 (by kernel_rfl) (by kernel_rfl)
theorem addrBack_reads (os : Os) {H : Type} (enc : TypeId × Value → H) : ∃ ds, ∃ places, DataW.whole enc Tryd.prog ((laidWorld os).forCall (fun _ _ => 0) ⟨#[], #[.int .i64 0, .agg #[.int .i64 0, .int .i64 0], .string ⟨#[]⟩], []⟩).memory Tryd.f6.params.toList Rows.addrBackSpec.vars false (#[.int .i64 0, .agg #[.int .i64 0, .int .i64 0], .string ⟨#[]⟩] : Array Value).toList 8 = some (ds, [], places) :=
  ⟨[.lit (.int .i64 0), .agg [.lit (.int .i64 0), .lit (.int .i64 0)], .lit (.string [])], [], by kernel_rfl⟩
set_option maxRecDepth 100000 in
theorem addrBack_lifted (os : Os) (started : os.Started) (H : Type) (enc : TypeId × Value → H) (F : Stop.Interp) :
    ReturnsInHanded {} Tryd.checked os 6 .any ((OpenSpec.ofChange Rows.addrBackSpec).preRow enc Tryd.prog Tryd.f6 Rows.addrBackRow.domain false Rows.addrBackRow.laid) (((OpenSpec.ofChange Rows.addrBackSpec).at F).post enc Tryd.prog Tryd.f6 false true false false) := by
  obtain ⟨ds0, places, hx⟩ := addrBack_reads os enc
  refine returnsInHanded_of_row (C := Tryd.checked) (s := OpenSpec.ofChange Rows.addrBackSpec) own' started (by kernel_rfl) Tryd.func6
    (witness_row_at (enc := enc) (C := Tryd.checked) false (laidWorld os) #[.int .i64 0, .agg #[.int .i64 0, .int .i64 0], .string ⟨#[]⟩] rfl (by kernel_rfl) (by kernel_rfl) (by kernel_rfl)
      (OpenSpec.preRow_of_cond 8 hx (by kernel_rfl) (fun k hk => by cases hk) (by kernel_rfl) (addrBack_laid_met os))) ?_
  intro W base args ds gs before hval hW _ _ _ hL hsh _
  exact addrBack_contract H enc W base args ds gs before hval hW (gl_of hL hsh)
theorem addrBack_said : Rows.AddrBackSaid :=
  OpenClaim.holds_of_cond 6 Tryd.f6 rfl rfl rfl rfl rfl rfl rfl ⟨rfl, rfl, rfl, rfl, rfl⟩ rfl rfl rfl rfl rfl (by kernel_rfl) Tryd.func6 (by kernel_rfl)
    (of_decide_eq_true (by kernel_rfl)) (by unfold Func.isWrapper; first | (rw [if_pos (by decide +kernel)]; kernel_rfl) | (rw [if_neg (by decide +kernel)]; exact ⟨rfl, rfl⟩))
    (fun os started H enc _ F => by rw [OpenClaim.pre_eq_preRow]; exact addrBack_lifted os started H enc F)
theorem addrBack_plain (f : FuncId) (fn : Func) (hf : Tryd.pinned.checked.prog.funcNamed "wicketgate/wicketgatelaw06.AddrBack" = some f) (hfn : Tryd.pinned.checked.prog.funcs[f]? = some fn) :
    false = Tryd.pinned.checked.prog.looks [] ∧ ∀ (j : Nat) t, fn.params[j]? = some t → Tryd.pinned.checked.prog.wantsStandIn t = false := by
  obtain rfl : f = 6 := Option.some.inj ((show Tryd.prog.funcNamed "wicketgate/wicketgatelaw06.AddrBack" = some 6 by kernel_rfl).symm.trans hf) |>.symm
  obtain rfl : fn = Tryd.f6 := (Option.some.inj (Tryd.func6.symm.trans hfn)).symm
  refine ⟨by kernel_rfl, fun j t ht => ?_⟩
  rw [Tryd.params6] at ht
  have hm := Array.mem_of_getElem? ht
  have hall : (#[3, 23, 9] : Array TypeId).toList.all (fun t => !Tryd.prog.wantsStandIn t) = true := by kernel_rfl
  have := List.all_eq_true.1 hall t (by simpa using hm)
  have h9 : Tryd.prog.wantsStandIn t = false := by simpa using this
  exact h9
/-- 'addrBack': its card is proved. -/
theorem addrBack_card : Rows.AddrBackCardSaid :=
  Claim7.holds_tied_plain_at .later [] _ _ _ _ addrBack_said (fun _ h => by cases h) (by kernel_rfl) (fun _ h => by cases h) addrBack_row_tie rfl ⟨rfl, rfl⟩ (by kernel_rfl) rfl addrBack_plain (by kernel_rfl)

end Go.Proofs.YtnobbbkeomocgaaDoor
