/- The law of this text is proved here. Its conditions: none. -/
import Derived.Test.YtopjaeoklkpcpaaGreatDoorQ0
import Derived.Test.YtopjaeoklkpcpaaGreatDoorCards
import Derived.Test.YtopjaeoklkpcpaaGreatDoorTie
import Derived.Shelf.Slices.Equal
import Derived.Ground.Names2Prog
import Derived.Shelf.Slices.Clone
import Derived.Shelf.Slices.Empties2
import Derived.Test.YtopjaeoklkpcpaaGreatDoorProg
import Derived.Test.YtopjaeoklkpcpaaGreatDoorQ5
import Derived.Test.YtopjaeoklkpcpaaGreatDoorQ2
import Derived.Test.YtopjaeoklkpcpaaGreatDoorQ3
import Derived.Test.YtopjaeoklkpcpaaGreatDoorQ1
import Derived.Test.YtopjaeoklkpcpaaGreatDoorQ4
namespace Go.Proofs.YtopjaeoklkpcpaaGreatDoor
open Go.Proofs.Tryz
open Go.Proofs Go.Proofs.YtopjaeoklkpcpaaGreatDoor.Jd
open Go.ChangeShapes Go.WideShapes Go.ChangeAt Go.RowKit Go.ChangeMaps
set_option maxRecDepth 100000
set_option linter.unusedVariables false
set_option linter.unusedSimpArgs false
theorem AT1 {W : World} (h : laidMetH Tryz.prog Rows.registryTellsRow.laid W) (hsh : W.ShapedOpen Tryz.prog) : Gl W := by
  have h2 : laidMet Tryz.prog sG W ∧ handlesMet Tryz.prog [("errors.errorType", Rows.laid_errors_errorType)] W := h
  have h := h2.1
  exact ⟨Ob (g := 1) z4 (kG (l := [(1, [99, 114, 101, 97, 116, 101], 4), (2, [115, 117, 115, 112, 101, 110, 100], 2), (3, [114, 101, 115, 117, 109, 101], 2), (4, [100, 114, 97, 105, 110], 2), (5, [100, 101, 108, 101, 116, 101], 4), (6, [114, 111, 116, 97, 116, 101], 4), (7, [97, 99, 108], 4), (8, [107, 105, 108, 108], 2), (9, [108, 105, 115, 116], 1), (10, [115, 104, 111, 119], 1)]) (rest := []) (g := 1) z4 z4 underlying193 underlying156 rfl z4 z4 rfl rfl rfl underlying3 underlying9 underlying3 z4 z4 z4 z4 (Ly (Ly (Ly (Ly h))))), uP h2.2 List.mem_cons_self rfl rfl z4 z4 (N := 273) z4 z4 z4⟩
theorem AT2 {W : World} (h : laidMetH Tryz.prog Rows.registryTellsRow.laid W) : ∃ ea0 ea1 ea2 ea3 : Addr, Er W ea0 ea1 ea2 ea3 := by
  have h2 : laidMet Tryz.prog sG W ∧ handlesMet Tryz.prog [("errors.errorType", Rows.laid_errors_errorType)] W := h
  have h := h2.1
  obtain ⟨ea0, v0, b0⟩ := Xx h V3 V4 underlying78 Pe underlying240 underlying261 rfl rfl underlying9 Vl Vm
  obtain ⟨ea1, v1, b1⟩ := Xx (laidMet.tail h) V5 V6 underlying78 Pe underlying240 underlying261 rfl rfl underlying9 Vl Vm
  obtain ⟨ea2, v2, b2⟩ := Xx (laidMet.tail (laidMet.tail h)) V7 V8 underlying78 Pe underlying240 underlying261 rfl rfl underlying9 Vl Vm
  obtain ⟨ea3, v3, b3⟩ := Xx (laidMet.tail (laidMet.tail (laidMet.tail h))) V9 W0 underlying78 Pe underlying240 underlying261 rfl rfl underlying9 Vl Vm
  have n0_1 : ea0 ≠ ea1 := Tz h V3 V4 V5 V6 underlying78 Pe underlying240 underlying261 rfl rfl underlying9 Vl Vm v0 v1
  have n0_2 : ea0 ≠ ea2 := Tz (Lz h) V3 V4 V7 V8 underlying78 Pe underlying240 underlying261 rfl rfl underlying9 Vl Vm v0 v2
  have n0_3 : ea0 ≠ ea3 := Tz (Lz (Lz h)) V3 V4 V9 W0 underlying78 Pe underlying240 underlying261 rfl rfl underlying9 Vl Vm v0 v3
  have n1_2 : ea1 ≠ ea2 := Tz (laidMet.tail h) V5 V6 V7 V8 underlying78 Pe underlying240 underlying261 rfl rfl underlying9 Vl Vm v1 v2
  have n1_3 : ea1 ≠ ea3 := Tz (Lz (laidMet.tail h)) V5 V6 V9 W0 underlying78 Pe underlying240 underlying261 rfl rfl underlying9 Vl Vm v1 v3
  have n2_3 : ea2 ≠ ea3 := Tz (laidMet.tail (laidMet.tail h)) V7 V8 V9 W0 underlying78 Pe underlying240 underlying261 rfl rfl underlying9 Vl Vm v2 v3
  exact ⟨ea0, ea1, ea2, ea3, ⟨v0, b0, v1, b1, v2, b2, v3, b3, n0_1, n0_2, n0_3, n0_1.symm, n1_2, n1_3, n0_2.symm, n1_2.symm, n2_3, n0_3.symm, n1_3.symm, n2_3.symm⟩⟩
theorem Rg (H : Type) (enc : TypeId × Value → H) (W : World) (base : Nat) (args : Array Value) (ds gs : List (DataW H)) (before : List MemPlace)
    (hval : ∀ (j : Nat) t v, Tryz.f12.params[j]? = some t → args[j]? = some v → Value.okWide Tryz.prog W .any base t v)
    (hW : DataW.Whole enc Tryz.prog Tryz.f12.params.toList Rows.registryTellsSpec.vars false W args.toList ds gs before) (hG : Gl W) (hE : ∃ ea0 ea1 ea2 ea3 : Addr, Er W ea0 ea1 ea2 ea3) :
    Calls Tryz.prog 12 args W fun e W' => ∃ v, e = .returned v ∧ Rows.registryTellsSpec.post enc Tryz.prog Tryz.f12 false true false false W args v W' := by
  obtain ⟨ea0, ea1, ea2, ea3, hE⟩ := hE
  have hW' := hW
  obtain ⟨p, q, hA, hV, rfl, hfz, hnd⟩ := hW
  rw [Tryz.params12] at hA hval
  obtain ⟨v0, vs0, d0, ds0, p0, q0, hargs, rfl, rfl, h0, r0⟩ := trodAll_cons hA
  obtain ⟨v1, vs1, d1, ds1, p1, q1, rfl, rfl, rfl, h1, r1⟩ := trodAll_cons r0
  obtain ⟨v2, vs2, d2, ds2, p2, q2, rfl, rfl, rfl, h2, r2⟩ := trodAll_cons r1
  obtain ⟨v3, vs3, d3, ds3, p3, q3, rfl, rfl, rfl, h3, r3⟩ := trodAll_cons r2
  obtain ⟨rfl, rfl, rfl⟩ := trodAll_nil r3
  obtain rfl : args = #[v0, v1, v2, v3] := by cases args; simp_all
  obtain ⟨cs0, rfl, _⟩ := okWide_struct underlying28 (hval 0 28 v0 rfl rfl)
  obtain ⟨m0, h0⟩ := h0
  obtain ⟨x0_0, x0_1, x0_2, x0_3, x0_4, x0_5, x0_6, x0_7, x0_8, x0_9, x0_10, x0_11, x0_12, x0_13, z0, y0_0, y0_1, y0_2, y0_3, y0_4, y0_5, y0_6, y0_7, y0_8⟩ := sF h0
  obtain rfl : cs0 = [Value.slice x0_0 x0_2.length x0_1, Value.slice x0_3 x0_5.length x0_4, Value.slice x0_6 x0_8.length x0_7, Value.slice x0_9 x0_11.length x0_10, Value.int .i64 x0_13].toArray := by rw [← z0]; simp [Value.cells]
  obtain ⟨cs1, rfl, _⟩ := okWide_struct underlying28 (hval 1 28 v1 rfl rfl)
  obtain ⟨m1, h1⟩ := h1
  obtain ⟨x1_0, x1_1, x1_2, x1_3, x1_4, x1_5, x1_6, x1_7, x1_8, x1_9, x1_10, x1_11, x1_12, x1_13, z1, y1_0, y1_1, y1_2, y1_3, y1_4, y1_5, y1_6, y1_7, y1_8⟩ := sF h1
  obtain rfl : cs1 = [Value.slice x1_0 x1_2.length x1_1, Value.slice x1_3 x1_5.length x1_4, Value.slice x1_6 x1_8.length x1_7, Value.slice x1_9 x1_11.length x1_10, Value.int .i64 x1_13].toArray := by rw [← z1]; simp [Value.cells]
  obtain ⟨x2, rfl, _, _, w2⟩ := open_int underlying3 (hval 2 3 v2 rfl rfl) h2
  obtain ⟨u3, rfl, _⟩ := open_string underlying9 (hval 3 9 v3 rfl rfl) h3
  obtain ⟨x3, rfl⟩ : ∃ x : Ap, u3 = bs x := ⟨u3.data.toList, zX u3⟩
  have hwalk := Yz W (r := (Ac.mk (Ax.mk x0_2 x0_5 x0_8) x0_11 x0_13)) (q := (Ac.mk (Ax.mk x1_2 x1_5 x1_8) x1_11 x1_13)) (n_ := x2) (s := x3) y0_1 (y0_0) y0_3 (y0_2) y0_5 (y0_4) y0_7 (y0_6) y1_1 (y1_0) y1_3 (y1_2) y1_5 (y1_4) y1_7 (y1_6) hG hE
  rw [show (Hw (Ac.mk (Ax.mk x0_2 x0_5 x0_8) x0_11 x0_13) (Ac.mk (Ax.mk x1_2 x1_5 x1_8) x1_11 x1_13) x2 x3) = true from (Vc _ _ _ _)] at hwalk
  refine hwalk.mono fun e W' ⟨he, hE⟩ => ⟨_, he, ?_⟩
  exact zM U1 z4 rfl underlying4 rfl (fun ds hds => by
    match ds, hds with
    | [a0, a1, a2, a3], _ => exact ⟨rfl, rfl, rfl⟩) hW' hE

theorem Rh (os : Os) : laidMetH Tryz.prog Rows.registryTellsRow.laid ((Zt os).forCall (fun _ _ => 0) ⟨#[], #[.agg #[.slice none 0 0, .slice none 0 0, .slice none 0 0, .slice none 0 0, .int .i64 0], .agg #[.slice none 0 0, .slice none 0 0, .slice none 0 0, .slice none 0 0, .int .i64 0], .int .i64 0, .string ⟨#[]⟩], []⟩).memory :=
  laidMetH_of_parts (by rw [show (Rows.registryTellsRow.laid.filter fun x => x.2.handleName?.isNone) = sG by kernel_rfl]; exact kH (F5 os) _ z4 z4) z4
theorem Vd (os : Os) {H : Type} (enc : TypeId × Value → H) : ∃ ds, ∃ places, DataW.whole enc Tryz.prog ((Zt os).forCall (fun _ _ => 0) ⟨#[], #[.agg #[.slice none 0 0, .slice none 0 0, .slice none 0 0, .slice none 0 0, .int .i64 0], .agg #[.slice none 0 0, .slice none 0 0, .slice none 0 0, .slice none 0 0, .int .i64 0], .int .i64 0, .string ⟨#[]⟩], []⟩).memory Tryz.f12.params.toList Rows.registryTellsSpec.vars false (#[.agg #[.slice none 0 0, .slice none 0 0, .slice none 0 0, .slice none 0 0, .int .i64 0], .agg #[.slice none 0 0, .slice none 0 0, .slice none 0 0, .slice none 0 0, .int .i64 0], .int .i64 0, .string ⟨#[]⟩] : Array Value).toList 8 = some (ds, [], places) :=
  ⟨[.agg [.agg [.nil, .nil, .nil], .nil, .lit (.int .i64 0)], .agg [.agg [.nil, .nil, .nil], .nil, .lit (.int .i64 0)], .lit (.int .i64 0), .lit (.string [])], [], by kernel_rfl⟩
set_option maxRecDepth 100000 in
theorem Tq (os : Os) (started : os.Started) (H : Type) (enc : TypeId × Value → H) (F : Stop.Interp) :
    ReturnsInHanded {} Tryz.checked os 12 .any ((OpenSpec.ofChange Rows.registryTellsSpec).preRow enc Tryz.prog Tryz.f12 Rows.registryTellsRow.domain false Rows.registryTellsRow.laid) (((OpenSpec.ofChange Rows.registryTellsSpec).at F).post enc Tryz.prog Tryz.f12 false true false false) := by
  obtain ⟨ds0, places, hx⟩ := Vd os enc
  refine returnsInHanded_of_row (C := Tryz.checked) (s := OpenSpec.ofChange Rows.registryTellsSpec) AU9 started z4 func12
    (witness_row_at (enc := enc) (C := Tryz.checked) false (Zt os) #[.agg #[.slice none 0 0, .slice none 0 0, .slice none 0 0, .slice none 0 0, .int .i64 0], .agg #[.slice none 0 0, .slice none 0 0, .slice none 0 0, .slice none 0 0, .int .i64 0], .int .i64 0, .string ⟨#[]⟩] rfl z4 z4 z4
      (OpenSpec.preRow_of_cond 8 hx z4 (fun k hk => by cases hk) z4 (Rh os))) ?_
  intro W base args ds gs before hval hW _ _ _ hL hsh _
  exact Rg H enc W base args ds gs before hval hW (AT1 hL hsh) (AT2 hL)
theorem Wx : Rows.RegistryTellsSaid :=
  OpenClaim.holds_of_cond 12 Tryz.f12 rfl rfl rfl rfl rfl rfl rfl ⟨rfl, rfl, rfl, rfl, rfl⟩ rfl rfl rfl rfl rfl z4 func12 (by unfold joinedFacts; rw [jf1, jf2, jf3, jf4, jf5]; kernel_rfl)
    (of_decide_eq_true z4) (by unfold Func.isWrapper; first | (rw [if_pos (by decide +kernel)]; kernel_rfl) | (rw [if_neg (by decide +kernel)]; exact ⟨rfl, rfl⟩))
    (fun os started H enc _ F => by rw [OpenClaim.pre_eq_preRow]; exact Tq os started H enc F)
theorem Ve (f : FuncId) (fn : Func) (hf : Tryz.pinned.checked.prog.funcNamed "wicketgate/wicketgatelaw15.RegistryTells" = some f) (hfn : Tryz.pinned.checked.prog.funcs[f]? = some fn) :
    true = Tryz.pinned.checked.prog.looks [] ∧ ∀ (j : Nat) t, fn.params[j]? = some t → Tryz.pinned.checked.prog.wantsStandIn t = false := by
  obtain rfl : f = 12 := Option.some.inj ((show Tryz.prog.funcNamed "wicketgate/wicketgatelaw15.RegistryTells" = some 12 by kernel_rfl).symm.trans hf) |>.symm
  obtain rfl : fn = Tryz.f12 := (Option.some.inj (func12.symm.trans hfn)).symm
  refine ⟨by kernel_rfl, fun j t ht => ?_⟩
  rw [Tryz.params12] at ht
  have hm := Array.mem_of_getElem? ht
  have hall : (#[28, 28, 3, 9] : Array TypeId).toList.all (fun t => !Tryz.prog.wantsStandIn t) = true := by kernel_rfl
  have := List.all_eq_true.1 hall t (by simpa using hm)
  have h9 : Tryz.prog.wantsStandIn t = false := by simpa using this
  exact h9
theorem registryTells_card : Rows.RegistryTellsCardSaid :=
  Claim7.holds_tied_plain_at .later [] _ _ _ _ Wx (fun _ h => by cases h) z4 (fun _ h => by cases h) registryTells_row_tie rfl ⟨rfl, rfl⟩ z4 rfl Ve z4

end Go.Proofs.YtopjaeoklkpcpaaGreatDoor

