/- The law of this text is proved here. Its conditions: none. -/
import Derived.Test.YtopjaeoklkpcpaaGreatDoorS0
import Derived.Test.YtopjaeoklkpcpaaGreatDoorCards
import Derived.Test.YtopjaeoklkpcpaaGreatDoorTie
import Derived.Shelf.Slices.Equal
import Derived.Ground.Names2Prog
import Derived.Shelf.Slices.Clone
import Derived.Shelf.Slices.Empties2
import Derived.Ground.SlgnProg
import Derived.Shelf.SlicesE.Clone
import Derived.Test.YtopjaeoklkpcpaaGreatDoorProg
import Derived.Test.YtopjaeoklkpcpaaGreatDoorS6
import Derived.Test.YtopjaeoklkpcpaaGreatDoorS3
import Derived.Test.YtopjaeoklkpcpaaGreatDoorS1
import Derived.Test.YtopjaeoklkpcpaaGreatDoorS2
import Derived.Test.YtopjaeoklkpcpaaGreatDoorS5
import Derived.Test.YtopjaeoklkpcpaaGreatDoorS4
namespace Go.Proofs.YtopjaeoklkpcpaaGreatDoor
open Go.Proofs.Tryz
open Go.Proofs Go.Proofs.YtopjaeoklkpcpaaGreatDoor.Jd
open Go.ChangeShapes Go.WideShapes Go.ChangeAt Go.RowKit Go.ChangeMaps
set_option maxRecDepth 100000
set_option linter.unusedVariables false
set_option linter.unusedSimpArgs false
theorem AY8 {W : World} (h : laidMetH Tryz.prog Rows.registryAppliesRow.laid W) (hsh : W.ShapedOpen Tryz.prog) : Gl W := by
  have h2 : laidMet Tryz.prog tZ W ∧ handlesMet Tryz.prog [("errors.errorType", Rows.laid_errors_errorType)] W := h;have h := h2.1;exact ⟨Oz (g := 1) z5 (kX (l := [(1, [99, 114, 101, 97, 116, 101], 4), (2, [115, 117, 115, 112, 101, 110, 100], 2), (3, [114, 101, 115, 117, 109, 101], 2), (4, [100, 114, 97, 105, 110], 2), (5, [100, 101, 108, 101, 116, 101], 4), (6, [114, 111, 116, 97, 116, 101], 4), (7, [97, 99, 108], 4), (8, [107, 105, 108, 108], 2), (9, [108, 105, 115, 116], 1), (10, [115, 104, 111, 119], 1)]) (rest := []) (g := 1) z5 z5 underlying193 underlying156 rfl z5 z5 rfl rfl rfl underlying3 underlying9 underlying3 z5 z5 z5 z5 (Mq (Mq (Mq (Mq h))))), wL h2.2 List.mem_cons_self rfl rfl z5 z5 (N := 273) z5 z5 z5⟩
theorem AY9 {W : World} (h : laidMetH Tryz.prog Rows.registryAppliesRow.laid W) : ∃ ea0 ea1 ea2 ea3 : Addr, Er W ea0 ea1 ea2 ea3 := by
  have h2 : laidMet Tryz.prog tZ W ∧ handlesMet Tryz.prog [("errors.errorType", Rows.laid_errors_errorType)] W := h;have h := h2.1;obtain ⟨ea0, v0, b0⟩ := Ys h Y7 Y8 underlying78 Pt underlying240 underlying261 rfl rfl underlying9 Wf Wg;obtain ⟨ea1, v1, b1⟩ := Ys (laidMet.tail h) Y9 Z3 underlying78 Pt underlying240 underlying261 rfl rfl underlying9 Wf Wg;obtain ⟨ea2, v2, b2⟩ := Ys (laidMet.tail (laidMet.tail h)) Z4 AA0 underlying78 Pt underlying240 underlying261 rfl rfl underlying9 Wf Wg;obtain ⟨ea3, v3, b3⟩ := Ys (laidMet.tail (laidMet.tail (laidMet.tail h))) AA1 AA2 underlying78 Pt underlying240 underlying261 rfl rfl underlying9 Wf Wg;have n0_1 : ea0 ≠ ea1 := Uu h Y7 Y8 Y9 Z3 underlying78 Pt underlying240 underlying261 rfl rfl underlying9 Wf Wg v0 v1;have n0_2 : ea0 ≠ ea2 := Uu (Mr h) Y7 Y8 Z4 AA0 underlying78 Pt underlying240 underlying261 rfl rfl underlying9 Wf Wg v0 v2;have n0_3 : ea0 ≠ ea3 := Uu (Mr (Mr h)) Y7 Y8 AA1 AA2 underlying78 Pt underlying240 underlying261 rfl rfl underlying9 Wf Wg v0 v3;have n1_2 : ea1 ≠ ea2 := Uu (laidMet.tail h) Y9 Z3 Z4 AA0 underlying78 Pt underlying240 underlying261 rfl rfl underlying9 Wf Wg v1 v2;have n1_3 : ea1 ≠ ea3 := Uu (Mr (laidMet.tail h)) Y9 Z3 AA1 AA2 underlying78 Pt underlying240 underlying261 rfl rfl underlying9 Wf Wg v1 v3;have n2_3 : ea2 ≠ ea3 := Uu (laidMet.tail (laidMet.tail h)) Z4 AA0 AA1 AA2 underlying78 Pt underlying240 underlying261 rfl rfl underlying9 Wf Wg v2 v3;exact ⟨ea0, ea1, ea2, ea3, ⟨v0, b0, v1, b1, v2, b2, v3, b3, n0_1, n0_2, n0_3, n0_1.symm, n1_2, n1_3, n0_2.symm, n1_2.symm, n2_3, n0_3.symm, n1_3.symm, n2_3.symm⟩⟩
theorem Px (H : Type) (enc : TypeId × Value → H) (W : World) (base : Nat) (args : Array Value) (ds gs : List (DataW H)) (before : List MemPlace)
    (hval : ∀ (j : Nat) t v, Tryz.f3.params[j]? = some t → args[j]? = some v → Value.okWide Tryz.prog W .any base t v)
    (hW : DataW.Whole enc Tryz.prog Tryz.f3.params.toList Rows.registryAppliesSpec.vars false W args.toList ds gs before) (hG : Gl W) (hE : ∃ ea0 ea1 ea2 ea3 : Addr, Er W ea0 ea1 ea2 ea3) :
    Calls Tryz.prog 3 args W fun e W' => ∃ v, e = .returned v ∧ Rows.registryAppliesSpec.post enc Tryz.prog Tryz.f3 false true false false W args v W' := by
  obtain ⟨ea0, ea1, ea2, ea3, hE⟩ := hE;have hW' := hW;obtain ⟨p, q, hA, hV, rfl, hfz, hnd⟩ := hW;rw [Tryz.params3] at hA hval;obtain ⟨v0, vs0, d0, ds0, p0, q0, hargs, rfl, rfl, h0, r0⟩ := trodAll_cons hA;obtain ⟨v1, vs1, d1, ds1, p1, q1, rfl, rfl, rfl, h1, r1⟩ := trodAll_cons r0;obtain ⟨v2, vs2, d2, ds2, p2, q2, rfl, rfl, rfl, h2, r2⟩ := trodAll_cons r1;obtain ⟨v3, vs3, d3, ds3, p3, q3, rfl, rfl, rfl, h3, r3⟩ := trodAll_cons r2;obtain ⟨rfl, rfl, rfl⟩ := trodAll_nil r3;obtain rfl : args = #[v0, v1, v2, v3] := by cases args; simp_all
  obtain ⟨cs0, rfl, _⟩ := okWide_struct underlying28 (hval 0 28 v0 rfl rfl);obtain ⟨m0, h0⟩ := h0;obtain ⟨c02, c03, yd, c04, c05, ye, c06, c07, yf, c08, a91, qe, d44, qf, z0, c09, c10, c11, c12, c13, c14, c15, c16, e67⟩ := Y5 h0;obtain rfl : cs0 = [Value.slice c02 yd.length c03, Value.slice c04 ye.length c05, Value.slice c06 yf.length c07, Value.slice c08 qe.length a91, Value.int .i64 qf].toArray := by rw [← z0]; simp [Value.cells]
  obtain ⟨x1, rfl, _, _, w1⟩ := open_int underlying3 (hval 1 3 v1 rfl rfl) h1;obtain ⟨cs2, rfl, _⟩ := okWide_struct underlying36 (hval 2 36 v2 rfl rfl);obtain ⟨m2, h2⟩ := h2;obtain ⟨yg, yh, yi, yj, yk, yl, ym, yn, yo, yp, qg, qh, z2, e68, e69, c17, e70, e71, e72, e73, e74, e75⟩ := Y6 h2;obtain rfl : cs2 = [Value.int .i64 yg, Value.string (bs yh), Value.int .i64 yi, Value.int .i64 yj, Value.bool yk, Value.int .i64 yl, Value.int .i64 ym, Value.int .i64 yn, Value.int .i64 yo, Value.string (bs yp), Value.int .i64 qg, Value.int .i64 qh].toArray := by rw [← z2]; simp [Value.cells]
  obtain ⟨x3, rfl, _, _, w3⟩ := open_int underlying3 (hval 3 3 v3 rfl rfl) h3;have hwalk := Vv W (r := (Ab.mk (Slots.mk yd ye yf) qe qf)) (role := x1) (c := (Ak.mk yg yh yi yj (Bf.mk yk (Au.mk yl ym) (Ao.mk yn yo)) yp qg qh)) (now := x3) c10 (c09) c12 (c11) c14 (c13) c16 (c15) (c17) hG hE;rw [show (Gf (Ab.mk (Slots.mk yd ye yf) qe qf) x1 (Ak.mk yg yh yi yj (Bf.mk yk (Au.mk yl ym) (Ao.mk yn yo)) yp qg qh) x3) = true from (Sj _ _ _ _)] at hwalk;refine hwalk.mono fun e W' ⟨he, hE⟩ => ⟨_, he, ?_⟩
  exact C9 X4 z5 rfl underlying4 rfl (fun ds hds => by
    match ds, hds with
    | [a0, a1, a2, a3], _ => exact ⟨rfl, rfl, rfl⟩) hW' hE

theorem Py (os : Os) : laidMetH Tryz.prog Rows.registryAppliesRow.laid ((aN os).forCall (fun _ _ => 0) ⟨#[], #[.agg #[.slice none 0 0, .slice none 0 0, .slice none 0 0, .slice none 0 0, .int .i64 0], .int .i64 0, .agg #[.int .i64 0, .string ⟨#[]⟩, .int .i64 0, .int .i64 0, .bool false, .int .i64 0, .int .i64 0, .int .i64 0, .int .i64 0, .string ⟨#[]⟩, .int .i64 0, .int .i64 0], .int .i64 0], []⟩).memory :=
  laidMetH_of_parts (by rw [show (Rows.registryAppliesRow.laid.filter fun x => x.2.handleName?.isNone) = tZ by kernel_rfl]; exact kU (J4 os) _ z5 z5) z5
theorem Sk (os : Os) {H : Type} (enc : TypeId × Value → H) : ∃ ds, ∃ places, DataW.whole enc Tryz.prog ((aN os).forCall (fun _ _ => 0) ⟨#[], #[.agg #[.slice none 0 0, .slice none 0 0, .slice none 0 0, .slice none 0 0, .int .i64 0], .int .i64 0, .agg #[.int .i64 0, .string ⟨#[]⟩, .int .i64 0, .int .i64 0, .bool false, .int .i64 0, .int .i64 0, .int .i64 0, .int .i64 0, .string ⟨#[]⟩, .int .i64 0, .int .i64 0], .int .i64 0], []⟩).memory Tryz.f3.params.toList Rows.registryAppliesSpec.vars false (#[.agg #[.slice none 0 0, .slice none 0 0, .slice none 0 0, .slice none 0 0, .int .i64 0], .int .i64 0, .agg #[.int .i64 0, .string ⟨#[]⟩, .int .i64 0, .int .i64 0, .bool false, .int .i64 0, .int .i64 0, .int .i64 0, .int .i64 0, .string ⟨#[]⟩, .int .i64 0, .int .i64 0], .int .i64 0] : Array Value).toList 8 = some (ds, [], places) :=
  ⟨[.agg [.agg [.nil, .nil, .nil], .nil, .lit (.int .i64 0)], .lit (.int .i64 0), .agg [.lit (.int .i64 0), .lit (.string []), .lit (.int .i64 0), .lit (.int .i64 0), .agg [.lit (.bool false), .agg [.lit (.int .i64 0), .lit (.int .i64 0)], .agg [.lit (.int .i64 0), .lit (.int .i64 0)]], .lit (.string []), .lit (.int .i64 0), .lit (.int .i64 0)], .lit (.int .i64 0)], [], by kernel_rfl⟩
set_option maxRecDepth 100000 in
theorem Rs (os : Os) (started : os.Started) (H : Type) (enc : TypeId × Value → H) (F : Stop.Interp) :
    ReturnsInHanded {} Tryz.checked os 3 .any ((OpenSpec.ofChange Rows.registryAppliesSpec).preRow enc Tryz.prog Tryz.f3 Rows.registryAppliesRow.domain false Rows.registryAppliesRow.laid) (((OpenSpec.ofChange Rows.registryAppliesSpec).at F).post enc Tryz.prog Tryz.f3 false true false false) := by
  obtain ⟨ds0, places, hx⟩ := Sk os enc;refine returnsInHanded_of_row (C := Tryz.checked) (s := OpenSpec.ofChange Rows.registryAppliesSpec) BB2 started z5 func3
    (witness_row_at (enc := enc) (C := Tryz.checked) false (aN os) #[.agg #[.slice none 0 0, .slice none 0 0, .slice none 0 0, .slice none 0 0, .int .i64 0], .int .i64 0, .agg #[.int .i64 0, .string ⟨#[]⟩, .int .i64 0, .int .i64 0, .bool false, .int .i64 0, .int .i64 0, .int .i64 0, .int .i64 0, .string ⟨#[]⟩, .int .i64 0, .int .i64 0], .int .i64 0] rfl z5 z5 z5
      (OpenSpec.preRow_of_cond 8 hx z5 (fun k hk => by cases hk) z5 (Py os))) ?_
  intro W base args ds gs before hval hW _ _ _ hL hsh _;exact Px H enc W base args ds gs before hval hW (AY8 hL hsh) (AY9 hL)
theorem Um : Rows.RegistryAppliesSaid :=
  OpenClaim.holds_of_cond 3 Tryz.f3 rfl rfl rfl rfl rfl rfl rfl ⟨rfl, rfl, rfl, rfl, rfl⟩ rfl rfl rfl rfl rfl z5 func3 (by unfold joinedFacts; rw [jf1, jf2, jf3, jf4, jf5]; kernel_rfl)
    (of_decide_eq_true z5) (by unfold Func.isWrapper; first | (rw [if_pos (by decide +kernel)]; kernel_rfl) | (rw [if_neg (by decide +kernel)]; exact ⟨rfl, rfl⟩))
    (fun os started H enc _ F => by rw [OpenClaim.pre_eq_preRow]; exact Rs os started H enc F)
theorem Sm (f : FuncId) (fn : Func) (hf : Tryz.pinned.checked.prog.funcNamed "wicketgate/wicketgatelaw15.RegistryApplies" = some f) (hfn : Tryz.pinned.checked.prog.funcs[f]? = some fn) :
    true = Tryz.pinned.checked.prog.looks [] ∧ ∀ (j : Nat) t, fn.params[j]? = some t → Tryz.pinned.checked.prog.wantsStandIn t = false := by
  obtain rfl : f = 3 := Option.some.inj ((show Tryz.prog.funcNamed "wicketgate/wicketgatelaw15.RegistryApplies" = some 3 by kernel_rfl).symm.trans hf) |>.symm
  obtain rfl : fn = Tryz.f3 := (Option.some.inj (func3.symm.trans hfn)).symm;refine ⟨by kernel_rfl, fun j t ht => ?_⟩;rw [Tryz.params3] at ht;have hm := Array.mem_of_getElem? ht;have hall : (#[28, 3, 36, 3] : Array TypeId).toList.all (fun t => !Tryz.prog.wantsStandIn t) = true := by kernel_rfl
  have := List.all_eq_true.1 hall t (by simpa using hm);have h9 : Tryz.prog.wantsStandIn t = false := by simpa using this
  exact h9
theorem registryApplies_card : Rows.RegistryAppliesCardSaid :=
  Claim7.holds_tied_plain_at .later [] _ _ _ _ Um (fun _ h => by cases h) z5 (fun _ h => by cases h) registryApplies_row_tie rfl ⟨rfl, rfl⟩ z5 rfl Sm z5

end Go.Proofs.YtopjaeoklkpcpaaGreatDoor

