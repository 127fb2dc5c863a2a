/- Part of the proofs of the laws of slots: walks of functions. No condition. -/
import Derived.Test.YtofkflecgnmemaaRows
import Derived.Test.YtofkflecgnmemaaJ10
import Derived.Test.YtofkflecgnmemaaWalkA
namespace Go.Proofs.Ytofkflecgnmemaa
open Go.Proofs Go.Proofs.Ytofkflecgnmemaa.Jd
open Go.ChangeShapes Go.WideShapes Go.ChangeAt Go.RowKit
set_option linter.unusedVariables false
theorem laidOut : laidOutB Try.prog = true := by kernel_rfl
theorem own' : ownKnob Try.prog.godebug = none := by kernel_rfl

section
variable {H : Type} {enc : TypeId × Value → H} {W : World}
/-- Slots that are read: three slices. -/
theorem open_slots {r : Reach} {b : Nat} {v : Value} {d : DataW H} {ps : List MemPlace} (hval : Value.okWide Try.prog W r b 25 v) (h : DataW.Trod enc Try.prog W 0 (fun _ => true) true 25 v d ps) :
    ∃ ga ua fa gc uc fc gl ul fl, v = .agg [Value.slice ga (List.length gl) gc, Value.slice ua (List.length ul) uc, Value.slice fa (List.length fl) fc].toArray ∧ Sl W eI 1 ga gl ∧ Sl W eB 1 ua ul ∧ Sl W eI 1 fa fl ∧ gl.length ≤ gc ∧ ul.length ≤ uc ∧ fl.length ≤ fc := by
  obtain ⟨cs, rfl, hsz⟩ := okWide_struct Try.underlying25 hval
  obtain ⟨n, h⟩ := h
  obtain ⟨xs, m, _, _, hlen, hxl, hf⟩ := DataW.trod_struct Try.underlying25 h
  have hc : cs.toList.length = 3 := Eq.trans (show cs.toList.length = Try.prog.cellsOf 25 from hlen) (by kernel_rfl)
  obtain ⟨c0, c1, c2, hcs⟩ : ∃ c0 c1 c2, cs.toList = [c0, c1, c2] := by
    match hh : cs.toList, hc with
    | [c0, c1, c2], _ => exact ⟨c0, c1, c2, rfl⟩
  have e0 := hf 0 _ rfl
  have e1 := hf 1 _ rfl
  have e2 := hf 2 _ rfl
  have hxl' : xs.length = 3 := by simpa using hxl
  rw [List.getElem?_eq_getElem (by omega)] at e0 e1 e2
  simp only [Value.cells, hcs] at e0 e1 e2
  obtain ⟨ga, gc, gl, q0, k0, s0⟩ := open_sl (enc := eI) (k := 1) Try.underlying22 (by kernel_rfl) eI_ok (opens_int Try.underlying3) e0
  obtain ⟨ua, uc, ul, q1, k1, s1⟩ := open_sl (enc := eB) (k := 1) Try.underlying23 (by kernel_rfl) eB_ok (opens_bool Try.underlying4) e1
  obtain ⟨fa, fc, fl, q2, k2, s2⟩ := open_sl (enc := eI) (k := 1) Try.underlying22 (by kernel_rfl) eI_ok (opens_int Try.underlying3) e2
  have q0' : c0 = .slice ga gl.length gc := by simpa using (List.cons.inj q0).1
  have q1' : c1 = .slice ua ul.length uc := by simpa using (List.cons.inj q1).1
  have q2' : c2 = .slice fa fl.length fc := by simpa using (List.cons.inj q2).1
  refine ⟨ga, ua, fa, gc, uc, fc, gl, ul, fl, ?_, s0, s1, s2, k0, k1, k2⟩
  rw [← q0', ← q1', ← q2', ← hcs]
/-- A handle that is read: two ints. -/
theorem open_handle {r : Reach} {b : Nat} {v : Value} {d : DataW H} {ps : List MemPlace} (hval : Value.okWide Try.prog W r b 27 v) (h : DataW.Trod enc Try.prog W 0 (fun _ => true) true 27 v d ps) :
    ∃ p q : Int, v = .agg [Value.int .i64 p, Value.int .i64 q].toArray := by
  obtain ⟨cs, rfl, hsz⟩ := okWide_struct Try.underlying27 hval
  obtain ⟨n, h⟩ := h
  obtain ⟨xs, m, _, _, hlen, hxl, hf⟩ := DataW.trod_struct Try.underlying27 h
  have hc : cs.toList.length = 2 := Eq.trans (show cs.toList.length = Try.prog.cellsOf 27 from hlen) (by kernel_rfl)
  obtain ⟨c0, c1, hcs⟩ : ∃ c0 c1, cs.toList = [c0, c1] := by
    match hh : cs.toList, hc with
    | [c0, c1], _ => exact ⟨c0, c1, rfl⟩
  have e0 := hf 0 _ rfl
  have e1 := hf 1 _ rfl
  have hxl' : xs.length = 2 := by simpa using hxl
  rw [List.getElem?_eq_getElem (by omega)] at e0 e1
  simp only [Value.cells, hcs] at e0 e1
  obtain ⟨p, q0, _⟩ := DataW.trod_int Try.underlying3 e0
  obtain ⟨q, q1, _⟩ := DataW.trod_int Try.underlying3 e1
  have q0' : c0 = .int .i64 p := by simpa using (List.cons.inj q0).1
  have q1' : c1 = .int .i64 q := by simpa using (List.cons.inj q1).1
  exact ⟨p, q, by rw [← q0', ← q1', ← hcs]⟩
end

theorem slotsAll_contract (H : Type) (enc : TypeId × Value → H) (W : World) (base : Nat) (args : Array Value) (ds gs : List (DataW H)) (before : List MemPlace)
    (hval : ∀ (j : Nat) t v, Try.f6.params[j]? = some t → args[j]? = some v → Value.okWide Try.prog W .any base t v)
    (hW : DataW.Whole enc Try.prog Try.f6.params.toList Rows.slotsAllSpec.vars false W args.toList ds gs before) :
    Calls Try.prog 6 args W fun e W' => ∃ v, e = .returned v ∧ Rows.slotsAllSpec.post enc Try.prog Try.f6 false true false false W args v W' := by
  have hW' := hW
  obtain ⟨p, q, hA, hV, rfl, hfz, hnd⟩ := hW
  rw [Try.params6] at hA hval
  obtain ⟨v0, vs0, d0, ds0, p0, q0, hargs, rfl, rfl, h0, r0⟩ := trodAll_cons hA
  obtain ⟨v1, vs1, d1, ds1, p1, q1, rfl, rfl, rfl, h1, r1⟩ := trodAll_cons r0
  obtain ⟨rfl, rfl, rfl⟩ := trodAll_nil r1
  obtain rfl : args = #[v0, v1] := by cases args; simp_all
  obtain ⟨ga, ua, fa, gc, uc, fc, gl, ul, fl, rfl, s0, s1, s2, k0, k1, k2⟩ := open_slots (hval 0 25 v0 rfl rfl) h0
  obtain ⟨x, y, rfl⟩ := open_handle (hval 1 27 v1 rfl rfl) h1
  refine (SlotsAll_ok W (h1 := x) (h2 := y) s0 s1 s2 k0 k1 k2).mono fun e W' ⟨he, hE⟩ => ⟨_, he, ?_⟩
  exact law_post laidOut (by kernel_rfl) rfl Try.underlying4 rfl (fun ds hds => by
    match ds, hds with
    | [a, b], _ => exact ⟨rfl, rfl, rfl⟩) hW' hE

set_option maxRecDepth 100000 in
theorem slotsAll_lifted (os : Os) (started : os.Started) (H : Type) (enc : TypeId × Value → H) :
    ReturnsInHanded Rows.slotsAllRow.assume Try.checked os 6 .any (OpenClaim.pre enc Try.prog Try.f6 (OpenSpec.ofChange Rows.slotsAllSpec) Rows.slotsAllRow) (Rows.slotsAllSpec.post enc Try.prog Try.f6 false true false false) := by
  refine returnsInHanded_of_change (C := Try.checked) (s := Rows.slotsAllSpec) own' started (by kernel_rfl) Try.func6
    (ChangeSpec.witness6 (enc := enc) (C := Try.checked) (s := Rows.slotsAllSpec) false ⟨#[], #[.agg #[.slice none 0 0, .slice none 0 0, .slice none 0 0], .agg #[.int .i64 0, .int .i64 0]], []⟩ 8 (by kernel_rfl) (by kernel_rfl) (by kernel_rfl) (by kernel_rfl) (by kernel_rfl)) ?_
  intro W base args ds gs before hval hW _ _
  exact slotsAll_contract H enc W base args ds gs before hval hW

/-- 'slotsAll': proved. -/
theorem slotsAll_proved : Rows.SlotsAllSaid :=
  OpenClaim.holds_of_wide 6 Try.f6 rfl rfl rfl rfl rfl rfl rfl ⟨rfl, rfl, rfl, rfl, rfl⟩ rfl rfl rfl rfl rfl (by kernel_rfl) Try.func6 (by kernel_rfl)
    (of_decide_eq_true (by kernel_rfl)) (by unfold Func.isWrapper; first | (rw [if_pos (by decide +kernel)]; kernel_rfl) | (rw [if_neg (by decide +kernel)]; exact ⟨rfl, rfl⟩))
    (fun os started H enc _ => slotsAll_lifted os started H enc)
end Go.Proofs.Ytofkflecgnmemaa
