/- A world that meets a row's list of variables, handles among them. No condition. -/
import Derived.Test.YtodejmindmiknaaDoorJ20
import Derived.Lay
import Derived.LaidHandle
namespace Go.Proofs.YtodejmindmiknaaDoor.Jd
set_option linter.unusedSimpArgs false
open Go.ChangeShapes Go.WideShapes Go.ChangeAt Go.RowKit
set_option linter.unusedVariables false
theorem laidMet_from {P : Program} (w0 : World) {laid : List (String × DataW Unit)} (args : Array Value)
    (hf : w0.layFits P laid [] = true) (hi : w0.layIfaces P laid (w0.layVars P laid) = true) :
    laidMet P laid ((w0.layVars P laid).forCall (fun _ _ => 0) ⟨#[], args, []⟩).memory := by
  have e1 : (laid.filter fun x => (laid.map (·.1)).contains x.1) = laid := List.filter_eq_self.2 fun x hx => List.contains_iff_mem.2 (List.mem_map.2 ⟨x, hx, rfl⟩)
  have e2 : (laid.filter fun x => !(laid.map (·.1)).contains x.1) = [] := List.filter_eq_nil_iff.2 fun x hx => by rw [List.contains_iff_mem.2 (List.mem_map.2 ⟨x, hx, rfl⟩)]; simp
  have h : laidMet P laid (w0.layVars P laid) := laidMet_layVars (w0 := w0) (laid.map (·.1)) [] (by rw [e1]) (by rw [e1]; exact hf) (by rw [e1]; exact hi) (by rw [e2]; exact LaidIn.none)
  exact h.of_heap (by simp [World.memory, World.forCall, Input.heap])
/-- The variable that holds a type's handle. -/
theorem handle_at {P : Program} {l : List (String × DataW Unit)} {W : World} {n : String} {d : DataW Unit} {g R t ng N : Nat} {nm : List UInt8} (h : handlesMet P l W) (hm : (n, d) ∈ l) (hn : d.handleName? = some nm) (hf : d.funcsIn? = none) (hg : P.globalNamed n = some g)
    (hR : (P.cutTypes.find? (·.1 == "internal/reflectlite.rtype")).map (·.2) = some R) (hN : P.types.size = N) (hone : ((List.range N).filter fun t => P.rowNamed t nm) = [t]) (hh : typeHandle P t = .pointer (some ⟨ng, t, none⟩)) :
    W.cell? ⟨g, 0, none⟩ = some (.iface R (.agg #[.pointer (some ⟨ng, t, none⟩)])) := by
  have h1 := h _ hm
  simp only [hf] at h1
  obtain ⟨name, u, ty, e1, e2, e3, e4, e5⟩ := h1
  rw [hn] at e1
  have en := Option.some.inj e1
  subst en
  obtain rfl := Option.some.inj (hR.symm.trans e2)
  have hmm : ty ∈ (List.range N).filter fun t => P.rowNamed t nm := List.mem_filter.2 ⟨List.mem_range.2 (by rw [← hN]; exact e3), e4⟩
  rw [hone] at hmm
  obtain rfl := List.mem_singleton.1 hmm
  rw [hh] at e5
  simpa using World.var?_cell hg e5 0
end Go.Proofs.YtodejmindmiknaaDoor.Jd
