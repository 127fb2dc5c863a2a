/- The frame of a law whose row lists variables. No condition. -/
import Derived.Test.YtodejmindmiknaaDoorJ15
import Derived.Deep.DeepHandedRow
import Derived.Lib.LaidTab
import Derived.SevenTiedAt
namespace Go.Proofs.YtodejmindmiknaaDoor.Jd
set_option linter.unusedSimpArgs false
open Go.ChangeShapes Go.WideShapes Go.ChangeAt Go.RowKit
set_option linter.unusedVariables false
theorem laidMet_tail {P : Program} {x : String × DataW Unit} {l : List (String × DataW Unit)} {w : World} (h : laidMet P (x :: l) w) : laidMet P l w := by
  obtain ⟨ps, hv, hn, ha⟩ := h
  obtain ⟨n, d⟩ := x
  obtain ⟨g, t, cs, fuel, p, q, h1, h2, h3, h4, h5, rfl⟩ := hv
  refine ⟨q, h5, (List.nodup_append.1 hn).2.1, fun b off hm => ha b off (List.mem_append_right _ hm)⟩
theorem seg_split (cs : List Value) (a k b : Nat) (h : b = a + k) : cs.drop a = (cs.drop a).take k ++ cs.drop b := by
  subst h
  rw [← List.drop_drop]
  exact (List.take_append_drop k (cs.drop a)).symm
theorem lit_i64 {n : Int} (h : (Lit.int .i64 n).wf = true) : -9223372036854775808 ≤ n ∧ n ≤ 9223372036854775807 := by
  simp [Lit.wf, IntKind.min, IntKind.max, IntKind.signed, IntKind.bits] at h
  omega
theorem bs_of (s : ByteArray) : s = bs s.data.toList := by
  apply ByteArray.ext
  simp [bs]
end Go.Proofs.YtodejmindmiknaaDoor.Jd
