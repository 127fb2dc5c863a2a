/- Blocks of steps that come often. No condition. -/
import Derived.CallsIn
import Derived.RangeFuncLeaves
import Derived.RangeFuncRecord
import Derived.Below
import Derived.OrdersHeld
import Derived.KernelRfl
namespace Go.Proofs.YtopjaeoklkpcpaaGreatDoor.Jd
set_option linter.unusedVariables false
set_option linter.unusedSimpArgs false
section
variable {p : Prop}
theorem z1 (h : p := by exact Dd.tmp rfl Dd.nil) : p := h
theorem z3 (h : p := by first | exact ix) : p := h
theorem z4 (h : p := by omega) : p := h
theorem z5 (h : p := by kernel_rfl) : p := h
theorem z6 (h : p := by first | rfl | (simp; done) | ((simp only [List.length_append, List.length_take, List.length_drop, List.length_set, List.length_replicate, List.length_cons, List.length_nil, List.length_map, Dc, Db]) <;> omega)) : p := h
theorem z7 (h : p := by first | exact lb | decide) : p := h
theorem z8 (h : p := by exact Dt (l := [_, _, _, _, _, _, _, _]) zeroValue52) : p := h
theorem z9 (h : p := by exact Dt (l := [_, _, _]) zeroValue156) : p := h
theorem Ln (h : p := by exact Dt (l := [_, _, _, _, _]) zeroValue28) : p := h
theorem Jz (h : p := by first | omega | exact Nat.le_refl _) : p := h
theorem Mb (h : p := by first | omega | assumption | (simp; done)) : p := h
theorem z13 (h : p := by exact List.Sublist.cons_cons _ (List.Sublist.cons_cons _ (List.Sublist.cons_cons _ (List.Sublist.cons_cons _ (List.Sublist.cons_cons _ (List.Sublist.cons_cons _ (List.Sublist.cons_cons _ (List.Sublist.cons_cons _ (List.Sublist.append (List.Sublist.refl _) (List.Sublist.append (List.Sublist.refl _) (List.Sublist.cons_cons _ (List.Sublist.cons_cons _ (List.nil_sublist _))))))))))))) : p := h
theorem Zt (h : p := by exact Fk (l := [_]) runUnderlying22 sizeOf3 zeroValue3) : p := h
theorem Na (h : p := by first | omega | rfl | (simp; done)) : p := h
theorem yX (h : p := by intro p hp; repeat (first | exact hp | exact List.mem_append_left _ hp | apply List.mem_append_right | apply List.mem_cons_of_mem)) : p := h
theorem pI (h : p := by first | omega | (simp only [List.length_append, List.length_cons, List.length_nil]; omega)) : p := h
theorem Gx (h : p := by exact List.nil_sublist _) : p := h
theorem Jq (h : p := by exact Ko (l := [_, _, _])) : p := h
theorem sY (h : p := by exact Fk (l := [_, _, _, _, _, _, _, _]) runUnderlying26 sizeOf52 zeroValue52) : p := h
theorem lO (h : p := by exact Fk (l := []) runUnderlying22 sizeOf3 zeroValue3) : p := h
theorem Km (h : p := by first | rfl | simp) : p := h
theorem yY (h : p := by first | omega | (dsimp only; omega) | (simp; done) | exact Nat.le_trans (by assumption) (by decide)) : p := h
theorem gX (h : p := by exact Dt (l := [_, _, _, _, _, _]) zeroValue44) : p := h
theorem Mc (h : p := by exact List.Sublist.refl _) : p := h
theorem jN (h : p := by exact Dt (l := [_, _, _]) zeroValue25) : p := h
theorem z27 (h : p := by exact Dd.agg isAgg28 sizeOf28 rfl me rfl (Dd.agg isAgg44 sizeOf44 rfl me rfl Dd.nil)) : p := h
theorem aW (h : p := by exact Ko (l := [_, _, _, _, _])) : p := h
theorem Gn (h : p := by decide) : p := h
theorem Sp (h : p := by exact Bv.of_base h_s_gens) : p := h
theorem Sq (h : p := by exact Bv.of_base h_s_used) : p := h
theorem N1 (h : p := by exact Fk (l := []) runUnderlying23 sizeOf4 zeroValue4) : p := h
theorem yZ (h : p := by first | omega | (simp only [List.length_set]; omega)) : p := h
theorem Vi (h : p := by first | exact lb) : p := h
theorem lQ (h : p := by rw [← t8]; first | rfl | rfl) : p := h
theorem Xu (h : p := by exact Bv.of_base h_s_free) : p := h
theorem N2 (h : p := by exact Dd.agg isAgg28 sizeOf28 rfl me rfl Dd.nil) : p := h
theorem Gu (h : p := by simp) : p := h
theorem N3 (h : p := by exact Ko (l := [_, _, _, _, _, _, _, _, _, _, _, _])) : p := h
theorem zA (h : p := by exact Dd.word isAgg4 rfl me rfl Dd.nil) : p := h
theorem z41 (h : p := by exact Fk (l := [_, _, _]) runUnderlying182 sizeOf26 zeroValue26) : p := h
theorem Xt (h : p := by exact Bv.of_base h_l) : p := h
theorem zB (h : p := by rw [List.length_replicate]; omega) : p := h
theorem z44 (h : p := by first | exact i_c_at_ | (simp; done) | (exact ⟨by decide, by decide⟩) | omega) : p := h
theorem z45 (h : p := by simp only [Region.wanted]; rw [Jr ha hg hu ht]; exact hb) : p := h
theorem z46 (h : p := by exact Fk (l := [_, _, _, _]) runUnderlying50 sizeOf62 zeroValue62) : p := h
theorem z47 (h : p := by repeat (first | exact List.mem_cons_self | apply List.mem_cons_of_mem | apply List.mem_append_right)) : p := h
theorem N6 (h : p := by first | assumption | exact Cv.nil) : p := h
theorem z49 (h : p := by exact List.Perm.of_eq (by first | rfl | simp only [List.append_assoc, List.cons_append, List.nil_append])) : p := h
theorem z50 (h : p := by first | exact List.sublist_append_left _ _ | exact List.nil_sublist _) : p := h
theorem z51 (h : p := by exact Eb (cs := [_, _, _]) zeroValue25 AX9) : p := h
theorem z52 (h : p := by exact Eb (cs := [_, _, _, _, _, _]) zeroValue44 AY5) : p := h
theorem N7 (h : p := by exact Dt (l := [_]) zeroValue216) : p := h
theorem lR (h : p := by exact Ca isAgg22) : p := h
theorem bQ (h : p := by assumption) : p := h
theorem dA (h : p := by simp; omega) : p := h
theorem z57 (h : p := by exact Bw (l' := [_, _, _, _, _]) sizeOf28) : p := h
theorem z58 (h : p := by exact Dt (l := [_, _, _, _]) zeroValue62) : p := h
theorem z59 (h : p := by rw [Co]; exact hc a w ha hw.right) : p := h
theorem z60 (h : p := by exact Fk (l := [_, _, _, _, _]) runUnderlying49 sizeOf34 zeroValue34) : p := h
theorem pN (h : p := by exact Ko (l := [_, _])) : p := h
theorem N4 (h : p := by rw [Co]; exact h1) : p := h
theorem pO (h : p := by simpa using a9) : p := h
theorem z64 (h : p := by exact Bw (l' := [_, _, _, _, _, _, _, _]) sizeOf52) : p := h
theorem N8 (h : p := by exact Fv runUnderlying22) : p := h
theorem z66 (h : p := by exact Ck isAgg28 sizeOf28) : p := h
theorem z67 (h : p := by exact Dt (l := [_, _]) zeroValue42) : p := h
theorem z68 (h : p := by exact Ko (l := [_, _, _, _, _, _, _, _])) : p := h
theorem z69 (h : p := by exact Eb (cs := [_, _]) zeroValue42 AY0) : p := h
theorem z70 (h : p := by rw [Aw (c6.1.take at_27).1]; first | rfl | simp) : p := h
theorem z71 (h : p := by rw [Co]; exact h a w ha hw.right) : p := h
theorem zE (h : p := by exact Ca isAgg3) : p := h
theorem z73 (h : p := by exact Ck isAgg34 sizeOf34) : p := h
theorem z74 (h : p := by simp only [List.length_append, List.length_take, List.length_replicate]; omega) : p := h
theorem z75 (h : p := by exact Eb (cs := [_, _, _, _, _]) zeroValue28 AY3) : p := h
theorem z76 (h : p := by exact Ko (l := [_, _, _, _, _, _, _, _, _])) : p := h
end
structure Ax (q : Prop) : Prop where
  out : q
section
variable {p q : Prop}
theorem Z0 (k : q) (h : Ax q → p := by intro z; refine Gz ?_; refine Hq ?_; exact z.1) : p := h ⟨k⟩
theorem Z1 (k : q) (h : Ax q → p := by intro z; refine Oo ?_; refine Z0 ?_; exact z.1) : p := h ⟨k⟩
theorem Z2 (k : q) (h : Ax q → p := by intro z; refine Fj ?_; refine Ch ?_; exact z.1) : p := h ⟨k⟩
theorem Z5 (k : q) (h : Ax q → p := by intro z; refine Z2 ?_; refine Cr ?_; exact z.1) : p := h ⟨k⟩
theorem Z6 (k : q) (h : Ax q → p := by intro z; refine Ce _ (((((((((((((((((qa (qa (qa (qa (qa (qa (qa (qa (qa (qa (qa (qa (qa (qa (qc (qc (qa q0))))))))))))))))).trans (qa (qa (qa (qa (qa (qa (qa (qa (qa (qa (qa (qa (qa (qa (qa (qc (qc q0)))))))))))))))))).trans (qb (qb (qb (qb (qb (qb (qb (qb (qb (qb (qb (qb (qb (qb (qb (qb (qd q0)))))))))))))))))).trans (qd (qb (qb (qb (qb (qb (qb (qb (qb (qb (qb (qb (qb (qb (qb (qb (qb q0)))))))))))))))))).trans (qc (qc (qa (qa (qa (qa (qa (qa (qa (qa (qa (qa (qa (qa (qa (qa (qa q0)))))))))))))))))).trans (qa (qc (qc (qa (qa (qa (qa (qa (qa (qa (qa (qa (qa (qa (qa (qa (qa q0)))))))))))))))))).trans (qa (qa (qc (qc (qa (qa (qa (qa (qa (qa (qa (qa (qa (qa (qa (qa (qa q0)))))))))))))))))).trans (qa (qa (qa (qc (qc (qa (qa (qa (qa (qa (qa (qa (qa (qa (qa (qa (qa q0)))))))))))))))))).trans (qa (qa (qa (qa (qc (qc (qa (qa (qa (qa (qa (qa (qa (qa (qa (qa (qa q0)))))))))))))))))).trans (qa (qa (qa (qa (qa (qc (qc (qa (qa (qa (qa (qa (qa (qa (qa (qa (qa q0)))))))))))))))))).trans (qa (qa (qa (qa (qa (qa (qc (qc (qa (qa (qa (qa (qa (qa (qa (qa (qa q0)))))))))))))))))).trans (qa (qa (qa (qa (qa (qa (qa (qc (qc (qa (qa (qa (qa (qa (qa (qa (qa q0)))))))))))))))))).trans (qa (qa (qa (qa (qa (qa (qa (qa (qc (qc (qa (qa (qa (qa (qa (qa (qa q0)))))))))))))))))).trans (qa (qa (qa (qa (qa (qa (qa (qa (qa (qc (qc (qa (qa (qa (qa (qa (qa q0)))))))))))))))))).trans (qa (qa (qa (qa (qa (qa (qa (qa (qa (qa (qc (qc (qa (qa (qa (qa (qa q0)))))))))))))))))).trans (qa (qa (qa (qa (qa (qa (qa (qa (qa (qa (qa (qc (qc (qa (qa (qa (qa q0)))))))))))))))))).trans (qa (qa (qa (qa (qa (qa (qa (qa (qa (qa (qa (qa (qc (qc (qa (qa q0))))))))))))))))) ?_; refine Bo _ (List.Sublist.cons_cons _ (List.Sublist.cons_cons _ (List.Sublist.cons_cons _ (List.Sublist.cons_cons _ (List.Sublist.cons_cons _ z13))))) ?_; exact z.1) : p := h ⟨k⟩
theorem Z7 (k : q) (h : Ax q → p := by intro z; refine kG ?_; refine gH ?_; exact z.1) : p := h ⟨k⟩
theorem Z8 (k : q) (h : Ax q → p := by intro z; refine Ce _ (((((((((((((((qa (qc (qa (qa (qa (qa (qa (qa (qa (qa (qa (qc (qa (qa (qa q0))))))))))))))).trans (qa (qa (qc (qa (qa (qa (qa (qa (qa (qa (qa (qa (qc (qa (qa q0)))))))))))))))).trans (qa (qa (qa (qc (qa (qa (qa (qa (qa (qa (qa (qa (qa (qc (qa q0)))))))))))))))).trans (qa (qa (qa (qa (qc (qa (qa (qa (qa (qa (qa (qa (qa (qa (qc q0)))))))))))))))).trans (qb (qb (qb (qb (qb (qd (qb (qb (qb (qb (qb (qb (qb (qb (qb q0)))))))))))))))).trans (qc (qa (qa (qa (qa (qa (qc (qa (qa (qa (qa (qa (qa (qa (qa q0)))))))))))))))).trans (qa (qc (qa (qa (qa (qa (qa (qc (qa (qa (qa (qa (qa (qa (qa q0)))))))))))))))).trans (qa (qa (qc (qa (qa (qa (qa (qa (qc (qa (qa (qa (qa (qa (qa q0)))))))))))))))).trans (qa (qa (qa (qc (qa (qa (qa (qa (qa (qc (qa (qa (qa (qa (qa q0)))))))))))))))).trans (qa (qa (qa (qa (qc (qa (qa (qa (qa (qa (qc (qa (qa (qa (qa q0)))))))))))))))).trans (qa (qa (qa (qa (qa (qc (qa (qa (qa (qa (qa (qc (qa (qa (qa q0)))))))))))))))).trans (qa (qa (qa (qa (qa (qa (qc (qa (qa (qa (qa (qa (qc (qa (qa q0)))))))))))))))).trans (qa (qa (qa (qa (qa (qa (qa (qc (qa (qa (qa (qa (qa (qc (qa q0)))))))))))))))).trans (qa (qa (qa (qa (qa (qa (qa (qa (qc (qa (qa (qa (qa q0)))))))))))))).trans (qb (qb (qb (qb (qb (qb (qb (qb (qb (qd (qb (qb (qb (qb q0))))))))))))))) ?_; refine Bo _ (List.Sublist.append Mc (List.Sublist.cons_cons _ (List.Sublist.cons_cons _ (List.Sublist.cons_cons _ (List.Sublist.cons_cons _ (List.Sublist.cons_cons _ (List.Sublist.cons_cons _ (List.Sublist.cons_cons _ (List.Sublist.cons_cons _ (List.Sublist.cons_cons _ (List.Sublist.append Mc (List.Sublist.cons_cons _ (List.Sublist.cons_cons _ (List.Sublist.cons_cons _ (List.Sublist.cons_cons _ Gx))))))))))))))) ?_; exact z.1) : p := h ⟨k⟩
theorem Z9 (k : q) (h : Ax q → p := by intro z; refine Z1 ?_; refine tA ?_; exact z.1) : p := h ⟨k⟩
theorem uQ (k : q) (h : Ax q → p := by intro z; refine Fs ?_; refine Eg ?_; exact z.1) : p := h ⟨k⟩
theorem Z11 (k : q) (h : Ax q → p := by intro z; refine Ce _ (((((((((((((((((qa (qa (qa (qa (qc (qa (qc (qa (qa (qc (qc (qc (qa (qa (qa (qa (qa (qa (qa (qa (qa (qa (qa (qc (qc (qa q0)))))))))))))))))))))))))).trans (qa (qa (qa (qa (qa (qc (qa (qc (qa (qa (qc (qc (qc (qa (qa (qa (qa (qa (qa (qa (qa (qa (qa (qa (qc (qc q0))))))))))))))))))))))))))).trans (qb (qb (qb (qb (qb (qb (qd (qb (qd (qb (qb (qd (qd (qd (qb (qb (qb (qb (qb (qb (qb (qb (qb (qb (qb (qd q0))))))))))))))))))))))))))).trans (qd (qb (qb (qb (qb (qb (qb (qd (qb (qd (qb (qb (qd (qd (qd (qb (qb (qb (qb (qb (qb (qb (qb (qb (qb (qb q0))))))))))))))))))))))))))).trans (qc (qc (qa (qa (qa (qa (qa (qa (qc (qa (qc (qa (qa (qc (qc (qc (qa (qa (qa (qa (qa (qa (qa (qa (qa (qa q0))))))))))))))))))))))))))).trans (qa (qc (qc (qa (qa (qa (qa (qa (qa (qc (qa (qc (qa (qa (qc (qc (qc (qa (qa (qa (qa (qa (qa (qa (qa (qa q0))))))))))))))))))))))))))).trans (qa (qa (qc (qc (qa (qa (qa (qa (qa (qa (qc (qa (qc (qa (qa (qc (qc (qc (qa (qa (qa (qa (qa (qa (qa (qa q0))))))))))))))))))))))))))).trans (qa (qa (qa (qc (qc (qa (qa (qa (qa (qa (qa (qc (qa (qc (qa (qa (qc (qc (qc (qa (qa (qa (qa (qa (qa (qa q0))))))))))))))))))))))))))).trans (qa (qa (qa (qa (qc (qc (qa (qa (qa (qa (qa (qa (qc (qa (qc (qa (qa (qc (qc (qc (qa (qa (qa (qa (qa (qa q0))))))))))))))))))))))))))).trans (qa (qa (qa (qa (qa (qc (qc (qa (qa (qa (qa (qa (qa (qc (qa (qc (qa (qa (qc (qc (qc (qa (qa (qa (qa (qa q0))))))))))))))))))))))))))).trans (qa (qa (qa (qa (qa (qa (qc (qc (qa (qa (qa q0)))))))))))).trans (qa (qa (qa (qa (qa (qa (qa (qc (qc (qa (qa q0)))))))))))).trans (qb (qb (qb (qb (qb (qb (qb (qb (qd (qd (qb (qb (qb (qb q0))))))))))))))).trans (qd (qb (qb (qb (qb (qb (qb (qb (qb (qd (qd (qb (qb (qb (qb (qb (qd (qb (qb (qd (qd q0)))))))))))))))))))))).trans (qd (qd (qb (qb (qb (qb (qb (qb (qb (qb (qd (qd (qb (qb (qb (qb (qb (qd (qb (qb (qd q0)))))))))))))))))))))).trans (qd (qd (qd (qb (qb (qb (qb (qb (qb (qb (qb (qd (qd (qb (qb (qb (qb (qb (qd (qb (qb q0)))))))))))))))))))))).trans (qd (qd (qd (qd (qb (qb (qb (qb (qb (qb (qb (qb (qd (qd (qb (qb (qb (qb (qb q0)))))))))))))))))))) ?_; refine AV8 ?_; exact z.1) : p := h ⟨k⟩
theorem Z12 (k : q) (h : Ax q → p := by intro z; refine Wx ?_; refine Cr ?_; exact z.1) : p := h ⟨k⟩
theorem fN (k : q) (h : Ax q → p := by intro z; refine Ah Nu (k := ?_); refine Z0 ?_; exact z.1) : p := h ⟨k⟩
theorem Z17 (k : q) (h : Ax q → p := by intro z; refine Ce _ ((((((((((((((((((qc (qa (qa (qa (qa (qa (qa (qa (qa (qa (qa (qa (qa (qa (qa (qc (qc (qa q0)))))))))))))))))).trans (qa (qc (qa (qa (qa (qa (qa (qa (qa (qa (qa (qa (qa (qa (qa (qa (qc (qc q0))))))))))))))))))).trans (qb (qb (qd (qb (qb (qb (qb (qb (qb (qb (qb (qb (qb (qb (qb (qb (qb (qd q0))))))))))))))))))).trans (qd (qb (qb (qd (qb (qb (qb (qb (qb (qb (qb (qb (qb (qb (qb (qb (qb (qb q0))))))))))))))))))).trans (qc (qc (qa (qa (qc (qa (qa (qa (qa (qa (qa (qa (qa (qa (qa (qa (qa (qa q0))))))))))))))))))).trans (qa (qc (qc (qa (qa (qc (qa (qa (qa (qa (qa (qa (qa (qa (qa (qa (qa (qa q0))))))))))))))))))).trans (qa (qa (qc (qc (qa (qa (qc (qa (qa (qa (qa (qa (qa (qa (qa (qa (qa (qa q0))))))))))))))))))).trans (qa (qa (qa (qc (qc (qa (qa (qc (qa (qa (qa (qa (qa (qa (qa (qa (qa (qa q0))))))))))))))))))).trans (qa (qa (qa (qa (qc (qc (qa (qa (qc (qa (qa (qa (qa (qa (qa (qa (qa (qa q0))))))))))))))))))).trans (qa (qa (qa (qa (qa (qc (qc (qa (qa (qc (qa (qa (qa (qa (qa (qa (qa (qa q0))))))))))))))))))).trans (qa (qa (qa (qa (qa (qa (qc (qc (qa (qa (qc (qa (qa (qa (qa (qa (qa (qa q0))))))))))))))))))).trans (qa (qa (qa (qa (qa (qa (qa (qc (qc (qa (qa (qc (qa (qa (qa (qa (qa (qa q0))))))))))))))))))).trans (qa (qa (qa (qa (qa (qa (qa (qa (qc (qc (qa (qa (qc (qa (qa (qa (qa (qa q0))))))))))))))))))).trans (qa (qa (qa (qa (qa (qa (qa (qa (qa (qc (qc (qa (qa (qc (qa (qa (qa (qa q0))))))))))))))))))).trans (qa (qa (qa (qa (qa (qa (qa (qa (qa (qa (qc (qc (qa (qa (qc (qa (qa (qa q0))))))))))))))))))).trans (qa (qa (qa (qa (qa (qa (qa (qa (qa (qa (qa (qc (qc (qa (qa (qc (qa (qa q0))))))))))))))))))).trans (qa (qa (qa (qa (qa (qa (qa (qa (qa (qa (qa (qa (qc (qc (qa (qa (qc q0)))))))))))))))))).trans (qb (qb (qb (qb (qb (qb (qb (qb (qb (qb (qb (qb (qb (qd (qd (qb (qb q0)))))))))))))))))) ?_; refine Bo _ (List.Sublist.append Mc (List.Sublist.cons_cons _ (List.Sublist.cons_cons _ (List.Sublist.cons_cons _ (List.Sublist.cons_cons _ (List.Sublist.cons_cons _ z13)))))) ?_; exact z.1) : p := h ⟨k⟩
theorem Xv (k : q) (h : Ax q → p := by intro z; refine Bt ?_; refine Hq ?_; exact z.1) : p := h ⟨k⟩
theorem Vw (k : q) (h : Ax q → p := by intro z; refine Gh ?_; refine Hq ?_; exact z.1) : p := h ⟨k⟩
theorem N9 (k : q) (h : Ax q → p := by intro z; refine Ah Qh (k := ?_); refine Ah Qh (k := ?_); exact z.1) : p := h ⟨k⟩
theorem Z22 (k : q) (h : Ax q → p := by intro z; refine Ce _ ((((((((qa (qa (qa (qa (qa (qa (qc (qc (qa q0))))))))).trans (qa (qa (qa (qa (qa (qa (qa (qc (qc q0)))))))))).trans (qb (qb (qb (qb (qb (qb (qb (qb (qd q0)))))))))).trans (qd (qb (qb (qb (qb (qb (qb (qb (qb q0)))))))))).trans (qc (qc (qa (qa (qa (qa (qa (qa (qa q0)))))))))).trans (qa (qc (qc (qa (qa (qa (qa (qa (qa q0)))))))))).trans (qa (qa (qc (qc (qa (qa (qa q0)))))))).trans (qa (qa (qa (qc (qc (qa (qa q0)))))))) ?_; refine Bo _ (List.Sublist.cons_cons _ (List.Sublist.cons_cons _ (List.Sublist.cons_cons _ (List.Sublist.cons_cons _ (List.Sublist.append Mc (List.Sublist.append Mc (List.Sublist.cons_cons _ (List.Sublist.cons_cons _ Gx)))))))) ?_; exact z.1) : p := h ⟨k⟩
theorem Pz (k : q) (h : Ax q → p := by intro z; refine Ah Ir (k := ?_); refine Cr ?_; exact z.1) : p := h ⟨k⟩
theorem Sn (k : q) (h : Ax q → p := by intro z; refine Ah Hn (k := ?_); refine Cr ?_; exact z.1) : p := h ⟨k⟩
theorem O0 (k : q) (h : Ax q → p := by intro z; refine Fj ?_; refine Jm ?_; exact z.1) : p := h ⟨k⟩
theorem pJ (k : q) (h : Ax q → p := by intro z; refine Oo ?_; refine Gz ?_; exact z.1) : p := h ⟨k⟩
theorem Qv (k : q) (h : Ax q → p := by intro z; refine Z5 ?_; refine Cr ?_; exact z.1) : p := h ⟨k⟩
theorem Z29 (k : q) (h : Ax q → p := by intro z; refine Vw ?_; refine Ch ?_; exact z.1) : p := h ⟨k⟩
theorem Un (k : q) (h : Ax q → p := by intro z; refine Z1 ?_; refine Fj ?_; exact z.1) : p := h ⟨k⟩
theorem gY (k : q) (h : Ax q → p := by intro z; refine kG ?_; refine U0 ?_; exact z.1) : p := h ⟨k⟩
theorem pK (k : q) (h : Ax q → p := by intro z; refine Nn rfl ?_; refine Z2 ?_; exact z.1) : p := h ⟨k⟩
theorem Qa (k : q) (h : Ax q → p := by intro z; refine Z9 ?_; refine Eg ?_; exact z.1) : p := h ⟨k⟩
theorem zF (k : q) (h : Ax q → p := by intro z; refine Ah Hn (k := ?_); refine Z0 ?_; exact z.1) : p := h ⟨k⟩
theorem Z40 (k : q) (h : Ax q → p := by intro z; refine Nn rfl ?_; refine Xv ?_; exact z.1) : p := h ⟨k⟩
theorem gZ (k : q) (h : Ax q → p := by intro z; refine Z2 ?_; refine fN ?_; refine Fj ?_; exact z.1) : p := h ⟨k⟩
theorem Z42 (k : q) (h : Ax q → p := by intro z; refine Ce _ (((((((((((((((((qa (qc (qa (qa (qa (qa (qa (qa (qa (qa (qa (qa (qa (qa (qc (qc (qa q0))))))))))))))))).trans (qa (qa (qc (qa (qa (qa (qa (qa (qa (qa (qa (qa (qa (qa (qa (qc (qc q0)))))))))))))))))).trans (qb (qb (qb (qd (qb (qb (qb (qb (qb (qb (qb (qb (qb (qb (qb (qb (qd q0)))))))))))))))))).trans (qd (qb (qb (qb (qd (qb (qb (qb (qb (qb (qb (qb (qb (qb (qb (qb (qb q0)))))))))))))))))).trans (qc (qc (qa (qa (qa (qc (qa (qa (qa (qa (qa (qa (qa (qa (qa (qa (qa q0)))))))))))))))))).trans (qa (qc (qc (qa (qa (qa (qc (qa (qa (qa (qa (qa (qa (qa (qa (qa (qa q0)))))))))))))))))).trans (qa (qa (qc (qc (qa (qa (qa (qc (qa (qa (qa (qa (qa (qa (qa (qa (qa q0)))))))))))))))))).trans (qa (qa (qa (qc (qc (qa (qa (qa (qc (qa (qa (qa (qa (qa (qa (qa (qa q0)))))))))))))))))).trans (qa (qa (qa (qa (qc (qc (qa (qa (qa (qc (qa (qa (qa (qa (qa (qa (qa q0)))))))))))))))))).trans (qa (qa (qa (qa (qa (qc (qc (qa (qa (qa (qc (qa (qa (qa (qa (qa (qa q0)))))))))))))))))).trans (qa (qa (qa (qa (qa (qa (qc (qc (qa (qa (qa (qc (qa (qa (qa (qa (qa q0)))))))))))))))))).trans (qa (qa (qa (qa (qa (qa (qa (qc (qc (qa (qa (qa (qc (qa (qa (qa (qa q0)))))))))))))))))).trans (qa (qa (qa (qa (qa (qa (qa (qa (qc (qc (qa (qa (qa (qc (qa (qa (qa q0)))))))))))))))))).trans (qa (qa (qa (qa (qa (qa (qa (qa (qa (qc (qc (qa (qa (qa (qc (qa (qa q0)))))))))))))))))).trans (qa (qa (qa (qa (qa (qa (qa (qa (qa (qa (qc (qc (qa (qa (qa (qc (qa q0)))))))))))))))))).trans (qa (qa (qa (qa (qa (qa (qa (qa (qa (qa (qa (qc (qc (qa (qa q0)))))))))))))))).trans (qb (qb (qb (qb (qb (qb (qb (qb (qb (qb (qb (qb (qd (qd (qb (qb q0))))))))))))))))) ?_; refine Bo _ (List.Sublist.append Mc (List.Sublist.cons_cons _ (List.Sublist.cons_cons _ (List.Sublist.cons_cons _ (List.Sublist.cons_cons _ z13))))) ?_; exact z.1) : p := h ⟨k⟩
theorem zG (k : q) (h : Ax q → p := by intro z; refine Oo ?_; refine Oo ?_; exact z.1) : p := h ⟨k⟩
theorem Z44 (k : q) (h : Ax q → p := by intro z; refine Z29 ?_; refine Z12 ?_; exact z.1) : p := h ⟨k⟩
theorem hJ (k : q) (h : Ax q → p := by intro z; refine Z0 ?_; refine tA ?_; exact z.1) : p := h ⟨k⟩
theorem Z46 (k : q) (h : Ax q → p := by intro z; refine Ce _ (((((qc (qc (qc (qa (qa (qa (qa q0))))))).trans (qa (qc (qc (qc (qa (qa (qa q0)))))))).trans (qb (qb (qd (qd q0))))).trans (qd (qb (qb (qd q0))))).trans (qd (qd (qb (qb q0))))) ?_; refine wB ?_; exact z.1) : p := h ⟨k⟩
theorem Sr (k : q) (h : Ax q → p := by intro z; refine Z9 ?_; refine uQ ?_; exact z.1) : p := h ⟨k⟩
theorem Z48 (k : q) (h : Ax q → p := by intro z; refine Be Ey (k := ?_); refine Gs ?_; exact z.1) : p := h ⟨k⟩
theorem Z49 (k : q) (h : Ax q → p := by intro z; refine Ah z66 (k := ?_); refine T7 ?_; exact z.1) : p := h ⟨k⟩
theorem Z50 (k : q) (h : Ax q → p := by intro z; refine Cd results41 (Dd.agg isAgg28 sizeOf28 rfl me rfl (Dd.agg isAgg52 sizeOf52 rfl me rfl z1)) ?_; refine Cr ?_; exact z.1) : p := h ⟨k⟩
theorem uR (k : q) (h : Ax q → p := by intro z; refine N9 ?_; refine Ah Qh (k := ?_); exact z.1) : p := h ⟨k⟩
theorem Z52 (k : q) (h : Ax q → p := by intro z; refine Hi ?_; refine nG ?_; refine Yb ?_; exact z.1) : p := h ⟨k⟩
theorem Z53 (k : q) (h : Ax q → p := by intro z; refine dJ ?_; refine uQ ?_; exact z.1) : p := h ⟨k⟩
theorem pP (k : q) (h : Ax q → p := by intro z; refine Bt ?_; refine Z44 ?_; exact z.1) : p := h ⟨k⟩
theorem pQ (k : q) (h : Ax q → p := by intro z; refine Cr ?_; refine Cr ?_; exact z.1) : p := h ⟨k⟩
theorem Z56 (k : q) (h : Ax q → p := by intro z; refine Bo _ (sa (sk (sd (sk (sk (sa (sk (sk (sk (sk (sk (sk (sk (sk (sa (sa (sk (sk sz)))))))))))))))))) ?_; refine He _ _ results70 N2 (vp (((((((((((((((((qc (qa (qa (qa (qc (qa (qa (qa (qa (qa (qa (qa (qa (qc (qc (qa q0)))))))))))))))).trans (qa (qc (qa (qa (qa (qc (qa (qa (qa (qa (qa (qa (qa (qa (qc (qc q0))))))))))))))))).trans (qb (qb (qd (qb (qb (qb (qd (qb (qb (qb (qb (qb (qb (qb (qb (qd q0))))))))))))))))).trans (qd (qb (qb (qd (qb (qb (qb (qd (qb (qb (qb (qb (qb (qb (qb (qb q0))))))))))))))))).trans (qc (qc (qa (qa (qc (qa (qa (qa (qc (qa (qa (qa (qa (qa (qa (qa q0))))))))))))))))).trans (qa (qc (qc (qa (qa (qc (qa (qa (qa (qc (qa (qa (qa (qa (qa (qa q0))))))))))))))))).trans (qa (qa (qc (qc (qa (qa (qc (qa (qa (qa (qc (qa (qa (qa (qa (qa q0))))))))))))))))).trans (qa (qa (qa (qc (qc (qa (qa (qc (qa (qa (qa (qc (qa (qa (qa (qa q0))))))))))))))))).trans (qa (qa (qa (qa (qc (qc (qa (qa (qc (qa (qa (qa (qc (qa (qa (qa q0))))))))))))))))).trans (qa (qa (qa (qa (qa (qc (qc (qa (qa (qc (qa (qa (qa (qc (qa (qa q0))))))))))))))))).trans (qa (qa (qa (qa (qa (qa (qc (qc (qa (qa (qc (qa (qa (qa (qc (qa q0))))))))))))))))).trans (qa (qa (qa (qa (qa (qa (qa (qc (qc (qa (qa (qc (qa (qa (qa (qc q0))))))))))))))))).trans (qb (qb (qb (qb (qb (qb (qb (qb (qd (qd (qb (qb (qd (qb (qb (qb q0))))))))))))))))).trans (qc (qa (qa (qa (qa (qa (qa (qa (qa (qc (qc (qa (qa (qc q0))))))))))))))).trans (qb (qd (qb (qb (qb (qb (qb (qb (qb (qb (qd (qd (qb (qb q0))))))))))))))).trans (qc (qa (qc (qa (qa (qa (qa (qa (qa (qa (qa (qc (qc (qa (qa (qa q0))))))))))))))))).trans (qa (qc (qa (qc (qa (qa (qa (qa (qa (qa (qa (qa (qc (qc (qa (qa q0))))))))))))))))) (nC (nC nE))) (List.Sublist.trans (List.Sublist.cons _ Mc) (List.sublist_append_right _ _)) ?_; exact z.1) : p := h ⟨k⟩
theorem dB (k : q) (h : Ax q → p := by intro z; refine Hw ?_; refine Ay (Ck isAgg156 sizeOf156) (k := ?_); exact z.1) : p := h ⟨k⟩
theorem Z59 (k : q) (h : Ax q → p := by intro z; refine aF z5 _ ?_; refine dI ?_; exact z.1) : p := h ⟨k⟩
theorem jO (k : q) (h : Ax q → p := by intro z; refine Ah Nt (k := ?_); refine Ah (Al Zd) (k := ?_); exact z.1) : p := h ⟨k⟩
theorem Z62 (k : q) (h : Ax q → p := by intro z; refine Gz ?_; refine nS ?_; refine gZ ?_; exact z.1) : p := h ⟨k⟩
theorem Z63 (k : q) (h : Ax q → p := by intro z; refine O0 ?_; refine Z2 ?_; exact z.1) : p := h ⟨k⟩
theorem Rt (k : q) (h : Ax q → p := by intro z; refine Ah Ir (k := ?_); refine Z0 ?_; exact z.1) : p := h ⟨k⟩
theorem Z65 (k : q) (h : Ax q → p := by intro z; refine Ce _ ((((((((((((((qa (qa (qa (qa (qc (qc (qa (qa (qa (qa (qa (qa (qc (qc (qa q0))))))))))))))).trans (qa (qa (qa (qa (qa (qc (qc (qa (qa (qa (qa (qa (qa (qc (qc q0)))))))))))))))).trans (qb (qb (qb (qb (qb (qb (qd (qd (qb (qb (qb (qb (qb (qb (qd q0)))))))))))))))).trans (qd (qb (qb (qb (qb (qb (qb (qd (qd (qb (qb (qb (qb (qb (qb q0)))))))))))))))).trans (qc (qc (qa (qa (qa (qa (qa (qa (qc (qc (qa (qa (qa (qa (qa q0)))))))))))))))).trans (qa (qc (qc (qa (qa (qa (qa (qa (qa (qc (qc (qa (qa (qa (qa q0)))))))))))))))).trans (qa (qa (qc (qc (qa (qa (qa (qa (qa (qa (qc (qc (qa (qa (qa q0)))))))))))))))).trans (qa (qa (qa (qc (qc (qa (qa (qa (qa (qa (qa (qc (qc (qa (qa q0)))))))))))))))).trans (qa (qa (qa (qa (qc (qc (qa (qa (qa (qa (qa (qa (qc (qc (qa q0)))))))))))))))).trans (qa (qa (qa (qa (qa (qc (qc (qa (qa (qa (qa (qa (qa (qc (qc q0)))))))))))))))).trans (qa (qa (qa (qa (qa (qa (qc (qc (qa (qa (qa q0)))))))))))).trans (qa (qa (qa (qa (qa (qa (qa (qc (qc (qa (qa q0)))))))))))).trans (qb (qb (qb (qb (qb (qb (qb (qb (qd (qd (qb (qb (qb (qb q0))))))))))))))).trans (qd (qb (qb (qb (qb (qb (qb (qb (qb (qd (qd (qb (qb (qb (qb q0)))))))))))))))) ?_; refine Bo _ (List.Sublist.append Mc (List.Sublist.append Mc z13)) ?_; exact z.1) : p := h ⟨k⟩
theorem Z66 (k : q) (h : Ax q → p := by intro z; refine Ah (Ca isAgg26) (k := ?_); refine Z1 ?_; exact z.1) : p := h ⟨k⟩
theorem O1 (k : q) (h : Ax q → p := by intro z; refine Z40 ?_; refine Z63 ?_; exact z.1) : p := h ⟨k⟩
theorem Z71 (k : q) (h : Ax q → p := by intro z; refine He _ _ results145 z1 (vp ((((((((((((((((qc (qa (qa (qa (qa (qa (qa (qa (qa (qa (qa (qc (qa (qa (qa q0))))))))))))))).trans (qa (qc (qa (qa (qa (qa (qa (qa (qa (qa (qa (qa (qc (qa (qa q0)))))))))))))))).trans (qa (qa (qc (qa (qa (qa (qa (qa (qa (qa (qa (qa (qa (qc (qa q0)))))))))))))))).trans (qa (qa (qa (qc (qa (qa (qa (qa (qa (qa (qa (qa (qa (qa (qc q0)))))))))))))))).trans (qb (qb (qb (qb (qd (qb (qb (qb (qb (qb (qb (qb (qb (qb (qb q0)))))))))))))))).trans (qc (qa (qa (qa (qa (qc (qa (qa (qa (qa (qa (qa (qa (qa (qa q0)))))))))))))))).trans (qa (qc (qa (qa (qa (qa (qc (qa (qa (qa (qa (qa (qa (qa (qa q0)))))))))))))))).trans (qa (qa (qc (qa (qa (qa (qa (qc (qa (qa (qa (qa (qa (qa (qa q0)))))))))))))))).trans (qa (qa (qa (qc (qa (qa (qa (qa (qc (qa (qa (qa (qa (qa (qa q0)))))))))))))))).trans (qa (qa (qa (qa (qc (qa (qa (qa (qa (qc (qa (qa (qa (qa (qa q0)))))))))))))))).trans (qa (qa (qa (qa (qa (qc (qa (qa (qa (qa (qc (qa (qa (qa (qa q0)))))))))))))))).trans (qa (qa (qa (qa (qa (qa (qc (qa (qa (qa (qa (qc (qa (qa (qa q0)))))))))))))))).trans (qa (qa (qa (qa (qa (qa (qa (qc (qa (qa (qa (qa (qc (qa (qa q0)))))))))))))))).trans (qa (qa (qa (qa (qa (qa (qa (qa (qc (qa (qa (qa (qa (qc (qa q0)))))))))))))))).trans (qb (qb (qb (qb (qb (qb (qb (qb (qb (qd (qb (qb (qb (qb q0))))))))))))))).trans (qc (qa (qa (qa (qa (qa (qa (qa (qa (qa (qc (qa (qa (qa (qa q0)))))))))))))))) (nC nE)) (List.Sublist.trans Mc (List.sublist_append_right _ _)) ?_; refine Be Ey (k := ?_); exact z.1) : p := h ⟨k⟩
theorem Z72 (k : q) (h : Ax q → p := by intro z; refine He _ _ results146 z1 (vp ((((((((((((((((qc (qa (qa (qa (qa (qa (qa (qa (qa (qa (qa (qc (qa (qa (qa q0))))))))))))))).trans (qa (qc (qa (qa (qa (qa (qa (qa (qa (qa (qa (qa (qc (qa (qa q0)))))))))))))))).trans (qa (qa (qc (qa (qa (qa (qa (qa (qa (qa (qa (qa (qa (qc (qa q0)))))))))))))))).trans (qa (qa (qa (qc (qa (qa (qa (qa (qa (qa (qa (qa (qa (qa (qc q0)))))))))))))))).trans (qb (qb (qb (qb (qd (qb (qb (qb (qb (qb (qb (qb (qb (qb (qb q0)))))))))))))))).trans (qc (qa (qa (qa (qa (qc (qa (qa (qa (qa (qa (qa (qa (qa (qa q0)))))))))))))))).trans (qa (qc (qa (qa (qa (qa (qc (qa (qa (qa (qa (qa (qa (qa (qa q0)))))))))))))))).trans (qa (qa (qc (qa (qa (qa (qa (qc (qa (qa (qa (qa (qa (qa (qa q0)))))))))))))))).trans (qa (qa (qa (qc (qa (qa (qa (qa (qc (qa (qa (qa (qa (qa (qa q0)))))))))))))))).trans (qa (qa (qa (qa (qc (qa (qa (qa (qa (qc (qa (qa (qa (qa (qa q0)))))))))))))))).trans (qa (qa (qa (qa (qa (qc (qa (qa (qa (qa (qc (qa (qa (qa (qa q0)))))))))))))))).trans (qa (qa (qa (qa (qa (qa (qc (qa (qa (qa (qa (qc (qa (qa (qa q0)))))))))))))))).trans (qa (qa (qa (qa (qa (qa (qa (qc (qa (qa (qa (qa (qc (qa (qa q0)))))))))))))))).trans (qa (qa (qa (qa (qa (qa (qa (qa (qc (qa (qa (qa (qa (qc (qa q0)))))))))))))))).trans (qb (qb (qb (qb (qb (qb (qb (qb (qb (qd (qb (qb (qb (qb q0))))))))))))))).trans (qc (qa (qa (qa (qa (qa (qa (qa (qa (qa (qc (qa (qa (qa (qa q0)))))))))))))))) (nC nE)) (List.Sublist.trans Mc (List.sublist_append_right _ _)) ?_; refine Be Ey (k := ?_); exact z.1) : p := h ⟨k⟩
theorem pR (k : q) (h : Ax q → p := by intro z; refine Ah (Eb (cs := [_]) zeroValue120 AN6) (k := ?_); refine Ah (nU underlying120) (k := ?_); exact z.1) : p := h ⟨k⟩
theorem sZ (k : q) (h : Ax q → p := by intro z; refine Z2 ?_; refine Ah z66 (k := ?_); exact z.1) : p := h ⟨k⟩
theorem lP (k : q) (h : Ax q → p := by intro z; refine Ha rfl ?_; refine pP ?_; exact z.1) : p := h ⟨k⟩
theorem Ok (k : q) (h : Ax q → p := by intro z; refine Ah Ir (k := ?_); refine Z9 ?_; exact z.1) : p := h ⟨k⟩
theorem Z77 (k : q) (h : Ax q → p := by intro z; refine Cr ?_; refine Wx ?_; exact z.1) : p := h ⟨k⟩
theorem Jl (k : q) (h : Ax q → p := by intro z; refine Z0 ?_; refine Fj ?_; exact z.1) : p := h ⟨k⟩
theorem Zu (k : q) (h : Ax q → p := by intro z; refine Ah Ml (k := ?_); refine Z0 ?_; exact z.1) : p := h ⟨k⟩
theorem zH (k : q) (h : Ax q → p := by intro z; refine Be (Al Ll) (k := ?_); refine Be lR (k := ?_); exact z.1) : p := h ⟨k⟩
theorem Z83 (k : q) (h : Ax q → p := by intro z; refine Ah (Al Iw) (k := ?_); refine Ah (Ca isAgg26) (k := ?_); exact z.1) : p := h ⟨k⟩
theorem Zv (k : q) (h : Ax q → p := by intro z; refine Gg ?_; refine Gg ?_; exact z.1) : p := h ⟨k⟩
theorem uS (k : q) (h : Ax q → p := by intro z; refine Be Ey (k := ?_); refine Kz ?_; exact z.1) : p := h ⟨k⟩
theorem Z86 (k : q) (h : Ax q → p := by intro z; refine Ah (Al Jn) (k := ?_); refine Ah lR (k := ?_); exact z.1) : p := h ⟨k⟩
theorem Z87 (k : q) (h : Ax q → p := by intro z; refine Be (Al Iw) (k := ?_); refine Be (Ca isAgg26) (k := ?_); exact z.1) : p := h ⟨k⟩
theorem Z88 (k : q) (h : Ax q → p := by intro z; refine Ce _ (((((qc (qc (qa (qc (qa (qa (qa q0))))))).trans (qa (qc (qc (qa (qc (qa (qa q0)))))))).trans (qb (qb (qd (qd (qb q0)))))).trans (qd (qb (qb (qd q0))))).trans (qd (qd (qb (qb q0))))) ?_; refine wB ?_; exact z.1) : p := h ⟨k⟩
theorem N5 (k : q) (h : Ax q → p := by intro z; refine Cd results88 z1 ?_; refine Z9 ?_; exact z.1) : p := h ⟨k⟩
theorem Z90 (k : q) (h : Ax q → p := by intro z; refine dI ?_; refine Gv (Bw (l' := [_, _]) sizeOf42) (k := ?_); exact z.1) : p := h ⟨k⟩
theorem Zw (k : q) (h : Ax q → p := by intro z; refine Z2 ?_; refine Z1 ?_; exact z.1) : p := h ⟨k⟩
theorem Z92 (k : q) (h : Ax q → p := by intro z; refine Z62 ?_; refine O1 ?_; exact z.1) : p := h ⟨k⟩
theorem lS (k : q) (h : Ax q → p := by intro z; refine Be Hn (k := ?_); refine Gg ?_; exact z.1) : p := h ⟨k⟩
theorem uT (k : q) (h : Ax q → p := by intro z; refine Be Nt (k := ?_); refine Be (Al Zd) (k := ?_); exact z.1) : p := h ⟨k⟩
theorem pL (k : q) (h : Ax q → p := by intro z; refine Z2 ?_; refine vZ ?_; exact z.1) : p := h ⟨k⟩
theorem lT (k : q) (h : Ax q → p := by intro z; refine Cd results77 (Dd.agg isAgg28 sizeOf28 rfl me rfl (Dd.agg isAgg52 sizeOf52 rfl me rfl z1)) ?_; refine uR ?_; exact z.1) : p := h ⟨k⟩
theorem lU (k : q) (h : Ax q → p := by intro z; refine Ah z75 (k := ?_); refine T9 ?_; exact z.1) : p := h ⟨k⟩
theorem Vj (k : q) (h : Ax q → p := by intro z; refine Z52 ?_; refine Hq ?_; exact z.1) : p := h ⟨k⟩
theorem Lo (k : q) (h : Ax q → p := by intro z; refine Un ?_; refine Z5 ?_; exact z.1) : p := h ⟨k⟩
theorem Pk (k : q) (h : Ax q → p := by intro z; refine Be Ir (k := ?_); refine Gg ?_; exact z.1) : p := h ⟨k⟩
theorem Kt (k : q) (h : Ax q → p := by intro z; refine Ah Hn (k := ?_); refine Z9 ?_; exact z.1) : p := h ⟨k⟩
theorem uU (k : q) (h : Ax q → p := by intro z; refine He _ _ results87 z1 (vp (List.Perm.refl _) nE) (List.Sublist.trans Mc (List.sublist_append_right _ _)) ?_; refine Be (Al Iw) (k := ?_); exact z.1) : p := h ⟨k⟩
theorem pS (k : q) (h : Ax q → p := by intro z; refine Cd results18 z27 ?_; refine Cr ?_; exact z.1) : p := h ⟨k⟩
theorem uV (k : q) (h : Ax q → p := by intro z; refine Ex _ _ (vp (qd (qd (qb q0))) (nA nE)) Cy 8 [(true, 0), (true, 1), (true, 2), (true, 3), (true, 4), (true, 5), (true, 6), (false, 7)] z5 ?_; refine Gg ?_; exact z.1) : p := h ⟨k⟩
theorem pT (k : q) (h : Ax q → p := by intro z; refine Ha rfl ?_; refine Cz ?_; exact z.1) : p := h ⟨k⟩
theorem pU (k : q) (h : Ax q → p := by intro z; refine Cd results75 (Dd.agg isAgg28 sizeOf28 rfl me rfl (Dd.agg isAgg52 sizeOf52 rfl me rfl z1)) ?_; refine uR ?_; exact z.1) : p := h ⟨k⟩
theorem O2 (k : q) (h : Ax q → p := by intro z; refine Ah (Al Ll) (k := ?_); refine Ah lR (k := ?_); exact z.1) : p := h ⟨k⟩
theorem uW (k : q) (h : Ax q → p := by intro z; refine Dn 10 rfl z5 z51 (k := ?_); refine Dn 11 rfl z5 (Eb (cs := [_, _, _]) zeroValue131 rL) (k := ?_); exact z.1) : p := h ⟨k⟩
theorem zI (k : q) (h : Ax q → p := by intro z; refine Fu (args := [(Value.iface 240 (.pointer (some ea2))), (Value.iface 240 (.pointer (some ea0)))]) (Ai call176) (fun w1 hw1 => Xc w1 hE.n2_0 (hE.ext hw1.ext_out).b2 (hE.ext hw1.ext_out).b0) (k := ?_); refine Z1 ?_; exact z.1) : p := h ⟨k⟩
theorem zJ (k : q) (h : Ax q → p := by intro z; refine Fu (args := [(Value.iface 240 (.pointer (some ea2))), (Value.iface 240 (.pointer (some ea1)))]) (Ai call176) (fun w1 hw1 => Xc w1 hE.n2_1 (hE.ext hw1.ext_out).b2 (hE.ext hw1.ext_out).b1) (k := ?_); refine Z1 ?_; exact z.1) : p := h ⟨k⟩
theorem pV (k : q) (h : Ax q → p := by intro z; refine Z48 ?_; refine hJ ?_; exact z.1) : p := h ⟨k⟩
theorem O3 (k : q) (h : Ax q → p := by intro z; refine Yj (qa q0) ?_; refine Jm ?_; exact z.1) : p := h ⟨k⟩
theorem jP (k : q) (h : Ax q → p := by intro z; refine Gs ?_; refine Z0 ?_; exact z.1) : p := h ⟨k⟩
theorem Qb (k : q) (h : Ax q → p := by intro z; refine Ah Nu (k := ?_); refine Cr ?_; exact z.1) : p := h ⟨k⟩
theorem pW (k : q) (h : Ax q → p := by intro z; refine Sr ?_; refine Z53 ?_; exact z.1) : p := h ⟨k⟩
theorem zK (k : q) (h : Ax q → p := by intro z; refine Ye (V' := ((pm, _) :: ((pn, _) :: []))) z57 (k := ?_); refine Ye (V' := ((pm, _) :: ((pn, _) :: []))) z64 (k := ?_); exact z.1) : p := h ⟨k⟩
theorem uX (k : q) (h : Ax q → p := by intro z; refine Fg Cy 11 [(true, 0), (true, 1), (true, 2), (true, 3), (true, 4), (true, 5), (true, 7), (false, 6), (false, 8), (false, 9), (true, 10)] z5 ?_; refine Z87 ?_; exact z.1) : p := h ⟨k⟩
theorem bR (k : q) (h : Ax q → p := by intro z; refine Z92 ?_; refine Ah (Hx runUnderlying182 sizeOf26 1) (k := ?_); exact z.1) : p := h ⟨k⟩
theorem bS (k : q) (h : Ax q → p := by intro z; refine Z92 ?_; refine Ah (Hx runUnderlying182 sizeOf26 2) (k := ?_); exact z.1) : p := h ⟨k⟩
theorem pX (k : q) (h : Ax q → p := by intro z; refine T8 ?_; refine Z0 ?_; exact z.1) : p := h ⟨k⟩
theorem Xw (k : q) (h : Ax q → p := by intro z; refine Hw ?_; refine Hw ?_; exact z.1) : p := h ⟨k⟩
theorem lV (k : q) (h : Ax q → p := by intro z; refine Ah (Al Rh) (k := ?_); refine Ah (Ca isAgg23) (k := ?_); exact z.1) : p := h ⟨k⟩
theorem fO (k : q) (h : Ax q → p := by intro z; refine Ah (Al Zg) (k := ?_); refine vZ ?_; exact z.1) : p := h ⟨k⟩
theorem AE5 (k : q) (h : Ax q → p := by intro z; refine Bm (Cj (n := s.gens.length) runUnderlying22 sizeOf3 ((s.free.getD ((((s.free.length : Nat) : Int) - 1).toNat) default).toNat) (o7.slj Bb) (gD z3) Km) (k := ?_); refine Bm (Cb isAgg3 ((s.free.getD ((((s.free.length : Nat) : Int) - 1).toNat) default).toNat) 0 (o7.slj Bb) (gD z3)) (k := ?_); exact z.1) : p := h ⟨k⟩
theorem AE6 (k : q) (h : Ax q → p := by intro z; refine AW0 ?_; refine Ah (Cb isAgg3 ((s.free.getD ((((s.free.length : Nat) : Int) - 1).toNat) default).toNat) 0 (o7.slj Bb) (gD z3)) (k := ?_); exact z.1) : p := h ⟨k⟩
theorem AE7 (k : q) (h : Ax q → p := by intro z; refine Be (Cj (n := s.gens.length) runUnderlying22 sizeOf3 ((s.free.getD ((((s.free.length : Nat) : Int) - 1).toNat) default).toNat) (hos302.slj Bb) (gD z3) Km) (k := ?_); refine Be (Cb isAgg3 ((s.free.getD ((((s.free.length : Nat) : Int) - 1).toNat) default).toNat) 0 (hos302.slj Bb) (gD z3)) (k := ?_); exact z.1) : p := h ⟨k⟩
theorem pY (k : q) (h : Ax q → p := by intro z; refine Mf (nC (nC nE)) ?_; refine hJ ?_; exact z.1) : p := h ⟨k⟩
theorem AQ8 (k : q) (h : Ax q → p := by intro z; refine kF ?_; refine Fu (Ai call46) (fun w1 hw1 => iU w1 (r := (xR r)) (name := c.name) (h_r_Sg := (Fl.slj c6) w1 hw1) (n_r_Sg := by first | omega | (simp; done) | exact (hsm _ z4).1 | exact (hsm _ z4).2) (h_r_Su := (Fl.slj p5) w1 hw1) (n_r_Su := by first | omega | (simp; done) | exact (hsm _ z4).1 | exact (hsm _ z4).2) (h_r_Sf := (Fl.slj p6) w1 hw1) (n_r_Sf := by first | omega | (simp; done) | exact (hsm _ z4).1 | exact (hsm _ z4).2) (h_r_l := (Dh.j c9.1 sh).2 w1 hw1) (n_r_l := by first | omega | (simp; done) | exact (hsm _ z4).1 | exact (hsm _ z4).2) (k_r_l := c9.2)) (k := ?_); exact z.1) : p := h ⟨k⟩
theorem lW (k : q) (h : Ax q → p := by intro z; refine Ah (Eb (cs := [_]) zeroValue216 AM6) (k := ?_); refine Ah (nU underlying216) (k := ?_); exact z.1) : p := h ⟨k⟩
theorem Rw (k : q) (h : Ax q → p := by intro z; refine Cr ?_; refine Z0 ?_; refine Jm ?_; exact z.1) : p := h ⟨k⟩
theorem AQ9 (k : q) (h : Ax q → p := by intro z; refine kG ?_; refine hJ ?_; exact z.1) : p := h ⟨k⟩
theorem lX (k : q) (h : Ax q → p := by intro z; refine Z92 ?_; refine Ah (Kq (m := 9) (n := 3) runUnderlying193 sizeOf156 isAgg156) (k := ?_); exact z.1) : p := h ⟨k⟩
theorem lY (k : q) (h : Ax q → p := by intro z; refine Ah Gy (k := ?_); refine Z1 ?_; exact z.1) : p := h ⟨k⟩
theorem uY (k : q) (h : Ax q → p := by intro z; refine Be Hn (k := ?_); refine jP ?_; exact z.1) : p := h ⟨k⟩
theorem AE8 (k : q) (h : Ax q → p := by intro z; refine Ex _ _ (vp ((qc (qc (qc (qa (qa q0))))).trans (qa (qc (qc (qc (qa (qa q0))))))) (nC (nC nE))) Cy 17 [(true, 0), (true, 1), (true, 2), (true, 3), (true, 4), (true, 5), (true, 6), (true, 7), (true, 8), (true, 9), (true, 10), (true, 11), (true, 12), (true, 13), (false, 14), (false, 15), (true, 16)] z5 ?_; refine Gg ?_; exact z.1) : p := h ⟨k⟩
theorem Ss (k : q) (h : Ax q → p := by intro z; refine zF ?_; refine pK ?_; exact z.1) : p := h ⟨k⟩
theorem Hk (k : q) (h : Ax q → p := by intro z; refine Un ?_; refine Fg Cy 7 [(true, 0), (true, 2), (true, 3), (false, 1), (true, 4), (true, 5), (true, 6)] z5 ?_; refine Gg ?_; refine Be (Al I3) (k := ?_); refine Qx ?_; refine U8 (Ai call139) (fun w1 hw1 => xD w1 (r := n_)) (k := ?_); refine Be D5 (k := ?_); refine Be Mj (k := ?_); refine pV ?_; refine Cd results109 z1 ?_; refine Cr ?_; exact z.1) : p := h ⟨k⟩
theorem Rx (k : q) (h : Ax q → p := by intro z; refine Ch ?_; refine Cr ?_; exact z.1) : p := h ⟨k⟩
theorem zL (k : q) (h : Ax q → p := by intro z; refine Fu (args := [(Value.iface 240 (.pointer (some ea2))), (Value.iface 240 (.pointer (some ea2)))]) (Ai call176) (fun w1 hw1 => aI w1) (k := ?_); refine Z1 ?_; exact z.1) : p := h ⟨k⟩
theorem O4 (k : q) (h : Ax q → p := by intro z; refine Gv (Bw (l' := [_]) sizeOf4) (k := ?_); refine hJ ?_; exact z.1) : p := h ⟨k⟩
theorem AE9 (k : q) (h : Ax q → p := by intro z; refine Bm (Cj (n := s.free.length) runUnderlying22 sizeOf3 ((((s.free.length : Nat) : Int) - 1).toNat) (j9.slj Bb) (gD z3) Km) (k := ?_); refine Bm (Cb isAgg3 ((((s.free.length : Nat) : Int) - 1).toNat) 0 (j9.slj Bb) (gD z3)) (k := ?_); exact z.1) : p := h ⟨k⟩
theorem AF0 (k : q) (h : Ax q → p := by intro z; refine Ah (Cj (n := s.free.length) runUnderlying22 sizeOf3 ((((s.free.length : Nat) : Int) - 1).toNat) (j9.slj Bb) (gD z3) Km) (k := ?_); refine Ah (Cb isAgg3 ((((s.free.length : Nat) : Int) - 1).toNat) 0 (j9.slj Bb) (gD z3)) (k := ?_); exact z.1) : p := h ⟨k⟩
theorem O5 (k : q) (h : Ax q → p := by intro z; refine Ye (V' := ((pp, _) :: ((mw, _) :: []))) z57 (k := ?_); refine Ye (V' := ((pp, _) :: ((mw, _) :: []))) z64 (k := ?_); exact z.1) : p := h ⟨k⟩
theorem O6 (k : q) (h : Ax q → p := by intro z; refine Ye (V' := ((xq, _) :: ((xu, _) :: []))) z57 (k := ?_); refine Ye (V' := ((xq, _) :: ((xu, _) :: []))) z64 (k := ?_); exact z.1) : p := h ⟨k⟩
theorem O7 (k : q) (h : Ax q → p := by intro z; refine Z5 ?_; refine Hd (Ai call127) (fun w1 hw1 => iX w1 (n_ := (((0 + ((((l.take at_1).length) : Nat) : Int)) + 1) + ((((l.drop at_1).length) : Nat) : Int))) (hi := z7)) (k := ?_); exact z.1) : p := h ⟨k⟩
theorem Lp (k : q) (h : Ax q → p := by intro z; refine Z1 ?_; refine Z5 ?_; exact z.1) : p := h ⟨k⟩
theorem uZ (k : q) (h : Ax q → p := by intro z; refine Ah z51 (k := ?_); refine dI ?_; exact z.1) : p := h ⟨k⟩
theorem fP (k : q) (h : Ax q → p := by intro z; refine Ah (Al cW) (k := ?_); refine Iq ?_; exact z.1) : p := h ⟨k⟩
theorem zM (k : q) (h : Ax q → p := by intro z; refine Cd results74 (Dd.agg isAgg28 sizeOf28 rfl me rfl (Dd.agg isAgg52 sizeOf52 rfl me rfl z1)) ?_; refine uR ?_; exact z.1) : p := h ⟨k⟩
theorem Hl (k : q) (h : Ax q → p := by intro z; refine Gv (Bw (l' := [_, _, _]) sizeOf156) (k := ?_); refine Z0 ?_; refine Z2 ?_; refine Ah (Ca isAgg153) (k := ?_); refine Ah (Ck isAgg156 sizeOf156) (k := ?_); refine Ej (args := [_, _]) (Ai call109) func109 ntmps109 ?_; refine Z2 ?_; exact z.1) : p := h ⟨k⟩
theorem AF1 (k : q) (h : Ax q → p := by intro z; refine Be (Cj (n := r.l.length) runUnderlying26 sizeOf52 (xN r c) (Dh.j c9.1 sh).sl (Ed c9.1.1 z3) (Aw c9.1.1)) (k := ?_); refine Be (Du isAgg52 sizeOf52 (xN r c) (Dh.j c9.1 sh).sl (Ed c9.1.1 z3)) (k := ?_); exact z.1) : p := h ⟨k⟩
theorem AR0 (k : q) (h : Ax q → p := by intro z; refine kF ?_; refine Fu (Ai call66) (fun w1 hw1 => sG w1 (r := (AC0 r)) (s := ((Ae c).name)) (h_r_Sg := (Bv.take (Bv.of_base h_r_Sg) _) w1 hw1) (n_r_Sg := z7) (h_r_Su := (Bv.take (Bv.of_base h_r_Su) _) w1 hw1) (n_r_Su := z7) (h_r_Sf := (Bv.take (Bv.of_base h_r_Sf) _) w1 hw1) (n_r_Sf := z7) (h_r_l := (Dh.j c6.1 sh).2 w1 hw1) (n_r_l := z7) (k_r_l := c6.2)) (k := ?_); exact z.1) : p := h ⟨k⟩
theorem lZ (k : q) (h : Ax q → p := by intro z; refine Ej (args := [_]) (Ai call171) func171 ntmps171 ?_; refine Zw ?_; exact z.1) : p := h ⟨k⟩
theorem O8 (k : q) (h : Ax q → p := by intro z; refine Ay (Al Rh) (k := ?_); refine Ay (Ca isAgg23) (k := ?_); exact z.1) : p := h ⟨k⟩
theorem AF2 (k : q) (h : Ax q → p := by intro z; refine Fg Cy 20 [(true, 0), (true, 1), (true, 2), (true, 3), (true, 4), (true, 5), (true, 6), (true, 7), (true, 8), (true, 9), (true, 10), (true, 11), (true, 12), (true, 13), (true, 14), (true, 15), (true, 16), (true, 17), (true, 18), (true, 19)] z5 ?_; refine Gg ?_; exact z.1) : p := h ⟨k⟩
theorem jQ (k : q) (h : Ax q → p := by intro z; refine Be (Al Jn) (k := ?_); refine Be lR (k := ?_); exact z.1) : p := h ⟨k⟩
theorem mB (k : q) (h : Ax q → p := by intro z; refine Mf (nC nE) ?_; refine Gz ?_; exact z.1) : p := h ⟨k⟩
theorem Zx (k : q) (h : Ax q → p := by intro z; refine Ah Kn (k := ?_); refine Cr ?_; exact z.1) : p := h ⟨k⟩
theorem mC (k : q) (h : Ax q → p := by intro z; refine Ah (Ck isAgg36 sizeOf36) (k := ?_); refine Cr ?_; exact z.1) : p := h ⟨k⟩
theorem mD (k : q) (h : Ax q → p := by intro z; refine Cd results171 z1 ?_; refine Oo ?_; exact z.1) : p := h ⟨k⟩
theorem bT (k : q) (h : Ax q → p := by intro z; refine Hw ?_; refine Ay Ka (k := ?_); exact z.1) : p := h ⟨k⟩
theorem vA (k : q) (h : Ax q → p := by intro z; refine Ah (Al cT) (k := ?_); refine Gv (Bw (l' := [_, _, _, _, _, _, _, _]) sizeOf3) (k := ?_); exact z.1) : p := h ⟨k⟩
theorem fQ (k : q) (h : Ax q → p := by intro z; refine Ay Nt (k := ?_); refine Ay (Al Zd) (k := ?_); exact z.1) : p := h ⟨k⟩
theorem Ry (k : q) (h : Ax q → p := by intro z; refine Zw ?_; refine Z2 ?_; exact z.1) : p := h ⟨k⟩
theorem O9 (k : q) (h : Ax q → p := by intro z; refine Bm lR (k := ?_); refine aC ?_; exact z.1) : p := h ⟨k⟩
theorem St (k : q) (h : Ax q → p := by intro z; refine Cr ?_; refine N9 ?_; exact z.1) : p := h ⟨k⟩
theorem pZ (k : q) (h : Ax q → p := by intro z; refine Ch ?_; refine Ah z66 (k := ?_); exact z.1) : p := h ⟨k⟩
theorem Su (k : q) (h : Ax q → p := by intro z; refine Ah Nt (k := ?_); refine Ah (Al cX) (k := ?_); refine nB ?_; exact z.1) : p := h ⟨k⟩
theorem fR (k : q) (h : Ax q → p := by intro z; refine lP ?_; refine Z92 ?_; exact z.1) : p := h ⟨k⟩
theorem Vk (k : q) (h : Ax q → p := by intro z; refine Be Ir (k := ?_); refine jP ?_; exact z.1) : p := h ⟨k⟩
theorem mF (k : q) (h : Ax q → p := by intro z; refine Ah (Al J0) (k := ?_); refine Ah (Ca isAgg40) (k := ?_); exact z.1) : p := h ⟨k⟩
theorem mG (k : q) (h : Ax q → p := by intro z; refine Ay (Al Mw) (k := ?_); refine Qy ?_; exact z.1) : p := h ⟨k⟩
theorem mH (k : q) (h : Ax q → p := by intro z; refine Bm (Al Jo) (k := ?_); refine aA ?_; exact z.1) : p := h ⟨k⟩
theorem mJ (k : q) (h : Ax q → p := by intro z; refine Be (Al Rh) (k := ?_); refine Be (Ca isAgg23) (k := ?_); exact z.1) : p := h ⟨k⟩
theorem AF3 (k : q) (h : Ax q → p := by intro z; refine Cr ?_; refine Ah (Cj (n := s.used.length) runUnderlying23 sizeOf4 ((s.free.getD ((((s.free.length : Nat) : Int) - 1).toNat) default).toNat) (q8.slj Ds) (gD z3) Km) (k := ?_); exact z.1) : p := h ⟨k⟩
theorem Kx (k : q) (h : Ax q → p := by intro z; refine Xv ?_; refine Fj ?_; exact z.1) : p := h ⟨k⟩
theorem AF4 (k : q) (h : Ax q → p := by intro z; refine Wx ?_; refine AW0 ?_; exact z.1) : p := h ⟨k⟩
theorem mL (k : q) (h : Ax q → p := by intro z; refine Ah (Al uC) (k := ?_); refine Iq ?_; exact z.1) : p := h ⟨k⟩
theorem Wp (k : q) (h : Ax q → p := by intro z; refine Z62 ?_; refine pT ?_; exact z.1) : p := h ⟨k⟩
theorem vB (k : q) (h : Ax q → p := by intro z; refine Ah (Al Zg) (k := ?_); refine Gv (Bw (l' := [_, _, _, _, _]) sizeOf25) (k := ?_); exact z.1) : p := h ⟨k⟩
theorem AF5 (k : q) (h : Ax q → p := by intro z; refine Ah (Wb (s.free.take ((((s.free.length : Nat) : Int) - 1).toNat)).length ((((s.free.length : Nat) : Int) - 1).toNat) runUnderlying22 (fun w => ⟨_, sizeOf3 w⟩) (hi := z4) (hi2 := z4)) (k := ?_); refine jO ?_; exact z.1) : p := h ⟨k⟩
theorem jR (k : q) (h : Ax q → p := by intro z; refine Ch ?_; refine pQ ?_; exact z.1) : p := h ⟨k⟩
theorem AR1 (k : q) (h : Ax q → p := by intro z; refine Ah (Ek (n := (l.drop at_1).length) (c := (l_c - at_1)) (i := 1) 1 ((l.drop at_1).drop 1).length runUnderlying26 sizeOf52 (hlo := z3) (hnc := Jz) (hm := z6)) (k := ?_); refine Un ?_; exact z.1) : p := h ⟨k⟩
theorem jS (k : q) (h : Ax q → p := by intro z; refine Cd results142 z1 ?_; refine zG ?_; exact z.1) : p := h ⟨k⟩
theorem zN (k : q) (h : Ax q → p := by intro z; refine He _ _ results144 z1 (vp (List.Perm.refl _) (nC nE)) Mc ?_; refine uS ?_; exact z.1) : p := h ⟨k⟩
theorem P0 (k : q) (h : Ax q → p := by intro z; refine Ev _ (sa (sd (sk (sa (sk (sk (sa (sa (sa (sk (sk (sk (sk (sk (sk (sk (sk (sk (sk (sk (sk (sk (sa (sa (sk (sk sz)))))))))))))))))))))))))) ?_; refine Rx ?_; exact z.1) : p := h ⟨k⟩
theorem AR2 (k : q) (h : Ax q → p := by intro z; refine Ah (Ek (n := l.length) (c := l_c) (i := ((at_1 : Nat) : Int)) at_1 (l.drop at_1).length runUnderlying26 sizeOf52 (hlo := z3) (hnc := Jz) (hm := z6)) (k := ?_); refine Un ?_; exact z.1) : p := h ⟨k⟩
theorem P1 (k : q) (h : Ax q → p := by intro z; refine Bm Nt (k := ?_); refine Bm (Al Zd) (k := ?_); exact z.1) : p := h ⟨k⟩
theorem bU (k : q) (h : Ax q → p := by intro z; refine Z7 ?_; refine pJ ?_; exact z.1) : p := h ⟨k⟩
theorem AR3 (k : q) (h : Ax q → p := by intro z; refine O3 ?_; refine Ch ?_; exact z.1) : p := h ⟨k⟩
theorem vC (k : q) (h : Ax q → p := by intro z; refine Ah (Al Jn) (k := ?_); refine T6 ?_; exact z.1) : p := h ⟨k⟩
theorem bV (k : q) (h : Ax q → p := by intro z; refine Z2 ?_; refine Z9 ?_; exact z.1) : p := h ⟨k⟩
theorem Mp (k : q) (h : Ax q → p := by intro z; refine Z1 ?_; refine Z2 ?_; exact z.1) : p := h ⟨k⟩
theorem Rz (k : q) (h : Ax q → p := by intro z; refine Ss ?_; refine Qa ?_; exact z.1) : p := h ⟨k⟩
theorem AF6 (k : q) (h : Ax q → p := by intro z; refine Jl ?_; refine Ex _ _ (vp (qd (qd q0)) (nA nE)) Cy 13 [(true, 0), (true, 1), (true, 2), (true, 3), (true, 4), (true, 5), (true, 6), (true, 7), (false, 8), (false, 9), (true, 10), (true, 11), (true, 12)] z5 ?_; exact z.1) : p := h ⟨k⟩
theorem Vl (k : q) (h : Ax q → p := by intro z; refine Ah Mj (k := ?_); refine Z0 ?_; exact z.1) : p := h ⟨k⟩
theorem Sv (k : q) (h : Ax q → p := by intro z; refine Sn ?_; refine Ag 2 rfl ?_; exact z.1) : p := h ⟨k⟩
theorem P2 (k : q) (h : Ax q → p := by intro z; refine He _ _ results53 z1 (vp (List.Perm.refl _) nE) (List.Sublist.cons _ Mc) ?_; refine Bm Ml (k := ?_); exact z.1) : p := h ⟨k⟩
theorem zO (k : q) (h : Ax q → p := by intro z; refine aF z5 _ ?_; refine Mf (nA nE) ?_; exact z.1) : p := h ⟨k⟩
theorem P3 (k : q) (h : Ax q → p := by intro z; refine Ah (Al cT) (k := ?_); refine AJ9 ?_; exact z.1) : p := h ⟨k⟩
theorem jT (k : q) (h : Ax q → p := by intro z; refine Z86 ?_; refine qN ?_; exact z.1) : p := h ⟨k⟩
theorem Sa (k : q) (h : Ax q → p := by intro z; refine Z52 ?_; refine C6 ?_; exact z.1) : p := h ⟨k⟩
theorem AF7 (k : q) (h : Ax q → p := by intro z; refine AV7 ?_; refine Gg ?_; exact z.1) : p := h ⟨k⟩
theorem Om (k : q) (h : Ax q → p := by intro z; refine Z0 ?_; refine Z5 ?_; exact z.1) : p := h ⟨k⟩
theorem qA (k : q) (h : Ax q → p := by intro z; refine Ay (Al Kr) (k := ?_); refine Qy ?_; exact z.1) : p := h ⟨k⟩
theorem qB (k : q) (h : Ax q → p := by intro z; refine Ay (Al Ri) (k := ?_); refine Qy ?_; exact z.1) : p := h ⟨k⟩
theorem qC (k : q) (h : Ax q → p := by intro z; refine Ay (Al cT) (k := ?_); refine Qy ?_; exact z.1) : p := h ⟨k⟩
theorem qD (k : q) (h : Ax q → p := by intro z; refine Z77 ?_; refine pJ ?_; exact z.1) : p := h ⟨k⟩
theorem AR4 (k : q) (h : Ax q → p := by intro z; refine Ce _ (((((qc (qc (qa (qa (qc (qa (qa q0))))))).trans (qa (qc (qc (qa (qa (qc (qa q0)))))))).trans (qb (qb (qd (qd (qb (qb q0))))))).trans (qd (qb (qb (qd q0))))).trans (qd (qd (qb (qb q0))))) ?_; refine wB ?_; exact z.1) : p := h ⟨k⟩
theorem AR5 (k : q) (h : Ax q → p := by intro z; refine Ce _ (((((qc (qa (qc (qc (qa (qa (qa q0))))))).trans (qa (qc (qa (qc (qc (qa (qa q0)))))))).trans (qb (qb (qd (qb (qd q0)))))).trans (qd (qb (qb (qd (qb q0)))))).trans (qd (qd (qb (qb q0))))) ?_; refine wB ?_; exact z.1) : p := h ⟨k⟩
theorem Vm (k : q) (h : Ax q → p := by intro z; refine Ag 4 rfl ?_; refine Rt ?_; exact z.1) : p := h ⟨k⟩
theorem zP (k : q) (h : Ax q → p := by intro z; refine Ah (Al Mw) (k := ?_); refine Iq ?_; exact z.1) : p := h ⟨k⟩
theorem zQ (k : q) (h : Ax q → p := by intro z; refine Be (Al Mw) (k := ?_); refine Qx ?_; exact z.1) : p := h ⟨k⟩
theorem AR6 (k : q) (h : Ax q → p := by intro z; refine AK6 rfl (Ai call36) (fun w1 hw1 => M0 w1 (s := r.slots) (h_s_gens := (Bv.of_base h_r_Sg) w1 hw1) (k_s_gens := bQ) (h_s_used := (Bv.of_base h_r_Su) w1 hw1) (k_s_used := bQ) (h_s_free := (Bv.of_base h_r_Sf) w1 hw1) (k_s_free := bQ)) (k := ?_); refine Dn 5 rfl z5 z75 (k := ?_); exact z.1) : p := h ⟨k⟩
theorem AR7 (k : q) (h : Ax q → p := by intro z; refine Gh ?_; refine La (qc (qa q0)) ?_; refine Ay Ml (k := ?_); refine zF ?_; exact z.1) : p := h ⟨k⟩
theorem AF8 (k : q) (h : Ax q → p := by intro z; refine Ye (V' := ((r3, _) :: ((r4, _) :: []))) z57 (k := ?_); refine Ye (V' := ((r3, _) :: ((r4, _) :: []))) (Bw (l' := [_, _, _, _, _, _]) sizeOf44) (k := ?_); exact z.1) : p := h ⟨k⟩
theorem AF9 (k : q) (h : Ax q → p := by intro z; refine Ye (V' := ((r7, _) :: ((r8, _) :: []))) z57 (k := ?_); refine Ye (V' := ((r7, _) :: ((r8, _) :: []))) (Bw (l' := [_, _, _, _, _, _]) sizeOf44) (k := ?_); exact z.1) : p := h ⟨k⟩
theorem vD (k : q) (h : Ax q → p := by intro z; refine Rb (args := [_]) (Ai call87) func87 ntmps87 ?_; refine Ry ?_; exact z.1) : p := h ⟨k⟩
theorem AG0 (k : q) (h : Ax q → p := by intro z; refine Qx ?_; refine Be (Cj (n := s.used.length) runUnderlying23 sizeOf4 h.slot.toNat (q8.slj Ds) (gD z3) Km) (k := ?_); exact z.1) : p := h ⟨k⟩
theorem AR8 (k : q) (h : Ax q → p := by intro z; refine pK ?_; refine pW ?_; exact z.1) : p := h ⟨k⟩
theorem Nk (k : q) (h : Ax q → p := by intro z; refine Gv (Bw (l' := [_, _, _]) sizeOf156) (k := ?_); refine Gz ?_; refine AR3 ?_; refine Ah lR (k := ?_); refine Ah (Al I2) (k := ?_); refine Iq ?_; exact z.1) : p := h ⟨k⟩
theorem Nl (k : q) (h : Ax q → p := by intro z; refine Gv (Bw (l' := [_]) sizeOf22) (k := ?_); refine Gz ?_; refine AR7 ?_; exact z.1) : p := h ⟨k⟩
theorem Wq (k : q) (h : Ax q → p := by intro z; refine Pz ?_; refine Ag 5 rfl ?_; exact z.1) : p := h ⟨k⟩
theorem P4 (k : q) (h : Ax q → p := by intro z; refine Et (vs := [(Value.agg [(vi 10), (vt ([115, 104, 111, 119] : Az)), (vi 1)].toArray)]) hl3 (qa (qa q0)) Fo ?_; refine Ch ?_; exact z.1) : p := h ⟨k⟩
theorem Wr (k : q) (h : Ax q → p := by intro z; refine Z1 ?_; refine Qv ?_; exact z.1) : p := h ⟨k⟩
theorem Zy (k : q) (h : Ax q → p := by intro z; refine Kz ?_; refine Mf (nA nE) ?_; exact z.1) : p := h ⟨k⟩
theorem Xx (k : q) (h : Ax q → p := by intro z; refine Sn ?_; refine Ag 3 rfl ?_; exact z.1) : p := h ⟨k⟩
theorem Qc (k : q) (h : Ax q → p := by intro z; refine Ch ?_; refine Qa ?_; exact z.1) : p := h ⟨k⟩
theorem Qd (k : q) (h : Ax q → p := by intro z; refine Vj ?_; refine bV ?_; exact z.1) : p := h ⟨k⟩
theorem Sb (k : q) (h : Ax q → p := by intro z; refine Z2 ?_; refine Lo ?_; exact z.1) : p := h ⟨k⟩
theorem Sc (k : q) (h : Ax q → p := by intro z; refine Zw ?_; refine Jm ?_; exact z.1) : p := h ⟨k⟩
theorem vF (k : q) (h : Ax q → p := by intro z; refine Ah (Al Ph) (k := ?_); refine Ah (Ca isAgg49) (k := ?_); exact z.1) : p := h ⟨k⟩
theorem AG1 (k : q) (h : Ax q → p := by intro z; refine Z5 ?_; refine Ah (Cj (n := r.l.length) runUnderlying26 sizeOf52 x_1 (Ff.of_base Eo h_r_l).sl (Ed h_r_l.1 z3) (Aw h_r_l.1)) (k := ?_); exact z.1) : p := h ⟨k⟩
theorem Nm (k : q) (h : Ax q → p := by intro z; refine Xv ?_; refine Z2 ?_; exact z.1) : p := h ⟨k⟩
theorem vG (k : q) (h : Ax q → p := by intro z; refine Ah (Al Ri) (k := ?_); refine Iq ?_; exact z.1) : p := h ⟨k⟩
theorem vH (k : q) (h : Ax q → p := by intro z; refine Ah (Al Pg) (k := ?_); refine kF ?_; exact z.1) : p := h ⟨k⟩
theorem vI (k : q) (h : Ax q → p := by intro z; refine Ah (Al Vf) (k := ?_); refine kF ?_; exact z.1) : p := h ⟨k⟩
theorem AR9 (k : q) (h : Ax q → p := by intro z; refine pL ?_; refine Fu (Ai call68) (fun w1 hw1 => Ro w1 (s := s) (h_s_gens := (Bv.of_base h_s_gens) w1 hw1) (n_s_gens := z7) (h_s_used := (Bv.of_base h_s_used) w1 hw1) (n_s_used := z7) (h_s_free := (Bv.of_base h_s_free) w1 hw1) (n_s_free := z7)) (k := ?_); exact z.1) : p := h ⟨k⟩
theorem AS0 (k : q) (h : Ax q → p := by intro z; refine pL ?_; refine Hd (Ai call125) (fun w1 hw1 => yH w1 (s := s) (h_s_gens := (Bv.of_base h_s_gens) w1 hw1) (n_s_gens := z7) (h_s_used := (Bv.of_base h_s_used) w1 hw1) (n_s_used := z7) (h_s_free := (Bv.of_base h_s_free) w1 hw1) (n_s_free := z7)) (k := ?_); exact z.1) : p := h ⟨k⟩
theorem AS1 (k : q) (h : Ax q → p := by intro z; refine pL ?_; refine AV0 ?_; exact z.1) : p := h ⟨k⟩
theorem Pl (k : q) (h : Ax q → p := by intro z; refine Z0 ?_; refine Z2 ?_; exact z.1) : p := h ⟨k⟩
theorem Qe (k : q) (h : Ax q → p := by intro z; refine Z29 ?_; refine qD ?_; exact z.1) : p := h ⟨k⟩
theorem bW (k : q) (h : Ax q → p := by intro z; refine Ah qS (k := ?_); refine Z0 ?_; exact z.1) : p := h ⟨k⟩
theorem P5 (k : q) (h : Ax q → p := by intro z; refine vZ ?_; refine dI ?_; exact z.1) : p := h ⟨k⟩
theorem AS2 (k : q) (h : Ax q → p := by intro z; refine Ce _ ((((qa (qa (qa (qc (qa (qa q0)))))).trans (qa (qa (qa (qa (qc (qa q0))))))).trans (qa (qa (qa (qa (qa (qc q0))))))).trans (qb (qb (qb (qb (qb (qb q0))))))) ?_; refine AV3 ?_; exact z.1) : p := h ⟨k⟩
theorem zR (k : q) (h : Ax q → p := by intro z; refine Eg ?_; refine Bo _ (sk (sk (sd (sd (sk (sk (sa (sa (sk (sk sz)))))))))) ?_; exact z.1) : p := h ⟨k⟩
theorem bX (k : q) (h : Ax q → p := by intro z; refine Ah Ml (k := ?_); refine Z1 ?_; exact z.1) : p := h ⟨k⟩
theorem qE (k : q) (h : Ax q → p := by intro z; refine Z83 ?_; refine qR ?_; exact z.1) : p := h ⟨k⟩
theorem mM (k : q) (h : Ax q → p := by intro z; refine Rw ?_; refine D3 ?_; refine gZ ?_; exact z.1) : p := h ⟨k⟩
theorem Qf (k : q) (h : Ax q → p := by intro z; refine Xv ?_; refine O0 ?_; exact z.1) : p := h ⟨k⟩
theorem mN (k : q) (h : Ax q → p := by intro z; refine Be Nu (k := ?_); refine Gg ?_; exact z.1) : p := h ⟨k⟩
theorem mO (k : q) (h : Ax q → p := by intro z; refine Z2 ?_; refine Ah lR (k := ?_); exact z.1) : p := h ⟨k⟩
theorem mP (k : q) (h : Ax q → p := by intro z; refine Ah Ml (k := ?_); refine Cr ?_; exact z.1) : p := h ⟨k⟩
theorem mQ (k : q) (h : Ax q → p := by intro z; refine Gg ?_; refine Be Nt (k := ?_); exact z.1) : p := h ⟨k⟩
theorem AG2 (k : q) (h : Ax q → p := by intro z; refine cD ?_; refine kH ?_; exact z.1) : p := h ⟨k⟩
theorem fS (k : q) (h : Ax q → p := by intro z; refine Z87 ?_; refine Gg ?_; exact z.1) : p := h ⟨k⟩
theorem P6 (k : q) (h : Ax q → p := by intro z; refine Sr ?_; refine Bo _ (sd (sd (sk (sk (sd (sd (sk (sk (sk (sk (sk (sk (sa (sa (sk (sk sz)))))))))))))))) ?_; exact z.1) : p := h ⟨k⟩
theorem P7 (k : q) (h : Ax q → p := by intro z; refine fR ?_; refine Ah (Kq (m := 2) (n := 3) runUnderlying193 sizeOf156 isAgg156) (k := ?_); exact z.1) : p := h ⟨k⟩
theorem P8 (k : q) (h : Ax q → p := by intro z; refine fR ?_; refine Ah (Kq (m := 3) (n := 3) runUnderlying193 sizeOf156 isAgg156) (k := ?_); exact z.1) : p := h ⟨k⟩
theorem P9 (k : q) (h : Ax q → p := by intro z; refine fR ?_; refine Ah (Kq (m := 4) (n := 3) runUnderlying193 sizeOf156 isAgg156) (k := ?_); exact z.1) : p := h ⟨k⟩
theorem Q0 (k : q) (h : Ax q → p := by intro z; refine fR ?_; refine Ah (Kq (m := 5) (n := 3) runUnderlying193 sizeOf156 isAgg156) (k := ?_); exact z.1) : p := h ⟨k⟩
theorem Q1 (k : q) (h : Ax q → p := by intro z; refine fR ?_; refine Ah (Kq (m := 6) (n := 3) runUnderlying193 sizeOf156 isAgg156) (k := ?_); exact z.1) : p := h ⟨k⟩
theorem Q2 (k : q) (h : Ax q → p := by intro z; refine fR ?_; refine Ah (Kq (m := 7) (n := 3) runUnderlying193 sizeOf156 isAgg156) (k := ?_); exact z.1) : p := h ⟨k⟩
theorem Q3 (k : q) (h : Ax q → p := by intro z; refine fR ?_; refine Ah (Kq (m := 8) (n := 3) runUnderlying193 sizeOf156 isAgg156) (k := ?_); exact z.1) : p := h ⟨k⟩
theorem mS (k : q) (h : Ax q → p := by intro z; refine Vj ?_; refine Z5 ?_; exact z.1) : p := h ⟨k⟩
theorem Sd (k : q) (h : Ax q → p := by intro z; refine uS ?_; refine pY ?_; exact z.1) : p := h ⟨k⟩
theorem Qw (k : q) (h : Ax q → p := by intro z; refine pJ ?_; refine Z44 ?_; exact z.1) : p := h ⟨k⟩
theorem Se (k : q) (h : Ax q → p := by intro z; refine Z66 ?_; refine Qv ?_; refine qR ?_; refine Wx ?_; refine Lp ?_; refine fN ?_; exact z.1) : p := h ⟨k⟩
theorem Sf (k : q) (h : Ax q → p := by intro z; refine Z66 ?_; refine jR ?_; exact z.1) : p := h ⟨k⟩
theorem AG3 (k : q) (h : Ax q → p := by intro z; refine Fg Cy 8 [(true, 0), (true, 1), (true, 2), (true, 3), (true, 4), (true, 5), (true, 6), (true, 7)] z5 ?_; refine Gg ?_; exact z.1) : p := h ⟨k⟩
theorem Q4 (k : q) (h : Ax q → p := by intro z; refine AJ7 ?_; refine Z59 ?_; exact z.1) : p := h ⟨k⟩
theorem AG4 (k : q) (h : Ax q → p := by intro z; refine Ah (Al Ri) (k := ?_); refine AJ9 ?_; exact z.1) : p := h ⟨k⟩
theorem zS (k : q) (h : Ax q → p := by intro z; refine Bm (Al Ll) (k := ?_); refine Bm lR (k := ?_); exact z.1) : p := h ⟨k⟩
theorem zT (k : q) (h : Ax q → p := by intro z; refine Ay (Al Ll) (k := ?_); refine Ay lR (k := ?_); exact z.1) : p := h ⟨k⟩
theorem AG5 (k : q) (h : Ax q → p := by intro z; refine Fj ?_; refine Fg Cy 9 [(true, 0), (true, 1), (true, 2), (true, 3), (true, 4), (true, 5), (true, 6), (true, 7), (true, 8)] z5 ?_; exact z.1) : p := h ⟨k⟩
theorem Q5 (k : q) (h : Ax q → p := by intro z; refine Ay (Al Mx) (k := ?_); refine Ay (Ca isAgg50) (k := ?_); exact z.1) : p := h ⟨k⟩
theorem Q6 (k : q) (h : Ax q → p := by intro z; refine aF z5 _ ?_; refine U0 ?_; exact z.1) : p := h ⟨k⟩
theorem vJ (k : q) (h : Ax q → p := by intro z; refine Z9 ?_; refine Cd results140 z1 ?_; exact z.1) : p := h ⟨k⟩
theorem zU (k : q) (h : Ax q → p := by intro z; refine Cd results160 z1 ?_; refine Z9 ?_; exact z.1) : p := h ⟨k⟩
theorem Sg (k : q) (h : Ax q → p := by intro z; refine Z2 ?_; refine lY ?_; exact z.1) : p := h ⟨k⟩
theorem qF (k : q) (h : Ax q → p := by intro z; refine Hw ?_; refine Ay Nu (k := ?_); exact z.1) : p := h ⟨k⟩
theorem vK (k : q) (h : Ax q → p := by intro z; refine O8 ?_; refine Ay (Fv runUnderlying23) (k := ?_); exact z.1) : p := h ⟨k⟩
theorem vL (k : q) (h : Ax q → p := by intro z; refine Dn 9 rfl z5 Ey (k := ?_); refine zO ?_; exact z.1) : p := h ⟨k⟩
theorem bY (k : q) (h : Ax q → p := by intro z; refine Z0 ?_; refine Jm ?_; exact z.1) : p := h ⟨k⟩
theorem zV (k : q) (h : Ax q → p := by intro z; refine Ah (Al Pf) (k := ?_); refine Iq ?_; exact z.1) : p := h ⟨k⟩
theorem zW (k : q) (h : Ax q → p := by intro z; refine Ah (Al lG) (k := ?_); refine kF ?_; exact z.1) : p := h ⟨k⟩
theorem Ws (k : q) (h : Ax q → p := by intro z; refine Dn 12 rfl z5 z51 (k := ?_); refine Z59 ?_; refine Gz ?_; exact z.1) : p := h ⟨k⟩
theorem AG6 (k : q) (h : Ax q → p := by intro z; refine Ay z52 (k := ?_); refine Ay (nK (L9 _ _ _ _ _ _ _ _ _ _ _ _ _ _)) (k := ?_); exact z.1) : p := h ⟨k⟩
theorem jU (k : q) (h : Ax q → p := by intro z; refine Be Ir (k := ?_); refine pV ?_; exact z.1) : p := h ⟨k⟩
theorem Sw (k : q) (h : Ax q → p := by intro z; refine Cd results44 (Dd.agg isAgg28 sizeOf28 rfl me rfl (Dd.agg isAgg52 sizeOf52 rfl me rfl z1)) ?_; refine Cr ?_; refine uR ?_; exact z.1) : p := h ⟨k⟩
theorem Zz (k : q) (h : Ax q → p := by intro z; refine Hq ?_; refine Fj ?_; exact z.1) : p := h ⟨k⟩
theorem Q7 (k : q) (h : Ax q → p := by intro z; refine Ay (Ca isAgg26) (k := ?_); refine Ay (Fv runUnderlying26) (k := ?_); exact z.1) : p := h ⟨k⟩
theorem Xy (k : q) (h : Ax q → p := by intro z; refine Ch ?_; refine pW ?_; exact z.1) : p := h ⟨k⟩
theorem Wt (k : q) (h : Ax q → p := by intro z; refine O0 ?_; refine Z5 ?_; exact z.1) : p := h ⟨k⟩
theorem jV (k : q) (h : Ax q → p := by intro z; refine Z83 ?_; refine Cr ?_; exact z.1) : p := h ⟨k⟩
theorem vM (k : q) (h : Ax q → p := by intro z; refine AL3 (.inr rfl) results85 q0 ?_; refine tA ?_; exact z.1) : p := h ⟨k⟩
theorem AS3 (k : q) (h : Ax q → p := by intro z; refine Bm (Cj (n := (l.drop at_1).length) runUnderlying26 sizeOf52 0 (Bv.off Xt at_1 l_c Jz) (gD z3) Km) (k := ?_); refine Bm (Md Ix) (k := ?_); exact z.1) : p := h ⟨k⟩
theorem AS4 (k : q) (h : Ax q → p := by intro z; refine Bm (Cj (n := s.free.length) runUnderlying22 sizeOf3 i_8 Xu (gD z3) Km) (k := ?_); refine Bm (Cb isAgg3 i_8 0 Xu (gD z3)) (k := ?_); exact z.1) : p := h ⟨k⟩
theorem AS5 (k : q) (h : Ax q → p := by intro z; refine Ex _ _ (vp ((qc (qa q0)).trans (qa (qc (qa q0)))) (nC (nC nE))) Cy 9 [(true, 0), (true, 1), (true, 2), (true, 3), (true, 4), (true, 5), (false, 6), (false, 7), (true, 8)] z5 ?_; refine cD ?_; exact z.1) : p := h ⟨k⟩
theorem Wu (k : q) (h : Ax q → p := by intro z; refine Ah Hn (k := ?_); refine Z1 ?_; refine pK ?_; exact z.1) : p := h ⟨k⟩
theorem AS6 (k : q) (h : Ax q → p := by intro z; refine Ah (Cj (n := l.length) runUnderlying50 sizeOf62 x_1 Xt (gD z3) Km) (k := ?_); refine Ah (Du isAgg62 sizeOf62 x_1 Xt (gD z3)) (k := ?_); exact z.1) : p := h ⟨k⟩
theorem AG7 (k : q) (h : Ax q → p := by intro z; refine wC ?_; refine Ah (Eb (cs := [_, _, _, _]) zeroValue146 AM5) (k := ?_); exact z.1) : p := h ⟨k⟩
theorem fT (k : q) (h : Ax q → p := by intro z; refine Sn ?_; refine Ag 4 rfl ?_; exact z.1) : p := h ⟨k⟩
theorem fU (k : q) (h : Ax q → p := by intro z; refine lS ?_; refine Bn 3 rfl ?_; exact z.1) : p := h ⟨k⟩
theorem AS7 (k : q) (h : Ax q → p := by intro z; refine Ah (Cj (n := s.gens.length) runUnderlying22 sizeOf3 i_2 Sp (gD z3) Km) (k := ?_); refine Ah (Cb isAgg3 i_2 0 Sp (gD z3)) (k := ?_); exact z.1) : p := h ⟨k⟩
theorem AS8 (k : q) (h : Ax q → p := by intro z; refine Ah (Cj (n := s.used.length) runUnderlying23 sizeOf4 i_2 Sq (gD z3) Km) (k := ?_); refine Ah (Cb isAgg4 i_2 0 Sq (gD z3)) (k := ?_); exact z.1) : p := h ⟨k⟩
theorem AS9 (k : q) (h : Ax q → p := by intro z; refine Be (Cj (n := s.free.length) runUnderlying22 sizeOf3 i_8 Xu (gD z3) Km) (k := ?_); refine Be (Cb isAgg3 i_8 0 Xu (gD z3)) (k := ?_); exact z.1) : p := h ⟨k⟩
theorem AT0 (k : q) (h : Ax q → p := by intro z; refine Dn 4 rfl z5 (Dv (((Ac r).l).take at_27).length runUnderlying26 (fun w => ⟨_, sizeOf52 w⟩) (hm := z4) (hi := z4)) (k := ?_); refine Dn 6 rfl z5 (Ck isAgg52 sizeOf52) (k := ?_); exact z.1) : p := h ⟨k⟩
theorem zX (k : q) (h : Ax q → p := by intro z; refine Qy ?_; refine Ay Jf (k := ?_); exact z.1) : p := h ⟨k⟩
theorem Xz (k : q) (h : Ax q → p := by intro z; refine Ch ?_; refine Z49 ?_; exact z.1) : p := h ⟨k⟩
theorem Q8 (k : q) (h : Ax q → p := by intro z; refine Ej (args := [_]) (Ai call84) func84 ntmps84 ?_; refine Z2 ?_; exact z.1) : p := h ⟨k⟩
theorem AG8 (k : q) (h : Ax q → p := by intro z; refine Ah (Ck isAgg32 sizeOf32) (k := ?_); refine Ah (Eb (cs := [_, _]) zeroValue228 AM4) (k := ?_); exact z.1) : p := h ⟨k⟩
theorem dC (k : q) (h : Ax q → p := by intro z; refine Ha rfl ?_; refine Z5 ?_; exact z.1) : p := h ⟨k⟩
theorem zY (k : q) (h : Ax q → p := by intro z; refine Iq ?_; refine Wx ?_; exact z.1) : p := h ⟨k⟩
theorem vN (k : q) (h : Ax q → p := by intro z; refine Hw ?_; refine Ay Gy (k := ?_); exact z.1) : p := h ⟨k⟩
theorem Wv (k : q) (h : Ax q → p := by intro z; refine uQ ?_; refine Z53 ?_; exact z.1) : p := h ⟨k⟩
theorem Ww (k : q) (h : Ax q → p := by intro z; refine zG ?_; refine Sr ?_; exact z.1) : p := h ⟨k⟩
theorem mT (k : q) (h : Ax q → p := by intro z; refine Oo ?_; refine Sr ?_; exact z.1) : p := h ⟨k⟩
theorem AG9 (k : q) (h : Ax q → p := by intro z; refine He _ _ results147 z1 (vp (List.Perm.refl _) (nC nE)) Mc ?_; refine uS ?_; exact z.1) : p := h ⟨k⟩
theorem AH0 (k : q) (h : Ax q → p := by intro z; refine Zu ?_; refine AR8 ?_; refine N5 ?_; exact z.1) : p := h ⟨k⟩
theorem Ya (k : q) (h : Ax q → p := by intro z; refine pP ?_; refine Wp ?_; exact z.1) : p := h ⟨k⟩
theorem mU (k : q) (h : Ax q → p := by intro z; refine Mp ?_; refine Ah kK (k := ?_); exact z.1) : p := h ⟨k⟩
theorem AH1 (k : q) (h : Ax q → p := by intro z; refine Dn 1 rfl z5 (Al Iw) (k := ?_); refine Dn 2 rfl z5 (Ca isAgg26) (k := ?_); exact z.1) : p := h ⟨k⟩
theorem AH2 (k : q) (h : Ax q → p := by intro z; refine Ah (bB (u := Value.nilIface) (v := Value.nilIface) (b := false) (fun w => by kernel_rfl)) (k := ?_); refine Z0 ?_; exact z.1) : p := h ⟨k⟩
theorem AT1 (k : q) (h : Ax q → p := by intro z; refine mS ?_; refine Hd (Ai call127) (fun w1 hw1 => iX w1 (n_ := (((0 + ((((l.take at_1).length) : Nat) : Int)) + 1) + (((((l.drop at_1).drop 1).length) : Nat) : Int))) (hi := z7)) (k := ?_); exact z.1) : p := h ⟨k⟩
theorem fV (k : q) (h : Ax q → p := by intro z; refine Gz ?_; refine Gh ?_; exact z.1) : p := h ⟨k⟩
theorem zZ (k : q) (h : Ax q → p := by intro z; refine O2 ?_; refine qN ?_; exact z.1) : p := h ⟨k⟩
theorem A0 (k : q) (h : Ax q → p := by intro z; refine lV ?_; refine Ah (Fv runUnderlying23) (k := ?_); exact z.1) : p := h ⟨k⟩
theorem jW (k : q) (h : Ax q → p := by intro z; refine Pz ?_; refine Ag 3 rfl ?_; exact z.1) : p := h ⟨k⟩
theorem Q9 (k : q) (h : Ax q → p := by intro z; refine Be z69 (k := ?_); refine Ye (V' := ((r2, _) :: ((r3, _) :: []))) (Bw (l' := [_, _, _]) sizeOf25) (k := ?_); refine Ye (V' := ((r2, _) :: ((r3, _) :: []))) (Bw (l' := [_, _]) sizeOf42) (k := ?_); exact z.1) : p := h ⟨k⟩
theorem bZ (k : q) (h : Ax q → p := by intro z; refine lP ?_; refine Gz ?_; exact z.1) : p := h ⟨k⟩
theorem R0 (k : q) (h : Ax q → p := by intro z; refine Bm (Al Vb) (k := ?_); refine aA ?_; exact z.1) : p := h ⟨k⟩
theorem R1 (k : q) (h : Ax q → p := by intro z; refine Bm (Al Pf) (k := ?_); refine aA ?_; exact z.1) : p := h ⟨k⟩
theorem vO (k : q) (h : Ax q → p := by intro z; refine Bm (Al Jn) (k := ?_); refine O9 ?_; exact z.1) : p := h ⟨k⟩
theorem R2 (k : q) (h : Ax q → p := by intro z; refine Ay (Fv runUnderlying49) (k := ?_); refine Ay Kn (k := ?_); exact z.1) : p := h ⟨k⟩
theorem R3 (k : q) (h : Ax q → p := by intro z; refine Hw ?_; refine Ay (kR runUnderlying9) (k := ?_); exact z.1) : p := h ⟨k⟩
theorem R4 (k : q) (h : Ax q → p := by intro z; refine qP ?_; refine Pl ?_; exact z.1) : p := h ⟨k⟩
theorem A1 (k : q) (h : Ax q → p := by intro z; refine Z5 ?_; refine Ah (kR runUnderlying9) (k := ?_); exact z.1) : p := h ⟨k⟩
theorem AH3 (k : q) (h : Ax q → p := by intro z; refine Ah (Al Ph) (k := ?_); refine Gv (Bw (l' := [_, _, _, _, _, _, _, _]) sizeOf49) (k := ?_); exact z.1) : p := h ⟨k⟩
theorem R5 (k : q) (h : Ax q → p := by intro z; refine Ah (Al Pe) (k := ?_); refine Iq ?_; exact z.1) : p := h ⟨k⟩
theorem mV (k : q) (h : Ax q → p := by intro z; refine Z5 ?_; refine Ah Gy (k := ?_); exact z.1) : p := h ⟨k⟩
theorem vP (k : q) (h : Ax q → p := by intro z; refine Ah (Al Iw) (k := ?_); refine pX ?_; exact z.1) : p := h ⟨k⟩
theorem AH4 (k : q) (h : Ax q → p := by intro z; refine Ah (Al Ri) (k := ?_); refine Gv (Bw (l' := [_, _, _, _, _, _, _, _]) sizeOf3) (k := ?_); exact z.1) : p := h ⟨k⟩
theorem cA (k : q) (h : Ax q → p := by intro z; refine Lo ?_; refine Ah (Fv runUnderlying182) (k := ?_); refine mM ?_; refine O1 ?_; refine Ah (Hx runUnderlying182 sizeOf26 0) (k := ?_); exact z.1) : p := h ⟨k⟩
theorem AH5 (k : q) (h : Ax q → p := by intro z; refine Ah (Hx runUnderlying184 sizeOf138 2) (k := ?_); refine Ah (Ca isAgg138) (k := ?_); exact z.1) : p := h ⟨k⟩
theorem cB (k : q) (h : Ax q → p := by intro z; refine Z7 ?_; refine Qa ?_; exact z.1) : p := h ⟨k⟩
theorem AH6 (k : q) (h : Ax q → p := by intro z; refine pZ ?_; refine Ah (Eb (cs := [_, _, _, _, _, _, _, _, _, _, _, _]) zeroValue36 AD7) (k := ?_); exact z.1) : p := h ⟨k⟩
theorem AT2 (k : q) (h : Ax q → p := by intro z; refine Ah (Dx isAgg78 hgl3) (k := ?_); refine Fu (args := [(Value.iface 240 (.pointer (some ea0))), (Value.iface 240 (.pointer (some ea0)))]) (Ai call176) (fun w1 hw1 => aI w1) (k := ?_); exact z.1) : p := h ⟨k⟩
theorem AT3 (k : q) (h : Ax q → p := by intro z; refine AK6 rfl (Ai call42) (fun w1 hw1 => xX w1 (e_ := err_1) (hG.ext hw1.ext_out)) (k := ?_); refine Dn 10 rfl z5 z52 (k := ?_); exact z.1) : p := h ⟨k⟩
theorem AT4 (k : q) (h : Ax q → p := by intro z; refine Bo _ (sa (sk (sd (sk (sk (sk (sk (sk (sk (sk (sk (sk (sk (sk (sa (sa (sk (sk sz)))))))))))))))))) ?_; refine Cd results78 (Dd.agg isAgg52 sizeOf52 rfl me rfl z1) ?_; exact z.1) : p := h ⟨k⟩
theorem qG (k : q) (h : Ax q → p := by intro z; refine Cz ?_; refine Vx rfl ?_; exact z.1) : p := h ⟨k⟩
theorem R6 (k : q) (h : Ax q → p := by intro z; refine Ah (kR runUnderlying9) (k := ?_); refine Ah dU (k := ?_); exact z.1) : p := h ⟨k⟩
theorem dD (k : q) (h : Ax q → p := by intro z; refine Z44 ?_; refine Gz ?_; exact z.1) : p := h ⟨k⟩
theorem jX (k : q) (h : Ax q → p := by intro z; refine O4 ?_; refine Eg ?_; exact z.1) : p := h ⟨k⟩
theorem qH (k : q) (h : Ax q → p := by intro z; refine O2 ?_; refine Cr ?_; exact z.1) : p := h ⟨k⟩
theorem R7 (k : q) (h : Ax q → p := by intro z; refine uQ ?_; refine Z53 ?_; refine Yp [] (List.Perm.refl _) results91 z1 ?_; refine AH0 ?_; exact z.1) : p := h ⟨k⟩
theorem AH7 (k : q) (h : Ax q → p := by intro z; refine Oo ?_; refine gH ?_; exact z.1) : p := h ⟨k⟩
theorem R8 (k : q) (h : Ax q → p := by intro z; refine Be (Al cX) (k := ?_); refine Be (Al Lm) (k := ?_); exact z.1) : p := h ⟨k⟩
theorem qI (k : q) (h : Ax q → p := by intro z; refine Ay Ka (k := ?_); refine Pz ?_; exact z.1) : p := h ⟨k⟩
theorem AT5 (k : q) (h : Ax q → p := by intro z; refine AK6 rfl (Ai call42) (fun w1 hw1 => xW w1 (hG.ext hw1.ext_out)) (k := ?_); refine Dn 10 rfl z5 z52 (k := ?_); exact z.1) : p := h ⟨k⟩
theorem mW (k : q) (h : Ax q → p := by intro z; refine Fj ?_; refine Qv ?_; exact z.1) : p := h ⟨k⟩
theorem AH8 (k : q) (h : Ax q → p := by intro z; refine zP ?_; refine Ah (Eb (cs := [_, _, _, _, _, _, _, _, _]) zeroValue88 J3) (k := ?_); exact z.1) : p := h ⟨k⟩
theorem R9 (k : q) (h : Ax q → p := by intro z; refine Ex _ _ (vp ((qc (qa (qc (qa (qa (qc (qc (qc q0)))))))).trans (qa (qc (qa (qc (qa (qa (qc (qc (qc q0)))))))))) (nC (nC nE))) Cy 5 [(true, 0), (true, 1), (false, 2), (false, 3), (true, 4)] z5 ?_; refine cD ?_; refine kH ?_; exact z.1) : p := h ⟨k⟩
theorem cC (k : q) (h : Ax q → p := by intro z; refine mB ?_; refine Ce _ ((((((((((((((qa (qa (qa (qa (qa (qa (qa (qa (qa (qa (qc (qa (qa (qa q0)))))))))))))).trans (qa (qa (qa (qa (qa (qa (qa (qa (qa (qa (qa (qc (qa (qa q0))))))))))))))).trans (qa (qa (qa (qa (qa (qa (qa (qa (qa (qa (qa (qa (qc (qa q0))))))))))))))).trans (qa (qa (qa (qa (qa (qa (qa (qa (qa (qa (qa (qa (qa (qc q0))))))))))))))).trans (qb (qb (qb (qb (qb (qb (qb (qb (qb (qb (qb (qb (qb (qb q0))))))))))))))).trans (qc (qa (qa (qa (qa (qa (qa (qa (qa (qa (qa (qa (qa (qa q0))))))))))))))).trans (qa (qc (qa (qa (qa (qa (qa (qa (qa (qa (qa (qa (qa (qa q0))))))))))))))).trans (qa (qa (qc (qa (qa (qa (qa (qa (qa (qa (qa (qa (qa (qa q0))))))))))))))).trans (qa (qa (qa (qc (qa (qa (qa (qa (qa (qa (qa (qa (qa (qa q0))))))))))))))).trans (qa (qa (qa (qa (qc (qa (qa (qa (qa (qa (qa (qa (qa (qa q0))))))))))))))).trans (qa (qa (qa (qa (qa (qc (qa (qa (qa (qa (qa (qa (qa (qa q0))))))))))))))).trans (qa (qa (qa (qa (qa (qa (qc (qa (qa (qa (qa (qa (qa (qa q0))))))))))))))).trans (qa (qa (qa (qa (qa (qa (qa (qc (qa (qa (qa (qa (qa (qa q0))))))))))))))).trans (qa (qa (qa (qa (qa (qa (qa (qa (qc (qa (qa (qa (qa q0)))))))))))))) ?_; refine Bo _ (List.Sublist.cons_cons _ (List.Sublist.cons_cons _ (List.Sublist.cons_cons _ (List.Sublist.cons_cons _ (List.Sublist.cons_cons _ (List.Sublist.cons_cons _ (List.Sublist.cons_cons _ (List.Sublist.cons_cons _ (List.Sublist.cons_cons _ (List.Sublist.append Mc (List.Sublist.cons_cons _ (List.Sublist.cons_cons _ (List.Sublist.cons_cons _ (List.Sublist.cons_cons _ Gx)))))))))))))) ?_; exact z.1) : p := h ⟨k⟩
theorem AT6 (k : q) (h : Ax q → p := by intro z; refine Fu (Ai call106) (fun w1 hw1 => eT w1 (l := t.rules) (h_l := (Bv.of_base h_t_rules) w1 hw1) (n_l := z7)) (k := ?_); refine Cr ?_; exact z.1) : p := h ⟨k⟩
theorem AH9 (k : q) (h : Ax q → p := by intro z; refine cB ?_; refine Bo _ (sk (sk (sd (sd (sk (sk (sk (sk (sa (sk (sk (sk (sk sz))))))))))))) ?_; exact z.1) : p := h ⟨k⟩
theorem S0 (k : q) (h : Ax q → p := by intro z; refine Iq ?_; refine Cr ?_; exact z.1) : p := h ⟨k⟩
theorem AT7 (k : q) (h : Ax q → p := by intro z; refine Bm (Md Jo) (k := ?_); refine Bm (Cb isAgg3 0 0 (Bv.off Xt at_1 l_c Jz) (gD z3)) (k := ?_); exact z.1) : p := h ⟨k⟩
theorem AT8 (k : q) (h : Ax q → p := by intro z; refine Ex _ _ (vp (List.Perm.refl _) (nA nE)) Cy 9 [(true, 0), (true, 1), (true, 2), (true, 3), (true, 4), (true, 5), (true, 6), (true, 7), (false, 8)] z5 ?_; refine Zv ?_; exact z.1) : p := h ⟨k⟩
theorem AI0 (k : q) (h : Ax q → p := by intro z; refine Vy (V := []) Cy 10 z5 ?_; refine wA ?_; exact z.1) : p := h ⟨k⟩
theorem S1 (k : q) (h : Ax q → p := by intro z; refine qO ?_; refine Jl ?_; exact z.1) : p := h ⟨k⟩
theorem S2 (k : q) (h : Ax q → p := by intro z; refine Iq ?_; refine dH ?_; exact z.1) : p := h ⟨k⟩
theorem qJ (k : q) (h : Ax q → p := by intro z; refine Ah Gy (k := ?_); refine Z0 ?_; exact z.1) : p := h ⟨k⟩
theorem AT9 (k : q) (h : Ax q → p := by intro z; refine fS ?_; refine Be (Cj (n := r.l.length) runUnderlying26 sizeOf52 i_1 (Ff.of_base Eo h_r_l).sl (Ed h_r_l.1 z3) (Aw h_r_l.1)) (k := ?_); exact z.1) : p := h ⟨k⟩
theorem S3 (k : q) (h : Ax q → p := by intro z; refine Cd results84 z1 ?_; refine bY ?_; exact z.1) : p := h ⟨k⟩
theorem S4 (k : q) (h : Ax q → p := by intro z; refine Cd results94 z1 ?_; refine Kt ?_; exact z.1) : p := h ⟨k⟩
theorem AI1 (k : q) (h : Ax q → p := by intro z; refine Gv (Bw (l' := [_, _, _, _, _, _, _, _, _]) sizeOf88) (k := ?_); refine Gz ?_; exact z.1) : p := h ⟨k⟩
theorem AI2 (k : q) (h : Ax q → p := by intro z; refine Ej (args := [_, _, _]) (Ai call86) func86 ntmps86 ?_; refine Sb ?_; exact z.1) : p := h ⟨k⟩
theorem AU0 (k : q) (h : Ax q → p := by intro z; refine Ex _ _ (vp ((qc (qa (qa q0))).trans (qa (qc (qa (qa q0))))) (nC (nC nE))) Cy 5 [(true, 0), (true, 1), (false, 2), (false, 3), (true, 4)] z5 ?_; refine AG2 ?_; exact z.1) : p := h ⟨k⟩
theorem qK (k : q) (h : Ax q → p := by intro z; refine Yb ?_; refine Hq ?_; exact z.1) : p := h ⟨k⟩
theorem S5 (k : q) (h : Ax q → p := by intro z; refine Cd results165 z1 ?_; refine Z9 ?_; exact z.1) : p := h ⟨k⟩
theorem AU1 (k : q) (h : Ax q → p := by intro z; refine Q5 ?_; refine Ku (Ai call107) (fun w1 hw1 => eV w1 (l := t.creds) (h_l := (Bv.of_base h_t_creds) w1 hw1) (n_l := z7)) (k := ?_); exact z.1) : p := h ⟨k⟩
theorem AI3 (k : q) (h : Ax q → p := by intro z; refine Ah (Al Ix) (k := ?_); refine mZ ?_; exact z.1) : p := h ⟨k⟩
theorem AI4 (k : q) (h : Ax q → p := by intro z; refine zQ ?_; refine Be z52 (k := ?_); exact z.1) : p := h ⟨k⟩
theorem AU2 (k : q) (h : Ax q → p := by intro z; refine zU ?_; refine He _ _ results146 z1 (vp (List.Perm.refl _) (nC nE)) (List.Sublist.trans Mc (List.sublist_append_right _ _)) ?_; exact z.1) : p := h ⟨k⟩
theorem AU3 (k : q) (h : Ax q → p := by intro z; refine Un ?_; refine Ex _ _ (vp (List.Perm.refl _) (nA nE)) Cy 8 [(true, 0), (true, 1), (true, 2), (true, 3), (true, 4), (true, 5), (false, 6), (true, 7)] z5 ?_; exact z.1) : p := h ⟨k⟩
theorem S6 (k : q) (h : Ax q → p := by intro z; refine Cd results86 z1 ?_; refine Z9 ?_; exact z.1) : p := h ⟨k⟩
theorem vQ (k : q) (h : Ax q → p := by intro z; refine aC ?_; refine P1 ?_; exact z.1) : p := h ⟨k⟩
theorem dE (k : q) (h : Ax q → p := by intro z; refine Z2 ?_; refine pW ?_; exact z.1) : p := h ⟨k⟩
theorem vR (k : q) (h : Ax q → p := by intro z; refine Dn 13 rfl z5 Ey (k := ?_); refine aF z5 _ ?_; refine Mf (nA (nA nE)) ?_; exact z.1) : p := h ⟨k⟩
theorem AI5 (k : q) (h : Ax q → p := by intro z; refine uR ?_; refine zG ?_; exact z.1) : p := h ⟨k⟩
theorem dF (k : q) (h : Ax q → p := by intro z; refine mS ?_; refine Z9 ?_; exact z.1) : p := h ⟨k⟩
theorem AU4 (k : q) (h : Ax q → p := by intro z; refine Fj ?_; refine Fg Cy 11 [(true, 0), (true, 1), (true, 2), (true, 3), (true, 4), (true, 5), (true, 6), (true, 7), (true, 8), (true, 9), (true, 10)] z5 ?_; exact z.1) : p := h ⟨k⟩
theorem AI6 (k : q) (h : Ax q → p := by intro z; refine Ej (args := [_]) (Ai call160) func160 ntmps160 ?_; refine Sb ?_; exact z.1) : p := h ⟨k⟩
theorem AI7 (k : q) (h : Ax q → p := by intro z; refine Rb (args := [_]) (Ai call147) func147 ntmps147 ?_; refine Ry ?_; exact z.1) : p := h ⟨k⟩
theorem mX (k : q) (h : Ax q → p := by intro z; refine U4 ?_; refine Hq ?_; exact z.1) : p := h ⟨k⟩
theorem S7 (k : q) (h : Ax q → p := by intro z; refine Lo ?_; refine qQ ?_; exact z.1) : p := h ⟨k⟩
theorem S8 (k : q) (h : Ax q → p := by intro z; refine mW ?_; refine qQ ?_; exact z.1) : p := h ⟨k⟩
theorem qL (k : q) (h : Ax q → p := by intro z; refine Pz ?_; refine Ag 2 rfl ?_; exact z.1) : p := h ⟨k⟩
theorem AI8 (k : q) (h : Ax q → p := by intro z; refine Wr ?_; refine V5 (args := [_]) (Ai call91) func91 ntmps91 ?_; exact z.1) : p := h ⟨k⟩
theorem vS (k : q) (h : Ax q → p := by intro z; refine dJ ?_; refine Fs ?_; exact z.1) : p := h ⟨k⟩
theorem vT (k : q) (h : Ax q → p := by intro z; refine Ah Ir (k := ?_); refine Sr ?_; exact z.1) : p := h ⟨k⟩
theorem vU (k : q) (h : Ax q → p := by intro z; refine Ah Hn (k := ?_); refine Sr ?_; exact z.1) : p := h ⟨k⟩
theorem vV (k : q) (h : Ax q → p := by intro z; refine Be (Wb (l.take at_1).length at_1 runUnderlying26 (fun w => ⟨_, sizeOf52 w⟩) (hi := z4) (hi2 := z4)) (k := ?_); refine kH ?_; refine Gg ?_; exact z.1) : p := h ⟨k⟩
theorem AI9 (k : q) (h : Ax q → p := by intro z; refine gH ?_; refine Jl ?_; exact z.1) : p := h ⟨k⟩
theorem AJ0 (k : q) (h : Ax q → p := by intro z; refine sZ ?_; refine Ej (args := [_]) (Ai call49) func49 ntmps49 ?_; exact z.1) : p := h ⟨k⟩
theorem AJ1 (k : q) (h : Ax q → p := by intro z; refine gH ?_; refine Z9 ?_; exact z.1) : p := h ⟨k⟩
theorem fW (k : q) (h : Ax q → p := by intro z; refine sZ ?_; refine AQ9 ?_; exact z.1) : p := h ⟨k⟩
theorem fX (k : q) (h : Ax q → p := by intro z; refine bU ?_; refine Ce _ (((((((qa (qa (qa (qa (qc (qa (qa (qa q0)))))))).trans (qa (qa (qa (qa (qa (qc (qa (qa q0))))))))).trans (qa (qa (qa (qa (qa (qa (qc (qa q0))))))))).trans (qa (qa (qa (qa (qa (qa (qa (qc q0))))))))).trans (qb (qb (qb (qb (qb (qb (qb (qb q0))))))))).trans (qc (qa (qa (qa (qa (qa q0))))))).trans (qa (qc (qa (qa (qa (qa q0))))))) ?_; refine Bo _ (List.Sublist.cons_cons _ (List.Sublist.cons_cons _ (List.Sublist.append Mc (List.Sublist.cons_cons _ (List.Sublist.cons_cons _ (List.Sublist.cons_cons _ (List.Sublist.cons_cons _ Gx))))))) ?_; exact z.1) : p := h ⟨k⟩
theorem mY (k : q) (h : Ax q → p := by intro z; refine V2 ?_; refine Fj ?_; exact z.1) : p := h ⟨k⟩
theorem vW (k : q) (h : Ax q → p := by intro z; refine Z86 ?_; refine Cr ?_; exact z.1) : p := h ⟨k⟩
theorem AU5 (k : q) (h : Ax q → p := by intro z; refine Wt ?_; refine Fu (Ai call93) (fun w1 hw1 => bJ w1 (l := l) (h_l := (Bv.of_base h_l) w1 hw1) (n_l := z7)) (k := ?_); exact z.1) : p := h ⟨k⟩
theorem vX (k : q) (h : Ax q → p := by intro z; refine Ah Ir (k := ?_); refine Z1 ?_; exact z.1) : p := h ⟨k⟩
theorem AU6 (k : q) (h : Ax q → p := by intro z; refine Wt ?_; refine Fu (Ai call106) (fun w1 hw1 => eT w1 (l := l) (h_l := (Bv.of_base h_l) w1 hw1) (n_l := z7)) (k := ?_); exact z.1) : p := h ⟨k⟩
theorem dG (k : q) (h : Ax q → p := by intro z; refine Z7 ?_; refine Sr ?_; exact z.1) : p := h ⟨k⟩
theorem AU7 (k : q) (h : Ax q → p := by intro z; refine Qv ?_; refine Ah (Cj (n := l.length) runUnderlying50 sizeOf62 i_3 Xt (gD z3) Km) (k := ?_); exact z.1) : p := h ⟨k⟩
theorem A2 (k : q) (h : Ax q → p := by intro z; refine Hi ?_; refine Vx rfl ?_; exact z.1) : p := h ⟨k⟩
theorem fY (k : q) (h : Ax q → p := by intro z; refine uT ?_; refine zH ?_; exact z.1) : p := h ⟨k⟩
theorem fZ (k : q) (h : Ax q → p := by intro z; refine pP ?_; refine Z92 ?_; exact z.1) : p := h ⟨k⟩
theorem gA (k : q) (h : Ax q → p := by intro z; refine Xv ?_; refine Z63 ?_; exact z.1) : p := h ⟨k⟩
theorem gB (k : q) (h : Ax q → p := by intro z; refine Ah z51 (k := ?_); refine Ah z69 (k := ?_); refine Z90 ?_; refine Qa ?_; exact z.1) : p := h ⟨k⟩
theorem S9 (k : q) (h : Ax q → p := by intro z; refine Sa ?_; refine Mg (.inr rfl) results138 q0 ?_; exact z.1) : p := h ⟨k⟩
theorem gC (k : q) (h : Ax q → p := by intro z; refine bU ?_; refine Ce _ ((((((((((((qa (qa (qa (qa (qa (qa (qa (qa (qa (qa (qc (qc (qa q0))))))))))))).trans (qa (qa (qa (qa (qa (qa (qa (qa (qa (qa (qa (qc (qc q0)))))))))))))).trans (qb (qb (qb (qb (qb (qb (qb (qb (qb (qb (qb (qb (qd q0)))))))))))))).trans (qd (qb (qb (qb (qb (qb (qb (qb (qb (qb (qb (qb (qb q0)))))))))))))).trans (qc (qc (qa (qa (qa (qa (qa (qa (qa (qa (qa (qa (qa q0)))))))))))))).trans (qa (qc (qc (qa (qa (qa (qa (qa (qa (qa (qa (qa (qa q0)))))))))))))).trans (qa (qa (qc (qc (qa (qa (qa (qa (qa (qa (qa (qa (qa q0)))))))))))))).trans (qa (qa (qa (qc (qc (qa (qa (qa (qa (qa (qa (qa (qa q0)))))))))))))).trans (qa (qa (qa (qa (qc (qc (qa (qa (qa (qa (qa (qa (qa q0)))))))))))))).trans (qa (qa (qa (qa (qa (qc (qc (qa (qa (qa (qa (qa (qa q0)))))))))))))).trans (qa (qa (qa (qa (qa (qa (qc (qc (qa (qa (qa q0)))))))))))).trans (qa (qa (qa (qa (qa (qa (qa (qc (qc (qa (qa q0)))))))))))) ?_; refine Bo _ z13 ?_; exact z.1) : p := h ⟨k⟩
theorem jY (k : q) (h : Ax q → p := by intro z; refine Rz ?_; refine R7 ?_; exact z.1) : p := h ⟨k⟩
theorem jZ (k : q) (h : Ax q → p := by intro z; refine Cd results141 (Dd.tmp rfl (Dd.tmp rfl z1)) ?_; refine Cr ?_; refine AI5 ?_; refine Wr ?_; refine Cr ?_; refine Ej (args := [_]) (Ai call142) func142 ntmps142 ?_; refine Ry ?_; exact z.1) : p := h ⟨k⟩
theorem kA (k : q) (h : Ax q → p := by intro z; refine uY ?_; refine AR8 ?_; exact z.1) : p := h ⟨k⟩
theorem T2 (k : q) (h : Ax q → p := by intro z; refine Xw ?_; refine Ay (Ca isAgg129) (k := ?_); exact z.1) : p := h ⟨k⟩
theorem AU8 (k : q) (h : Ax q → p := by intro z; refine Ah (Al Kr) (k := ?_); refine AJ9 ?_; exact z.1) : p := h ⟨k⟩
theorem AJ2 (k : q) (h : Ax q → p := by intro z; refine Bm (Al Rh) (k := ?_); refine Bm (Ca isAgg23) (k := ?_); exact z.1) : p := h ⟨k⟩
theorem AJ3 (k : q) (h : Ax q → p := by intro z; refine Cd results151 z1 ?_; refine Ah Kn (k := ?_); exact z.1) : p := h ⟨k⟩
theorem AJ4 (k : q) (h : Ax q → p := by intro z; refine Ay (Al Ph) (k := ?_); refine Ay (Ca isAgg49) (k := ?_); exact z.1) : p := h ⟨k⟩
theorem AJ5 (k : q) (h : Ax q → p := by intro z; refine Bm (Al Iw) (k := ?_); refine Bm (Ca isAgg26) (k := ?_); exact z.1) : p := h ⟨k⟩
theorem AJ6 (k : q) (h : Ax q → p := by intro z; refine Lb ((Al cX).k) (k := ?_); refine Lb ((Al Lm).k) (k := ?_); exact z.1) : p := h ⟨k⟩
theorem AU9 (k : q) (h : Ax q → p := by intro z; refine Bm (Ca isAgg9) (k := ?_); refine tB (Ai call137) (fun w1 hw1 => eU w1 (key := ((l.getD i_1 default).key))) (k := ?_); exact z.1) : p := h ⟨k⟩
theorem gE (k : q) (h : Ax q → p := by intro z; refine Z2 ?_; refine Un ?_; exact z.1) : p := h ⟨k⟩
theorem T3 (k : q) (h : Ax q → p := by intro z; refine Ah (Ca isAgg129) (k := ?_); refine jO ?_; exact z.1) : p := h ⟨k⟩
theorem kB (k : q) (h : Ax q → p := by intro z; refine uY ?_; refine pK ?_; exact z.1) : p := h ⟨k⟩
theorem kC (k : q) (h : Ax q → p := by intro z; refine Om ?_; refine jO ?_; exact z.1) : p := h ⟨k⟩
theorem T4 (k : q) (h : Ax q → p := by intro z; refine Hw ?_; refine Ay Jf (k := ?_); exact z.1) : p := h ⟨k⟩
theorem gF (k : q) (h : Ax q → p := by intro z; refine Un ?_; refine Z2 ?_; exact z.1) : p := h ⟨k⟩
theorem qM (k : q) (h : Ax q → p := by intro z; refine Zu ?_; refine Nn rfl ?_; exact z.1) : p := h ⟨k⟩
theorem kD (k : q) (h : Ax q → p := by intro z; refine Jl ?_; refine Z5 ?_; refine Ah (nU underlying219) (k := ?_); exact z.1) : p := h ⟨k⟩
theorem gG (k : q) (h : Ax q → p := by intro z; refine Z0 ?_; refine pK ?_; exact z.1) : p := h ⟨k⟩
theorem kE (k : q) (h : Ax q → p := by intro z; refine Bo _ (sd (sd (sk (sk (sd (sd (sa (sk (sk (sk (sk sz))))))))))) ?_; refine Z50 ?_; refine uR ?_; exact z.1) : p := h ⟨k⟩
theorem Cr (k : q) (h : Ax q → p := by intro z; refine Ah Hm (k := ?_); exact z.1) : p := h ⟨k⟩
theorem Gg (k : q) (h : Ax q → p := by intro z; refine Be Hm (k := ?_); exact z.1) : p := h ⟨k⟩
theorem qN (k : q) (h : Ax q → p := by intro z; refine Ah N8 (k := ?_); exact z.1) : p := h ⟨k⟩
theorem Hq (k : q) (h : Ax q → p := by intro z; refine AK0 ?_; exact z.1) : p := h ⟨k⟩
theorem Oo (k : q) (h : Ax q → p := by intro z; refine Ah Ey (k := ?_); exact z.1) : p := h ⟨k⟩
theorem Hw (k : q) (h : Ax q → p := by intro z; refine Ay Hm (k := ?_); exact z.1) : p := h ⟨k⟩
theorem A3 (k : q) (h : Ax q → p := by intro z; refine Ay z69 (k := ?_); exact z.1) : p := h ⟨k⟩
theorem Ch (k : q) (h : Ax q → p := by intro z; refine nH ?_; exact z.1) : p := h ⟨k⟩
theorem qO (k : q) (h : Ax q → p := by intro z; refine Gv (Bw (l' := [_]) sizeOf3) (k := ?_); exact z.1) : p := h ⟨k⟩
theorem Gz (k : q) (h : Ax q → p := by intro z; refine AK2 ?_; exact z.1) : p := h ⟨k⟩
theorem mZ (k : q) (h : Ax q → p := by intro z; refine Ah (Ck isAgg42 sizeOf42) (k := ?_); exact z.1) : p := h ⟨k⟩
theorem T5 (k : q) (h : Ax q → p := by intro z; refine E4 rfl (Ai call72) (fun w1 hw1 => eR w1 (s := s.used) (h_s := (Bv.of_base h_s_used) w1 hw1) (n_s := z7)) (k := ?_); exact z.1) : p := h ⟨k⟩
theorem vY (k : q) (h : Ax q → p := by intro z; refine E4 rfl (Ai call71) (fun w1 hw1 => Xk w1 (s := s.free) (h_s := (Bv.of_base h_s_free) w1 hw1) (n_s := z7)) (k := ?_); exact z.1) : p := h ⟨k⟩
theorem dH (k : q) (h : Ax q → p := by intro z; refine Ah A8 (k := ?_); exact z.1) : p := h ⟨k⟩
theorem Fj (k : q) (h : Ax q → p := by intro z; refine Bp ?_; exact z.1) : p := h ⟨k⟩
theorem A4 (k : q) (h : Ax q → p := by intro z; refine Be (Ck isAgg25 sizeOf25) (k := ?_); exact z.1) : p := h ⟨k⟩
theorem vZ (k : q) (h : Ax q → p := by intro z; refine Ah (Ck isAgg25 sizeOf25) (k := ?_); exact z.1) : p := h ⟨k⟩
theorem AV0 (k : q) (h : Ax q → p := by intro z; refine Fu (Ai call52) (fun w1 hw1 => iP w1 (s := s) (h_s_gens := (Bv.of_base h_s_gens) w1 hw1) (n_s_gens := z7) (h_s_used := (Bv.of_base h_s_used) w1 hw1) (n_s_used := z7) (h_s_free := (Bv.of_base h_s_free) w1 hw1) (n_s_free := z7)) (k := ?_); exact z.1) : p := h ⟨k⟩
theorem Qx (k : q) (h : Ax q → p := by intro z; refine Be zE (k := ?_); exact z.1) : p := h ⟨k⟩
theorem T6 (k : q) (h : Ax q → p := by intro z; refine Gv (Bw (l' := [_, _, _]) sizeOf22) (k := ?_); exact z.1) : p := h ⟨k⟩
theorem wA (k : q) (h : Ax q → p := by intro z; refine Dn 0 rfl z5 Hm (k := ?_); exact z.1) : p := h ⟨k⟩
theorem AJ7 (k : q) (h : Ax q → p := by intro z; refine Dn 4 rfl z5 z51 (k := ?_); exact z.1) : p := h ⟨k⟩
theorem dI (k : q) (h : Ax q → p := by intro z; refine Gv (Bw (l' := [_, _, _]) sizeOf25) (k := ?_); exact z.1) : p := h ⟨k⟩
theorem wB (k : q) (h : Ax q → p := by intro z; refine Bo _ (List.Sublist.append Mc (List.Sublist.append Mc (List.Sublist.append Mc (List.Sublist.cons_cons _ (List.Sublist.cons_cons _ Gx))))) ?_; exact z.1) : p := h ⟨k⟩
theorem aA (k : q) (h : Ax q → p := by intro z; refine Bm zE (k := ?_); exact z.1) : p := h ⟨k⟩
theorem Iq (k : q) (h : Ax q → p := by intro z; refine Ah zE (k := ?_); exact z.1) : p := h ⟨k⟩
theorem Qy (k : q) (h : Ax q → p := by intro z; refine Ay zE (k := ?_); exact z.1) : p := h ⟨k⟩
theorem aB (k : q) (h : Ax q → p := by intro z; refine Ah (Fv runUnderlying49) (k := ?_); exact z.1) : p := h ⟨k⟩
theorem Wx (k : q) (h : Ax q → p := by intro z; refine Ah Yf (k := ?_); exact z.1) : p := h ⟨k⟩
theorem AV1 (k : q) (h : Ax q → p := by intro z; refine E4 rfl (Ai call82) (fun w1 hw1 => Xl w1 (s := l) (h_s := (Bv.of_base h_l) w1 hw1) (n_s := z7)) (k := ?_); exact z.1) : p := h ⟨k⟩
theorem AV2 (k : q) (h : Ax q → p := by intro z; refine BB1 rfl (Ai call172) (fun w1 hw1 => oH w1 (s := l) (i := at_) (x := r) (o_s := od) (b_s := fun p hp => hw1.own p (by first | exact hp | (simp [hp]; done))) (n_s := z7) (h_v := (Bv.lit (xs := ([r] : List Bf)) Bu) w1 hw1.right) (d_v := (hw1.notIn (List.Perm.trans (List.Perm.of_eq (by simp only [List.append_assoc, List.cons_append, List.nil_append])) (show List.Perm (ii ++ ((fv, oc [(Value.bool r.allow), (vi r.pfx.addr), (vi r.pfx.bits), (vi r.prt.lo), (vi r.prt.hi)] 34) :: ((r1, oc [(Value.bool r.allow), (vi r.pfx.addr), (vi r.pfx.bits), (vi r.prt.lo), (vi r.prt.hi)] 34) :: []))) ((fv, oc [(Value.bool r.allow), (vi r.pfx.addr), (vi r.pfx.bits), (vi r.prt.lo), (vi r.prt.hi)] 34) :: (ii ++ ((r1, oc [(Value.bool r.allow), (vi r.pfx.addr), (vi r.pfx.bits), (vi r.prt.lo), (vi r.prt.hi)] 34) :: []))) from (q0.trans (qc q0)))))) (e_v := ⟨fv, _, _, rfl, hw1.own (fv, oc [(Value.bool r.allow), (vi r.pfx.addr), (vi r.pfx.bits), (vi r.prt.lo), (vi r.prt.hi)] 34) Gu, fun hk => (hw1.notIn (List.Perm.trans (List.Perm.of_eq (by simp only [List.append_assoc, List.cons_append, List.nil_append])) (show List.Perm (ii ++ ((fv, oc [(Value.bool r.allow), (vi r.pfx.addr), (vi r.pfx.bits), (vi r.prt.lo), (vi r.prt.hi)] 34) :: ((r1, oc [(Value.bool r.allow), (vi r.pfx.addr), (vi r.pfx.bits), (vi r.prt.lo), (vi r.prt.hi)] 34) :: []))) ((fv, oc [(Value.bool r.allow), (vi r.pfx.addr), (vi r.pfx.bits), (vi r.prt.lo), (vi r.prt.hi)] 34) :: (ii ++ ((r1, oc [(Value.bool r.allow), (vi r.pfx.addr), (vi r.pfx.bits), (vi r.prt.lo), (vi r.prt.hi)] 34) :: []))) from (q0.trans (qc q0))))) fv hk ⟨fv, 0, none⟩ rfl (List.cons_ne_nil (0 : Nat) []) rfl⟩) (hi := z7)) (k := ?_); exact z.1) : p := h ⟨k⟩
theorem kF (k : q) (h : Ax q → p := by intro z; refine Ah (Ca isAgg9) (k := ?_); exact z.1) : p := h ⟨k⟩
theorem qP (k : q) (h : Ax q → p := by intro z; refine Gv (Bw (l' := [_, _, _, _]) sizeOf62) (k := ?_); exact z.1) : p := h ⟨k⟩
theorem qQ (k : q) (h : Ax q → p := by intro z; refine Ah (Fv runUnderlying50) (k := ?_); exact z.1) : p := h ⟨k⟩
theorem wC (k : q) (h : Ax q → p := by intro z; refine Ah (Ck isAgg62 sizeOf62) (k := ?_); exact z.1) : p := h ⟨k⟩
theorem AV3 (k : q) (h : Ax q → p := by intro z; refine Bo _ (List.Sublist.append Mc (List.Sublist.cons_cons _ (List.Sublist.cons_cons _ (List.Sublist.cons_cons _ Gx)))) ?_; exact z.1) : p := h ⟨k⟩
theorem AV4 (k : q) (h : Ax q → p := by intro z; refine Ah (Ek (n := l.length) (c := l_c) (i := at_) at_.toNat (l.drop at_.toNat).length runUnderlying49 sizeOf34 (hlo := z3) (hnc := Jz) (hm := z6)) (k := ?_); exact z.1) : p := h ⟨k⟩
theorem aC (k : q) (h : Ax q → p := by intro z; refine Bm Hm (k := ?_); exact z.1) : p := h ⟨k⟩
theorem nB (k : q) (h : Ax q → p := by intro z; refine Ah (Al Lm) (k := ?_); exact z.1) : p := h ⟨k⟩
theorem nD (k : q) (h : Ax q → p := by intro z; refine Ay (Al Lm) (k := ?_); exact z.1) : p := h ⟨k⟩
theorem AJ8 (k : q) (h : Ax q → p := by intro z; refine Ah (Du isAgg52 sizeOf52 x_1 (Ff.of_base Eo h_r_l).sl (Ed h_r_l.1 z3)) (k := ?_); exact z.1) : p := h ⟨k⟩
theorem nF (k : q) (h : Ax q → p := by intro z; refine Ah (Ck isAgg52 sizeOf52) (k := ?_); exact z.1) : p := h ⟨k⟩
theorem gH (k : q) (h : Ax q → p := by intro z; refine Gv z64 (k := ?_); exact z.1) : p := h ⟨k⟩
theorem T7 (k : q) (h : Ax q → p := by intro z; refine Ah (Eb (cs := [_, _, _, _, _, _, _, _]) zeroValue52 AY4) (k := ?_); exact z.1) : p := h ⟨k⟩
theorem kG (k : q) (h : Ax q → p := by intro z; refine Gv z57 (k := ?_); exact z.1) : p := h ⟨k⟩
theorem qR (k : q) (h : Ax q → p := by intro z; refine Ah (Fv runUnderlying26) (k := ?_); exact z.1) : p := h ⟨k⟩
theorem AV5 (k : q) (h : Ax q → p := by intro z; refine Ah (Cj (n := s.gens.length) runUnderlying22 sizeOf3 ((s.free.getD ((((s.free.length : Nat) : Int) - 1).toNat) default).toNat) (t9.slj Bb) (gD z3) Km) (k := ?_); exact z.1) : p := h ⟨k⟩
theorem T8 (k : q) (h : Ax q → p := by intro z; refine Gv (Bw (l' := [_, _, _, _, _]) sizeOf26) (k := ?_); exact z.1) : p := h ⟨k⟩
theorem A5 (k : q) (h : Ax q → p := by intro z; refine cY (P := abd r c now) (bad _ Gn) ?_; exact z.1) : p := h ⟨k⟩
theorem cD (k : q) (h : Ax q → p := by intro z; refine Be z66 (k := ?_); exact z.1) : p := h ⟨k⟩
theorem kH (k : q) (h : Ax q → p := by intro z; refine Be (Ck isAgg52 sizeOf52) (k := ?_); exact z.1) : p := h ⟨k⟩
theorem AV6 (k : q) (h : Ax q → p := by intro z; refine Bo _ (List.Sublist.append Mc (List.Sublist.append Mc (List.Sublist.append Mc (List.Sublist.cons_cons _ (List.Sublist.cons_cons _ (List.Sublist.append Mc (List.Sublist.cons_cons _ (List.Sublist.cons_cons _ (List.Sublist.cons_cons _ (List.Sublist.cons_cons _ Gx)))))))))) ?_; exact z.1) : p := h ⟨k⟩
theorem AV7 (k : q) (h : Ax q → p := by intro z; refine Fg Cy 14 [(true, 0), (true, 1), (true, 2), (true, 3), (true, 4), (true, 5), (true, 6), (true, 7), (true, 8), (true, 9), (true, 10), (true, 11), (true, 12), (true, 13)] z5 ?_; exact z.1) : p := h ⟨k⟩
theorem T9 (k : q) (h : Ax q → p := by intro z; refine Ah z52 (k := ?_); exact z.1) : p := h ⟨k⟩
theorem U0 (k : q) (h : Ax q → p := by intro z; refine Gv (Bw (l' := [_, _, _, _, _, _]) sizeOf44) (k := ?_); exact z.1) : p := h ⟨k⟩
theorem A6 (k : q) (h : Ax q → p := by intro z; refine Ay (Ck isAgg44 sizeOf44) (k := ?_); exact z.1) : p := h ⟨k⟩
theorem U1 (k : q) (h : Ax q → p := by intro z; refine Ah (Ek (n := (Ac r).l.length) (c := d6) (i := ((at_27 : Nat) : Int)) at_27 (((Ac r).l).drop at_27).length runUnderlying26 sizeOf52 (hlo := z3) (hnc := Jz) (hm := z6)) (k := ?_); exact z.1) : p := h ⟨k⟩
theorem AV8 (k : q) (h : Ax q → p := by intro z; refine Bo _ (List.Sublist.append Mc (List.Sublist.append Mc (List.Sublist.append Mc (List.Sublist.append Mc (List.Sublist.append Mc z13))))) ?_; exact z.1) : p := h ⟨k⟩
theorem AV9 (k : q) (h : Ax q → p := by intro z; refine Ah (Ek (n := (Ac r).l.length) (c := d6) (i := ((Cw r c) + 1)) (((Cw r c) + 1).toNat) (jM r c).length runUnderlying26 sizeOf52 (hlo := z3) (hnc := Jz) (hm := z6)) (k := ?_); exact z.1) : p := h ⟨k⟩
theorem AW0 (k : q) (h : Ax q → p := by intro z; refine Ah (Cj (n := s.gens.length) runUnderlying22 sizeOf3 ((s.free.getD ((((s.free.length : Nat) : Int) - 1).toNat) default).toNat) (o7.slj Bb) (gD z3) Km) (k := ?_); exact z.1) : p := h ⟨k⟩
theorem AJ9 (k : q) (h : Ax q → p := by intro z; refine Gv (Bw (l' := [_, _, _, _, _, _, _, _, _, _, _, _, _, _, _, _, _, _, _, _, _, _]) sizeOf3) (k := ?_); exact z.1) : p := h ⟨k⟩
end
end Go.Proofs.YtopjaeoklkpcpaaGreatDoor.Jd
