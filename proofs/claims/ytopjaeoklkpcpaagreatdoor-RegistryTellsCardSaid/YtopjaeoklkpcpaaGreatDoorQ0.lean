/- Blocks of steps that come often. No condition. -/
import Derived.CallsIn
import Derived.RangeFuncLeaves
import Derived.RangeFuncRecord
import Derived.Below
import Derived.OrdersHeld
import Derived.KernelRfl
namespace Go.Proofs.YtopjaeoklkpcpaaGreatDoor.Jd
set_option linter.unusedVariables false
set_option linter.unusedSimpArgs false
section
variable {p : Prop}
theorem z0 (h : p := by first | omega | (dsimp only; omega) | (simp; done) | exact Nat.le_trans (by assumption) (by decide)) : p := h
theorem z1 (h : p := by exact Fb.tmp rfl Fb.nil) : p := h
theorem z2 (h : p := by omega) : p := h
theorem z3 (h : p := by first | exact ix) : p := h
theorem z4 (h : p := by kernel_rfl) : p := h
theorem z5 (h : p := by first | rfl | (simp; done) | ((simp only [List.length_append, List.length_take, List.length_drop, List.length_set, List.length_replicate, List.length_cons, List.length_nil, List.length_map, Cq, Cp]) <;> omega)) : p := h
theorem z6 (h : p := by first | exact lb | decide) : p := h
theorem z7 (h : p := by exact Dn (l := [_, _, _]) zeroValue156) : p := h
theorem z8 (h : p := by intro p hp; repeat (first | exact hp | exact List.mem_append_left _ hp | apply List.mem_append_right | apply List.mem_cons_of_mem)) : p := h
theorem z9 (h : p := by first | omega | assumption | (simp; done)) : p := h
theorem Kh (h : p := by first | omega | rfl | (simp; done)) : p := h
theorem Zb (h : p := by exact Eb (l := [_]) runUnderlying22 sizeOf3 zeroValue3) : p := h
theorem Ur (h : p := by exact Dn (l := [_, _, _, _, _, _, _, _]) zeroValue52) : p := h
theorem oH (h : p := by exact List.Perm.of_eq (by first | rfl | simp only [List.append_assoc, List.cons_append, List.nil_append])) : p := h
theorem oI (h : p := by first | omega | (simp only [List.length_append, List.length_cons, List.length_nil]; omega)) : p := h
theorem Wy (h : p := by exact Dn (l := [_, _, _, _, _]) zeroValue28) : p := h
theorem Ey (h : p := by assumption) : p := h
theorem Ru (h : p := by first | omega | exact Nat.le_refl _) : p := h
theorem Jp (h : p := by exact Hi (l := [_, _, _])) : p := h
theorem Jv (h : p := by first | rfl | simp) : p := h
theorem oJ (h : p := by exact List.Sublist.cons_cons _ (List.Sublist.cons_cons _ (List.nil_sublist _))) : p := h
theorem J5 (h : p := by exact Eb (l := [_, _, _, _, _, _, _, _]) runUnderlying26 sizeOf52 zeroValue52) : p := h
theorem Vf (h : p := by exact Hi (l := [_, _, _, _, _])) : p := h
theorem fF (h : p := by first | assumption | exact Bk.nil) : p := h
theorem Nr (h : p := by exact List.nil_sublist _) : p := h
theorem Ou (h : p := by exact List.Sublist.refl _) : p := h
theorem jB (h : p := by exact Dn (l := [_, _, _]) zeroValue25) : p := h
theorem rK (h : p := by exact Fb.agg isAgg28 sizeOf28 rfl me rfl Fb.nil) : p := h
theorem Ri (h : p := by first | exact lb) : p := h
theorem z29 (h : p := by exact Fb.agg isAgg28 sizeOf28 rfl me rfl (Fb.agg isAgg44 sizeOf44 rfl me rfl Fb.nil)) : p := h
theorem Gi (h : p := by decide) : p := h
theorem kZ (h : p := by rw [← hlen0]; first | rfl | rfl) : p := h
theorem xG (h : p := by exact Dn (l := [_, _, _, _, _, _]) zeroValue44) : p := h
theorem K5 (h : p := by first | omega | (simp only [List.length_set]; omega)) : p := h
theorem wX (h : p := by exact Fb.word isAgg4 rfl me rfl Fb.nil) : p := h
theorem z35 (h : p := by simp only [Region.wanted]; rw [Ir ha hg hu ht]; exact hb) : p := h
theorem z36 (h : p := by exact Eb (l := [_, _, _]) runUnderlying182 sizeOf26 zeroValue26) : p := h
theorem Hb (h : p := by simp) : p := h
theorem wY (h : p := by rw [List.length_replicate]; omega) : p := h
theorem gS (h : p := by exact Bp.of_base h_s_gens) : p := h
theorem rL (h : p := by exact Bp.of_base h_r_Sf) : p := h
theorem rM (h : p := by exact Bp.of_base h_r_Sg) : p := h
theorem rN (h : p := by exact Bp.of_base h_r_Su) : p := h
theorem kY (h : p := by exact Bp.of_base h_s_used) : p := h
theorem z44 (h : p := by repeat (first | exact List.mem_cons_self | apply List.mem_cons_of_mem | apply List.mem_append_right)) : p := h
theorem bP (h : p := by exact Bp.of_base h_l) : p := h
theorem X9 (h : p := by rw [Ce]; exact hc a w ha hw.right) : p := h
theorem z47 (h : p := by first | exact List.sublist_append_left _ _ | exact List.nil_sublist _) : p := h
theorem z48 (h : p := by first | omega | (simp; done) | exact ((Rc _).at _).1 | exact ((Rc _).at _).2) : p := h
theorem K6 (h : p := by exact Dn (l := [_]) zeroValue216) : p := h
theorem cJ (h : p := by simp; omega) : p := h
theorem K7 (h : p := by exact Dq isAgg28 sizeOf28) : p := h
theorem z52 (h : p := by first | exact i_c_at_ | (simp; done) | (exact ⟨by decide, by decide⟩) | omega) : p := h
theorem oK (h : p := by exact Bv isAgg22) : p := h
theorem J6 (h : p := by rw [Ce]; exact h1) : p := h
theorem z55 (h : p := by exact Ef (cs := [_, _, _]) zeroValue25 AS3) : p := h
theorem z56 (h : p := by exact Dn (l := [_, _, _, _, _, _, _, _, _]) zeroValue88) : p := h
theorem Y0 (h : p := by exact Dq isAgg52 sizeOf52) : p := h
theorem z58 (h : p := by exact Ef (cs := [_, _, _, _, _, _]) zeroValue44 AS8) : p := h
theorem z59 (h : p := by generalize a.getD k default = x at c ⊢; generalize b.getD k default = y at c ⊢; rcases x with ⟨x1, ⟨x2, x3⟩, ⟨x4, x5⟩⟩; rcases y with ⟨y1, ⟨y2, y3⟩, ⟨y4, y5⟩⟩; simp only at c; simp [c]) : p := h
theorem z60 (h : p := by exact Dn (l := [_, _, _, _]) zeroValue62) : p := h
theorem z61 (h : p := by exact Hi (l := [_, _, _, _, _, _, _, _])) : p := h
theorem z62 (h : p := by exact Ef (cs := [_, _, _, _, _]) zeroValue28 AS5) : p := h
theorem tB (h : p := by exact Hi (l := [_, _])) : p := h
theorem wZ (h : p := by exact Bp.of_base h_s_free) : p := h
theorem tC (h : p := by simpa using hq1) : p := h
theorem z66 (h : p := by exact Dq isAgg25 sizeOf25) : p := h
theorem Y1 (h : p := by exact Ei runUnderlying22) : p := h
theorem z68 (h : p := by exact Ef (cs := [_, _]) zeroValue42 AS4) : p := h
theorem z69 (h : p := by rw [Ce]; exact h a w ha hw.right) : p := h
theorem xH (h : p := by exact Bv isAgg3) : p := h
theorem z71 (h : p := by exact Dq isAgg44 sizeOf44) : p := h
theorem z72 (h : p := by exact Dq isAgg88 sizeOf88) : p := h
theorem z73 (h : p := by simp only [List.length_append, List.length_take, List.length_replicate]; omega) : p := h
theorem z74 (h : p := by exact Eb (l := [_, _, _, _]) runUnderlying50 sizeOf62 zeroValue62) : p := h
theorem z75 (h : p := by exact Hi (l := [_, _, _, _, _, _, _, _, _])) : p := h
end
structure Ay (q : Prop) : Prop where
  out : q
section
variable {p q : Prop}
theorem Z0 (k : q) (h : Ay q → p := by intro z; refine Eh ?_; refine Ea ?_; exact z.1) : p := h ⟨k⟩
theorem Z1 (k : q) (h : Ay q → p := by intro z; refine Sb ?_; refine Z0 ?_; exact z.1) : p := h ⟨k⟩
theorem Z2 (k : q) (h : Ay q → p := by intro z; refine Bg ?_; refine Cs ?_; exact z.1) : p := h ⟨k⟩
theorem Z4 (k : q) (h : Ay q → p := by intro z; refine Z2 ?_; refine Cg ?_; exact z.1) : p := h ⟨k⟩
theorem Z5 (k : q) (h : Ay q → p := by intro z; refine Ci _ (((((((((((((((qa (qc (qa (qa (qa (qa (qa (qa (qa (qa (qa (qc (qa (qa (qa q0))))))))))))))).trans (qa (qa (qc (qa (qa (qa (qa (qa (qa (qa (qa (qa (qc (qa (qa q0)))))))))))))))).trans (qa (qa (qa (qc (qa (qa (qa (qa (qa (qa (qa (qa (qa (qc (qa q0)))))))))))))))).trans (qa (qa (qa (qa (qc (qa (qa (qa (qa (qa (qa (qa (qa (qa (qc q0)))))))))))))))).trans (qb (qb (qb (qb (qb (qd (qb (qb (qb (qb (qb (qb (qb (qb (qb q0)))))))))))))))).trans (qc (qa (qa (qa (qa (qa (qc (qa (qa (qa (qa (qa (qa (qa (qa q0)))))))))))))))).trans (qa (qc (qa (qa (qa (qa (qa (qc (qa (qa (qa (qa (qa (qa (qa q0)))))))))))))))).trans (qa (qa (qc (qa (qa (qa (qa (qa (qc (qa (qa (qa (qa (qa (qa q0)))))))))))))))).trans (qa (qa (qa (qc (qa (qa (qa (qa (qa (qc (qa (qa (qa (qa (qa q0)))))))))))))))).trans (qa (qa (qa (qa (qc (qa (qa (qa (qa (qa (qc (qa (qa (qa (qa q0)))))))))))))))).trans (qa (qa (qa (qa (qa (qc (qa (qa (qa (qa (qa (qc (qa (qa (qa q0)))))))))))))))).trans (qa (qa (qa (qa (qa (qa (qc (qa (qa (qa (qa (qa (qc (qa (qa q0)))))))))))))))).trans (qa (qa (qa (qa (qa (qa (qa (qc (qa (qa (qa (qa (qa (qc (qa q0)))))))))))))))).trans (qa (qa (qa (qa (qa (qa (qa (qa (qc (qa (qa (qa (qa q0)))))))))))))).trans (qb (qb (qb (qb (qb (qb (qb (qb (qb (qd (qb (qb (qb (qb q0))))))))))))))) ?_; refine Cj _ (List.Sublist.append Ou (List.Sublist.cons_cons _ (List.Sublist.cons_cons _ (List.Sublist.cons_cons _ (List.Sublist.cons_cons _ (List.Sublist.cons_cons _ (List.Sublist.cons_cons _ (List.Sublist.cons_cons _ (List.Sublist.cons_cons _ (List.Sublist.cons_cons _ (List.Sublist.append Ou (List.Sublist.cons_cons _ (List.Sublist.cons_cons _ oJ))))))))))))) ?_; exact z.1) : p := h ⟨k⟩
theorem Z6 (k : q) (h : Ay q → p := by intro z; refine Z1 ?_; refine yQ ?_; exact z.1) : p := h ⟨k⟩
theorem Z7 (k : q) (h : Ay q → p := by intro z; refine Cy ?_; refine Fl ?_; exact z.1) : p := h ⟨k⟩
theorem Z8 (k : q) (h : Ay q → p := by intro z; refine Zi ?_; refine Cg ?_; exact z.1) : p := h ⟨k⟩
theorem Z9 (k : q) (h : Ay q → p := by intro z; refine Af Ps (k := ?_); refine Z0 ?_; exact z.1) : p := h ⟨k⟩
theorem Xb (k : q) (h : Ay q → p := by intro z; refine Pp ?_; refine Ea ?_; exact z.1) : p := h ⟨k⟩
theorem aY (k : q) (h : Ay q → p := by intro z; refine Bq ?_; refine Ea ?_; exact z.1) : p := h ⟨k⟩
theorem fI (k : q) (h : Ay q → p := by intro z; refine cZ ?_; refine cY ?_; exact z.1) : p := h ⟨k⟩
theorem Rv (k : q) (h : Ay q → p := by intro z; refine Af Hy (k := ?_); refine Cg ?_; exact z.1) : p := h ⟨k⟩
theorem J7 (k : q) (h : Ay q → p := by intro z; refine Bg ?_; refine Jx ?_; exact z.1) : p := h ⟨k⟩
theorem Pj (k : q) (h : Ay q → p := by intro z; refine Af Hh (k := ?_); refine Cg ?_; exact z.1) : p := h ⟨k⟩
theorem Z21 (k : q) (h : Ay q → p := by intro z; refine Xb ?_; refine Cs ?_; exact z.1) : p := h ⟨k⟩
theorem Pk (k : q) (h : Ay q → p := by intro z; refine Z4 ?_; refine Cg ?_; exact z.1) : p := h ⟨k⟩
theorem Rw (k : q) (h : Ay q → p := by intro z; refine Z1 ?_; refine Bg ?_; exact z.1) : p := h ⟨k⟩
theorem Z26 (k : q) (h : Ay q → p := by intro z; refine Z8 ?_; refine Eh ?_; exact z.1) : p := h ⟨k⟩
theorem Wz (k : q) (h : Ay q → p := by intro z; refine Sb ?_; refine Eh ?_; exact z.1) : p := h ⟨k⟩
theorem oL (k : q) (h : Ay q → p := by intro z; refine Aw Hy (k := ?_); refine Gu ?_; exact z.1) : p := h ⟨k⟩
theorem Pi (k : q) (h : Ay q → p := by intro z; refine Z6 ?_; refine Fl ?_; exact z.1) : p := h ⟨k⟩
theorem Z31 (k : q) (h : Ay q → p := by intro z; refine Af Pu (k := ?_); refine Af Pu (k := ?_); exact z.1) : p := h ⟨k⟩
theorem Zd (k : q) (h : Ay q → p := by intro z; refine Z2 ?_; refine Z9 ?_; refine Bg ?_; exact z.1) : p := h ⟨k⟩
theorem xB (k : q) (h : Ay q → p := by intro z; refine Af Hh (k := ?_); refine Z0 ?_; exact z.1) : p := h ⟨k⟩
theorem Z34 (k : q) (h : Ay q → p := by intro z; refine Aw Fj (k := ?_); refine Gb ?_; exact z.1) : p := h ⟨k⟩
theorem fJ (k : q) (h : Ay q → p := by intro z; refine aY ?_; refine J7 ?_; exact z.1) : p := h ⟨k⟩
theorem jC (k : q) (h : Ay q → p := by intro z; refine Z21 ?_; refine Z26 ?_; exact z.1) : p := h ⟨k⟩
theorem Zc (k : q) (h : Ay q → p := by intro z; refine Ow rfl ?_; refine Z2 ?_; exact z.1) : p := h ⟨k⟩
theorem Z38 (k : q) (h : Ay q → p := by intro z; refine jC ?_; refine mM ?_; exact z.1) : p := h ⟨k⟩
theorem Z40 (k : q) (h : Ay q → p := by intro z; refine Lb ?_; refine mC ?_; refine Jy ?_; exact z.1) : p := h ⟨k⟩
theorem Z41 (k : q) (h : Ay q → p := by intro z; refine Z7 ?_; refine Wa ?_; exact z.1) : p := h ⟨k⟩
theorem Z42 (k : q) (h : Ay q → p := by intro z; refine Cc results41 (Fb.agg isAgg28 sizeOf28 rfl me rfl (Fb.agg isAgg52 sizeOf52 rfl me rfl z1)) ?_; refine Cg ?_; exact z.1) : p := h ⟨k⟩
theorem lA (k : q) (h : Ay q → p := by intro z; refine Z2 ?_; refine Af K7 (k := ?_); exact z.1) : p := h ⟨k⟩
theorem rO (k : q) (h : Ay q → p := by intro z; refine Z0 ?_; refine yQ ?_; exact z.1) : p := h ⟨k⟩
theorem bQ (k : q) (h : Ay q → p := by intro z; refine Gj rfl ?_; refine Bq ?_; exact z.1) : p := h ⟨k⟩
theorem cK (k : q) (h : Ay q → p := by intro z; refine Hf ?_; refine Bb (Dq isAgg156 sizeOf156) (k := ?_); exact z.1) : p := h ⟨k⟩
theorem Xa (k : q) (h : Ay q → p := by intro z; refine Gu ?_; refine Gu ?_; exact z.1) : p := h ⟨k⟩
theorem fG (k : q) (h : Ay q → p := by intro z; refine Af Mv (k := ?_); refine Af (Ai Yi) (k := ?_); exact z.1) : p := h ⟨k⟩
theorem J8 (k : q) (h : Ay q → p := by intro z; refine Cg ?_; refine Zi ?_; exact z.1) : p := h ⟨k⟩
theorem Qh (k : q) (h : Ay q → p := by intro z; refine Af Hy (k := ?_); refine Z0 ?_; exact z.1) : p := h ⟨k⟩
theorem Ky (k : q) (h : Ay q → p := by intro z; refine Af Hy (k := ?_); refine Z6 ?_; exact z.1) : p := h ⟨k⟩
theorem xC (k : q) (h : Ay q → p := by intro z; refine fJ ?_; refine Z2 ?_; exact z.1) : p := h ⟨k⟩
theorem Z55 (k : q) (h : Ay q → p := by intro z; refine Af (Bv isAgg26) (k := ?_); refine Z1 ?_; exact z.1) : p := h ⟨k⟩
theorem Z56 (k : q) (h : Ay q → p := by intro z; refine Af (Ef (cs := [_]) zeroValue120 AJ4) (k := ?_); refine Af (mP underlying120) (k := ?_); exact z.1) : p := h ⟨k⟩
theorem K8 (k : q) (h : Ay q → p := by intro z; refine Zd ?_; refine Ow rfl ?_; refine xC ?_; exact z.1) : p := h ⟨k⟩
theorem Z61 (k : q) (h : Ay q → p := by intro z; refine Gg _ _ results145 z1 (vp ((((((((((((((((qc (qa (qa (qa (qa (qa (qa (qa (qa (qa (qa (qc (qa (qa (qa q0))))))))))))))).trans (qa (qc (qa (qa (qa (qa (qa (qa (qa (qa (qa (qa (qc (qa (qa q0)))))))))))))))).trans (qa (qa (qc (qa (qa (qa (qa (qa (qa (qa (qa (qa (qa (qc (qa q0)))))))))))))))).trans (qa (qa (qa (qc (qa (qa (qa (qa (qa (qa (qa (qa (qa (qa (qc q0)))))))))))))))).trans (qb (qb (qb (qb (qd (qb (qb (qb (qb (qb (qb (qb (qb (qb (qb q0)))))))))))))))).trans (qc (qa (qa (qa (qa (qc (qa (qa (qa (qa (qa (qa (qa (qa (qa q0)))))))))))))))).trans (qa (qc (qa (qa (qa (qa (qc (qa (qa (qa (qa (qa (qa (qa (qa q0)))))))))))))))).trans (qa (qa (qc (qa (qa (qa (qa (qc (qa (qa (qa (qa (qa (qa (qa q0)))))))))))))))).trans (qa (qa (qa (qc (qa (qa (qa (qa (qc (qa (qa (qa (qa (qa (qa q0)))))))))))))))).trans (qa (qa (qa (qa (qc (qa (qa (qa (qa (qc (qa (qa (qa (qa (qa q0)))))))))))))))).trans (qa (qa (qa (qa (qa (qc (qa (qa (qa (qa (qc (qa (qa (qa (qa q0)))))))))))))))).trans (qa (qa (qa (qa (qa (qa (qc (qa (qa (qa (qa (qc (qa (qa (qa q0)))))))))))))))).trans (qa (qa (qa (qa (qa (qa (qa (qc (qa (qa (qa (qa (qc (qa (qa q0)))))))))))))))).trans (qa (qa (qa (qa (qa (qa (qa (qa (qc (qa (qa (qa (qa (qc (qa q0)))))))))))))))).trans (qb (qb (qb (qb (qb (qb (qb (qb (qb (qd (qb (qb (qb (qb q0))))))))))))))).trans (qc (qa (qa (qa (qa (qa (qa (qa (qa (qa (qc (qa (qa (qa (qa q0)))))))))))))))) (nC nE)) (List.Sublist.trans Ou (List.sublist_append_right _ _)) ?_; refine Aw Fj (k := ?_); exact z.1) : p := h ⟨k⟩
theorem Z62 (k : q) (h : Ay q → p := by intro z; refine Gg _ _ results146 z1 (vp ((((((((((((((((qc (qa (qa (qa (qa (qa (qa (qa (qa (qa (qa (qc (qa (qa (qa q0))))))))))))))).trans (qa (qc (qa (qa (qa (qa (qa (qa (qa (qa (qa (qa (qc (qa (qa q0)))))))))))))))).trans (qa (qa (qc (qa (qa (qa (qa (qa (qa (qa (qa (qa (qa (qc (qa q0)))))))))))))))).trans (qa (qa (qa (qc (qa (qa (qa (qa (qa (qa (qa (qa (qa (qa (qc q0)))))))))))))))).trans (qb (qb (qb (qb (qd (qb (qb (qb (qb (qb (qb (qb (qb (qb (qb q0)))))))))))))))).trans (qc (qa (qa (qa (qa (qc (qa (qa (qa (qa (qa (qa (qa (qa (qa q0)))))))))))))))).trans (qa (qc (qa (qa (qa (qa (qc (qa (qa (qa (qa (qa (qa (qa (qa q0)))))))))))))))).trans (qa (qa (qc (qa (qa (qa (qa (qc (qa (qa (qa (qa (qa (qa (qa q0)))))))))))))))).trans (qa (qa (qa (qc (qa (qa (qa (qa (qc (qa (qa (qa (qa (qa (qa q0)))))))))))))))).trans (qa (qa (qa (qa (qc (qa (qa (qa (qa (qc (qa (qa (qa (qa (qa q0)))))))))))))))).trans (qa (qa (qa (qa (qa (qc (qa (qa (qa (qa (qc (qa (qa (qa (qa q0)))))))))))))))).trans (qa (qa (qa (qa (qa (qa (qc (qa (qa (qa (qa (qc (qa (qa (qa q0)))))))))))))))).trans (qa (qa (qa (qa (qa (qa (qa (qc (qa (qa (qa (qa (qc (qa (qa q0)))))))))))))))).trans (qa (qa (qa (qa (qa (qa (qa (qa (qc (qa (qa (qa (qa (qc (qa q0)))))))))))))))).trans (qb (qb (qb (qb (qb (qb (qb (qb (qb (qd (qb (qb (qb (qb q0))))))))))))))).trans (qc (qa (qa (qa (qa (qa (qa (qa (qa (qa (qc (qa (qa (qa (qa q0)))))))))))))))) (nC nE)) (List.Sublist.trans Ou (List.sublist_append_right _ _)) ?_; refine Aw Fj (k := ?_); exact z.1) : p := h ⟨k⟩
theorem K9 (k : q) (h : Ay q → p := by intro z; refine Cg ?_; refine Cg ?_; exact z.1) : p := h ⟨k⟩
theorem Rj (k : q) (h : Ay q → p := by intro z; refine Af Lv (k := ?_); refine Z0 ?_; exact z.1) : p := h ⟨k⟩
theorem xD (k : q) (h : Ay q → p := by intro z; refine Af (Ai Kf) (k := ?_); refine Af (Bv isAgg26) (k := ?_); exact z.1) : p := h ⟨k⟩
theorem fH (k : q) (h : Ay q → p := by intro z; refine Aw Hh (k := ?_); refine Gu ?_; exact z.1) : p := h ⟨k⟩
theorem xE (k : q) (h : Ay q → p := by intro z; refine Sb ?_; refine Sb ?_; exact z.1) : p := h ⟨k⟩
theorem lB (k : q) (h : Ay q → p := by intro z; refine Z41 ?_; refine Z7 ?_; exact z.1) : p := h ⟨k⟩
theorem Z71 (k : q) (h : Ay q → p := by intro z; refine Ci _ ((((((((((((qa (qa (qa (qc (qc (qa (qc (qa (qc (qc (qc (qa q0)))))))))))).trans (qa (qa (qa (qa (qc (qc (qa (qc (qa (qc (qc (qc q0))))))))))))).trans (qb (qb (qb (qb (qb (qd (qd (qb (qd (qb (qd (qd q0))))))))))))).trans (qd (qb (qb (qb (qb (qb (qd (qd (qb (qd (qb (qd q0))))))))))))).trans (qd (qd (qb (qb (qb (qb (qb (qd (qd (qb (qd (qb q0))))))))))))).trans (qc (qc (qc (qa (qa (qa (qa (qa (qc (qc (qa (qc q0))))))))))))).trans (qb (qd (qd (qd (qb (qb (qb (qb (qb (qd (qd (qb q0))))))))))))).trans (qc (qa (qc (qc (qc (qa (qa (qa (qa (qa (qc (qc q0))))))))))))).trans (qb (qd (qb (qd (qd (qd (qb (qb (qb (qb (qb (qd q0))))))))))))).trans (qd (qb (qd (qb (qd (qd (qd (qb (qb (qb (qb (qb q0))))))))))))).trans (qc (qc (qa (qc (qa (qc (qc (qc (qa (qa (qa (qa q0))))))))))))).trans (qa (qc (qc (qa (qc (qa (qc (qc (qc (qa (qa q0)))))))))))) ?_; refine Cj _ (List.Sublist.cons_cons _ (List.Sublist.cons_cons _ (List.Sublist.append Ou (List.Sublist.append Ou (List.Sublist.cons_cons _ (List.Sublist.append Ou (List.Sublist.cons_cons _ (List.Sublist.append Ou (List.Sublist.append Ou (List.Sublist.append Ou oJ)))))))))) ?_; exact z.1) : p := h ⟨k⟩
theorem J9 (k : q) (h : Ay q → p := by intro z; refine Aw (Ai Ue) (k := ?_); refine Aw oK (k := ?_); exact z.1) : p := h ⟨k⟩
theorem K0 (k : q) (h : Ay q → p := by intro z; refine Cc results88 z1 ?_; refine Z6 ?_; exact z.1) : p := h ⟨k⟩
theorem Ut (k : q) (h : Ay q → p := by intro z; refine Z2 ?_; refine Z1 ?_; exact z.1) : p := h ⟨k⟩
theorem Z76 (k : q) (h : Ay q → p := by intro z; refine Z38 ?_; refine K8 ?_; exact z.1) : p := h ⟨k⟩
theorem tD (k : q) (h : Ay q → p := by intro z; refine Aw Mv (k := ?_); refine Aw (Ai Yi) (k := ?_); exact z.1) : p := h ⟨k⟩
theorem oM (k : q) (h : Ay q → p := by intro z; refine Z40 ?_; refine Ea ?_; exact z.1) : p := h ⟨k⟩
theorem Z81 (k : q) (h : Ay q → p := by intro z; refine Z26 ?_; refine Ci _ ((((((((qa (qc (qa (qa (qc (qa (qa q0))))))).trans (qa (qa (qc (qa (qa (qc (qa q0)))))))).trans (qa (qa (qa (qc (qa (qa (qc q0)))))))).trans (qb (qb (qb (qb (qd (qb (qb q0)))))))).trans (qc (qa (qa (qa (qa (qc (qa q0)))))))).trans (qa (qc (qa (qa (qa (qa (qc q0)))))))).trans (qa (qa (qc (qa (qa (qa q0))))))).trans (qb (qb (qb (qd (qb (qb (qb q0)))))))) ?_; exact z.1) : p := h ⟨k⟩
theorem K1 (k : q) (h : Ay q → p := by intro z; refine Z31 ?_; refine Af Pu (k := ?_); exact z.1) : p := h ⟨k⟩
theorem Me (k : q) (h : Ay q → p := by intro z; refine Z0 ?_; refine Bg ?_; exact z.1) : p := h ⟨k⟩
theorem L1 (k : q) (h : Ay q → p := by intro z; refine Af (Ai Kv) (k := ?_); refine Af oK (k := ?_); exact z.1) : p := h ⟨k⟩
theorem Z85 (k : q) (h : Ay q → p := by intro z; refine Aw (Ai Kf) (k := ?_); refine Aw (Bv isAgg26) (k := ?_); exact z.1) : p := h ⟨k⟩
theorem Vv (k : q) (h : Ay q → p := by intro z; refine Af Hh (k := ?_); refine Z6 ?_; exact z.1) : p := h ⟨k⟩
theorem Xc (k : q) (h : Ay q → p := by intro z; refine Rw ?_; refine Z4 ?_; exact z.1) : p := h ⟨k⟩
theorem Z88 (k : q) (h : Ay q → p := by intro z; refine cZ ?_; refine rO ?_; exact z.1) : p := h ⟨k⟩
theorem Y2 (k : q) (h : Ay q → p := by intro z; refine Fi Da 9 [(true, 0), (true, 1), (true, 2), (true, 3), (true, 4), (true, 5), (true, 6), (true, 7), (true, 8)] z4 ?_; refine Xa ?_; exact z.1) : p := h ⟨k⟩
theorem Z92 (k : q) (h : Ay q → p := by intro z; refine Af (Ai Ue) (k := ?_); refine Af oK (k := ?_); exact z.1) : p := h ⟨k⟩
theorem Y3 (k : q) (h : Ay q → p := by intro z; refine Z34 ?_; refine rO ?_; exact z.1) : p := h ⟨k⟩
theorem Z94 (k : q) (h : Ay q → p := by intro z; refine Zl z4 _ ?_; refine lZ ?_; exact z.1) : p := h ⟨k⟩
theorem Z95 (k : q) (h : Ay q → p := by intro z; refine Xq (qa q0) ?_; refine Jx ?_; exact z.1) : p := h ⟨k⟩
theorem Z96 (k : q) (h : Ay q → p := by intro z; refine Gg _ _ results87 z1 (vp (List.Perm.refl _) nE) (List.Sublist.trans Ou (List.sublist_append_right _ _)) ?_; refine Aw (Ai Kf) (k := ?_); exact z.1) : p := h ⟨k⟩
theorem Z97 (k : q) (h : Ay q → p := by intro z; refine Gv _ _ (vp (qd (qd (qb q0))) (nA nE)) Da 8 [(true, 0), (true, 1), (true, 2), (true, 3), (true, 4), (true, 5), (true, 6), (false, 7)] z4 ?_; refine Gu ?_; exact z.1) : p := h ⟨k⟩
theorem Y4 (k : q) (h : Ay q → p := by intro z; refine cZ ?_; refine Q5 ?_; exact z.1) : p := h ⟨k⟩
theorem Z99 (k : q) (h : Ay q → p := by intro z; refine Cc results75 (Fb.agg isAgg28 sizeOf28 rfl me rfl (Fb.agg isAgg52 sizeOf52 rfl me rfl z1)) ?_; refine K1 ?_; exact z.1) : p := h ⟨k⟩
theorem tE (k : q) (h : Ay q → p := by intro z; refine Ez 10 rfl z4 z55 (k := ?_); refine Ez 11 rfl z4 (Ef (cs := [_, _, _]) zeroValue131 pT) (k := ?_); exact z.1) : p := h ⟨k⟩
theorem oN (k : q) (h : Ay q → p := by intro z; refine Z6 ?_; refine lB ?_; exact z.1) : p := h ⟨k⟩
theorem xI (k : q) (h : Ay q → p := by intro z; refine Fu (args := [(Value.iface 240 (.pointer (some ea2))), (Value.iface 240 (.pointer (some ea0)))]) (Ad call176) (fun w1 hw1 => Wh w1 hE.n2_0 (hE.ext hw1.ext_out).b2 (hE.ext hw1.ext_out).b0) (k := ?_); refine Z1 ?_; exact z.1) : p := h ⟨k⟩
theorem xJ (k : q) (h : Ay q → p := by intro z; refine Fu (args := [(Value.iface 240 (.pointer (some ea2))), (Value.iface 240 (.pointer (some ea1)))]) (Ad call176) (fun w1 hw1 => Wh w1 hE.n2_1 (hE.ext hw1.ext_out).b2 (hE.ext hw1.ext_out).b1) (k := ?_); refine Z1 ?_; exact z.1) : p := h ⟨k⟩
theorem Xd (k : q) (h : Ay q → p := by intro z; refine Gb ?_; refine Z0 ?_; exact z.1) : p := h ⟨k⟩
theorem tF (k : q) (h : Ay q → p := by intro z; refine Gj rfl ?_; refine Ca ?_; exact z.1) : p := h ⟨k⟩
theorem lC (k : q) (h : Ay q → p := by intro z; refine Cs ?_; refine Af K7 (k := ?_); exact z.1) : p := h ⟨k⟩
theorem Ov (k : q) (h : Ay q → p := by intro z; refine Aw Fj (k := ?_); refine Oz ?_; exact z.1) : p := h ⟨k⟩
theorem Lq (k : q) (h : Ay q → p := by intro z; refine Cg ?_; refine Z0 ?_; refine Jx ?_; exact z.1) : p := h ⟨k⟩
theorem fK (k : q) (h : Ay q → p := by intro z; refine Rv ?_; refine Ae 5 rfl ?_; exact z.1) : p := h ⟨k⟩
theorem tG (k : q) (h : Ay q → p := by intro z; refine Fi Da 11 [(true, 0), (true, 1), (true, 2), (true, 3), (true, 4), (true, 5), (true, 7), (false, 6), (false, 8), (false, 9), (true, 10)] z4 ?_; refine Z85 ?_; exact z.1) : p := h ⟨k⟩
theorem AM3 (k : q) (h : Ay q → p := by intro z; refine lA ?_; refine Gy (Ad call39) (fun w1 hw1 => G0 w1 (r := r) (h_r_Sg := (Bp.of_base h_r_Sg) w1 hw1) (n_r_Sg := by first | omega | (simp; done) | exact (hsm _ z2).1 | exact (hsm _ z2).2) (h_r_Su := (Bp.of_base h_r_Su) w1 hw1) (n_r_Su := by first | omega | (simp; done) | exact (hsm _ z2).1 | exact (hsm _ z2).2) (h_r_Sf := (Bp.of_base h_r_Sf) w1 hw1) (n_r_Sf := by first | omega | (simp; done) | exact (hsm _ z2).1 | exact (hsm _ z2).2) (h_r_l := (Ds.of_base Dc h_r_l).2 w1 hw1) (n_r_l := by first | omega | (simp; done) | exact (hsm _ z2).1 | exact (hsm _ z2).2) (k_r_l := k_r_l) (hsm := by first | omega | (simp; done) | exact (hsm _ z2).1 | exact (hsm _ z2).2)) (k := ?_); exact z.1) : p := h ⟨k⟩
theorem lD (k : q) (h : Ay q → p := by intro z; refine lZ ?_; refine Gw (Bt (l' := [_, _]) sizeOf42) (k := ?_); exact z.1) : p := h ⟨k⟩
theorem oO (k : q) (h : Ay q → p := by intro z; refine Af z55 (k := ?_); refine Af z68 (k := ?_); exact z.1) : p := h ⟨k⟩
theorem aZ (k : q) (h : Ay q → p := by intro z; refine Z76 ?_; refine Af (Hg runUnderlying182 sizeOf26 1) (k := ?_); exact z.1) : p := h ⟨k⟩
theorem bA (k : q) (h : Ay q → p := by intro z; refine Z76 ?_; refine Af (Hg runUnderlying182 sizeOf26 2) (k := ?_); exact z.1) : p := h ⟨k⟩
theorem AB9 (k : q) (h : Ay q → p := by intro z; refine bI ?_; refine Fu (Ad call52) (fun w1 hw1 => iH w1 (s := s) (h_s_gens := (Bp.of_base h_s_gens) w1 hw1) (n_s_gens := z6) (h_s_used := (Bp.of_base h_s_used) w1 hw1) (n_s_used := z6) (h_s_free := (Bp.of_base h_s_free) w1 hw1) (n_s_free := z6)) (k := ?_); exact z.1) : p := h ⟨k⟩
theorem fL (k : q) (h : Ay q → p := by intro z; refine Af (Ai Yn) (k := ?_); refine bI ?_; exact z.1) : p := h ⟨k⟩
theorem AC0 (k : q) (h : Ay q → p := by intro z; refine Bl (Cb (n := s.gens.length) runUnderlying22 sizeOf3 ((s.free.getD ((((s.free.length : Nat) : Int) - 1).toNat) default).toNat) (hox302.slj Bh) (gD z3) Jv) (k := ?_); refine Bl (Bz isAgg3 ((s.free.getD ((((s.free.length : Nat) : Int) - 1).toNat) default).toNat) 0 (hox302.slj Bh) (gD z3)) (k := ?_); exact z.1) : p := h ⟨k⟩
theorem AC1 (k : q) (h : Ay q → p := by intro z; refine AQ7 ?_; refine Af (Bz isAgg3 ((s.free.getD ((((s.free.length : Nat) : Int) - 1).toNat) default).toNat) 0 (hox302.slj Bh) (gD z3)) (k := ?_); exact z.1) : p := h ⟨k⟩
theorem AM4 (k : q) (h : Ay q → p := by intro z; refine jR ?_; refine Fu (Ad call46) (fun w1 hw1 => iL w1 (r := (xR r)) (name := c.name) (h_r_Sg := (Dw.slj hs1_1) w1 hw1) (n_r_Sg := by first | omega | (simp; done) | exact (hsm _ z2).1 | exact (hsm _ z2).2) (h_r_Su := (Dw.slj hs2_1) w1 hw1) (n_r_Su := by first | omega | (simp; done) | exact (hsm _ z2).1 | exact (hsm _ z2).2) (h_r_Sf := (Dw.slj hs3_1) w1 hw1) (n_r_Sf := by first | omega | (simp; done) | exact (hsm _ z2).1 | exact (hsm _ z2).2) (h_r_l := (Cx.j hs4_1.1 sh).2 w1 hw1) (n_r_l := by first | omega | (simp; done) | exact (hsm _ z2).1 | exact (hsm _ z2).2) (k_r_l := hs4_1.2)) (k := ?_); exact z.1) : p := h ⟨k⟩
theorem lE (k : q) (h : Ay q → p := by intro z; refine Af (Ef (cs := [_]) zeroValue216 AI4) (k := ?_); refine Af (mP underlying216) (k := ?_); exact z.1) : p := h ⟨k⟩
theorem Rx (k : q) (h : Ay q → p := by intro z; refine Af Ps (k := ?_); refine Cg ?_; exact z.1) : p := h ⟨k⟩
theorem tH (k : q) (h : Ay q → p := by intro z; refine Bb (Ai Qu) (k := ?_); refine Bb (Bv isAgg23) (k := ?_); exact z.1) : p := h ⟨k⟩
theorem lF (k : q) (h : Ay q → p := by intro z; refine Z76 ?_; refine Af (Kc (m := 9) (n := 3) runUnderlying193 sizeOf156 isAgg156) (k := ?_); exact z.1) : p := h ⟨k⟩
theorem cL (k : q) (h : Ay q → p := by intro z; refine Bb (Ai cE) (k := ?_); refine Vz ?_; exact z.1) : p := h ⟨k⟩
theorem cM (k : q) (h : Ay q → p := by intro z; refine Bb (Ai Ol) (k := ?_); refine Vz ?_; exact z.1) : p := h ⟨k⟩
theorem oP (k : q) (h : Ay q → p := by intro z; refine Af (Ai Ol) (k := ?_); refine Hx ?_; exact z.1) : p := h ⟨k⟩
theorem AC2 (k : q) (h : Ay q → p := by intro z; refine Gv _ _ (vp ((qc (qc (qc (qa (qa q0))))).trans (qa (qc (qc (qc (qa (qa q0))))))) (nC (nC nE))) Da 17 [(true, 0), (true, 1), (true, 2), (true, 3), (true, 4), (true, 5), (true, 6), (true, 7), (true, 8), (true, 9), (true, 10), (true, 11), (true, 12), (true, 13), (false, 14), (false, 15), (true, 16)] z4 ?_; refine Gu ?_; exact z.1) : p := h ⟨k⟩
theorem Jq (k : q) (h : Ay q → p := by intro z; refine Z1 ?_; refine Z4 ?_; exact z.1) : p := h ⟨k⟩
theorem xK (k : q) (h : Ay q → p := by intro z; refine Fu (args := [(Value.iface 240 (.pointer (some ea2))), (Value.iface 240 (.pointer (some ea2)))]) (Ad call176) (fun w1 hw1 => Zn w1) (k := ?_); refine Z1 ?_; exact z.1) : p := h ⟨k⟩
theorem L3 (k : q) (h : Ay q → p := by intro z; refine Gw (Bt (l' := [_]) sizeOf4) (k := ?_); refine rO ?_; exact z.1) : p := h ⟨k⟩
theorem AC3 (k : q) (h : Ay q → p := by intro z; refine Bl (Cb (n := s.free.length) runUnderlying22 sizeOf3 ((((s.free.length : Nat) : Int) - 1).toNat) (ho1_201.slj Bh) (gD z3) Jv) (k := ?_); refine Bl (Bz isAgg3 ((((s.free.length : Nat) : Int) - 1).toNat) 0 (ho1_201.slj Bh) (gD z3)) (k := ?_); exact z.1) : p := h ⟨k⟩
theorem AC4 (k : q) (h : Ay q → p := by intro z; refine Af (Cb (n := s.free.length) runUnderlying22 sizeOf3 ((((s.free.length : Nat) : Int) - 1).toNat) (ho1_201.slj Bh) (gD z3) Jv) (k := ?_); refine Af (Bz isAgg3 ((((s.free.length : Nat) : Int) - 1).toNat) 0 (ho1_201.slj Bh) (gD z3)) (k := ?_); exact z.1) : p := h ⟨k⟩
theorem Ns (k : q) (h : Ay q → p := by intro z; refine Af Mv (k := ?_); refine Af (Ai cI) (k := ?_); refine gB ?_; exact z.1) : p := h ⟨k⟩
theorem L4 (k : q) (h : Ay q → p := by intro z; refine cY ?_; refine Z0 ?_; exact z.1) : p := h ⟨k⟩
theorem L5 (k : q) (h : Ay q → p := by intro z; refine mD (V' := ((r30, _) :: ((r31, _) :: []))) (Bt (l' := [_, _, _, _, _]) sizeOf28) (k := ?_); refine mD (V' := ((r30, _) :: ((r31, _) :: []))) (Bt (l' := [_, _, _, _, _, _, _, _]) sizeOf52) (k := ?_); exact z.1) : p := h ⟨k⟩
theorem Xe (k : q) (h : Ay q → p := by intro z; refine xB ?_; refine Zc ?_; exact z.1) : p := h ⟨k⟩
theorem bB (k : q) (h : Ay q → p := by intro z; refine Aw Hh (k := ?_); refine Xd ?_; exact z.1) : p := h ⟨k⟩
theorem Gs (k : q) (h : Ay q → p := by intro z; refine Rw ?_; refine Fi Da 7 [(true, 0), (true, 2), (true, 3), (false, 1), (true, 4), (true, 5), (true, 6)] z4 ?_; refine Gu ?_; refine Aw (Ai E3) (k := ?_); refine Sc ?_; refine AF9 (Ad call139) (fun w1 hw1 => vC w1 (r := n_)) (k := ?_); refine Aw zS (k := ?_); refine Aw Lc (k := ?_); refine Y3 ?_; refine Cc results109 z1 ?_; refine Cg ?_; exact z.1) : p := h ⟨k⟩
theorem L6 (k : q) (h : Ay q → p := by intro z; refine Z4 ?_; refine Gy (Ad call127) (fun w1 hw1 => iO w1 (n_ := (((0 + ((((l.take at_1).length) : Nat) : Int)) + 1) + ((((l.drop at_1).length) : Nat) : Int))) (hi := z6)) (k := ?_); exact z.1) : p := h ⟨k⟩
theorem fM (k : q) (h : Ay q → p := by intro z; refine Af (Ai Qu) (k := ?_); refine Af (Bv isAgg23) (k := ?_); exact z.1) : p := h ⟨k⟩
theorem cN (k : q) (h : Ay q → p := by intro z; refine Hf ?_; refine Hf ?_; exact z.1) : p := h ⟨k⟩
theorem tI (k : q) (h : Ay q → p := by intro z; refine Af z55 (k := ?_); refine lZ ?_; exact z.1) : p := h ⟨k⟩
theorem xL (k : q) (h : Ay q → p := by intro z; refine Cc results74 (Fb.agg isAgg28 sizeOf28 rfl me rfl (Fb.agg isAgg52 sizeOf52 rfl me rfl z1)) ?_; refine K1 ?_; exact z.1) : p := h ⟨k⟩
theorem Vw (k : q) (h : Ay q → p := by intro z; refine Z2 ?_; refine Z6 ?_; exact z.1) : p := h ⟨k⟩
theorem Gt (k : q) (h : Ay q → p := by intro z; refine Gw (Bt (l' := [_, _, _]) sizeOf156) (k := ?_); refine Z0 ?_; refine Z2 ?_; refine Af (Bv isAgg153) (k := ?_); refine Af (Dq isAgg156 sizeOf156) (k := ?_); refine Fa (args := [_, _]) (Ad call109) func109 ntmps109 ?_; refine Z2 ?_; exact z.1) : p := h ⟨k⟩
theorem AC5 (k : q) (h : Ay q → p := by intro z; refine Aw (Cb (n := r.l.length) runUnderlying26 sizeOf52 (xN r c) (Cx.j hs4_1.1 sh).sl (Cv hs4_1.1.1 z3) (Br hs4_1.1.1)) (k := ?_); refine Aw (Cn isAgg52 sizeOf52 (xN r c) (Cx.j hs4_1.1 sh).sl (Cv hs4_1.1.1 z3)) (k := ?_); exact z.1) : p := h ⟨k⟩
theorem lG (k : q) (h : Ay q → p := by intro z; refine Fa (args := [_]) (Ad call171) func171 ntmps171 ?_; refine Ut ?_; exact z.1) : p := h ⟨k⟩
theorem xM (k : q) (h : Ay q → p := by intro z; refine Af (Ai cE) (k := ?_); refine AF7 ?_; exact z.1) : p := h ⟨k⟩
theorem AC6 (k : q) (h : Ay q → p := by intro z; refine Fi Da 20 [(true, 0), (true, 1), (true, 2), (true, 3), (true, 4), (true, 5), (true, 6), (true, 7), (true, 8), (true, 9), (true, 10), (true, 11), (true, 12), (true, 13), (true, 14), (true, 15), (true, 16), (true, 17), (true, 18), (true, 19)] z4 ?_; refine Gu ?_; exact z.1) : p := h ⟨k⟩
theorem Ig (k : q) (h : Ay q → p := by intro z; refine Z2 ?_; refine Xc ?_; exact z.1) : p := h ⟨k⟩
theorem jD (k : q) (h : Ay q → p := by intro z; refine Bb (Ai Uh) (k := ?_); refine Vz ?_; exact z.1) : p := h ⟨k⟩
theorem Jr (k : q) (h : Ay q → p := by intro z; refine Z1 ?_; refine Z2 ?_; exact z.1) : p := h ⟨k⟩
theorem jE (k : q) (h : Ay q → p := by intro z; refine Aw (Ai Kv) (k := ?_); refine Aw oK (k := ?_); exact z.1) : p := h ⟨k⟩
theorem lH (k : q) (h : Ay q → p := by intro z; refine My (nC nE) ?_; refine Eh ?_; exact z.1) : p := h ⟨k⟩
theorem Js (k : q) (h : Ay q → p := by intro z; refine aY ?_; refine Bg ?_; exact z.1) : p := h ⟨k⟩
theorem cO (k : q) (h : Ay q → p := by intro z; refine xD ?_; refine gC ?_; exact z.1) : p := h ⟨k⟩
theorem tJ (k : q) (h : Ay q → p := by intro z; refine Bl K7 (k := ?_); refine Bl K7 (k := ?_); exact z.1) : p := h ⟨k⟩
theorem lI (k : q) (h : Ay q → p := by intro z; refine Cc results171 z1 ?_; refine Sb ?_; exact z.1) : p := h ⟨k⟩
theorem L7 (k : q) (h : Ay q → p := by intro z; refine Z4 ?_; refine Af (Cb (n := r.l.length) runUnderlying26 sizeOf52 x_1 (Ds.of_base Dc h_r_l).sl (Cv h_r_l.1 z3) (Br h_r_l.1)) (k := ?_); exact z.1) : p := h ⟨k⟩
theorem fN (k : q) (h : Ay q → p := by intro z; refine Bb Mv (k := ?_); refine Bb (Ai Yi) (k := ?_); exact z.1) : p := h ⟨k⟩
theorem Ry (k : q) (h : Ay q → p := by intro z; refine Cg ?_; refine Z31 ?_; exact z.1) : p := h ⟨k⟩
theorem fO (k : q) (h : Ay q → p := by intro z; refine bQ ?_; refine Z76 ?_; exact z.1) : p := h ⟨k⟩
theorem lJ (k : q) (h : Ay q → p := by intro z; refine Af (Ai F0) (k := ?_); refine Af (Bv isAgg40) (k := ?_); exact z.1) : p := h ⟨k⟩
theorem lK (k : q) (h : Ay q → p := by intro z; refine Bb (Ai Qv) (k := ?_); refine Vz ?_; exact z.1) : p := h ⟨k⟩
theorem lL (k : q) (h : Ay q → p := by intro z; refine Gw (Bt (l' := [_, _, _, _, _]) sizeOf26) (k := ?_); refine Z0 ?_; exact z.1) : p := h ⟨k⟩
theorem lM (k : q) (h : Ay q → p := by intro z; refine Aw (Ai Qu) (k := ?_); refine Aw (Bv isAgg23) (k := ?_); exact z.1) : p := h ⟨k⟩
theorem AC7 (k : q) (h : Ay q → p := by intro z; refine Cg ?_; refine Af (Cb (n := s.used.length) runUnderlying23 sizeOf4 ((s.free.getD ((((s.free.length : Nat) : Int) - 1).toNat) default).toNat) (ho1_141.slj Gh) (gD z3) Jv) (k := ?_); exact z.1) : p := h ⟨k⟩
theorem AC8 (k : q) (h : Ay q → p := by intro z; refine Zi ?_; refine AQ7 ?_; exact z.1) : p := h ⟨k⟩
theorem Vx (k : q) (h : Ay q → p := by intro z; refine Z38 ?_; refine Zd ?_; refine tF ?_; exact z.1) : p := h ⟨k⟩
theorem Pl (k : q) (h : Ay q → p := by intro z; refine Z40 ?_; refine zJ ?_; exact z.1) : p := h ⟨k⟩
theorem AC9 (k : q) (h : Ay q → p := by intro z; refine Af (Vi (s.free.take ((((s.free.length : Nat) : Int) - 1).toNat)).length ((((s.free.length : Nat) : Int) - 1).toNat) runUnderlying22 (fun w => ⟨_, sizeOf3 w⟩) (hi := z2) (hi2 := z2)) (k := ?_); refine fG ?_; exact z.1) : p := h ⟨k⟩
theorem fP (k : q) (h : Ay q → p := by intro z; refine J8 ?_; refine Wz ?_; exact z.1) : p := h ⟨k⟩
theorem xO (k : q) (h : Ay q → p := by intro z; refine Gg _ _ results144 z1 (vp (List.Perm.refl _) (nC nE)) Ou ?_; refine Ov ?_; exact z.1) : p := h ⟨k⟩
theorem Kz (k : q) (h : Ay q → p := by intro z; refine Cs ?_; refine Pi ?_; exact z.1) : p := h ⟨k⟩
theorem AM5 (k : q) (h : Ay q → p := by intro z; refine Af (Fw (n := (l.drop at_1).length) (c := (l_c - at_1)) (i := 1) 1 ((l.drop at_1).drop 1).length runUnderlying26 sizeOf52 (hlo := z3) (hnc := Ru) (hm := z5)) (k := ?_); refine Rw ?_; exact z.1) : p := h ⟨k⟩
theorem jF (k : q) (h : Ay q → p := by intro z; refine Cc results142 z1 ?_; refine xE ?_; exact z.1) : p := h ⟨k⟩
theorem AM6 (k : q) (h : Ay q → p := by intro z; refine Af (Fw (n := l.length) (c := l_c) (i := ((at_1 : Nat) : Int)) at_1 (l.drop at_1).length runUnderlying26 sizeOf52 (hlo := z3) (hnc := Ru) (hm := z5)) (k := ?_); refine Rw ?_; exact z.1) : p := h ⟨k⟩
theorem xP (k : q) (h : Ay q → p := by intro z; refine Bl Mv (k := ?_); refine Bl (Ai Yi) (k := ?_); exact z.1) : p := h ⟨k⟩
theorem cP (k : q) (h : Ay q → p := by intro z; refine Af Ki (k := ?_); refine Cg ?_; exact z.1) : p := h ⟨k⟩
theorem tK (k : q) (h : Ay q → p := by intro z; refine lC ?_; refine yP ?_; exact z.1) : p := h ⟨k⟩
theorem lN (k : q) (h : Ay q → p := by intro z; refine Cs ?_; refine K9 ?_; exact z.1) : p := h ⟨k⟩
theorem AD0 (k : q) (h : Ay q → p := by intro z; refine Z95 ?_; refine Cs ?_; exact z.1) : p := h ⟨k⟩
theorem La (k : q) (h : Ay q → p := by intro z; refine oM ?_; refine Vw ?_; exact z.1) : p := h ⟨k⟩
theorem Ro (k : q) (h : Ay q → p := by intro z; refine Xe ?_; refine Pi ?_; exact z.1) : p := h ⟨k⟩
theorem AD1 (k : q) (h : Ay q → p := by intro z; refine Me ?_; refine Gv _ _ (vp (qd (qd q0)) (nA nE)) Da 13 [(true, 0), (true, 1), (true, 2), (true, 3), (true, 4), (true, 5), (true, 6), (true, 7), (false, 8), (false, 9), (true, 10), (true, 11), (true, 12)] z4 ?_; exact z.1) : p := h ⟨k⟩
theorem L8 (k : q) (h : Ay q → p := by intro z; refine Af z62 (k := ?_); refine Q4 ?_; exact z.1) : p := h ⟨k⟩
theorem L9 (k : q) (h : Ay q → p := by intro z; refine Bl oK (k := ?_); refine Mq ?_; exact z.1) : p := h ⟨k⟩
theorem xQ (k : q) (h : Ay q → p := by intro z; refine bI ?_; refine lZ ?_; exact z.1) : p := h ⟨k⟩
theorem Rz (k : q) (h : Ay q → p := by intro z; refine oL ?_; refine Bm 3 rfl ?_; exact z.1) : p := h ⟨k⟩
theorem M0 (k : q) (h : Ay q → p := by intro z; refine Gg _ _ results53 z1 (vp (List.Perm.refl _) nE) (List.Sublist.cons _ Ou) ?_; refine Bl Lv (k := ?_); exact z.1) : p := h ⟨k⟩
theorem Xf (k : q) (h : Ay q → p := by intro z; refine Aw Hy (k := ?_); refine Xd ?_; exact z.1) : p := h ⟨k⟩
theorem M1 (k : q) (h : Ay q → p := by intro z; refine Af (Ai Uh) (k := ?_); refine AF7 ?_; exact z.1) : p := h ⟨k⟩
theorem tL (k : q) (h : Ay q → p := by intro z; refine Bb (Ai Qw) (k := ?_); refine Bb (Bv isAgg50) (k := ?_); exact z.1) : p := h ⟨k⟩
theorem Jt (k : q) (h : Ay q → p := by intro z; refine Z6 ?_; refine Z7 ?_; exact z.1) : p := h ⟨k⟩
theorem oQ (k : q) (h : Ay q → p := by intro z; refine cZ ?_; refine Z0 ?_; exact z.1) : p := h ⟨k⟩
theorem Xg (k : q) (h : Ay q → p := by intro z; refine Aw Hy (k := ?_); refine Y3 ?_; exact z.1) : p := h ⟨k⟩
theorem Vy (k : q) (h : Ay q → p := by intro z; refine Af Lc (k := ?_); refine Z0 ?_; exact z.1) : p := h ⟨k⟩
theorem Uu (k : q) (h : Ay q → p := by intro z; refine Pj ?_; refine Ae 3 rfl ?_; exact z.1) : p := h ⟨k⟩
theorem Uv (k : q) (h : Ay q → p := by intro z; refine Ae 4 rfl ?_; refine Qh ?_; exact z.1) : p := h ⟨k⟩
theorem oR (k : q) (h : Ay q → p := by intro z; refine Af (Ai Uh) (k := ?_); refine Hx ?_; exact z.1) : p := h ⟨k⟩
theorem oS (k : q) (h : Ay q → p := by intro z; refine Af (Ai Om) (k := ?_); refine jR ?_; exact z.1) : p := h ⟨k⟩
theorem AM7 (k : q) (h : Ay q → p := by intro z; refine AG2 rfl (Ad call36) (fun w1 hw1 => I0 w1 (s := r.slots) (h_s_gens := (Bp.of_base h_r_Sg) w1 hw1) (k_s_gens := Ey) (h_s_used := (Bp.of_base h_r_Su) w1 hw1) (k_s_used := Ey) (h_s_free := (Bp.of_base h_r_Sf) w1 hw1) (k_s_free := Ey)) (k := ?_); refine Ez 5 rfl z4 z62 (k := ?_); exact z.1) : p := h ⟨k⟩
theorem AM8 (k : q) (h : Ay q → p := by intro z; refine Pp ?_; refine Fv (qc (qa q0)) ?_; refine Bb Lv (k := ?_); refine xB ?_; exact z.1) : p := h ⟨k⟩
theorem AD2 (k : q) (h : Ay q → p := by intro z; refine mD (V' := ((r3, _) :: ((r4, _) :: []))) (Bt (l' := [_, _, _, _, _]) sizeOf28) (k := ?_); refine mD (V' := ((r3, _) :: ((r4, _) :: []))) (Bt (l' := [_, _, _, _, _, _]) sizeOf44) (k := ?_); exact z.1) : p := h ⟨k⟩
theorem Pm (k : q) (h : Ay q → p := by intro z; refine Z0 ?_; refine Z4 ?_; exact z.1) : p := h ⟨k⟩
theorem tM (k : q) (h : Ay q → p := by intro z; refine Sm (args := [_]) (Ad call87) func87 ntmps87 ?_; refine Ut ?_; exact z.1) : p := h ⟨k⟩
theorem AD3 (k : q) (h : Ay q → p := by intro z; refine Sc ?_; refine Aw (Cb (n := s.used.length) runUnderlying23 sizeOf4 h.slot.toNat (ho1_141.slj Gh) (gD z3) Jv) (k := ?_); exact z.1) : p := h ⟨k⟩
theorem Pn (k : q) (h : Ay q → p := by intro z; refine Ut ?_; refine Jx ?_; exact z.1) : p := h ⟨k⟩
theorem AM9 (k : q) (h : Ay q → p := by intro z; refine Zc ?_; refine oN ?_; exact z.1) : p := h ⟨k⟩
theorem Mo (k : q) (h : Ay q → p := by intro z; refine Gw (Bt (l' := [_, _, _]) sizeOf156) (k := ?_); refine Eh ?_; refine AD0 ?_; refine Af oK (k := ?_); refine Af (Ai E1) (k := ?_); refine Hx ?_; exact z.1) : p := h ⟨k⟩
theorem Mp (k : q) (h : Ay q → p := by intro z; refine Gw (Bt (l' := [_]) sizeOf22) (k := ?_); refine Eh ?_; refine AM8 ?_; exact z.1) : p := h ⟨k⟩
theorem M2 (k : q) (h : Ay q → p := by intro z; refine Ek (vs := [(Value.agg [(vi 10), (vt ([115, 104, 111, 119] : Ap)), (vi 1)].toArray)]) hl3 (qa (qa q0)) Eo ?_; refine Cs ?_; exact z.1) : p := h ⟨k⟩
theorem lO (k : q) (h : Ay q → p := by intro z; refine L1 ?_; refine gA ?_; exact z.1) : p := h ⟨k⟩
theorem Xh (k : q) (h : Ay q → p := by intro z; refine Z1 ?_; refine Pk ?_; exact z.1) : p := h ⟨k⟩
theorem AD4 (k : q) (h : Ay q → p := by intro z; refine mD (V' := ((r2, _) :: ((r3, _) :: []))) (Bt (l' := [_, _, _]) sizeOf25) (k := ?_); refine mD (V' := ((r2, _) :: ((r3, _) :: []))) (Bt (l' := [_, _]) sizeOf42) (k := ?_); exact z.1) : p := h ⟨k⟩
theorem Ze (k : q) (h : Ay q → p := by intro z; refine Af oZ (k := ?_); refine Z0 ?_; exact z.1) : p := h ⟨k⟩
theorem jG (k : q) (h : Ay q → p := by intro z; refine Gu ?_; refine Aw Mv (k := ?_); exact z.1) : p := h ⟨k⟩
theorem AD5 (k : q) (h : Ay q → p := by intro z; refine Bb (Ai Kf) (k := ?_); refine Bb (Bv isAgg26) (k := ?_); exact z.1) : p := h ⟨k⟩
theorem xS (k : q) (h : Ay q → p := by intro z; refine Af (Ai Kv) (k := ?_); refine Q2 ?_; exact z.1) : p := h ⟨k⟩
theorem xU (k : q) (h : Ay q → p := by intro z; refine Gw (Bt (l' := [_, _, _, _, _, _, _, _, _]) sizeOf88) (k := ?_); refine Eh ?_; exact z.1) : p := h ⟨k⟩
theorem Po (k : q) (h : Ay q → p := by intro z; refine Z21 ?_; refine fP ?_; exact z.1) : p := h ⟨k⟩
theorem bC (k : q) (h : Ay q → p := by intro z; refine Oz ?_; refine My (nA nE) ?_; exact z.1) : p := h ⟨k⟩
theorem fQ (k : q) (h : Ay q → p := by intro z; refine Cs ?_; refine Cg ?_; exact z.1) : p := h ⟨k⟩
theorem lP (k : q) (h : Ay q → p := by intro z; refine Hf ?_; refine Bb Lu (k := ?_); exact z.1) : p := h ⟨k⟩
theorem xV (k : q) (h : Ay q → p := by intro z; refine oL ?_; refine Bm 7 rfl ?_; exact z.1) : p := h ⟨k⟩
theorem AN0 (k : q) (h : Ay q → p := by intro z; refine Ci _ ((((qa (qa (qa (qc (qa (qa q0)))))).trans (qa (qa (qa (qa (qc (qa q0))))))).trans (qa (qa (qa (qa (qa (qc q0))))))).trans (qb (qb (qb (qb (qb (qb q0))))))) ?_; refine AQ3 ?_; exact z.1) : p := h ⟨k⟩
theorem cQ (k : q) (h : Ay q → p := by intro z; refine My (nC (nC nE)) ?_; refine rO ?_; exact z.1) : p := h ⟨k⟩
theorem xW (k : q) (h : Ay q → p := by intro z; refine lA ?_; refine Fa (args := [_]) (Ad call49) func49 ntmps49 ?_; exact z.1) : p := h ⟨k⟩
theorem lQ (k : q) (h : Ay q → p := by intro z; refine Z2 ?_; refine Af oK (k := ?_); exact z.1) : p := h ⟨k⟩
theorem M3 (k : q) (h : Ay q → p := by intro z; refine fO ?_; refine Af (Kc (m := 2) (n := 3) runUnderlying193 sizeOf156 isAgg156) (k := ?_); exact z.1) : p := h ⟨k⟩
theorem M4 (k : q) (h : Ay q → p := by intro z; refine fO ?_; refine Af (Kc (m := 3) (n := 3) runUnderlying193 sizeOf156 isAgg156) (k := ?_); exact z.1) : p := h ⟨k⟩
theorem M5 (k : q) (h : Ay q → p := by intro z; refine fO ?_; refine Af (Kc (m := 4) (n := 3) runUnderlying193 sizeOf156 isAgg156) (k := ?_); exact z.1) : p := h ⟨k⟩
theorem M6 (k : q) (h : Ay q → p := by intro z; refine fO ?_; refine Af (Kc (m := 5) (n := 3) runUnderlying193 sizeOf156 isAgg156) (k := ?_); exact z.1) : p := h ⟨k⟩
theorem M7 (k : q) (h : Ay q → p := by intro z; refine fO ?_; refine Af (Kc (m := 6) (n := 3) runUnderlying193 sizeOf156 isAgg156) (k := ?_); exact z.1) : p := h ⟨k⟩
theorem M8 (k : q) (h : Ay q → p := by intro z; refine fO ?_; refine Af (Kc (m := 7) (n := 3) runUnderlying193 sizeOf156 isAgg156) (k := ?_); exact z.1) : p := h ⟨k⟩
theorem M9 (k : q) (h : Ay q → p := by intro z; refine fO ?_; refine Af (Kc (m := 8) (n := 3) runUnderlying193 sizeOf156 isAgg156) (k := ?_); exact z.1) : p := h ⟨k⟩
theorem Rp (k : q) (h : Ay q → p := by intro z; refine Z55 ?_; refine lN ?_; exact z.1) : p := h ⟨k⟩
theorem lR (k : q) (h : Ay q → p := by intro z; refine oM ?_; refine Z4 ?_; exact z.1) : p := h ⟨k⟩
theorem AD6 (k : q) (h : Ay q → p := by intro z; refine Fi Da 8 [(true, 0), (true, 1), (true, 2), (true, 3), (true, 4), (true, 5), (true, 6), (true, 7)] z4 ?_; refine Gu ?_; exact z.1) : p := h ⟨k⟩
theorem AD7 (k : q) (h : Ay q → p := by intro z; refine Af (Ai Qv) (k := ?_); refine AF7 ?_; exact z.1) : p := h ⟨k⟩
theorem xX (k : q) (h : Ay q → p := by intro z; refine Bb (Ai Ue) (k := ?_); refine Bb oK (k := ?_); exact z.1) : p := h ⟨k⟩
theorem xY (k : q) (h : Ay q → p := by intro z; refine Bb (Ai Oo) (k := ?_); refine Bb (Bv isAgg49) (k := ?_); exact z.1) : p := h ⟨k⟩
theorem N0 (k : q) (h : Ay q → p := by intro z; refine Zl z4 _ ?_; refine Q5 ?_; exact z.1) : p := h ⟨k⟩
theorem tN (k : q) (h : Ay q → p := by intro z; refine Z6 ?_; refine Cc results140 z1 ?_; exact z.1) : p := h ⟨k⟩
theorem xZ (k : q) (h : Ay q → p := by intro z; refine Cc results160 z1 ?_; refine Z6 ?_; exact z.1) : p := h ⟨k⟩
theorem Rq (k : q) (h : Ay q → p := by intro z; refine Z55 ?_; refine Pk ?_; refine gC ?_; refine Zi ?_; refine Jq ?_; refine Z9 ?_; exact z.1) : p := h ⟨k⟩
theorem cR (k : q) (h : Ay q → p := by intro z; refine Ut ?_; refine Z2 ?_; exact z.1) : p := h ⟨k⟩
theorem N1 (k : q) (h : Ay q → p := by intro z; refine Af (Ai Ol) (k := ?_); refine Gw (Bt (l' := [_, _, _, _, _]) sizeOf3) (k := ?_); exact z.1) : p := h ⟨k⟩
theorem tP (k : q) (h : Ay q → p := by intro z; refine tH ?_; refine Bb (Ei runUnderlying23) (k := ?_); exact z.1) : p := h ⟨k⟩
theorem tQ (k : q) (h : Ay q → p := by intro z; refine Cc results86 z1 ?_; refine Z6 ?_; exact z.1) : p := h ⟨k⟩
theorem lS (k : q) (h : Ay q → p := by intro z; refine Z0 ?_; refine Jx ?_; exact z.1) : p := h ⟨k⟩
theorem yA (k : q) (h : Ay q → p := by intro z; refine Af (Ai Qv) (k := ?_); refine Hx ?_; exact z.1) : p := h ⟨k⟩
theorem AD8 (k : q) (h : Ay q → p := by intro z; refine Bb z58 (k := ?_); refine Bb (mH (AB1 _ _ _ _ _ _ _ _ _ _ _ _ _ _)) (k := ?_); exact z.1) : p := h ⟨k⟩
theorem oT (k : q) (h : Ay q → p := by intro z; refine Af Lv (k := ?_); refine Cg ?_; exact z.1) : p := h ⟨k⟩
theorem Xi (k : q) (h : Ay q → p := by intro z; refine Bq ?_; refine Vx ?_; exact z.1) : p := h ⟨k⟩
theorem Sa (k : q) (h : Ay q → p := by intro z; refine Z2 ?_; refine oN ?_; exact z.1) : p := h ⟨k⟩
theorem Rr (k : q) (h : Ay q → p := by intro z; refine aY ?_; refine Z2 ?_; exact z.1) : p := h ⟨k⟩
theorem N2 (k : q) (h : Ay q → p := by intro z; refine Fa (args := [_, _, _]) (Ad call86) func86 ntmps86 ?_; refine Ig ?_; exact z.1) : p := h ⟨k⟩
theorem Xj (k : q) (h : Ay q → p := by intro z; refine Cs ?_; refine oN ?_; exact z.1) : p := h ⟨k⟩
theorem AN1 (k : q) (h : Ay q → p := by intro z; refine Aw (Ai cI) (k := ?_); refine Aw (Ai Kx) (k := ?_); exact z.1) : p := h ⟨k⟩
theorem N3 (k : q) (h : Ay q → p := by intro z; refine Af (Ai Kg) (k := ?_); refine uB ?_; exact z.1) : p := h ⟨k⟩
theorem lT (k : q) (h : Ay q → p := by intro z; refine Z85 ?_; refine Gu ?_; exact z.1) : p := h ⟨k⟩
theorem tR (k : q) (h : Ay q → p := by intro z; refine AG9 (.inr rfl) results85 q0 ?_; refine yQ ?_; exact z.1) : p := h ⟨k⟩
theorem AN2 (k : q) (h : Ay q → p := by intro z; refine Bl (Cb (n := (l.drop at_1).length) runUnderlying26 sizeOf52 0 (Bp.off bP at_1 l_c Ru) (gD z3) Jv) (k := ?_); refine Bl (Pa Kg) (k := ?_); exact z.1) : p := h ⟨k⟩
theorem AN3 (k : q) (h : Ay q → p := by intro z; refine Bl (Cb (n := s.free.length) runUnderlying22 sizeOf3 i_8 wZ (gD z3) Jv) (k := ?_); refine Bl (Bz isAgg3 i_8 0 wZ (gD z3)) (k := ?_); exact z.1) : p := h ⟨k⟩
theorem AD9 (k : q) (h : Ay q → p := by intro z; refine Fk _ (sd (sa (sk (sk (sa (sa (sa (sa (sk (sk (sa (sa (sk (sa (sk (sa (sa (sa (sk (sk sz)))))))))))))))))))) ?_; refine Cs ?_; exact z.1) : p := h ⟨k⟩
theorem AN4 (k : q) (h : Ay q → p := by intro z; refine Gv _ _ (vp ((qc (qa q0)).trans (qa (qc (qa q0)))) (nC (nC nE))) Da 9 [(true, 0), (true, 1), (true, 2), (true, 3), (true, 4), (true, 5), (false, 6), (false, 7), (true, 8)] z4 ?_; refine mB ?_; exact z.1) : p := h ⟨k⟩
theorem AN5 (k : q) (h : Ay q → p := by intro z; refine Af (Cb (n := l.length) runUnderlying50 sizeOf62 x_1 bP (gD z3) Jv) (k := ?_); refine Af (Cn isAgg62 sizeOf62 x_1 bP (gD z3)) (k := ?_); exact z.1) : p := h ⟨k⟩
theorem AE0 (k : q) (h : Ay q → p := by intro z; refine yN ?_; refine Af (Ef (cs := [_, _, _, _]) zeroValue146 AI3) (k := ?_); exact z.1) : p := h ⟨k⟩
theorem fR (k : q) (h : Ay q → p := by intro z; refine fH ?_; refine Bm 3 rfl ?_; exact z.1) : p := h ⟨k⟩
theorem yB (k : q) (h : Ay q → p := by intro z; refine uD ?_; refine oP ?_; refine Af (Ef (cs := [_, _, _, _, _, _, _, _, _]) zeroValue88 F3) (k := ?_); exact z.1) : p := h ⟨k⟩
theorem AN6 (k : q) (h : Ay q → p := by intro z; refine Af (Cb (n := s.gens.length) runUnderlying22 sizeOf3 i_2 gS (gD z3) Jv) (k := ?_); refine Af (Bz isAgg3 i_2 0 gS (gD z3)) (k := ?_); exact z.1) : p := h ⟨k⟩
theorem AN7 (k : q) (h : Ay q → p := by intro z; refine Af (Cb (n := s.used.length) runUnderlying23 sizeOf4 i_2 kY (gD z3) Jv) (k := ?_); refine Af (Bz isAgg4 i_2 0 kY (gD z3)) (k := ?_); exact z.1) : p := h ⟨k⟩
theorem AN8 (k : q) (h : Ay q → p := by intro z; refine Aw (Cb (n := s.free.length) runUnderlying22 sizeOf3 i_8 wZ (gD z3) Jv) (k := ?_); refine Aw (Bz isAgg3 i_8 0 wZ (gD z3)) (k := ?_); exact z.1) : p := h ⟨k⟩
theorem yC (k : q) (h : Ay q → p := by intro z; refine Vz ?_; refine cW ?_; exact z.1) : p := h ⟨k⟩
theorem yD (k : q) (h : Ay q → p := by intro z; refine Ow rfl ?_; refine Ca ?_; exact z.1) : p := h ⟨k⟩
theorem N4 (k : q) (h : Ay q → p := by intro z; refine Fa (args := [_]) (Ad call84) func84 ntmps84 ?_; refine Z2 ?_; exact z.1) : p := h ⟨k⟩
theorem AE1 (k : q) (h : Ay q → p := by intro z; refine Af (Dq isAgg32 sizeOf32) (k := ?_); refine Af (Ef (cs := [_, _]) zeroValue228 AI2) (k := ?_); exact z.1) : p := h ⟨k⟩
theorem cS (k : q) (h : Ay q → p := by intro z; refine Gj rfl ?_; refine Z4 ?_; exact z.1) : p := h ⟨k⟩
theorem lU (k : q) (h : Ay q → p := by intro z; refine Lb ?_; refine Jy ?_; exact z.1) : p := h ⟨k⟩
theorem AE2 (k : q) (h : Ay q → p := by intro z; refine Vw ?_; refine Gg _ _ results147 z1 (vp (List.Perm.refl _) (nC nE)) Ou ?_; exact z.1) : p := h ⟨k⟩
theorem yE (k : q) (h : Ay q → p := by intro z; refine Cc results49 z1 ?_; refine lS ?_; exact z.1) : p := h ⟨k⟩
theorem AE3 (k : q) (h : Ay q → p := by intro z; refine Rj ?_; refine AM9 ?_; refine K0 ?_; exact z.1) : p := h ⟨k⟩
theorem N5 (k : q) (h : Ay q → p := by intro z; refine Fk _ (sk (sd (sd (sa (sk (sk (sa (sk (sk (sk sz)))))))))) ?_; refine Cs ?_; exact z.1) : p := h ⟨k⟩
theorem tS (k : q) (h : Ay q → p := by intro z; refine Aw Ps (k := ?_); refine Gu ?_; exact z.1) : p := h ⟨k⟩
theorem AE4 (k : q) (h : Ay q → p := by intro z; refine Af (Rl (u := Value.nilIface) (v := Value.nilIface) (b := false) (fun w => by kernel_rfl)) (k := ?_); refine Z0 ?_; exact z.1) : p := h ⟨k⟩
theorem AN9 (k : q) (h : Ay q → p := by intro z; refine lR ?_; refine Gy (Ad call127) (fun w1 hw1 => iO w1 (n_ := (((0 + ((((l.take at_1).length) : Nat) : Int)) + 1) + (((((l.drop at_1).drop 1).length) : Nat) : Int))) (hi := z6)) (k := ?_); exact z.1) : p := h ⟨k⟩
theorem Uw (k : q) (h : Ay q → p := by intro z; refine Z0 ?_; refine Z2 ?_; exact z.1) : p := h ⟨k⟩
theorem yF (k : q) (h : Ay q → p := by intro z; refine Af (Ei runUnderlying23) (k := ?_); refine Lq ?_; exact z.1) : p := h ⟨k⟩
theorem jH (k : q) (h : Ay q → p := by intro z; refine Rv ?_; refine Ae 3 rfl ?_; exact z.1) : p := h ⟨k⟩
theorem lV (k : q) (h : Ay q → p := by intro z; refine Bb Nv (k := ?_); refine Pj ?_; exact z.1) : p := h ⟨k⟩
theorem Xk (k : q) (h : Ay q → p := by intro z; refine bQ ?_; refine jC ?_; exact z.1) : p := h ⟨k⟩
theorem yG (k : q) (h : Ay q → p := by intro z; refine Z92 ?_; refine gA ?_; exact z.1) : p := h ⟨k⟩
theorem cT (k : q) (h : Ay q → p := by intro z; refine Ea ?_; refine Bg ?_; exact z.1) : p := h ⟨k⟩
theorem N6 (k : q) (h : Ay q → p := by intro z; refine Bb (Ai Kv) (k := ?_); refine Bb oK (k := ?_); exact z.1) : p := h ⟨k⟩
theorem AO0 (k : q) (h : Ay q → p := by intro z; refine AQ5 ?_; refine Gu ?_; exact z.1) : p := h ⟨k⟩
theorem N7 (k : q) (h : Ay q → p := by intro z; refine Bl (Ai Yk) (k := ?_); refine bK ?_; exact z.1) : p := h ⟨k⟩
theorem N8 (k : q) (h : Ay q → p := by intro z; refine Bl (Ai Yl) (k := ?_); refine bK ?_; exact z.1) : p := h ⟨k⟩
theorem N9 (k : q) (h : Ay q → p := by intro z; refine Bb (Ai Om) (k := ?_); refine Bb (Bv isAgg9) (k := ?_); exact z.1) : p := h ⟨k⟩
theorem AO1 (k : q) (h : Ay q → p := by intro z; refine Cj _ (sa (sk (sd (sk (sa (sk (sk (sa (sa (sa (sa (sk (sk (sa (sa (sk (sa (sk (sa (sa (sa (sk (sk sz))))))))))))))))))))))) ?_; refine Cc results70 rK ?_; exact z.1) : p := h ⟨k⟩
theorem O0 (k : q) (h : Ay q → p := by intro z; refine Hf ?_; refine Bb (zQ runUnderlying9) (k := ?_); exact z.1) : p := h ⟨k⟩
theorem O1 (k : q) (h : Ay q → p := by intro z; refine Af (Ai Oo) (k := ?_); refine Af (Bv isAgg49) (k := ?_); exact z.1) : p := h ⟨k⟩
theorem yH (k : q) (h : Ay q → p := by intro z; refine Z4 ?_; refine yO ?_; exact z.1) : p := h ⟨k⟩
theorem lW (k : q) (h : Ay q → p := by intro z; refine Zg ?_; refine Z1 ?_; exact z.1) : p := h ⟨k⟩
theorem O2 (k : q) (h : Ay q → p := by intro z; refine Af (Ai Yl) (k := ?_); refine Hx ?_; exact z.1) : p := h ⟨k⟩
theorem O3 (k : q) (h : Ay q → p := by intro z; refine Aw (Ai Ol) (k := ?_); refine Sc ?_; exact z.1) : p := h ⟨k⟩
theorem O4 (k : q) (h : Ay q → p := by intro z; refine lB ?_; refine Xv [] (List.Perm.refl _) results91 z1 ?_; refine AE3 ?_; exact z.1) : p := h ⟨k⟩
theorem bD (k : q) (h : Ay q → p := by intro z; refine fK ?_; refine fK ?_; exact z.1) : p := h ⟨k⟩
theorem bE (k : q) (h : Ay q → p := by intro z; refine Af (Ei runUnderlying182) (k := ?_); refine Lq ?_; refine Lj ?_; refine K8 ?_; refine Af (Hg runUnderlying182 sizeOf26 0) (k := ?_); exact z.1) : p := h ⟨k⟩
theorem AE5 (k : q) (h : Ay q → p := by intro z; refine Af (Hg runUnderlying184 sizeOf138 2) (k := ?_); refine Af (Bv isAgg138) (k := ?_); exact z.1) : p := h ⟨k⟩
theorem Zf (k : q) (h : Ay q → p := by intro z; refine J7 ?_; refine Z4 ?_; exact z.1) : p := h ⟨k⟩
theorem AE6 (k : q) (h : Ay q → p := by intro z; refine lC ?_; refine Af (Ef (cs := [_, _, _, _, _, _, _, _, _, _, _, _]) zeroValue36 AB0) (k := ?_); exact z.1) : p := h ⟨k⟩
theorem AO2 (k : q) (h : Ay q → p := by intro z; refine Af (Dv isAgg78 hgl3) (k := ?_); refine Fu (args := [(Value.iface 240 (.pointer (some ea0))), (Value.iface 240 (.pointer (some ea0)))]) (Ad call176) (fun w1 hw1 => Zn w1) (k := ?_); exact z.1) : p := h ⟨k⟩
theorem AO3 (k : q) (h : Ay q → p := by intro z; refine AG2 rfl (Ad call42) (fun w1 hw1 => vV w1 (e_ := err_1) (hG.ext hw1.ext_out)) (k := ?_); refine Ez 10 rfl z4 z58 (k := ?_); exact z.1) : p := h ⟨k⟩
theorem O5 (k : q) (h : Ay q → p := by intro z; refine fI ?_; refine Wz ?_; exact z.1) : p := h ⟨k⟩
theorem jI (k : q) (h : Ay q → p := by intro z; refine L3 ?_; refine Fl ?_; exact z.1) : p := h ⟨k⟩
theorem AO4 (k : q) (h : Ay q → p := by intro z; refine Cg ?_; refine Af (Cb (n := r.l.length) runUnderlying26 sizeOf52 i_2 (Ds.of_base Dc h_r_l).sl (Cv h_r_l.1 z3) (Br h_r_l.1)) (k := ?_); exact z.1) : p := h ⟨k⟩
theorem AO5 (k : q) (h : Ay q → p := by intro z; refine AG2 rfl (Ad call42) (fun w1 hw1 => vU w1 (hG.ext hw1.ext_out)) (k := ?_); refine Ez 10 rfl z4 z58 (k := ?_); exact z.1) : p := h ⟨k⟩
theorem cU (k : q) (h : Ay q → p := by intro z; refine Bg ?_; refine Pk ?_; exact z.1) : p := h ⟨k⟩
theorem O6 (k : q) (h : Ay q → p := by intro z; refine AN1 ?_; refine Aw Y0 (k := ?_); exact z.1) : p := h ⟨k⟩
theorem bF (k : q) (h : Ay q → p := by intro z; refine lR ?_; refine Z6 ?_; exact z.1) : p := h ⟨k⟩
theorem bG (k : q) (h : Ay q → p := by intro z; refine lA ?_; refine Z88 ?_; exact z.1) : p := h ⟨k⟩
theorem bH (k : q) (h : Ay q → p := by intro z; refine lH ?_; refine Ci _ ((((((((((((((qa (qa (qa (qa (qa (qa (qa (qa (qa (qa (qc (qa (qa (qa q0)))))))))))))).trans (qa (qa (qa (qa (qa (qa (qa (qa (qa (qa (qa (qc (qa (qa q0))))))))))))))).trans (qa (qa (qa (qa (qa (qa (qa (qa (qa (qa (qa (qa (qc (qa q0))))))))))))))).trans (qa (qa (qa (qa (qa (qa (qa (qa (qa (qa (qa (qa (qa (qc q0))))))))))))))).trans (qb (qb (qb (qb (qb (qb (qb (qb (qb (qb (qb (qb (qb (qb q0))))))))))))))).trans (qc (qa (qa (qa (qa (qa (qa (qa (qa (qa (qa (qa (qa (qa q0))))))))))))))).trans (qa (qc (qa (qa (qa (qa (qa (qa (qa (qa (qa (qa (qa (qa q0))))))))))))))).trans (qa (qa (qc (qa (qa (qa (qa (qa (qa (qa (qa (qa (qa (qa q0))))))))))))))).trans (qa (qa (qa (qc (qa (qa (qa (qa (qa (qa (qa (qa (qa (qa q0))))))))))))))).trans (qa (qa (qa (qa (qc (qa (qa (qa (qa (qa (qa (qa (qa (qa q0))))))))))))))).trans (qa (qa (qa (qa (qa (qc (qa (qa (qa (qa (qa (qa (qa (qa q0))))))))))))))).trans (qa (qa (qa (qa (qa (qa (qc (qa (qa (qa (qa (qa (qa (qa q0))))))))))))))).trans (qa (qa (qa (qa (qa (qa (qa (qc (qa (qa (qa (qa (qa (qa q0))))))))))))))).trans (qa (qa (qa (qa (qa (qa (qa (qa (qc (qa (qa (qa (qa q0)))))))))))))) ?_; refine Cj _ (List.Sublist.cons_cons _ (List.Sublist.cons_cons _ (List.Sublist.cons_cons _ (List.Sublist.cons_cons _ (List.Sublist.cons_cons _ (List.Sublist.cons_cons _ (List.Sublist.cons_cons _ (List.Sublist.cons_cons _ (List.Sublist.cons_cons _ (List.Sublist.append Ou (List.Sublist.cons_cons _ (List.Sublist.cons_cons _ oJ)))))))))))) ?_; exact z.1) : p := h ⟨k⟩
theorem AO6 (k : q) (h : Ay q → p := by intro z; refine Fu (Ad call106) (fun w1 hw1 => qA w1 (l := t.rules) (h_l := (Bp.of_base h_t_rules) w1 hw1) (n_l := z6)) (k := ?_); refine Cg ?_; exact z.1) : p := h ⟨k⟩
theorem O7 (k : q) (h : Ay q → p := by intro z; refine Hx ?_; refine Cg ?_; exact z.1) : p := h ⟨k⟩
theorem AO7 (k : q) (h : Ay q → p := by intro z; refine Bl (Pa Mb) (k := ?_); refine Bl (Bz isAgg3 0 0 (Bp.off bP at_1 l_c Ru) (gD z3)) (k := ?_); exact z.1) : p := h ⟨k⟩
theorem AE7 (k : q) (h : Ay q → p := by intro z; refine Ez 0 rfl z4 Ho (k := ?_); refine Ez 2 rfl z4 Ho (k := ?_); exact z.1) : p := h ⟨k⟩
theorem AO8 (k : q) (h : Ay q → p := by intro z; refine Gv _ _ (vp (List.Perm.refl _) (nA nE)) Da 9 [(true, 0), (true, 1), (true, 2), (true, 3), (true, 4), (true, 5), (true, 6), (true, 7), (false, 8)] z4 ?_; refine Xa ?_; exact z.1) : p := h ⟨k⟩
theorem AE8 (k : q) (h : Ay q → p := by intro z; refine Pi ?_; refine Cj _ (sk (sk (sd (sd (sk (sk (sk (sk (sa (sk (sk (sk (sk sz))))))))))))) ?_; exact z.1) : p := h ⟨k⟩
theorem fS (k : q) (h : Ay q → p := by intro z; refine Bq ?_; refine Z76 ?_; exact z.1) : p := h ⟨k⟩
theorem O8 (k : q) (h : Ay q → p := by intro z; refine oY ?_; refine Me ?_; exact z.1) : p := h ⟨k⟩
theorem O9 (k : q) (h : Ay q → p := by intro z; refine Hx ?_; refine bJ ?_; exact z.1) : p := h ⟨k⟩
theorem oU (k : q) (h : Ay q → p := by intro z; refine Af Lv (k := ?_); refine Z1 ?_; exact z.1) : p := h ⟨k⟩
theorem AO9 (k : q) (h : Ay q → p := by intro z; refine Cj _ (sk (sd (sk (sa (sa (sk (sa (sk (sa (sa (sa (sk (sk sz))))))))))))) ?_; refine Cc results31 (Fb.agg isAgg52 sizeOf52 rfl me rfl z1) ?_; exact z.1) : p := h ⟨k⟩
theorem AP0 (k : q) (h : Ay q → p := by intro z; refine lT ?_; refine Aw (Cb (n := r.l.length) runUnderlying26 sizeOf52 i_1 (Ds.of_base Dc h_r_l).sl (Cv h_r_l.1 z3) (Br h_r_l.1)) (k := ?_); exact z.1) : p := h ⟨k⟩
theorem P0 (k : q) (h : Ay q → p := by intro z; refine Cc results84 z1 ?_; refine lS ?_; exact z.1) : p := h ⟨k⟩
theorem tU (k : q) (h : Ay q → p := by intro z; refine Sb ?_; refine L4 ?_; exact z.1) : p := h ⟨k⟩
theorem P1 (k : q) (h : Ay q → p := by intro z; refine Cc results165 z1 ?_; refine Z6 ?_; exact z.1) : p := h ⟨k⟩
theorem P2 (k : q) (h : Ay q → p := by intro z; refine Cc results94 z1 ?_; refine Vv ?_; exact z.1) : p := h ⟨k⟩
theorem AP1 (k : q) (h : Ay q → p := by intro z; refine tL ?_; refine Ih (Ad call107) (fun w1 hw1 => qC w1 (l := t.creds) (h_l := (Bp.of_base h_t_creds) w1 hw1) (n_l := z6)) (k := ?_); exact z.1) : p := h ⟨k⟩
theorem yI (k : q) (h : Ay q → p := by intro z; refine xP ?_; refine Bl (Ai Ue) (k := ?_); exact z.1) : p := h ⟨k⟩
theorem yJ (k : q) (h : Ay q → p := by intro z; refine Bl (Ai Kv) (k := ?_); refine L9 ?_; exact z.1) : p := h ⟨k⟩
theorem AP2 (k : q) (h : Ay q → p := by intro z; refine xZ ?_; refine Gg _ _ results146 z1 (vp (List.Perm.refl _) (nC nE)) (List.Sublist.trans Ou (List.sublist_append_right _ _)) ?_; exact z.1) : p := h ⟨k⟩
theorem AP3 (k : q) (h : Ay q → p := by intro z; refine Rw ?_; refine Gv _ _ (vp (List.Perm.refl _) (nA nE)) Da 8 [(true, 0), (true, 1), (true, 2), (true, 3), (true, 4), (true, 5), (false, 6), (true, 7)] z4 ?_; exact z.1) : p := h ⟨k⟩
theorem jJ (k : q) (h : Ay q → p := by intro z; refine fJ ?_; refine Bg ?_; exact z.1) : p := h ⟨k⟩
theorem P3 (k : q) (h : Ay q → p := by intro z; refine AD5 ?_; refine Bb (Ei runUnderlying26) (k := ?_); exact z.1) : p := h ⟨k⟩
theorem tV (k : q) (h : Ay q → p := by intro z; refine Ez 13 rfl z4 Fj (k := ?_); refine Zl z4 _ ?_; refine My (nA (nA nE)) ?_; exact z.1) : p := h ⟨k⟩
theorem AE9 (k : q) (h : Ay q → p := by intro z; refine Fa (args := [_]) (Ad call160) func160 ntmps160 ?_; refine Ig ?_; exact z.1) : p := h ⟨k⟩
theorem AP4 (k : q) (h : Ay q → p := by intro z; refine jJ ?_; refine Fi Da 11 [(true, 0), (true, 1), (true, 2), (true, 3), (true, 4), (true, 5), (true, 6), (true, 7), (true, 8), (true, 9), (true, 10)] z4 ?_; exact z.1) : p := h ⟨k⟩
theorem P4 (k : q) (h : Ay q → p := by intro z; refine cX ?_; refine Lq ?_; exact z.1) : p := h ⟨k⟩
theorem oV (k : q) (h : Ay q → p := by intro z; refine Rv ?_; refine Ae 2 rfl ?_; exact z.1) : p := h ⟨k⟩
theorem AF0 (k : q) (h : Ay q → p := by intro z; refine Sm (args := [_]) (Ad call147) func147 ntmps147 ?_; refine Ut ?_; exact z.1) : p := h ⟨k⟩
theorem AF1 (k : q) (h : Ay q → p := by intro z; refine Xh ?_; refine R8 (args := [_]) (Ad call91) func91 ntmps91 ?_; exact z.1) : p := h ⟨k⟩
theorem P5 (k : q) (h : Ay q → p := by intro z; refine Z4 ?_; refine Zh ?_; exact z.1) : p := h ⟨k⟩
theorem AP5 (k : q) (h : Ay q → p := by intro z; refine xE ?_; refine Xh ?_; exact z.1) : p := h ⟨k⟩
theorem fT (k : q) (h : Ay q → p := by intro z; refine Bg ?_; refine Z4 ?_; exact z.1) : p := h ⟨k⟩
theorem fU (k : q) (h : Ay q → p := by intro z; refine O5 ?_; refine Ci _ (((((((qa (qa (qa (qa (qc (qa (qa (qa q0)))))))).trans (qa (qa (qa (qa (qa (qc (qa (qa q0))))))))).trans (qa (qa (qa (qa (qa (qa (qc (qa q0))))))))).trans (qa (qa (qa (qa (qa (qa (qa (qc q0))))))))).trans (qb (qb (qb (qb (qb (qb (qb (qb q0))))))))).trans (qc (qa (qa (qa (qa (qa q0))))))).trans (qa (qc (qa (qa (qa (qa q0))))))) ?_; refine Cj _ (List.Sublist.cons_cons _ (List.Sublist.cons_cons _ (List.Sublist.append Ou (List.Sublist.cons_cons _ (List.Sublist.cons_cons _ oJ))))) ?_; exact z.1) : p := h ⟨k⟩
theorem tW (k : q) (h : Ay q → p := by intro z; refine Z92 ?_; refine Cg ?_; exact z.1) : p := h ⟨k⟩
theorem cV (k : q) (h : Ay q → p := by intro z; refine Rw ?_; refine Z2 ?_; exact z.1) : p := h ⟨k⟩
theorem AP6 (k : q) (h : Ay q → p := by intro z; refine Zf ?_; refine Fu (Ad call93) (fun w1 hw1 => aN w1 (l := l) (h_l := (Bp.of_base h_l) w1 hw1) (n_l := z6)) (k := ?_); exact z.1) : p := h ⟨k⟩
theorem tX (k : q) (h : Ay q → p := by intro z; refine Af Hh (k := ?_); refine Z1 ?_; exact z.1) : p := h ⟨k⟩
theorem tY (k : q) (h : Ay q → p := by intro z; refine Bb Lu (k := ?_); refine Rv ?_; exact z.1) : p := h ⟨k⟩
theorem tZ (k : q) (h : Ay q → p := by intro z; refine yD ?_; refine Ox rfl ?_; exact z.1) : p := h ⟨k⟩
theorem uA (k : q) (h : Ay q → p := by intro z; refine Aw (Vi (l.take at_1).length at_1 runUnderlying26 (fun w => ⟨_, sizeOf52 w⟩) (hi := z2) (hi2 := z2)) (k := ?_); refine Aw Y0 (k := ?_); refine Gu ?_; exact z.1) : p := h ⟨k⟩
theorem yK (k : q) (h : Ay q → p := by intro z; refine Lb ?_; refine Ox rfl ?_; exact z.1) : p := h ⟨k⟩
theorem AP7 (k : q) (h : Ay q → p := by intro z; refine yP ?_; refine cY ?_; exact z.1) : p := h ⟨k⟩
theorem AF2 (k : q) (h : Ay q → p := by intro z; refine Af (Dq isAgg36 sizeOf36) (k := ?_); refine Cg ?_; exact z.1) : p := h ⟨k⟩
theorem fV (k : q) (h : Ay q → p := by intro z; refine tD ?_; refine J9 ?_; exact z.1) : p := h ⟨k⟩
theorem fW (k : q) (h : Ay q → p := by intro z; refine Jr ?_; refine Af dD (k := ?_); refine Z6 ?_; exact z.1) : p := h ⟨k⟩
theorem oW (k : q) (h : Ay q → p := by intro z; refine R6 ?_; refine Bg ?_; refine Q8 ?_; refine Ea ?_; refine Z2 ?_; exact z.1) : p := h ⟨k⟩
theorem P6 (k : q) (h : Ay q → p := by intro z; refine Pl ?_; refine Kb (.inr rfl) results138 q0 ?_; exact z.1) : p := h ⟨k⟩
theorem fX (k : q) (h : Ay q → p := by intro z; refine Z56 ?_; refine Pi ?_; exact z.1) : p := h ⟨k⟩
theorem jK (k : q) (h : Ay q → p := by intro z; refine Ro ?_; refine O4 ?_; exact z.1) : p := h ⟨k⟩
theorem jL (k : q) (h : Ay q → p := by intro z; refine bB ?_; refine AM9 ?_; exact z.1) : p := h ⟨k⟩
theorem AP8 (k : q) (h : Ay q → p := by intro z; refine Fk _ (sa (sd (sk (sd (sk (sk (sa (sk (sk (sa (sa (sa (sa (sk (sk (sa (sa (sk (sa (sk (sa (sa (sa (sk (sk sz))))))))))))))))))))))))) ?_; refine fQ ?_; exact z.1) : p := h ⟨k⟩
theorem P7 (k : q) (h : Ay q → p := by intro z; refine cN ?_; refine Bb (Bv isAgg129) (k := ?_); exact z.1) : p := h ⟨k⟩
theorem oX (k : q) (h : Ay q → p := by intro z; refine Eh ?_; refine Pp ?_; exact z.1) : p := h ⟨k⟩
theorem AF3 (k : q) (h : Ay q → p := by intro z; refine Aw (Cb (n := s.gens.length) runUnderlying22 sizeOf3 ((s.free.getD ((((s.free.length : Nat) : Int) - 1).toNat) default).toNat) (hos302.slj Bh) (gD z3) Jv) (k := ?_); refine Aw (Bz isAgg3 ((s.free.getD ((((s.free.length : Nat) : Int) - 1).toNat) default).toNat) 0 (hos302.slj Bh) (gD z3)) (k := ?_); refine Aw z68 (k := ?_); exact z.1) : p := h ⟨k⟩
theorem P8 (k : q) (h : Ay q → p := by intro z; refine oW ?_; refine Af (Bv isAgg129) (k := ?_); exact z.1) : p := h ⟨k⟩
theorem lX (k : q) (h : Ay q → p := by intro z; refine yM ?_; refine Z94 ?_; refine Eh ?_; exact z.1) : p := h ⟨k⟩
theorem P9 (k : q) (h : Ay q → p := by intro z; refine Zl z4 _ ?_; refine My (nA nE) ?_; exact z.1) : p := h ⟨k⟩
theorem AF4 (k : q) (h : Ay q → p := by intro z; refine Cc results151 z1 ?_; refine Af Ki (k := ?_); exact z.1) : p := h ⟨k⟩
theorem AP9 (k : q) (h : Ay q → p := by intro z; refine Cc results159 (Fb.agg isAgg62 sizeOf62 rfl me rfl Fb.nil) ?_; refine lY ?_; exact z.1) : p := h ⟨k⟩
theorem AF5 (k : q) (h : Ay q → p := by intro z; refine Kl ((Ai cI).k) (k := ?_); refine Kl ((Ai Kx).k) (k := ?_); exact z.1) : p := h ⟨k⟩
theorem AQ0 (k : q) (h : Ay q → p := by intro z; refine Bl (Bv isAgg9) (k := ?_); refine Nu (Ad call137) (fun w1 hw1 => qB w1 (key := ((l.getD i_1 default).key))) (k := ?_); exact z.1) : p := h ⟨k⟩
theorem fY (k : q) (h : Ay q → p := by intro z; refine Xb ?_; refine Z2 ?_; exact z.1) : p := h ⟨k⟩
theorem jM (k : q) (h : Ay q → p := by intro z; refine Pm ?_; refine fG ?_; exact z.1) : p := h ⟨k⟩
theorem Q0 (k : q) (h : Ay q → p := by intro z; refine Hf ?_; refine Bb Ps (k := ?_); exact z.1) : p := h ⟨k⟩
theorem jN (k : q) (h : Ay q → p := by intro z; refine Cc results141 (Fb.tmp rfl (Fb.tmp rfl z1)) ?_; refine Cg ?_; refine K1 ?_; refine AP5 ?_; refine Cg ?_; refine Fa (args := [_]) (Ad call142) func142 ntmps142 ?_; refine cR ?_; exact z.1) : p := h ⟨k⟩
theorem jO (k : q) (h : Ay q → p := by intro z; refine Me ?_; refine Z4 ?_; refine Af (mP underlying219) (k := ?_); exact z.1) : p := h ⟨k⟩
theorem fZ (k : q) (h : Ay q → p := by intro z; refine Z0 ?_; refine Zc ?_; exact z.1) : p := h ⟨k⟩
theorem AF6 (k : q) (h : Ay q → p := by intro z; refine Bl (Ai Mb) (k := ?_); refine bK ?_; exact z.1) : p := h ⟨k⟩
theorem jP (k : q) (h : Ay q → p := by intro z; refine Cj _ (sd (sd (sk (sk (sd (sd (sa (sk (sk (sk (sk sz))))))))))) ?_; refine Z42 ?_; refine K1 ?_; exact z.1) : p := h ⟨k⟩
theorem jQ (k : q) (h : Ay q → p := by intro z; refine oL ?_; refine Bm 5 rfl ?_; refine xV ?_; exact z.1) : p := h ⟨k⟩
theorem gA (k : q) (h : Ay q → p := by intro z; refine Af Y1 (k := ?_); exact z.1) : p := h ⟨k⟩
theorem Cg (k : q) (h : Ay q → p := by intro z; refine Af Ho (k := ?_); exact z.1) : p := h ⟨k⟩
theorem bI (k : q) (h : Ay q → p := by intro z; refine Af z66 (k := ?_); exact z.1) : p := h ⟨k⟩
theorem Gu (k : q) (h : Ay q → p := by intro z; refine Aw Ho (k := ?_); exact z.1) : p := h ⟨k⟩
theorem Mq (k : q) (h : Ay q → p := by intro z; refine Bl Ho (k := ?_); exact z.1) : p := h ⟨k⟩
theorem Sb (k : q) (h : Ay q → p := by intro z; refine Af Fj (k := ?_); exact z.1) : p := h ⟨k⟩
theorem Hf (k : q) (h : Ay q → p := by intro z; refine Bb Ho (k := ?_); exact z.1) : p := h ⟨k⟩
theorem yL (k : q) (h : Ay q → p := by intro z; refine Bb z68 (k := ?_); exact z.1) : p := h ⟨k⟩
theorem Cs (k : q) (h : Ay q → p := by intro z; refine Y5 ?_; exact z.1) : p := h ⟨k⟩
theorem oY (k : q) (h : Ay q → p := by intro z; refine Gw (Bt (l' := [_]) sizeOf3) (k := ?_); exact z.1) : p := h ⟨k⟩
theorem Zg (k : q) (h : Ay q → p := by intro z; refine Af Nv (k := ?_); exact z.1) : p := h ⟨k⟩
theorem uB (k : q) (h : Ay q → p := by intro z; refine Af (Dq isAgg42 sizeOf42) (k := ?_); exact z.1) : p := h ⟨k⟩
theorem Q1 (k : q) (h : Ay q → p := by intro z; refine A0 rfl (Ad call72) (fun w1 hw1 => eK w1 (s := s.used) (h_s := (Bp.of_base h_s_used) w1 hw1) (n_s := z6)) (k := ?_); exact z.1) : p := h ⟨k⟩
theorem uC (k : q) (h : Ay q → p := by intro z; refine A0 rfl (Ad call71) (fun w1 hw1 => Wo w1 (s := s.free) (h_s := (Bp.of_base h_s_free) w1 hw1) (n_s := z6)) (k := ?_); exact z.1) : p := h ⟨k⟩
theorem bJ (k : q) (h : Ay q → p := by intro z; refine Af yS (k := ?_); exact z.1) : p := h ⟨k⟩
theorem Sc (k : q) (h : Ay q → p := by intro z; refine Aw xH (k := ?_); exact z.1) : p := h ⟨k⟩
theorem Q2 (k : q) (h : Ay q → p := by intro z; refine Gw (Bt (l' := [_, _, _]) sizeOf22) (k := ?_); exact z.1) : p := h ⟨k⟩
theorem yM (k : q) (h : Ay q → p := by intro z; refine Ez 4 rfl z4 z55 (k := ?_); exact z.1) : p := h ⟨k⟩
theorem cW (k : q) (h : Ay q → p := by intro z; refine Bb Pt (k := ?_); exact z.1) : p := h ⟨k⟩
theorem bK (k : q) (h : Ay q → p := by intro z; refine Bl xH (k := ?_); exact z.1) : p := h ⟨k⟩
theorem Hx (k : q) (h : Ay q → p := by intro z; refine Af xH (k := ?_); exact z.1) : p := h ⟨k⟩
theorem Vz (k : q) (h : Ay q → p := by intro z; refine Bb xH (k := ?_); exact z.1) : p := h ⟨k⟩
theorem Zh (k : q) (h : Ay q → p := by intro z; refine Af (Ei runUnderlying49) (k := ?_); exact z.1) : p := h ⟨k⟩
theorem AQ1 (k : q) (h : Ay q → p := by intro z; refine A0 rfl (Ad call82) (fun w1 hw1 => Wp w1 (s := l) (h_s := (Bp.of_base h_l) w1 hw1) (n_s := z6)) (k := ?_); exact z.1) : p := h ⟨k⟩
theorem AQ2 (k : q) (h : Ay q → p := by intro z; refine AU8 rfl (Ad call172) (fun w1 hw1 => nF w1 (s := l) (i := at_) (x := r) (o_s := ho1_41) (b_s := fun p hp => hw1.own p (by first | exact hp | (simp [hp]; done))) (n_s := z6) (h_v := (Bp.lit (xs := ([r] : List Bf)) Ck) w1 hw1.right) (d_v := (hw1.notIn (List.Perm.trans (List.Perm.of_eq (by simp only [List.append_assoc, List.cons_append, List.nil_append])) (show List.Perm (B1_41 ++ ((r102, oc [(Value.bool r.allow), (vi r.pfx.addr), (vi r.pfx.bits), (vi r.prt.lo), (vi r.prt.hi)] 34) :: ((r1, oc [(Value.bool r.allow), (vi r.pfx.addr), (vi r.pfx.bits), (vi r.prt.lo), (vi r.prt.hi)] 34) :: []))) ((r102, oc [(Value.bool r.allow), (vi r.pfx.addr), (vi r.pfx.bits), (vi r.prt.lo), (vi r.prt.hi)] 34) :: (B1_41 ++ ((r1, oc [(Value.bool r.allow), (vi r.pfx.addr), (vi r.pfx.bits), (vi r.prt.lo), (vi r.prt.hi)] 34) :: []))) from (q0.trans (qc q0)))))) (e_v := ⟨r102, _, _, rfl, hw1.own (r102, oc [(Value.bool r.allow), (vi r.pfx.addr), (vi r.pfx.bits), (vi r.prt.lo), (vi r.prt.hi)] 34) Hb, fun hk => (hw1.notIn (List.Perm.trans (List.Perm.of_eq (by simp only [List.append_assoc, List.cons_append, List.nil_append])) (show List.Perm (B1_41 ++ ((r102, oc [(Value.bool r.allow), (vi r.pfx.addr), (vi r.pfx.bits), (vi r.prt.lo), (vi r.prt.hi)] 34) :: ((r1, oc [(Value.bool r.allow), (vi r.pfx.addr), (vi r.pfx.bits), (vi r.prt.lo), (vi r.prt.hi)] 34) :: []))) ((r102, oc [(Value.bool r.allow), (vi r.pfx.addr), (vi r.pfx.bits), (vi r.prt.lo), (vi r.prt.hi)] 34) :: (B1_41 ++ ((r1, oc [(Value.bool r.allow), (vi r.pfx.addr), (vi r.pfx.bits), (vi r.prt.lo), (vi r.prt.hi)] 34) :: []))) from (q0.trans (qc q0))))) r102 hk ⟨r102, 0, none⟩ rfl (List.cons_ne_nil (0 : Nat) []) rfl⟩) (hi := z6)) (k := ?_); exact z.1) : p := h ⟨k⟩
theorem jR (k : q) (h : Ay q → p := by intro z; refine Af (Bv isAgg9) (k := ?_); exact z.1) : p := h ⟨k⟩
theorem lY (k : q) (h : Ay q → p := by intro z; refine Gw (Bt (l' := [_, _, _, _]) sizeOf62) (k := ?_); exact z.1) : p := h ⟨k⟩
theorem cX (k : q) (h : Ay q → p := by intro z; refine Af (Ei runUnderlying50) (k := ?_); exact z.1) : p := h ⟨k⟩
theorem yN (k : q) (h : Ay q → p := by intro z; refine Af (Dq isAgg62 sizeOf62) (k := ?_); exact z.1) : p := h ⟨k⟩
theorem Zi (k : q) (h : Ay q → p := by intro z; refine Af gV (k := ?_); exact z.1) : p := h ⟨k⟩
theorem AQ3 (k : q) (h : Ay q → p := by intro z; refine Cj _ (List.Sublist.append Ou (List.Sublist.cons_cons _ oJ)) ?_; exact z.1) : p := h ⟨k⟩
theorem yO (k : q) (h : Ay q → p := by intro z; refine Af (zQ runUnderlying9) (k := ?_); exact z.1) : p := h ⟨k⟩
theorem gB (k : q) (h : Ay q → p := by intro z; refine Af (Ai Kx) (k := ?_); exact z.1) : p := h ⟨k⟩
theorem jS (k : q) (h : Ay q → p := by intro z; refine Bb (Ai Kx) (k := ?_); exact z.1) : p := h ⟨k⟩
theorem Q3 (k : q) (h : Ay q → p := by intro z; refine Af (Cn isAgg52 sizeOf52 x_1 (Ds.of_base Dc h_r_l).sl (Cv h_r_l.1 z3)) (k := ?_); exact z.1) : p := h ⟨k⟩
theorem uD (k : q) (h : Ay q → p := by intro z; refine Af Y0 (k := ?_); exact z.1) : p := h ⟨k⟩
theorem cY (k : q) (h : Ay q → p := by intro z; refine Gw (Bt (l' := [_, _, _, _, _, _, _, _]) sizeOf52) (k := ?_); exact z.1) : p := h ⟨k⟩
theorem lZ (k : q) (h : Ay q → p := by intro z; refine Gw (Bt (l' := [_, _, _]) sizeOf25) (k := ?_); exact z.1) : p := h ⟨k⟩
theorem cZ (k : q) (h : Ay q → p := by intro z; refine Gw (Bt (l' := [_, _, _, _, _]) sizeOf28) (k := ?_); exact z.1) : p := h ⟨k⟩
theorem gC (k : q) (h : Ay q → p := by intro z; refine Af (Ei runUnderlying26) (k := ?_); exact z.1) : p := h ⟨k⟩
theorem mB (k : q) (h : Ay q → p := by intro z; refine Aw K7 (k := ?_); exact z.1) : p := h ⟨k⟩
theorem yP (k : q) (h : Ay q → p := by intro z; refine Af (Ef (cs := [_, _, _, _, _, _, _, _]) zeroValue52 AS6) (k := ?_); exact z.1) : p := h ⟨k⟩
theorem AQ4 (k : q) (h : Ay q → p := by intro z; refine Cj _ (List.Sublist.append Ou (List.Sublist.append Ou (List.Sublist.append Ou (List.Sublist.cons_cons _ (List.Sublist.cons_cons _ (List.Sublist.append Ou (List.Sublist.cons_cons _ (List.Sublist.cons_cons _ oJ)))))))) ?_; exact z.1) : p := h ⟨k⟩
theorem AQ5 (k : q) (h : Ay q → p := by intro z; refine Fi Da 14 [(true, 0), (true, 1), (true, 2), (true, 3), (true, 4), (true, 5), (true, 6), (true, 7), (true, 8), (true, 9), (true, 10), (true, 11), (true, 12), (true, 13)] z4 ?_; exact z.1) : p := h ⟨k⟩
theorem Q4 (k : q) (h : Ay q → p := by intro z; refine Af z58 (k := ?_); exact z.1) : p := h ⟨k⟩
theorem Q5 (k : q) (h : Ay q → p := by intro z; refine Gw (Bt (l' := [_, _, _, _, _, _]) sizeOf44) (k := ?_); exact z.1) : p := h ⟨k⟩
theorem AQ6 (k : q) (h : Ay q → p := by intro z; refine Af (Fw (n := x_14.length) (c := x_14c) (i := (((i_13 : Nat) : Int) + 1)) (i_13 + 1) (x_14.drop (i_13 + 1)).length runUnderlying26 sizeOf52 (hlo := z3) (hnc := Ru) (hm := z5)) (k := ?_); exact z.1) : p := h ⟨k⟩
theorem AQ7 (k : q) (h : Ay q → p := by intro z; refine Af (Cb (n := s.gens.length) runUnderlying22 sizeOf3 ((s.free.getD ((((s.free.length : Nat) : Int) - 1).toNat) default).toNat) (hox302.slj Bh) (gD z3) Jv) (k := ?_); exact z.1) : p := h ⟨k⟩
theorem AF7 (k : q) (h : Ay q → p := by intro z; refine Gw (Bt (l' := [_, _, _, _, _, _, _, _, _, _, _, _, _, _, _, _, _, _, _, _, _, _]) sizeOf3) (k := ?_); exact z.1) : p := h ⟨k⟩
end
end Go.Proofs.YtopjaeoklkpcpaaGreatDoor.Jd
