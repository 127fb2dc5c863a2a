/- Blocks of steps that come often. No condition. -/
import Derived.CallsIn
import Derived.RangeFuncLeaves
import Derived.RangeFuncRecord
import Derived.Below
import Derived.OrdersHeld
import Derived.KernelRfl
namespace Go.Proofs.YtdnjanhdnibkfaaGreatDoor.Jd
set_option linter.unusedVariables false
set_option linter.unusedSimpArgs false
section
variable {p : Prop}
theorem z0 (h : p := by exact Bw.tmp rfl Bw.nil) : p := h
theorem z1 (h : p := by first | omega | (dsimp only; omega) | (simp; done) | exact Nat.le_trans (by assumption) (by decide)) : p := h
theorem z2 (h : p := by kernel_rfl) : p := h
theorem z3 (h : p := by omega) : p := h
theorem z4 (h : p := by first | exact ix) : p := h
theorem z5 (h : p := by exact Cj (l := [_, _, _]) zeroValue288) : p := h
theorem z6 (h : p := by first | rfl | (simp; done) | ((simp only [List.length_append, List.length_take, List.length_drop, List.length_set, List.length_replicate, List.length_cons, List.length_nil, List.length_map, Di, Cw]) <;> omega)) : p := h
theorem z7 (h : p := by first | omega | rfl | (simp; done)) : p := h
theorem z8 (h : p := by exact Ea (l := [_]) runUnderlying24 sizeOf3 zeroValue3) : p := h
theorem z9 (h : p := by first | omega | (simp; done) | assumption | exact Nat.le_trans (by assumption) (by decide)) : p := h
theorem kW (h : p := by exact Ea (l := [_, _, _]) runUnderlying39 sizeOf28 zeroValue28) : p := h
theorem vC (h : p := by first | omega | (simp only [List.length_append, List.length_cons, List.length_nil]; omega)) : p := h
theorem eG (h : p := by exact Cj (l := [_, _, _, _, _, _, _, _]) zeroValue50) : p := h
theorem Ng (h : p := by first | exact lb | decide) : p := h
theorem z14 (h : p := by exact List.Sublist.cons_cons _ (List.Sublist.cons_cons _ (List.Sublist.cons_cons _ (List.Sublist.cons_cons _ (List.Sublist.cons_cons _ (List.Sublist.cons_cons _ (List.nil_sublist _))))))) : p := h
theorem z15 (h : p := by exact List.Perm.of_eq (by first | (simp only [List.append_assoc, List.cons_append, List.nil_append]; done) | (simp only [List.append_assoc, List.cons_append, List.nil_append]; rfl))) : p := h
theorem Kc (h : p := by first | rfl | simp) : p := h
theorem I8 (h : p := by repeat (first | exact List.mem_cons_self | apply List.mem_cons_of_mem | apply List.mem_append_right)) : p := h
theorem Ll (h : p := by exact Lo (l := [_, _, _])) : p := h
theorem mG (h : p := by exact Cj (l := [_, _, _, _, _, _, _]) zeroValue26) : p := h
theorem z20 (h : p := by intro p hp; repeat (first | exact hp | exact List.mem_append_left _ hp | apply List.mem_append_right | apply List.mem_cons_of_mem)) : p := h
theorem Mo (h : p := by exact List.nil_sublist _) : p := h
theorem iE (h : p := by first | omega | exact Nat.le_refl _) : p := h
theorem I9 (h : p := by exact Ea (l := [_]) runUnderlying174 sizeOf5 zeroValue5) : p := h
theorem z24 (h : p := by unfold Func.isWrapper; first | (rw [if_pos (by decide +kernel)]; kernel_rfl) | (rw [if_neg (by decide +kernel)]; exact ⟨rfl, rfl⟩)) : p := h
theorem z25 (h : p := by exact Ea (l := [_, _, _, _, _, _, _, _]) runUnderlying32 sizeOf50 zeroValue50) : p := h
theorem Tt (h : p := by first | exact lb) : p := h
theorem rF (h : p := by exact Bw.word isAgg4 rfl me rfl Bw.nil) : p := h
theorem J0 (h : p := by first | omega | (simp only [List.length_set]; omega)) : p := h
theorem oH (h : p := by exact Lo (l := [_, _, _, _, _, _, _])) : p := h
theorem z30 (h : p := by exact Ea (l := [_, _, _, _]) runUnderlying174 sizeOf5 zeroValue5) : p := h
theorem z31 (h : p := by exact Lo (l := [_])) : p := h
theorem mH (h : p := by exact Lo (l := [_, _, _, _, _])) : p := h
theorem z33 (h : p := by exact Ea (l := [_]) runUnderlying106 sizeOf9 zeroValue9) : p := h
theorem z34 (h : p := by unfold joinedFacts; rw [jf1, jf2, jf3, jf4, jf5, jf6, jf7, jg1, jg2, jg3, jg4]; kernel_rfl) : p := h
theorem J5 (h : p := by exact Cj (l := [_, _, _, _, _]) zeroValue34) : p := h
theorem z36 (h : p := by exact Cj (l := [_, _, _, _, _, _]) zeroValue43) : p := h
theorem z37 (h : p := by exact List.Sublist.refl _) : p := h
theorem z38 (h : p := by exact Bw.agg isAgg34 sizeOf34 rfl me rfl Bw.nil) : p := h
theorem zY (h : p := by rw [← hlen0]; first | rfl | rfl) : p := h
theorem J6 (h : p := by exact Cj (l := [_, _, _]) zeroValue31) : p := h
theorem z41 (h : p := by exact Ea (l := [_, _, _]) runUnderlying384 sizeOf32 zeroValue32) : p := h
theorem J1 (h : p := by rw [List.length_replicate]; omega) : p := h
theorem z43 (h : p := by exact Cx (cs := [_, _, _]) zeroValue31 BJ4) : p := h
theorem Ij (h : p := by simp) : p := h
theorem z45 (h : p := by exact Bn (l' := [_, _, _, _, _, _, _, _]) sizeOf50) : p := h
theorem z46 (h : p := by exact Cl.of_base h_s_opn) : p := h
theorem z47 (h : p := by exact Ea (l := [_, _]) runUnderlying24 sizeOf3 zeroValue3) : p := h
theorem z48 (h : p := by exact Cj (l := [_, _]) zeroValue146) : p := h
theorem eH (h : p := by exact Cl.of_base h_l) : p := h
theorem z50 (h : p := by simp only [Region.wanted]; rw [Ix ha hg hu ht]; exact hb) : p := h
theorem z51 (h : p := by exact Ch isAgg23 sizeOf23) : p := h
theorem J2 (h : p := by exact Lo (l := [_, _, _, _, _, _])) : p := h
theorem z53 (h : p := by assumption) : p := h
theorem z54 (h : p := by exact List.Perm.of_eq (by first | rfl | simp only [List.append_assoc, List.cons_append, List.nil_append])) : p := h
theorem rB (h : p := by exact Lo (l := [_, _])) : p := h
theorem rC (h : p := by exact Bm isAgg24) : p := h
theorem J7 (h : p := by rw [Da]; exact h1) : p := h
theorem z58 (h : p := by first | assumption | exact Fs.nil) : p := h
theorem z59 (h : p := by exact Cj (l := [_, _, _, _]) zeroValue112) : p := h
theorem z60 (h : p := by exact Ch isAgg28 sizeOf28) : p := h
theorem z61 (h : p := by rw [Da]; exact hc a w ha hw.right) : p := h
theorem yH (h : p := by exact Cl.of_base h_s_used) : p := h
theorem z63 (h : p := by exact Ea (l := [_, _, _]) runUnderlying260 sizeOf35 zeroValue35) : p := h
theorem z64 (h : p := by exact Cj (l := [_]) zeroValue3) : p := h
theorem z65 (h : p := by exact Cj (l := [_]) zeroValue4) : p := h
theorem z66 (h : p := by exact Ch isAgg26 sizeOf26) : p := h
theorem zZ (h : p := by exact Cl.of_base h_s_gens) : p := h
theorem z68 (h : p := by exact Cj (l := [_, _]) zeroValue41) : p := h
theorem z69 (h : p := by first | omega | (simp only [List.length_append, List.length_set, List.length_cons, List.length_nil]; omega)) : p := h
theorem z70 (h : p := by rw [Da]; exact h a w ha hw.right) : p := h
theorem z71 (h : p := by exact Fg runUnderlying24) : p := h
theorem z72 (h : p := by exact Fg runUnderlying29) : p := h
theorem z73 (h : p := by first | omega | assumption) : p := h
theorem z74 (h : p := by rw [← List.append_assoc, ← List.append_assoc]; exact List.perm_append_comm.append_right _) : p := h
theorem z75 (h : p := by exact Al AO5) : p := h
theorem z76 (h : p := by exact Cj (l := [_, _]) zeroValue136) : p := h
theorem z77 (h : p := by exact Cx (cs := [_, _, _]) zeroValue28 BJ8) : p := h
theorem z78 (h : p := by exact Bn (l' := [_, _, _, _, _, _]) sizeOf3) : p := h
theorem z79 (h : p := by exact Cx (cs := [_, _]) zeroValue23 BJ3) : p := h
theorem z80 (h : p := by exact Cj (l := [_, _, _, _, _, _, _, _]) zeroValue166) : p := h
theorem z81 (h : p := by exact aV (BJ5 _ _ _ _ _ _)) : p := h
theorem z82 (h : p := by exact Ea (l := [_, _, _, _]) runUnderlying48 sizeOf112 zeroValue112) : p := h
theorem J8 (h : p := by simpa using hq1) : p := h
theorem J9 (h : p := by exact Bm isAgg3) : p := h
theorem z85 (h : p := by exact Ch isAgg43 sizeOf43) : p := h
theorem z86 (h : p := by simp only [List.length_append, List.length_take, List.length_replicate]; omega) : p := h
theorem z87 (h : p := by exact Lo (l := [_, _, _, _, _, _, _, _, _])) : p := h
theorem z88 (h : p := by first | omega | exact tO _ _) : p := h
end
structure Aw (q : Prop) : Prop where
  out : q
section
variable {p q : Prop}
theorem Z0 (k : q) (h : Aw q → p := by intro z; refine Dz ?_; refine Du ?_; exact z.1) : p := h ⟨k⟩
theorem Z1 (k : q) (h : Aw q → p := by intro z; refine Mr ?_; refine Z0 ?_; exact z.1) : p := h ⟨k⟩
theorem Z2 (k : q) (h : Aw q → p := by intro z; refine Eu ?_; refine Cp ?_; exact z.1) : p := h ⟨k⟩
theorem Z3 (k : q) (h : Aw q → p := by intro z; refine Z2 ?_; refine Ck ?_; exact z.1) : p := h ⟨k⟩
theorem Z4 (k : q) (h : Aw q → p := by intro z; refine Z1 ?_; refine iZ ?_; exact z.1) : p := h ⟨k⟩
theorem Z5 (k : q) (h : Aw q → p := by intro z; refine Af Ft (k := ?_); refine Ck ?_; exact z.1) : p := h ⟨k⟩
theorem Z6 (k : q) (h : Aw q → p := by intro z; refine Fo ?_; refine Be Qf (k := ?_); exact z.1) : p := h ⟨k⟩
theorem Z7 (k : q) (h : Aw q → p := by intro z; refine Rm ?_; refine Ge ?_; exact z.1) : p := h ⟨k⟩
theorem Z8 (k : q) (h : Aw q → p := by intro z; refine dE ?_; refine Ck ?_; exact z.1) : p := h ⟨k⟩
theorem Z9 (k : q) (h : Aw q → p := by intro z; refine Af Ny (k := ?_); refine Z0 ?_; exact z.1) : p := h ⟨k⟩
theorem Jt (k : q) (h : Aw q → p := by intro z; refine Cp ?_; refine Ck ?_; exact z.1) : p := h ⟨k⟩
theorem Jh (k : q) (h : Aw q → p := by intro z; refine aK ?_; refine Ck ?_; exact z.1) : p := h ⟨k⟩
theorem Py (k : q) (h : Aw q → p := by intro z; refine Cg ?_; refine Du ?_; exact z.1) : p := h ⟨k⟩
theorem kX (k : q) (h : Aw q → p := by intro z; refine Fr ?_; refine Du ?_; exact z.1) : p := h ⟨k⟩
theorem yI (k : q) (h : Aw q → p := by intro z; refine Eu ?_; refine Gr ?_; exact z.1) : p := h ⟨k⟩
theorem Hz (k : q) (h : Aw q → p := by intro z; refine Af Ft (k := ?_); refine Z4 ?_; exact z.1) : p := h ⟨k⟩
theorem Z21 (k : q) (h : Aw q → p := by intro z; refine aJ ?_; refine Mm ?_; exact z.1) : p := h ⟨k⟩
theorem Hp (k : q) (h : Aw q → p := by intro z; refine Z3 ?_; refine Ck ?_; exact z.1) : p := h ⟨k⟩
theorem Z25 (k : q) (h : Aw q → p := by intro z; refine Be (Al zS) (k := ?_); refine Be (Bm isAgg39) (k := ?_); exact z.1) : p := h ⟨k⟩
theorem Z26 (k : q) (h : Aw q → p := by intro z; refine Dz ?_; refine tE ?_; exact z.1) : p := h ⟨k⟩
theorem Ik (k : q) (h : Aw q → p := by intro z; refine Z1 ?_; refine Eu ?_; exact z.1) : p := h ⟨k⟩
theorem kY (k : q) (h : Aw q → p := by intro z; refine Z0 ?_; refine iZ ?_; exact z.1) : p := h ⟨k⟩
theorem Z31 (k : q) (h : Aw q → p := by intro z; refine Ku rfl ?_; refine Py ?_; exact z.1) : p := h ⟨k⟩
theorem Rf (k : q) (h : Aw q → p := by intro z; refine Af Hi (k := ?_); refine Z0 ?_; exact z.1) : p := h ⟨k⟩
theorem Z34 (k : q) (h : Aw q → p := by intro z; refine Ck ?_; refine Kq (Ac call14) (fun w1 hw1 => Pc w1 (s := (Am s)) (f := (Aq f)) (r := (Br r)) (now := now) (h_s_opn := (ho1_1.slj Ba) w1 hw1) (n_s_opn := z1) (h_r_Sg := (Cl.take (Cl.of_base h_r_Sg) _) w1 hw1) (n_r_Sg := z1) (h_r_Su := (Cl.take (Cl.of_base h_r_Su) _) w1 hw1) (n_r_Su := z1) (h_r_Sf := (Cl.take (Cl.of_base h_r_Sf) _) w1 hw1) (n_r_Sf := z1) (h_r_l := (Kr.j hs1_2.1 sh).2 w1 hw1) (n_r_l := z1) (k_r_l := hs1_2.2) (hG := hG.ext hw1.ext_out) (hE := hE.ext hw1.ext_out) (hsm := z58)) (k := ?_); exact z.1) : p := h ⟨k⟩
theorem Z35 (k : q) (h : Aw q → p := by intro z; refine sV ?_; refine aL ?_; exact z.1) : p := h ⟨k⟩
theorem Z36 (k : q) (h : Aw q → p := by intro z; refine kX ?_; refine Cp ?_; exact z.1) : p := h ⟨k⟩
theorem Zy (k : q) (h : Aw q → p := by intro z; refine Z2 ?_; refine Z9 ?_; refine Eu ?_; exact z.1) : p := h ⟨k⟩
theorem K0 (k : q) (h : Aw q → p := by intro z; refine Af Ju (k := ?_); refine Af Ju (k := ?_); exact z.1) : p := h ⟨k⟩
theorem Mj (k : q) (h : Aw q → p := by intro z; refine Mr ?_; refine Dz ?_; exact z.1) : p := h ⟨k⟩
theorem Rg (k : q) (h : Aw q → p := by intro z; refine Z4 ?_; refine Ge ?_; exact z.1) : p := h ⟨k⟩
theorem Z42 (k : q) (h : Aw q → p := by intro z; refine Z36 ?_; refine Z8 ?_; exact z.1) : p := h ⟨k⟩
theorem Z45 (k : q) (h : Aw q → p := by intro z; refine Ar (Al Oi) (k := ?_); refine Ar rC (k := ?_); exact z.1) : p := h ⟨k⟩
theorem Z46 (k : q) (h : Aw q → p := by intro z; refine Dk _ (sk (sx (sk (sk (sk sz))))) ?_; refine Fz _ _ (vp ((qa (qa q0)).trans (qa (qa (qa q0)))) (nC (nC nE))) mixed 16 [(true, 0), (true, 1), (true, 2), (true, 3), (true, 4), (true, 5), (true, 6), (true, 7), (true, 8), (true, 9), (true, 10), (true, 11), (false, 12), (true, 13), (false, 14), (true, 15)] z2 ?_; exact z.1) : p := h ⟨k⟩
theorem oI (k : q) (h : Aw q → p := by intro z; refine Be Ft (k := ?_); refine Fo ?_; exact z.1) : p := h ⟨k⟩
theorem rG (k : q) (h : Aw q → p := by intro z; refine aK ?_; refine Z0 ?_; exact z.1) : p := h ⟨k⟩
theorem Z50 (k : q) (h : Aw q → p := by intro z; refine Ph ?_; refine Z7 ?_; exact z.1) : p := h ⟨k⟩
theorem Z52 (k : q) (h : Aw q → p := by intro z; refine Z31 ?_; refine yI ?_; exact z.1) : p := h ⟨k⟩
theorem Z53 (k : q) (h : Aw q → p := by intro z; refine Gs ?_; refine Z35 ?_; exact z.1) : p := h ⟨k⟩
theorem Z56 (k : q) (h : Aw q → p := by intro z; refine Z42 ?_; refine Z26 ?_; refine Zy ?_; exact z.1) : p := h ⟨k⟩
theorem Z57 (k : q) (h : Aw q → p := by intro z; refine Qt ?_; refine dF ?_; exact z.1) : p := h ⟨k⟩
theorem J3 (k : q) (h : Aw q → p := by intro z; refine Ku rfl ?_; refine Z2 ?_; exact z.1) : p := h ⟨k⟩
theorem Sd (k : q) (h : Aw q → p := by intro z; refine Jt ?_; refine Ck ?_; exact z.1) : p := h ⟨k⟩
theorem yJ (k : q) (h : Aw q → p := by intro z; refine Fo ?_; refine Z6 ?_; exact z.1) : p := h ⟨k⟩
theorem Zz (k : q) (h : Aw q → p := by intro z; refine Wn rfl ?_; refine Cg ?_; exact z.1) : p := h ⟨k⟩
theorem Ot (k : q) (h : Aw q → p := by intro z; refine aK ?_; refine Z4 ?_; exact z.1) : p := h ⟨k⟩
theorem Z65 (k : q) (h : Aw q → p := by intro z; refine Eu ?_; refine Eh mixed 14 [(true, 0), (true, 1), (true, 2), (true, 3), (true, 4), (true, 5), (true, 6), (true, 7), (true, 8), (true, 9), (true, 10), (true, 11), (true, 12), (true, 13)] z2 ?_; exact z.1) : p := h ⟨k⟩
theorem Z67 (k : q) (h : Aw q → p := by intro z; refine Mx _ _ results135 z0 (vp (List.Perm.refl _) nE) z37 ?_; refine Yv (Ac call17) (fun w1 hw1 => nL w1 (l := x_2) (now := now) (challenge := ((Ic s.a s.b).1)) (name := s.name) (proof := f.data) (h_l := (hx_2.slj Ey) w1 hw1) (n_l := z9) (n_name := z9) (n_proof := z9) (hG := hG.ext hw1.ext_out) (hE := hE.ext hw1.ext_out)) (k := ?_); exact z.1) : p := h ⟨k⟩
theorem Kf (k : q) (h : Aw q → p := by intro z; refine Ck ?_; refine K0 ?_; exact z.1) : p := h ⟨k⟩
theorem Pe (k : q) (h : Aw q → p := by intro z; refine Af Ft (k := ?_); refine Z0 ?_; exact z.1) : p := h ⟨k⟩
theorem Xv (k : q) (h : Aw q → p := by intro z; refine Z2 ?_; refine Z1 ?_; exact z.1) : p := h ⟨k⟩
theorem Z72 (k : q) (h : Aw q → p := by intro z; refine Af (Al Oi) (k := ?_); refine Af rC (k := ?_); exact z.1) : p := h ⟨k⟩
theorem Z74 (k : q) (h : Aw q → p := by intro z; refine Z52 ?_; refine Z2 ?_; exact z.1) : p := h ⟨k⟩
theorem Jr (k : q) (h : Aw q → p := by intro z; refine Z0 ?_; refine Eu ?_; exact z.1) : p := h ⟨k⟩
theorem Z76 (k : q) (h : Aw q → p := by intro z; refine aJ ?_; refine Sm ?_; exact z.1) : p := h ⟨k⟩
theorem Z77 (k : q) (h : Aw q → p := by intro z; refine O3 ?_; refine Kq (Ac call13) (fun w1 hw1 => AP0 w1 (r := r) (h_r_Sg := (Cl.of_base h_r_Sg) w1 hw1) (k_r_Sg := z53) (h_r_Su := (Cl.of_base h_r_Su) w1 hw1) (k_r_Su := z53) (h_r_Sf := (Cl.of_base h_r_Sf) w1 hw1) (k_r_Sf := z53) (h_r_l := (Hn.of_base Je h_r_l).2 w1 hw1) (k_r_l := k_r_l)) (k := ?_); exact z.1) : p := h ⟨k⟩
theorem iF (k : q) (h : Aw q → p := by intro z; refine El ?_; refine Ar (Ch isAgg288 sizeOf288) (k := ?_); exact z.1) : p := h ⟨k⟩
theorem Ou (k : q) (h : Aw q → p := by intro z; refine Z5 ?_; refine Ab 5 rfl ?_; exact z.1) : p := h ⟨k⟩
theorem Z83 (k : q) (h : Aw q → p := by intro z; refine Z21 ?_; refine kY ?_; exact z.1) : p := h ⟨k⟩
theorem oJ (k : q) (h : Aw q → p := by intro z; refine Z5 ?_; refine Ab 3 rfl ?_; exact z.1) : p := h ⟨k⟩
theorem mI (k : q) (h : Aw q → p := by intro z; refine Z7 ?_; refine Z50 ?_; exact z.1) : p := h ⟨k⟩
theorem Z88 (k : q) (h : Aw q → p := by intro z; refine Yx z2 _ ?_; refine Hw (nC nE) ?_; exact z.1) : p := h ⟨k⟩
theorem Z89 (k : q) (h : Aw q → p := by intro z; refine Af (Bm isAgg32) (k := ?_); refine Z1 ?_; exact z.1) : p := h ⟨k⟩
theorem Z91 (k : q) (h : Aw q → p := by intro z; refine Dt _ ((((((((((((((qa (qa (qc (qa (qa (qa (qa (qa (qa (qa (qa (qa (qa (qa (qa q0))))))))))))))).trans (qa (qa (qa (qc (qa (qa (qa (qa (qa (qa (qa (qa (qa (qa (qa q0)))))))))))))))).trans (qa (qa (qa (qa (qc (qa (qa (qa (qa (qa (qa (qa (qa (qa (qa q0)))))))))))))))).trans (qa (qa (qa (qa (qa (qc (qa (qa (qa (qa (qa (qa (qa (qa (qa q0)))))))))))))))).trans (qa (qa (qa (qa (qa (qa (qc (qa (qa (qa (qa (qa (qa (qa (qa q0)))))))))))))))).trans (qa (qa (qa (qa (qa (qa (qa (qc (qa (qa (qa (qa (qa (qa (qa q0)))))))))))))))).trans (qa (qa (qa (qa (qa (qa (qa (qa (qc (qa (qa (qa (qa (qa (qa q0)))))))))))))))).trans (qa (qa (qa (qa (qa (qa (qa (qa (qa (qc (qa (qa (qa (qa (qa q0)))))))))))))))).trans (qa (qa (qa (qa (qa (qa (qa (qa (qa q0)))))))))).trans (qa (qa (qa (qa (qa (qa (qa (qa (qa (qa (qc (qa (qa (qa (qa q0)))))))))))))))).trans (qa (qa (qa (qa (qa (qa (qa (qa (qa (qa (qa (qc (qa (qa (qa q0)))))))))))))))).trans (qa (qa (qa (qa (qa (qa (qa (qa (qa (qa (qa (qa (qc (qa (qa q0)))))))))))))))).trans (qa (qa (qa (qa (qa (qa (qa (qa (qa (qa (qa (qa q0))))))))))))).trans (qb (qb (qb (qb (qb (qb (qb (qb (qb (qb (qb (qb (qb q0)))))))))))))) ?_; refine BH7 ?_; exact z.1) : p := h ⟨k⟩
theorem rE (k : q) (h : Aw q → p := by intro z; refine Z2 ?_; refine D7 ?_; exact z.1) : p := h ⟨k⟩
theorem vD (k : q) (h : Aw q → p := by intro z; refine Si ?_; refine Af (Al Vv) (k := ?_); exact z.1) : p := h ⟨k⟩
theorem Z96 (k : q) (h : Aw q → p := by intro z; refine Yr ?_; refine Yv (Ac call16) (fun w1 hw1 => uG w1 (a := s.a) (b := s.b) (i_a := z9) (i_b := z9) (hG := hG.ext hw1.ext_out) (hE := hE.ext hw1.ext_out)) (k := ?_); exact z.1) : p := h ⟨k⟩
theorem eJ (k : q) (h : Aw q → p := by intro z; refine Be Kv (k := ?_); refine Fo ?_; exact z.1) : p := h ⟨k⟩
theorem vF (k : q) (h : Aw q → p := by intro z; refine Z56 ?_; refine Z74 ?_; exact z.1) : p := h ⟨k⟩
theorem Lq (k : q) (h : Aw q → p := by intro z; refine Mr ?_; refine Z1 ?_; exact z.1) : p := h ⟨k⟩
theorem Tu (k : q) (h : Aw q → p := by intro z; refine Z45 ?_; refine Ar z71 (k := ?_); exact z.1) : p := h ⟨k⟩
theorem Lh (k : q) (h : Aw q → p := by intro z; refine Ct 4 rfl z2 Gf (k := ?_); refine Ct 5 rfl z2 Ju (k := ?_); refine Ct 6 rfl z2 Ju (k := ?_); exact z.1) : p := h ⟨k⟩
theorem AC1 (k : q) (h : Aw q → p := by intro z; refine Dz ?_; refine Dt _ (((((((((qa (qc (qc (qa (qa (qc (qa (qa q0)))))))).trans (qa (qa (qc (qc (qa (qa (qc (qa q0))))))))).trans (qa (qa (qa (qc (qc (qa (qa (qc q0))))))))).trans (qb (qb (qb (qb (qd (qd (qb (qb q0))))))))).trans (qc (qa (qa (qa (qa (qc (qc (qa q0))))))))).trans (qa (qc (qa (qa (qa (qa (qc (qc q0))))))))).trans (qa (qa (qc (qa (qa (qa q0))))))).trans (qb (qb (qb (qd (qb (qb (qb q0)))))))).trans (qd (qb (qb (qb (qd (qb (qb (qb q0))))))))) ?_; exact z.1) : p := h ⟨k⟩
theorem BE2 (k : q) (h : Aw q → p := by intro z; refine Hw (nC (nC nE)) ?_; refine kY ?_; exact z.1) : p := h ⟨k⟩
theorem Li (k : q) (h : Aw q → p := by intro z; refine Fo ?_; refine Fo ?_; exact z.1) : p := h ⟨k⟩
theorem kZ (k : q) (h : Aw q → p := by intro z; refine Wn rfl ?_; refine Cu ?_; exact z.1) : p := h ⟨k⟩
theorem Ia (k : q) (h : Aw q → p := by intro z; refine Z53 ?_; refine Du ?_; exact z.1) : p := h ⟨k⟩
theorem AC2 (k : q) (h : Aw q → p := by intro z; refine Bd results173 z0 ?_; refine Z4 ?_; exact z.1) : p := h ⟨k⟩
theorem iG (k : q) (h : Aw q → p := by intro z; refine Ep (Bn (l' := [_, _, _, _, _, _, _, _, _, _, _, _, _, _, _, _, _, _, _, _, _, _, _]) sizeOf26) (k := ?_); refine Z0 ?_; exact z.1) : p := h ⟨k⟩
theorem Iv (k : q) (h : Aw q → p := by intro z; refine Ik ?_; refine Z3 ?_; exact z.1) : p := h ⟨k⟩
theorem Rh (k : q) (h : Aw q → p := by intro z; refine Ck ?_; refine Z0 ?_; refine Gr ?_; exact z.1) : p := h ⟨k⟩
theorem A0 (k : q) (h : Aw q → p := by intro z; refine rE ?_; refine Kq (Ac call11) (fun w1 hw1 => uU w1 (s := s) (h_s_opn := (Cl.of_base h_s_opn) w1 hw1) (k_s_opn := z1)) (k := ?_); exact z.1) : p := h ⟨k⟩
theorem K1 (k : q) (h : Aw q → p := by intro z; refine Jr ?_; refine Fz _ _ (vp ((qa (qc (qa q0))).trans (qa (qa (qc (qa q0))))) (nC (nC nE))) mixed 16 [(true, 0), (true, 1), (true, 2), (true, 3), (true, 4), (true, 5), (true, 6), (true, 7), (true, 8), (true, 9), (true, 10), (true, 11), (false, 12), (true, 13), (false, 14), (true, 15)] z2 ?_; exact z.1) : p := h ⟨k⟩
theorem lA (k : q) (h : Aw q → p := by intro z; refine tR (V' := ((r162, _) :: [])) rfl (Bn (l' := [_, _]) sizeOf136) (k := ?_); refine Ct 9 rfl z2 Iy (k := ?_); exact z.1) : p := h ⟨k⟩
theorem AC3 (k : q) (h : Aw q → p := by intro z; refine Be (Al iA) (k := ?_); refine Be (Al Ke) (k := ?_); refine Yr ?_; exact z.1) : p := h ⟨k⟩
theorem Ri (k : q) (h : Aw q → p := by intro z; refine Z4 ?_; refine mI ?_; exact z.1) : p := h ⟨k⟩
theorem AC4 (k : q) (h : Aw q → p := by intro z; refine Dk _ (sk (sd (sa (sa (sk (sa (sk (sk (sk sz))))))))) ?_; refine Eh mixed 24 [(true, 0), (true, 1), (true, 2), (true, 3), (true, 4), (true, 5), (true, 6), (true, 8), (true, 9), (true, 10), (true, 11), (true, 12), (true, 13), (true, 14), (true, 15), (true, 16), (true, 17), (false, 7), (false, 18), (true, 19), (true, 20), (true, 21), (true, 22), (true, 23)] z2 ?_; exact z.1) : p := h ⟨k⟩
theorem rH (k : q) (h : Aw q → p := by intro z; refine Cn _ (sk (sa (sa (sd (sk (sa (sk (sk (sk sz))))))))) ?_; refine Bd results136 (Bw.agg isAgg50 sizeOf50 rfl me rfl z0) ?_; exact z.1) : p := h ⟨k⟩
theorem A1 (k : q) (h : Aw q → p := by intro z; refine Cy (args := [(Value.iface 400 (.pointer (some ea3))), (Value.iface 400 (.pointer (some ea7)))]) (Ac call81) (fun w1 hw1 => Jb w1 hE.n3_7 (hE.ext hw1.ext_out).b3 (hE.ext hw1.ext_out).b7) (k := ?_); refine Z1 ?_; exact z.1) : p := h ⟨k⟩
theorem aA (k : q) (h : Aw q → p := by intro z; refine Z2 ?_; refine fU ?_; exact z.1) : p := h ⟨k⟩
theorem AC5 (k : q) (h : Aw q → p := by intro z; refine Jt ?_; refine sU ?_; exact z.1) : p := h ⟨k⟩
theorem Rj (k : q) (h : Aw q → p := by intro z; refine Bd results115 z0 ?_; refine Z0 ?_; exact z.1) : p := h ⟨k⟩
theorem Se (k : q) (h : Aw q → p := by intro z; refine Z2 ?_; refine O3 ?_; exact z.1) : p := h ⟨k⟩
theorem aB (k : q) (h : Aw q → p := by intro z; refine Af Ny (k := ?_); refine Ck ?_; exact z.1) : p := h ⟨k⟩
theorem rI (k : q) (h : Aw q → p := by intro z; refine Af (Cx (cs := [_, _, _, _, _, _, _]) zeroValue26 X9) (k := ?_); refine lS ?_; exact z.1) : p := h ⟨k⟩
theorem lB (k : q) (h : Aw q → p := by intro z; refine It ?_; refine Bq (args := [_, _]) (Ac call115) func115 ntmps115 ?_; exact z.1) : p := h ⟨k⟩
theorem AT0 (k : q) (h : Aw q → p := by intro z; refine Eu ?_; refine Dk _ (sd (sd (sk (sd (sd (sx (sx (sk (sa (sk (sk (sk sz)))))))))))) ?_; exact z.1) : p := h ⟨k⟩
theorem Qa (k : q) (h : Aw q → p := by intro z; refine El ?_; refine El ?_; exact z.1) : p := h ⟨k⟩
theorem A2 (k : q) (h : Aw q → p := by intro z; refine Be (Yb (l.take at_1).length at_1 runUnderlying32 (fun w => ⟨_, sizeOf50 w⟩) (hi := z3) (hi2 := z3)) (k := ?_); refine Be (Ch isAgg50 sizeOf50) (k := ?_); exact z.1) : p := h ⟨k⟩
theorem rJ (k : q) (h : Aw q → p := by intro z; refine Qt ?_; refine Ar Ln (k := ?_); exact z.1) : p := h ⟨k⟩
theorem A3 (k : q) (h : Aw q → p := by intro z; refine Qt ?_; refine Ar Ro (k := ?_); exact z.1) : p := h ⟨k⟩
theorem rK (k : q) (h : Aw q → p := by intro z; refine Be Kv (k := ?_); refine Z83 ?_; exact z.1) : p := h ⟨k⟩
theorem Hq (k : q) (h : Aw q → p := by intro z; refine Z1 ?_; refine Z3 ?_; exact z.1) : p := h ⟨k⟩
theorem rL (k : q) (h : Aw q → p := by intro z; refine Ep (Bn (l' := [_]) sizeOf4) (k := ?_); refine kY ?_; exact z.1) : p := h ⟨k⟩
theorem K2 (k : q) (h : Aw q → p := by intro z; refine sY (qa q0) ?_; refine Gr ?_; exact z.1) : p := h ⟨k⟩
theorem A4 (k : q) (h : Aw q → p := by intro z; refine Mx _ _ results231 z0 (vp (List.Perm.refl _) nE) (List.Sublist.trans z37 (List.sublist_append_right _ _)) ?_; refine Be (Al Qo) (k := ?_); exact z.1) : p := h ⟨k⟩
theorem BE3 (k : q) (h : Aw q → p := by intro z; refine Sj ?_; refine Kq (Ac call15) (fun w1 hw1 => uP w1 (r := (Br r)) (name := ((Am s).name)) (h_r_Sg := (Cl.take (Cl.of_base h_r_Sg) _) w1 hw1) (n_r_Sg := z1) (h_r_Su := (Cl.take (Cl.of_base h_r_Su) _) w1 hw1) (n_r_Su := z1) (h_r_Sf := (Cl.take (Cl.of_base h_r_Sf) _) w1 hw1) (n_r_Sf := z1) (h_r_l := (Kr.j hs1_2.1 sh).2 w1 hw1) (n_r_l := z1) (k_r_l := hs1_2.2) (hsm := z58)) (k := ?_); exact z.1) : p := h ⟨k⟩
theorem oK (k : q) (h : Aw q → p := by intro z; refine Yr ?_; refine Be (Cx (cs := [_, _, _, _, _, _, _]) zeroValue26 X9) (k := ?_); exact z.1) : p := h ⟨k⟩
theorem Ks (k : q) (h : Aw q → p := by intro z; refine Be Ft (k := ?_); refine Z83 ?_; exact z.1) : p := h ⟨k⟩
theorem iH (k : q) (h : Aw q → p := by intro z; refine Af (Al cB) (k := ?_); refine Sj ?_; exact z.1) : p := h ⟨k⟩
theorem K3 (k : q) (h : Aw q → p := by intro z; refine Cy (args := [(Value.iface 400 (.pointer (some ea2))), (Value.iface 400 (.pointer (some ea6)))]) (Ac call81) (fun w1 hw1 => Jb w1 hE.n2_6 (hE.ext hw1.ext_out).b2 (hE.ext hw1.ext_out).b6) (k := ?_); refine Z1 ?_; exact z.1) : p := h ⟨k⟩
theorem AC6 (k : q) (h : Aw q → p := by intro z; refine Ge ?_; refine Cn _ (sa (sd (sk (sa (sk (sk (sk sz))))))) ?_; exact z.1) : p := h ⟨k⟩
theorem Uu (k : q) (h : Aw q → p := by intro z; refine Si ?_; refine Af (Al iA) (k := ?_); exact z.1) : p := h ⟨k⟩
theorem vG (k : q) (h : Aw q → p := by intro z; refine Be (Al bT) (k := ?_); refine Be rC (k := ?_); exact z.1) : p := h ⟨k⟩
theorem BE4 (k : q) (h : Aw q → p := by intro z; refine Af (Al Og) (k := ?_); refine Af rC (k := ?_); exact z.1) : p := h ⟨k⟩
theorem fC (k : q) (h : Aw q → p := by intro z; refine lS ?_; refine Mr ?_; refine Ep (Bn (l' := [_, _, _, _, _, _]) sizeOf43) (k := ?_); exact z.1) : p := h ⟨k⟩
theorem Sf (k : q) (h : Aw q → p := by intro z; refine Ck ?_; refine Ck ?_; exact z.1) : p := h ⟨k⟩
theorem A5 (k : q) (h : Aw q → p := by intro z; refine Cy (args := [(Value.iface 400 (.pointer (some ea3))), (Value.iface 400 (.pointer (some ea3)))]) (Ac call81) (fun w1 hw1 => Ih w1) (k := ?_); refine Z1 ?_; exact z.1) : p := h ⟨k⟩
theorem Mp (k : q) (h : Aw q → p := by intro z; refine Rf ?_; refine Ku rfl ?_; exact z.1) : p := h ⟨k⟩
theorem A6 (k : q) (h : Aw q → p := by intro z; refine Cy (args := [(Value.iface 400 (.pointer (some ea0))), (Value.iface 400 (.pointer (some ea0)))]) (Ac call81) (fun w1 hw1 => Ih w1) (k := ?_); refine Z1 ?_; exact z.1) : p := h ⟨k⟩
theorem Nh (k : q) (h : Aw q → p := by intro z; refine Mr ?_; refine Rg ?_; exact z.1) : p := h ⟨k⟩
theorem lC (k : q) (h : Aw q → p := by intro z; refine lQ ?_; refine fT ?_; exact z.1) : p := h ⟨k⟩
theorem BE5 (k : q) (h : Aw q → p := by intro z; refine lQ ?_; refine Bu Ro (k := ?_); exact z.1) : p := h ⟨k⟩
theorem Rk (k : q) (h : Aw q → p := by intro z; refine Wn rfl ?_; refine Py ?_; exact z.1) : p := h ⟨k⟩
theorem rM (k : q) (h : Aw q → p := by intro z; refine sN ?_; refine Ep (Bn (l' := [_, _]) sizeOf23) (k := ?_); exact z.1) : p := h ⟨k⟩
theorem vH (k : q) (h : Aw q → p := by intro z; refine Af z43 (k := ?_); refine O1 ?_; exact z.1) : p := h ⟨k⟩
theorem fD (k : q) (h : Aw q → p := by intro z; refine vF ?_; refine Af (Ei runUnderlying384 sizeOf32 1) (k := ?_); exact z.1) : p := h ⟨k⟩
theorem fE (k : q) (h : Aw q → p := by intro z; refine vF ?_; refine Af (Ei runUnderlying384 sizeOf32 2) (k := ?_); exact z.1) : p := h ⟨k⟩
theorem Yk (k : q) (h : Aw q → p := by intro z; refine Qb ?_; refine Rh ?_; exact z.1) : p := h ⟨k⟩
theorem AT1 (k : q) (h : Aw q → p := by intro z; refine Bu (Cz (n := s.gens.length) runUnderlying24 sizeOf3 ((s.free.getD ((((s.free.length : Nat) : Int) - 1).toNat) default).toNat) (hox302.slj Ba) (gD z4) Kc) (k := ?_); refine Bu (Ci isAgg3 ((s.free.getD ((((s.free.length : Nat) : Int) - 1).toNat) default).toNat) 0 (hox302.slj Ba) (gD z4)) (k := ?_); exact z.1) : p := h ⟨k⟩
theorem Yl (k : q) (h : Aw q → p := by intro z; refine Si ?_; refine Af (Al Jn) (k := ?_); exact z.1) : p := h ⟨k⟩
theorem vI (k : q) (h : Aw q → p := by intro z; refine Be Qf (k := ?_); refine Be (Al Jn) (k := ?_); exact z.1) : p := h ⟨k⟩
theorem AT2 (k : q) (h : Aw q → p := by intro z; refine BI0 ?_; refine Af (Ci isAgg3 ((s.free.getD ((((s.free.length : Nat) : Int) - 1).toNat) default).toNat) 0 (hox302.slj Ba) (gD z4)) (k := ?_); exact z.1) : p := h ⟨k⟩
theorem AT3 (k : q) (h : Aw q → p := by intro z; refine Be (Cz (n := s.gens.length) runUnderlying24 sizeOf3 ((s.free.getD ((((s.free.length : Nat) : Int) - 1).toNat) default).toNat) (hos302.slj Ba) (gD z4) Kc) (k := ?_); refine Be (Ci isAgg3 ((s.free.getD ((((s.free.length : Nat) : Int) - 1).toNat) default).toNat) 0 (hos302.slj Ba) (gD z4)) (k := ?_); exact z.1) : p := h ⟨k⟩
theorem Uv (k : q) (h : Aw q → p := by intro z; refine Z5 ?_; refine Ab 2 rfl ?_; exact z.1) : p := h ⟨k⟩
theorem AC7 (k : q) (h : Aw q → p := by intro z; refine AC3 ?_; refine Yv (Ac call20) (fun w1 hw1 => Ld w1 (s := s) (stream := f.stream) (h_s_opn := (hox2.slj Ba) w1 hw1) (n_s_opn := z9)) (k := ?_); exact z.1) : p := h ⟨k⟩
theorem AC8 (k : q) (h : Aw q → p := by intro z; refine iH ?_; refine Cy (Ac call18) (fun w1 hw1 => nJ w1 (s := f.data) (n_s := z9) (hG := hG.ext hw1.ext_out) (hE := hE.ext hw1.ext_out)) (k := ?_); exact z.1) : p := h ⟨k⟩
theorem iI (k : q) (h : Aw q → p := by intro z; refine Ep z78 (k := ?_); refine Z0 ?_; exact z.1) : p := h ⟨k⟩
theorem K4 (k : q) (h : Aw q → p := by intro z; refine Z76 ?_; refine BE2 ?_; exact z.1) : p := h ⟨k⟩
theorem Ji (k : q) (h : Aw q → p := by intro z; refine Z1 ?_; refine Hp ?_; exact z.1) : p := h ⟨k⟩
theorem Uw (k : q) (h : Aw q → p := by intro z; refine Af Qy (k := ?_); refine Af (Ky rfl runUnderlying164 runUnderlying5) (k := ?_); refine Ck ?_; exact z.1) : p := h ⟨k⟩
theorem rN (k : q) (h : Aw q → p := by intro z; refine vF ?_; refine Af (La (m := 9) (n := 3) runUnderlying358 sizeOf288 isAgg288) (k := ?_); exact z.1) : p := h ⟨k⟩
theorem rO (k : q) (h : Aw q → p := by intro z; refine jM ?_; refine Zy ?_; exact z.1) : p := h ⟨k⟩
theorem fF (k : q) (h : Aw q → p := by intro z; refine Z56 ?_; refine kZ ?_; exact z.1) : p := h ⟨k⟩
theorem iJ (k : q) (h : Aw q → p := by intro z; refine Af z75 (k := ?_); refine It ?_; exact z.1) : p := h ⟨k⟩
theorem oL (k : q) (h : Aw q → p := by intro z; refine Mm ?_; refine Ep (Bn (l' := [_, _, _, _, _, _, _, _]) sizeOf164) (k := ?_); exact z.1) : p := h ⟨k⟩
theorem Ux (k : q) (h : Aw q → p := by intro z; refine Z42 ?_; refine Dz ?_; exact z.1) : p := h ⟨k⟩
theorem K5 (k : q) (h : Aw q → p := by intro z; refine Cy (args := [(Value.iface 400 (.pointer (some ea2))), (Value.iface 400 (.pointer (some ea2)))]) (Ac call81) (fun w1 hw1 => Ih w1) (k := ?_); refine Z1 ?_; exact z.1) : p := h ⟨k⟩
theorem Ni (k : q) (h : Aw q → p := by intro z; refine oI ?_; refine Ay 3 rfl ?_; exact z.1) : p := h ⟨k⟩
theorem AT4 (k : q) (h : Aw q → p := by intro z; refine Jr ?_; refine Fz _ _ (vp ((qc (qc (qc (qa (qa q0))))).trans (qa (qc (qc (qc (qa (qa q0))))))) (nC (nC nE))) mixed 17 [(true, 0), (true, 1), (true, 2), (true, 3), (true, 4), (true, 5), (true, 6), (true, 7), (true, 8), (true, 9), (true, 10), (true, 11), (true, 12), (true, 13), (false, 14), (false, 15), (true, 16)] z2 ?_; exact z.1) : p := h ⟨k⟩
theorem Lj (k : q) (h : Aw q → p := by intro z; refine Z2 ?_; refine Iv ?_; exact z.1) : p := h ⟨k⟩
theorem Mq (k : q) (h : Aw q → p := by intro z; refine Xv ?_; refine Z3 ?_; exact z.1) : p := h ⟨k⟩
theorem AT5 (k : q) (h : Aw q → p := by intro z; refine Bu (Cz (n := s.free.length) runUnderlying24 sizeOf3 ((((s.free.length : Nat) : Int) - 1).toNat) (ho1_201.slj Ba) (gD z4) Kc) (k := ?_); refine Bu (Ci isAgg3 ((((s.free.length : Nat) : Int) - 1).toNat) 0 (ho1_201.slj Ba) (gD z4)) (k := ?_); exact z.1) : p := h ⟨k⟩
theorem K6 (k : q) (h : Aw q → p := by intro z; refine Z6 ?_; refine Be (Al Jn) (k := ?_); refine Be z66 (k := ?_); refine Z6 ?_; exact z.1) : p := h ⟨k⟩
theorem vJ (k : q) (h : Aw q → p := by intro z; refine Bu z66 (k := ?_); refine Bu z66 (k := ?_); exact z.1) : p := h ⟨k⟩
theorem AT6 (k : q) (h : Aw q → p := by intro z; refine Af (Cz (n := s.free.length) runUnderlying24 sizeOf3 ((((s.free.length : Nat) : Int) - 1).toNat) (ho1_201.slj Ba) (gD z4) Kc) (k := ?_); refine Af (Ci isAgg3 ((((s.free.length : Nat) : Int) - 1).toNat) 0 (ho1_201.slj Ba) (gD z4)) (k := ?_); exact z.1) : p := h ⟨k⟩
theorem rP (k : q) (h : Aw q → p := by intro z; refine Af Qy (k := ?_); refine Af (Ky rfl runUnderlying3 runUnderlying5) (k := ?_); exact z.1) : p := h ⟨k⟩
theorem A7 (k : q) (h : Aw q → p := by intro z; refine Z2 ?_; refine Cy (Ac call10) (fun w1 hw1 => yB w1 (hG := hG.ext hw1.ext_out) (hE := hE.ext hw1.ext_out)) (k := ?_); exact z.1) : p := h ⟨k⟩
theorem oM (k : q) (h : Aw q → p := by intro z; refine Bq (args := [_]) (Ac call40) func40 ntmps40 ?_; refine Z65 ?_; exact z.1) : p := h ⟨k⟩
theorem Sg (k : q) (h : Aw q → p := by intro z; refine Hz ?_; refine Ge ?_; exact z.1) : p := h ⟨k⟩
theorem Uy (k : q) (h : Aw q → p := by intro z; refine rG ?_; refine J3 ?_; exact z.1) : p := h ⟨k⟩
theorem Hr (k : q) (h : Aw q → p := by intro z; refine Ik ?_; refine Eh mixed 7 [(true, 0), (true, 2), (true, 3), (false, 1), (true, 4), (true, 5), (true, 6)] z2 ?_; refine Fo ?_; refine Be (Al V5) (k := ?_); refine Yr ?_; refine Yv (Ac call227) (fun w1 hw1 => G0 w1 (r := n_)) (k := ?_); refine Be Nn (k := ?_); refine Be Ro (k := ?_); refine Z83 ?_; refine Bd results179 z0 ?_; refine Ck ?_; exact z.1) : p := h ⟨k⟩
theorem AC9 (k : q) (h : Aw q → p := by intro z; refine Z3 ?_; refine Kq (Ac call258) (fun w1 hw1 => nN w1 (n_ := (((0 + ((((l.take at_1).length) : Nat) : Int)) + 1) + ((((l.drop at_1).length) : Nat) : Int))) (hi := Ng)) (k := ?_); exact z.1) : p := h ⟨k⟩
theorem Ko (k : q) (h : Aw q → p := by intro z; refine Z53 ?_; refine tD ?_; exact z.1) : p := h ⟨k⟩
theorem rQ (k : q) (h : Aw q → p := by intro z; refine Cp ?_; refine Af (Cx (cs := [_, _, _, _, _, _, _]) zeroValue26 X9) (k := ?_); exact z.1) : p := h ⟨k⟩
theorem Rl (k : q) (h : Aw q → p := by intro z; refine K6 ?_; refine Z25 ?_; refine Z6 ?_; refine Be (Al zT) (k := ?_); refine Be z85 (k := ?_); refine fW (V' := ((r4, _) :: ((r5, _) :: []))) (Bn (l' := [_, _, _, _, _, _, _]) sizeOf26) (k := ?_); refine aJ ?_; refine fW (V' := ((r4, _) :: ((r5, _) :: []))) (Bn (l' := [_, _, _, _, _, _]) sizeOf43) (k := ?_); refine K4 ?_; exact z.1) : p := h ⟨k⟩
theorem Ib (k : q) (h : Aw q → p := by intro z; refine yI ?_; refine Z3 ?_; exact z.1) : p := h ⟨k⟩
theorem rR (k : q) (h : Aw q → p := by intro z; refine Ar (Al Wx) (k := ?_); refine O4 ?_; exact z.1) : p := h ⟨k⟩
theorem Hs (k : q) (h : Aw q → p := by intro z; refine Ep (Bn (l' := [_, _, _]) sizeOf288) (k := ?_); refine Z0 ?_; refine Z2 ?_; refine Af (Bm isAgg285) (k := ?_); refine Af (Ch isAgg288 sizeOf288) (k := ?_); refine Bq (args := [_, _]) (Ac call179) func179 ntmps179 ?_; refine Z2 ?_; exact z.1) : p := h ⟨k⟩
theorem fG (k : q) (h : Aw q → p := by intro z; refine Z72 ?_; refine Qb ?_; exact z.1) : p := h ⟨k⟩
theorem A8 (k : q) (h : Aw q → p := by intro z; refine Bd results37 z0 ?_; refine lS ?_; exact z.1) : p := h ⟨k⟩
theorem fH (k : q) (h : Aw q → p := by intro z; refine Jh ?_; refine Ab 3 rfl ?_; exact z.1) : p := h ⟨k⟩
theorem oN (k : q) (h : Aw q → p := by intro z; refine lR ?_; refine kY ?_; exact z.1) : p := h ⟨k⟩
theorem AT7 (k : q) (h : Aw q → p := by intro z; refine Eh mixed 20 [(true, 0), (true, 1), (true, 2), (true, 3), (true, 4), (true, 5), (true, 6), (true, 7), (true, 8), (true, 9), (true, 10), (true, 11), (true, 12), (true, 13), (true, 14), (true, 15), (true, 16), (true, 17), (true, 18), (true, 19)] z2 ?_; refine Fo ?_; exact z.1) : p := h ⟨k⟩
theorem rS (k : q) (h : Aw q → p := by intro z; refine Sj ?_; refine iW ?_; exact z.1) : p := h ⟨k⟩
theorem K7 (k : q) (h : Aw q → p := by intro z; refine Ht ?_; refine Bu Qf (k := ?_); exact z.1) : p := h ⟨k⟩
theorem cP (k : q) (h : Aw q → p := by intro z; refine El ?_; refine dF ?_; exact z.1) : p := h ⟨k⟩
theorem oO (k : q) (h : Aw q → p := by intro z; refine Ar (Al Qq) (k := ?_); refine Qt ?_; exact z.1) : p := h ⟨k⟩
theorem oP (k : q) (h : Aw q → p := by intro z; refine Ar (Al Qr) (k := ?_); refine Qt ?_; exact z.1) : p := h ⟨k⟩
theorem oQ (k : q) (h : Aw q → p := by intro z; refine Ar (Al cC) (k := ?_); refine Ar (Bm isAgg9) (k := ?_); exact z.1) : p := h ⟨k⟩
theorem Ym (k : q) (h : Aw q → p := by intro z; refine yJ ?_; refine Be (Al Jn) (k := ?_); exact z.1) : p := h ⟨k⟩
theorem rT (k : q) (h : Aw q → p := by intro z; refine Uw ?_; refine Af (Ky rfl runUnderlying164 runUnderlying5) (k := ?_); exact z.1) : p := h ⟨k⟩
theorem rU (k : q) (h : Aw q → p := by intro z; refine Bq (args := [_]) (Ac call37) func37 ntmps37 ?_; refine Xv ?_; exact z.1) : p := h ⟨k⟩
theorem Yn (k : q) (h : Aw q → p := by intro z; refine oJ ?_; refine Hz ?_; exact z.1) : p := h ⟨k⟩
theorem oR (k : q) (h : Aw q → p := by intro z; refine Mm ?_; refine Z0 ?_; exact z.1) : p := h ⟨k⟩
theorem lD (k : q) (h : Aw q → p := by intro z; refine Qt ?_; refine Ar Lm (k := ?_); exact z.1) : p := h ⟨k⟩
theorem lE (k : q) (h : Aw q → p := by intro z; refine Jt ?_; refine Af z85 (k := ?_); exact z.1) : p := h ⟨k⟩
theorem Lr (k : q) (h : Aw q → p := by intro z; refine Z0 ?_; refine Z3 ?_; exact z.1) : p := h ⟨k⟩
theorem rV (k : q) (h : Aw q → p := by intro z; refine Bu z66 (k := ?_); refine Ht ?_; exact z.1) : p := h ⟨k⟩
theorem K8 (k : q) (h : Aw q → p := by intro z; refine Af (bD (u := (Value.iface 400 (.pointer (some ea2)))) (v := Value.nilIface) (b := true) (fun w => by kernel_rfl)) (k := ?_); refine Z0 ?_; exact z.1) : p := h ⟨k⟩
theorem lF (k : q) (h : Aw q → p := by intro z; refine It ?_; refine Ck ?_; exact z.1) : p := h ⟨k⟩
theorem A9 (k : q) (h : Aw q → p := by intro z; refine Af z60 (k := ?_); refine O3 ?_; exact z.1) : p := h ⟨k⟩
theorem iK (k : q) (h : Aw q → p := by intro z; refine fF ?_; refine Ia ?_; exact z.1) : p := h ⟨k⟩
theorem vK (k : q) (h : Aw q → p := by intro z; refine Bq (args := [_, _]) (Ac call114) func114 ntmps114 ?_; refine Lj ?_; exact z.1) : p := h ⟨k⟩
theorem rW (k : q) (h : Aw q → p := by intro z; refine Af (Bm isAgg35) (k := ?_); refine Hq ?_; exact z.1) : p := h ⟨k⟩
theorem rX (k : q) (h : Aw q → p := by intro z; refine Si ?_; refine Af (Al zT) (k := ?_); refine Ep (Bn (l' := [_, _, _, _, _, _, _, _, _, _, _, _, _, _, _, _, _, _, _, _, _, _, _]) sizeOf43) (k := ?_); exact z.1) : p := h ⟨k⟩
theorem lG (k : q) (h : Aw q → p := by intro z; refine Ar Qf (k := ?_); refine Ar (Al Vv) (k := ?_); exact z.1) : p := h ⟨k⟩
theorem vL (k : q) (h : Aw q → p := by intro z; refine Bq (args := [_, _]) (Ac call144) func144 ntmps144 ?_; refine Z2 ?_; exact z.1) : p := h ⟨k⟩
theorem Lk (k : q) (h : Aw q → p := by intro z; refine Cp ?_; refine Rg ?_; exact z.1) : p := h ⟨k⟩
theorem Yo (k : q) (h : Aw q → p := by intro z; refine Rf ?_; refine J3 ?_; exact z.1) : p := h ⟨k⟩
theorem lH (k : q) (h : Aw q → p := by intro z; refine Zz ?_; refine vF ?_; exact z.1) : p := h ⟨k⟩
theorem fI (k : q) (h : Aw q → p := by intro z; refine Z4 ?_; refine Z7 ?_; exact z.1) : p := h ⟨k⟩
theorem K9 (k : q) (h : Aw q → p := by intro z; refine Ep (Bn (l' := [_, _, _, _, _, _, _, _, _, _, _, _, _, _, _, _, _, _, _, _, _, _, _]) sizeOf24) (k := ?_); refine Jr ?_; exact z.1) : p := h ⟨k⟩
theorem Tv (k : q) (h : Aw q → p := by intro z; refine Ku rfl ?_; refine Z3 ?_; exact z.1) : p := h ⟨k⟩
theorem oS (k : q) (h : Aw q → p := by intro z; refine Be (Bm isAgg164) (k := ?_); refine Fo ?_; exact z.1) : p := h ⟨k⟩
theorem cQ (k : q) (h : Aw q → p := by intro z; refine Ar z75 (k := ?_); refine Z57 ?_; exact z.1) : p := h ⟨k⟩
theorem rY (k : q) (h : Aw q → p := by intro z; refine Af (Al Qo) (k := ?_); refine Af (Bm isAgg32) (k := ?_); exact z.1) : p := h ⟨k⟩
theorem Uz (k : q) (h : Aw q → p := by intro z; refine Af dG (k := ?_); refine Z0 ?_; exact z.1) : p := h ⟨k⟩
theorem AT8 (k : q) (h : Aw q → p := by intro z; refine Ck ?_; refine Af (Cz (n := s.used.length) runUnderlying29 sizeOf4 ((s.free.getD ((((s.free.length : Nat) : Int) - 1).toNat) default).toNat) (ho1_141.slj Oa) (gD z4) Kc) (k := ?_); exact z.1) : p := h ⟨k⟩
theorem vM (k : q) (h : Aw q → p := by intro z; refine Ar (pI runUnderlying4) (k := ?_); refine Ot ?_; exact z.1) : p := h ⟨k⟩
theorem Xc (k : q) (h : Aw q → p := by intro z; refine aK ?_; refine Rg ?_; exact z.1) : p := h ⟨k⟩
theorem Xd (k : q) (h : Aw q → p := by intro z; refine Af Ft (k := ?_); refine Ik ?_; exact z.1) : p := h ⟨k⟩
theorem AT9 (k : q) (h : Aw q → p := by intro z; refine dE ?_; refine BI0 ?_; exact z.1) : p := h ⟨k⟩
theorem vN (k : q) (h : Aw q → p := by intro z; refine pE ?_; refine Ik ?_; exact z.1) : p := h ⟨k⟩
theorem vO (k : q) (h : Aw q → p := by intro z; refine Ub ?_; refine rK ?_; exact z.1) : p := h ⟨k⟩
theorem iL (k : q) (h : Aw q → p := by intro z; refine Z88 ?_; refine Dz ?_; refine Dt _ ((qa (qa q0)).trans (qa q0)) ?_; refine Cn _ (List.Sublist.cons_cons _ (List.Sublist.cons_cons _ Mo)) ?_; exact z.1) : p := h ⟨k⟩
theorem AU0 (k : q) (h : Aw q → p := by intro z; refine Af (Yb (s.free.take ((((s.free.length : Nat) : Int) - 1).toNat)).length ((((s.free.length : Nat) : Int) - 1).toNat) runUnderlying24 (fun w => ⟨_, sizeOf3 w⟩) (hi := z3) (hi2 := z3)) (k := ?_); refine vD ?_; exact z.1) : p := h ⟨k⟩
theorem Nj (k : q) (h : Aw q → p := by intro z; refine Z0 ?_; refine Gr ?_; exact z.1) : p := h ⟨k⟩
theorem AU1 (k : q) (h : Aw q → p := by intro z; refine K2 ?_; refine Cp ?_; exact z.1) : p := h ⟨k⟩
theorem BE6 (k : q) (h : Aw q → p := by intro z; refine It ?_; refine Af Qg (k := ?_); exact z.1) : p := h ⟨k⟩
theorem BE7 (k : q) (h : Aw q → p := by intro z; refine Af (Hj (n := (l.drop at_1).length) (c := (l_c - at_1)) (i := 1) 1 ((l.drop at_1).drop 1).length runUnderlying32 sizeOf50 (hlo := z4) (hnc := iE) (hm := z6)) (k := ?_); refine Ik ?_; exact z.1) : p := h ⟨k⟩
theorem fJ (k : q) (h : Aw q → p := by intro z; refine Ar (Al Qs) (k := ?_); refine A3 ?_; exact z.1) : p := h ⟨k⟩
theorem L1 (k : q) (h : Aw q → p := by intro z; refine Fr ?_; refine Fu (qc (qa q0)) ?_; refine Ar Hi (k := ?_); refine rG ?_; exact z.1) : p := h ⟨k⟩
theorem vP (k : q) (h : Aw q → p := by intro z; refine lS ?_; refine Z0 ?_; exact z.1) : p := h ⟨k⟩
theorem BE8 (k : q) (h : Aw q → p := by intro z; refine Af (Hj (n := l.length) (c := l_c) (i := ((at_1 : Nat) : Int)) at_1 (l.drop at_1).length runUnderlying32 sizeOf50 (hlo := z4) (hnc := iE) (hm := z6)) (k := ?_); refine Ik ?_; exact z.1) : p := h ⟨k⟩
theorem Xe (k : q) (h : Aw q → p := by intro z; refine dE ?_; refine Mj ?_; exact z.1) : p := h ⟨k⟩
theorem fK (k : q) (h : Aw q → p := by intro z; refine Ar (Al Qs) (k := ?_); refine Z57 ?_; exact z.1) : p := h ⟨k⟩
theorem L3 (k : q) (h : Aw q → p := by intro z; refine Af (bD (u := Value.nilIface) (v := Value.nilIface) (b := false) (fun w => by kernel_rfl)) (k := ?_); refine Z0 ?_; exact z.1) : p := h ⟨k⟩
theorem fL (k : q) (h : Aw q → p := by intro z; refine Eu ?_; refine Z3 ?_; exact z.1) : p := h ⟨k⟩
theorem BE9 (k : q) (h : Aw q → p := by intro z; refine Af Qg (k := ?_); refine Z0 ?_; exact z.1) : p := h ⟨k⟩
theorem AD0 (k : q) (h : Aw q → p := by intro z; refine Mx _ _ results119 z0 (vp (List.Perm.refl _) nE) (List.Sublist.cons _ z37) ?_; refine Bu Hi (k := ?_); exact z.1) : p := h ⟨k⟩
theorem BF0 (k : q) (h : Aw q → p := by intro z; refine Fz _ _ (vp (qc (qc (qa q0))) (nC nE)) mixed 27 [(true, 0), (true, 1), (true, 2), (true, 3), (true, 4), (true, 5), (true, 6), (true, 7), (true, 8), (true, 9), (true, 10), (true, 11), (true, 12), (true, 13), (true, 14), (true, 15), (true, 16), (true, 17), (true, 18), (true, 19), (true, 20), (true, 21), (true, 22), (true, 23), (true, 24), (false, 25), (true, 26)] z2 ?_; refine Be (Ch isAgg50 sizeOf50) (k := ?_); exact z.1) : p := h ⟨k⟩
theorem AU2 (k : q) (h : Aw q → p := by intro z; refine Yx z2 _ ?_; refine sN ?_; exact z.1) : p := h ⟨k⟩
theorem B0 (k : q) (h : Aw q → p := by intro z; refine Bq (args := [_, _]) (Ac call116) func116 ntmps116 ?_; refine Xv ?_; exact z.1) : p := h ⟨k⟩
theorem rZ (k : q) (h : Aw q → p := by intro z; refine Qt ?_; refine Ar Ny (k := ?_); exact z.1) : p := h ⟨k⟩
theorem AU3 (k : q) (h : Aw q → p := by intro z; refine Bd results114 z0 ?_; refine Af Qg (k := ?_); refine Z4 ?_; exact z.1) : p := h ⟨k⟩
theorem lI (k : q) (h : Aw q → p := by intro z; refine Af Ju (k := ?_); refine Mr ?_; exact z.1) : p := h ⟨k⟩
theorem aC (k : q) (h : Aw q → p := by intro z; refine Mr ?_; refine Z4 ?_; exact z.1) : p := h ⟨k⟩
theorem vQ (k : q) (h : Aw q → p := by intro z; refine Af (Al bT) (k := ?_); refine Af rC (k := ?_); exact z.1) : p := h ⟨k⟩
theorem vR (k : q) (h : Aw q → p := by intro z; refine Af (Al Td) (k := ?_); refine Af (Bm isAgg29) (k := ?_); exact z.1) : p := h ⟨k⟩
theorem vS (k : q) (h : Aw q → p := by intro z; refine AU3 ?_; refine Bd results116 z0 ?_; refine Af Hi (k := ?_); refine Z4 ?_; exact z.1) : p := h ⟨k⟩
theorem Kt (k : q) (h : Aw q → p := by intro z; refine Z1 ?_; refine Z2 ?_; exact z.1) : p := h ⟨k⟩
theorem Xf (k : q) (h : Aw q → p := by intro z; refine Ab 4 rfl ?_; refine Pe ?_; exact z.1) : p := h ⟨k⟩
theorem sA (k : q) (h : Aw q → p := by intro z; refine Ri ?_; refine Bd results106 z0 ?_; exact z.1) : p := h ⟨k⟩
theorem B3 (k : q) (h : Aw q → p := by intro z; refine pP (args := [_]) (Ac call231) func231 ntmps231 ?_; refine Xv ?_; exact z.1) : p := h ⟨k⟩
theorem Pf (k : q) (h : Aw q → p := by intro z; refine Ep (Bn (l' := [_]) sizeOf24) (k := ?_); refine Dz ?_; refine L1 ?_; exact z.1) : p := h ⟨k⟩
theorem BF1 (k : q) (h : Aw q → p := by intro z; refine D9 rfl (Ac call34) (fun w1 hw1 => AA0 w1 (s := r.slots) (h_s_gens := (Cl.of_base h_r_Sg) w1 hw1) (k_s_gens := z53) (h_s_used := (Cl.of_base h_r_Su) w1 hw1) (k_s_used := z53) (h_s_free := (Cl.of_base h_r_Sf) w1 hw1) (k_s_free := z53)) (k := ?_); refine Ct 5 rfl z2 (Cx (cs := [_, _, _, _, _]) zeroValue34 W9) (k := ?_); exact z.1) : p := h ⟨k⟩
theorem aD (k : q) (h : Aw q → p := by intro z; refine J3 ?_; refine fI ?_; exact z.1) : p := h ⟨k⟩
theorem lJ (k : q) (h : Aw q → p := by intro z; refine Z2 ?_; refine Af rC (k := ?_); exact z.1) : p := h ⟨k⟩
theorem lK (k : q) (h : Aw q → p := by intro z; refine Af Lm (k := ?_); refine Ck ?_; exact z.1) : p := h ⟨k⟩
theorem B4 (k : q) (h : Aw q → p := by intro z; refine Fo ?_; refine Be Ju (k := ?_); refine Be Ju (k := ?_); refine aJ ?_; refine Z21 ?_; exact z.1) : p := h ⟨k⟩
theorem AU4 (k : q) (h : Aw q → p := by intro z; refine yJ ?_; refine AC3 ?_; exact z.1) : p := h ⟨k⟩
theorem sB (k : q) (h : Aw q → p := by intro z; refine Xk ((Gf).k) (k := ?_); refine Xk ((Gf).k) (k := ?_); exact z.1) : p := h ⟨k⟩
theorem L4 (k : q) (h : Aw q → p := by intro z; refine Af (Al Oi) (k := ?_); refine Ep (Bn (l' := [_, _, _, _, _, _, _]) sizeOf24) (k := ?_); exact z.1) : p := h ⟨k⟩
theorem B5 (k : q) (h : Aw q → p := by intro z; refine Tv ?_; refine Bq (args := [_]) (Ac call45) func45 ntmps45 ?_; exact z.1) : p := h ⟨k⟩
theorem cR (k : q) (h : Aw q → p := by intro z; refine Be Ft (k := ?_); refine oR ?_; exact z.1) : p := h ⟨k⟩
theorem cS (k : q) (h : Aw q → p := by intro z; refine kX ?_; refine Jt ?_; exact z.1) : p := h ⟨k⟩
theorem L5 (k : q) (h : Aw q → p := by intro z; refine BE5 ?_; refine Ht ?_; exact z.1) : p := h ⟨k⟩
theorem Xg (k : q) (h : Aw q → p := by intro z; refine Z5 ?_; refine Ab 4 rfl ?_; exact z.1) : p := h ⟨k⟩
theorem B6 (k : q) (h : Aw q → p := by intro z; refine Bq (args := [_]) (Ac call55) func55 ntmps55 ?_; refine Xv ?_; exact z.1) : p := h ⟨k⟩
theorem oT (k : q) (h : Aw q → p := by intro z; refine Be Qf (k := ?_); refine Be (Al zS) (k := ?_); refine Sm ?_; refine Hw (nA nE) ?_; refine Ep (Bn (l' := [_, _, _, _, _, _, _, _, _, _, _, _, _, _, _, _, _, _, _, _, _, _, _]) sizeOf39) (k := ?_); refine Dz ?_; exact z.1) : p := h ⟨k⟩
theorem cT (k : q) (h : Aw q → p := by intro z; refine Uy ?_; refine Rg ?_; exact z.1) : p := h ⟨k⟩
theorem Pg (k : q) (h : Aw q → p := by intro z; refine Ep (Bn (l' := [_, _, _]) sizeOf288) (k := ?_); refine Dz ?_; refine AU1 ?_; refine Af rC (k := ?_); refine Af (Al V4) (k := ?_); refine It ?_; exact z.1) : p := h ⟨k⟩
theorem BF2 (k : q) (h : Aw q → p := by intro z; refine sM ?_; refine Cy (Ac call118) (fun w1 hw1 => nF w1 (s := s) (h_s_gens := (Cl.of_base h_s_gens) w1 hw1) (n_s_gens := Ng) (h_s_used := (Cl.of_base h_s_used) w1 hw1) (n_s_used := Ng) (h_s_free := (Cl.of_base h_s_free) w1 hw1) (n_s_free := Ng)) (k := ?_); exact z.1) : p := h ⟨k⟩
theorem sC (k : q) (h : Aw q → p := by intro z; refine Si ?_; refine Af (Al kB) (k := ?_); exact z.1) : p := h ⟨k⟩
theorem sD (k : q) (h : Aw q → p := by intro z; refine Z1 ?_; refine aA ?_; exact z.1) : p := h ⟨k⟩
theorem Yp (k : q) (h : Aw q → p := by intro z; refine Z2 ?_; refine Z4 ?_; exact z.1) : p := h ⟨k⟩
theorem Od (k : q) (h : Aw q → p := by intro z; refine Z0 ?_; refine Z2 ?_; exact z.1) : p := h ⟨k⟩
theorem AD1 (k : q) (h : Aw q → p := by intro z; refine Ev (vs := [(Value.agg [(vi 10), (vt ([115, 104, 111, 119] : An)), (vi 1)].toArray)]) hl3 (qa (qa q0)) Dw ?_; refine Cp ?_; exact z.1) : p := h ⟨k⟩
theorem AD2 (k : q) (h : Aw q → p := by intro z; refine Af z60 (k := ?_); refine Cy (Ac call12) (fun w1 hw1 => H9 w1 (f := f)) (k := ?_); exact z.1) : p := h ⟨k⟩
theorem B7 (k : q) (h : Aw q → p := by intro z; refine Mm ?_; refine Ep (Bn (l' := [_, _, _, _, _]) sizeOf32) (k := ?_); exact z.1) : p := h ⟨k⟩
theorem Nk (k : q) (h : Aw q → p := by intro z; refine Xv ?_; refine Z2 ?_; exact z.1) : p := h ⟨k⟩
theorem Va (k : q) (h : Aw q → p := by intro z; refine Wn rfl ?_; refine Z3 ?_; exact z.1) : p := h ⟨k⟩
theorem AD3 (k : q) (h : Aw q → p := by intro z; refine N8 ?_; refine Af (Cx (cs := [_, _, _, _]) zeroValue255 BA8) (k := ?_); exact z.1) : p := h ⟨k⟩
theorem vT (k : q) (h : Aw q → p := by intro z; refine Cg ?_; refine iK ?_; exact z.1) : p := h ⟨k⟩
theorem oU (k : q) (h : Aw q → p := by intro z; refine Bq (args := [_, _, _]) (Ac call134) func134 ntmps134 ?_; refine Eh mixed 17 [(true, 0), (true, 1), (true, 2), (true, 3), (true, 4), (true, 5), (true, 6), (true, 7), (true, 8), (true, 9), (true, 10), (true, 11), (true, 12), (false, 13), (false, 14), (true, 15), (true, 16)] z2 ?_; refine yJ ?_; refine Z25 ?_; refine AU4 ?_; refine Fo ?_; refine Be z77 (k := ?_); exact z.1) : p := h ⟨k⟩
theorem AU5 (k : q) (h : Aw q → p := by intro z; refine fW (V' := ((r2, _) :: ((r3, _) :: []))) (Bn (l' := [_, _, _]) sizeOf31) (k := ?_); refine fW (V' := ((r2, _) :: ((r3, _) :: []))) (Bn (l' := [_, _]) sizeOf23) (k := ?_); exact z.1) : p := h ⟨k⟩
theorem oV (k : q) (h : Aw q → p := by intro z; refine Dz ?_; refine Dj results40 Bw.nil ?_; exact z.1) : p := h ⟨k⟩
theorem AD4 (k : q) (h : Aw q → p := by intro z; refine pE ?_; refine Ep (Bn (l' := [_]) sizeOf4) (k := ?_); exact z.1) : p := h ⟨k⟩
theorem L6 (k : q) (h : Aw q → p := by intro z; refine Cn _ (sd (sx (sx (sk (sa (sk (sk (sk sz)))))))) ?_; refine Bd results84 Bw.nil ?_; exact z.1) : p := h ⟨k⟩
theorem iM (k : q) (h : Aw q → p := by intro z; refine Eu ?_; refine Dk _ (sd (sk sz)) ?_; exact z.1) : p := h ⟨k⟩
theorem oW (k : q) (h : Aw q → p := by intro z; refine Be Qx (k := ?_); refine Be Qf (k := ?_); exact z.1) : p := h ⟨k⟩
theorem AU6 (k : q) (h : Aw q → p := by intro z; refine Ct 10 rfl z2 z43 (k := ?_); refine Ct 11 rfl z2 (Cx (cs := [_, _, _]) zeroValue276 xN) (k := ?_); exact z.1) : p := h ⟨k⟩
theorem B8 (k : q) (h : Aw q → p := by intro z; refine Ar (Al Td) (k := ?_); refine Ar (Bm isAgg29) (k := ?_); exact z.1) : p := h ⟨k⟩
theorem AD5 (k : q) (h : Aw q → p := by intro z; refine Ji ?_; refine Ck ?_; exact z.1) : p := h ⟨k⟩
theorem AD6 (k : q) (h : Aw q → p := by intro z; refine Af z77 (k := ?_); refine O3 ?_; exact z.1) : p := h ⟨k⟩
theorem vU (k : q) (h : Aw q → p := by intro z; refine Ri ?_; refine AC2 ?_; exact z.1) : p := h ⟨k⟩
theorem L7 (k : q) (h : Aw q → p := by intro z; refine Ri ?_; refine vS ?_; exact z.1) : p := h ⟨k⟩
theorem L8 (k : q) (h : Aw q → p := by intro z; refine Qe (k := ?_); refine Ou ?_; refine Yn ?_; exact z.1) : p := h ⟨k⟩
theorem cU (k : q) (h : Aw q → p := by intro z; refine Af Ro (k := ?_); refine Z0 ?_; exact z.1) : p := h ⟨k⟩
theorem B9 (k : q) (h : Aw q → p := by intro z; refine El ?_; refine Ar (Fg runUnderlying39) (k := ?_); exact z.1) : p := h ⟨k⟩
theorem AU7 (k : q) (h : Aw q → p := by intro z; refine Ib ?_; refine Af (Cz (n := r.l.length) runUnderlying32 sizeOf50 x_1 (Hn.of_base Je h_r_l).sl (Wo h_r_l.1 z4) (Hf h_r_l.1)) (k := ?_); exact z.1) : p := h ⟨k⟩
theorem lL (k : q) (h : Aw q → p := by intro z; refine Py ?_; refine yI ?_; exact z.1) : p := h ⟨k⟩
theorem BF3 (k : q) (h : Aw q → p := by intro z; refine sQ ?_; refine Cy (Ac call19) (fun w1 hw1 => bX w1 (l := x_6) (t := ((Cs f.data).1)) (h_l := (hx_6.slj Hk) w1 hw1) (n_l := z9) (hG := hG.ext hw1.ext_out) (hE := hE.ext hw1.ext_out)) (k := ?_); exact z.1) : p := h ⟨k⟩
theorem BF4 (k : q) (h : Aw q → p := by intro z; refine Dk _ (sa (sa (sk (sx (sk (sk (sk sz))))))) ?_; refine Fz _ _ (vp ((qc (qc (qa (qa q0)))).trans (qa (qc (qc (qa (qa q0)))))) (nC (nC nE))) mixed 16 [(true, 0), (true, 1), (true, 2), (true, 3), (true, 4), (true, 5), (true, 6), (true, 7), (true, 8), (true, 9), (true, 10), (true, 11), (false, 12), (true, 13), (false, 14), (true, 15)] z2 ?_; exact z.1) : p := h ⟨k⟩
theorem oX (k : q) (h : Aw q → p := by intro z; refine K7 ?_; refine Bu (Al Vv) (k := ?_); exact z.1) : p := h ⟨k⟩
theorem cV (k : q) (h : Aw q → p := by intro z; refine sY q0 ?_; refine Gr ?_; exact z.1) : p := h ⟨k⟩
theorem AU8 (k : q) (h : Aw q → p := by intro z; refine Z45 ?_; refine Kj (Ac call65) (fun w1 hw1 => gA w1 (l := s.opn) (h_l := (Cl.of_base h_s_opn) w1 hw1) (n_l := Ng)) (k := ?_); exact z.1) : p := h ⟨k⟩
theorem sE (k : q) (h : Aw q → p := by intro z; refine Af (Bm isAgg164) (k := ?_); refine Lq ?_; refine AX2 ?_; exact z.1) : p := h ⟨k⟩
theorem AU9 (k : q) (h : Aw q → p := by intro z; refine Eu ?_; refine Eh mixed 11 [(true, 0), (true, 1), (true, 2), (true, 3), (true, 4), (true, 5), (true, 6), (true, 7), (true, 8), (false, 9), (true, 10)] z2 ?_; exact z.1) : p := h ⟨k⟩
theorem oY (k : q) (h : Aw q → p := by intro z; refine Sm ?_; refine Hw (nA nE) ?_; exact z.1) : p := h ⟨k⟩
theorem AV0 (k : q) (h : Aw q → p := by intro z; refine Jr ?_; refine Fz _ _ (vp (qd (qd (qb q0))) (nA nE)) mixed 8 [(true, 0), (true, 1), (true, 2), (true, 3), (true, 4), (true, 5), (true, 6), (false, 7)] z2 ?_; exact z.1) : p := h ⟨k⟩
theorem BF5 (k : q) (h : Aw q → p := by intro z; refine Dk _ (sa (sk (sx (sk (sk (sk sz)))))) ?_; refine Fz _ _ (vp ((qc (qa (qa q0))).trans (qa (qc (qa (qa q0))))) (nC (nC nE))) mixed 16 [(true, 0), (true, 1), (true, 2), (true, 3), (true, 4), (true, 5), (true, 6), (true, 7), (true, 8), (true, 9), (true, 10), (true, 11), (false, 12), (true, 13), (false, 14), (true, 15)] z2 ?_; exact z.1) : p := h ⟨k⟩
theorem AD7 (k : q) (h : Aw q → p := by intro z; refine Be (Bm isAgg9) (k := ?_); refine pP (args := [_]) (Ac call135) func135 ntmps135 ?_; exact z.1) : p := h ⟨k⟩
theorem sF (k : q) (h : Aw q → p := by intro z; refine El ?_; refine Ar Ln (k := ?_); exact z.1) : p := h ⟨k⟩
theorem iN (k : q) (h : Aw q → p := by intro z; refine Z52 ?_; refine Z3 ?_; exact z.1) : p := h ⟨k⟩
theorem cW (k : q) (h : Aw q → p := by intro z; refine oI ?_; refine Ay 7 rfl ?_; exact z.1) : p := h ⟨k⟩
theorem sG (k : q) (h : Aw q → p := by intro z; refine El ?_; refine Ar Hi (k := ?_); exact z.1) : p := h ⟨k⟩
theorem L9 (k : q) (h : Aw q → p := by intro z; refine Cn _ (sd (sk (sk sz))) ?_; refine Bd results64 z0 ?_; exact z.1) : p := h ⟨k⟩
theorem Sh (k : q) (h : Aw q → p := by intro z; refine Zz ?_; refine Ux ?_; exact z.1) : p := h ⟨k⟩
theorem C0 (k : q) (h : Aw q → p := by intro z; refine B4 ?_; refine Jr ?_; exact z.1) : p := h ⟨k⟩
theorem AD8 (k : q) (h : Aw q → p := by intro z; refine fW (V' := ((r361, _) :: [])) z45 (k := ?_); refine Z76 ?_; exact z.1) : p := h ⟨k⟩
theorem AD9 (k : q) (h : Aw q → p := by intro z; refine wH ?_; refine Ep (Bn (l' := [_]) sizeOf44) (k := ?_); exact z.1) : p := h ⟨k⟩
theorem cX (k : q) (h : Aw q → p := by intro z; refine Z5 ?_; refine Qe (k := ?_); exact z.1) : p := h ⟨k⟩
theorem M0 (k : q) (h : Aw q → p := by intro z; refine Cn _ (sd (sk (sk (sk sz)))) ?_; refine Bd results64 z0 ?_; refine Jh ?_; exact z.1) : p := h ⟨k⟩
theorem sH (k : q) (h : Aw q → p := by intro z; refine Af Tp (k := ?_); refine Ck ?_; exact z.1) : p := h ⟨k⟩
theorem AE0 (k : q) (h : Aw q → p := by intro z; refine fW (V' := ((r12, _) :: [])) z45 (k := ?_); refine Z76 ?_; exact z.1) : p := h ⟨k⟩
theorem Vb (k : q) (h : Aw q → p := by intro z; refine Cg ?_; refine vF ?_; exact z.1) : p := h ⟨k⟩
theorem iO (k : q) (h : Aw q → p := by intro z; refine Sd ?_; refine Ck ?_; exact z.1) : p := h ⟨k⟩
theorem AV1 (k : q) (h : Aw q → p := by intro z; refine Fz _ _ (vp (qb q0) (nA nE)) mixed 5 [(true, 0), (true, 1), (false, 2), (false, 3), (false, 4)] z2 ?_; refine Be (Bm isAgg106) (k := ?_); exact z.1) : p := h ⟨k⟩
theorem M1 (k : q) (h : Aw q → p := by intro z; refine rE ?_; refine lS ?_; exact z.1) : p := h ⟨k⟩
theorem Vc (k : q) (h : Aw q → p := by intro z; refine Z3 ?_; refine Z4 ?_; exact z.1) : p := h ⟨k⟩
theorem AE1 (k : q) (h : Aw q → p := by intro z; refine lH ?_; refine Af (La (m := 2) (n := 3) runUnderlying358 sizeOf288 isAgg288) (k := ?_); exact z.1) : p := h ⟨k⟩
theorem AE2 (k : q) (h : Aw q → p := by intro z; refine lH ?_; refine Af (La (m := 3) (n := 3) runUnderlying358 sizeOf288 isAgg288) (k := ?_); exact z.1) : p := h ⟨k⟩
theorem AE3 (k : q) (h : Aw q → p := by intro z; refine lH ?_; refine Af (La (m := 4) (n := 3) runUnderlying358 sizeOf288 isAgg288) (k := ?_); exact z.1) : p := h ⟨k⟩
theorem AE4 (k : q) (h : Aw q → p := by intro z; refine lH ?_; refine Af (La (m := 5) (n := 3) runUnderlying358 sizeOf288 isAgg288) (k := ?_); exact z.1) : p := h ⟨k⟩
theorem AE5 (k : q) (h : Aw q → p := by intro z; refine lH ?_; refine Af (La (m := 6) (n := 3) runUnderlying358 sizeOf288 isAgg288) (k := ?_); exact z.1) : p := h ⟨k⟩
theorem AE6 (k : q) (h : Aw q → p := by intro z; refine lH ?_; refine Af (La (m := 7) (n := 3) runUnderlying358 sizeOf288 isAgg288) (k := ?_); exact z.1) : p := h ⟨k⟩
theorem AE7 (k : q) (h : Aw q → p := by intro z; refine lH ?_; refine Af (La (m := 8) (n := 3) runUnderlying358 sizeOf288 isAgg288) (k := ?_); exact z.1) : p := h ⟨k⟩
theorem lM (k : q) (h : Aw q → p := by intro z; refine iX ?_; refine rK ?_; exact z.1) : p := h ⟨k⟩
theorem BF6 (k : q) (h : Aw q → p := by intro z; refine Fz _ _ (vp ((qc (qa (qa (qc q0)))).trans (qa (qc (qa (qa (qc q0)))))) (nC (nC nE))) mixed 16 [(true, 0), (true, 1), (true, 2), (true, 3), (true, 4), (true, 5), (true, 6), (true, 7), (true, 8), (true, 9), (true, 10), (true, 11), (false, 12), (true, 13), (false, 14), (true, 15)] z2 ?_; refine Rl ?_; exact z.1) : p := h ⟨k⟩
theorem AV2 (k : q) (h : Aw q → p := by intro z; refine Dt _ ((qa (qc q0)).trans (qb (qb q0))) ?_; refine Cn _ (List.Sublist.append z37 (List.Sublist.cons_cons _ Mo)) ?_; exact z.1) : p := h ⟨k⟩
theorem Tw (k : q) (h : Aw q → p := by intro z; refine tR (V' := ((r162, _) :: [])) rfl (Bn (l' := [_, _]) sizeOf146) (k := ?_); refine Ct 9 rfl z2 Iy (k := ?_); refine iL ?_; exact z.1) : p := h ⟨k⟩
theorem lN (k : q) (h : Aw q → p := by intro z; refine El ?_; refine rJ ?_; exact z.1) : p := h ⟨k⟩
theorem C1 (k : q) (h : Aw q → p := by intro z; refine N9 ?_; refine Jr ?_; exact z.1) : p := h ⟨k⟩
theorem M2 (k : q) (h : Aw q → p := by intro z; refine Dz ?_; refine Fr ?_; exact z.1) : p := h ⟨k⟩
theorem iP (k : q) (h : Aw q → p := by intro z; refine Af Tp (k := ?_); refine Z0 ?_; exact z.1) : p := h ⟨k⟩
theorem AV3 (k : q) (h : Aw q → p := by intro z; refine Mx _ _ results71 z0 (vp (List.Perm.refl _) nE) z37 ?_; refine wL ?_; exact z.1) : p := h ⟨k⟩
theorem vV (k : q) (h : Aw q → p := by intro z; refine Ub ?_; refine Ht ?_; exact z.1) : p := h ⟨k⟩
theorem vW (k : q) (h : Aw q → p := by intro z; refine iX ?_; refine Ht ?_; exact z.1) : p := h ⟨k⟩
theorem AE8 (k : q) (h : Aw q → p := by intro z; refine Ct 4 rfl z2 z43 (k := ?_); refine AU2 ?_; exact z.1) : p := h ⟨k⟩
theorem C2 (k : q) (h : Aw q → p := by intro z; refine Vc ?_; refine N7 ?_; exact z.1) : p := h ⟨k⟩
theorem C3 (k : q) (h : Aw q → p := by intro z; refine aD ?_; refine Bd results45 z0 ?_; exact z.1) : p := h ⟨k⟩
theorem C4 (k : q) (h : Aw q → p := by intro z; refine aD ?_; refine Bd results55 z0 ?_; exact z.1) : p := h ⟨k⟩
theorem BF7 (k : q) (h : Aw q → p := by intro z; refine wK ?_; refine Kj (Ac call22) (fun w1 hw1 => Pv w1 (s := (Am s)) (h_s_opn := (ho1_1.slj Ba) w1 hw1) (n_s_opn := z1)) (k := ?_); exact z.1) : p := h ⟨k⟩
theorem M3 (k : q) (h : Aw q → p := by intro z; refine Bu (Al bT) (k := ?_); refine Bu rC (k := ?_); exact z.1) : p := h ⟨k⟩
theorem BF8 (k : q) (h : Aw q → p := by intro z; refine Af (Ei runUnderlying260 sizeOf35 0) (k := ?_); refine rW ?_; exact z.1) : p := h ⟨k⟩
theorem Tx (k : q) (h : Aw q → p := by intro z; refine Z89 ?_; refine Hp ?_; refine wJ ?_; refine dE ?_; refine Hq ?_; refine Z9 ?_; exact z.1) : p := h ⟨k⟩
theorem Tz (k : q) (h : Aw q → p := by intro z; refine Z89 ?_; refine Sd ?_; exact z.1) : p := h ⟨k⟩
theorem sI (k : q) (h : Aw q → p := by intro z; refine Z0 ?_; refine Eu ?_; refine Fz _ _ (vp ((qc (qa (qc (qa q0)))).trans (qa (qc (qa (qc (qa q0)))))) (nC (nC nE))) mixed 16 [(true, 0), (true, 1), (true, 2), (true, 3), (true, 4), (true, 5), (true, 6), (true, 7), (true, 8), (true, 9), (true, 10), (true, 11), (false, 12), (true, 13), (false, 14), (true, 15)] z2 ?_; refine Rl ?_; exact z.1) : p := h ⟨k⟩
theorem vX (k : q) (h : Aw q → p := by intro z; refine Dj results144 Bw.nil ?_; refine Dz ?_; exact z.1) : p := h ⟨k⟩
theorem M4 (k : q) (h : Aw q → p := by intro z; refine lR ?_; refine Z0 ?_; exact z.1) : p := h ⟨k⟩
theorem AV4 (k : q) (h : Aw q → p := by intro z; refine Rh ?_; refine rO ?_; exact z.1) : p := h ⟨k⟩
theorem M5 (k : q) (h : Aw q → p := by intro z; refine AK3 ?_; refine Eu ?_; refine AJ7 ?_; refine Du ?_; exact z.1) : p := h ⟨k⟩
theorem Yq (k : q) (h : Aw q → p := by intro z; refine Py ?_; refine Eu ?_; exact z.1) : p := h ⟨k⟩
theorem Xh (k : q) (h : Aw q → p := by intro z; refine L7 ?_; refine M0 ?_; refine L8 ?_; exact z.1) : p := h ⟨k⟩
theorem C5 (k : q) (h : Aw q → p := by intro z; refine Ct 15 rfl z2 Iy (k := ?_); refine Z88 ?_; exact z.1) : p := h ⟨k⟩
theorem M6 (k : q) (h : Aw q → p := by intro z; refine Af (Al kA) (k := ?_); refine Sj ?_; exact z.1) : p := h ⟨k⟩
theorem M7 (k : q) (h : Aw q → p := by intro z; refine Z3 ?_; refine Af (Cx (cs := [_]) zeroValue190 BA0) (k := ?_); exact z.1) : p := h ⟨k⟩
theorem M8 (k : q) (h : Aw q → p := by intro z; refine Be (Al Wt) (k := ?_); refine Be (Bm isAgg48) (k := ?_); exact z.1) : p := h ⟨k⟩
theorem M9 (k : q) (h : Aw q → p := by intro z; refine AD5 ?_; refine Af (Ei runUnderlying24 sizeOf3 0) (k := ?_); exact z.1) : p := h ⟨k⟩
theorem N0 (k : q) (h : Aw q → p := by intro z; refine AD5 ?_; refine Af (Ei runUnderlying24 sizeOf3 1) (k := ?_); exact z.1) : p := h ⟨k⟩
theorem AV5 (k : q) (h : Aw q → p := by intro z; refine Af (Al Oh) (k := ?_); refine It ?_; exact z.1) : p := h ⟨k⟩
theorem BF9 (k : q) (h : Aw q → p := by intro z; refine C0 ?_; refine Fz _ _ (vp (List.Perm.refl _) (nA nE)) mixed 17 [(true, 0), (true, 1), (true, 2), (true, 3), (true, 4), (true, 5), (true, 6), (true, 7), (true, 8), (true, 9), (true, 10), (true, 11), (false, 12), (false, 13), (true, 14), (true, 15), (true, 16)] z2 ?_; exact z.1) : p := h ⟨k⟩
theorem AV6 (k : q) (h : Aw q → p := by intro z; refine Ar (Cx (cs := [_, _, _, _, _, _]) zeroValue43 Y1) (k := ?_); refine Ar (aV (AS5 _ _ _ _ _ _ _ _ _ _ _ _ _ _)) (k := ?_); exact z.1) : p := h ⟨k⟩
theorem C6 (k : q) (h : Aw q → p := by intro z; refine Ct 10 rfl z2 Gf (k := ?_); refine Ct 11 rfl z2 Ju (k := ?_); refine Ct 12 rfl z2 Ju (k := ?_); exact z.1) : p := h ⟨k⟩
theorem AE9 (k : q) (h : Aw q → p := by intro z; refine Af (Al Og) (k := ?_); refine Ep (Bn (l' := [_, _, _]) sizeOf24) (k := ?_); exact z.1) : p := h ⟨k⟩
theorem Ua (k : q) (h : Aw q → p := by intro z; refine Py ?_; refine Z2 ?_; exact z.1) : p := h ⟨k⟩
theorem aE (k : q) (h : Aw q → p := by intro z; refine sD ?_; refine Z4 ?_; exact z.1) : p := h ⟨k⟩
theorem oZ (k : q) (h : Aw q → p := by intro z; refine Be Kv (k := ?_); refine oR ?_; exact z.1) : p := h ⟨k⟩
theorem pA (k : q) (h : Aw q → p := by intro z; refine Cu ?_; refine Xw rfl ?_; exact z.1) : p := h ⟨k⟩
theorem AF0 (k : q) (h : Aw q → p := by intro z; refine Cn _ (sa (sd (sk (sa (sk (sk (sk sz))))))) ?_; refine Dj results134 Bw.nil ?_; exact z.1) : p := h ⟨k⟩
theorem AF1 (k : q) (h : Aw q → p := by intro z; refine fL ?_; refine BE9 ?_; exact z.1) : p := h ⟨k⟩
theorem AF2 (k : q) (h : Aw q → p := by intro z; refine BF8 ?_; refine Bq (args := [_, _]) (Ac call139) func139 ntmps139 ?_; exact z.1) : p := h ⟨k⟩
theorem C7 (k : q) (h : Aw q → p := by intro z; refine wV (.inr rfl) results147 q0 ?_; refine iZ ?_; exact z.1) : p := h ⟨k⟩
theorem BG0 (k : q) (h : Aw q → p := by intro z; refine Af (AY5 (p := (((dK t x_2).1 : Nat) : Int)) (q := 48) (Q9 z3)) (k := ?_); refine Af (Ky (r := ((((dK t x_2).1 : Nat) : Int) - 48)) (Hh z88) runUnderlying21 runUnderlying3) (k := ?_); exact z.1) : p := h ⟨k⟩
theorem vY (k : q) (h : Aw q → p := by intro z; refine Be (Al Vv) (k := ?_); refine vG ?_; exact z.1) : p := h ⟨k⟩
theorem AF3 (k : q) (h : Aw q → p := by intro z; refine Af (Al qM) (k := ?_); refine sM ?_; exact z.1) : p := h ⟨k⟩
theorem AF4 (k : q) (h : Aw q → p := by intro z; refine Bq (args := [_, _]) (Ac call43) func43 ntmps43 ?_; refine Lj ?_; exact z.1) : p := h ⟨k⟩
theorem AF5 (k : q) (h : Aw q → p := by intro z; refine Bq (args := [_]) (Ac call105) func105 ntmps105 ?_; refine Mq ?_; exact z.1) : p := h ⟨k⟩
theorem BG1 (k : q) (h : Aw q → p := by intro z; refine Af (Cz (n := l.length) runUnderlying48 sizeOf112 x_1 eH (gD z4) Kc) (k := ?_); refine Af (Gt isAgg112 sizeOf112 x_1 eH (gD z4)) (k := ?_); exact z.1) : p := h ⟨k⟩
theorem C8 (k : q) (h : Aw q → p := by intro z; refine Ys ?_; refine Ys ?_; exact z.1) : p := h ⟨k⟩
theorem AF6 (k : q) (h : Aw q → p := by intro z; refine Bq (args := [_]) (Ac call138) func138 ntmps138 ?_; refine Lj ?_; exact z.1) : p := h ⟨k⟩
theorem BG2 (k : q) (h : Aw q → p := by intro z; refine Bu (Cz (n := (l.drop at_1).length) runUnderlying32 sizeOf50 0 (Cl.off eH at_1 l_c iE) (gD z4) Kc) (k := ?_); refine Bu (Yw Lc) (k := ?_); exact z.1) : p := h ⟨k⟩
theorem AF7 (k : q) (h : Aw q → p := by intro z; refine bB (args := [_, _]) (Ac call64) func64 ntmps64 ?_; refine Z2 ?_; exact z.1) : p := h ⟨k⟩
theorem vZ (k : q) (h : Aw q → p := by intro z; refine Eh mixed 16 [(true, 0), (true, 1), (true, 2), (true, 3), (true, 4), (true, 5), (true, 6), (true, 7), (true, 8), (true, 9), (false, 10), (true, 11), (true, 12), (true, 13), (true, 14), (true, 15)] z2 ?_; refine Z6 ?_; refine Be (Al Jn) (k := ?_); exact z.1) : p := h ⟨k⟩
theorem wA (k : q) (h : Aw q → p := by intro z; refine Af (Al Ke) (k := ?_); refine It ?_; refine Af (Al zQ) (k := ?_); exact z.1) : p := h ⟨k⟩
theorem AF8 (k : q) (h : Aw q → p := by intro z; refine Bq (args := [_]) (Ac call172) func172 ntmps172 ?_; refine Z2 ?_; exact z.1) : p := h ⟨k⟩
theorem AV7 (k : q) (h : Aw q → p := by intro z; refine Yo ?_; refine vU ?_; exact z.1) : p := h ⟨k⟩
theorem AF9 (k : q) (h : Aw q → p := by intro z; refine Bq (args := [_]) (Ac call38) func38 ntmps38 ?_; refine Mq ?_; exact z.1) : p := h ⟨k⟩
theorem AV8 (k : q) (h : Aw q → p := by intro z; refine Af (Ch isAgg80 sizeOf80) (k := ?_); refine Af (Cx (cs := [_, _]) zeroValue346 BA2) (k := ?_); exact z.1) : p := h ⟨k⟩
theorem AV9 (k : q) (h : Aw q → p := by intro z; refine Af (Ch isAgg82 sizeOf82) (k := ?_); refine Af (Cx (cs := [_, _]) zeroValue351 BA3) (k := ?_); exact z.1) : p := h ⟨k⟩
theorem C9 (k : q) (h : Aw q → p := by intro z; refine Eh mixed 11 [(true, 0), (true, 1), (true, 2), (true, 3), (true, 4), (true, 5), (true, 7), (false, 6), (false, 8), (false, 9), (true, 10)] z2 ?_; refine Be (Al Qo) (k := ?_); refine Be (Bm isAgg32) (k := ?_); exact z.1) : p := h ⟨k⟩
theorem BG3 (k : q) (h : Aw q → p := by intro z; refine Ar (Cz (n := x.length) runUnderlying24 sizeOf3 i_1 (Cl.of_base h_x) (gD z4) Kc) (k := ?_); refine Ar (Ci isAgg3 i_1 0 (Cl.of_base h_x) (gD z4)) (k := ?_); exact z.1) : p := h ⟨k⟩
theorem lO (k : q) (h : Aw q → p := by intro z; refine AV4 ?_; refine Z74 ?_; exact z.1) : p := h ⟨k⟩
theorem wB (k : q) (h : Aw q → p := by intro z; refine Gs ?_; refine Xw rfl ?_; exact z.1) : p := h ⟨k⟩
theorem aF (k : q) (h : Aw q → p := by intro z; refine Rf ?_; refine Rk ?_; exact z.1) : p := h ⟨k⟩
theorem AG0 (k : q) (h : Aw q → p := by intro z; refine Jt ?_; refine oU ?_; exact z.1) : p := h ⟨k⟩
theorem AG1 (k : q) (h : Aw q → p := by intro z; refine oT ?_; refine Cn _ (sa (sd (sk (sk (sa (sk (sk (sk sz)))))))) ?_; refine Dj results134 Bw.nil ?_; refine kY ?_; exact z.1) : p := h ⟨k⟩
theorem AG2 (k : q) (h : Aw q → p := by intro z; refine Ct 6 rfl z2 Iy (k := ?_); refine Yx z2 _ ?_; exact z.1) : p := h ⟨k⟩
theorem sJ (k : q) (h : Aw q → p := by intro z; refine BE6 ?_; refine Ck ?_; exact z.1) : p := h ⟨k⟩
theorem D0 (k : q) (h : Aw q → p := by intro z; refine Af Ro (k := ?_); refine Ck ?_; exact z.1) : p := h ⟨k⟩
theorem D1 (k : q) (h : Aw q → p := by intro z; refine Af Hi (k := ?_); refine Ck ?_; exact z.1) : p := h ⟨k⟩
theorem BG4 (k : q) (h : Aw q → p := by intro z; refine Yq ?_; refine Fz _ _ (vp (qa (qc (qc (qa (qc q0))))) (nC nE)) mixed 12 [(true, 0), (true, 1), (true, 2), (true, 3), (true, 4), (true, 5), (true, 6), (false, 7), (true, 8), (true, 9), (true, 10), (false, 11)] z2 ?_; exact z.1) : p := h ⟨k⟩
theorem cY (k : q) (h : Aw q → p := by intro z; refine vT ?_; refine Yp ?_; exact z.1) : p := h ⟨k⟩
theorem N1 (k : q) (h : Aw q → p := by intro z; refine Af (Fg runUnderlying260) (k := ?_); refine lO ?_; exact z.1) : p := h ⟨k⟩
theorem AG3 (k : q) (h : Aw q → p := by intro z; refine Xk ((Al kB).k) (k := ?_); refine Xk (AY8 isAgg3) (k := ?_); exact z.1) : p := h ⟨k⟩
theorem AG4 (k : q) (h : Aw q → p := by intro z; refine Xk ((Al Vw).k) (k := ?_); refine Xk ((Al kA).k) (k := ?_); exact z.1) : p := h ⟨k⟩
theorem lP (k : q) (h : Aw q → p := by intro z; refine rL ?_; refine Ge ?_; exact z.1) : p := h ⟨k⟩
theorem AG5 (k : q) (h : Aw q → p := by intro z; refine Jr ?_; refine Dk _ (sk (sk (sd (sa (sa (sk (sa (sk (sk (sk sz)))))))))) ?_; exact z.1) : p := h ⟨k⟩
theorem BG5 (k : q) (h : Aw q → p := by intro z; refine Z3 ?_; refine Kq (Ac call258) (fun w1 hw1 => nN w1 (n_ := (((0 + ((((l.take at_1).length) : Nat) : Int)) + 1) + (((((l.drop at_1).drop 1).length) : Nat) : Int))) (hi := Ng)) (k := ?_); exact z.1) : p := h ⟨k⟩
theorem aG (k : q) (h : Aw q → p := by intro z; refine Be (Al Qq) (k := ?_); refine Yr ?_; refine Z6 ?_; refine Be (Al Jn) (k := ?_); refine Be (Al Qr) (k := ?_); exact z.1) : p := h ⟨k⟩
theorem D2 (k : q) (h : Aw q → p := by intro z; refine Yx z2 _ ?_; refine Hw nE ?_; exact z.1) : p := h ⟨k⟩
theorem AG6 (k : q) (h : Aw q → p := by intro z; refine Ar (Al bT) (k := ?_); refine Ar rC (k := ?_); exact z.1) : p := h ⟨k⟩
theorem cZ (k : q) (h : Aw q → p := by intro z; refine Lq ?_; refine Hp ?_; exact z.1) : p := h ⟨k⟩
theorem dA (k : q) (h : Aw q → p := by intro z; refine Mj ?_; refine cS ?_; exact z.1) : p := h ⟨k⟩
theorem BG6 (k : q) (h : Aw q → p := by intro z; refine xB rfl (Ky (r := (((s.getD 0 default).toNat : Nat) : Int)) (Hh z88) runUnderlying5 runUnderlying3) (k := ?_); refine Ct 3 rfl z2 mN (k := ?_); exact z.1) : p := h ⟨k⟩
theorem dB (k : q) (h : Aw q → p := by intro z; refine C0 ?_; refine Eu ?_; refine Dk _ (sk (sa (sk (sk (sk (sd (sd sz))))))) ?_; refine Jt ?_; exact z.1) : p := h ⟨k⟩
theorem dC (k : q) (h : Aw q → p := by intro z; refine Uv ?_; refine oJ ?_; exact z.1) : p := h ⟨k⟩
theorem AG7 (k : q) (h : Aw q → p := by intro z; refine Ht ?_; refine Bu (Fg runUnderlying39) (k := ?_); exact z.1) : p := h ⟨k⟩
theorem AG8 (k : q) (h : Aw q → p := by intro z; refine Af (Al bZ) (k := ?_); refine Af (Bm isAgg47) (k := ?_); exact z.1) : p := h ⟨k⟩
theorem AG9 (k : q) (h : Aw q → p := by intro z; refine Be (Al Oi) (k := ?_); refine Be rC (k := ?_); exact z.1) : p := h ⟨k⟩
theorem iQ (k : q) (h : Aw q → p := by intro z; refine Xv ?_; refine Gr ?_; exact z.1) : p := h ⟨k⟩
theorem AH0 (k : q) (h : Aw q → p := by intro z; refine Af (Al hY) (k := ?_); refine Sj ?_; exact z.1) : p := h ⟨k⟩
theorem AH1 (k : q) (h : Aw q → p := by intro z; refine Be (Al AO7) (k := ?_); refine Yr ?_; exact z.1) : p := h ⟨k⟩
theorem AH2 (k : q) (h : Aw q → p := by intro z; refine Be (Al cC) (k := ?_); refine Be (Bm isAgg9) (k := ?_); exact z.1) : p := h ⟨k⟩
theorem AH3 (k : q) (h : Aw q → p := by intro z; refine pF ?_; refine Sj ?_; exact z.1) : p := h ⟨k⟩
theorem fM (k : q) (h : Aw q → p := by intro z; refine mI ?_; refine Kx [] (List.Perm.refl _) results176 z0 ?_; refine AV7 ?_; exact z.1) : p := h ⟨k⟩
theorem fN (k : q) (h : Aw q → p := by intro z; refine Af (Fg runUnderlying384) (k := ?_); refine Rh ?_; refine rO ?_; refine Z74 ?_; refine Af (Ei runUnderlying384 sizeOf32 0) (k := ?_); exact z.1) : p := h ⟨k⟩
theorem AW0 (k : q) (h : Aw q → p := by intro z; refine Af (Ei runUnderlying357 sizeOf280 2) (k := ?_); refine Af (Bm isAgg280) (k := ?_); exact z.1) : p := h ⟨k⟩
theorem aH (k : q) (h : Aw q → p := by intro z; refine kX ?_; refine Z2 ?_; exact z.1) : p := h ⟨k⟩
theorem dD (k : q) (h : Aw q → p := by intro z; refine lL ?_; refine Z2 ?_; exact z.1) : p := h ⟨k⟩
theorem wC (k : q) (h : Aw q → p := by intro z; refine Xj ?_; refine Ot ?_; exact z.1) : p := h ⟨k⟩
theorem AH4 (k : q) (h : Aw q → p := by intro z; refine Ep (Bn (l' := [_, _, _]) sizeOf28) (k := ?_); refine Od ?_; exact z.1) : p := h ⟨k⟩
theorem sK (k : q) (h : Aw q → p := by intro z; refine aL ?_; refine Du ?_; exact z.1) : p := h ⟨k⟩
theorem fO (k : q) (h : Aw q → p := by intro z; refine vD ?_; refine BE4 ?_; exact z.1) : p := h ⟨k⟩
theorem fP (k : q) (h : Aw q → p := by intro z; refine Xi ?_; refine Mr ?_; refine Z26 ?_; refine AF1 ?_; exact z.1) : p := h ⟨k⟩
theorem fQ (k : q) (h : Aw q → p := by intro z; refine Z56 ?_; refine iN ?_; exact z.1) : p := h ⟨k⟩
theorem AH5 (k : q) (h : Aw q → p := by intro z; refine pD ?_; refine Xk ((Al uH).k) (k := ?_); exact z.1) : p := h ⟨k⟩
theorem AW1 (k : q) (h : Aw q → p := by intro z; refine Mr ?_; refine pE ?_; exact z.1) : p := h ⟨k⟩
theorem wD (k : q) (h : Aw q → p := by intro z; refine El ?_; refine Jh ?_; exact z.1) : p := h ⟨k⟩
theorem sL (k : q) (h : Aw q → p := by intro z; refine Hw (nC nE) ?_; refine kY ?_; exact z.1) : p := h ⟨k⟩
theorem AH6 (k : q) (h : Aw q → p := by intro z; refine Be (Al iA) (k := ?_); refine Be (Al cB) (k := ?_); exact z.1) : p := h ⟨k⟩
theorem AW2 (k : q) (h : Aw q → p := by intro z; refine AV5 ?_; refine Af (Cx (cs := [_, _, _, _, _, _, _, _, _]) zeroValue104 W6) (k := ?_); exact z.1) : p := h ⟨k⟩
theorem N2 (k : q) (h : Aw q → p := by intro z; refine El ?_; refine Ar Ny (k := ?_); exact z.1) : p := h ⟨k⟩
theorem BG7 (k : q) (h : Aw q → p := by intro z; refine D9 rfl (Ac call77) (fun w1 hw1 => H0 w1 (hG.ext hw1.ext_out)) (k := ?_); refine Ct 10 rfl z2 (Cx (cs := [_, _, _, _, _, _]) zeroValue76 AS3) (k := ?_); exact z.1) : p := h ⟨k⟩
theorem iR (k : q) (h : Aw q → p := by intro z; refine fH ?_; refine cT ?_; exact z.1) : p := h ⟨k⟩
theorem iS (k : q) (h : Aw q → p := by intro z; refine Mq ?_; refine aB ?_; exact z.1) : p := h ⟨k⟩
theorem iT (k : q) (h : Aw q → p := by intro z; refine AC5 ?_; refine rX ?_; exact z.1) : p := h ⟨k⟩
theorem iU (k : q) (h : Aw q → p := by intro z; refine Ri ?_; refine Bd results138 z0 ?_; refine Mp ?_; refine AT0 ?_; refine AG0 ?_; exact z.1) : p := h ⟨k⟩
theorem iV (k : q) (h : Aw q → p := by intro z; refine AG1 ?_; refine AC6 ?_; refine Bd results85 Bw.nil ?_; refine sI ?_; exact z.1) : p := h ⟨k⟩
theorem AH7 (k : q) (h : Aw q → p := by intro z; refine oY ?_; refine Ep (Bn (l' := [_]) sizeOf106) (k := ?_); exact z.1) : p := h ⟨k⟩
theorem N3 (k : q) (h : Aw q → p := by intro z; refine Af wU (k := ?_); refine Ck ?_; exact z.1) : p := h ⟨k⟩
theorem N4 (k : q) (h : Aw q → p := by intro z; refine Be (Bm isAgg164) (k := ?_); refine Z6 ?_; exact z.1) : p := h ⟨k⟩
theorem fR (k : q) (h : Aw q → p := by intro z; refine M5 ?_; refine Z2 ?_; exact z.1) : p := h ⟨k⟩
theorem pB (k : q) (h : Aw q → p := by intro z; refine Lr ?_; refine Z4 ?_; exact z.1) : p := h ⟨k⟩
theorem fS (k : q) (h : Aw q → p := by intro z; refine Z57 ?_; refine Jh ?_; exact z.1) : p := h ⟨k⟩
theorem D3 (k : q) (h : Aw q → p := by intro z; refine M2 ?_; refine Fu (qc (qa q0)) ?_; exact z.1) : p := h ⟨k⟩
theorem AH8 (k : q) (h : Aw q → p := by intro z; refine N9 ?_; refine M2 ?_; exact z.1) : p := h ⟨k⟩
theorem AH9 (k : q) (h : Aw q → p := by intro z; refine Z2 ?_; refine sQ ?_; exact z.1) : p := h ⟨k⟩
theorem BG8 (k : q) (h : Aw q → p := by intro z; refine Bu (Yw bS) (k := ?_); refine Bu (Ci isAgg3 0 0 (Cl.off eH at_1 l_c iE) (gD z4)) (k := ?_); exact z.1) : p := h ⟨k⟩
theorem BG9 (k : q) (h : Aw q → p := by intro z; refine Fz _ _ (vp (List.Perm.refl _) (nA nE)) mixed 9 [(true, 0), (true, 1), (true, 2), (true, 3), (true, 4), (true, 5), (true, 6), (true, 7), (false, 8)] z2 ?_; refine Li ?_; exact z.1) : p := h ⟨k⟩
theorem AI0 (k : q) (h : Aw q → p := by intro z; refine Af (Bm isAgg4) (k := ?_); refine Ck ?_; exact z.1) : p := h ⟨k⟩
theorem AW3 (k : q) (h : Aw q → p := by intro z; refine Xx (V := []) mixed 16 z2 ?_; refine Ct 0 rfl z2 Gf (k := ?_); exact z.1) : p := h ⟨k⟩
theorem AI1 (k : q) (h : Aw q → p := by intro z; refine aE ?_; refine Bd results172 z0 ?_; exact z.1) : p := h ⟨k⟩
theorem AI2 (k : q) (h : Aw q → p := by intro z; refine It ?_; refine Xi ?_; exact z.1) : p := h ⟨k⟩
theorem wE (k : q) (h : Aw q → p := by intro z; refine Af Tp (k := ?_); refine Z4 ?_; exact z.1) : p := h ⟨k⟩
theorem AI3 (k : q) (h : Aw q → p := by intro z; refine It ?_; refine dE ?_; exact z.1) : p := h ⟨k⟩
theorem AI4 (k : q) (h : Aw q → p := by intro z; refine Bd results105 z0 ?_; refine Yo ?_; exact z.1) : p := h ⟨k⟩
theorem AI5 (k : q) (h : Aw q → p := by intro z; refine vM ?_; refine Bd results105 z0 ?_; exact z.1) : p := h ⟨k⟩
theorem AW4 (k : q) (h : Aw q → p := by intro z; refine Ct 4 rfl z2 Gf (k := ?_); refine Ct 5 rfl z2 Qf (k := ?_); exact z.1) : p := h ⟨k⟩
theorem AW5 (k : q) (h : Aw q → p := by intro z; refine Ep (Bn (l' := [_, _, _, _, _, _, _, _, _]) sizeOf104) (k := ?_); refine Dz ?_; exact z.1) : p := h ⟨k⟩
theorem AI6 (k : q) (h : Aw q → p := by intro z; refine Bd results155 z0 ?_; refine Ot ?_; exact z.1) : p := h ⟨k⟩
theorem AI7 (k : q) (h : Aw q → p := by intro z; refine pB ?_; refine Bd results38 z0 ?_; exact z.1) : p := h ⟨k⟩
theorem pC (k : q) (h : Aw q → p := by intro z; refine vI ?_; refine Mm ?_; exact z.1) : p := h ⟨k⟩
theorem D4 (k : q) (h : Aw q → p := by intro z; refine Mr ?_; refine Iv ?_; exact z.1) : p := h ⟨k⟩
theorem BH0 (k : q) (h : Aw q → p := by intro z; refine Be (Al Wx) (k := ?_); refine fW (V' := ((r6, _) :: [])) (Bn (l' := [_, _, _, _, _, _, _, _, _, _, _, _, _, _, _, _, _, _, _, _, _, _, _]) sizeOf23) (k := ?_); exact z.1) : p := h ⟨k⟩
theorem AW6 (k : q) (h : Aw q → p := by intro z; refine Be (Al Vv) (k := ?_); refine Be (Ch isAgg31 sizeOf31) (k := ?_); exact z.1) : p := h ⟨k⟩
theorem AI8 (k : q) (h : Aw q → p := by intro z; refine Ar Qf (k := ?_); refine Ar (Al kB) (k := ?_); exact z.1) : p := h ⟨k⟩
theorem AI9 (k : q) (h : Aw q → p := by intro z; refine Bd results216 z0 ?_; refine Z4 ?_; exact z.1) : p := h ⟨k⟩
theorem BH1 (k : q) (h : Aw q → p := by intro z; refine Be z75 (k := ?_); refine fW (V' := ((r6, _) :: [])) (Bn (l' := [_, _, _, _, _, _, _, _, _, _, _, _, _, _, _, _, _, _, _, _, _, _, _]) sizeOf3) (k := ?_); exact z.1) : p := h ⟨k⟩
theorem AW7 (k : q) (h : Aw q → p := by intro z; refine Ji ?_; refine bA (args := [_]) (Ac call176) func176 ntmps176 ?_; exact z.1) : p := h ⟨k⟩
theorem AW8 (k : q) (h : Aw q → p := by intro z; refine Be (Al Lc) (k := ?_); refine Be z51 (k := ?_); exact z.1) : p := h ⟨k⟩
theorem N5 (k : q) (h : Aw q → p := by intro z; refine Bu (Al Ke) (k := ?_); refine lC ?_; exact z.1) : p := h ⟨k⟩
theorem Ck (k : q) (h : Aw q → p := by intro z; refine Af Gf (k := ?_); exact z.1) : p := h ⟨k⟩
theorem sM (k : q) (h : Aw q → p := by intro z; refine Af (Ch isAgg31 sizeOf31) (k := ?_); exact z.1) : p := h ⟨k⟩
theorem Fo (k : q) (h : Aw q → p := by intro z; refine Be Gf (k := ?_); exact z.1) : p := h ⟨k⟩
theorem fT (k : q) (h : Aw q → p := by intro z; refine Bu Tp (k := ?_); exact z.1) : p := h ⟨k⟩
theorem Cp (k : q) (h : Aw q → p := by intro z; refine AR6 ?_; exact z.1) : p := h ⟨k⟩
theorem Qb (k : q) (h : Aw q → p := by intro z; refine Af z71 (k := ?_); exact z.1) : p := h ⟨k⟩
theorem El (k : q) (h : Aw q → p := by intro z; refine Ar Gf (k := ?_); exact z.1) : p := h ⟨k⟩
theorem AJ0 (k : q) (h : Aw q → p := by intro z; refine Ar z79 (k := ?_); exact z.1) : p := h ⟨k⟩
theorem Dz (k : q) (h : Aw q → p := by intro z; refine AX4 ?_; exact z.1) : p := h ⟨k⟩
theorem fU (k : q) (h : Aw q → p := by intro z; refine Af AX8 (k := ?_); exact z.1) : p := h ⟨k⟩
theorem AW9 (k : q) (h : Aw q → p := by intro z; refine S0 rfl (Ac call123) (fun w1 hw1 => Ze w1 (s := s.free) (h_s := (Cl.of_base h_s_free) w1 hw1) (n_s := Ng)) (k := ?_); exact z.1) : p := h ⟨k⟩
theorem Xi (k : q) (h : Aw q → p := by intro z; refine Af mM (k := ?_); exact z.1) : p := h ⟨k⟩
theorem Eu (k : q) (h : Aw q → p := by intro z; refine Cb ?_; exact z.1) : p := h ⟨k⟩
theorem Ht (k : q) (h : Aw q → p := by intro z; refine Bu Gf (k := ?_); exact z.1) : p := h ⟨k⟩
theorem sN (k : q) (h : Aw q → p := by intro z; refine Ep (Bn (l' := [_, _, _]) sizeOf31) (k := ?_); exact z.1) : p := h ⟨k⟩
theorem dE (k : q) (h : Aw q → p := by intro z; refine Af jD (k := ?_); exact z.1) : p := h ⟨k⟩
theorem iW (k : q) (h : Aw q → p := by intro z; refine Af (pQ runUnderlying9) (k := ?_); exact z.1) : p := h ⟨k⟩
theorem AJ1 (k : q) (h : Aw q → p := by intro z; refine Ep (Bn (l' := [_, _, _, _, _, _, _, _]) sizeOf166) (k := ?_); exact z.1) : p := h ⟨k⟩
theorem Si (k : q) (h : Aw q → p := by intro z; refine Af Qf (k := ?_); exact z.1) : p := h ⟨k⟩
theorem Sj (k : q) (h : Aw q → p := by intro z; refine Af (Bm isAgg9) (k := ?_); exact z.1) : p := h ⟨k⟩
theorem N6 (k : q) (h : Aw q → p := by intro z; refine Be (Fi (m := 4) runUnderlying166 sizeOf164) (k := ?_); exact z.1) : p := h ⟨k⟩
theorem aJ (k : q) (h : Aw q → p := by intro z; refine Be Iy (k := ?_); exact z.1) : p := h ⟨k⟩
theorem BH2 (k : q) (h : Aw q → p := by intro z; refine D9 rfl (args := [(vs l_a l.length l_c), (vt ([] : An))]) (Ac call48) (fun w1 hw1 => gZ w1 (h_xs := (Cl.of_base h_l) w1 hw1) (xs := l) (sep := ([] : An)) (hc := by first | omega | simp) (hn := Tt) (hl := Nat.le_trans (show (Lib.join l ([] : An)).length ≤ 100000 by first | omega | (rw [Pu, Gx]; omega)) (by decide))) (k := ?_); exact z.1) : p := h ⟨k⟩
theorem BH3 (k : q) (h : Aw q → p := by intro z; refine D9 rfl (Ac call47) (fun w1 hw1 => qF w1 (s := ((Pn x_2) ++ (Lib.join l ([] : An)))) (n_s := by (simp only [List.length_append, Di]; omega)) (hG := hG.ext hw1.ext_out)) (k := ?_); exact z.1) : p := h ⟨k⟩
theorem BH4 (k : q) (h : Aw q → p := by intro z; refine D9 rfl (args := [(vs (some ⟨r169, 0, none⟩) 1 1), (vt ([] : An))]) (Ac call48) (fun w1 hw1 => gZ w1 (h_xs := (Cl.lit (xs := ([(Nr ((Pn x_2) ++ (Lib.join l ([] : An))))] : List An)) My) w1 hw1) (xs := ([(Nr ((Pn x_2) ++ (Lib.join l ([] : An))))] : List An)) (sep := ([] : An)) (hc := by first | omega | simp) (hn := Tt) (hl := Nat.le_trans (show (Lib.join ([(Nr ((Pn x_2) ++ (Lib.join l ([] : An))))] : List An) ([] : An)).length ≤ 100000 by first | omega | (rw [Pu, Gx]; omega)) (by decide))) (k := ?_); exact z.1) : p := h ⟨k⟩
theorem BH5 (k : q) (h : Aw q → p := by intro z; refine Ct 4 rfl z2 (jN (s := (Pn x_10)) (s' := (Lib.join ([(Nr ((Pn x_2) ++ (Lib.join l ([] : An))))] : List An) ([] : An))) (h := by (simp only [Di]; omega))) (k := ?_); exact z.1) : p := h ⟨k⟩
theorem BH6 (k : q) (h : Aw q → p := by intro z; refine D9 rfl (Ac call47) (fun w1 hw1 => qF w1 (s := ((Pn x_10) ++ (Lib.join ([(Nr ((Pn x_2) ++ (Lib.join l ([] : An))))] : List An) ([] : An)))) (n_s := by (simp only [List.length_append, Di]; omega)) (hG := hG.ext hw1.ext_out)) (k := ?_); exact z.1) : p := h ⟨k⟩
theorem N7 (k : q) (h : Aw q → p := by intro z; refine Bd results43 z0 ?_; exact z.1) : p := h ⟨k⟩
theorem It (k : q) (h : Aw q → p := by intro z; refine Af J9 (k := ?_); exact z.1) : p := h ⟨k⟩
theorem wF (k : q) (h : Aw q → p := by intro z; refine Af (Em isAgg93 hgl7) (k := ?_); exact z.1) : p := h ⟨k⟩
theorem D5 (k : q) (h : Aw q → p := by intro z; refine Af (Em isAgg93 hgl8) (k := ?_); exact z.1) : p := h ⟨k⟩
theorem sO (k : q) (h : Aw q → p := by intro z; refine Af (Em isAgg93 hgl3) (k := ?_); exact z.1) : p := h ⟨k⟩
theorem D6 (k : q) (h : Aw q → p := by intro z; refine Af (Em isAgg93 hgl5) (k := ?_); exact z.1) : p := h ⟨k⟩
theorem sP (k : q) (h : Aw q → p := by intro z; refine Af (Em isAgg93 hgl6) (k := ?_); exact z.1) : p := h ⟨k⟩
theorem Rm (k : q) (h : Aw q → p := by intro z; refine pG ?_; exact z.1) : p := h ⟨k⟩
theorem Qt (k : q) (h : Aw q → p := by intro z; refine Ar J9 (k := ?_); exact z.1) : p := h ⟨k⟩
theorem Yr (k : q) (h : Aw q → p := by intro z; refine Be J9 (k := ?_); exact z.1) : p := h ⟨k⟩
theorem lQ (k : q) (h : Aw q → p := by intro z; refine Bu J9 (k := ?_); exact z.1) : p := h ⟨k⟩
theorem Mr (k : q) (h : Aw q → p := by intro z; refine Af Iy (k := ?_); exact z.1) : p := h ⟨k⟩
theorem pD (k : q) (h : Aw q → p := by intro z; refine Xk ((Qf).k) (k := ?_); exact z.1) : p := h ⟨k⟩
theorem wG (k : q) (h : Aw q → p := by intro z; refine Af (Em isAgg93 hgl2) (k := ?_); exact z.1) : p := h ⟨k⟩
theorem AJ2 (k : q) (h : Aw q → p := by intro z; refine Af (Cx (cs := [_, _]) zeroValue41 BJ7) (k := ?_); exact z.1) : p := h ⟨k⟩
theorem wH (k : q) (h : Aw q → p := by intro z; refine Ep (Bn (l' := [_, _]) sizeOf41) (k := ?_); exact z.1) : p := h ⟨k⟩
theorem sQ (k : q) (h : Aw q → p := by intro z; refine Af (Ch isAgg41 sizeOf41) (k := ?_); exact z.1) : p := h ⟨k⟩
theorem BH7 (k : q) (h : Aw q → p := by intro z; refine Cn _ (List.Sublist.append z37 (List.Sublist.cons_cons _ (List.Sublist.cons_cons _ (List.Sublist.cons_cons _ (List.Sublist.cons_cons _ (List.Sublist.cons_cons _ (List.Sublist.cons_cons _ (List.Sublist.cons_cons _ z14)))))))) ?_; exact z.1) : p := h ⟨k⟩
theorem sR (k : q) (h : Aw q → p := by intro z; refine Af (Fg runUnderlying48) (k := ?_); exact z.1) : p := h ⟨k⟩
theorem wI (k : q) (h : Aw q → p := by intro z; refine Ep (Bn (l' := [_, _, _, _]) sizeOf112) (k := ?_); exact z.1) : p := h ⟨k⟩
theorem BH8 (k : q) (h : Aw q → p := by intro z; refine Cn _ (List.Sublist.append z37 (List.Sublist.cons_cons _ (List.Sublist.cons_cons _ (List.Sublist.cons_cons _ (List.Sublist.cons_cons _ (List.Sublist.cons_cons _ Mo)))))) ?_; exact z.1) : p := h ⟨k⟩
theorem N8 (k : q) (h : Aw q → p := by intro z; refine Af (Ch isAgg112 sizeOf112) (k := ?_); exact z.1) : p := h ⟨k⟩
theorem sS (k : q) (h : Aw q → p := by intro z; refine Ar (Al Hl) (k := ?_); exact z.1) : p := h ⟨k⟩
theorem Ys (k : q) (h : Aw q → p := by intro z; refine Ar Ft (k := ?_); exact z.1) : p := h ⟨k⟩
theorem wJ (k : q) (h : Aw q → p := by intro z; refine Af (Fg runUnderlying32) (k := ?_); exact z.1) : p := h ⟨k⟩
theorem N9 (k : q) (h : Aw q → p := by intro z; refine Ep (Bn (l' := [_]) sizeOf3) (k := ?_); exact z.1) : p := h ⟨k⟩
theorem AX0 (k : q) (h : Aw q → p := by intro z; refine Af (Gt isAgg50 sizeOf50 x_1 (Hn.of_base Je h_r_l).sl (Wo h_r_l.1 z4)) (k := ?_); exact z.1) : p := h ⟨k⟩
theorem O0 (k : q) (h : Aw q → p := by intro z; refine Af (Ch isAgg50 sizeOf50) (k := ?_); exact z.1) : p := h ⟨k⟩
theorem pE (k : q) (h : Aw q → p := by intro z; refine Ep z45 (k := ?_); exact z.1) : p := h ⟨k⟩
theorem lR (k : q) (h : Aw q → p := by intro z; refine Ep (Bn (l' := [_, _, _, _, _]) sizeOf34) (k := ?_); exact z.1) : p := h ⟨k⟩
theorem sT (k : q) (h : Aw q → p := by intro z; refine Af (Cx (cs := [_, _]) zeroValue146 BB2) (k := ?_); exact z.1) : p := h ⟨k⟩
theorem AJ3 (k : q) (h : Aw q → p := by intro z; refine Af (Cx (cs := [_, _]) zeroValue136 BB3) (k := ?_); exact z.1) : p := h ⟨k⟩
theorem aK (k : q) (h : Aw q → p := by intro z; refine Af Kv (k := ?_); exact z.1) : p := h ⟨k⟩
theorem pF (k : q) (h : Aw q → p := by intro z; refine Af (Al cC) (k := ?_); exact z.1) : p := h ⟨k⟩
theorem O1 (k : q) (h : Aw q → p := by intro z; refine Af z79 (k := ?_); exact z.1) : p := h ⟨k⟩
theorem dF (k : q) (h : Aw q → p := by intro z; refine Ar Tp (k := ?_); exact z.1) : p := h ⟨k⟩
theorem Xj (k : q) (h : Aw q → p := by intro z; refine Ar Kv (k := ?_); exact z.1) : p := h ⟨k⟩
theorem sU (k : q) (h : Aw q → p := by intro z; refine Af (Cx (cs := [_, _, _, _, _, _]) zeroValue43 Y1) (k := ?_); exact z.1) : p := h ⟨k⟩
theorem D7 (k : q) (h : Aw q → p := by intro z; refine Af z66 (k := ?_); exact z.1) : p := h ⟨k⟩
theorem AX1 (k : q) (h : Aw q → p := by intro z; refine Mx _ _ results39 z0 (vp (List.Perm.refl _) nE) (List.Sublist.cons _ z37) ?_; exact z.1) : p := h ⟨k⟩
theorem AJ4 (k : q) (h : Aw q → p := by intro z; refine E1 rfl (Ac call15) (fun w1 hw1 => uP w1 (r := r) (name := s.name) (h_r_Sg := (Cl.of_base h_r_Sg) w1 hw1) (n_r_Sg := z9) (h_r_Su := (Cl.of_base h_r_Su) w1 hw1) (n_r_Su := z9) (h_r_Sf := (Cl.of_base h_r_Sf) w1 hw1) (n_r_Sf := z9) (h_r_l := (Hn.of_base Je h_r_l).2 w1 hw1) (n_r_l := z9) (k_r_l := k_r_l) (hsm := by exact hsm)) (k := ?_); exact z.1) : p := h ⟨k⟩
theorem iX (k : q) (h : Aw q → p := by intro z; refine Bu Kv (k := ?_); exact z.1) : p := h ⟨k⟩
theorem Ub (k : q) (h : Aw q → p := by intro z; refine Bu Ft (k := ?_); exact z.1) : p := h ⟨k⟩
theorem BH9 (k : q) (h : Aw q → p := by intro z; refine E1 rfl (Ac call21) (fun w1 hw1 => eV w1 (s := s) (stream := f.stream) (h_s_opn := (hox2.slj Ba) w1 hw1) (n_s_opn := z9) (hG := hG.ext hw1.ext_out) (hE := hE.ext hw1.ext_out)) (k := ?_); exact z.1) : p := h ⟨k⟩
theorem O2 (k : q) (h : Aw q → p := by intro z; refine Bd results139 z0 ?_; exact z.1) : p := h ⟨k⟩
theorem O3 (k : q) (h : Aw q → p := by intro z; refine Af (Ch isAgg34 sizeOf34) (k := ?_); exact z.1) : p := h ⟨k⟩
theorem lS (k : q) (h : Aw q → p := by intro z; refine Ep (Bn (l' := [_, _, _, _, _, _, _]) sizeOf26) (k := ?_); exact z.1) : p := h ⟨k⟩
theorem AX2 (k : q) (h : Aw q → p := by intro z; refine Eh mixed 9 [(true, 0), (true, 1), (true, 2), (true, 3), (true, 4), (true, 5), (true, 6), (true, 7), (true, 8)] z2 ?_; exact z.1) : p := h ⟨k⟩
theorem wK (k : q) (h : Aw q → p := by intro z; refine Ar z66 (k := ?_); exact z.1) : p := h ⟨k⟩
theorem O4 (k : q) (h : Aw q → p := by intro z; refine Ar z51 (k := ?_); exact z.1) : p := h ⟨k⟩
theorem wL (k : q) (h : Aw q → p := by intro z; refine Bu (pI runUnderlying4) (k := ?_); exact z.1) : p := h ⟨k⟩
theorem BI0 (k : q) (h : Aw q → p := by intro z; refine Af (Cz (n := s.gens.length) runUnderlying24 sizeOf3 ((s.free.getD ((((s.free.length : Nat) : Int) - 1).toNat) default).toNat) (hox302.slj Ba) (gD z4) Kc) (k := ?_); exact z.1) : p := h ⟨k⟩
end
end Go.Proofs.YtdnjanhdnibkfaaGreatDoor.Jd
