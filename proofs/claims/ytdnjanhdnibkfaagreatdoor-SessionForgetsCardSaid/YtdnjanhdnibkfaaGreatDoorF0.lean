/- Blocks of steps that come often. No condition. -/
import Derived.CallsIn
import Derived.RangeFuncLeaves
import Derived.RangeFuncRecord
import Derived.Below
import Derived.OrdersHeld
import Derived.KernelRfl
namespace Go.Proofs.YtdnjanhdnibkfaaGreatDoor.Jd
set_option linter.unusedVariables false
set_option linter.unusedSimpArgs false
section
variable {p : Prop}
theorem z1 (h : p := by exact Bk.tmp rfl Bk.nil) : p := h
theorem z6 (h : p := by kernel_rfl) : p := h
theorem z7 (h : p := by first | omega | (dsimp only; omega) | (simp; done) | exact Nat.le_trans (by assumption) (by decide)) : p := h
theorem z8 (h : p := by omega) : p := h
theorem Da (h : p := by first | exact ix) : p := h
theorem Ii (h : p := by exact Bz (l := [_, _, _]) zeroValue288) : p := h
theorem uC (h : p := by first | rfl | (simp; done) | ((simp only [List.length_append, List.length_take, List.length_drop, List.length_set, List.length_replicate, List.length_cons, List.length_nil, List.length_map, Cq, Ce]) <;> omega)) : p := h
theorem dI (h : p := by first | omega | (simp; done) | assumption | exact Nat.le_trans (by assumption) (by decide)) : p := h
theorem Xe (h : p := by exact Dd (l := [_]) runUnderlying24 sizeOf3 zeroValue3) : p := h
theorem cE (h : p := by exact Dd (l := [_, _, _]) runUnderlying39 sizeOf28 zeroValue28) : p := h
theorem lK (h : p := by first | omega | (simp only [List.length_append, List.length_cons, List.length_nil]; omega)) : p := h
theorem Qc (h : p := by first | omega | rfl | (simp; done)) : p := h
theorem R8 (h : p := by exact List.Sublist.cons_cons _ (List.Sublist.cons_cons _ (List.Sublist.cons_cons _ (List.Sublist.cons_cons _ (List.Sublist.cons_cons _ (List.Sublist.cons_cons _ (List.nil_sublist _))))))) : p := h
theorem R9 (h : p := by exact List.Perm.of_eq (by first | (simp only [List.append_assoc, List.cons_append, List.nil_append]; done) | (simp only [List.append_assoc, List.cons_append, List.nil_append]; rfl))) : p := h
theorem Zl (h : p := by exact Bz (l := [_, _, _, _, _, _, _, _]) zeroValue50) : p := h
theorem tU (h : p := by repeat (first | exact List.mem_cons_self | apply List.mem_cons_of_mem | apply List.mem_append_right)) : p := h
theorem Nm (h : p := by first | exact lb | decide) : p := h
theorem Lb (h : p := by exact Jf (l := [_, _, _])) : p := h
theorem S0 (h : p := by intro p hp; repeat (first | exact hp | exact List.mem_append_left _ hp | apply List.mem_append_right | apply List.mem_cons_of_mem)) : p := h
theorem Lp (h : p := by first | rfl | simp) : p := h
theorem Zm (h : p := by first | omega | exact Nat.le_refl _) : p := h
theorem tV (h : p := by exact Dd (l := [_]) runUnderlying174 sizeOf5 zeroValue5) : p := h
theorem Mt (h : p := by exact List.nil_sublist _) : p := h
theorem Qg (h : p := by first | exact lb) : p := h
theorem iA (h : p := by exact Bk.word isAgg4 rfl me rfl Bk.nil) : p := h
theorem tW (h : p := by first | omega | (simp only [List.length_set]; omega)) : p := h
theorem U7 (h : p := by exact Dd (l := [_, _, _, _, _, _, _, _]) runUnderlying32 sizeOf50 zeroValue50) : p := h
theorem S1 (h : p := by exact Dd (l := [_, _, _, _]) runUnderlying174 sizeOf5 zeroValue5) : p := h
theorem Qh (h : p := by exact Jf (l := [_])) : p := h
theorem S2 (h : p := by exact Dd (l := [_]) runUnderlying106 sizeOf9 zeroValue9) : p := h
theorem A4 (h : p := by exact Bz (l := [_, _, _, _, _, _, _]) zeroValue26) : p := h
theorem Xw (h : p := by exact List.Sublist.refl _) : p := h
theorem qK (h : p := by rw [← hlen0]; first | rfl | rfl) : p := h
theorem z43 (h : p := by exact Dd (l := [_, _, _]) runUnderlying384 sizeOf32 zeroValue32) : p := h
theorem tX (h : p := by rw [List.length_replicate]; omega) : p := h
theorem S3 (h : p := by exact Bc (l' := [_, _, _, _, _, _, _, _]) sizeOf50) : p := h
theorem A5 (h : p := by exact Bz (l := [_, _, _]) zeroValue31) : p := h
theorem z48 (h : p := by exact Dd (l := [_, _]) runUnderlying24 sizeOf3 zeroValue3) : p := h
theorem oT (h : p := by exact Jf (l := [_, _, _, _, _])) : p := h
theorem A6 (h : p := by exact Bz (l := [_, _]) zeroValue146) : p := h
theorem z52 (h : p := by simp only [Region.wanted]; rw [He ha hg hu ht]; exact hb) : p := h
theorem Hs (h : p := by simp) : p := h
theorem tY (h : p := by exact Jf (l := [_, _, _, _, _, _])) : p := h
theorem S4 (h : p := by exact Bz (l := [_, _, _, _, _]) zeroValue34) : p := h
theorem U8 (h : p := by exact Bk.agg isAgg34 sizeOf34 rfl me rfl Bk.nil) : p := h
theorem hY (h : p := by exact Jf (l := [_, _])) : p := h
theorem A7 (h : p := by exact Bq isAgg23 sizeOf23) : p := h
theorem cF (h : p := by exact Ch.of_base h_l) : p := h
theorem uD (h : p := by rw [Cj]; exact h1) : p := h
theorem U9 (h : p := by rw [Cj]; exact hc a w ha hw.right) : p := h
theorem Zn (h : p := by assumption) : p := h
theorem lN (h : p := by exact Bb isAgg24) : p := h
theorem oU (h : p := by exact Ch.of_base h_s_used) : p := h
theorem z67 (h : p := by exact Cf (cs := [_, _, _]) zeroValue31 AP0) : p := h
theorem z68 (h : p := by exact Dd (l := [_, _, _]) runUnderlying260 sizeOf35 zeroValue35) : p := h
theorem S5 (h : p := by exact Bz (l := [_]) zeroValue3) : p := h
theorem S6 (h : p := by exact Bz (l := [_]) zeroValue4) : p := h
theorem S7 (h : p := by exact Bq isAgg50 sizeOf50) : p := h
theorem qL (h : p := by exact Ch.of_base h_s_gens) : p := h
theorem z77 (h : p := by first | omega | (simp only [List.length_append, List.length_set, List.length_cons, List.length_nil]; omega)) : p := h
theorem z78 (h : p := by exact Bz (l := [_, _, _, _]) zeroValue112) : p := h
theorem z79 (h : p := by rw [Cj]; exact h a w ha hw.right) : p := h
theorem z80 (h : p := by exact Bz (l := [_, _, _, _, _, _]) zeroValue43) : p := h
theorem V0 (h : p := by exact Bq isAgg26 sizeOf26) : p := h
theorem S8 (h : p := by first | omega | assumption) : p := h
theorem z83 (h : p := by rw [← List.append_assoc, ← List.append_assoc]; exact List.perm_append_comm.append_right _) : p := h
theorem z84 (h : p := by exact Bz (l := [_, _]) zeroValue136) : p := h
theorem z85 (h : p := by exact Bz (l := [_, _]) zeroValue41) : p := h
theorem z86 (h : p := by exact Bc (l' := [_, _, _, _, _, _]) sizeOf3) : p := h
theorem z87 (h : p := by exact Cf (cs := [_, _]) zeroValue23 AO9) : p := h
theorem z88 (h : p := by exact Bz (l := [_, _, _, _, _, _, _, _]) zeroValue166) : p := h
theorem lL (h : p := by exact Al Q1) : p := h
theorem z90 (h : p := by exact Jf (l := [_, _, _, _, _, _, _])) : p := h
theorem uF (h : p := by simpa using hq1) : p := h
theorem z92 (h : p := by simp only [List.length_append, List.length_take, List.length_replicate]; omega) : p := h
theorem z93 (h : p := by exact Jf (l := [_, _, _, _, _, _, _, _, _])) : p := h
end
structure Ap (q : Prop) : Prop where
  out : q
section
variable {p q : Prop}
theorem Z0 (k : q) (h : Ap q → p := by intro z; refine Ef ?_; refine Gv ?_; exact z.1) : p := h ⟨k⟩
theorem Z1 (k : q) (h : Ap q → p := by intro z; refine Hr ?_; refine Z0 ?_; exact z.1) : p := h ⟨k⟩
theorem Z2 (k : q) (h : Ap q → p := by intro z; refine Ez ?_; refine Dn ?_; exact z.1) : p := h ⟨k⟩
theorem Z3 (k : q) (h : Ap q → p := by intro z; refine Z2 ?_; refine Cg ?_; exact z.1) : p := h ⟨k⟩
theorem Z4 (k : q) (h : Ap q → p := by intro z; refine Fi ?_; refine Ay Mw (k := ?_); exact z.1) : p := h ⟨k⟩
theorem Z5 (k : q) (h : Ap q → p := by intro z; refine Z1 ?_; refine aE ?_; exact z.1) : p := h ⟨k⟩
theorem Z6 (k : q) (h : Ap q → p := by intro z; refine Wg ?_; refine Cg ?_; exact z.1) : p := h ⟨k⟩
theorem Z7 (k : q) (h : Ap q → p := by intro z; refine Et ?_; refine Fa ?_; exact z.1) : p := h ⟨k⟩
theorem Z8 (k : q) (h : Ap q → p := by intro z; refine Ad Mx (k := ?_); refine Z0 ?_; exact z.1) : p := h ⟨k⟩
theorem Te (k : q) (h : Ap q → p := by intro z; refine Ad Du (k := ?_); refine Cg ?_; exact z.1) : p := h ⟨k⟩
theorem Qd (k : q) (h : Ap q → p := by intro z; refine Br ?_; refine Gv ?_; exact z.1) : p := h ⟨k⟩
theorem Lq (k : q) (h : Ap q → p := by intro z; refine Dn ?_; refine Cg ?_; exact z.1) : p := h ⟨k⟩
theorem A8 (k : q) (h : Ap q → p := by intro z; refine Eu ?_; refine Gv ?_; exact z.1) : p := h ⟨k⟩
theorem qM (k : q) (h : Ap q → p := by intro z; refine Ez ?_; refine Fm ?_; exact z.1) : p := h ⟨k⟩
theorem Z21 (k : q) (h : Ap q → p := by intro z; refine Ay (Al qC) (k := ?_); refine Ay (Bb isAgg39) (k := ?_); exact z.1) : p := h ⟨k⟩
theorem Qp (k : q) (h : Ap q → p := by intro z; refine Z3 ?_; refine Cg ?_; exact z.1) : p := h ⟨k⟩
theorem Z23 (k : q) (h : Ap q → p := by intro z; refine Ef ?_; refine jX ?_; exact z.1) : p := h ⟨k⟩
theorem Z26 (k : q) (h : Ap q → p := by intro z; refine Np rfl ?_; refine Qd ?_; exact z.1) : p := h ⟨k⟩
theorem Z27 (k : q) (h : Ap q → p := by intro z; refine Ud ?_; refine Lh ?_; exact z.1) : p := h ⟨k⟩
theorem Z29 (k : q) (h : Ap q → p := by intro z; refine A8 ?_; refine Dn ?_; exact z.1) : p := h ⟨k⟩
theorem Tx (k : q) (h : Ap q → p := by intro z; refine Z2 ?_; refine Z8 ?_; refine Ez ?_; exact z.1) : p := h ⟨k⟩
theorem Oc (k : q) (h : Ap q → p := by intro z; refine Ad It (k := ?_); refine Z0 ?_; exact z.1) : p := h ⟨k⟩
theorem Qq (k : q) (h : Ap q → p := by intro z; refine aC ?_; refine Cg ?_; exact z.1) : p := h ⟨k⟩
theorem Jj (k : q) (h : Ap q → p := by intro z; refine Z1 ?_; refine Ez ?_; exact z.1) : p := h ⟨k⟩
theorem Z34 (k : q) (h : Ap q → p := by intro z; refine jN ?_; refine Ue ?_; exact z.1) : p := h ⟨k⟩
theorem eQ (k : q) (h : Ap q → p := by intro z; refine Z0 ?_; refine aE ?_; exact z.1) : p := h ⟨k⟩
theorem Z37 (k : q) (h : Ap q → p := by intro z; refine Z29 ?_; refine Z6 ?_; exact z.1) : p := h ⟨k⟩
theorem Lr (k : q) (h : Ap q → p := by intro z; refine Ad Du (k := ?_); refine Z5 ?_; exact z.1) : p := h ⟨k⟩
theorem A9 (k : q) (h : Ap q → p := by intro z; refine Z26 ?_; refine qM ?_; exact z.1) : p := h ⟨k⟩
theorem Z46 (k : q) (h : Ap q → p := by intro z; refine Z37 ?_; refine Z23 ?_; refine Tx ?_; exact z.1) : p := h ⟨k⟩
theorem Z47 (k : q) (h : Ap q → p := by intro z; refine Ad Iv (k := ?_); refine Ad Iv (k := ?_); exact z.1) : p := h ⟨k⟩
theorem Mo (k : q) (h : Ap q → p := by intro z; refine Hr ?_; refine Ef ?_; exact z.1) : p := h ⟨k⟩
theorem Z49 (k : q) (h : Ap q → p := by intro z; refine Lw ?_; refine Z7 ?_; exact z.1) : p := h ⟨k⟩
theorem V1 (k : q) (h : Ap q → p := by intro z; refine Fi ?_; refine Z4 ?_; exact z.1) : p := h ⟨k⟩
theorem Z53 (k : q) (h : Ap q → p := by intro z; refine Fw ?_; refine Z34 ?_; exact z.1) : p := h ⟨k⟩
theorem Tw (k : q) (h : Ap q → p := by intro z; refine Rz rfl ?_; refine Br ?_; exact z.1) : p := h ⟨k⟩
theorem Z55 (k : q) (h : Ap q → p := by intro z; refine Ez ?_; refine Dw mixed 14 [(true, 0), (true, 1), (true, 2), (true, 3), (true, 4), (true, 5), (true, 6), (true, 7), (true, 8), (true, 9), (true, 10), (true, 11), (true, 12), (true, 13)] z6 ?_; exact z.1) : p := h ⟨k⟩
theorem tZ (k : q) (h : Ap q → p := by intro z; refine Np rfl ?_; refine Z2 ?_; exact z.1) : p := h ⟨k⟩
theorem Z58 (k : q) (h : Ap q → p := by intro z; refine Kl _ _ results135 z1 (vp (List.Perm.refl _) nE) Xw ?_; refine Tm (Aa call17) (fun w1 hw1 => tG w1 (l := x_2) (now := now) (challenge := ((Ol s.a s.b).1)) (name := s.name) (proof := f.data) (h_l := (hx_2.slj Gj) w1 hw1) (n_l := dI) (n_name := dI) (n_proof := dI) (hG := hG.ext hw1.ext_out) (hE := hE.ext hw1.ext_out)) (k := ?_); exact z.1) : p := h ⟨k⟩
theorem B0 (k : q) (h : Ap q → p := by intro z; refine aC ?_; refine Z0 ?_; exact z.1) : p := h ⟨k⟩
theorem Z62 (k : q) (h : Ap q → p := by intro z; refine A9 ?_; refine Z2 ?_; exact z.1) : p := h ⟨k⟩
theorem Z63 (k : q) (h : Ap q → p := by intro z; refine Ud ?_; refine Pf ?_; exact z.1) : p := h ⟨k⟩
theorem Qr (k : q) (h : Ap q → p := by intro z; refine Z5 ?_; refine Fa ?_; exact z.1) : p := h ⟨k⟩
theorem Sv (k : q) (h : Ap q → p := by intro z; refine Lq ?_; refine Cg ?_; exact z.1) : p := h ⟨k⟩
theorem Mu (k : q) (h : Ap q → p := by intro z; refine Z1 ?_; refine Z3 ?_; exact z.1) : p := h ⟨k⟩
theorem Jk (k : q) (h : Ap q → p := by intro z; refine Z0 ?_; refine Ez ?_; exact z.1) : p := h ⟨k⟩
theorem Zo (k : q) (h : Ap q → p := by intro z; refine Ep ?_; refine An (Bq isAgg288 sizeOf288) (k := ?_); exact z.1) : p := h ⟨k⟩
theorem Z74 (k : q) (h : Ap q → p := by intro z; refine jL ?_; refine Fq (nC nE) ?_; exact z.1) : p := h ⟨k⟩
theorem Z75 (k : q) (h : Ap q → p := by intro z; refine Ad (Bb isAgg32) (k := ?_); refine Z1 ?_; exact z.1) : p := h ⟨k⟩
theorem qN (k : q) (h : Ap q → p := by intro z; refine Z5 ?_; refine Z7 ?_; exact z.1) : p := h ⟨k⟩
theorem Z78 (k : q) (h : Ap q → p := by intro z; refine Dj _ ((((((((((((((qa (qa (qc (qa (qa (qa (qa (qa (qa (qa (qa (qa (qa (qa (qa q0))))))))))))))).trans (qa (qa (qa (qc (qa (qa (qa (qa (qa (qa (qa (qa (qa (qa (qa q0)))))))))))))))).trans (qa (qa (qa (qa (qc (qa (qa (qa (qa (qa (qa (qa (qa (qa (qa q0)))))))))))))))).trans (qa (qa (qa (qa (qa (qc (qa (qa (qa (qa (qa (qa (qa (qa (qa q0)))))))))))))))).trans (qa (qa (qa (qa (qa (qa (qc (qa (qa (qa (qa (qa (qa (qa (qa q0)))))))))))))))).trans (qa (qa (qa (qa (qa (qa (qa (qc (qa (qa (qa (qa (qa (qa (qa q0)))))))))))))))).trans (qa (qa (qa (qa (qa (qa (qa (qa (qc (qa (qa (qa (qa (qa (qa q0)))))))))))))))).trans (qa (qa (qa (qa (qa (qa (qa (qa (qa (qc (qa (qa (qa (qa (qa q0)))))))))))))))).trans (qa (qa (qa (qa (qa (qa (qa (qa (qa q0)))))))))).trans (qa (qa (qa (qa (qa (qa (qa (qa (qa (qa (qc (qa (qa (qa (qa q0)))))))))))))))).trans (qa (qa (qa (qa (qa (qa (qa (qa (qa (qa (qa (qc (qa (qa (qa q0)))))))))))))))).trans (qa (qa (qa (qa (qa (qa (qa (qa (qa (qa (qa (qa (qc (qa (qa q0)))))))))))))))).trans (qa (qa (qa (qa (qa (qa (qa (qa (qa (qa (qa (qa q0))))))))))))).trans (qb (qb (qb (qb (qb (qb (qb (qb (qb (qb (qb (qb (qb q0)))))))))))))) ?_; refine AN2 ?_; exact z.1) : p := h ⟨k⟩
theorem B5 (k : q) (h : Ap q → p := by intro z; refine Wh ?_; refine Ad (Al Rp) (k := ?_); exact z.1) : p := h ⟨k⟩
theorem uA (k : q) (h : Ap q → p := by intro z; refine Te ?_; refine Ag 3 rfl ?_; exact z.1) : p := h ⟨k⟩
theorem Z83 (k : q) (h : Ap q → p := by intro z; refine Tj ?_; refine Tm (Aa call16) (fun w1 hw1 => yP w1 (a := s.a) (b := s.b) (i_a := dI) (i_b := dI) (hG := hG.ext hw1.ext_out) (hE := hE.ext hw1.ext_out)) (k := ?_); exact z.1) : p := h ⟨k⟩
theorem Rx (k : q) (h : Ap q → p := by intro z; refine Ad Du (k := ?_); refine Z0 ?_; exact z.1) : p := h ⟨k⟩
theorem Ry (k : q) (h : Ap q → p := by intro z; refine aC ?_; refine Z5 ?_; exact z.1) : p := h ⟨k⟩
theorem Zp (k : q) (h : Ap q → p := by intro z; refine Cg ?_; refine Z47 ?_; exact z.1) : p := h ⟨k⟩
theorem lM (k : q) (h : Ap q → p := by intro z; refine Z46 ?_; refine Z62 ?_; exact z.1) : p := h ⟨k⟩
theorem Vw (k : q) (h : Ap q → p := by intro z; refine Ci 4 rfl z6 Fp (k := ?_); refine Ci 5 rfl z6 Iv (k := ?_); refine Ci 6 rfl z6 Iv (k := ?_); exact z.1) : p := h ⟨k⟩
theorem Z91 (k : q) (h : Ap q → p := by intro z; refine Ef ?_; refine Dj _ (((((((((qa (qc (qc (qa (qa (qc (qa (qa q0)))))))).trans (qa (qa (qc (qc (qa (qa (qc (qa q0))))))))).trans (qa (qa (qa (qc (qc (qa (qa (qc q0))))))))).trans (qb (qb (qb (qb (qd (qd (qb (qb q0))))))))).trans (qc (qa (qa (qa (qa (qc (qc (qa q0))))))))).trans (qa (qc (qa (qa (qa (qa (qc (qc q0))))))))).trans (qa (qa (qc (qa (qa (qa q0))))))).trans (qb (qb (qb (qd (qb (qb (qb q0)))))))).trans (qd (qb (qb (qb (qd (qb (qb (qb q0))))))))) ?_; exact z.1) : p := h ⟨k⟩
theorem Z92 (k : q) (h : Ap q → p := by intro z; refine Fq (nC (nC nE)) ?_; refine eQ ?_; exact z.1) : p := h ⟨k⟩
theorem Oy (k : q) (h : Ap q → p := by intro z; refine Z1 ?_; refine Z2 ?_; exact z.1) : p := h ⟨k⟩
theorem S9 (k : q) (h : Ap q → p := by intro z; refine Rz rfl ?_; refine Cu ?_; exact z.1) : p := h ⟨k⟩
theorem B3 (k : q) (h : Ap q → p := by intro z; refine Av results173 z1 ?_; refine Z5 ?_; exact z.1) : p := h ⟨k⟩
theorem Z98 (k : q) (h : Ap q → p := by intro z; refine Eh (Bc (l' := [_, _, _, _, _, _, _, _, _, _, _, _, _, _, _, _, _, _, _, _, _, _, _]) sizeOf26) (k := ?_); refine Z0 ?_; exact z.1) : p := h ⟨k⟩
theorem eR (k : q) (h : Ap q → p := by intro z; refine Ay Du (k := ?_); refine Fi ?_; exact z.1) : p := h ⟨k⟩
theorem Lt (k : q) (h : Ap q → p := by intro z; refine Cg ?_; refine Z0 ?_; refine Fm ?_; exact z.1) : p := h ⟨k⟩
theorem uG (k : q) (h : Ap q → p := by intro z; refine Jk ?_; refine Ff _ _ (vp ((qa (qc (qa q0))).trans (qa (qa (qc (qa q0))))) (nC (nC nE))) mixed 16 [(true, 0), (true, 1), (true, 2), (true, 3), (true, 4), (true, 5), (true, 6), (true, 7), (true, 8), (true, 9), (true, 10), (true, 11), (false, 12), (true, 13), (false, 14), (true, 15)] z6 ?_; exact z.1) : p := h ⟨k⟩
theorem iB (k : q) (h : Ap q → p := by intro z; refine qN ?_; refine Z49 ?_; exact z.1) : p := h ⟨k⟩
theorem B6 (k : q) (h : Ap q → p := by intro z; refine Ay (Al Zk) (k := ?_); refine Ay (Al Sh) (k := ?_); refine Tj ?_; exact z.1) : p := h ⟨k⟩
theorem Hc (k : q) (h : Ap q → p := by intro z; refine Jj ?_; refine Z3 ?_; exact z.1) : p := h ⟨k⟩
theorem B7 (k : q) (h : Ap q → p := by intro z; refine El _ (sk (sd (sa (sa (sk (sa (sk (sk (sk sz))))))))) ?_; refine Dw mixed 24 [(true, 0), (true, 1), (true, 2), (true, 3), (true, 4), (true, 5), (true, 6), (true, 8), (true, 9), (true, 10), (true, 11), (true, 12), (true, 13), (true, 14), (true, 15), (true, 16), (true, 17), (false, 7), (false, 18), (true, 19), (true, 20), (true, 21), (true, 22), (true, 23)] z6 ?_; exact z.1) : p := h ⟨k⟩
theorem Ew (k : q) (h : Ap q → p := by intro z; refine Z1 ?_; refine Qp ?_; exact z.1) : p := h ⟨k⟩
theorem iC (k : q) (h : Ap q → p := by intro z; refine Cc _ (sk (sa (sa (sd (sk (sa (sk (sk (sk sz))))))))) ?_; refine Av results136 (Bk.agg isAgg50 sizeOf50 rfl me rfl z1) ?_; exact z.1) : p := h ⟨k⟩
theorem qO (k : q) (h : Ap q → p := by intro z; refine Co (args := [(Value.iface 400 (.pointer (some ea3))), (Value.iface 400 (.pointer (some ea7)))]) (Aa call81) (fun w1 hw1 => Hi w1 hE.n3_7 (hE.ext hw1.ext_out).b3 (hE.ext hw1.ext_out).b7) (k := ?_); refine Z1 ?_; exact z.1) : p := h ⟨k⟩
theorem eT (k : q) (h : Ap q → p := by intro z; refine Z27 ?_; refine eQ ?_; exact z.1) : p := h ⟨k⟩
theorem Tz (k : q) (h : Ap q → p := by intro z; refine jE ?_; refine fK ?_; exact z.1) : p := h ⟨k⟩
theorem B8 (k : q) (h : Ap q → p := by intro z; refine Lq ?_; refine jM ?_; exact z.1) : p := h ⟨k⟩
theorem AJ2 (k : q) (h : Ap q → p := by intro z; refine Av results115 z1 ?_; refine Z0 ?_; exact z.1) : p := h ⟨k⟩
theorem Kg (k : q) (h : Ap q → p := by intro z; refine Z53 ?_; refine Gv ?_; exact z.1) : p := h ⟨k⟩
theorem V2 (k : q) (h : Ap q → p := by intro z; refine Ez ?_; refine El _ (sd (sd (sk (sd (sd (sx (sx (sk (sa (sk (sk (sk sz)))))))))))) ?_; exact z.1) : p := h ⟨k⟩
theorem Mp (k : q) (h : Ap q → p := by intro z; refine Fi ?_; refine Fi ?_; exact z.1) : p := h ⟨k⟩
theorem Oz (k : q) (h : Ap q → p := by intro z; refine Ep ?_; refine Ep ?_; exact z.1) : p := h ⟨k⟩
theorem iD (k : q) (h : Ap q → p := by intro z; refine Dw mixed 9 [(true, 0), (true, 1), (true, 2), (true, 3), (true, 4), (true, 5), (true, 6), (true, 7), (true, 8)] z6 ?_; refine V1 ?_; exact z.1) : p := h ⟨k⟩
theorem iE (k : q) (h : Ap q → p := by intro z; refine Eh (Bc (l' := [_]) sizeOf4) (k := ?_); refine eQ ?_; exact z.1) : p := h ⟨k⟩
theorem uH (k : q) (h : Ap q → p := by intro z; refine jQ (qa q0) ?_; refine Fm ?_; exact z.1) : p := h ⟨k⟩
theorem qP (k : q) (h : Ap q → p := by intro z; refine Kl _ _ results231 z1 (vp (List.Perm.refl _) nE) (List.Sublist.trans Xw (List.sublist_append_right _ _)) ?_; refine Ay (Al Py) (k := ?_); exact z.1) : p := h ⟨k⟩
theorem uI (k : q) (h : Ap q → p := by intro z; refine Co (args := [(Value.iface 400 (.pointer (some ea2))), (Value.iface 400 (.pointer (some ea6)))]) (Aa call81) (fun w1 hw1 => Hi w1 hE.n2_6 (hE.ext hw1.ext_out).b2 (hE.ext hw1.ext_out).b6) (k := ?_); refine Z1 ?_; exact z.1) : p := h ⟨k⟩
theorem B9 (k : q) (h : Ap q → p := by intro z; refine Fa ?_; refine Cc _ (sa (sd (sk (sa (sk (sk (sk sz))))))) ?_; exact z.1) : p := h ⟨k⟩
theorem iF (k : q) (h : Ap q → p := by intro z; refine Wh ?_; refine Ad (Al Zk) (k := ?_); exact z.1) : p := h ⟨k⟩
theorem cH (k : q) (h : Ap q → p := by intro z; refine Ad Mx (k := ?_); refine Cg ?_; exact z.1) : p := h ⟨k⟩
theorem qQ (k : q) (h : Ap q → p := by intro z; refine Co (args := [(Value.iface 400 (.pointer (some ea3))), (Value.iface 400 (.pointer (some ea3)))]) (Aa call81) (fun w1 hw1 => Hl w1) (k := ?_); refine Z1 ?_; exact z.1) : p := h ⟨k⟩
theorem qR (k : q) (h : Ap q → p := by intro z; refine Co (args := [(Value.iface 400 (.pointer (some ea0))), (Value.iface 400 (.pointer (some ea0)))]) (Aa call81) (fun w1 hw1 => Hl w1) (k := ?_); refine Z1 ?_; exact z.1) : p := h ⟨k⟩
theorem iG (k : q) (h : Ap q → p := by intro z; refine Av results37 z1 ?_; refine mV ?_; exact z.1) : p := h ⟨k⟩
theorem C0 (k : q) (h : Ap q → p := by intro z; refine Nn ?_; refine Co (Aa call18) (fun w1 hw1 => tC w1 (s := f.data) (n_s := dI) (hG := hG.ext hw1.ext_out) (hE := hE.ext hw1.ext_out)) (k := ?_); exact z.1) : p := h ⟨k⟩
theorem Ks (k : q) (h : Ap q → p := by intro z; refine Hr ?_; refine Qr ?_; exact z.1) : p := h ⟨k⟩
theorem Zq (k : q) (h : Ap q → p := by intro z; refine Te ?_; refine Ag 5 rfl ?_; exact z.1) : p := h ⟨k⟩
theorem uJ (k : q) (h : Ap q → p := by intro z; refine Qv ?_; refine An Uh (k := ?_); exact z.1) : p := h ⟨k⟩
theorem Qi (k : q) (h : Ap q → p := by intro z; refine Cg ?_; refine Cg ?_; exact z.1) : p := h ⟨k⟩
theorem iH (k : q) (h : Ap q → p := by intro z; refine mO ?_; refine Eh (Bc (l' := [_, _]) sizeOf23) (k := ?_); exact z.1) : p := h ⟨k⟩
theorem Xx (k : q) (h : Ap q → p := by intro z; refine Z2 ?_; refine vZ ?_; exact z.1) : p := h ⟨k⟩
theorem lO (k : q) (h : Ap q → p := by intro z; refine Ad z67 (k := ?_); refine Ad z87 (k := ?_); exact z.1) : p := h ⟨k⟩
theorem Xy (k : q) (h : Ap q → p := by intro z; refine lM ?_; refine Ad (Dy runUnderlying384 sizeOf32 1) (k := ?_); exact z.1) : p := h ⟨k⟩
theorem Xz (k : q) (h : Ap q → p := by intro z; refine lM ?_; refine Ad (Dy runUnderlying384 sizeOf32 2) (k := ?_); exact z.1) : p := h ⟨k⟩
theorem V3 (k : q) (h : Ap q → p := by intro z; refine Bj (Dl (n := s.gens.length) runUnderlying24 sizeOf3 ((s.free.getD ((((s.free.length : Nat) : Int) - 1).toNat) default).toNat) (hox302.slj Au) (gD Da) Lp) (k := ?_); refine Bj (Cr isAgg3 ((s.free.getD ((((s.free.length : Nat) : Int) - 1).toNat) default).toNat) 0 (hox302.slj Au) (gD Da)) (k := ?_); exact z.1) : p := h ⟨k⟩
theorem Zr (k : q) (h : Ap q → p := by intro z; refine Wh ?_; refine Ad (Al Hn) (k := ?_); exact z.1) : p := h ⟨k⟩
theorem lP (k : q) (h : Ap q → p := by intro z; refine Ay Mw (k := ?_); refine Ay (Al Hn) (k := ?_); exact z.1) : p := h ⟨k⟩
theorem V4 (k : q) (h : Ap q → p := by intro z; refine AN6 ?_; refine Ad (Cr isAgg3 ((s.free.getD ((((s.free.length : Nat) : Int) - 1).toNat) default).toNat) 0 (hox302.slj Au) (gD Da)) (k := ?_); exact z.1) : p := h ⟨k⟩
theorem C1 (k : q) (h : Ap q → p := by intro z; refine B6 ?_; refine Tm (Aa call20) (fun w1 hw1 => Mm w1 (s := s) (stream := f.stream) (h_s_opn := (hox2.slj Au) w1 hw1) (n_s_opn := dI)) (k := ?_); exact z.1) : p := h ⟨k⟩
theorem Zs (k : q) (h : Ap q → p := by intro z; refine Eh z86 (k := ?_); refine Z0 ?_; exact z.1) : p := h ⟨k⟩
theorem iI (k : q) (h : Ap q → p := by intro z; refine Oy ?_; refine Wf ?_; exact z.1) : p := h ⟨k⟩
theorem Qs (k : q) (h : Ap q → p := by intro z; refine Ad Nu (k := ?_); refine Ad (Js rfl runUnderlying164 runUnderlying5) (k := ?_); refine Cg ?_; exact z.1) : p := h ⟨k⟩
theorem iJ (k : q) (h : Ap q → p := by intro z; refine lM ?_; refine Ad (Jb (m := 9) (n := 3) runUnderlying358 sizeOf288 isAgg288) (k := ?_); exact z.1) : p := h ⟨k⟩
theorem Pa (k : q) (h : Ap q → p := by intro z; refine Rz rfl ?_; refine Qd ?_; exact z.1) : p := h ⟨k⟩
theorem lQ (k : q) (h : Ap q → p := by intro z; refine Hr ?_; refine Hr ?_; exact z.1) : p := h ⟨k⟩
theorem uK (k : q) (h : Ap q → p := by intro z; refine Ay (Al Vl) (k := ?_); refine Ay lN (k := ?_); exact z.1) : p := h ⟨k⟩
theorem V5 (k : q) (h : Ap q → p := by intro z; refine Av results138 z1 ?_; refine Oc ?_; exact z.1) : p := h ⟨k⟩
theorem uL (k : q) (h : Ap q → p := by intro z; refine Z63 ?_; refine Z92 ?_; exact z.1) : p := h ⟨k⟩
theorem AJ3 (k : q) (h : Ap q → p := by intro z; refine Lh ?_; refine Eh (Bc (l' := [_, _, _, _, _, _, _, _]) sizeOf164) (k := ?_); exact z.1) : p := h ⟨k⟩
theorem Gr (k : q) (h : Ap q → p := by intro z; refine Jj ?_; refine Dw mixed 7 [(true, 0), (true, 2), (true, 3), (false, 1), (true, 4), (true, 5), (true, 6)] z6 ?_; refine Fi ?_; refine Ay (Al yS) (k := ?_); refine Tj ?_; refine Tm (Aa call227) (fun w1 hw1 => sX w1 (r := n_)) (k := ?_); refine Ay Kw (k := ?_); refine Ay Og (k := ?_); refine eT ?_; refine Av results179 z1 ?_; refine Cg ?_; exact z.1) : p := h ⟨k⟩
theorem Tf (k : q) (h : Ap q → p := by intro z; refine Ay Fx (k := ?_); refine Fi ?_; exact z.1) : p := h ⟨k⟩
theorem uM (k : q) (h : Ap q → p := by intro z; refine Co (args := [(Value.iface 400 (.pointer (some ea2))), (Value.iface 400 (.pointer (some ea2)))]) (Aa call81) (fun w1 hw1 => Hl w1) (k := ?_); refine Z1 ?_; exact z.1) : p := h ⟨k⟩
theorem V6 (k : q) (h : Ap q → p := by intro z; refine Jk ?_; refine Ff _ _ (vp ((qc (qc (qc (qa (qa q0))))).trans (qa (qc (qc (qc (qa (qa q0))))))) (nC (nC nE))) mixed 17 [(true, 0), (true, 1), (true, 2), (true, 3), (true, 4), (true, 5), (true, 6), (true, 7), (true, 8), (true, 9), (true, 10), (true, 11), (true, 12), (true, 13), (false, 14), (false, 15), (true, 16)] z6 ?_; exact z.1) : p := h ⟨k⟩
theorem Ya (k : q) (h : Ap q → p := by intro z; refine Z46 ?_; refine S9 ?_; exact z.1) : p := h ⟨k⟩
theorem iK (k : q) (h : Ap q → p := by intro z; refine Z37 ?_; refine Ef ?_; exact z.1) : p := h ⟨k⟩
theorem V7 (k : q) (h : Ap q → p := by intro z; refine Bj (Dl (n := s.free.length) runUnderlying24 sizeOf3 ((((s.free.length : Nat) : Int) - 1).toNat) (ho1_201.slj Au) (gD Da) Lp) (k := ?_); refine Bj (Cr isAgg3 ((((s.free.length : Nat) : Int) - 1).toNat) 0 (ho1_201.slj Au) (gD Da)) (k := ?_); exact z.1) : p := h ⟨k⟩
theorem uN (k : q) (h : Ap q → p := by intro z; refine Z4 ?_; refine Ay (Al Hn) (k := ?_); refine Ay V0 (k := ?_); refine Z4 ?_; exact z.1) : p := h ⟨k⟩
theorem V8 (k : q) (h : Ap q → p := by intro z; refine Ad (Dl (n := s.free.length) runUnderlying24 sizeOf3 ((((s.free.length : Nat) : Int) - 1).toNat) (ho1_201.slj Au) (gD Da) Lp) (k := ?_); refine Ad (Cr isAgg3 ((((s.free.length : Nat) : Int) - 1).toNat) 0 (ho1_201.slj Au) (gD Da)) (k := ?_); exact z.1) : p := h ⟨k⟩
theorem iL (k : q) (h : Ap q → p := by intro z; refine Ad Nu (k := ?_); refine Ad (Js rfl runUnderlying3 runUnderlying5) (k := ?_); exact z.1) : p := h ⟨k⟩
theorem C2 (k : q) (h : Ap q → p := by intro z; refine Z3 ?_; refine Pj (Aa call258) (fun w1 hw1 => eK w1 (n_ := (((0 + ((((l.take at_1).length) : Nat) : Int)) + 1) + ((((l.drop at_1).length) : Nat) : Int))) (hi := Nm)) (k := ?_); exact z.1) : p := h ⟨k⟩
theorem Mq (k : q) (h : Ap q → p := by intro z; refine Z2 ?_; refine Mu ?_; exact z.1) : p := h ⟨k⟩
theorem Jl (k : q) (h : Ap q → p := by intro z; refine Z53 ?_; refine jV ?_; exact z.1) : p := h ⟨k⟩
theorem iM (k : q) (h : Ap q → p := by intro z; refine Dn ?_; refine Ad (Cf (cs := [_, _, _, _, _, _, _]) zeroValue26 zR) (k := ?_); exact z.1) : p := h ⟨k⟩
theorem Yb (k : q) (h : Ap q → p := by intro z; refine uN ?_; refine Z21 ?_; refine Z4 ?_; refine Ay (Al qD) (k := ?_); refine Ay (Bq isAgg43 sizeOf43) (k := ?_); refine Yk (V' := ((r4, _) :: ((r5, _) :: []))) (Bc (l' := [_, _, _, _, _, _, _]) sizeOf26) (k := ?_); refine Ud ?_; refine Yk (V' := ((r4, _) :: ((r5, _) :: []))) (Bc (l' := [_, _, _, _, _, _]) sizeOf43) (k := ?_); refine uL ?_; exact z.1) : p := h ⟨k⟩
theorem Vx (k : q) (h : Ap q → p := by intro z; refine qM ?_; refine Z3 ?_; exact z.1) : p := h ⟨k⟩
theorem Gs (k : q) (h : Ap q → p := by intro z; refine Eh (Bc (l' := [_, _, _]) sizeOf288) (k := ?_); refine Z0 ?_; refine Z2 ?_; refine Ad (Bb isAgg285) (k := ?_); refine Ad (Bq isAgg288 sizeOf288) (k := ?_); refine Bh (args := [_, _]) (Aa call179) func179 ntmps179 ?_; refine Z2 ?_; exact z.1) : p := h ⟨k⟩
theorem eU (k : q) (h : Ap q → p := by intro z; refine Lt ?_; refine aU ?_; refine Tx ?_; exact z.1) : p := h ⟨k⟩
theorem V9 (k : q) (h : Ap q → p := by intro z; refine Dw mixed 20 [(true, 0), (true, 1), (true, 2), (true, 3), (true, 4), (true, 5), (true, 6), (true, 7), (true, 8), (true, 9), (true, 10), (true, 11), (true, 12), (true, 13), (true, 14), (true, 15), (true, 16), (true, 17), (true, 18), (true, 19)] z6 ?_; refine Fi ?_; exact z.1) : p := h ⟨k⟩
theorem uO (k : q) (h : Ap q → p := by intro z; refine Pd ?_; refine Bj Mw (k := ?_); exact z.1) : p := h ⟨k⟩
theorem Vy (k : q) (h : Ap q → p := by intro z; refine B5 ?_; refine Ad (Al Se) (k := ?_); exact z.1) : p := h ⟨k⟩
theorem lR (k : q) (h : Ap q → p := by intro z; refine V1 ?_; refine Ay (Al Hn) (k := ?_); exact z.1) : p := h ⟨k⟩
theorem iN (k : q) (h : Ap q → p := by intro z; refine Qs ?_; refine Ad (Js rfl runUnderlying164 runUnderlying5) (k := ?_); exact z.1) : p := h ⟨k⟩
theorem Tg (k : q) (h : Ap q → p := by intro z; refine uA ?_; refine Lr ?_; exact z.1) : p := h ⟨k⟩
theorem iO (k : q) (h : Ap q → p := by intro z; refine Bh (args := [_]) (Aa call37) func37 ntmps37 ?_; refine Z2 ?_; exact z.1) : p := h ⟨k⟩
theorem W0 (k : q) (h : Ap q → p := by intro z; refine Hr ?_; refine Eh (Bc (l' := [_, _, _, _, _, _]) sizeOf43) (k := ?_); exact z.1) : p := h ⟨k⟩
theorem cI (k : q) (h : Ap q → p := by intro z; refine Lq ?_; refine Ad (Bq isAgg43 sizeOf43) (k := ?_); exact z.1) : p := h ⟨k⟩
theorem Jm (k : q) (h : Ap q → p := by intro z; refine Z0 ?_; refine Z3 ?_; exact z.1) : p := h ⟨k⟩
theorem uP (k : q) (h : Ap q → p := by intro z; refine Ad (aY (u := (Value.iface 400 (.pointer (some ea2)))) (v := Value.nilIface) (b := true) (fun w => by kernel_rfl)) (k := ?_); refine Z0 ?_; exact z.1) : p := h ⟨k⟩
theorem cJ (k : q) (h : Ap q → p := by intro z; refine Hk ?_; refine Cg ?_; exact z.1) : p := h ⟨k⟩
theorem Qt (k : q) (h : Ap q → p := by intro z; refine Zp ?_; refine Hr ?_; exact z.1) : p := h ⟨k⟩
theorem Zt (k : q) (h : Ap q → p := by intro z; refine Ya ?_; refine Kg ?_; exact z.1) : p := h ⟨k⟩
theorem lS (k : q) (h : Ap q → p := by intro z; refine Ew ?_; refine Bh (args := [_, _]) (Aa call114) func114 ntmps114 ?_; exact z.1) : p := h ⟨k⟩
theorem iP (k : q) (h : Ap q → p := by intro z; refine Wh ?_; refine Ad (Al qD) (k := ?_); refine Eh (Bc (l' := [_, _, _, _, _, _, _, _, _, _, _, _, _, _, _, _, _, _, _, _, _, _, _]) sizeOf43) (k := ?_); exact z.1) : p := h ⟨k⟩
theorem cK (k : q) (h : Ap q → p := by intro z; refine An Mw (k := ?_); refine An (Al Rp) (k := ?_); exact z.1) : p := h ⟨k⟩
theorem iQ (k : q) (h : Ap q → p := by intro z; refine Ad (Bb isAgg35) (k := ?_); refine Mu ?_; exact z.1) : p := h ⟨k⟩
theorem lT (k : q) (h : Ap q → p := by intro z; refine Bh (args := [_, _]) (Aa call144) func144 ntmps144 ?_; refine Z2 ?_; exact z.1) : p := h ⟨k⟩
theorem AJ4 (k : q) (h : Ap q → p := by intro z; refine Oc ?_; refine tZ ?_; exact z.1) : p := h ⟨k⟩
theorem cL (k : q) (h : Ap q → p := by intro z; refine Tw ?_; refine lM ?_; exact z.1) : p := h ⟨k⟩
theorem uQ (k : q) (h : Ap q → p := by intro z; refine Eh (Bc (l' := [_, _, _, _, _, _, _, _, _, _, _, _, _, _, _, _, _, _, _, _, _, _, _]) sizeOf24) (k := ?_); refine Jk ?_; exact z.1) : p := h ⟨k⟩
theorem eV (k : q) (h : Ap q → p := by intro z; refine Np rfl ?_; refine Z3 ?_; exact z.1) : p := h ⟨k⟩
theorem Jn (k : q) (h : Ap q → p := by intro z; refine Z2 ?_; refine Oy ?_; exact z.1) : p := h ⟨k⟩
theorem W1 (k : q) (h : Ap q → p := by intro z; refine Cg ?_; refine Ad (Dl (n := s.used.length) runUnderlying29 sizeOf4 ((s.free.getD ((((s.free.length : Nat) : Int) - 1).toNat) default).toNat) (ho1_141.slj Mc) (gD Da) Lp) (k := ?_); exact z.1) : p := h ⟨k⟩
theorem eW (k : q) (h : Ap q → p := by intro z; refine Qv ?_; refine An Oe (k := ?_); exact z.1) : p := h ⟨k⟩
theorem Qj (k : q) (h : Ap q → p := by intro z; refine Z2 ?_; refine Hc ?_; exact z.1) : p := h ⟨k⟩
theorem W2 (k : q) (h : Ap q → p := by intro z; refine Wg ?_; refine AN6 ?_; exact z.1) : p := h ⟨k⟩
theorem qS (k : q) (h : Ap q → p := by intro z; refine Z2 ?_; refine fM ?_; exact z.1) : p := h ⟨k⟩
theorem AJ5 (k : q) (h : Ap q → p := by intro z; refine Z74 ?_; refine Ef ?_; refine Dj _ ((qa (qa q0)).trans (qa q0)) ?_; refine AB5 ?_; exact z.1) : p := h ⟨k⟩
theorem W3 (k : q) (h : Ap q → p := by intro z; refine Ad (Ta (s.free.take ((((s.free.length : Nat) : Int) - 1).toNat)).length ((((s.free.length : Nat) : Int) - 1).toNat) runUnderlying24 (fun w => ⟨_, sizeOf3 w⟩) (hi := z8) (hi2 := z8)) (k := ?_); refine Vy ?_; exact z.1) : p := h ⟨k⟩
theorem Kt (k : q) (h : Ap q → p := by intro z; refine Z0 ?_; refine Fm ?_; exact z.1) : p := h ⟨k⟩
theorem W4 (k : q) (h : Ap q → p := by intro z; refine uH ?_; refine Dn ?_; exact z.1) : p := h ⟨k⟩
theorem Zu (k : q) (h : Ap q → p := by intro z; refine Ep ?_; refine An Gw (k := ?_); exact z.1) : p := h ⟨k⟩
theorem Th (k : q) (h : Ap q → p := by intro z; refine Ay Du (k := ?_); refine eT ?_; exact z.1) : p := h ⟨k⟩
theorem AJ6 (k : q) (h : Ap q → p := by intro z; refine Ad (Gh (n := (l.drop at_1).length) (c := (l_c - at_1)) (i := 1) 1 ((l.drop at_1).drop 1).length runUnderlying32 sizeOf50 (hlo := Da) (hnc := Zm) (hm := uC)) (k := ?_); refine Jj ?_; exact z.1) : p := h ⟨k⟩
theorem uR (k : q) (h : Ap q → p := by intro z; refine Eu ?_; refine Ex (qc (qa q0)) ?_; refine An It (k := ?_); refine B0 ?_; exact z.1) : p := h ⟨k⟩
theorem AJ7 (k : q) (h : Ap q → p := by intro z; refine Ad (Gh (n := l.length) (c := l_c) (i := ((at_1 : Nat) : Int)) at_1 (l.drop at_1).length runUnderlying32 sizeOf50 (hlo := Da) (hnc := Zm) (hm := uC)) (k := ?_); refine Jj ?_; exact z.1) : p := h ⟨k⟩
theorem Sj (k : q) (h : Ap q → p := by intro z; refine Ad aK (k := ?_); refine Z0 ?_; exact z.1) : p := h ⟨k⟩
theorem Lf (k : q) (h : Ap q → p := by intro z; refine Dn ?_; refine iB ?_; exact z.1) : p := h ⟨k⟩
theorem uS (k : q) (h : Ap q → p := by intro z; refine Ad (aY (u := Value.nilIface) (v := Value.nilIface) (b := false) (fun w => by kernel_rfl)) (k := ?_); refine Z0 ?_; exact z.1) : p := h ⟨k⟩
theorem iR (k : q) (h : Ap q → p := by intro z; refine Ad (Bb isAgg164) (k := ?_); refine Hr ?_; exact z.1) : p := h ⟨k⟩
theorem AJ8 (k : q) (h : Ap q → p := by intro z; refine Ad My (k := ?_); refine Z0 ?_; exact z.1) : p := h ⟨k⟩
theorem C3 (k : q) (h : Ap q → p := by intro z; refine Kl _ _ results119 z1 (vp (List.Perm.refl _) nE) (List.Sublist.cons _ Xw) ?_; refine Bj It (k := ?_); exact z.1) : p := h ⟨k⟩
theorem AJ9 (k : q) (h : Ap q → p := by intro z; refine Ff _ _ (vp (qc (qc (qa q0))) (nC nE)) mixed 27 [(true, 0), (true, 1), (true, 2), (true, 3), (true, 4), (true, 5), (true, 6), (true, 7), (true, 8), (true, 9), (true, 10), (true, 11), (true, 12), (true, 13), (true, 14), (true, 15), (true, 16), (true, 17), (true, 18), (true, 19), (true, 20), (true, 21), (true, 22), (true, 23), (true, 24), (false, 25), (true, 26)] z6 ?_; refine Ay S7 (k := ?_); exact z.1) : p := h ⟨k⟩
theorem lU (k : q) (h : Ap q → p := by intro z; refine Lh ?_; refine Z0 ?_; exact z.1) : p := h ⟨k⟩
theorem W5 (k : q) (h : Ap q → p := by intro z; refine jL ?_; refine mO ?_; exact z.1) : p := h ⟨k⟩
theorem lV (k : q) (h : Ap q → p := by intro z; refine mU ?_; refine eQ ?_; exact z.1) : p := h ⟨k⟩
theorem qT (k : q) (h : Ap q → p := by intro z; refine Bj lN (k := ?_); refine Bj (Dg runUnderlying24) (k := ?_); exact z.1) : p := h ⟨k⟩
theorem iS (k : q) (h : Ap q → p := by intro z; refine jE ?_; refine Cg ?_; exact z.1) : p := h ⟨k⟩
theorem uT (k : q) (h : Ap q → p := by intro z; refine Qv ?_; refine An Mx (k := ?_); exact z.1) : p := h ⟨k⟩
theorem W6 (k : q) (h : Ap q → p := by intro z; refine Av results114 z1 ?_; refine Ad My (k := ?_); refine Z5 ?_; exact z.1) : p := h ⟨k⟩
theorem qU (k : q) (h : Ap q → p := by intro z; refine Bh (args := [_, _]) (Aa call116) func116 ntmps116 ?_; refine Z2 ?_; exact z.1) : p := h ⟨k⟩
theorem C4 (k : q) (h : Ap q → p := by intro z; refine Ad (Al Vm) (k := ?_); refine Ad (Bb isAgg29) (k := ?_); exact z.1) : p := h ⟨k⟩
theorem lW (k : q) (h : Ap q → p := by intro z; refine W6 ?_; refine Av results116 z1 ?_; refine Ad It (k := ?_); refine Z5 ?_; exact z.1) : p := h ⟨k⟩
theorem qV (k : q) (h : Ap q → p := by intro z; refine fW (args := [_]) (Aa call231) func231 ntmps231 ?_; refine Jn ?_; exact z.1) : p := h ⟨k⟩
theorem AK0 (k : q) (h : Ap q → p := by intro z; refine Hk ?_; refine Ad My (k := ?_); exact z.1) : p := h ⟨k⟩
theorem Sk (k : q) (h : Ap q → p := by intro z; refine Ag 4 rfl ?_; refine Rx ?_; exact z.1) : p := h ⟨k⟩
theorem iT (k : q) (h : Ap q → p := by intro z; refine Av results106 z1 ?_; refine AJ4 ?_; exact z.1) : p := h ⟨k⟩
theorem lX (k : q) (h : Ap q → p := by intro z; refine AJ4 ?_; refine iB ?_; exact z.1) : p := h ⟨k⟩
theorem qW (k : q) (h : Ap q → p := by intro z; refine Fi ?_; refine Ay Iv (k := ?_); refine Ay Iv (k := ?_); refine Ud ?_; refine Z27 ?_; exact z.1) : p := h ⟨k⟩
theorem W7 (k : q) (h : Ap q → p := by intro z; refine V1 ?_; refine B6 ?_; exact z.1) : p := h ⟨k⟩
theorem iU (k : q) (h : Ap q → p := by intro z; refine Sr ((Fp).k) (k := ?_); refine Sr ((Fp).k) (k := ?_); exact z.1) : p := h ⟨k⟩
theorem qX (k : q) (h : Ap q → p := by intro z; refine eV ?_; refine Bh (args := [_]) (Aa call45) func45 ntmps45 ?_; exact z.1) : p := h ⟨k⟩
theorem Ua (k : q) (h : Ap q → p := by intro z; refine B0 ?_; refine tZ ?_; exact z.1) : p := h ⟨k⟩
theorem Sm (k : q) (h : Ap q → p := by intro z; refine Z1 ?_; refine Vx ?_; exact z.1) : p := h ⟨k⟩
theorem W8 (k : q) (h : Ap q → p := by intro z; refine An lN (k := ?_); refine Mv (Aa call65) (fun w1 hw1 => Yn w1 (l := s.opn) (h_l := (Ch.of_base h_s_opn) w1 hw1) (n_l := Nm)) (k := ?_); exact z.1) : p := h ⟨k⟩
theorem qY (k : q) (h : Ap q → p := by intro z; refine Bh (args := [_]) (Aa call55) func55 ntmps55 ?_; refine Z2 ?_; exact z.1) : p := h ⟨k⟩
theorem eX (k : q) (h : Ap q → p := by intro z; refine Ay Mw (k := ?_); refine Ay (Al qC) (k := ?_); refine Pf ?_; refine Fq (nA nE) ?_; refine Eh (Bc (l' := [_, _, _, _, _, _, _, _, _, _, _, _, _, _, _, _, _, _, _, _, _, _, _]) sizeOf39) (k := ?_); refine Ef ?_; exact z.1) : p := h ⟨k⟩
theorem uU (k : q) (h : Ap q → p := by intro z; refine Ew ?_; refine Cg ?_; exact z.1) : p := h ⟨k⟩
theorem Lu (k : q) (h : Ap q → p := by intro z; refine Eh (Bc (l' := [_, _, _]) sizeOf288) (k := ?_); refine Ef ?_; refine W4 ?_; refine jE ?_; refine Ad (Al yR) (k := ?_); refine Hk ?_; exact z.1) : p := h ⟨k⟩
theorem Lv (k : q) (h : Ap q → p := by intro z; refine Eh (Bc (l' := [_]) sizeOf24) (k := ?_); refine Ef ?_; refine uR ?_; exact z.1) : p := h ⟨k⟩
theorem AK1 (k : q) (h : Ap q → p := by intro z; refine jD ?_; refine Co (Aa call118) (fun w1 hw1 => eD w1 (s := s) (h_s_gens := (Ch.of_base h_s_gens) w1 hw1) (n_s_gens := Nm) (h_s_used := (Ch.of_base h_s_used) w1 hw1) (n_s_used := Nm) (h_s_free := (Ch.of_base h_s_free) w1 hw1) (n_s_free := Nm)) (k := ?_); exact z.1) : p := h ⟨k⟩
theorem iV (k : q) (h : Ap q → p := by intro z; refine Wh ?_; refine Ad (Al bL) (k := ?_); exact z.1) : p := h ⟨k⟩
theorem Ub (k : q) (h : Ap q → p := by intro z; refine tZ ?_; refine qN ?_; exact z.1) : p := h ⟨k⟩
theorem C5 (k : q) (h : Ap q → p := by intro z; refine Dv (vs := [(Value.agg [(vi 10), (vt ([115, 104, 111, 119] : Ai)), (vi 1)].toArray)]) hl3 (qa (qa q0)) Dh ?_; refine Dn ?_; exact z.1) : p := h ⟨k⟩
theorem qZ (k : q) (h : Ap q → p := by intro z; refine Lh ?_; refine Eh (Bc (l' := [_, _, _, _, _]) sizeOf32) (k := ?_); exact z.1) : p := h ⟨k⟩
theorem Qu (k : q) (h : Ap q → p := by intro z; refine Rz rfl ?_; refine Z3 ?_; exact z.1) : p := h ⟨k⟩
theorem C6 (k : q) (h : Ap q → p := by intro z; refine Ad (Bq isAgg112 sizeOf112) (k := ?_); refine Ad (Cf (cs := [_, _, _, _]) zeroValue255 AF7) (k := ?_); exact z.1) : p := h ⟨k⟩
theorem lY (k : q) (h : Ap q → p := by intro z; refine Br ?_; refine Zt ?_; exact z.1) : p := h ⟨k⟩
theorem uV (k : q) (h : Ap q → p := by intro z; refine iF ?_; refine Ad (Al Zj) (k := ?_); exact z.1) : p := h ⟨k⟩
theorem W9 (k : q) (h : Ap q → p := by intro z; refine Yk (V' := ((r2, _) :: ((r3, _) :: []))) (Bc (l' := [_, _, _]) sizeOf31) (k := ?_); refine Yk (V' := ((r2, _) :: ((r3, _) :: []))) (Bc (l' := [_, _]) sizeOf23) (k := ?_); exact z.1) : p := h ⟨k⟩
theorem C7 (k : q) (h : Ap q → p := by intro z; refine jJ ?_; refine Eh (Bc (l' := [_]) sizeOf4) (k := ?_); exact z.1) : p := h ⟨k⟩
theorem Vz (k : q) (h : Ap q → p := by intro z; refine Z2 ?_; refine Wf ?_; exact z.1) : p := h ⟨k⟩
theorem uW (k : q) (h : Ap q → p := by intro z; refine Cc _ (sd (sx (sx (sk (sa (sk (sk (sk sz)))))))) ?_; refine Av results84 Bk.nil ?_; exact z.1) : p := h ⟨k⟩
theorem X0 (k : q) (h : Ap q → p := by intro z; refine Ci 10 rfl z6 z67 (k := ?_); refine Ci 11 rfl z6 (Cf (cs := [_, _, _]) zeroValue276 oB) (k := ?_); exact z.1) : p := h ⟨k⟩
theorem rA (k : q) (h : Ap q → p := by intro z; refine An (Al Vm) (k := ?_); refine An (Bb isAgg29) (k := ?_); exact z.1) : p := h ⟨k⟩
theorem AK2 (k : q) (h : Ap q → p := by intro z; refine Te ?_; refine Ag 2 rfl ?_; exact z.1) : p := h ⟨k⟩
theorem C8 (k : q) (h : Ap q → p := by intro z; refine Ad (Cf (cs := [_, _, _]) zeroValue28 pY) (k := ?_); refine vZ ?_; exact z.1) : p := h ⟨k⟩
theorem uX (k : q) (h : Ap q → p := by intro z; refine iB ?_; refine lW ?_; exact z.1) : p := h ⟨k⟩
theorem uY (k : q) (h : Ap q → p := by intro z; refine fO (k := ?_); refine Zq ?_; refine Tg ?_; exact z.1) : p := h ⟨k⟩
theorem Sn (k : q) (h : Ap q → p := by intro z; refine Oc ?_; refine Np rfl ?_; exact z.1) : p := h ⟨k⟩
theorem X1 (k : q) (h : Ap q → p := by intro z; refine Vx ?_; refine Ad (Dl (n := r.l.length) runUnderlying32 sizeOf50 x_1 (Hh.of_base Ji h_r_l).sl (Yy h_r_l.1 Da) (Kd h_r_l.1)) (k := ?_); exact z.1) : p := h ⟨k⟩
theorem eY (k : q) (h : Ap q → p := by intro z; refine Bh (args := [_, _, _]) (Aa call134) func134 ntmps134 ?_; refine Dw mixed 17 [(true, 0), (true, 1), (true, 2), (true, 3), (true, 4), (true, 5), (true, 6), (true, 7), (true, 8), (true, 9), (true, 10), (true, 11), (true, 12), (false, 13), (false, 14), (true, 15), (true, 16)] z6 ?_; refine V1 ?_; refine Z21 ?_; refine W7 ?_; refine Fi ?_; refine Ay (Cf (cs := [_, _, _]) zeroValue28 pY) (k := ?_); exact z.1) : p := h ⟨k⟩
theorem X2 (k : q) (h : Ap q → p := by intro z; refine Ad lL (k := ?_); refine jE ?_; exact z.1) : p := h ⟨k⟩
theorem AK3 (k : q) (h : Ap q → p := by intro z; refine mS ?_; refine Co (Aa call19) (fun w1 hw1 => gV w1 (l := x_6) (t := ((Cw f.data).1)) (h_l := (hx_6.slj Oq) w1 hw1) (n_l := dI) (hG := hG.ext hw1.ext_out) (hE := hE.ext hw1.ext_out)) (k := ?_); exact z.1) : p := h ⟨k⟩
theorem AK4 (k : q) (h : Ap q → p := by intro z; refine El _ (sa (sa (sk (sx (sk (sk (sk sz))))))) ?_; refine Ff _ _ (vp ((qc (qc (qa (qa q0)))).trans (qa (qc (qc (qa (qa q0)))))) (nC (nC nE))) mixed 16 [(true, 0), (true, 1), (true, 2), (true, 3), (true, 4), (true, 5), (true, 6), (true, 7), (true, 8), (true, 9), (true, 10), (true, 11), (false, 12), (true, 13), (false, 14), (true, 15)] z6 ?_; exact z.1) : p := h ⟨k⟩
theorem uZ (k : q) (h : Ap q → p := by intro z; refine uO ?_; refine Bj (Al Rp) (k := ?_); exact z.1) : p := h ⟨k⟩
theorem C9 (k : q) (h : Ap q → p := by intro z; refine jQ q0 ?_; refine Fm ?_; exact z.1) : p := h ⟨k⟩
theorem Yc (k : q) (h : Ap q → p := by intro z; refine Z2 ?_; refine Z5 ?_; exact z.1) : p := h ⟨k⟩
theorem X3 (k : q) (h : Ap q → p := by intro z; refine Ez ?_; refine Dw mixed 11 [(true, 0), (true, 1), (true, 2), (true, 3), (true, 4), (true, 5), (true, 6), (true, 7), (true, 8), (false, 9), (true, 10)] z6 ?_; exact z.1) : p := h ⟨k⟩
theorem eZ (k : q) (h : Ap q → p := by intro z; refine Pf ?_; refine Fq (nA nE) ?_; exact z.1) : p := h ⟨k⟩
theorem X4 (k : q) (h : Ap q → p := by intro z; refine Jk ?_; refine Ff _ _ (vp (qd (qd (qb q0))) (nA nE)) mixed 8 [(true, 0), (true, 1), (true, 2), (true, 3), (true, 4), (true, 5), (true, 6), (false, 7)] z6 ?_; exact z.1) : p := h ⟨k⟩
theorem AK5 (k : q) (h : Ap q → p := by intro z; refine El _ (sa (sk (sx (sk (sk (sk sz)))))) ?_; refine Ff _ _ (vp ((qc (qa (qa q0))).trans (qa (qc (qa (qa q0))))) (nC (nC nE))) mixed 16 [(true, 0), (true, 1), (true, 2), (true, 3), (true, 4), (true, 5), (true, 6), (true, 7), (true, 8), (true, 9), (true, 10), (true, 11), (false, 12), (true, 13), (false, 14), (true, 15)] z6 ?_; exact z.1) : p := h ⟨k⟩
theorem D0 (k : q) (h : Ap q → p := by intro z; refine Ay (Bb isAgg9) (k := ?_); refine fW (args := [_]) (Aa call135) func135 ntmps135 ?_; exact z.1) : p := h ⟨k⟩
theorem lZ (k : q) (h : Ap q → p := by intro z; refine Qj ?_; refine fK ?_; exact z.1) : p := h ⟨k⟩
theorem Ti (k : q) (h : Ap q → p := by intro z; refine A8 ?_; refine Z2 ?_; exact z.1) : p := h ⟨k⟩
theorem Zv (k : q) (h : Ap q → p := by intro z; refine A9 ?_; refine Z3 ?_; exact z.1) : p := h ⟨k⟩
theorem iW (k : q) (h : Ap q → p := by intro z; refine Ti ?_; refine jE ?_; exact z.1) : p := h ⟨k⟩
theorem Zw (k : q) (h : Ap q → p := by intro z; refine Hr ?_; refine Z5 ?_; exact z.1) : p := h ⟨k⟩
theorem vA (k : q) (h : Ap q → p := by intro z; refine Cc _ (sd (sk (sk sz))) ?_; refine Av results64 z1 ?_; exact z.1) : p := h ⟨k⟩
theorem vB (k : q) (h : Ap q → p := by intro z; refine jJ ?_; refine Jj ?_; exact z.1) : p := h ⟨k⟩
theorem Pb (k : q) (h : Ap q → p := by intro z; refine Tw ?_; refine iK ?_; exact z.1) : p := h ⟨k⟩
theorem vC (k : q) (h : Ap q → p := by intro z; refine Ez ?_; refine Z3 ?_; exact z.1) : p := h ⟨k⟩
theorem rB (k : q) (h : Ap q → p := by intro z; refine qW ?_; refine Jk ?_; exact z.1) : p := h ⟨k⟩
theorem D1 (k : q) (h : Ap q → p := by intro z; refine Yk (V' := ((r361, _) :: [])) S3 (k := ?_); refine Z63 ?_; exact z.1) : p := h ⟨k⟩
theorem D2 (k : q) (h : Ap q → p := by intro z; refine rY ?_; refine Eh (Bc (l' := [_]) sizeOf44) (k := ?_); exact z.1) : p := h ⟨k⟩
theorem vD (k : q) (h : Ap q → p := by intro z; refine Cc _ (sd (sk (sk (sk sz)))) ?_; refine Av results64 z1 ?_; refine Qq ?_; exact z.1) : p := h ⟨k⟩
theorem D3 (k : q) (h : Ap q → p := by intro z; refine Yk (V' := ((r12, _) :: [])) S3 (k := ?_); refine Z63 ?_; exact z.1) : p := h ⟨k⟩
theorem Wa (k : q) (h : Ap q → p := by intro z; refine Br ?_; refine lM ?_; exact z.1) : p := h ⟨k⟩
theorem X5 (k : q) (h : Ap q → p := by intro z; refine Ff _ _ (vp (qb q0) (nA nE)) mixed 5 [(true, 0), (true, 1), (false, 2), (false, 3), (false, 4)] z6 ?_; refine Ay (Bb isAgg106) (k := ?_); exact z.1) : p := h ⟨k⟩
theorem vF (k : q) (h : Ap q → p := by intro z; refine mV ?_; refine W0 ?_; exact z.1) : p := h ⟨k⟩
theorem D4 (k : q) (h : Ap q → p := by intro z; refine cL ?_; refine Ad (Jb (m := 2) (n := 3) runUnderlying358 sizeOf288 isAgg288) (k := ?_); exact z.1) : p := h ⟨k⟩
theorem D5 (k : q) (h : Ap q → p := by intro z; refine cL ?_; refine Ad (Jb (m := 3) (n := 3) runUnderlying358 sizeOf288 isAgg288) (k := ?_); exact z.1) : p := h ⟨k⟩
theorem D6 (k : q) (h : Ap q → p := by intro z; refine cL ?_; refine Ad (Jb (m := 4) (n := 3) runUnderlying358 sizeOf288 isAgg288) (k := ?_); exact z.1) : p := h ⟨k⟩
theorem D7 (k : q) (h : Ap q → p := by intro z; refine cL ?_; refine Ad (Jb (m := 5) (n := 3) runUnderlying358 sizeOf288 isAgg288) (k := ?_); exact z.1) : p := h ⟨k⟩
theorem D8 (k : q) (h : Ap q → p := by intro z; refine cL ?_; refine Ad (Jb (m := 6) (n := 3) runUnderlying358 sizeOf288 isAgg288) (k := ?_); exact z.1) : p := h ⟨k⟩
theorem D9 (k : q) (h : Ap q → p := by intro z; refine cL ?_; refine Ad (Jb (m := 7) (n := 3) runUnderlying358 sizeOf288 isAgg288) (k := ?_); exact z.1) : p := h ⟨k⟩
theorem E0 (k : q) (h : Ap q → p := by intro z; refine cL ?_; refine Ad (Jb (m := 8) (n := 3) runUnderlying358 sizeOf288 isAgg288) (k := ?_); exact z.1) : p := h ⟨k⟩
theorem AK6 (k : q) (h : Ap q → p := by intro z; refine Ff _ _ (vp ((qc (qa (qa (qc q0)))).trans (qa (qc (qa (qa (qc q0)))))) (nC (nC nE))) mixed 16 [(true, 0), (true, 1), (true, 2), (true, 3), (true, 4), (true, 5), (true, 6), (true, 7), (true, 8), (true, 9), (true, 10), (true, 11), (false, 12), (true, 13), (false, 14), (true, 15)] z6 ?_; refine Yb ?_; exact z.1) : p := h ⟨k⟩
theorem X6 (k : q) (h : Ap q → p := by intro z; refine Dj _ ((qa (qc q0)).trans (qb (qb q0))) ?_; refine Cc _ (List.Sublist.append Xw (List.Sublist.cons_cons _ Mt)) ?_; exact z.1) : p := h ⟨k⟩
theorem X7 (k : q) (h : Ap q → p := by intro z; refine Zp ?_; refine Ad Iv (k := ?_); exact z.1) : p := h ⟨k⟩
theorem rC (k : q) (h : Ap q → p := by intro z; refine Qv ?_; refine An Gw (k := ?_); exact z.1) : p := h ⟨k⟩
theorem E1 (k : q) (h : Ap q → p := by intro z; refine Ad lL (k := ?_); refine Eh (Bc (l' := [_, _, _, _, _, _, _]) sizeOf24) (k := ?_); exact z.1) : p := h ⟨k⟩
theorem Yd (k : q) (h : Ap q → p := by intro z; refine Qq ?_; refine Ag 3 rfl ?_; exact z.1) : p := h ⟨k⟩
theorem cM (k : q) (h : Ap q → p := by intro z; refine Ay Du (k := ?_); refine lU ?_; exact z.1) : p := h ⟨k⟩
theorem Qk (k : q) (h : Ap q → p := by intro z; refine kI (V' := ((r162, _) :: [])) rfl (Bc (l' := [_, _]) sizeOf146) (k := ?_); refine Ci 9 rfl z6 Ir (k := ?_); refine AJ5 ?_; exact z.1) : p := h ⟨k⟩
theorem rE (k : q) (h : Ap q → p := by intro z; refine vY ?_; refine Jk ?_; exact z.1) : p := h ⟨k⟩
theorem vG (k : q) (h : Ap q → p := by intro z; refine Ef ?_; refine Eu ?_; exact z.1) : p := h ⟨k⟩
theorem X8 (k : q) (h : Ap q → p := by intro z; refine Kl _ _ results71 z1 (vp (List.Perm.refl _) nE) Xw ?_; refine Bj (aL runUnderlying4) (k := ?_); exact z.1) : p := h ⟨k⟩
theorem E2 (k : q) (h : Ap q → p := by intro z; refine AB4 ?_; refine W5 ?_; exact z.1) : p := h ⟨k⟩
theorem rF (k : q) (h : Ap q → p := by intro z; refine Ub ?_; refine Av results45 z1 ?_; exact z.1) : p := h ⟨k⟩
theorem rG (k : q) (h : Ap q → p := by intro z; refine Ub ?_; refine Av results55 z1 ?_; exact z.1) : p := h ⟨k⟩
theorem AK7 (k : q) (h : Ap q → p := by intro z; refine Ad (Dy runUnderlying260 sizeOf35 0) (k := ?_); refine iQ ?_; exact z.1) : p := h ⟨k⟩
theorem rH (k : q) (h : Ap q → p := by intro z; refine vX ?_; refine Mu ?_; exact z.1) : p := h ⟨k⟩
theorem mA (k : q) (h : Ap q → p := by intro z; refine A8 ?_; refine Lq ?_; exact z.1) : p := h ⟨k⟩
theorem Ql (k : q) (h : Ap q → p := by intro z; refine Z75 ?_; refine Qp ?_; refine sA ?_; refine Wg ?_; refine Mu ?_; refine Z8 ?_; exact z.1) : p := h ⟨k⟩
theorem Qm (k : q) (h : Ap q → p := by intro z; refine Z75 ?_; refine Sv ?_; exact z.1) : p := h ⟨k⟩
theorem iX (k : q) (h : Ap q → p := by intro z; refine Z0 ?_; refine Ez ?_; refine Ff _ _ (vp ((qc (qa (qc (qa q0)))).trans (qa (qc (qa (qc (qa q0)))))) (nC (nC nE))) mixed 16 [(true, 0), (true, 1), (true, 2), (true, 3), (true, 4), (true, 5), (true, 6), (true, 7), (true, 8), (true, 9), (true, 10), (true, 11), (false, 12), (true, 13), (false, 14), (true, 15)] z6 ?_; refine Yb ?_; exact z.1) : p := h ⟨k⟩
theorem cN (k : q) (h : Ap q → p := by intro z; refine Sv ?_; refine Cg ?_; exact z.1) : p := h ⟨k⟩
theorem vH (k : q) (h : Ap q → p := by intro z; refine Mu ?_; refine Ad (Cf (cs := [_]) zeroValue190 AE9) (k := ?_); exact z.1) : p := h ⟨k⟩
theorem mB (k : q) (h : Ap q → p := by intro z; refine Cx results144 Bk.nil ?_; refine Ef ?_; exact z.1) : p := h ⟨k⟩
theorem AK8 (k : q) (h : Ap q → p := by intro z; refine L7 ?_; refine Ez ?_; refine K6 ?_; refine Gv ?_; exact z.1) : p := h ⟨k⟩
theorem Sp (k : q) (h : Ap q → p := by intro z; refine uX ?_; refine vD ?_; refine uY ?_; exact z.1) : p := h ⟨k⟩
theorem rI (k : q) (h : Ap q → p := by intro z; refine Ci 15 rfl z6 Ir (k := ?_); refine Z74 ?_; exact z.1) : p := h ⟨k⟩
theorem vI (k : q) (h : Ap q → p := by intro z; refine Ad (Al bK) (k := ?_); refine Nn ?_; exact z.1) : p := h ⟨k⟩
theorem vJ (k : q) (h : Ap q → p := by intro z; refine Ad (Al Py) (k := ?_); refine Ad (Bb isAgg32) (k := ?_); exact z.1) : p := h ⟨k⟩
theorem vK (k : q) (h : Ap q → p := by intro z; refine Ay (Al gX) (k := ?_); refine Ay (Bb isAgg48) (k := ?_); exact z.1) : p := h ⟨k⟩
theorem vL (k : q) (h : Ap q → p := by intro z; refine uU ?_; refine Ad (Dy runUnderlying24 sizeOf3 0) (k := ?_); exact z.1) : p := h ⟨k⟩
theorem vM (k : q) (h : Ap q → p := by intro z; refine uU ?_; refine Ad (Dy runUnderlying24 sizeOf3 1) (k := ?_); exact z.1) : p := h ⟨k⟩
theorem X9 (k : q) (h : Ap q → p := by intro z; refine Ad (Al Nl) (k := ?_); refine Hk ?_; exact z.1) : p := h ⟨k⟩
theorem vN (k : q) (h : Ap q → p := by intro z; refine Ad (Al Qa) (k := ?_); refine Nn ?_; exact z.1) : p := h ⟨k⟩
theorem AK9 (k : q) (h : Ap q → p := by intro z; refine rB ?_; refine Ff _ _ (vp (List.Perm.refl _) (nA nE)) mixed 17 [(true, 0), (true, 1), (true, 2), (true, 3), (true, 4), (true, 5), (true, 6), (true, 7), (true, 8), (true, 9), (true, 10), (true, 11), (false, 12), (false, 13), (true, 14), (true, 15), (true, 16)] z6 ?_; exact z.1) : p := h ⟨k⟩
theorem rJ (k : q) (h : Ap q → p := by intro z; refine Ci 10 rfl z6 Fp (k := ?_); refine Ci 11 rfl z6 Iv (k := ?_); refine Ci 12 rfl z6 Iv (k := ?_); exact z.1) : p := h ⟨k⟩
theorem Uc (k : q) (h : Ap q → p := by intro z; refine iI ?_; refine Z5 ?_; exact z.1) : p := h ⟨k⟩
theorem fA (k : q) (h : Ap q → p := by intro z; refine Cu ?_; refine Sw rfl ?_; exact z.1) : p := h ⟨k⟩
theorem Pc (k : q) (h : Ap q → p := by intro z; refine Z3 ?_; refine Z5 ?_; exact z.1) : p := h ⟨k⟩
theorem cO (k : q) (h : Ap q → p := by intro z; refine Ad Gw (k := ?_); refine Z0 ?_; exact z.1) : p := h ⟨k⟩
theorem E3 (k : q) (h : Ap q → p := by intro z; refine Cc _ (sa (sd (sk (sa (sk (sk (sk sz))))))) ?_; refine Cx results134 Bk.nil ?_; exact z.1) : p := h ⟨k⟩
theorem E4 (k : q) (h : Ap q → p := by intro z; refine vC ?_; refine AJ8 ?_; exact z.1) : p := h ⟨k⟩
theorem E5 (k : q) (h : Ap q → p := by intro z; refine AK7 ?_; refine Bh (args := [_, _]) (Aa call139) func139 ntmps139 ?_; exact z.1) : p := h ⟨k⟩
theorem rK (k : q) (h : Ap q → p := by intro z; refine nJ (.inr rfl) results147 q0 ?_; refine aE ?_; exact z.1) : p := h ⟨k⟩
theorem AL0 (k : q) (h : Ap q → p := by intro z; refine Ad (AD2 (p := (((Wm t x_2).1 : Nat) : Int)) (q := 48) (xD z8)) (k := ?_); refine Ad (Js (r := ((((Wm t x_2).1 : Nat) : Int) - 48)) (Gx (by first | omega | exact Nd _ _)) runUnderlying21 runUnderlying3) (k := ?_); exact z.1) : p := h ⟨k⟩
theorem mC (k : q) (h : Ap q → p := by intro z; refine Ay (Al Rp) (k := ?_); refine uK ?_; exact z.1) : p := h ⟨k⟩
theorem E6 (k : q) (h : Ap q → p := by intro z; refine Ad (Al pV) (k := ?_); refine jD ?_; exact z.1) : p := h ⟨k⟩
theorem Qn (k : q) (h : Ap q → p := by intro z; refine Z0 ?_; refine Z2 ?_; exact z.1) : p := h ⟨k⟩
theorem E7 (k : q) (h : Ap q → p := by intro z; refine Bh (args := [_, _]) (Aa call43) func43 ntmps43 ?_; refine Qj ?_; exact z.1) : p := h ⟨k⟩
theorem E8 (k : q) (h : Ap q → p := by intro z; refine Bh (args := [_]) (Aa call105) func105 ntmps105 ?_; refine Mq ?_; exact z.1) : p := h ⟨k⟩
theorem AL1 (k : q) (h : Ap q → p := by intro z; refine Ad (Dl (n := l.length) runUnderlying48 sizeOf112 x_1 cF (gD Da) Lp) (k := ?_); refine Ad (Ht isAgg112 sizeOf112 x_1 cF (gD Da)) (k := ?_); exact z.1) : p := h ⟨k⟩
theorem E9 (k : q) (h : Ap q → p := by intro z; refine Bh (args := [_]) (Aa call138) func138 ntmps138 ?_; refine Qj ?_; exact z.1) : p := h ⟨k⟩
theorem AL2 (k : q) (h : Ap q → p := by intro z; refine Bj (Dl (n := (l.drop at_1).length) runUnderlying32 sizeOf50 0 (Ch.off cF at_1 l_c Zm) (gD Da) Lp) (k := ?_); refine Bj (Wi Li) (k := ?_); exact z.1) : p := h ⟨k⟩
theorem Zx (k : q) (h : Ap q → p := by intro z; refine eU ?_; refine Z62 ?_; exact z.1) : p := h ⟨k⟩
theorem F0 (k : q) (h : Ap q → p := by intro z; refine Uu (args := [_, _]) (Aa call64) func64 ntmps64 ?_; refine Z2 ?_; exact z.1) : p := h ⟨k⟩
theorem mD (k : q) (h : Ap q → p := by intro z; refine Ad (Al Sh) (k := ?_); refine Hk ?_; refine Ad (Al Q3) (k := ?_); exact z.1) : p := h ⟨k⟩
theorem F1 (k : q) (h : Ap q → p := by intro z; refine Bh (args := [_]) (Aa call172) func172 ntmps172 ?_; refine Z2 ?_; exact z.1) : p := h ⟨k⟩
theorem vO (k : q) (h : Ap q → p := by intro z; refine jH ?_; refine Bj Gw (k := ?_); exact z.1) : p := h ⟨k⟩
theorem mE (k : q) (h : Ap q → p := by intro z; refine B5 ?_; refine Ad (Al Vl) (k := ?_); exact z.1) : p := h ⟨k⟩
theorem F2 (k : q) (h : Ap q → p := by intro z; refine X2 ?_; refine Bh (args := [_]) (Aa call38) func38 ntmps38 ?_; exact z.1) : p := h ⟨k⟩
theorem mF (k : q) (h : Ap q → p := by intro z; refine Dw mixed 16 [(true, 0), (true, 1), (true, 2), (true, 3), (true, 4), (true, 5), (true, 6), (true, 7), (true, 8), (true, 9), (false, 10), (true, 11), (true, 12), (true, 13), (true, 14), (true, 15)] z6 ?_; refine Z4 ?_; refine Ay (Al Hn) (k := ?_); exact z.1) : p := h ⟨k⟩
theorem rL (k : q) (h : Ap q → p := by intro z; refine Ep ?_; refine An Uh (k := ?_); exact z.1) : p := h ⟨k⟩
theorem Y0 (k : q) (h : Ap q → p := by intro z; refine Ad (Bq isAgg80 sizeOf80) (k := ?_); refine Ad (Cf (cs := [_, _]) zeroValue346 AF1) (k := ?_); exact z.1) : p := h ⟨k⟩
theorem Y1 (k : q) (h : Ap q → p := by intro z; refine Ad (Bq isAgg82 sizeOf82) (k := ?_); refine Ad (Cf (cs := [_, _]) zeroValue351 AF2) (k := ?_); exact z.1) : p := h ⟨k⟩
theorem rM (k : q) (h : Ap q → p := by intro z; refine Dw mixed 11 [(true, 0), (true, 1), (true, 2), (true, 3), (true, 4), (true, 5), (true, 7), (false, 6), (false, 8), (false, 9), (true, 10)] z6 ?_; refine Ay (Al Py) (k := ?_); refine Ay (Bb isAgg32) (k := ?_); exact z.1) : p := h ⟨k⟩
theorem F3 (k : q) (h : Ap q → p := by intro z; refine qS ?_; refine mV ?_; exact z.1) : p := h ⟨k⟩
theorem AL3 (k : q) (h : Ap q → p := by intro z; refine An (Dl (n := x.length) runUnderlying24 sizeOf3 i_1 (Ch.of_base h_x) (gD Da) Lp) (k := ?_); refine An (Cr isAgg3 i_1 0 (Ch.of_base h_x) (gD Da)) (k := ?_); exact z.1) : p := h ⟨k⟩
theorem Ye (k : q) (h : Ap q → p := by intro z; refine AK8 ?_; refine Z2 ?_; exact z.1) : p := h ⟨k⟩
theorem iY (k : q) (h : Ap q → p := by intro z; refine Ay Fx (k := ?_); refine lU ?_; exact z.1) : p := h ⟨k⟩
theorem F4 (k : q) (h : Ap q → p := by intro z; refine Bj V0 (k := ?_); refine Pd ?_; exact z.1) : p := h ⟨k⟩
theorem rN (k : q) (h : Ap q → p := by intro z; refine uV ?_; refine Nn ?_; exact z.1) : p := h ⟨k⟩
theorem Y2 (k : q) (h : Ap q → p := by intro z; refine lX ?_; refine B3 ?_; exact z.1) : p := h ⟨k⟩
theorem mG (k : q) (h : Ap q → p := by intro z; refine Fw ?_; refine Sw rfl ?_; exact z.1) : p := h ⟨k⟩
theorem F5 (k : q) (h : Ap q → p := by intro z; refine Lq ?_; refine eY ?_; exact z.1) : p := h ⟨k⟩
theorem F6 (k : q) (h : Ap q → p := by intro z; refine eX ?_; refine Cc _ (sa (sd (sk (sk (sa (sk (sk (sk sz)))))))) ?_; refine Cx results134 Bk.nil ?_; refine eQ ?_; exact z.1) : p := h ⟨k⟩
theorem F7 (k : q) (h : Ap q → p := by intro z; refine Ci 6 rfl z6 Ir (k := ?_); refine jL ?_; exact z.1) : p := h ⟨k⟩
theorem rO (k : q) (h : Ap q → p := by intro z; refine Ad Oe (k := ?_); refine Cg ?_; exact z.1) : p := h ⟨k⟩
theorem rP (k : q) (h : Ap q → p := by intro z; refine Ad It (k := ?_); refine Cg ?_; exact z.1) : p := h ⟨k⟩
theorem AL4 (k : q) (h : Ap q → p := by intro z; refine Ez ?_; refine Ff _ _ (vp (qa (qc (qc (qa (qc q0))))) (nC nE)) mixed 12 [(true, 0), (true, 1), (true, 2), (true, 3), (true, 4), (true, 5), (true, 6), (false, 7), (true, 8), (true, 9), (true, 10), (false, 11)] z6 ?_; exact z.1) : p := h ⟨k⟩
theorem Wb (k : q) (h : Ap q → p := by intro z; refine lY ?_; refine Yc ?_; exact z.1) : p := h ⟨k⟩
theorem vP (k : q) (h : Ap q → p := by intro z; refine Ad (Dg runUnderlying260) (k := ?_); refine Zx ?_; exact z.1) : p := h ⟨k⟩
theorem F8 (k : q) (h : Ap q → p := by intro z; refine Sr ((Al bL).k) (k := ?_); refine Sr (AD5 isAgg3) (k := ?_); exact z.1) : p := h ⟨k⟩
theorem F9 (k : q) (h : Ap q → p := by intro z; refine Sr ((Al kV).k) (k := ?_); refine Sr ((Al bK).k) (k := ?_); exact z.1) : p := h ⟨k⟩
theorem cP (k : q) (h : Ap q → p := by intro z; refine iE ?_; refine Fa ?_; exact z.1) : p := h ⟨k⟩
theorem G0 (k : q) (h : Ap q → p := by intro z; refine Jk ?_; refine El _ (sk (sk (sd (sa (sa (sk (sa (sk (sk (sk sz)))))))))) ?_; exact z.1) : p := h ⟨k⟩
theorem AL5 (k : q) (h : Ap q → p := by intro z; refine Z3 ?_; refine Pj (Aa call258) (fun w1 hw1 => eK w1 (n_ := (((0 + ((((l.take at_1).length) : Nat) : Int)) + 1) + (((((l.drop at_1).drop 1).length) : Nat) : Int))) (hi := Nm)) (k := ?_); exact z.1) : p := h ⟨k⟩
theorem fB (k : q) (h : Ap q → p := by intro z; refine Bl 3 rfl ?_; refine eR ?_; exact z.1) : p := h ⟨k⟩
theorem rQ (k : q) (h : Ap q → p := by intro z; refine Ay (Al pZ) (k := ?_); refine Tj ?_; refine Z4 ?_; refine Ay (Al Hn) (k := ?_); refine Ay (Al qA) (k := ?_); exact z.1) : p := h ⟨k⟩
theorem G1 (k : q) (h : Ap q → p := by intro z; refine An (Al Vl) (k := ?_); refine An lN (k := ?_); exact z.1) : p := h ⟨k⟩
theorem AL6 (k : q) (h : Ap q → p := by intro z; refine sK rfl (Js (r := (((s.getD 0 default).toNat : Nat) : Int)) (Gx (by first | omega | exact Nd _ _)) runUnderlying5 runUnderlying3) (k := ?_); refine Ci 3 rfl z6 dN (k := ?_); exact z.1) : p := h ⟨k⟩
theorem G2 (k : q) (h : Ap q → p := by intro z; refine An (Al pZ) (k := ?_); refine Qv ?_; exact z.1) : p := h ⟨k⟩
theorem G3 (k : q) (h : Ap q → p := by intro z; refine An (Al qA) (k := ?_); refine Qv ?_; exact z.1) : p := h ⟨k⟩
theorem G4 (k : q) (h : Ap q → p := by intro z; refine rB ?_; refine Ez ?_; refine El _ (sk (sa (sk (sk (sk (sd (sd sz))))))) ?_; refine Lq ?_; exact z.1) : p := h ⟨k⟩
theorem Wc (k : q) (h : Ap q → p := by intro z; refine AK2 ?_; refine uA ?_; exact z.1) : p := h ⟨k⟩
theorem G5 (k : q) (h : Ap q → p := by intro z; refine Ay lL (k := ?_); refine Ay lN (k := ?_); exact z.1) : p := h ⟨k⟩
theorem G6 (k : q) (h : Ap q → p := by intro z; refine Ay (Al Q4) (k := ?_); refine Tj ?_; exact z.1) : p := h ⟨k⟩
theorem G7 (k : q) (h : Ap q → p := by intro z; refine Ay (Al Qa) (k := ?_); refine Ay (Bb isAgg9) (k := ?_); exact z.1) : p := h ⟨k⟩
theorem Yf (k : q) (h : Ap q → p := by intro z; refine Dn ?_; refine Qr ?_; exact z.1) : p := h ⟨k⟩
theorem Yg (k : q) (h : Ap q → p := by intro z; refine Hc ?_; refine Ad (Dg runUnderlying384) (k := ?_); refine eU ?_; refine Z62 ?_; refine Ad (Dy runUnderlying384 sizeOf32 0) (k := ?_); exact z.1) : p := h ⟨k⟩
theorem Y3 (k : q) (h : Ap q → p := by intro z; refine Ad (Dy runUnderlying357 sizeOf280 2) (k := ?_); refine Ad (Bb isAgg280) (k := ?_); exact z.1) : p := h ⟨k⟩
theorem G8 (k : q) (h : Ap q → p := by intro z; refine qM ?_; refine Z2 ?_; exact z.1) : p := h ⟨k⟩
theorem mH (k : q) (h : Ap q → p := by intro z; refine Ay Fx (k := ?_); refine eT ?_; exact z.1) : p := h ⟨k⟩
theorem iZ (k : q) (h : Ap q → p := by intro z; refine Ue ?_; refine Gv ?_; exact z.1) : p := h ⟨k⟩
theorem G9 (k : q) (h : Ap q → p := by intro z; refine Ua ?_; refine Qr ?_; exact z.1) : p := h ⟨k⟩
theorem Yh (k : q) (h : Ap q → p := by intro z; refine mA ?_; refine Sq ?_; refine Hr ?_; refine Z23 ?_; refine E4 ?_; exact z.1) : p := h ⟨k⟩
theorem Yi (k : q) (h : Ap q → p := by intro z; refine Z46 ?_; refine Zv ?_; exact z.1) : p := h ⟨k⟩
theorem mI (k : q) (h : Ap q → p := by intro z; refine AK0 ?_; refine Cg ?_; exact z.1) : p := h ⟨k⟩
theorem H0 (k : q) (h : Ap q → p := by intro z; refine fL ?_; refine Sr ((Al kW).k) (k := ?_); exact z.1) : p := h ⟨k⟩
theorem Y4 (k : q) (h : Ap q → p := by intro z; refine Oc ?_; refine Pa ?_; exact z.1) : p := h ⟨k⟩
theorem Y5 (k : q) (h : Ap q → p := by intro z; refine Hr ?_; refine jJ ?_; exact z.1) : p := h ⟨k⟩
theorem jA (k : q) (h : Ap q → p := by intro z; refine Fq (nC nE) ?_; refine eQ ?_; exact z.1) : p := h ⟨k⟩
theorem H3 (k : q) (h : Ap q → p := by intro z; refine Ay (Al Zk) (k := ?_); refine Ay (Al Zj) (k := ?_); exact z.1) : p := h ⟨k⟩
theorem Y6 (k : q) (h : Ap q → p := by intro z; refine X9 ?_; refine Ad (Cf (cs := [_, _, _, _, _, _, _, _, _]) zeroValue104 zE) (k := ?_); exact z.1) : p := h ⟨k⟩
theorem Wd (k : q) (h : Ap q → p := by intro z; refine Qd ?_; refine Z2 ?_; exact z.1) : p := h ⟨k⟩
theorem AL7 (k : q) (h : Ap q → p := by intro z; refine wG rfl (Aa call77) (fun w1 hw1 => tJ w1 (hG.ext hw1.ext_out)) (k := ?_); refine Ci 10 rfl z6 (Cf (cs := [_, _, _, _, _, _]) zeroValue76 U4) (k := ?_); exact z.1) : p := h ⟨k⟩
theorem AL8 (k : q) (h : Ap q → p := by intro z; refine Mq ?_; refine cH ?_; exact z.1) : p := h ⟨k⟩
theorem Y7 (k : q) (h : Ap q → p := by intro z; refine B8 ?_; refine iP ?_; exact z.1) : p := h ⟨k⟩
theorem Zy (k : q) (h : Ap q → p := by intro z; refine V5 ?_; refine Np rfl ?_; refine V2 ?_; refine F5 ?_; exact z.1) : p := h ⟨k⟩
theorem Zz (k : q) (h : Ap q → p := by intro z; refine F6 ?_; refine B9 ?_; refine Av results85 Bk.nil ?_; refine iX ?_; exact z.1) : p := h ⟨k⟩
theorem H4 (k : q) (h : Ap q → p := by intro z; refine eZ ?_; refine Eh (Bc (l' := [_]) sizeOf106) (k := ?_); exact z.1) : p := h ⟨k⟩
theorem vQ (k : q) (h : Ap q → p := by intro z; refine Ad nI (k := ?_); refine Cg ?_; exact z.1) : p := h ⟨k⟩
theorem vR (k : q) (h : Ap q → p := by intro z; refine Ay (Bb isAgg164) (k := ?_); refine Z4 ?_; exact z.1) : p := h ⟨k⟩
theorem H5 (k : q) (h : Ap q → p := by intro z; refine Z7 ?_; refine Z49 ?_; refine Ix [] (List.Perm.refl _) results176 z1 ?_; refine Y2 ?_; exact z.1) : p := h ⟨k⟩
theorem fC (k : q) (h : Ap q → p := by intro z; refine Jm ?_; refine Z5 ?_; exact z.1) : p := h ⟨k⟩
theorem mJ (k : q) (h : Ap q → p := by intro z; refine Ad aW (k := ?_); refine Mo ?_; exact z.1) : p := h ⟨k⟩
theorem rR (k : q) (h : Ap q → p := by intro z; refine vG ?_; refine Ex (qc (qa q0)) ?_; exact z.1) : p := h ⟨k⟩
theorem H6 (k : q) (h : Ap q → p := by intro z; refine vY ?_; refine vG ?_; exact z.1) : p := h ⟨k⟩
theorem H7 (k : q) (h : Ap q → p := by intro z; refine Z2 ?_; refine mS ?_; exact z.1) : p := h ⟨k⟩
theorem AL9 (k : q) (h : Ap q → p := by intro z; refine Bj (Wi Vk) (k := ?_); refine Bj (Cr isAgg3 0 0 (Ch.off cF at_1 l_c Zm) (gD Da)) (k := ?_); exact z.1) : p := h ⟨k⟩
theorem AM0 (k : q) (h : Ap q → p := by intro z; refine Ff _ _ (vp (List.Perm.refl _) (nA nE)) mixed 9 [(true, 0), (true, 1), (true, 2), (true, 3), (true, 4), (true, 5), (true, 6), (true, 7), (false, 8)] z6 ?_; refine Mp ?_; exact z.1) : p := h ⟨k⟩
theorem H8 (k : q) (h : Ap q → p := by intro z; refine Ad (Bb isAgg4) (k := ?_); refine Cg ?_; exact z.1) : p := h ⟨k⟩
theorem Y8 (k : q) (h : Ap q → p := by intro z; refine Ui (V := []) mixed 16 z6 ?_; refine Ci 0 rfl z6 Fp (k := ?_); exact z.1) : p := h ⟨k⟩
theorem H9 (k : q) (h : Ap q → p := by intro z; refine Uc ?_; refine Av results172 z1 ?_; exact z.1) : p := h ⟨k⟩
theorem I0 (k : q) (h : Ap q → p := by intro z; refine Hk ?_; refine Sq ?_; exact z.1) : p := h ⟨k⟩
theorem mK (k : q) (h : Ap q → p := by intro z; refine Ad Gw (k := ?_); refine Z5 ?_; exact z.1) : p := h ⟨k⟩
theorem aA (k : q) (h : Ap q → p := by intro z; refine Qd ?_; refine G8 ?_; exact z.1) : p := h ⟨k⟩
theorem mL (k : q) (h : Ap q → p := by intro z; refine Ad Og (k := ?_); refine Z0 ?_; exact z.1) : p := h ⟨k⟩
theorem I1 (k : q) (h : Ap q → p := by intro z; refine Hk ?_; refine Wg ?_; exact z.1) : p := h ⟨k⟩
theorem I2 (k : q) (h : Ap q → p := by intro z; refine Av results105 z1 ?_; refine lX ?_; exact z.1) : p := h ⟨k⟩
theorem Y9 (k : q) (h : Ap q → p := by intro z; refine Ci 4 rfl z6 Fp (k := ?_); refine Ci 5 rfl z6 Mw (k := ?_); exact z.1) : p := h ⟨k⟩
theorem Z9 (k : q) (h : Ap q → p := by intro z; refine Eh (Bc (l' := [_, _, _, _, _, _, _, _, _]) sizeOf104) (k := ?_); refine Ef ?_; exact z.1) : p := h ⟨k⟩
theorem I3 (k : q) (h : Ap q → p := by intro z; refine Ry ?_; refine Av results105 z1 ?_; exact z.1) : p := h ⟨k⟩
theorem I4 (k : q) (h : Ap q → p := by intro z; refine Av results155 z1 ?_; refine Ry ?_; exact z.1) : p := h ⟨k⟩
theorem I5 (k : q) (h : Ap q → p := by intro z; refine fC ?_; refine Av results38 z1 ?_; exact z.1) : p := h ⟨k⟩
theorem AM1 (k : q) (h : Ap q → p := by intro z; refine Ay (Al Vt) (k := ?_); refine Yk (V' := ((r6, _) :: [])) (Bc (l' := [_, _, _, _, _, _, _, _, _, _, _, _, _, _, _, _, _, _, _, _, _, _, _]) sizeOf23) (k := ?_); exact z.1) : p := h ⟨k⟩
theorem AA0 (k : q) (h : Ap q → p := by intro z; refine Ay (Al Rp) (k := ?_); refine Ay (Bq isAgg31 sizeOf31) (k := ?_); exact z.1) : p := h ⟨k⟩
theorem I6 (k : q) (h : Ap q → p := by intro z; refine An Mw (k := ?_); refine An (Al bL) (k := ?_); exact z.1) : p := h ⟨k⟩
theorem I7 (k : q) (h : Ap q → p := by intro z; refine Av results216 z1 ?_; refine Z5 ?_; exact z.1) : p := h ⟨k⟩
theorem AM2 (k : q) (h : Ap q → p := by intro z; refine Ay (Al Lj) (k := ?_); refine Yk (V' := ((r6, _) :: [])) (Bc (l' := [_, _, _, _, _, _, _, _, _, _, _, _, _, _, _, _, _, _, _, _, _, _, _]) sizeOf3) (k := ?_); exact z.1) : p := h ⟨k⟩
theorem vS (k : q) (h : Ap q → p := by intro z; refine uZ ?_; refine Bj (Al Vl) (k := ?_); exact z.1) : p := h ⟨k⟩
theorem AA1 (k : q) (h : Ap q → p := by intro z; refine Ew ?_; refine Ut (args := [_]) (Aa call176) func176 ntmps176 ?_; exact z.1) : p := h ⟨k⟩
theorem AA2 (k : q) (h : Ap q → p := by intro z; refine Ay (Al Li) (k := ?_); refine Ay A7 (k := ?_); exact z.1) : p := h ⟨k⟩
theorem AA3 (k : q) (h : Ap q → p := by intro z; refine Bh (args := [_, _]) (Aa call145) func145 ntmps145 ?_; refine Z2 ?_; exact z.1) : p := h ⟨k⟩
theorem cQ (k : q) (h : Ap q → p := by intro z; refine Qd ?_; refine Ez ?_; exact z.1) : p := h ⟨k⟩
theorem cR (k : q) (h : Ap q → p := by intro z; refine Dn ?_; refine Mo ?_; refine C9 ?_; exact z.1) : p := h ⟨k⟩
theorem I8 (k : q) (h : Ap q → p := by intro z; refine Av results44 z1 ?_; refine Z0 ?_; exact z.1) : p := h ⟨k⟩
theorem cS (k : q) (h : Ap q → p := by intro z; refine Hk ?_; refine Bh (args := [_, _]) (Aa call115) func115 ntmps115 ?_; refine AL8 ?_; exact z.1) : p := h ⟨k⟩
theorem cT (k : q) (h : Ap q → p := by intro z; refine kI (V' := ((r162, _) :: [])) rfl (Bc (l' := [_, _]) sizeOf136) (k := ?_); refine Ci 9 rfl z6 Ir (k := ?_); refine AJ5 ?_; exact z.1) : p := h ⟨k⟩
theorem AM3 (k : q) (h : Ap q → p := by intro z; refine Co (args := [(Value.iface 400 (.pointer (some ea11))), (Value.iface 400 (.pointer (some ea11)))]) (Aa call81) (fun w1 hw1 => Hl w1) (k := ?_); refine Z1 ?_; exact z.1) : p := h ⟨k⟩
theorem I9 (k : q) (h : Ap q → p := by intro z; refine C4 ?_; refine Ad (Dg runUnderlying29) (k := ?_); exact z.1) : p := h ⟨k⟩
theorem fD (k : q) (h : Ap q → p := by intro z; refine Ef ?_; refine iK ?_; exact z.1) : p := h ⟨k⟩
theorem mM (k : q) (h : Ap q → p := by intro z; refine Te ?_; refine Ag 4 rfl ?_; exact z.1) : p := h ⟨k⟩
theorem J0 (k : q) (h : Ap q → p := by intro z; refine Wh ?_; refine Ad (Al kV) (k := ?_); exact z.1) : p := h ⟨k⟩
theorem J1 (k : q) (h : Ap q → p := by intro z; refine uT ?_; refine An (aL runUnderlying4) (k := ?_); exact z.1) : p := h ⟨k⟩
theorem J2 (k : q) (h : Ap q → p := by intro z; refine Wh ?_; refine Ad (Al yW) (k := ?_); exact z.1) : p := h ⟨k⟩
theorem J3 (k : q) (h : Ap q → p := by intro z; refine Ad (Dg runUnderlying48) (k := ?_); refine Lt ?_; exact z.1) : p := h ⟨k⟩
theorem J4 (k : q) (h : Ap q → p := by intro z; refine Mq ?_; refine fK ?_; exact z.1) : p := h ⟨k⟩
theorem vT (k : q) (h : Ap q → p := by intro z; refine Zr ?_; refine Ad lL (k := ?_); exact z.1) : p := h ⟨k⟩
theorem AA4 (k : q) (h : Ap q → p := by intro z; refine Cc _ (sd (sk (sa (sk (sk (sk sz)))))) ?_; refine Cx results145 Bk.nil ?_; exact z.1) : p := h ⟨k⟩
theorem J5 (k : q) (h : Ap q → p := by intro z; refine Mq ?_; refine fJ ?_; exact z.1) : p := h ⟨k⟩
theorem rS (k : q) (h : Ap q → p := by intro z; refine Ay (Ta (l.take at_1).length at_1 runUnderlying32 (fun w => ⟨_, sizeOf50 w⟩) (hi := z8) (hi2 := z8)) (k := ?_); refine Ay S7 (k := ?_); refine Fi ?_; exact z.1) : p := h ⟨k⟩
theorem AA5 (k : q) (h : Ap q → p := by intro z; refine Xx ?_; refine Bh (args := [_]) (Aa call90) func90 ntmps90 ?_; exact z.1) : p := h ⟨k⟩
theorem cU (k : q) (h : Ap q → p := by intro z; refine Ry ?_; refine AJ2 ?_; refine eV ?_; exact z.1) : p := h ⟨k⟩
theorem cV (k : q) (h : Ap q → p := by intro z; refine Ep ?_; refine uJ ?_; refine Lr ?_; refine AJ2 ?_; exact z.1) : p := h ⟨k⟩
theorem jB (k : q) (h : Ap q → p := by intro z; refine G4 ?_; refine Y4 ?_; refine Qp ?_; exact z.1) : p := h ⟨k⟩
theorem AA6 (k : q) (h : Ap q → p := by intro z; refine jB ?_; refine Bh (args := [_]) (Aa call82) func82 ntmps82 ?_; exact z.1) : p := h ⟨k⟩
theorem AM4 (k : q) (h : Ap q → p := by intro z; refine Ad (kE (cs := [_, _, _, _, _, _, _, _]) zeroValue166 AE3) (k := ?_); refine Eh (Bc (l' := [_, _, _, _, _, _, _, _]) sizeOf166) (k := ?_); exact z.1) : p := h ⟨k⟩
theorem AA7 (k : q) (h : Ap q → p := by intro z; refine Ci 13 rfl z6 Ir (k := ?_); refine jL ?_; exact z.1) : p := h ⟨k⟩
theorem mN (k : q) (h : Ap q → p := by intro z; refine Et ?_; refine Z49 ?_; exact z.1) : p := h ⟨k⟩
theorem vU (k : q) (h : Ap q → p := by intro z; refine Et ?_; refine Kc q0 ?_; exact z.1) : p := h ⟨k⟩
theorem rT (k : q) (h : Ap q → p := by intro z; refine Wg ?_; refine Mo ?_; exact z.1) : p := h ⟨k⟩
theorem cW (k : q) (h : Ap q → p := by intro z; refine Z2 ?_; refine Sm ?_; exact z.1) : p := h ⟨k⟩
theorem J6 (k : q) (h : Ap q → p := by intro z; refine Jl ?_; refine Gg (.inr rfl) results226 q0 ?_; exact z.1) : p := h ⟨k⟩
theorem fE (k : q) (h : Ap q → p := by intro z; refine G9 ?_; refine H5 ?_; exact z.1) : p := h ⟨k⟩
theorem fF (k : q) (h : Ap q → p := by intro z; refine Ay (Bb isAgg164) (k := ?_); refine Fi ?_; refine Ay Nt (k := ?_); refine Ay Mw (k := ?_); exact z.1) : p := h ⟨k⟩
theorem fG (k : q) (h : Ap q → p := by intro z; refine X7 ?_; refine lQ ?_; exact z.1) : p := h ⟨k⟩
theorem J7 (k : q) (h : Ap q → p := by intro z; refine Oz ?_; refine An (Bb isAgg274) (k := ?_); exact z.1) : p := h ⟨k⟩
theorem rU (k : q) (h : Ap q → p := by intro z; refine Ad Gw (k := ?_); refine Z1 ?_; exact z.1) : p := h ⟨k⟩
theorem rV (k : q) (h : Ap q → p := by intro z; refine Ad It (k := ?_); refine Z1 ?_; exact z.1) : p := h ⟨k⟩
theorem AA8 (k : q) (h : Ap q → p := by intro z; refine Ay (Dl (n := s.gens.length) runUnderlying24 sizeOf3 ((s.free.getD ((((s.free.length : Nat) : Int) - 1).toNat) default).toNat) (hos302.slj Au) (gD Da) Lp) (k := ?_); refine Ay (Cr isAgg3 ((s.free.getD ((((s.free.length : Nat) : Int) - 1).toNat) default).toNat) 0 (hos302.slj Au) (gD Da)) (k := ?_); refine Ay z87 (k := ?_); exact z.1) : p := h ⟨k⟩
theorem vV (k : q) (h : Ap q → p := by intro z; refine Ez ?_; refine El _ (sd (sk sz)) ?_; exact z.1) : p := h ⟨k⟩
theorem J8 (k : q) (h : Ap q → p := by intro z; refine Ye ?_; refine Ad (Bb isAgg274) (k := ?_); exact z.1) : p := h ⟨k⟩
theorem jC (k : q) (h : Ap q → p := by intro z; refine AJ3 ?_; refine Ef ?_; exact z.1) : p := h ⟨k⟩
theorem AM5 (k : q) (h : Ap q → p := by intro z; refine Dn ?_; refine Co (Aa call143) (fun w1 hw1 => oP w1 (n_ := 4096) (hG := hG.ext hw1.ext_out) (hE := hE.ext hw1.ext_out)) (k := ?_); exact z.1) : p := h ⟨k⟩
theorem AA9 (k : q) (h : Ap q → p := by intro z; refine Bj (Al Se) (k := ?_); refine Bj lN (k := ?_); exact z.1) : p := h ⟨k⟩
theorem AB0 (k : q) (h : Ap q → p := by intro z; refine Wa ?_; refine Ad (Dy runUnderlying260 sizeOf35 1) (k := ?_); exact z.1) : p := h ⟨k⟩
theorem AB1 (k : q) (h : Ap q → p := by intro z; refine Wa ?_; refine Ad (Dy runUnderlying260 sizeOf35 2) (k := ?_); exact z.1) : p := h ⟨k⟩
theorem cX (k : q) (h : Ap q → p := by intro z; refine Z7 ?_; refine Z49 ?_; exact z.1) : p := h ⟨k⟩
theorem fH (k : q) (h : Ap q → p := by intro z; refine Bh (args := [_]) (Aa call40) func40 ntmps40 ?_; refine Z55 ?_; refine lR ?_; refine rQ ?_; refine Tj ?_; refine Ay (Cf (cs := [_, _, _, _, _, _, _]) zeroValue26 zR) (k := ?_); refine lP ?_; refine Lh ?_; refine Z98 ?_; refine Y7 ?_; refine Ef ?_; refine Cx results40 Bk.nil ?_; exact z.1) : p := h ⟨k⟩
theorem fI (k : q) (h : Ap q → p := by intro z; refine Jk ?_; refine El _ (sk (sx (sk (sk (sk sz))))) ?_; refine Ff _ _ (vp ((qa (qa q0)).trans (qa (qa (qa q0)))) (nC (nC nE))) mixed 16 [(true, 0), (true, 1), (true, 2), (true, 3), (true, 4), (true, 5), (true, 6), (true, 7), (true, 8), (true, 9), (true, 10), (true, 11), (false, 12), (true, 13), (false, 14), (true, 15)] z6 ?_; refine Yb ?_; exact z.1) : p := h ⟨k⟩
theorem AB2 (k : q) (h : Ap q → p := by intro z; refine Ep ?_; refine An (Dg runUnderlying39) (k := ?_); exact z.1) : p := h ⟨k⟩
theorem Cg (k : q) (h : Ap q → p := by intro z; refine Ad Fp (k := ?_); exact z.1) : p := h ⟨k⟩
theorem jD (k : q) (h : Ap q → p := by intro z; refine Ad (Bq isAgg31 sizeOf31) (k := ?_); exact z.1) : p := h ⟨k⟩
theorem Fi (k : q) (h : Ap q → p := by intro z; refine Ay Fp (k := ?_); exact z.1) : p := h ⟨k⟩
theorem Gv (k : q) (h : Ap q → p := by intro z; refine AB8 ?_; exact z.1) : p := h ⟨k⟩
theorem Hr (k : q) (h : Ap q → p := by intro z; refine Ad Ir (k := ?_); exact z.1) : p := h ⟨k⟩
theorem Ep (k : q) (h : Ap q → p := by intro z; refine An Fp (k := ?_); exact z.1) : p := h ⟨k⟩
theorem J9 (k : q) (h : Ap q → p := by intro z; refine An z87 (k := ?_); exact z.1) : p := h ⟨k⟩
theorem Dn (k : q) (h : Ap q → p := by intro z; refine T3 ?_; exact z.1) : p := h ⟨k⟩
theorem Wf (k : q) (h : Ap q → p := by intro z; refine Ad AC4 (k := ?_); exact z.1) : p := h ⟨k⟩
theorem Ef (k : q) (h : Ap q → p := by intro z; refine AC0 ?_; exact z.1) : p := h ⟨k⟩
theorem AM6 (k : q) (h : Ap q → p := by intro z; refine U1 rfl (Aa call124) (fun w1 hw1 => bJ w1 (s := s.used) (h_s := (Ch.of_base h_s_used) w1 hw1) (n_s := Nm)) (k := ?_); exact z.1) : p := h ⟨k⟩
theorem AB3 (k : q) (h : Ap q → p := by intro z; refine U1 rfl (Aa call123) (fun w1 hw1 => Tu w1 (s := s.free) (h_s := (Ch.of_base h_s_free) w1 hw1) (n_s := Nm)) (k := ?_); exact z.1) : p := h ⟨k⟩
theorem Sq (k : q) (h : Ap q → p := by intro z; refine Ad Xf (k := ?_); exact z.1) : p := h ⟨k⟩
theorem Ez (k : q) (h : Ap q → p := by intro z; refine Bw ?_; exact z.1) : p := h ⟨k⟩
theorem Pd (k : q) (h : Ap q → p := by intro z; refine Bj Fp (k := ?_); exact z.1) : p := h ⟨k⟩
theorem jE (k : q) (h : Ap q → p := by intro z; refine Ad lN (k := ?_); exact z.1) : p := h ⟨k⟩
theorem K0 (k : q) (h : Ap q → p := by intro z; refine Eh (Bc (l' := [_, _, _]) sizeOf24) (k := ?_); exact z.1) : p := h ⟨k⟩
theorem mO (k : q) (h : Ap q → p := by intro z; refine Eh (Bc (l' := [_, _, _]) sizeOf31) (k := ?_); exact z.1) : p := h ⟨k⟩
theorem AB4 (k : q) (h : Ap q → p := by intro z; refine Ci 4 rfl z6 z67 (k := ?_); exact z.1) : p := h ⟨k⟩
theorem aB (k : q) (h : Ap q → p := by intro z; refine Ad nH (k := ?_); exact z.1) : p := h ⟨k⟩
theorem Wg (k : q) (h : Ap q → p := by intro z; refine Ad dM (k := ?_); exact z.1) : p := h ⟨k⟩
theorem AB5 (k : q) (h : Ap q → p := by intro z; refine Cc _ (List.Sublist.cons_cons _ (List.Sublist.cons_cons _ Mt)) ?_; exact z.1) : p := h ⟨k⟩
theorem Nn (k : q) (h : Ap q → p := by intro z; refine Ad (Bb isAgg9) (k := ?_); exact z.1) : p := h ⟨k⟩
theorem fJ (k : q) (h : Ap q → p := by intro z; refine Ad (fX runUnderlying9) (k := ?_); exact z.1) : p := h ⟨k⟩
theorem Wh (k : q) (h : Ap q → p := by intro z; refine Ad Mw (k := ?_); exact z.1) : p := h ⟨k⟩
theorem vW (k : q) (h : Ap q → p := by intro z; refine Ay (Ek (m := 4) runUnderlying166 sizeOf164) (k := ?_); exact z.1) : p := h ⟨k⟩
theorem Ud (k : q) (h : Ap q → p := by intro z; refine Ay Ir (k := ?_); exact z.1) : p := h ⟨k⟩
theorem AM7 (k : q) (h : Ap q → p := by intro z; refine wG rfl (args := [(vs l_a l.length l_c), (vt ([] : Ai))]) (Aa call48) (fun w1 hw1 => Zc w1 (h_xs := (Ch.of_base h_l) w1 hw1) (xs := l) (sep := ([] : Ai)) (hc := by first | omega | simp) (hn := Qg) (hl := Nat.le_trans (show (Lib.join l ([] : Ai)).length ≤ 100000 by first | omega | (rw [Mj, Gi]; omega)) (by decide))) (k := ?_); exact z.1) : p := h ⟨k⟩
theorem AM8 (k : q) (h : Ap q → p := by intro z; refine wG rfl (Aa call47) (fun w1 hw1 => gP w1 (s := ((Md x_2) ++ (Lib.join l ([] : Ai)))) (n_s := by (simp only [List.length_append, Cq]; omega)) (hG := hG.ext hw1.ext_out)) (k := ?_); exact z.1) : p := h ⟨k⟩
theorem AM9 (k : q) (h : Ap q → p := by intro z; refine wG rfl (args := [(vs (some ⟨r169, 0, none⟩) 1 1), (vt ([] : Ai))]) (Aa call48) (fun w1 hw1 => Zc w1 (h_xs := (Ch.lit (xs := ([(Kz ((Md x_2) ++ (Lib.join l ([] : Ai))))] : List Ai)) Km) w1 hw1) (xs := ([(Kz ((Md x_2) ++ (Lib.join l ([] : Ai))))] : List Ai)) (sep := ([] : Ai)) (hc := by first | omega | simp) (hn := Qg) (hl := Nat.le_trans (show (Lib.join ([(Kz ((Md x_2) ++ (Lib.join l ([] : Ai))))] : List Ai) ([] : Ai)).length ≤ 100000 by first | omega | (rw [Mj, Gi]; omega)) (by decide))) (k := ?_); exact z.1) : p := h ⟨k⟩
theorem AN0 (k : q) (h : Ap q → p := by intro z; refine Ci 4 rfl z6 (aV (s := (Md x_10)) (s' := (Lib.join ([(Kz ((Md x_2) ++ (Lib.join l ([] : Ai))))] : List Ai) ([] : Ai))) (h := by (simp only [Cq]; omega))) (k := ?_); exact z.1) : p := h ⟨k⟩
theorem AN1 (k : q) (h : Ap q → p := by intro z; refine wG rfl (Aa call47) (fun w1 hw1 => gP w1 (s := ((Md x_10) ++ (Lib.join ([(Kz ((Md x_2) ++ (Lib.join l ([] : Ai))))] : List Ai) ([] : Ai)))) (n_s := by (simp only [List.length_append, Cq]; omega)) (hG := hG.ext hw1.ext_out)) (k := ?_); exact z.1) : p := h ⟨k⟩
theorem fK (k : q) (h : Ap q → p := by intro z; refine Ad (Dg runUnderlying24) (k := ?_); exact z.1) : p := h ⟨k⟩
theorem Hk (k : q) (h : Ap q → p := by intro z; refine Ad (Bb isAgg3) (k := ?_); exact z.1) : p := h ⟨k⟩
theorem mP (k : q) (h : Ap q → p := by intro z; refine Ad (Dp isAgg93 hgl7) (k := ?_); exact z.1) : p := h ⟨k⟩
theorem rW (k : q) (h : Ap q → p := by intro z; refine Ad (Dp isAgg93 hgl8) (k := ?_); exact z.1) : p := h ⟨k⟩
theorem vX (k : q) (h : Ap q → p := by intro z; refine Av results43 z1 ?_; exact z.1) : p := h ⟨k⟩
theorem jF (k : q) (h : Ap q → p := by intro z; refine Ad (Dp isAgg93 hgl3) (k := ?_); exact z.1) : p := h ⟨k⟩
theorem rX (k : q) (h : Ap q → p := by intro z; refine Ad (Dp isAgg93 hgl5) (k := ?_); exact z.1) : p := h ⟨k⟩
theorem jG (k : q) (h : Ap q → p := by intro z; refine Ad (Dp isAgg93 hgl6) (k := ?_); exact z.1) : p := h ⟨k⟩
theorem Qv (k : q) (h : Ap q → p := by intro z; refine An (Bb isAgg3) (k := ?_); exact z.1) : p := h ⟨k⟩
theorem Tj (k : q) (h : Ap q → p := by intro z; refine Ay (Bb isAgg3) (k := ?_); exact z.1) : p := h ⟨k⟩
theorem jH (k : q) (h : Ap q → p := by intro z; refine Bj (Bb isAgg3) (k := ?_); exact z.1) : p := h ⟨k⟩
theorem fL (k : q) (h : Ap q → p := by intro z; refine Sr ((Mw).k) (k := ?_); exact z.1) : p := h ⟨k⟩
theorem mQ (k : q) (h : Ap q → p := by intro z; refine Ad (Dp isAgg93 hgl2) (k := ?_); exact z.1) : p := h ⟨k⟩
theorem K1 (k : q) (h : Ap q → p := by intro z; refine Ad (Cf (cs := [_, _]) zeroValue41 AP3) (k := ?_); exact z.1) : p := h ⟨k⟩
theorem rY (k : q) (h : Ap q → p := by intro z; refine Eh (Bc (l' := [_, _]) sizeOf41) (k := ?_); exact z.1) : p := h ⟨k⟩
theorem mS (k : q) (h : Ap q → p := by intro z; refine Ad (Bq isAgg41 sizeOf41) (k := ?_); exact z.1) : p := h ⟨k⟩
theorem AN2 (k : q) (h : Ap q → p := by intro z; refine Cc _ (List.Sublist.append Xw (List.Sublist.cons_cons _ (List.Sublist.cons_cons _ (List.Sublist.cons_cons _ (List.Sublist.cons_cons _ (List.Sublist.cons_cons _ (List.Sublist.cons_cons _ (List.Sublist.cons_cons _ R8)))))))) ?_; exact z.1) : p := h ⟨k⟩
theorem rZ (k : q) (h : Ap q → p := by intro z; refine Eh (Bc (l' := [_, _, _, _]) sizeOf112) (k := ?_); exact z.1) : p := h ⟨k⟩
theorem AN3 (k : q) (h : Ap q → p := by intro z; refine Cc _ (List.Sublist.append Xw (List.Sublist.cons_cons _ (List.Sublist.cons_cons _ (List.Sublist.cons_cons _ (List.Sublist.cons_cons _ (List.Sublist.cons_cons _ Mt)))))) ?_; exact z.1) : p := h ⟨k⟩
theorem mT (k : q) (h : Ap q → p := by intro z; refine Ad (Al Ml) (k := ?_); exact z.1) : p := h ⟨k⟩
theorem jI (k : q) (h : Ap q → p := by intro z; refine An (Al Ml) (k := ?_); exact z.1) : p := h ⟨k⟩
theorem sA (k : q) (h : Ap q → p := by intro z; refine Ad (Dg runUnderlying32) (k := ?_); exact z.1) : p := h ⟨k⟩
theorem vY (k : q) (h : Ap q → p := by intro z; refine Eh (Bc (l' := [_]) sizeOf3) (k := ?_); exact z.1) : p := h ⟨k⟩
theorem AB6 (k : q) (h : Ap q → p := by intro z; refine Ad (Ht isAgg50 sizeOf50 x_1 (Hh.of_base Ji h_r_l).sl (Yy h_r_l.1 Da)) (k := ?_); exact z.1) : p := h ⟨k⟩
theorem jJ (k : q) (h : Ap q → p := by intro z; refine Eh S3 (k := ?_); exact z.1) : p := h ⟨k⟩
theorem vZ (k : q) (h : Ap q → p := by intro z; refine Ad (Bq isAgg34 sizeOf34) (k := ?_); exact z.1) : p := h ⟨k⟩
theorem mU (k : q) (h : Ap q → p := by intro z; refine Eh (Bc (l' := [_, _, _, _, _]) sizeOf34) (k := ?_); exact z.1) : p := h ⟨k⟩
theorem jK (k : q) (h : Ap q → p := by intro z; refine Ad (Cf (cs := [_, _]) zeroValue146 AG1) (k := ?_); exact z.1) : p := h ⟨k⟩
theorem AN4 (k : q) (h : Ap q → p := by intro z; refine sK rfl (Js (r := (((s.getD 1 default).toNat : Nat) : Int)) (Gx (by first | omega | exact Nd _ _)) runUnderlying5 runUnderlying3) (k := ?_); exact z.1) : p := h ⟨k⟩
theorem jL (k : q) (h : Ap q → p := by intro z; refine AC6 z6 _ ?_; exact z.1) : p := h ⟨k⟩
theorem K2 (k : q) (h : Ap q → p := by intro z; refine Ad (Cf (cs := [_, _]) zeroValue136 AG2) (k := ?_); exact z.1) : p := h ⟨k⟩
theorem mV (k : q) (h : Ap q → p := by intro z; refine Eh (Bc (l' := [_, _, _, _, _, _, _]) sizeOf26) (k := ?_); exact z.1) : p := h ⟨k⟩
theorem aC (k : q) (h : Ap q → p := by intro z; refine Ad Fx (k := ?_); exact z.1) : p := h ⟨k⟩
theorem jM (k : q) (h : Ap q → p := by intro z; refine Ad (Cf (cs := [_, _, _, _, _, _]) zeroValue43 AP8) (k := ?_); exact z.1) : p := h ⟨k⟩
theorem fM (k : q) (h : Ap q → p := by intro z; refine Ad V0 (k := ?_); exact z.1) : p := h ⟨k⟩
theorem AB7 (k : q) (h : Ap q → p := by intro z; refine Kl _ _ results39 z1 (vp (List.Perm.refl _) nE) (List.Sublist.cons _ Xw) ?_; exact z.1) : p := h ⟨k⟩
theorem K3 (k : q) (h : Ap q → p := by intro z; refine sD rfl (Aa call15) (fun w1 hw1 => zJ w1 (r := r) (name := s.name) (h_r_Sg := (Ch.of_base h_r_Sg) w1 hw1) (n_r_Sg := dI) (h_r_Su := (Ch.of_base h_r_Su) w1 hw1) (n_r_Su := dI) (h_r_Sf := (Ch.of_base h_r_Sf) w1 hw1) (n_r_Sf := dI) (h_r_l := (Hh.of_base Ji h_r_l).2 w1 hw1) (n_r_l := dI) (k_r_l := k_r_l) (hsm := by exact hsm)) (k := ?_); exact z.1) : p := h ⟨k⟩
theorem AN5 (k : q) (h : Ap q → p := by intro z; refine sD rfl (Aa call21) (fun w1 hw1 => Xr w1 (s := s) (stream := f.stream) (h_s_opn := (hox2.slj Au) w1 hw1) (n_s_opn := dI) (hG := hG.ext hw1.ext_out) (hE := hE.ext hw1.ext_out)) (k := ?_); exact z.1) : p := h ⟨k⟩
theorem wA (k : q) (h : Ap q → p := by intro z; refine Av results139 z1 ?_; exact z.1) : p := h ⟨k⟩
theorem AN6 (k : q) (h : Ap q → p := by intro z; refine Ad (Dl (n := s.gens.length) runUnderlying24 sizeOf3 ((s.free.getD ((((s.free.length : Nat) : Int) - 1).toNat) default).toNat) (hox302.slj Au) (gD Da) Lp) (k := ?_); exact z.1) : p := h ⟨k⟩
end
end Go.Proofs.YtdnjanhdnibkfaaGreatDoor.Jd
