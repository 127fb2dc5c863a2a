/- Blocks of steps that come often. No condition. -/
import Derived.CallsIn
import Derived.RangeFuncLeaves
import Derived.RangeFuncRecord
import Derived.Below
import Derived.OrdersHeld
import Derived.KernelRfl
namespace Go.Proofs.YtbooaoddioibeaaGreatDoor.Jd
set_option linter.unusedVariables false
set_option linter.unusedSimpArgs false
section
variable {p : Prop}
theorem z6 (h : p := by omega) : p := h
theorem z7 (h : p := by first | exact List.Sublist.refl _ | exact List.sublist_append_left _ _) : p := h
theorem z8 (h : p := by repeat (first | exact hp | exact List.mem_cons_self | exact List.mem_append_left _ hp | apply List.mem_append_right | apply List.mem_cons_of_mem)) : p := h
theorem sE (h : p := by exact Wx (l := [_]) runUnderlying38 sizeOf5 zeroValue5) : p := h
theorem Qd (h : p := by first | exact ix) : p := h
theorem K4 (h : p := by exact Wx (l := [_, _, _, _]) runUnderlying38 sizeOf5 zeroValue5) : p := h
theorem Rm (h : p := by exact Mt.tmp rfl Mt.nil) : p := h
theorem z14 (h : p := by repeat (first | exact List.mem_cons_self | apply List.mem_cons_of_mem | apply List.mem_append_right)) : p := h
theorem fH (h : p := by kernel_rfl) : p := h
theorem K5 (h : p := by first | omega | rfl | (simp; done)) : p := h
theorem z17 (h : p := by exact List.Sublist.cons_cons _ (List.Sublist.cons_cons _ (List.Sublist.cons_cons _ (List.Sublist.cons_cons _ (List.Sublist.cons_cons _ (List.Sublist.cons_cons _ (List.Sublist.cons_cons _ (List.Sublist.cons_cons _ (List.nil_sublist _))))))))) : p := h
theorem Jy (h : p := by simp) : p := h
theorem O0 (h : p := by rw [List.append_nil]; exact hnd) : p := h
theorem z21 (h : p := by simp only [Option.some.injEq] at hv; subst hv; simp [V.lt]) : p := h
theorem z22 (h : p := by exact Ig (l := [_, _, _, _, _, _, _, _]) zeroValue404) : p := h
end
structure Fc (q : Prop) : Prop where
  out : q
section
variable {p q : Prop}
theorem Z0 (k : q) (h : Fc q → p := by intro z; refine Am (Dt) (k := ?_); refine Ct ?_; exact z.1) : p := h ⟨k⟩
theorem Z1 (k : q) (h : Fc q → p := by intro z; refine El ?_; refine Za ?_; exact z.1) : p := h ⟨k⟩
theorem Z2 (k : q) (h : Fc q → p := by intro z; refine Jz ?_; refine Kk ?_; exact z.1) : p := h ⟨k⟩
theorem Z4 (k : q) (h : Fc q → p := by intro z; refine fJ ?_; refine Av (Mr) (k := ?_); exact z.1) : p := h ⟨k⟩
theorem Z5 (k : q) (h : Fc q → p := by intro z; refine Kk ?_; refine El ?_; exact z.1) : p := h ⟨k⟩
theorem Z6 (k : q) (h : Fc q → p := by intro z; refine Ka mixed 9 [(true, 0), (true, 1), (true, 2), (true, 3), (true, 4), (true, 5), (true, 6), (true, 7), (true, 8)] fH ?_; refine fJ ?_; exact z.1) : p := h ⟨k⟩
theorem Z8 (k : q) (h : Fc q → p := by intro z; refine Ct ?_; refine Jz ?_; exact z.1) : p := h ⟨k⟩
theorem Z9 (k : q) (h : Fc q → p := by intro z; refine Z1 ?_; refine Za ?_; exact z.1) : p := h ⟨k⟩
theorem pO (k : q) (h : Fc q → p := by intro z; refine Z0 ?_; refine Jz ?_; exact z.1) : p := h ⟨k⟩
theorem fI (k : q) (h : Fc q → p := by intro z; refine Am (Xf) (k := ?_); refine Am (Xg rfl runUnderlying402 runUnderlying5) (k := ?_); refine Za ?_; exact z.1) : p := h ⟨k⟩
theorem yV (k : q) (h : Fc q → p := by intro z; refine Kn ?_; refine Jz ?_; exact z.1) : p := h ⟨k⟩
theorem yW (k : q) (h : Fc q → p := by intro z; refine Lk ?_; refine Qe (Dm (l' := [_, _, _, _, _, _, _, _]) sizeOf402) (k := ?_); exact z.1) : p := h ⟨k⟩
theorem K6 (k : q) (h : Fc q → p := by intro z; refine Am (Xf) (k := ?_); refine Am (Xg rfl runUnderlying3 runUnderlying5) (k := ?_); exact z.1) : p := h ⟨k⟩
theorem Z16 (k : q) (h : Fc q → p := by intro z; refine Nf ?_; refine Z2 ?_; exact z.1) : p := h ⟨k⟩
theorem Vp (k : q) (h : Fc q → p := by intro z; refine Kk ?_; refine Z1 ?_; exact z.1) : p := h ⟨k⟩
theorem O1 (k : q) (h : Fc q → p := by intro z; refine Z16 ?_; refine Ie ?_; exact z.1) : p := h ⟨k⟩
theorem Z19 (k : q) (h : Fc q → p := by intro z; refine Ka mixed 13 [(true, 0), (true, 1), (true, 2), (true, 3), (true, 4), (true, 5), (true, 6), (true, 7), (true, 8), (true, 9), (true, 10), (true, 11), (true, 12)] fH ?_; refine Z4 ?_; exact z.1) : p := h ⟨k⟩
theorem K7 (k : q) (h : Fc q → p := by intro z; refine fI ?_; refine Am (Xg rfl runUnderlying402 runUnderlying5) (k := ?_); exact z.1) : p := h ⟨k⟩
theorem yX (k : q) (h : Fc q → p := by intro z; refine bO rfl ?_; refine O1 ?_; exact z.1) : p := h ⟨k⟩
theorem bN (k : q) (h : Fc q → p := by intro z; refine Z0 ?_; refine Z2 ?_; exact z.1) : p := h ⟨k⟩
theorem yY (k : q) (h : Fc q → p := by intro z; refine Av (Bu isAgg402) (k := ?_); refine fJ ?_; exact z.1) : p := h ⟨k⟩
theorem K8 (k : q) (h : Fc q → p := by intro z; refine Am (Bu isAgg402) (k := ?_); refine Am (Dt) (k := ?_); exact z.1) : p := h ⟨k⟩
theorem Vq (k : q) (h : Fc q → p := by intro z; refine pO ?_; refine Vb ?_; exact z.1) : p := h ⟨k⟩
theorem Z26 (k : q) (h : Fc q → p := by intro z; refine yV ?_; refine El ?_; exact z.1) : p := h ⟨k⟩
theorem Z27 (k : q) (h : Fc q → p := by intro z; refine Am (Zx) (k := ?_); refine Za ?_; refine Ct ?_; exact z.1) : p := h ⟨k⟩
theorem yZ (k : q) (h : Fc q → p := by intro z; refine Av (Kc) (k := ?_); refine Av (Mr) (k := ?_); exact z.1) : p := h ⟨k⟩
theorem zD (k : q) (h : Fc q → p := by intro z; refine Z5 ?_; refine Am (sH) (k := ?_); refine Ct ?_; refine Z2 ?_; exact z.1) : p := h ⟨k⟩
theorem Z31 (k : q) (h : Fc q → p := by intro z; refine Av (Ea tQ) (k := ?_); refine Av (Bu isAgg38) (k := ?_); exact z.1) : p := h ⟨k⟩
theorem O2 (k : q) (h : Fc q → p := by intro z; refine Z26 ?_; refine Z27 ?_; exact z.1) : p := h ⟨k⟩
theorem Z34 (k : q) (h : Fc q → p := by intro z; refine O2 ?_; refine Xc ?_; exact z.1) : p := h ⟨k⟩
theorem Z35 (k : q) (h : Fc q → p := by intro z; refine Ns ((Mr).k) (k := ?_); refine Ns ((Ea Iw).k) (k := ?_); exact z.1) : p := h ⟨k⟩
theorem zF (k : q) (h : Fc q → p := by intro z; refine Ct ?_; refine Z2 ?_; exact z.1) : p := h ⟨k⟩
theorem yK (k : q) (h : Fc q → p := by intro z; refine Z9 ?_; refine Za ?_; exact z.1) : p := h ⟨k⟩
theorem yL (k : q) (h : Fc q → p := by intro z; refine Am (AD2) (k := ?_); refine Z8 ?_; exact z.1) : p := h ⟨k⟩
theorem Z39 (k : q) (h : Fc q → p := by intro z; refine Ns ((Bu isAgg9).k) (k := ?_); refine Ns ((sW runUnderlying9).k) (k := ?_); exact z.1) : p := h ⟨k⟩
theorem fE (k : q) (h : Fc q → p := by intro z; refine Z5 ?_; refine bN ?_; exact z.1) : p := h ⟨k⟩
theorem Z41 (k : q) (h : Fc q → p := by intro z; refine Za ?_; refine Za ?_; exact z.1) : p := h ⟨k⟩
theorem Z42 (k : q) (h : Fc q → p := by intro z; refine zD ?_; refine yX ?_; exact z.1) : p := h ⟨k⟩
theorem sF (k : q) (h : Fc q → p := by intro z; refine Vc ?_; refine fK ?_; refine Rp ?_; exact z.1) : p := h ⟨k⟩
theorem K9 (k : q) (h : Fc q → p := by intro z; refine Z1 ?_; refine Am (Vd) (k := ?_); exact z.1) : p := h ⟨k⟩
theorem mL (k : q) (h : Fc q → p := by intro z; refine Z34 ?_; refine Z42 ?_; exact z.1) : p := h ⟨k⟩
theorem Z46 (k : q) (h : Fc q → p := by intro z; refine Av (Dt) (k := ?_); refine Lk ?_; exact z.1) : p := h ⟨k⟩
theorem Z47 (k : q) (h : Fc q → p := by intro z; refine Av (Bu isAgg3) (k := ?_); refine fJ ?_; exact z.1) : p := h ⟨k⟩
theorem Z48 (k : q) (h : Fc q → p := by intro z; refine Av (Bu isAgg402) (k := ?_); refine Z4 ?_; exact z.1) : p := h ⟨k⟩
theorem Z49 (k : q) (h : Fc q → p := by intro z; refine Am (Ea Hh) (k := ?_); refine Qe (Dm (l' := [_, _, _]) sizeOf3) (k := ?_); exact z.1) : p := h ⟨k⟩
theorem Z50 (k : q) (h : Fc q → p := by intro z; refine Z8 ?_; refine Ie ?_; exact z.1) : p := h ⟨k⟩
theorem Z51 (k : q) (h : Fc q → p := by intro z; refine Am (Mr) (k := ?_); refine Am (Ea Iw) (k := ?_); exact z.1) : p := h ⟨k⟩
theorem yM (k : q) (h : Fc q → p := by intro z; refine zF ?_; refine El ?_; exact z.1) : p := h ⟨k⟩
theorem Z53 (k : q) (h : Fc q → p := by intro z; refine Kk ?_; refine Vp ?_; exact z.1) : p := h ⟨k⟩
theorem Z54 (k : q) (h : Fc q → p := by intro z; refine Za ?_; refine Z50 ?_; exact z.1) : p := h ⟨k⟩
theorem Z55 (k : q) (h : Fc q → p := by intro z; refine Am (Bu isAgg38) (k := ?_); refine Am (Ts runUnderlying38) (k := ?_); exact z.1) : p := h ⟨k⟩
theorem Z56 (k : q) (h : Fc q → p := by intro z; refine Z31 ?_; refine Av (Ts runUnderlying38) (k := ?_); exact z.1) : p := h ⟨k⟩
theorem Z57 (k : q) (h : Fc q → p := by intro z; refine Am (gF (cs := [_, _, _, _, _, _, _, _]) zeroValue404 Q1) (k := ?_); refine Qe (Dm (l' := [_, _, _, _, _, _, _, _]) sizeOf404) (k := ?_); exact z.1) : p := h ⟨k⟩
theorem L5 (k : q) (h : Fc q → p := by intro z; refine Xc ?_; refine Z53 ?_; exact z.1) : p := h ⟨k⟩
theorem Z59 (k : q) (h : Fc q → p := by intro z; refine fJ ?_; refine fJ ?_; exact z.1) : p := h ⟨k⟩
theorem Z60 (k : q) (h : Fc q → p := by intro z; refine Ns ((Bu isAgg69).k) (k := ?_); refine Z35 ?_; exact z.1) : p := h ⟨k⟩
theorem Z61 (k : q) (h : Fc q → p := by intro z; refine Vp ?_; refine Am (L9 (u := (Value.pointer (some ⟨a, 0, none⟩))) (v := (Value.pointer none)) (b := false) (fun w => by kernel_rfl)) (k := ?_); exact z.1) : p := h ⟨k⟩
theorem yN (k : q) (h : Fc q → p := by intro z; refine pO ?_; refine Z9 ?_; exact z.1) : p := h ⟨k⟩
theorem Za (k : q) (h : Fc q → p := by intro z; refine Am (kC) (k := ?_); exact z.1) : p := h ⟨k⟩
theorem fJ (k : q) (h : Fc q → p := by intro z; refine Av (kC) (k := ?_); exact z.1) : p := h ⟨k⟩
theorem O3 (k : q) (h : Fc q → p := by intro z; refine Am (sW runUnderlying9) (k := ?_); exact z.1) : p := h ⟨k⟩
theorem zG (k : q) (h : Fc q → p := by intro z; refine Am (Bu isAgg9) (k := ?_); exact z.1) : p := h ⟨k⟩
theorem Z67 (k : q) (h : Fc q → p := by intro z; refine Av (Cv (m := 4) runUnderlying404 sizeOf402) (k := ?_); exact z.1) : p := h ⟨k⟩
theorem Z68 (k : q) (h : Fc q → p := by intro z; refine Mv (Bc call100) (fun w1 hw1 => nK w1 (xs := xs) (cap := cap) (frm := frm) (n := n) ho hl hf hn h4 (fun p hp => by rcases List.mem_cons.1 hp with rfl | hp <;> exact hw1.own _ z8) hnd ) (k := ?_); exact z.1) : p := h ⟨k⟩
theorem Z69 (k : q) (h : Fc q → p := by intro z; refine Ot (Q := Mz _) (fun e a w hq => by obtain ⟨rfl, hq⟩ := hq; exact hq) ?_; exact z.1) : p := h ⟨k⟩
end
end Go.Proofs.YtbooaoddioibeaaGreatDoor.Jd
