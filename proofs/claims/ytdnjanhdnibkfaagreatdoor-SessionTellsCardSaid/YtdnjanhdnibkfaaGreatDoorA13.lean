/- Part of the proofs of this seat: walks and plain facts. No condition. -/
import Derived.Test.YtdnjanhdnibkfaaGreatDoorA0
import Derived.IntWalk
import Derived.Test.YtdnjanhdnibkfaaGreatDoorProg
import Derived.Test.YtdnjanhdnibkfaaGreatDoorA5
import Derived.Test.YtdnjanhdnibkfaaGreatDoorA1
import Derived.Test.YtdnjanhdnibkfaaGreatDoorA2
import Derived.Test.YtdnjanhdnibkfaaGreatDoorA4
import Derived.Test.YtdnjanhdnibkfaaGreatDoorA7
namespace Go.Proofs.YtdnjanhdnibkfaaGreatDoor.Jd
open Go.Proofs.Tryz
set_option linter.unusedVariables false
set_option linter.unusedSimpArgs false
section
variable {p q : Prop}
theorem mF (k : q) (h : Aw q → p := by intro z; refine Z72 ?_; refine Ck ?_; exact z.1) : p := h ⟨k⟩
theorem BL0 (k : q) (h : Aw q → p := by intro z; refine Af (Cz (n := s.opn.length) runUnderlying24 sizeOf3 i_20 z46 (gD z4) Kc) (k := ?_); refine Af (Ci isAgg3 i_20 0 z46 (gD z4)) (k := ?_); exact z.1) : p := h ⟨k⟩
theorem BL1 (k : q) (h : Aw q → p := by intro z; refine Af (Cz (n := s.opn.length) runUnderlying24 sizeOf3 i_14 z46 (gD z4) Kc) (k := ?_); refine Af (Ci isAgg3 i_14 0 z46 (gD z4)) (k := ?_); exact z.1) : p := h ⟨k⟩
theorem BL2 (k : q) (h : Aw q → p := by intro z; refine Af (Cz (n := s.opn.length) runUnderlying24 sizeOf3 i_8 z46 (gD z4) Kc) (k := ?_); refine Af (Ci isAgg3 i_8 0 z46 (gD z4)) (k := ?_); exact z.1) : p := h ⟨k⟩
theorem BL3 (k : q) (h : Aw q → p := by intro z; refine Af (Cz (n := s.opn.length) runUnderlying24 sizeOf3 i_2 z46 (gD z4) Kc) (k := ?_); refine Af (Ci isAgg3 i_2 0 z46 (gD z4)) (k := ?_); exact z.1) : p := h ⟨k⟩
theorem BL4 (k : q) (h : Aw q → p := by intro z; refine Af (Cz (n := l.length) runUnderlying24 sizeOf3 i_2 eH (gD z4) Kc) (k := ?_); refine Af (Ci isAgg3 i_2 0 eH (gD z4)) (k := ?_); exact z.1) : p := h ⟨k⟩
end
open Go.RowKit (Below)

section ops
variable {P : Program} {b0 : World} {Mk : List Nat} {N : Nat} {D : List Deferred} {L V : Av} {E : Fd} {ty : TypeId}


theorem AA6 {t t' : TypeId} {x y : Operand} {p q : Bool} (hU : ∀ w, (underlying t).run P w = .ok .bool w) (hx : ev E x = some (.bool p) := by rfl) (hy : ev E y = some (.bool q) := by rfl) :
    Db P N D b0 Mk L E (.binOp .neq t x y t') ty (.bool (!(p == q))) := fun a w ha _ => by
  have h := yL (P := P) (w := w) 9999 p q hU
  have h1 : (binOp .neq t (.bool p) (.bool q)).run P w = .ok (.bool (!(p == q))) w := by
    show (do pure (.bool (!(← Op.equal t (.bool p) (.bool q)))) : Sem Value).run P w = _
    simp only [Sem.run_bind, Op.equal, Op.maxDepth, h, Result.andThen_ok, Sem.run_pure]
  simp only [Fl, execOp, ha.eval hx, ha.eval hy, eqGuard, Sem.run_bind]
  simp [h1]

end ops

section fns
variable {P : Program} {f : FuncId} {fn : Func} {c : Code} {args : List Value} {N : Nat} {w : World} {R : Ending → World → Prop}

end fns
end Go.Proofs.YtdnjanhdnibkfaaGreatDoor.Jd

namespace Go.Proofs.YtdnjanhdnibkfaaGreatDoor.Jd
open Go.Proofs.Tryz
open Go.Proofs
open Go.RowKit (Below)
set_option maxRecDepth 100000
set_option maxHeartbeats 8000000
set_option linter.unusedVariables false
set_option linter.unusedSimpArgs false
def Pd (a : List Int) (b : List Int) : Nat → Nat → Except Bool Nat
  | 0, i_1 => .ok (i_1)
  | n_2 + 1, i_1 => (if ((i_1 : Nat) : Int) < ((a.length : Nat) : Int) then (if (a.getD i_1 default) ≠ (b.getD i_1 default) then .error false else (Pd a b n_2 (i_1 + 1))) else .ok (i_1))
def kT (a : List Int) (b : List Int) : Bool := (if ((a.length : Nat) : Int) ≠ ((b.length : Nat) : Int) then false else (Fe (Pd a b (a.length + 1) 0) (fun r => r) (fun i_1 => true)))
end Go.Proofs.YtdnjanhdnibkfaaGreatDoor.Jd

namespace Go.Proofs.YtdnjanhdnibkfaaGreatDoor.Jd
open Go.Proofs.Tryz
open Go.Proofs
open Go.RowKit (Below)
set_option maxRecDepth 100000
set_option maxHeartbeats 8000000
set_option linter.unusedVariables false
set_option linter.unusedSimpArgs false
def Oc (a : Int) (b : Int) : Session × Int := (if a < 0 then ((Session.mk 0 ([] : An) (Handle.mk 0 0) 0 0 ([])), 180) else (if 2147483647 < a then ((Session.mk 0 ([] : An) (Handle.mk 0 0) 0 0 ([])), 180) else (if b < 0 then ((Session.mk 0 ([] : An) (Handle.mk 0 0) 0 0 ([])), 180) else (if 2147483647 < b then ((Session.mk 0 ([] : An) (Handle.mk 0 0) 0 0 ([])), 180) else ((Session.mk 0 ([] : An) (Handle.mk 0 0) a b ([])), 0)))))
def Fk (s : Session) : Nat → Int → Nat → Except Bool (Int × Nat)
  | 0, last_1, i_2 => .ok (last_1, i_2)
  | n_3 + 1, last_1, i_2 => (if ((i_2 : Nat) : Int) < ((s.opn.length : Nat) : Int) then (if (s.opn.getD i_2 default) ≤ last_1 then .error false else (if 65535 < (s.opn.getD i_2 default) then .error false else (Fk s n_3 (s.opn.getD i_2 default) (i_2 + 1)))) else .ok (last_1, i_2))
def Mf (s : Session) : Nat → Int → Nat → Except Bool (Int × Nat)
  | 0, last_7, i_8 => .ok (last_7, i_8)
  | n_9 + 1, last_7, i_8 => (if ((i_8 : Nat) : Int) < ((s.opn.length : Nat) : Int) then (if (s.opn.getD i_8 default) ≤ last_7 then .error false else (if 65535 < (s.opn.getD i_8 default) then .error false else (Mf s n_9 (s.opn.getD i_8 default) (i_8 + 1)))) else .ok (last_7, i_8))
def Mg (s : Session) : Nat → Int → Nat → Except Bool (Int × Nat)
  | 0, last_13, i_14 => .ok (last_13, i_14)
  | n_15 + 1, last_13, i_14 => (if ((i_14 : Nat) : Int) < ((s.opn.length : Nat) : Int) then (if (s.opn.getD i_14 default) ≤ last_13 then .error false else (if 65535 < (s.opn.getD i_14 default) then .error false else (Mg s n_15 (s.opn.getD i_14 default) (i_14 + 1)))) else .ok (last_13, i_14))
def Mh (s : Session) : Nat → Int → Nat → Except Bool (Int × Nat)
  | 0, last_19, i_20 => .ok (last_19, i_20)
  | n_21 + 1, last_19, i_20 => (if ((i_20 : Nat) : Int) < ((s.opn.length : Nat) : Int) then (if (s.opn.getD i_20 default) ≤ last_19 then .error false else (if 65535 < (s.opn.getD i_20 default) then .error false else (Mh s n_21 (s.opn.getD i_20 default) (i_20 + 1)))) else .ok (last_19, i_20))
def Xb (s : Session) : Bool := (if s.phase < 0 then false else (if 3 < s.phase then false else (if s.a < 0 then false else (if 2147483647 < s.a then false else (if s.b < 0 then false else (if 2147483647 < s.b then false else (if s.phase = 1 then (if 64 < ((s.name.length : Nat) : Int) then false else (if (!(decide (s.name ≠ ([] : An)) == true)) = true then false else (if s.phase ≠ 2 then (if ¬ (s.handle.slot = 0 ∧ s.handle.gen = 0) then false else (if 0 < ((s.opn.length : Nat) : Int) then false else (Gu (Fk s (s.opn.length + 1) 0 0) (fun r => r) (fun last_1 i_2 => decide (((s.opn.length : Nat) : Int) ≤ 8))))) else (Gu (Mf s (s.opn.length + 1) 0 0) (fun r => r) (fun last_7 i_8 => decide (((s.opn.length : Nat) : Int) ≤ 8)))))) else (if 64 < ((s.name.length : Nat) : Int) then false else (if (!(decide (s.name ≠ ([] : An)) == decide (s.phase = 2))) = true then false else (if s.phase ≠ 2 then (if ¬ (s.handle.slot = 0 ∧ s.handle.gen = 0) then false else (if 0 < ((s.opn.length : Nat) : Int) then false else (Gu (Mg s (s.opn.length + 1) 0 0) (fun r => r) (fun last_13 i_14 => decide (((s.opn.length : Nat) : Int) ≤ 8))))) else (Gu (Mh s (s.opn.length + 1) 0 0) (fun r => r) (fun last_19 i_20 => decide (((s.opn.length : Nat) : Int) ≤ 8)))))))))))))
def Sc (s : Session) (stream : Int) : Nat → Nat → Except Bool Nat
  | 0, i_1 => .ok i_1
  | n_2 + 1, i_1 => (if ((i_1 : Nat) : Int) < ((s.opn.length : Nat) : Int) then (if (s.opn.getD i_1 default) = stream then .error true else (Sc s stream n_2 (i_1 + 1))) else .ok i_1)
def oG (s : Session) (stream : Int) : Bool := (Fe (Sc s stream (s.opn.length + 1) 0) (fun r => r) (fun i_1 => false))
def Gz (l : List Int) (stream : Int) : Nat → List Int → Nat → (List Int) × Nat
  | 0, out_1, i_2 => (out_1, i_2)
  | n_3 + 1, out_1, i_2 => (if ((i_2 : Nat) : Int) < ((l.length : Nat) : Int) then (if (l.getD i_2 default) ≠ stream then (Gz l stream n_3 (out_1 ++ ([(l.getD i_2 default)] : List Int)) (i_2 + 1)) else (Gz l stream n_3 out_1 (i_2 + 1))) else (out_1, i_2))
def Mi (l : List Int) (stream : Int) : List Int := (Iu (Gz l stream (l.length + 1) [] 0) (fun out_1 i_2 => out_1))
def Fy (s : Session) (stream : Int) : Session × Int := (if (!(Xb s)) = true then ((Session.mk 0 ([] : An) (Handle.mk 0 0) 0 0 ([])), 180) else (if (!(oG s stream)) = true then ((Session.mk 0 ([] : An) (Handle.mk 0 0) 0 0 ([])), 181) else ((Session.mk s.phase s.name s.handle s.a s.b (Mi s.opn stream)), 0)))
def Zu (a : Session) (b : Session) : Bool := (if a.phase = b.phase then (if a.name = b.name then (if a.handle.slot = b.handle.slot ∧ a.handle.gen = b.handle.gen then (if a.a = b.a then (if a.b = b.b then (kT a.opn b.opn) else false) else false) else false) else false) else false)
end Go.Proofs.YtdnjanhdnibkfaaGreatDoor.Jd

namespace Go.Proofs.YtdnjanhdnibkfaaGreatDoor.Jd
open Go.Proofs.Tryz
open Go.Proofs
open Go.RowKit (Below)
set_option maxRecDepth 100000
set_option maxHeartbeats 8000000
set_option linter.unusedVariables false
set_option linter.unusedSimpArgs false

theorem I5 (w : World) {a_a : Option Addr} {a_c : Nat} {b_a : Option Addr} {b_c : Nat} {a : List Int} {b : List Int} (h_a : Sl w eI 1 a_a a) (n_a : a.length ≤ 1000) (h_b : Sl w eI 1 b_a b) (n_b : b.length ≤ 1000) : Ha Tryz.prog 67 [(vs a_a a.length a_c), (vs b_a b.length b_c)] w (Value.bool (kT a b)) := by
 have hF := Is.refl (kT a b)
 refine enter func67 ntmps67 (h := ?_)
 refine Lj ?_
 refine Qb ?_
 refine Ck ?_
 refine Qb ?_
 refine cU ?_
 refine Bi rfl (fun hq1 => ?_) (fun hq1 => ?_)
 ·refine Cb ?_
  refine Lk ?_
  refine Aa results67 z0 (fun w1 hw1 => ?_)
  exact ⟨(rq (hF.pos hq1)), hw1.ext_out⟩
 refine Yq ?_
 refine iQ ?_
 refine Jj (σ1 := Nat) (σ2 := Nat) (fun n_2 i_1 => []) (fun n_2 i_1 => [(0, (vs a_a a.length a_c)), (1, (vs b_a b.length b_c)), (4, (Value.bool false)), (5, (vi ((i_1 : Nat) : Int)))]) (fun n_2 i_1 => a.length - i_1 < n_2 ∧ Is (Pd a b (a.length + 1) 0) (Pd a b n_2 i_1) ∧ i_1 ≤ a.length) (fun n_2 i_1 => n_2) (a.length + 1) 0 ?_ se (List.Perm.refl _) ?_
 ·exact ⟨Nat.lt_succ_self _, Is.refl _, z7⟩
 ·rintro (_ | n_2) i_1 ⟨hm4, hF3, hi5⟩
  ·omega
  refine Eu ?_
  refine Hp ?_
  refine Qb ?_
  refine Z9 ?_
  refine Bi rfl (fun hq2 => ?_) (fun hq2 => ?_)
  rotate_left
  ·refine Cu ?_
   refine Ia ?_
   refine Yp ?_
   refine Aa results67 z0 (fun w1 hw1 => ?_)
   exact ⟨(rq ((hF.neg hq1).ok1 (hF3.neg hq2))), hw1.ext_out⟩
  refine lL ?_
  refine Eu ?_
  refine AX2 ?_
  refine Li ?_
  refine Be (Cz (n := a.length) runUnderlying24 sizeOf3 i_1 (Cl.of_base h_a) (gD z4) Kc) (k := ?_)
  refine Be (Ci isAgg3 i_1 0 (Cl.of_base h_a) (gD z4)) (k := ?_)
  refine Li ?_
  refine Be (Cz (n := b.length) runUnderlying24 sizeOf3 i_1 (Cl.of_base h_b) (gD z4) Kc) (k := ?_)
  refine Be (Ci isAgg3 i_1 0 (Cl.of_base h_b) (gD z4)) (k := ?_)
  refine Be Ro (k := ?_)
  refine oR ?_
  refine Bi rfl (fun hq3 => ?_) (fun hq3 => ?_)
  rotate_left
  ·refine Cg ?_
   refine cS ?_
   refine Xe ?_
   exact Hu n_2 (i_1 + 1) ⟨by omega, ((hF3.pos hq2).neg hq3), z3⟩ (Nat.lt_succ_self _) se (List.Perm.refl _)
  refine Z2 ?_
  refine Ri ?_
  refine Aa results67 z0 (fun w1 hw1 => ?_)
  exact ⟨(rq ((hF.neg hq1).er1 ((hF3.pos hq2).pos hq3))), hw1.ext_out⟩

end Go.Proofs.YtdnjanhdnibkfaaGreatDoor.Jd

namespace Go.Proofs.YtdnjanhdnibkfaaGreatDoor.Jd
open Go.Proofs.Tryz
open Go.Proofs
open Go.RowKit (Below)
set_option maxRecDepth 100000
set_option maxHeartbeats 8000000
set_option linter.unusedVariables false
set_option linter.unusedSimpArgs false


theorem AA7 (w : World) {a : Int} {b : Int} : Calls Tryz.prog 24 (List.toArray [(vi a), (vi b)]) w fun e w2 => ∃ a1 : Option Addr, ∃ c1 : Nat, ∃ B : Av, e = .returned (Value.tuple [(Value.agg [(vi ((Oc a b).1.phase)), (vt ((Oc a b).1.name)), (vi ((Oc a b).1.handle.slot)), (vi ((Oc a b).1.handle.gen)), (vi ((Oc a b).1.a)), (vi ((Oc a b).1.b)), (vs a1 ((Oc a b).1.opn.length) c1)].toArray), (vi ((Oc a b).2))].toArray) ∧ Ej w w2 B ∧ Hd B eI 1 a1 (Oc a b).1.opn ∧ (Oc a b).1.opn.length ≤ 1000 := by
 have hF := Is.refl (Oc a b)
 refine enter func24 ntmps24 (h := ?_)
 refine Z2 ?_
 refine Ak Ag mG (k := fun r1 hr1 => ?_)
 refine Iv ?_
 refine aB ?_
 refine Ao 8 rfl (fun hq1 => ?_) (fun hq1 => ?_)
 ·refine Ab 2 rfl ?_
  refine Jh ?_
  refine Ab 2 rfl ?_
  refine Jh ?_
  refine Ab 2 rfl ?_
  refine Uy ?_
  refine rI ?_
  refine Rg ?_
  refine Aa results24 (Bw.agg isAgg26 sizeOf26 rfl me rfl z0) (fun w1 hw1 => ?_)
  exact ⟨none, 0, [], (rq (hF.pos hq1)), (hw1.fresh_out.sub Mo), (rn (hF.pos hq1)), (rl (hF.pos hq1))⟩
 refine sF ?_
 refine Z5 ?_
 refine Ao 12 rfl (fun hq2 => ?_) (fun hq2 => ?_)
 ·refine Ab 2 rfl ?_
  refine Jh ?_
  refine Ab 2 rfl ?_
  refine Uy ?_
  refine rI ?_
  refine Rg ?_
  refine Aa results24 (Bw.agg isAgg26 sizeOf26 rfl me rfl z0) (fun w1 hw1 => ?_)
  exact ⟨none, 0, [], (rq ((hF.neg hq1).pos hq2)), (hw1.fresh_out.sub Mo), (rn ((hF.neg hq1).pos hq2)), (rl ((hF.neg hq1).pos hq2))⟩
 refine N2 ?_
 refine Z5 ?_
 refine Ao 16 rfl (fun hq3 => ?_) (fun hq3 => ?_)
 ·refine Ab 2 rfl ?_
  refine Uy ?_
  refine rI ?_
  refine Rg ?_
  refine Aa results24 (Bw.agg isAgg26 sizeOf26 rfl me rfl z0) (fun w1 hw1 => ?_)
  exact ⟨none, 0, [], (rq (((hF.neg hq1).neg hq2).pos hq3)), (hw1.fresh_out.sub Mo), (rn (((hF.neg hq1).neg hq2).pos hq3)), (rl (((hF.neg hq1).neg hq2).pos hq3))⟩
 refine sF ?_
 refine Pe ?_
 refine Bi rfl (fun hq4 => ?_) (fun hq4 => ?_)
 ·refine Cb ?_
  refine Cp ?_
  refine rI ?_
  refine Rg ?_
  refine Aa results24 (Bw.agg isAgg26 sizeOf26 rfl me rfl z0) (fun w1 hw1 => ?_)
  exact ⟨none, 0, [], (rq ((((hF.neg hq1).neg hq2).neg hq3).pos hq4)), (hw1.fresh_out.sub Mo), (rn ((((hF.neg hq1).neg hq2).neg hq3).pos hq4)), (rl ((((hF.neg hq1).neg hq2).neg hq3).pos hq4))⟩
 refine Py ?_
 refine Hp ?_
 refine rI ?_
 refine Z4 ?_
 refine Aa results24 (Bw.agg isAgg26 sizeOf26 rfl me rfl z0) (fun w1 hw1 => ?_)
 exact ⟨none, 0, [], (rq ((((hF.neg hq1).neg hq2).neg hq3).neg hq4)), (hw1.fresh_out.sub Mo), (rn ((((hF.neg hq1).neg hq2).neg hq3).neg hq4)), (rl ((((hF.neg hq1).neg hq2).neg hq3).neg hq4))⟩

theorem kU (w : World) {s_opn_a : Option Addr} {s_opn_c : Nat} {s : Session} (h_s_opn : Sl w eI 1 s_opn_a s.opn) (n_s_opn : s.opn.length ≤ 1000) : Ha Tryz.prog 27 [(Value.agg [(vi s.phase), (vt s.name), (vi s.handle.slot), (vi s.handle.gen), (vi s.a), (vi s.b), (vs s_opn_a s.opn.length s_opn_c)].toArray)] w (Value.bool (Xb s)) := by
 have hF := Is.refl (Xb s)
 refine enter func27 ntmps27 (h := ?_)
 refine Z2 ?_
 refine Ak Ag oH (k := fun r1 hr1 => ?_)
 refine Ik ?_
 refine Z2 ?_
 refine iJ ?_
 refine aB ?_
 refine Ao 10 rfl (fun hq1 => ?_) (fun hq1 => ?_)
 ·refine Ab 3 rfl ?_
  refine fH ?_
  refine fH ?_
  refine fH ?_
  refine iR ?_
  refine Aa results27 z0 (fun w1 hw1 => ?_)
  exact ⟨(rq (hF.pos hq1)), hw1.ext_out⟩
 refine Ar z75 (k := ?_)
 refine rJ ?_
 refine Z5 ?_
 refine Ao 15 rfl (fun hq2 => ?_) (fun hq2 => ?_)
 ·refine Ab 3 rfl ?_
  refine fH ?_
  refine fH ?_
  refine iR ?_
  refine Aa results27 z0 (fun w1 hw1 => ?_)
  exact ⟨(rq ((hF.neg hq1).pos hq2)), hw1.ext_out⟩
 refine oO ?_
 refine Ar Ny (k := ?_)
 refine Z5 ?_
 refine Ao 20 rfl (fun hq3 => ?_) (fun hq3 => ?_)
 ·refine Ab 3 rfl ?_
  refine fH ?_
  refine iR ?_
  refine Aa results27 z0 (fun w1 hw1 => ?_)
  exact ⟨(rq (((hF.neg hq1).neg hq2).pos hq3)), hw1.ext_out⟩
 refine Ar (Al Qq) (k := ?_)
 refine rJ ?_
 refine Z5 ?_
 refine Ao 25 rfl (fun hq4 => ?_) (fun hq4 => ?_)
 ·refine Ab 3 rfl ?_
  refine iR ?_
  refine Aa results27 z0 (fun w1 hw1 => ?_)
  exact ⟨(rq ((((hF.neg hq1).neg hq2).neg hq3).pos hq4)), hw1.ext_out⟩
 refine oP ?_
 refine Ar Ny (k := ?_)
 refine Z5 ?_
 refine Ao 30 rfl (fun hq5 => ?_) (fun hq5 => ?_)
 ·refine Ab 3 rfl ?_
  refine cT ?_
  refine Aa results27 z0 (fun w1 hw1 => ?_)
  exact ⟨(rq (((((hF.neg hq1).neg hq2).neg hq3).neg hq4).pos hq5)), hw1.ext_out⟩
 refine Ar (Al Qr) (k := ?_)
 refine rJ ?_
 refine Pe ?_
 refine Bi rfl (fun hq6 => ?_) (fun hq6 => ?_)
 ·refine Cb ?_
  refine Lk ?_
  refine Aa results27 z0 (fun w1 hw1 => ?_)
  exact ⟨(rq ((((((hF.neg hq1).neg hq2).neg hq3).neg hq4).neg hq5).pos hq6)), hw1.ext_out⟩
 refine Ua ?_
 refine iJ ?_
 refine sH ?_
 refine Ao 38 rfl (fun hq7 => ?_) (fun hq7 => ?_)
 ·refine Ab 3 rfl ?_
  refine aK ?_
  refine Ik ?_
  refine Z2 ?_
  refine pF ?_
  refine rS ?_
  refine Af Ln (k := ?_)
  refine Ck ?_
  refine Ao 47 rfl (fun hq8 => ?_) (fun hq8 => ?_)
  ·refine Ab 5 rfl ?_
   refine cT ?_
   refine Aa results27 z0 (fun w1 hw1 => ?_)
   exact ⟨(rq ((((((((hF.neg hq1).neg hq2).neg hq3).neg hq4).neg hq5).neg hq6).pos hq7).pos hq8)), hw1.ext_out⟩
  refine oQ ?_
  refine Ar tG (k := ?_)
  refine El ?_
  refine Ar (AA6 runUnderlying4) (k := ?_)
  refine Pe ?_
  refine Dl rfl (fun hq9 => ?_) (fun hq9 => ?_)
  ·refine Cb ?_
   refine Lk ?_
   refine Aa results27 z0 (fun w1 hw1 => ?_)
   exact ⟨(rq (((((((((hF.neg hq1).neg hq2).neg hq3).neg hq4).neg hq5).neg hq6).pos hq7).neg hq8).t hq9)), hw1.ext_out⟩
  refine Ua ?_
  refine O1 ?_
  refine Ak Ag (Cj (l := [_, _]) zeroValue23) (k := fun r2 hr2 => ?_)
  refine Ep (Bn (l' := [_, _]) sizeOf23) (k := ?_)
  refine Jr ?_
  refine Z2 ?_
  refine iJ ?_
  refine D0 ?_
  refine Ao 58 rfl (fun hq10 => ?_) (fun hq10 => ?_)
  rotate_left
  ·refine Ab 10 rfl ?_
   refine Pe ?_
   refine Rk ?_
   refine iM ?_
   refine Cp ?_
   refine Ik ?_
   refine iQ ?_
   refine Il (σ1 := Nat) (σ2 := Int) (σ3 := Nat) (fun n_9 last_7 i_8 => ((r1, oc [(vi s.phase), (vt s.name), (vi s.handle.slot), (vi s.handle.gen), (vi s.a), (vi s.b), (vs s_opn_a s.opn.length s_opn_c)] 26) :: [])) (fun n_9 last_7 i_8 => [(1, (Value.pointer (some ⟨r1, 0, none⟩))), (2, (Value.bool false)), (5, (vi last_7)), (6, (vi ((i_8 : Nat) : Int)))]) (fun n_9 last_7 i_8 => s.opn.length - i_8 < n_9 ∧ Is (Mf s (s.opn.length + 1) 0 0) (Mf s n_9 last_7 i_8) ∧ i_8 ≤ s.opn.length) (fun n_9 last_7 i_8 => n_9) (s.opn.length + 1) 0 0 ?_ se (List.Perm.refl _) ?_
   ·exact ⟨Nat.lt_succ_self _, Is.refl _, z7⟩
   ·rintro (_ | n_9) last_7 i_8 ⟨hm11, hF10, hi12⟩
    ·omega
    refine fL ?_
    refine fG ?_
    refine Z9 ?_
    refine Bi rfl (fun hq16 => ?_) (fun hq16 => ?_)
    rotate_left
    ·refine Cu ?_
     refine Ia ?_
     refine Z2 ?_
     refine fG ?_
     refine Af Lm (k := ?_)
     refine Z4 ?_
     refine Aa results27 z0 (fun w1 hw1 => ?_)
     exact ⟨(rq (((((((((((hF.neg hq1).neg hq2).neg hq3).neg hq4).neg hq5).neg hq6).pos hq7).neg hq8).f hq9).neg hq10).ok2 (hF10.neg hq16))), hw1.ext_out⟩
    refine lL ?_
    refine Eu ?_
    refine Z2 ?_
    refine mF ?_
    refine BL2 ?_
    refine Ck ?_
    refine lK ?_
    refine Ao 84 rfl (fun hq17 => ?_) (fun hq17 => ?_)
    ·refine Ab 6 rfl ?_
     refine cT ?_
     refine mI ?_
     refine Aa results27 z0 (fun w1 hw1 => ?_)
     exact ⟨(rq (((((((((((hF.neg hq1).neg hq2).neg hq3).neg hq4).neg hq5).neg hq6).pos hq7).neg hq8).f hq9).neg hq10).er2 ((hF10.pos hq16).pos hq17))), hw1.ext_out⟩
    refine Z45 ?_
    refine El ?_
    refine Ar (Cz (n := s.opn.length) runUnderlying24 sizeOf3 i_8 z46 (gD z4) Kc) (k := ?_)
    refine Ar (Ci isAgg3 i_8 0 z46 (gD z4)) (k := ?_)
    refine Ar Ln (k := ?_)
    refine Pe ?_
    refine Bi rfl (fun hq18 => ?_) (fun hq18 => ?_)
    ·refine Cb ?_
     refine Lk ?_
     refine mI ?_
     refine Aa results27 z0 (fun w1 hw1 => ?_)
     exact ⟨(rq (((((((((((hF.neg hq1).neg hq2).neg hq3).neg hq4).neg hq5).neg hq6).pos hq7).neg hq8).f hq9).neg hq10).er2 (((hF10.pos hq16).neg hq17).pos hq18))), hw1.ext_out⟩
    refine Py ?_
    refine Cp ?_
    refine mF ?_
    refine BL2 ?_
    refine dA ?_
    refine Xe ?_
    exact Ga n_9 (s.opn.getD i_8 default) (i_8 + 1) ⟨by omega, (((hF10.pos hq16).neg hq17).neg hq18), z3⟩ (Nat.lt_succ_self _) se (List.Perm.refl _)
  refine rR ?_
  refine O4 ?_
  refine Ar (bD (U7 _ _ _ _ _ _)) (k := ?_)
  refine El ?_
  refine Ao 63 rfl (fun hq11 => ?_) (fun hq11 => ?_)
  ·refine Ab 4 rfl ?_
   refine Xj ?_
   refine rG ?_
   refine Ku rfl ?_
   refine iM ?_
   refine Lk ?_
   refine Aa results27 z0 (fun w1 hw1 => ?_)
   exact ⟨(rq (((((((((((hF.neg hq1).neg hq2).neg hq3).neg hq4).neg hq5).neg hq6).pos hq7).neg hq8).f hq9).pos hq10).pos hq11)), hw1.ext_out⟩
  refine Tu ?_
  refine Ar Ln (k := ?_)
  refine Ys ?_
  refine rG ?_
  refine Bi rfl (fun hq12 => ?_) (fun hq12 => ?_)
  ·refine Cb ?_
   refine Dk _ (sd (sk sz)) ?_
   refine Lk ?_
   refine Aa results27 z0 (fun w1 hw1 => ?_)
   exact ⟨(rq ((((((((((((hF.neg hq1).neg hq2).neg hq3).neg hq4).neg hq5).neg hq6).pos hq7).neg hq8).f hq9).pos hq10).neg hq11).pos hq12)), hw1.ext_out⟩
  refine Py ?_
  refine iM ?_
  refine Cp ?_
  refine Ik ?_
  refine iQ ?_
  refine Il (σ1 := Nat) (σ2 := Int) (σ3 := Nat) (fun n_3 last_1 i_2 => ((r1, oc [(vi s.phase), (vt s.name), (vi s.handle.slot), (vi s.handle.gen), (vi s.a), (vi s.b), (vs s_opn_a s.opn.length s_opn_c)] 26) :: [])) (fun n_3 last_1 i_2 => [(1, (Value.pointer (some ⟨r1, 0, none⟩))), (2, (Value.bool false)), (5, (vi last_1)), (6, (vi ((i_2 : Nat) : Int)))]) (fun n_3 last_1 i_2 => s.opn.length - i_2 < n_3 ∧ Is (Fk s (s.opn.length + 1) 0 0) (Fk s n_3 last_1 i_2) ∧ i_2 ≤ s.opn.length) (fun n_3 last_1 i_2 => n_3) (s.opn.length + 1) 0 0 ?_ se (List.Perm.refl _) ?_
  ·exact ⟨Nat.lt_succ_self _, Is.refl _, z7⟩
  ·rintro (_ | n_3) last_1 i_2 ⟨hm5, hF4, hi6⟩
   ·omega
   refine fL ?_
   refine fG ?_
   refine Z9 ?_
   refine Bi rfl (fun hq13 => ?_) (fun hq13 => ?_)
   rotate_left
   ·refine Cu ?_
    refine Ia ?_
    refine Z2 ?_
    refine fG ?_
    refine Af Lm (k := ?_)
    refine Z4 ?_
    refine Aa results27 z0 (fun w1 hw1 => ?_)
    exact ⟨(rq (((((((((((((hF.neg hq1).neg hq2).neg hq3).neg hq4).neg hq5).neg hq6).pos hq7).neg hq8).f hq9).pos hq10).neg hq11).neg hq12).ok2 (hF4.neg hq13))), hw1.ext_out⟩
   refine lL ?_
   refine Eu ?_
   refine Z2 ?_
   refine mF ?_
   refine BL3 ?_
   refine Ck ?_
   refine lK ?_
   refine Ao 84 rfl (fun hq14 => ?_) (fun hq14 => ?_)
   ·refine Ab 6 rfl ?_
    refine cT ?_
    refine mI ?_
    refine Aa results27 z0 (fun w1 hw1 => ?_)
    exact ⟨(rq (((((((((((((hF.neg hq1).neg hq2).neg hq3).neg hq4).neg hq5).neg hq6).pos hq7).neg hq8).f hq9).pos hq10).neg hq11).neg hq12).er2 ((hF4.pos hq13).pos hq14))), hw1.ext_out⟩
   refine Z45 ?_
   refine El ?_
   refine Ar (Cz (n := s.opn.length) runUnderlying24 sizeOf3 i_2 z46 (gD z4) Kc) (k := ?_)
   refine Ar (Ci isAgg3 i_2 0 z46 (gD z4)) (k := ?_)
   refine Ar Ln (k := ?_)
   refine Pe ?_
   refine Bi rfl (fun hq15 => ?_) (fun hq15 => ?_)
   ·refine Cb ?_
    refine Lk ?_
    refine mI ?_
    refine Aa results27 z0 (fun w1 hw1 => ?_)
    exact ⟨(rq (((((((((((((hF.neg hq1).neg hq2).neg hq3).neg hq4).neg hq5).neg hq6).pos hq7).neg hq8).f hq9).pos hq10).neg hq11).neg hq12).er2 (((hF4.pos hq13).neg hq14).pos hq15))), hw1.ext_out⟩
   refine Py ?_
   refine Cp ?_
   refine mF ?_
   refine BL3 ?_
   refine dA ?_
   refine Xe ?_
   exact Ga n_3 (s.opn.getD i_2 default) (i_2 + 1) ⟨by omega, (((hF4.pos hq13).neg hq14).neg hq15), z3⟩ (Nat.lt_succ_self _) se (List.Perm.refl _)
 refine cQ ?_
 refine Xd ?_
 refine Z2 ?_
 refine pF ?_
 refine rS ?_
 refine Af Ln (k := ?_)
 refine Ck ?_
 refine Ao 47 rfl (fun hq19 => ?_) (fun hq19 => ?_)
 ·refine Ab 5 rfl ?_
  refine cT ?_
  refine Aa results27 z0 (fun w1 hw1 => ?_)
  exact ⟨(rq ((((((((hF.neg hq1).neg hq2).neg hq3).neg hq4).neg hq5).neg hq6).neg hq7).pos hq19)), hw1.ext_out⟩
 refine oQ ?_
 refine Ar tG (k := ?_)
 refine El ?_
 refine Ar (AA6 runUnderlying4) (k := ?_)
 refine Pe ?_
 refine Dl rfl (fun hq20 => ?_) (fun hq20 => ?_)
 ·refine Cb ?_
  refine Lk ?_
  refine Aa results27 z0 (fun w1 hw1 => ?_)
  exact ⟨(rq (((((((((hF.neg hq1).neg hq2).neg hq3).neg hq4).neg hq5).neg hq6).neg hq7).neg hq19).t hq20)), hw1.ext_out⟩
 refine Ua ?_
 refine O1 ?_
 refine Ak Ag (Cj (l := [_, _]) zeroValue23) (k := fun r3 hr3 => ?_)
 refine Ep (Bn (l' := [_, _]) sizeOf23) (k := ?_)
 refine Jr ?_
 refine Z2 ?_
 refine iJ ?_
 refine D0 ?_
 refine Ao 58 rfl (fun hq21 => ?_) (fun hq21 => ?_)
 rotate_left
 ·refine Ab 10 rfl ?_
  refine Pe ?_
  refine Rk ?_
  refine iM ?_
  refine Cp ?_
  refine Ik ?_
  refine iQ ?_
  refine Il (σ1 := Nat) (σ2 := Int) (σ3 := Nat) (fun n_21 last_19 i_20 => ((r1, oc [(vi s.phase), (vt s.name), (vi s.handle.slot), (vi s.handle.gen), (vi s.a), (vi s.b), (vs s_opn_a s.opn.length s_opn_c)] 26) :: [])) (fun n_21 last_19 i_20 => [(1, (Value.pointer (some ⟨r1, 0, none⟩))), (2, (Value.bool false)), (5, (vi last_19)), (6, (vi ((i_20 : Nat) : Int)))]) (fun n_21 last_19 i_20 => s.opn.length - i_20 < n_21 ∧ Is (Mh s (s.opn.length + 1) 0 0) (Mh s n_21 last_19 i_20) ∧ i_20 ≤ s.opn.length) (fun n_21 last_19 i_20 => n_21) (s.opn.length + 1) 0 0 ?_ se (List.Perm.refl _) ?_
  ·exact ⟨Nat.lt_succ_self _, Is.refl _, z7⟩
  ·rintro (_ | n_21) last_19 i_20 ⟨hm23, hF22, hi24⟩
   ·omega
   refine fL ?_
   refine fG ?_
   refine Z9 ?_
   refine Bi rfl (fun hq27 => ?_) (fun hq27 => ?_)
   rotate_left
   ·refine Cu ?_
    refine Ia ?_
    refine Z2 ?_
    refine fG ?_
    refine Af Lm (k := ?_)
    refine Z4 ?_
    refine Aa results27 z0 (fun w1 hw1 => ?_)
    exact ⟨(rq (((((((((((hF.neg hq1).neg hq2).neg hq3).neg hq4).neg hq5).neg hq6).neg hq7).neg hq19).f hq20).neg hq21).ok2 (hF22.neg hq27))), hw1.ext_out⟩
   refine lL ?_
   refine Eu ?_
   refine Z2 ?_
   refine mF ?_
   refine BL0 ?_
   refine Ck ?_
   refine lK ?_
   refine Ao 84 rfl (fun hq28 => ?_) (fun hq28 => ?_)
   ·refine Ab 6 rfl ?_
    refine cT ?_
    refine mI ?_
    refine Aa results27 z0 (fun w1 hw1 => ?_)
    exact ⟨(rq (((((((((((hF.neg hq1).neg hq2).neg hq3).neg hq4).neg hq5).neg hq6).neg hq7).neg hq19).f hq20).neg hq21).er2 ((hF22.pos hq27).pos hq28))), hw1.ext_out⟩
   refine Z45 ?_
   refine El ?_
   refine Ar (Cz (n := s.opn.length) runUnderlying24 sizeOf3 i_20 z46 (gD z4) Kc) (k := ?_)
   refine Ar (Ci isAgg3 i_20 0 z46 (gD z4)) (k := ?_)
   refine Ar Ln (k := ?_)
   refine Pe ?_
   refine Bi rfl (fun hq29 => ?_) (fun hq29 => ?_)
   ·refine Cb ?_
    refine Lk ?_
    refine mI ?_
    refine Aa results27 z0 (fun w1 hw1 => ?_)
    exact ⟨(rq (((((((((((hF.neg hq1).neg hq2).neg hq3).neg hq4).neg hq5).neg hq6).neg hq7).neg hq19).f hq20).neg hq21).er2 (((hF22.pos hq27).neg hq28).pos hq29))), hw1.ext_out⟩
   refine Py ?_
   refine Cp ?_
   refine mF ?_
   refine BL0 ?_
   refine dA ?_
   refine Xe ?_
   exact Ga n_21 (s.opn.getD i_20 default) (i_20 + 1) ⟨by omega, (((hF22.pos hq27).neg hq28).neg hq29), z3⟩ (Nat.lt_succ_self _) se (List.Perm.refl _)
 refine rR ?_
 refine O4 ?_
 refine Ar (bD (U7 _ _ _ _ _ _)) (k := ?_)
 refine El ?_
 refine Ao 63 rfl (fun hq22 => ?_) (fun hq22 => ?_)
 ·refine Ab 4 rfl ?_
  refine Xj ?_
  refine rG ?_
  refine Ku rfl ?_
  refine iM ?_
  refine Lk ?_
  refine Aa results27 z0 (fun w1 hw1 => ?_)
  exact ⟨(rq (((((((((((hF.neg hq1).neg hq2).neg hq3).neg hq4).neg hq5).neg hq6).neg hq7).neg hq19).f hq20).pos hq21).pos hq22)), hw1.ext_out⟩
 refine Tu ?_
 refine Ar Ln (k := ?_)
 refine Ys ?_
 refine rG ?_
 refine Bi rfl (fun hq23 => ?_) (fun hq23 => ?_)
 ·refine Cb ?_
  refine Dk _ (sd (sk sz)) ?_
  refine Lk ?_
  refine Aa results27 z0 (fun w1 hw1 => ?_)
  exact ⟨(rq ((((((((((((hF.neg hq1).neg hq2).neg hq3).neg hq4).neg hq5).neg hq6).neg hq7).neg hq19).f hq20).pos hq21).neg hq22).pos hq23)), hw1.ext_out⟩
 refine Py ?_
 refine iM ?_
 refine Cp ?_
 refine Ik ?_
 refine iQ ?_
 refine Il (σ1 := Nat) (σ2 := Int) (σ3 := Nat) (fun n_15 last_13 i_14 => ((r1, oc [(vi s.phase), (vt s.name), (vi s.handle.slot), (vi s.handle.gen), (vi s.a), (vi s.b), (vs s_opn_a s.opn.length s_opn_c)] 26) :: [])) (fun n_15 last_13 i_14 => [(1, (Value.pointer (some ⟨r1, 0, none⟩))), (2, (Value.bool false)), (5, (vi last_13)), (6, (vi ((i_14 : Nat) : Int)))]) (fun n_15 last_13 i_14 => s.opn.length - i_14 < n_15 ∧ Is (Mg s (s.opn.length + 1) 0 0) (Mg s n_15 last_13 i_14) ∧ i_14 ≤ s.opn.length) (fun n_15 last_13 i_14 => n_15) (s.opn.length + 1) 0 0 ?_ se (List.Perm.refl _) ?_
 ·exact ⟨Nat.lt_succ_self _, Is.refl _, z7⟩
 ·rintro (_ | n_15) last_13 i_14 ⟨hm17, hF16, hi18⟩
  ·omega
  refine fL ?_
  refine fG ?_
  refine Z9 ?_
  refine Bi rfl (fun hq24 => ?_) (fun hq24 => ?_)
  rotate_left
  ·refine Cu ?_
   refine Ia ?_
   refine Z2 ?_
   refine fG ?_
   refine Af Lm (k := ?_)
   refine Z4 ?_
   refine Aa results27 z0 (fun w1 hw1 => ?_)
   exact ⟨(rq (((((((((((((hF.neg hq1).neg hq2).neg hq3).neg hq4).neg hq5).neg hq6).neg hq7).neg hq19).f hq20).pos hq21).neg hq22).neg hq23).ok2 (hF16.neg hq24))), hw1.ext_out⟩
  refine lL ?_
  refine Eu ?_
  refine Z2 ?_
  refine mF ?_
  refine BL1 ?_
  refine Ck ?_
  refine lK ?_
  refine Ao 84 rfl (fun hq25 => ?_) (fun hq25 => ?_)
  ·refine Ab 6 rfl ?_
   refine cT ?_
   refine mI ?_
   refine Aa results27 z0 (fun w1 hw1 => ?_)
   exact ⟨(rq (((((((((((((hF.neg hq1).neg hq2).neg hq3).neg hq4).neg hq5).neg hq6).neg hq7).neg hq19).f hq20).pos hq21).neg hq22).neg hq23).er2 ((hF16.pos hq24).pos hq25))), hw1.ext_out⟩
  refine Z45 ?_
  refine El ?_
  refine Ar (Cz (n := s.opn.length) runUnderlying24 sizeOf3 i_14 z46 (gD z4) Kc) (k := ?_)
  refine Ar (Ci isAgg3 i_14 0 z46 (gD z4)) (k := ?_)
  refine Ar Ln (k := ?_)
  refine Pe ?_
  refine Bi rfl (fun hq26 => ?_) (fun hq26 => ?_)
  ·refine Cb ?_
   refine Lk ?_
   refine mI ?_
   refine Aa results27 z0 (fun w1 hw1 => ?_)
   exact ⟨(rq (((((((((((((hF.neg hq1).neg hq2).neg hq3).neg hq4).neg hq5).neg hq6).neg hq7).neg hq19).f hq20).pos hq21).neg hq22).neg hq23).er2 (((hF16.pos hq24).neg hq25).pos hq26))), hw1.ext_out⟩
  refine Py ?_
  refine Cp ?_
  refine mF ?_
  refine BL1 ?_
  refine dA ?_
  refine Xe ?_
  exact Ga n_15 (s.opn.getD i_14 default) (i_14 + 1) ⟨by omega, (((hF16.pos hq24).neg hq25).neg hq26), z3⟩ (Nat.lt_succ_self _) se (List.Perm.refl _)

theorem uY (w : World) {s_opn_a : Option Addr} {s_opn_c : Nat} {s : Session} {stream : Int} (h_s_opn : Sl w eI 1 s_opn_a s.opn) (n_s_opn : s.opn.length ≤ 1000) : Ha Tryz.prog 29 [(Value.agg [(vi s.phase), (vt s.name), (vi s.handle.slot), (vi s.handle.gen), (vi s.a), (vi s.b), (vs s_opn_a s.opn.length s_opn_c)].toArray), (vi stream)] w (Value.bool (oG s stream)) := by
 have hF := Is.refl (oG s stream)
 refine enter func29 ntmps29 (h := ?_)
 refine Z2 ?_
 refine Ak Ag oH (k := fun r1 hr1 => ?_)
 refine Ik ?_
 refine iQ ?_
 refine Jj (σ1 := Nat) (σ2 := Nat) (fun n_2 i_1 => ((r1, oc [(vi s.phase), (vt s.name), (vi s.handle.slot), (vi s.handle.gen), (vi s.a), (vi s.b), (vs s_opn_a s.opn.length s_opn_c)] 26) :: [])) (fun n_2 i_1 => [(1, (vi stream)), (2, (Value.pointer (some ⟨r1, 0, none⟩))), (4, (Value.bool false)), (5, (vi ((i_1 : Nat) : Int)))]) (fun n_2 i_1 => s.opn.length - i_1 < n_2 ∧ Is (Sc s stream (s.opn.length + 1) 0) (Sc s stream n_2 i_1) ∧ i_1 ≤ s.opn.length) (fun n_2 i_1 => n_2) (s.opn.length + 1) 0 ?_ se (List.Perm.refl _) ?_
 ·exact ⟨Nat.lt_succ_self _, Is.refl _, z7⟩
 ·rintro (_ | n_2) i_1 ⟨hm4, hF3, hi5⟩
  ·omega
  refine fL ?_
  refine fG ?_
  refine Z9 ?_
  refine Bi rfl (fun hq1 => ?_) (fun hq1 => ?_)
  rotate_left
  ·refine Cu ?_
   refine Ia ?_
   refine Yp ?_
   refine Aa results29 z0 (fun w1 hw1 => ?_)
   exact ⟨(rq (hF.ok1 (hF3.neg hq1))), hw1.ext_out⟩
  refine dD ?_
  refine mF ?_
  refine Af (Cz (n := s.opn.length) runUnderlying24 sizeOf3 i_1 z46 (gD z4) Kc) (k := ?_)
  refine Af (Ci isAgg3 i_1 0 z46 (gD z4)) (k := ?_)
  refine Ck ?_
  refine iP ?_
  refine Bi rfl (fun hq2 => ?_) (fun hq2 => ?_)
  rotate_left
  ·refine Cg ?_
   refine cS ?_
   refine Xe ?_
   exact Hu n_2 (i_1 + 1) ⟨by omega, ((hF3.pos hq1).neg hq2), z3⟩ (Nat.lt_succ_self _) se (List.Perm.refl _)
  refine Z2 ?_
  refine Ri ?_
  refine Aa results29 z0 (fun w1 hw1 => ?_)
  exact ⟨(rq (hF.er1 ((hF3.pos hq1).pos hq2))), hw1.ext_out⟩

theorem qZ (w : World) {l_a : Option Addr} {l_c : Nat} {l : List Int} {stream : Int} (h_l : Sl w eI 1 l_a l) (n_l : l.length ≤ 1000) : Calls Tryz.prog 66 (List.toArray [(vs l_a l.length l_c), (vi stream)]) w fun e w2 => ∃ a1 : Option Addr, ∃ c1 : Nat, ∃ B1 : Av, e = .returned (vs a1 ((Mi l stream).length) c1) ∧ Ej w w2 B1 ∧ Bt eI 1 3 a1 c1 B1 (Mi l stream) ∧ (Mi l stream).length ≤ 1000 := by
 have hF := Is.refl (Mi l stream)
 refine enter func66 ntmps66 (h := ?_)
 refine Nk ?_
 refine Ik ?_
 refine iQ ?_
 refine Ml (σ1 := Nat) (σ2 := List Int) (σ3 := Option Addr) (σ4 := Nat) (σ5 := Av) (σ6 := Nat) (fun n_3 out_1 out_1a out_1c out_1B i_2 => (out_1B ++ [])) (fun n_3 out_1 out_1a out_1c out_1B i_2 => [(0, (vs l_a l.length l_c)), (1, (vi stream)), (4, (vs none 0 0)), (5, (vs out_1a out_1.length out_1c)), (6, (vi ((i_2 : Nat) : Int)))]) (fun n_3 out_1 out_1a out_1c out_1B i_2 => l.length - i_2 < n_3 ∧ Is (Gz l stream (l.length + 1) [] 0) (Gz l stream n_3 out_1 i_2) ∧ Bt eI 1 3 out_1a out_1c out_1B out_1 ∧ out_1.length ≤ i_2 ∧ i_2 ≤ l.length) (fun n_3 out_1 out_1a out_1c out_1B i_2 => n_3) (l.length + 1) ([]) none 0 ([]) 0 ?_ se (List.Perm.refl _) ?_
 ·exact ⟨Nat.lt_succ_self _, Is.refl _, Bt.nil, z7, z7⟩
 ·rintro (_ | n_3) out_1 out_1a out_1c out_1B i_2 ⟨hm5, hF4, hout_1, hi6, hi7⟩
  ·omega
  refine Eu ?_
  refine Hp ?_
  refine Qb ?_
  refine Z9 ?_
  refine Bi rfl (fun hq1 => ?_) (fun hq1 => ?_)
  rotate_left
  ·refine Cu ?_
   refine Ia ?_
   refine Vc ?_
   refine Aa results66 z0 (fun w1 hw1 => ?_)
   exact ⟨out_1a, out_1c, out_1B, (rq (hF.rn2 (hF4.neg hq1))), (Ax (L := out_1B) (hw1.perm (List.Perm.refl _)) rfl.symm), (by rw [(hF.rn2 (hF4.neg hq1)).eq]; exact hout_1), (rl (hF.rn2 (hF4.neg hq1)))⟩
  refine lL ?_
  refine Hp ?_
  refine BL4 ?_
  refine Ck ?_
  refine cU ?_
  refine Bi rfl (fun hq2 => ?_) (fun hq2 => ?_)
  rotate_left
  ·refine Cg ?_
   refine cS ?_
   refine Xe ?_
   exact Hv n_3 out_1 out_1a out_1c out_1B (i_2 + 1) ⟨by omega, ((hF4.pos hq1).neg hq2), hout_1, z3, z3⟩ (Nat.lt_succ_self _) se (List.Perm.refl _)
  refine iO ?_
  refine BL4 ?_
  refine Ak Ag z8 (k := fun r1 hr1 => ?_)
  refine Bb (out_1 ++ ([(l.getD i_2 default)] : List Int)) rfl Fq underlying24 Ba hout_1 (qb q0) (Cl.lit (xs := ([(l.getD i_2 default)] : List Int)) Ba) ⟨by omega, by omega⟩ (n := out_1.length) (m := 1) (k := fun ax1 cx1 Bx1 hox1 => ?_)
  have hal1 : (out_1 ++ ([(l.getD i_2 default)] : List Int)).length = out_1.length + 1 := by first | rfl | exact List.length_append | simp
  refine Mj ?_
  refine kX ?_
  refine Dk _ (sa (sd sz)) ?_
  refine Jt ?_
  refine Xe ?_
  exact Hv n_3 (out_1 ++ ([(l.getD i_2 default)] : List Int)) ax1 cx1 Bx1 (i_2 + 1) ⟨by omega, ((hF4.pos hq1).pos hq2), hox1, z3, z3⟩ (Nat.lt_succ_self _) se (List.Perm.refl _)

theorem uZ (w : World) {s_opn_a : Option Addr} {s_opn_c : Nat} {s : Session} {stream : Int} (h_s_opn : Sl w eI 1 s_opn_a s.opn) (n_s_opn : s.opn.length ≤ 1000) : Calls Tryz.prog 25 (List.toArray [(Value.agg [(vi s.phase), (vt s.name), (vi s.handle.slot), (vi s.handle.gen), (vi s.a), (vi s.b), (vs s_opn_a s.opn.length s_opn_c)].toArray), (vi stream)]) w fun e w2 => ∃ a1 : Option Addr, ∃ c1 : Nat, ∃ B : Av, e = .returned (Value.tuple [(Value.agg [(vi ((Fy s stream).1.phase)), (vt ((Fy s stream).1.name)), (vi ((Fy s stream).1.handle.slot)), (vi ((Fy s stream).1.handle.gen)), (vi ((Fy s stream).1.a)), (vi ((Fy s stream).1.b)), (vs a1 ((Fy s stream).1.opn.length) c1)].toArray), (vi ((Fy s stream).2))].toArray) ∧ Ej w w2 B ∧ Hd B eI 1 a1 (Fy s stream).1.opn ∧ (Fy s stream).1.opn.length ≤ 1000 := by
 have hF := Is.refl (Fy s stream)
 refine enter func25 ntmps25 (h := ?_)
 refine Z2 ?_
 refine Ak Ag oH (k := fun r1 hr1 => ?_)
 refine Ak Ag mG (k := fun r2 hr2 => ?_)
 refine Ik ?_
 refine rE ?_
 refine Cy (Ac call27) (fun w1 hw1 => kU w1 (s := s) (h_s_opn := (Cl.of_base h_s_opn) w1 hw1) (n_s_opn := Ng)) (k := ?_)
 refine Rf ?_
 refine Dl rfl (fun hq1 => ?_) (fun hq1 => ?_)
 ·refine Cb ?_
  refine Cp ?_
  refine rI ?_
  refine Rg ?_
  refine Aa results25 (Bw.agg isAgg26 sizeOf26 rfl me rfl z0) (fun w1 hw1 => ?_)
  exact ⟨none, 0, [], (rq (hF.t hq1)), (hw1.fresh_out.sub Mo), (rn (hF.t hq1)), (rl (hF.t hq1))⟩
 refine Yq ?_
 refine rE ?_
 refine Ck ?_
 refine Cy (Ac call29) (fun w1 hw1 => uY w1 (s := s) (stream := stream) (h_s_opn := (Cl.of_base h_s_opn) w1 hw1) (n_s_opn := Ng)) (k := ?_)
 refine Rf ?_
 refine Dl rfl (fun hq2 => ?_) (fun hq2 => ?_)
 ·refine Cb ?_
  refine Cp ?_
  refine rI ?_
  refine Rg ?_
  refine Aa results25 (Bw.agg isAgg26 sizeOf26 rfl me rfl z0) (fun w1 hw1 => ?_)
  exact ⟨none, 0, [], (rq ((hF.f hq1).t hq2)), (hw1.fresh_out.sub Mo), (rn ((hF.f hq1).t hq2)), (rl ((hF.f hq1).t hq2))⟩
 refine Ua ?_
 refine mF ?_
 refine Kq (Ac call66) (fun w1 hw1 => qZ w1 (l := s.opn) (stream := stream) (h_l := (Cl.of_base h_s_opn) w1 hw1) (n_l := Ng)) (k := ?_)
 rintro w1_1 e1_1 w2_1 hw1_1 ⟨a1_1, c1_1, B1_1, he_1, hf_1, ho1_1, hl1_1⟩
 refine ⟨_, _, he_1, hw1_1.fresh hf_1, ?_⟩
 refine L4 ?_
 refine Z0 ?_
 refine M1 ?_
 refine Z4 ?_
 refine Aa results25 (Bw.agg isAgg26 sizeOf26 rfl me rfl z0) (fun w1 hw1 => ?_)
 exact ⟨a1_1, c1_1, B1_1, (rq ((hF.f hq1).f hq2)), (Ax (L := B1_1) (hw1.perm (List.Perm.refl _)) rfl.symm), (by rw [((hF.f hq1).f hq2).eq]; exact (ho1_1.slb Ba)), (rl ((hF.f hq1).f hq2))⟩

theorem eE (w : World) {a_opn_a : Option Addr} {a_opn_c : Nat} {b_opn_a : Option Addr} {b_opn_c : Nat} {a : Session} {b : Session} (h_a_opn : Sl w eI 1 a_opn_a a.opn) (n_a_opn : a.opn.length ≤ 1000) (h_b_opn : Sl w eI 1 b_opn_a b.opn) (n_b_opn : b.opn.length ≤ 1000) : Ha Tryz.prog 26 [(Value.agg [(vi a.phase), (vt a.name), (vi a.handle.slot), (vi a.handle.gen), (vi a.a), (vi a.b), (vs a_opn_a a.opn.length a_opn_c)].toArray), (Value.agg [(vi b.phase), (vt b.name), (vi b.handle.slot), (vi b.handle.gen), (vi b.a), (vi b.b), (vs b_opn_a b.opn.length b_opn_c)].toArray)] w (Value.bool (Zu a b)) := by
 have hF := Is.refl (Zu a b)
 refine enter func26 ntmps26 (h := ?_)
 refine Z2 ?_
 refine Ak Ag oH (k := fun r1 hr1 => ?_)
 refine Ak Ag oH (k := fun r2 hr2 => ?_)
 refine Kt ?_
 refine iJ ?_
 refine iJ ?_
 refine sH ?_
 refine Ao 10 rfl (fun hq1 => ?_) (fun hq1 => ?_)
 rotate_left
 ·refine Ab 5 rfl ?_
  refine Ou ?_
  refine Ou ?_
  refine Ou ?_
  refine Ou ?_
  refine Hz ?_
  refine Aa results26 z0 (fun w1 hw1 => ?_)
  exact ⟨(rq (hF.neg hq1)), hw1.ext_out⟩
 refine oQ ?_
 refine oQ ?_
 refine Ar tF (k := ?_)
 refine Jh ?_
 refine Ao 17 rfl (fun hq2 => ?_) (fun hq2 => ?_)
 rotate_left
 ·refine Ab 5 rfl ?_
  refine Ou ?_
  refine Ou ?_
  refine Ou ?_
  refine Hz ?_
  refine Aa results26 z0 (fun w1 hw1 => ?_)
  exact ⟨(rq ((hF.pos hq1).neg hq2)), hw1.ext_out⟩
 refine rR ?_
 refine rR ?_
 refine Ar z81 (k := ?_)
 refine Jh ?_
 refine Ao 24 rfl (fun hq3 => ?_) (fun hq3 => ?_)
 rotate_left
 ·refine Ab 5 rfl ?_
  refine Ou ?_
  refine Ou ?_
  refine Hz ?_
  refine Aa results26 z0 (fun w1 hw1 => ?_)
  exact ⟨(rq (((hF.pos hq1).pos hq2).neg hq3)), hw1.ext_out⟩
 refine oO ?_
 refine Ar (Al Qq) (k := ?_)
 refine fS ?_
 refine Ao 31 rfl (fun hq4 => ?_) (fun hq4 => ?_)
 rotate_left
 ·refine Ab 5 rfl ?_
  refine Ou ?_
  refine Hz ?_
  refine Aa results26 z0 (fun w1 hw1 => ?_)
  exact ⟨(rq ((((hF.pos hq1).pos hq2).pos hq3).neg hq4)), hw1.ext_out⟩
 refine oP ?_
 refine Ar (Al Qr) (k := ?_)
 refine fS ?_
 refine Ao 38 rfl (fun hq5 => ?_) (fun hq5 => ?_)
 rotate_left
 ·refine Ab 5 rfl ?_
  refine Hz ?_
  refine Aa results26 z0 (fun w1 hw1 => ?_)
  exact ⟨(rq (((((hF.pos hq1).pos hq2).pos hq3).pos hq4).neg hq5)), hw1.ext_out⟩
 refine Z45 ?_
 refine Z45 ?_
 refine Kj (Ac call67) (fun w1 hw1 => I5 w1 (a := a.opn) (b := b.opn) (h_a := (Cl.of_base h_a_opn) w1 hw1) (n_a := Ng) (h_b := (Cl.of_base h_b_opn) w1 hw1) (n_b := Ng)) (k := ?_)
 refine Ot ?_
 refine Aa results26 z0 (fun w1 hw1 => ?_)
 exact ⟨(rq (((((hF.pos hq1).pos hq2).pos hq3).pos hq4).pos hq5)), hw1.ext_out⟩

end Go.Proofs.YtdnjanhdnibkfaaGreatDoor.Jd

namespace Go.Proofs.YtdnjanhdnibkfaaGreatDoor.Jd
open Go.Proofs.Tryz
open Go.Proofs
open Go.RowKit (Below)
set_option maxRecDepth 100000
set_option maxHeartbeats 8000000
set_option linter.unusedVariables false
set_option linter.unusedSimpArgs false
def Kb (s : Session) (t : Session) (a : Int) (b : Int) (stream : Int) : Bool := (if Ds = true then (if (Zu ((Df a b).1) ((Oc a b).1)) = true then (if ((Df a b).2) = ((Oc a b).2) then (if ((Fv (Am s)) == (Xb (Am s))) = true then (if ((Nv (Am s) (Am t)) == (Zu (Am s) (Am t))) = true then (if (Nv (Am s) (Am s)) = true then (if ((Dp (Am s) stream) == (oG (Am s) stream)) = true then (if (Zu ((Fj (Am s) stream).1) ((Fy (Am s) stream).1)) = true then decide (((Fj (Am s) stream).2) = ((Fy (Am s) stream).2)) else false) else false) else false) else false) else false) else false) else false) else false)
end Go.Proofs.YtdnjanhdnibkfaaGreatDoor.Jd

namespace Go.Proofs.YtdnjanhdnibkfaaGreatDoor.Jd
open Go.Proofs.Tryz
open Go.Proofs
open Go.RowKit (Below)
set_option maxRecDepth 100000
set_option maxHeartbeats 8000000
set_option linter.unusedVariables false
set_option linter.unusedSimpArgs false
theorem eF (w : World) {s_opn_a : Option Addr} {s_opn_c : Nat} {t_opn_a : Option Addr} {t_opn_c : Nat} {ea0 : Addr} {ea1 : Addr} {ea2 : Addr} {ea3 : Addr} {ea4 : Addr} {ea5 : Addr} {ea6 : Addr} {ea7 : Addr} {ea8 : Addr} {ea9 : Addr} {ea10 : Addr} {ea11 : Addr} {ea12 : Addr} {ea13 : Addr} {ea14 : Addr} {ea15 : Addr} {s : Session} {t : Session} {a : Int} {b : Int} {stream : Int} (h_s_opn : Sl w eI 1 s_opn_a s.opn) (k_s_opn : s.opn.length ≤ s_opn_c) (h_t_opn : Sl w eI 1 t_opn_a t.opn) (k_t_opn : t.opn.length ≤ t_opn_c) (hG : Gl w) (hE : Er w ea0 ea1 ea2 ea3 ea4 ea5 ea6 ea7 ea8 ea9 ea10 ea11 ea12 ea13 ea14 ea15) : Ha Tryz.prog 7 [(Value.agg [(vi s.phase), (vt s.name), (vi s.handle.slot), (vi s.handle.gen), (vi s.a), (vi s.b), (vs s_opn_a s.opn.length s_opn_c)].toArray), (Value.agg [(vi t.phase), (vt t.name), (vi t.handle.slot), (vi t.handle.gen), (vi t.a), (vi t.b), (vs t_opn_a t.opn.length t_opn_c)].toArray), (vi a), (vi b), (vi stream)] w (Value.bool (Kb s t a b stream)) := by
 have hF := Is.refl (Kb s t a b stream)
 refine enter func7 ntmps7 (h := ?_)
 refine Z2 ?_
 refine Ak Ag oH (k := fun r1 hr1 => ?_)
 refine Ak Ag oH (k := fun r2 hr2 => ?_)
 refine Z1 ?_
 refine A7 ?_
 refine Z1 ?_
 refine A0 ?_
 rintro w1_1 e1_1 w2_1 hw1_1 ⟨a1_1, c1_1, B1_1, he_1, hf_1, ho1_1, hl1_1⟩
 refine ⟨_, _, he_1, hw1_1.fresh hf_1, ?_⟩
 have hct_14047 := Me s; have hcq_14047 := Pw s
 refine vP ?_
 refine rE ?_
 refine Kq (Ac call11) (fun w1 hw1 => uU w1 (s := t) (h_s_opn := (Cl.of_base h_t_opn) w1 hw1) (k_s_opn := z1)) (k := ?_)
 rintro w1_2 e1_2 w2_2 hw1_2 ⟨a1_2, c1_2, B1_2, he_2, hf_2, ho1_2, hl1_2⟩
 refine ⟨_, _, he_2, hw1_2.fresh hf_2, ?_⟩
 have hct_96440 := Me t; have hcq_96440 := Pw t
 refine vP ?_
 refine Hp ?_
 refine Kq (Ac call23) (fun w1 hw1 => uR w1 (a := a) (b := b) (hG := hG.ext hw1.ext_out) (hE := hE.ext hw1.ext_out)) (k := ?_)
 rintro w1_3 e1_3 w2_3 hw1_3 ⟨a1_3, c1_3, B_3, he_3, hf_3, hs1_3, hl1_3⟩
 refine ⟨_, _, he_3, hw1_3.fresh hf_3, ?_⟩
 refine Kf ?_
 refine Ak Ag mG (k := fun r3 hr3 => ?_)
 refine lS ?_
 refine Ji ?_
 refine Kq (Ac call24) (fun w1 hw1 => AA7 w1 (a := a) (b := b)) (k := ?_)
 rintro w1_4 e1_4 w2_4 hw1_4 ⟨a1_4, c1_4, B_4, he_4, hf_4, hs1_4, hl1_4⟩
 refine ⟨_, _, he_4, hw1_4.fresh hf_4, ?_⟩
 refine Kf ?_
 refine Ak Ag mG (k := fun r4 hr4 => ?_)
 refine lS ?_
 refine Z1 ?_
 refine rE ?_
 refine Ck ?_
 refine Kq (Ac call21) (fun w1 hw1 => eV w1 (s := (Am s)) (stream := stream) (h_s_opn := (ho1_1.slj Ba) w1 hw1) (n_s_opn := z1) (hG := hG.ext hw1.ext_out) (hE := hE.ext hw1.ext_out)) (k := ?_)
 rintro w1_5 e1_5 w2_5 hw1_5 ⟨a1_5, c1_5, B_5, he_5, hf_5, hs1_5, hl1_5⟩
 refine ⟨_, _, he_5, hw1_5.fresh hf_5, ?_⟩
 refine Kf ?_
 refine Ak Ag mG (k := fun r5 hr5 => ?_)
 refine lS ?_
 refine Z1 ?_
 refine rE ?_
 refine Ck ?_
 refine Kq (Ac call25) (fun w1 hw1 => uZ w1 (s := (Am s)) (stream := stream) (h_s_opn := (ho1_1.slj Ba) w1 hw1) (n_s_opn := z1)) (k := ?_)
 rintro w1_6 e1_6 w2_6 hw1_6 ⟨a1_6, c1_6, B_6, he_6, hf_6, hs1_6, hl1_6⟩
 refine ⟨_, _, he_6, hw1_6.fresh hf_6, ?_⟩
 refine Kf ?_
 refine Ak Ag mG (k := fun r6 hr6 => ?_)
 refine lS ?_
 refine Ik ?_
 refine Eh mixed 52 [(true, 0), (true, 1), (true, 2), (true, 3), (false, 4), (true, 5), (true, 6), (true, 7), (true, 8), (true, 9), (true, 10), (true, 11), (true, 12), (true, 14), (false, 13), (false, 15), (true, 16), (true, 17), (true, 18), (true, 19), (true, 20), (true, 22), (true, 23), (false, 21), (false, 24), (true, 25), (true, 26), (true, 27), (true, 28), (true, 29), (false, 30), (true, 31), (true, 32), (true, 33), (true, 34), (true, 36), (true, 37), (false, 35), (false, 38), (true, 39), (true, 40), (true, 41), (true, 42), (true, 43), (false, 44), (true, 45), (true, 46), (true, 47), (true, 48), (true, 49), (true, 50), (true, 51)] z2 ?_
 refine Li ?_
 refine Fp 50 rfl (fun hq1 => ?_) (fun hq1 => ?_)
 rotate_left
 ·refine Ay 3 rfl ?_
  refine Ni ?_
  refine oI ?_
  refine Ay 5 rfl ?_
  refine cW ?_
  refine Ni ?_
  refine cW ?_
  refine Ni ?_
  refine Ni ?_
  refine Ks ?_
  refine Aa results7 z0 (fun w1 hw1 => ?_)
  exact ⟨(rq (hF.f hq1)), hw1.ext_out⟩
 refine vJ ?_
 refine Ms (Ac call26) (fun w1 hw1 => eE w1 (a := ((Df a b).1)) (b := ((Oc a b).1)) (h_a_opn := (Hd.slj hs1_3) w1 hw1) (n_a_opn := z1) (h_b_opn := (Hd.slj hs1_4) w1 hw1) (n_b_opn := z1)) (k := ?_)
 refine eJ ?_
 refine Fp 55 rfl (fun hq2 => ?_) (fun hq2 => ?_)
 rotate_left
 ·refine Ay 3 rfl ?_
  refine oI ?_
  refine Ay 5 rfl ?_
  refine cW ?_
  refine Ni ?_
  refine cW ?_
  refine Ni ?_
  refine Ni ?_
  refine Ks ?_
  refine Aa results7 z0 (fun w1 hw1 => ?_)
  exact ⟨(rq ((hF.t hq1).f hq2)), hw1.ext_out⟩
 refine Ht ?_
 refine Ht ?_
 refine fT ?_
 refine eJ ?_
 refine Dg 60 rfl (fun hq3 => ?_) (fun hq3 => ?_)
 rotate_left
 ·refine Ay 5 rfl ?_
  refine cW ?_
  refine Ni ?_
  refine cW ?_
  refine Ni ?_
  refine Ni ?_
  refine Ks ?_
  refine Aa results7 z0 (fun w1 hw1 => ?_)
  exact ⟨(rq (((hF.t hq1).t hq2).neg hq3)), hw1.ext_out⟩
 refine vJ ?_
 refine Ms (Ac call22) (fun w1 hw1 => Pv w1 (s := (Am s)) (h_s_opn := (ho1_1.slj Ba) w1 hw1) (n_s_opn := z1)) (k := ?_)
 refine Ms (Ac call27) (fun w1 hw1 => kU w1 (s := (Am s)) (h_s_opn := (ho1_1.slj Ba) w1 hw1) (n_s_opn := z1)) (k := ?_)
 refine wL ?_
 refine eJ ?_
 refine Fp 67 rfl (fun hq4 => ?_) (fun hq4 => ?_)
 rotate_left
 ·refine Ay 7 rfl ?_
  refine Ni ?_
  refine cW ?_
  refine Ni ?_
  refine Ni ?_
  refine Ks ?_
  refine Aa results7 z0 (fun w1 hw1 => ?_)
  exact ⟨(rq ((((hF.t hq1).t hq2).pos hq3).f hq4)), hw1.ext_out⟩
 refine vJ ?_
 refine vJ ?_
 refine Ms (Ac call28) (fun w1 hw1 => Xa w1 (a := (Am s)) (b := (Am t)) (h_a_opn := (ho1_1.slj Ba) w1 hw1) (n_a_opn := z1) (h_b_opn := (ho1_2.slj Ba) w1 hw1) (n_b_opn := z1)) (k := ?_)
 refine Ms (Ac call26) (fun w1 hw1 => eE w1 (a := (Am s)) (b := (Am t)) (h_a_opn := (ho1_1.slj Ba) w1 hw1) (n_a_opn := z1) (h_b_opn := (ho1_2.slj Ba) w1 hw1) (n_b_opn := z1)) (k := ?_)
 refine wL ?_
 refine eJ ?_
 refine Fp 76 rfl (fun hq5 => ?_) (fun hq5 => ?_)
 rotate_left
 ·refine Ay 3 rfl ?_
  refine cW ?_
  refine Ni ?_
  refine Ni ?_
  refine Ks ?_
  refine Aa results7 z0 (fun w1 hw1 => ?_)
  exact ⟨(rq (((((hF.t hq1).t hq2).pos hq3).t hq4).f hq5)), hw1.ext_out⟩
 refine vJ ?_
 refine Ms (Ac call28) (fun w1 hw1 => Xa w1 (a := (Am s)) (b := (Am s)) (h_a_opn := (ho1_1.slj Ba) w1 hw1) (n_a_opn := z1) (h_b_opn := (ho1_1.slj Ba) w1 hw1) (n_b_opn := z1)) (k := ?_)
 refine eJ ?_
 refine Fp 81 rfl (fun hq6 => ?_) (fun hq6 => ?_)
 rotate_left
 ·refine Ay 7 rfl ?_
  refine Ni ?_
  refine Ni ?_
  refine Ks ?_
  refine Aa results7 z0 (fun w1 hw1 => ?_)
  exact ⟨(rq ((((((hF.t hq1).t hq2).pos hq3).t hq4).t hq5).f hq6)), hw1.ext_out⟩
 refine rV ?_
 refine rV ?_
 refine Ms (Ac call20) (fun w1 hw1 => Ld w1 (s := (Am s)) (stream := stream) (h_s_opn := (ho1_1.slj Ba) w1 hw1) (n_s_opn := z1)) (k := ?_)
 refine Ms (Ac call29) (fun w1 hw1 => uY w1 (s := (Am s)) (stream := stream) (h_s_opn := (ho1_1.slj Ba) w1 hw1) (n_s_opn := z1)) (k := ?_)
 refine wL ?_
 refine eJ ?_
 refine Fp 90 rfl (fun hq7 => ?_) (fun hq7 => ?_)
 rotate_left
 ·refine Ay 3 rfl ?_
  refine Ni ?_
  refine Ks ?_
  refine Aa results7 z0 (fun w1 hw1 => ?_)
  exact ⟨(rq (((((((hF.t hq1).t hq2).pos hq3).t hq4).t hq5).t hq6).f hq7)), hw1.ext_out⟩
 refine vJ ?_
 refine Ms (Ac call26) (fun w1 hw1 => eE w1 (a := ((Fj (Am s) stream).1)) (b := ((Fy (Am s) stream).1)) (h_a_opn := (Hd.slj hs1_5) w1 hw1) (n_a_opn := z1) (h_b_opn := (Hd.slj hs1_6) w1 hw1) (n_b_opn := z1)) (k := ?_)
 refine eJ ?_
 refine Fp 95 rfl (fun hq8 => ?_) (fun hq8 => ?_)
 rotate_left
 ·refine Ay 3 rfl ?_
  refine Ks ?_
  refine Aa results7 z0 (fun w1 hw1 => ?_)
  exact ⟨(rq ((((((((hF.t hq1).t hq2).pos hq3).t hq4).t hq5).t hq6).t hq7).f hq8)), hw1.ext_out⟩
 refine Ht ?_
 refine Ht ?_
 refine fT ?_
 refine rK ?_
 refine Aa results7 z0 (fun w1 hw1 => ?_)
 exact ⟨(rq ((((((((hF.t hq1).t hq2).pos hq3).t hq4).t hq5).t hq6).t hq7).t hq8)), hw1.ext_out⟩

end Go.Proofs.YtdnjanhdnibkfaaGreatDoor.Jd

namespace Go.Proofs.YtdnjanhdnibkfaaGreatDoor.Jd
open Go.Proofs.Tryz
open Go.Proofs
set_option maxRecDepth 100000
set_option linter.unusedVariables false
set_option linter.unusedSimpArgs false
theorem fB (s : Session) (n : Int) : ∀ f i, Sc s n f i = Nd s n f i
  | 0, i => rfl
  | f + 1, i => by unfold Sc Nd; rw [fB s n f (i + 1)]
theorem vA (s : Session) (n : Int) : oG s n = Dp s n := by unfold oG Dp; rw [fB]
theorem Nw (l : List Int) (n : Int) : ∀ f out i, l.length < i + f → i ≤ l.length → (Gz l n f out i).1 = out ++ (l.drop i).filter (· ≠ n)
  | 0, out, i, h1, h2 => by omega
  | f + 1, out, i, h1, h2 => by
    unfold Gz
    by_cases hi : i < l.length
    rotate_left
    · rw [if_neg z3, List.drop_eq_nil_of_le z3]; simp
    rw [if_pos z3, Hx hi]
    by_cases e : l.getD i default = n
    · rw [if_neg (by simpa using e), Nw l n f out (i + 1) z3 z3, List.filter_cons_of_neg (by simpa using e)]
    · rw [if_pos e, Nw l n f _ (i + 1) z3 z3, List.filter_cons_of_pos (by simpa using e)]; simp
theorem rA (l : List Int) (n : Int) : Mi l n = l.filter (· ≠ n) := by
  have h := Nw l n (l.length + 1) [] 0 z3 z3
  unfold Mi
  generalize Gz l n (l.length + 1) [] 0 = y at h
  obtain ⟨y1, y2⟩ := y
  simpa [Iu] using h
end Go.Proofs.YtdnjanhdnibkfaaGreatDoor.Jd

namespace Go.Proofs.YtdnjanhdnibkfaaGreatDoor.Jd
open Go.Proofs.Tryz
open Go.Proofs
set_option maxRecDepth 100000
set_option linter.unusedVariables false
set_option linter.unusedSimpArgs false
theorem Yg (a b : List Int) : ∀ n i, Pd a b n i = Jf a b n i
  | 0, i => rfl
  | n + 1, i => by unfold Pd Jf; rw [Yg a b n (i + 1)]
theorem yG (a b : List Int) : kT a b = eqI a b := by unfold kT eqI; rw [Yg]
theorem I6 (a b : Session) : Zu a b = Nv a b := by unfold Zu Nv; rw [yG]
theorem Yh (s : Session) : ∀ n q i, Mf s n q i = Fk s n q i
  | 0, q, i => rfl
  | n + 1, q, i => by unfold Mf Fk; rw [Yh s n]
theorem Yi (s : Session) : ∀ n q i, Mg s n q i = Fk s n q i
  | 0, q, i => rfl
  | n + 1, q, i => by unfold Mg Fk; rw [Yi s n]
theorem Yj (s : Session) : ∀ n q i, Mh s n q i = Fk s n q i
  | 0, q, i => rfl
  | n + 1, q, i => by unfold Mh Fk; rw [Yj s n]
theorem Ts (s : Session) : ∀ n i q, s.opn.length < i + n → i ≤ s.opn.length → (((q :: s.opn.drop i).Pairwise (· < ·) ∧ ∀ x ∈ s.opn.drop i, x ≤ 65535) ∧ ∃ z, Fk s n q i = .ok z) ∨ (¬ ((q :: s.opn.drop i).Pairwise (· < ·) ∧ ∀ x ∈ s.opn.drop i, x ≤ 65535) ∧ Fk s n q i = .error false)
  | 0, i, q, h1, h2 => by omega
  | n + 1, i, q, h1, h2 => by
    unfold Fk
    by_cases hi : i < s.opn.length
    rotate_left
    · rw [if_neg z3, List.drop_eq_nil_of_le z3]
      exact .inl ⟨⟨List.pairwise_singleton _ _, fun x hx => (by cases hx)⟩, _, rfl⟩
    rw [if_pos z3, Hx hi]
    by_cases hq : s.opn.getD i default ≤ q
    · rw [if_pos hq]
      refine .inr ⟨fun h => ?_, rfl⟩
      have := (List.pairwise_cons.1 h.1).1 _ List.mem_cons_self
      omega
    rw [if_neg hq]
    by_cases hm : 65535 < s.opn.getD i default
    · rw [if_pos hm]
      refine .inr ⟨fun h => ?_, rfl⟩
      have := h.2 _ List.mem_cons_self
      omega
    rw [if_neg hm]
    rcases Ts s n (i + 1) (s.opn.getD i default) z3 z3 with ⟨⟨g1, g3⟩, z, g2⟩ | ⟨g1, g2⟩
    · refine .inl ⟨⟨List.pairwise_cons.2 ⟨fun x hx => ?_, g1⟩, fun x hx => ?_⟩, z, g2⟩
      · rcases List.mem_cons.1 hx with rfl | hx
        · omega
        · have := (List.pairwise_cons.1 g1).1 x hx; omega
      · rcases List.mem_cons.1 hx with rfl | hx
        · omega
        · exact g3 x hx
    · exact .inr ⟨fun h => g1 ⟨(List.pairwise_cons.1 h.1).2, fun x hx => h.2 x (List.mem_cons_of_mem _ hx)⟩, g2⟩
theorem I7 (s : Session) : (Gu (Fk s (s.opn.length + 1) 0 0) (fun r => r) (fun last_1 i_2 => decide (((s.opn.length : Nat) : Int) ≤ 8))) = Eg s.opn := by
  rw [Bool.eq_iff_iff, Hm]
  rcases Ts s (s.opn.length + 1) 0 0 z3 z3 with ⟨⟨g1, g3⟩, ⟨z1, z2⟩, g2⟩ | ⟨g1, g2⟩
  · rw [g2]
    rw [List.drop_zero] at g1 g3
    simp only [Gu, decide_eq_true_iff]
    exact ⟨fun h => ⟨g1, g3, by omega⟩, fun h => by have := h.len; omega⟩
  · rw [g2]
    rw [List.drop_zero] at g1
    simp only [Gu, Bool.false_eq_true, false_iff]
    exact fun h => g1 ⟨h.up, h.most⟩
theorem kV (s : Session) : Xb s = Fv s := by
  rw [Bool.eq_iff_iff, Fm]
  unfold Xb
  simp only [Yh, Yi, Yj, I7]
  constructor
  · intro h
    by_cases a1 : s.phase < 0
    · rw [if_pos a1] at h; cases h
    rw [if_neg a1] at h
    by_cases a2 : 3 < s.phase
    · rw [if_pos a2] at h; cases h
    rw [if_neg a2] at h
    by_cases a3 : s.a < 0
    · rw [if_pos a3] at h; cases h
    rw [if_neg a3] at h
    by_cases a4 : 2147483647 < s.a
    · rw [if_pos a4] at h; cases h
    rw [if_neg a4] at h
    by_cases a5 : s.b < 0
    · rw [if_pos a5] at h; cases h
    rw [if_neg a5] at h
    by_cases a6 : 2147483647 < s.b
    · rw [if_pos a6] at h; cases h
    rw [if_neg a6] at h
    by_cases q1 : s.phase = 1
    · rw [if_pos q1] at h
      by_cases b1 : 64 < ((s.name.length : Nat) : Int)
      · rw [if_pos b1] at h; cases h
      rw [if_neg b1] at h
      by_cases b2 : s.name = []
      · rw [if_pos (by simp [b2])] at h; cases h
      rw [if_neg (by simp [b2]), if_pos z3] at h
      by_cases b3 : s.handle.slot = 0 ∧ s.handle.gen = 0
      rotate_left
      · rw [if_pos b3] at h; cases h
      rw [if_neg (fun h => h b3)] at h
      by_cases b4 : 0 < ((s.opn.length : Nat) : Int)
      · rw [if_pos b4] at h; cases h
      rw [if_neg b4] at h
      exact ⟨by omega, by omega, by omega, by omega, ⟨fun _ => .inl q1, fun _ => b2⟩, fun _ => ⟨b3, List.eq_nil_of_length_eq_zero z3⟩, (Hm _).1 h⟩
    · rw [if_neg q1] at h
      by_cases b1 : 64 < ((s.name.length : Nat) : Int)
      · rw [if_pos b1] at h; cases h
      rw [if_neg b1] at h
      by_cases q2 : s.phase = 2
      · by_cases b2 : s.name = []
        · rw [if_pos (by simp [b2, q2])] at h; cases h
        rw [if_neg (by simp [b2, q2]), if_neg z3] at h
        exact ⟨by omega, by omega, by omega, by omega, ⟨fun _ => .inr q2, fun _ => b2⟩, fun h2 => absurd q2 h2, (Hm _).1 h⟩
      · by_cases b2 : s.name = []
        rotate_left
        · rw [if_pos (by simp [b2, q2])] at h; cases h
        rw [if_neg (by simp [b2, q2]), if_pos q2] at h
        by_cases b3 : s.handle.slot = 0 ∧ s.handle.gen = 0
        rotate_left
        · rw [if_pos b3] at h; cases h
        rw [if_neg (fun h => h b3)] at h
        by_cases b4 : 0 < ((s.opn.length : Nat) : Int)
        · rw [if_pos b4] at h; cases h
        rw [if_neg b4] at h
        exact ⟨by omega, by omega, by omega, by omega, ⟨fun h2 => absurd b2 h2, fun h2 => by rcases h2 with h2 | h2 <;> omega⟩, fun _ => ⟨b3, List.eq_nil_of_length_eq_zero z3⟩, (Hm _).1 h⟩
  · rintro ⟨h1, h2, h3, h4, h5, h6, h7⟩
    have hs := (Hm _).2 h7
    rw [if_neg z3, if_neg z3, if_neg z3, if_neg z3, if_neg z3, if_neg z3]
    by_cases q1 : s.phase = 1
    · have hn : s.name ≠ [] := h5.2 (.inl q1)
      obtain ⟨g1, g2⟩ := h6 z3
      rw [if_pos q1, if_neg z3, if_neg (by simp [hn]), if_pos z3, if_neg (fun h => h g1), if_neg (by rw [g2]; simp)]
      exact hs
    · rw [if_neg q1, if_neg z3]
      by_cases q2 : s.phase = 2
      · have hn : s.name ≠ [] := h5.2 (.inr q2)
        rw [if_neg (by simp [hn, q2]), if_neg z3]
        exact hs
      · have hn : s.name = [] := Classical.byContradiction fun h => by rcases h5.1 h with h | h <;> omega
        obtain ⟨g1, g2⟩ := h6 q2
        rw [if_neg (by simp [hn, q2]), if_pos q2, if_neg (fun h => h g1), if_neg (by rw [g2]; simp)]
        exact hs
theorem vB (s : Session) (n : Int) : Fy s n = Fj s n := by
  rw [eY]
  unfold Fy
  rw [kV, vA, rA]
  cases Fv s <;> cases Dp s n <;> rfl
theorem AA8 (a b : Int) : Oc a b = Df a b := by unfold Oc Df; rfl
end Go.Proofs.YtdnjanhdnibkfaaGreatDoor.Jd

namespace Go.Proofs.YtdnjanhdnibkfaaGreatDoor.Jd
open Go.Proofs.Tryz
set_option maxRecDepth 100000
set_option linter.unusedVariables false
set_option linter.unusedSimpArgs false
theorem Zv (s t : Session) (a b stream : Int) : Kb s t a b stream = true := by
  unfold Kb
  simp only [Jo, if_true, AA8, kV, vA, vB, I6]
  have e : ∀ x : Session, Nv x x = true := fun x => (Zi x x).2 rfl
  simp [e]
end Go.Proofs.YtdnjanhdnibkfaaGreatDoor.Jd

