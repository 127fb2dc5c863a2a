/- Part of the proofs of this seat: walks and plain facts. No condition. -/
import Derived.Test.YtopjaeoklkpcpaaGreatDoorP0
import Derived.Laws.StructEq
import Derived.Test.YtopjaeoklkpcpaaGreatDoorProg
import Derived.Test.YtopjaeoklkpcpaaGreatDoorP5
import Derived.Test.YtopjaeoklkpcpaaGreatDoorP1
import Derived.Test.YtopjaeoklkpcpaaGreatDoorP2
import Derived.Test.YtopjaeoklkpcpaaGreatDoorP3
import Derived.Test.YtopjaeoklkpcpaaGreatDoorP6
import Derived.Test.YtopjaeoklkpcpaaGreatDoorP8
import Derived.Test.YtopjaeoklkpcpaaGreatDoorP4
namespace Go.Proofs.YtopjaeoklkpcpaaGreatDoor.Jd
set_option linter.unusedVariables false
set_option linter.unusedSimpArgs false
section
variable {p q : Prop}
theorem Z46 (k : q) (h : Hid q → p := by intro z; refine J_plan mixed 29 [(true, 0), (true, 1), (true, 2), (true, 3), (true, 4), (true, 5), (true, 6), (true, 7), (true, 8), (true, 9), (true, 10), (true, 11), (true, 12), (true, 13), (true, 14), (true, 15), (true, 16), (true, 17), (true, 18), (true, 19), (true, 20), (true, 21), (true, 22), (true, 23), (true, 24), (true, 25), (true, 26), (true, 27), (true, 28)] (by kernel_rfl) ?_; refine Z483 ?_; exact z.1) : p := h ⟨k⟩
theorem Z47 (k : q) (h : Hid q → p := by intro z; refine J_subL _ (sd (sx (sx (sa (sk (sa (sa (sk sz)))))))) ?_; refine Z486 ?_; exact z.1) : p := h ⟨k⟩
theorem Z73 (k : q) (h : Hid q → p := by intro z; refine Z50 ?_; refine JL_p (c_callA Tryz.call28) (fun w1 hw1 => gNames_ok w1 (r := (gCut r)) (h_r_slots_gens := (SlJ.take (SlJ.of_base h_r_slots_gens) _) w1 hw1) (n_r_slots_gens := by first | omega | (simp; done) | exact Nat.le_trans (by assumption) (by decide)) (h_r_slots_used := (SlJ.take (SlJ.of_base h_r_slots_used) _) w1 hw1) (n_r_slots_used := by first | omega | (simp; done) | exact Nat.le_trans (by assumption) (by decide)) (h_r_slots_free := (SlJ.take (SlJ.of_base h_r_slots_free) _) w1 hw1) (n_r_slots_free := by first | omega | (simp; done) | exact Nat.le_trans (by assumption) (by decide)) (h_r_l := (SlNB.j hs1_1.1 sh).2 w1 hw1) (n_r_l := by first | omega | (simp; done) | exact Nat.le_trans (by assumption) (by decide)) (k_r_l := hs1_1.2)) (k := ?_); exact z.1) : p := h ⟨k⟩
theorem Z221 (k : q) (h : Hid q → p := by intro z; refine J_seq ?_; refine Z47 ?_; refine Z105 ?_; exact z.1) : p := h ⟨k⟩
theorem Z264 (k : q) (h : Hid q → p := by intro z; refine JD_qg (q_lenS Tryz.runUnderlying26) (k := ?_); refine JD_qg q_geq (k := ?_); exact z.1) : p := h ⟨k⟩
theorem Z287 (k : q) (h : Hid q → p := by intro z; refine Z286 ?_; refine Z221 ?_; exact z.1) : p := h ⟨k⟩
theorem Z329 (k : q) (h : Hid q → p := by intro z; refine JD_qg (q_neS (NE_42 _ _ _ _ _ _)) (k := ?_); refine Z166 ?_; exact z.1) : p := h ⟨k⟩
theorem Z330 (k : q) (h : Hid q → p := by intro z; refine JG_q 6 rfl (by kernel_rfl) q_move (k := ?_); refine JG_q 7 rfl (by kernel_rfl) q_ext (k := ?_); refine JG_q 8 rfl (by kernel_rfl) q_ext (k := ?_); exact z.1) : p := h ⟨k⟩
theorem Z334 (k : q) (h : Hid q → p := by intro z; refine JD_qg (q_idx (n := (gNames (gCut r)).length) Tryz.runUnderlying66 Tryz.sizeOf9 i_9 (ho1_527.slj eS_ok) (gD (by first | exact ix)) (by first | rfl | simp)) (k := ?_); refine JD_qg (q_loadE Tryz.isAgg9 i_9 0 (ho1_527.slj eS_ok) (gD (by first | exact ix))) (k := ?_); exact z.1) : p := h ⟨k⟩
theorem Z335 (k : q) (h : Hid q → p := by intro z; refine JD_qg (q_idx (n := (gNames (gCut r)).length) Tryz.runUnderlying66 Tryz.sizeOf9 i_5 (ho1_265.slj eS_ok) (gD (by first | exact ix)) (by first | rfl | simp)) (k := ?_); refine JD_qg (q_loadE Tryz.isAgg9 i_5 0 (ho1_265.slj eS_ok) (gD (by first | exact ix))) (k := ?_); exact z.1) : p := h ⟨k⟩
theorem Z340 (k : q) (h : Hid q → p := by intro z; refine JD_qg (q_idx (n := (gNames (gCut r)).length) Tryz.runUnderlying66 Tryz.sizeOf9 i_1 (ho1_3.slj eS_ok) (gD (by first | exact ix)) (by first | rfl | simp)) (k := ?_); refine JD_qg (q_loadE Tryz.isAgg9 i_1 0 (ho1_3.slj eS_ok) (gD (by first | exact ix))) (k := ?_); exact z.1) : p := h ⟨k⟩
theorem Z347 (k : q) (h : Hid q → p := by intro z; refine J_any (V := []) mixed 12 (by kernel_rfl) ?_; refine JG_q 0 rfl (by kernel_rfl) (q_loadA Tryz.isAgg28 Tryz.sizeOf28) (k := ?_); exact z.1) : p := h ⟨k⟩
theorem Z363 (k : q) (h : Hid q → p := by intro z; refine JD_q q_not (k := ?_); refine Z483 ?_; exact z.1) : p := h ⟨k⟩
theorem Z387 (k : q) (h : Hid q → p := by intro z; refine JD_qg (q_idx (n := (gCut r).l.length) Tryz.runUnderlying26 Tryz.sizeOf52 i_1 (SlNB.j hs1_1.1 sh).sl (zip_get hs1_1.1.1 (by first | exact ix)) (zip_len hs1_1.1.1)) (k := ?_); refine JD_qg (q_fldE FO_52_0) (k := ?_); exact z.1) : p := h ⟨k⟩
theorem Z388 (k : q) (h : Hid q → p := by intro z; refine JD_qg (q_idx (n := (gCut r).l.length) Tryz.runUnderlying26 Tryz.sizeOf52 i_9 (SlNB.j hs1_1.1 sh).sl (zip_get hs1_1.1.1 (by first | exact ix)) (zip_len hs1_1.1.1)) (k := ?_); refine JD_qg (q_fldE FO_52_0) (k := ?_); exact z.1) : p := h ⟨k⟩
theorem Z389 (k : q) (h : Hid q → p := by intro z; refine JD_qg (q_idx (n := (gCut r).l.length) Tryz.runUnderlying26 Tryz.sizeOf52 i_5 (SlNB.j hs1_1.1 sh).sl (zip_get hs1_1.1.1 (by first | exact ix)) (zip_len hs1_1.1.1)) (k := ?_); refine JD_qg (q_fldE FO_52_0) (k := ?_); exact z.1) : p := h ⟨k⟩
theorem Z408 (k : q) (h : Hid q → p := by intro z; refine Z54 ?_; refine JD_skips 9 rfl ?_; refine Z287 ?_; exact z.1) : p := h ⟨k⟩
theorem Z421 (k : q) (h : Hid q → p := by intro z; refine JG_q 1 rfl (by kernel_rfl) q_move (k := ?_); refine JG_q 2 rfl (by kernel_rfl) q_move (k := ?_); exact z.1) : p := h ⟨k⟩
theorem Z448 (k : q) (h : Hid q → p := by intro z; refine Z485 ?_; refine Z99 ?_; exact z.1) : p := h ⟨k⟩
theorem Z456 (k : q) (h : Hid q → p := by intro z; refine JD_qg q_neT (k := ?_); refine Z23 ?_; exact z.1) : p := h ⟨k⟩
theorem Z474 (k : q) (h : Hid q → p := by intro z; refine JG_q 11 rfl (by kernel_rfl) q_assign (k := ?_); refine Z505 ?_; refine JL_eqL (nC nE) ?_; exact z.1) : p := h ⟨k⟩
theorem Z475 (k : q) (h : Hid q → p := by intro z; refine JD_skips 5 rfl ?_; refine Z408 ?_; exact z.1) : p := h ⟨k⟩
theorem Z480 (k : q) (h : Hid q → p := by intro z; refine Z489 ?_; refine JL_qg (q_lenS Tryz.runUnderlying66) (k := ?_); exact z.1) : p := h ⟨k⟩
theorem Z536 (k : q) (h : Hid q → p := by intro z; refine J_subL _ (sd (sk (sa (sa (sk sz))))) ?_; exact z.1) : p := h ⟨k⟩
theorem Z537 (k : q) (h : Hid q → p := by intro z; refine JO_p rfl (c_callA Tryz.call20) (fun w1 hw1 => gFind_ok w1 (r := (gCut r)) (name := ((gNames (gCut r)).getD i_1 default)) (h_r_slots_gens := (SlJ.take (SlJ.of_base h_r_slots_gens) _) w1 hw1) (n_r_slots_gens := by first | omega | (simp; done) | exact Nat.le_trans (by assumption) (by decide)) (h_r_slots_used := (SlJ.take (SlJ.of_base h_r_slots_used) _) w1 hw1) (n_r_slots_used := by first | omega | (simp; done) | exact Nat.le_trans (by assumption) (by decide)) (h_r_slots_free := (SlJ.take (SlJ.of_base h_r_slots_free) _) w1 hw1) (n_r_slots_free := by first | omega | (simp; done) | exact Nat.le_trans (by assumption) (by decide)) (h_r_l := (SlNB.j hs1_1.1 sh).2 w1 hw1) (n_r_l := by first | omega | (simp; done) | exact Nat.le_trans (by assumption) (by decide)) (k_r_l := hs1_1.2) (hsm := by first | assumption | exact Small.nil)) (k := ?_); exact z.1) : p := h ⟨k⟩
theorem Z538 (k : q) (h : Hid q → p := by intro z; refine JO_p rfl (c_callA Tryz.call20) (fun w1 hw1 => gFind_ok w1 (r := (gCut r)) (name := ((gNames (gCut r)).getD i_9 default)) (h_r_slots_gens := (SlJ.take (SlJ.of_base h_r_slots_gens) _) w1 hw1) (n_r_slots_gens := by first | omega | (simp; done) | exact Nat.le_trans (by assumption) (by decide)) (h_r_slots_used := (SlJ.take (SlJ.of_base h_r_slots_used) _) w1 hw1) (n_r_slots_used := by first | omega | (simp; done) | exact Nat.le_trans (by assumption) (by decide)) (h_r_slots_free := (SlJ.take (SlJ.of_base h_r_slots_free) _) w1 hw1) (n_r_slots_free := by first | omega | (simp; done) | exact Nat.le_trans (by assumption) (by decide)) (h_r_l := (SlNB.j hs1_1.1 sh).2 w1 hw1) (n_r_l := by first | omega | (simp; done) | exact Nat.le_trans (by assumption) (by decide)) (k_r_l := hs1_1.2) (hsm := by first | assumption | exact Small.nil)) (k := ?_); exact z.1) : p := h ⟨k⟩
theorem Z539 (k : q) (h : Hid q → p := by intro z; refine JO_p rfl (c_callA Tryz.call20) (fun w1 hw1 => gFind_ok w1 (r := (gCut r)) (name := ((gNames (gCut r)).getD i_5 default)) (h_r_slots_gens := (SlJ.take (SlJ.of_base h_r_slots_gens) _) w1 hw1) (n_r_slots_gens := by first | omega | (simp; done) | exact Nat.le_trans (by assumption) (by decide)) (h_r_slots_used := (SlJ.take (SlJ.of_base h_r_slots_used) _) w1 hw1) (n_r_slots_used := by first | omega | (simp; done) | exact Nat.le_trans (by assumption) (by decide)) (h_r_slots_free := (SlJ.take (SlJ.of_base h_r_slots_free) _) w1 hw1) (n_r_slots_free := by first | omega | (simp; done) | exact Nat.le_trans (by assumption) (by decide)) (h_r_l := (SlNB.j hs1_1.1 sh).2 w1 hw1) (n_r_l := by first | omega | (simp; done) | exact Nat.le_trans (by assumption) (by decide)) (k_r_l := hs1_1.2) (hsm := by first | assumption | exact Small.nil)) (k := ?_); exact z.1) : p := h ⟨k⟩
end
open Go.RowKit (Below)
section
variable {P : Program} {rd : Option Nat} {b0 : World} {Mk : List Nat} {N : Nat} {D : List Deferred} {ops : Array Oper} {L V : Heap} {E : Env} {T : Act → World → Prop}
variable {op : Op} {ty : TypeId} {pos : String} {after : Array Edge} {d : Nat}

theorem JO_p {l : List Oper} {n f' : Nat} {listed : Array Bool} {i : Nat} {f : FuncId} {args : List Value} {R : World → Ending → World → Prop} (hi : l[i]? = some { dst := some d, op := op, type := ty, pos := pos, after := after, guard := none }) (hc : RunC P N D b0 Mk L E op ty f args)
    (h : ∀ w, SH b0 Mk L w → Calls P f args.toArray w (R w)) (hn : notDeferOp op = true := by rfl) (hd : Nat.blt d N = true := by rfl)
    (k : ∀ w e w', SH b0 Mk L w → R w e w' → ∃ v B L', e = .returned v ∧ Fresh w w' B ∧ L' = B ++ L ∧ JG P rd b0 Mk N D l n f' (listed.setIfInBounds i true) L' V ((d, v) :: E) T) : JO P rd b0 Mk N D l n f' listed L V E T i := by
  intro hg inv a w ha hw
  have hi' : l.toArray[i]? = some { dst := some d, op := op, type := ty, pos := pos, after := after, guard := none } := by simpa using hi
  unfold wpO
  simp only [hi']
  rw [if_pos (by rfl)]
  refine wpIn_enter (notDefer_mk hn) (by rw [execOp_mkO]; exact hc a w ha hw.right) ((h w hw.right).mono fun e w' he => ?_)
  obtain ⟨v, B, L', rfl, h2, rfl, h3⟩ := k w e w' hw.right he
  have h4 := fresh_shV hw h2
  exact ⟨_, rfl, SH b0 Mk (B ++ L), fun y hy => hy.right, h4.right, h3 hg inv _ _ (ha.put hd _) h4⟩

end
section
variable {P : Program} {rd : Option Nat} {b0 : World} {Mk : List Nat} {N : Nat} {D : List Deferred} {ops : Array Oper} {L V : Heap} {E : Env} {T : Act → World → Prop}
variable {op : Op} {ty : TypeId} {pos : String} {after : Array Edge} {d : Nat}

end
end Go.Proofs.YtopjaeoklkpcpaaGreatDoor.Jd

namespace Go.Proofs.YtopjaeoklkpcpaaGreatDoor.Jd
open Go.RowKit (Below)
set_option linter.unusedVariables false
set_option linter.unusedSimpArgs false
def eS (x : Str) : List Value := [.string (bs x)]
theorem eS_ok : EncOk eS 1 := ⟨by omega, fun _ => rfl, fun _ => rfl⟩

end Go.Proofs.YtopjaeoklkpcpaaGreatDoor.Jd

namespace Go.Proofs.YtopjaeoklkpcpaaGreatDoor.Jd
open Go.RowKit (Below)
set_option linter.unusedVariables false
set_option linter.unusedSimpArgs false
section
variable {P : Program} {b0 : World} {Mk : List Nat} {N : Nat} {D : List Deferred} {L V : Heap} {E : Env} {ty : TypeId}
theorem q_loadEP {t : TypeId} {x : Operand} {a : Option Addr} {o n : Nat} {α : Type} {enc : α → List Value} {k : Nat} {xs : List α} {cs : List Value} (hA : ∀ w, (isAgg t).run P w = .ok true w) (hS : ∀ w, (sizeOf t).run P w = .ok n w) (m : Nat) {z : α} (j : Nat) (hs : SlJ b0 Mk L enc k a xs) (hz : xs[m]? = some z)
    (hv : seg (enc z) j n = some cs := by rfl) (hx : ev E x = some (.pointer (some (ea a o))) := by rfl) (ho : o = m * k + j := by first | rfl | omega) :
    RunQ P N D b0 Mk L E (.load t x) ty (.agg cs.toArray) := fun a' w ha hw => by
  obtain ⟨b, off, rfl, hlen, hc⟩ := hs w hw m z hz
  subst ho
  have he : ea (some ⟨b, off, none⟩) (m * k + j) = ⟨b, off + m * k + j, none⟩ := by simp [ea, Nat.add_assoc]
  obtain ⟨h1, h2⟩ := seg_spec _ _ _ _ hv
  have hl : (loadCells ⟨b, off + m * k + j, none⟩ n).run P w = .ok cs.toArray w := by
    rw [← h1]
    exact run_loadCells_list w _ cs fun i v hj => by
      rw [addr_add]
      have := hc (j + i) v (h2 i v hj)
      rw [show off + m * k + j + i = off + m * k + (j + i) by omega]
      exact this
  simp [mkO, execOp, ha.eval hx, Instr.loadAt, Instr.sureAddr, loadVar, hA, hS, he, hl]
end
end Go.Proofs.YtopjaeoklkpcpaaGreatDoor.Jd

namespace Go.Proofs.YtopjaeoklkpcpaaGreatDoor.Jd
open Go.RowKit (Below)
set_option linter.unusedVariables false
set_option linter.unusedSimpArgs false
section
variable {P : Program} {rd : Option Nat} {b0 : World} {Mk : List Nat} {N : Nat} {D : List Deferred} {l : List Oper} {n f : Nat} {listed : Array Bool} {L V : Heap} {E : Env} {T : Act → World → Prop}
variable {op : Op} {ty : TypeId} {pos : String} {after : Array Edge} {v : Value} {d : Nat}
theorem JO_aV {o : Obj} {v : Nat → Value} {i : Nat} (hi : l[i]? = some { dst := some d, op := op, type := ty, pos := pos, after := after, guard := none }) (hM : ∀ k ∈ Mk, k < b0.heap.size) (h : RunA P N D b0 Mk L E op ty o v) (hn : notDeferOp op = true := by rfl) (hd : Nat.blt d N = true := by rfl)
    (k : ∀ r, b0.heap.size ≤ r → JG P rd b0 Mk N D l n f (listed.setIfInBounds i true) L ((r, o) :: V) ((d, v r) :: E) T) : JO P rd b0 Mk N D l n f listed L V E T i := by
  intro hg inv a w ha hw
  have hi' : l.toArray[i]? = some { dst := some d, op := op, type := ty, pos := pos, after := after, guard := none } := by simpa using hi
  unfold wpO
  simp only [hi']
  rw [if_pos (by rfl)]
  have h4 : SH b0 Mk (((w.heap.size, o) :: V) ++ L) (w.alloc o) := hw.alloc o hM
  exact wpIn_value (notDefer_mk hn) (by rw [execOp_mkO]; exact h a w ha hw.right)
    ⟨SH b0 Mk L, fun x hx => hx, h4.right, k _ hw.size hg inv _ _ (ha.put hd _) h4⟩
theorem JO_s {i : Nat} {V' : Heap} (hi : l[i]? = some { dst := none, op := op, type := ty, pos := pos, after := after, guard := none }) (h : RunW P N D b0 Mk (V ++ L) E op ty (V' ++ L) .skip) (hn : notDeferOp op = true := by rfl)
    (k : JG P rd b0 Mk N D l n f (listed.setIfInBounds i true) L V' E T) : JO P rd b0 Mk N D l n f listed L V E T i := by
  intro hg inv a w ha hw
  have hi' : l.toArray[i]? = some { dst := none, op := op, type := ty, pos := pos, after := after, guard := none } := by simpa using hi
  unfold wpO
  simp only [hi']
  rw [if_pos (by rfl)]
  obtain ⟨w', h1, h2⟩ := h a w ha hw
  exact wpIn_skip' (notDefer_mk hn) (by rw [execOp_mkO]; exact h1) ⟨SH b0 Mk L, fun y hy => hy, h2.right, k hg inv _ _ ha h2⟩
end
end Go.Proofs.YtopjaeoklkpcpaaGreatDoor.Jd

namespace Go.Proofs.YtopjaeoklkpcpaaGreatDoor.Jd
open Go.Proofs
open Go.RowKit (Below)
set_option maxRecDepth 100000
set_option maxHeartbeats 8000000
set_option linter.unusedVariables false
set_option linter.unusedSimpArgs false
def gNames_l0 (r : Registry) : Nat → Nat → List Str → Nat × (List Str)
  | 0, x_1, x_2 => (x_1, x_2)
  | n_3 + 1, x_1, x_2 => (if ((x_1 : Nat) : Int) < ((r.l.length : Nat) : Int) then (gNames_l0 r n_3 (x_1 + 1) (x_2 ++ ([((r.l.getD x_1 default).name)] : List Str))) else (x_1, x_2))
def gNames (r : Registry) : List Str := (run2 (gNames_l0 r (r.l.length + 1) 0 []) (fun x_1 x_2 => x_2))
end Go.Proofs.YtopjaeoklkpcpaaGreatDoor.Jd

namespace Go.Proofs.YtopjaeoklkpcpaaGreatDoor.Jd
open Go.Proofs
open Go.RowKit (Below)
set_option maxRecDepth 100000
set_option maxHeartbeats 8000000
set_option linter.unusedVariables false
set_option linter.unusedSimpArgs false
def lRegistryReads_l0 (r : Registry) (role : Int) (c : Command) (now : Int) (which : Int) : Nat → Nat → Except Bool Nat
  | 0, i_1 => .ok i_1
  | n_2 + 1, i_1 => (if ((i_1 : Nat) : Int) < ((((gNames (gCut r)).length) : Nat) : Int) then (if (!((gFind (gCut r) ((gNames (gCut r)).getD i_1 default)).2)) = true then .error false else (if ((gFind (gCut r) ((gNames (gCut r)).getD i_1 default)).1.name) ≠ ((gNames (gCut r)).getD i_1 default) then .error false else (if ((((gCut r).l.length) : Nat) : Int) ≤ ((i_1 : Nat) : Int) then .error false else (if ¬ (((gFind (gCut r) ((gNames (gCut r)).getD i_1 default)).1.handle.slot) = ((((gCut r).l).getD i_1 default).handle.slot) ∧ ((gFind (gCut r) ((gNames (gCut r)).getD i_1 default)).1.handle.gen) = ((((gCut r).l).getD i_1 default).handle.gen)) then .error false else (lRegistryReads_l0 r role c now which n_2 (i_1 + 1)))))) else .ok i_1)
def lRegistryReads_l1 (r : Registry) (role : Int) (c : Command) (now : Int) (which : Int) : Nat → Nat → Except Bool Nat
  | 0, i_5 => .ok i_5
  | n_6 + 1, i_5 => (if ((i_5 : Nat) : Int) < ((((gNames (gCut r)).length) : Nat) : Int) then (if (!((gFind (gCut r) ((gNames (gCut r)).getD i_5 default)).2)) = true then .error false else (if ((gFind (gCut r) ((gNames (gCut r)).getD i_5 default)).1.name) ≠ ((gNames (gCut r)).getD i_5 default) then .error false else (if ((((gCut r).l.length) : Nat) : Int) ≤ ((i_5 : Nat) : Int) then .error false else (if ¬ (((gFind (gCut r) ((gNames (gCut r)).getD i_5 default)).1.handle.slot) = ((((gCut r).l).getD i_5 default).handle.slot) ∧ ((gFind (gCut r) ((gNames (gCut r)).getD i_5 default)).1.handle.gen) = ((((gCut r).l).getD i_5 default).handle.gen)) then .error false else (lRegistryReads_l1 r role c now which n_6 (i_5 + 1)))))) else .ok i_5)
def lRegistryReads_l2 (r : Registry) (role : Int) (c : Command) (now : Int) (which : Int) : Nat → Nat → Except Bool Nat
  | 0, i_9 => .ok i_9
  | n_10 + 1, i_9 => (if ((i_9 : Nat) : Int) < ((((gNames (gCut r)).length) : Nat) : Int) then (if (!((gFind (gCut r) ((gNames (gCut r)).getD i_9 default)).2)) = true then .error false else (if ((gFind (gCut r) ((gNames (gCut r)).getD i_9 default)).1.name) ≠ ((gNames (gCut r)).getD i_9 default) then .error false else (if ((((gCut r).l.length) : Nat) : Int) ≤ ((i_9 : Nat) : Int) then .error false else (if ¬ (((gFind (gCut r) ((gNames (gCut r)).getD i_9 default)).1.handle.slot) = ((((gCut r).l).getD i_9 default).handle.slot) ∧ ((gFind (gCut r) ((gNames (gCut r)).getD i_9 default)).1.handle.gen) = ((((gCut r).l).getD i_9 default).handle.gen)) then .error false else (lRegistryReads_l2 r role c now which n_10 (i_9 + 1)))))) else .ok i_9)
def lRegistryReads (r : Registry) (role : Int) (c : Command) (now : Int) (which : Int) : Bool := (if which = 1 then (if ((gApply (gCut r) role (Command.mk 9 ((gCutC c).name) ((gCutC c).want) ((gCutC c).at_) ((gCutC c).rule) ((gCutC c).key) ((gCutC c).n) ((gCutC c).m)) now).2.err) = 150 then gShown else (outc1 (lRegistryReads_l0 r role c now which (((gNames (gCut r)).length) + 1) 0) (fun r => r) (fun i_1 => (if gShown = true then (if (gSame (gCut r) (Registry.mk ((gApply (gCut r) role (Command.mk 9 ((gCutC c).name) ((gCutC c).want) ((gCutC c).at_) ((gCutC c).rule) ((gCutC c).key) ((gCutC c).n) ((gCutC c).m)) now).1.slots) ((gApply (gCut r) role (Command.mk 9 ((gCutC c).name) ((gCutC c).want) ((gCutC c).at_) ((gCutC c).rule) ((gCutC c).key) ((gCutC c).n) ((gCutC c).m)) now).1.l) (((gApply (gCut r) role (Command.mk 9 ((gCutC c).name) ((gCutC c).want) ((gCutC c).at_) ((gCutC c).rule) ((gCutC c).key) ((gCutC c).n) ((gCutC c).m)) now).1.seq) - 1))) = true then decide (((((gNames (gCut r)).length) : Nat) : Int) = ((((gCut r).l.length) : Nat) : Int)) else false) else false)))) else (if which = 2 then (if ((gApply (gCut r) role (Command.mk 10 ((gCutC c).name) ((gCutC c).want) ((gCutC c).at_) ((gCutC c).rule) ((gCutC c).key) ((gCutC c).n) ((gCutC c).m)) now).2.err) = 150 then gShown else (outc1 (lRegistryReads_l1 r role c now which (((gNames (gCut r)).length) + 1) 0) (fun r => r) (fun i_5 => (if gShown = true then (if (gSame (gCut r) (Registry.mk ((gApply (gCut r) role (Command.mk 10 ((gCutC c).name) ((gCutC c).want) ((gCutC c).at_) ((gCutC c).rule) ((gCutC c).key) ((gCutC c).n) ((gCutC c).m)) now).1.slots) ((gApply (gCut r) role (Command.mk 10 ((gCutC c).name) ((gCutC c).want) ((gCutC c).at_) ((gCutC c).rule) ((gCutC c).key) ((gCutC c).n) ((gCutC c).m)) now).1.l) (((gApply (gCut r) role (Command.mk 10 ((gCutC c).name) ((gCutC c).want) ((gCutC c).at_) ((gCutC c).rule) ((gCutC c).key) ((gCutC c).n) ((gCutC c).m)) now).1.seq) - 1))) = true then decide (((((gNames (gCut r)).length) : Nat) : Int) = ((((gCut r).l.length) : Nat) : Int)) else false) else false)))) else (if ((gApply (gCut r) role (Command.mk 8 ((gCutC c).name) ((gCutC c).want) ((gCutC c).at_) ((gCutC c).rule) ((gCutC c).key) ((gCutC c).n) ((gCutC c).m)) now).2.err) = 150 then gShown else (outc1 (lRegistryReads_l2 r role c now which (((gNames (gCut r)).length) + 1) 0) (fun r => r) (fun i_9 => (if gShown = true then (if (gSame (gCut r) (Registry.mk ((gApply (gCut r) role (Command.mk 8 ((gCutC c).name) ((gCutC c).want) ((gCutC c).at_) ((gCutC c).rule) ((gCutC c).key) ((gCutC c).n) ((gCutC c).m)) now).1.slots) ((gApply (gCut r) role (Command.mk 8 ((gCutC c).name) ((gCutC c).want) ((gCutC c).at_) ((gCutC c).rule) ((gCutC c).key) ((gCutC c).n) ((gCutC c).m)) now).1.l) (((gApply (gCut r) role (Command.mk 8 ((gCutC c).name) ((gCutC c).want) ((gCutC c).at_) ((gCutC c).rule) ((gCutC c).key) ((gCutC c).n) ((gCutC c).m)) now).1.seq) - 1))) = true then decide (((((gNames (gCut r)).length) : Nat) : Int) = ((((gCut r).l.length) : Nat) : Int)) else false) else false))))))
end Go.Proofs.YtopjaeoklkpcpaaGreatDoor.Jd

namespace Go.Proofs.YtopjaeoklkpcpaaGreatDoor.Jd
open Go.Proofs
open Go.RowKit (Below)
set_option maxRecDepth 100000
set_option maxHeartbeats 8000000
set_option linter.unusedVariables false
set_option linter.unusedSimpArgs false
theorem TY_9 : Ty Tryz.prog 9 1 16 (vt ([] : Str)) := ⟨⟨Tryz.t9, by kernel_rfl, rfl, rfl, rfl⟩, rfl⟩
theorem gNames_ok (w : World) {r_slots_gens_a : Option Addr} {r_slots_gens_c : Nat} {r_slots_used_a : Option Addr} {r_slots_used_c : Nat} {r_slots_free_a : Option Addr} {r_slots_free_c : Nat} {r_l_a : Option Addr} {r_l_c : Nat} {r_l_t : List TA} {r : Registry} (h_r_slots_gens : Sl w eI 1 r_slots_gens_a r.slots.gens) (n_r_slots_gens : r.slots.gens.length ≤ 1000) (h_r_slots_used : Sl w eB 1 r_slots_used_a r.slots.used) (n_r_slots_used : r.slots.used.length ≤ 1000) (h_r_slots_free : Sl w eI 1 r_slots_free_a r.slots.free) (n_r_slots_free : r.slots.free.length ≤ 1000) (h_r_l : SlN w eTenant 8 DT r_l_a r.l r_l_t) (n_r_l : r.l.length ≤ 1000) (k_r_l : r.l.length ≤ r_l_c) : Calls Tryz.prog 28 (List.toArray [(Value.agg [(vs r_slots_gens_a r.slots.gens.length r_slots_gens_c), (vs r_slots_used_a r.slots.used.length r_slots_used_c), (vs r_slots_free_a r.slots.free.length r_slots_free_c), (vs r_l_a r.l.length r_l_c), (vi r.seq)].toArray)]) w fun e w2 => ∃ a1 : Option Addr, ∃ c1 : Nat, ∃ B1 : Heap, e = .returned (vs a1 ((gNames r).length) c1) ∧ Fresh w w2 B1 ∧ OwnB eS 1 9 a1 c1 B1 (gNames r) ∧ (gNames r).length ≤ 1000 := by
 have hF := Is.refl (gNames r)
 refine enterD Tryz.func28 Tryz.ntmps28 (h := ?_)
 refine Z2 ?_
 refine JL_a noMk (a_box (l := [_, _, _, _, _])) (k := fun r1 hr1 => ?_)
 refine Z91 ?_
 refine JL_a noMk (a_alloc (l := [_]) Tryz.zeroValue66) (k := fun r2 hr2 => ?_)
 refine Z72 ?_
 refine Z284 ?_
 refine Z2 ?_
 refine JL_a noMk (a_box (l := [_, _, _, _, _])) (k := fun r3 hr3 => ?_)
 refine Z438 ?_
 refine Z357 ?_
 refine J_rangeI noMk rfl Tryz.call85 Tryz.func85 Tryz.ntmps85 (fun l4 rD4 rr4 hl4 => ?_)
 refine Z439 ?_
 refine Z324 ?_
 refine Z121 ?_
 refine J_loop6 (σ1 := Nat) (σ2 := Nat) (σ3 := List Str) (σ4 := Option Addr) (σ5 := Nat) (σ6 := Heap) (fun n_3 x_1 x_2 x_2a x_2c x_2B => (x_2B ++ ((l4, loopAt rr4 .ready none) :: ((rD4, Obj.deferred (some [])) :: ((r3, oc [(vs r_slots_gens_a r.slots.gens.length r_slots_gens_c), (vs r_slots_used_a r.slots.used.length r_slots_used_c), (vs r_slots_free_a r.slots.free.length r_slots_free_c), (vs r_l_a r.l.length r_l_c), (vi r.seq)] 28) :: ((r2, oc [(vs x_2a x_2.length x_2c)] 66) :: ((r1, oc [(vs r_slots_gens_a r.slots.gens.length r_slots_gens_c), (vs r_slots_used_a r.slots.used.length r_slots_used_c), (vs r_slots_free_a r.slots.free.length r_slots_free_c), (vs r_l_a r.l.length r_l_c), (vi r.seq)] 28) :: []))))))) (fun n_3 x_1 x_2 x_2a x_2c x_2B => [(0, (Value.func (.yield l4) [].toArray [].toArray)), (1, (Value.pointer (some ⟨r3, 0, none⟩))), (6, (vs r_l_a r.l.length r_l_c)), (7, (vi ((r.l.length : Nat) : Int))), (8, (vi ((x_1 : Nat) : Int)))]) (fun n_3 x_1 x_2 x_2a x_2c x_2B => r.l.length - x_1 < n_3 ∧ Is (gNames_l0 r (r.l.length + 1) 0 []) (gNames_l0 r n_3 x_1 x_2) ∧ OwnB eS 1 9 x_2a x_2c x_2B x_2 ∧ x_2.length ≤ x_1 ∧ x_1 ≤ r.l.length) (fun n_3 x_1 x_2 x_2a x_2c x_2B => n_3) (r.l.length + 1) 0 ([]) none 0 ([]) ?_ se (List.Perm.refl _) ?_
 ·exact ⟨Nat.lt_succ_self _, Is.refl _, OwnB.nil, (by first | omega | rfl | (simp; done)), (by first | omega | rfl | (simp; done))⟩
 ·rintro (_ | n_3) x_1 x_2 x_2a x_2c x_2B ⟨hm5, hF4, hx_2, hi6, hi7⟩
  ·omega
  refine Z38 ?_
  refine J_dec rfl (fun hq1 => ?_) (fun hq1 => ?_)
  rotate_left
  ·refine J_exit ?_
   refine Z191 ?_
   refine JX_it0 (.inr rfl) Tryz.results85 (qc q0) ?_
   refine Z452 ?_
   refine JL_q (q_load Tryz.isAgg66) (k := ?_)
   refine Z6 ?_
   refine JX_retD [rD4] (qa (qc q0)) Tryz.results28 (Res.tmp rfl Res.nil) (fun w1 hw1 => ?_)
   exact ⟨x_2a, x_2c, x_2B, (by rw [(hF.rn2 (hF4.neg hq1)).eq] <;> first | rfl | (simp only [List.length_set] <;> rfl)), (fresh_segs (L := x_2B) (hw1.perm (qb q0)) rfl.symm), (by rw [(hF.rn2 (hF4.neg hq1)).eq]; exact hx_2), (by rw [(hF.rn2 (hF4.neg hq1)).eq]; first | exact lb)⟩
  refine Z460 ?_
  refine Z185 ?_
  have hcp2 := (h_r_l.2.2 x_1 (by first | exact ix)).2.2.1
  have hcp3 := (h_r_l.2.2 x_1 (by first | exact ix)).2.2.2
  refine Z516 ?_
  refine JL_a noMk (a_alloc (l := [_, _, _, _, _, _, _, _]) Tryz.zeroValue52) (k := fun r5 hr5 => ?_)
  refine Z429 ?_
  refine Z39 ?_
  refine Z343 ?_
  refine JL_yIn (vs := [(vi ((x_1 : Nat) : Int)), (Value.agg [(vi ((r.l.getD x_1 default).handle.slot)), (vi ((r.l.getD x_1 default).handle.gen)), (vt ((r.l.getD x_1 default).name)), (vi ((r.l.getD x_1 default).state)), (vi ((r.l.getD x_1 default).version)), (vs ((r_l_t.getD x_1 default).ra) ((r.l.getD x_1 default).rules.length) ((r_l_t.getD x_1 default).rc)), (vs ((r_l_t.getD x_1 default).ca) ((r.l.getD x_1 default).creds.length) ((r_l_t.getD x_1 default).cc)), (vi ((r.l.getD x_1 default).deadline)), (vi r.seq)].toArray)]) hl4 (qa (qc q0)) y_call ?_
  refine Z486 ?_
  refine JL_a noMk (a_alloc (l := [_, _, _, _, _, _, _, _, _]) Tryz.zeroValue88) (k := fun r6 hr6 => ?_)
  refine Z266 ?_
  refine Z194 ?_
  refine JL_q (q_load Tryz.isAgg66) (k := ?_)
  refine Z512 ?_
  refine Z268 ?_
  refine JL_a noMk (a_bslice (l := [_]) Tryz.runUnderlying66 Tryz.sizeOf9 Tryz.zeroValue9) (k := fun r7 hr7 => ?_)
  refine JL_append (x_2 ++ ([((r.l.getD x_1 default).name)] : List Str)) rfl TY_9 Tryz.underlying66 eS_ok hx_2 (qb (qb (qb (qb q0)))) (SlJ.lit (xs := ([((r.l.getD x_1 default).name)] : List Str)) eS_ok) ⟨by omega, by omega⟩ (n := x_2.length) (m := 1) (k := fun ax1 cx1 Bx1 hox1 => ?_)
  have hal1 : (x_2 ++ ([((r.l.getD x_1 default).name)] : List Str)).length = x_2.length + 1 := by first | rfl | exact List.length_append | simp
  refine JL_s (w_store (l' := [_]) Tryz.sizeOf66) (k := ?_)
  refine JL_nil ?_
  refine Z97 ?_
  refine Z326 ?_
  refine Z306 ?_
  refine Z197 ?_
  exact JX_inv6 n_3 (x_1 + 1) (x_2 ++ ([((r.l.getD x_1 default).name)] : List Str)) ax1 cx1 Bx1 ⟨by omega, (hF4.pos hq1), hox1, (by omega), (by omega)⟩ (Nat.lt_succ_self _) se (List.Perm.refl _)

end Go.Proofs.YtopjaeoklkpcpaaGreatDoor.Jd

namespace Go.Proofs.YtopjaeoklkpcpaaGreatDoor.Jd
set_option maxRecDepth 100000
set_option linter.unusedVariables false
set_option linter.unusedSimpArgs false
theorem gNames_l0_eq (r : Registry) : ∀ n i acc, r.l.length < i + n → i ≤ r.l.length → (gNames_l0 r n i acc).2 = acc ++ (r.l.drop i).map Tenant.name
  | 0, i, acc, h1, h2 => by omega
  | n + 1, i, acc, h1, h2 => by
    unfold gNames_l0
    by_cases hi : i < r.l.length
    · rw [if_pos (by omega), gNames_l0_eq r n (i + 1) _ (by omega) (by omega), drop_cons' hi]; simp
    · rw [if_neg (by omega), List.drop_eq_nil_of_le (by omega)]; simp
theorem gNames_eq (r : Registry) : gNames r = r.l.map Tenant.name := by
  have h := gNames_l0_eq r (r.l.length + 1) 0 [] (by omega) (by omega)
  unfold gNames
  generalize gNames_l0 r (r.l.length + 1) 0 [] = y at h
  obtain ⟨y1, y2⟩ := y
  simpa [run2] using h
theorem names_at {r : Registry} {i : Nat} (hi : i < r.l.length) : (gNames r).getD i default = (r.l.getD i default).name := by
  rw [gNames_eq]; simp [List.getD, hi]
theorem reads_loop {s : Registry} (hr : (s.l.map Tenant.name).Nodup) (l : Nat → Nat → Except Bool Nat) (hl : ∀ n i, l (n + 1) i = (if ((i : Nat) : Int) < (((gNames s).length : Nat) : Int) then (if (!((gFind s ((gNames s).getD i default)).2)) = true then .error false else (if ((gFind s ((gNames s).getD i default)).1.name) ≠ ((gNames s).getD i default) then .error false else (if (((s.l.length) : Nat) : Int) ≤ ((i : Nat) : Int) then .error false else (if ¬ (((gFind s ((gNames s).getD i default)).1.handle.slot) = ((s.l.getD i default).handle.slot) ∧ ((gFind s ((gNames s).getD i default)).1.handle.gen) = ((s.l.getD i default).handle.gen)) then .error false else l n (i + 1))))) else .ok i)) : ∀ n i, s.l.length < i + n → i ≤ s.l.length → ∃ j, l n i = .ok j
  | 0, i, h1, h2 => by omega
  | n + 1, i, h1, h2 => by
    have hlen : (gNames s).length = s.l.length := by rw [gNames_eq]; simp
    rw [hl]
    by_cases hi : i < s.l.length
    · have hf := find_some hr (getD_mem' hi)
      rw [if_pos (by omega), names_at hi, hf, if_neg (by simp), if_neg (by simp), if_neg (by omega), if_neg (by simp)]
      exact reads_loop hr l hl n (i + 1) (by omega) (by omega)
    · rw [if_neg (by omega)]; exact ⟨i, rfl⟩
theorem reads_one {s : Registry} {role : Int} {c : Command} {now : Int} (hv : c.verb = 8 ∨ c.verb = 9 ∨ c.verb = 10) (he : (gApply s role c now).2.err ≠ 150) : RightR s ∧ gSame s (Registry.mk (gApply s role c now).1.slots (gApply s role c now).1.l ((gApply s role c now).1.seq - 1)) = true := by
  have h := apply_out s role c now
  generalize gApply s role c now = x at h he ⊢
  have hx : x.1 = xR s := by
    cases h with
    | none h => exact absurd rfl he
    | fail h e h0 h1 => rfl
    | new h hm hv2 hn hf h1 h2 => omega
    | list h hm hv2 => rfl
    | del h hm hv2 i hi hn hw => omega
    | look h hm hv2 i hi hn hw => rfl
    | put h hm hv2 i hi hn hw hc hs => omega
  refine ⟨(h.right he).1.right, ?_⟩
  rw [hx, gSame_iff]
  show s = Registry.mk s.slots s.l (s.seq + 1 - 1)
  rw [show s.seq + 1 - 1 = s.seq by omega]
theorem lRegistryReads_true (r : Registry) (role : Int) (c : Command) (now which : Int) : lRegistryReads r role c now which = true := by
  unfold lRegistryReads
  simp only [gShown_true, if_true]
  have hlen : (gNames (gCut r)).length = (gCut r).l.length := by rw [gNames_eq]; simp
  by_cases w1 : which = 1
  · rw [if_pos w1]
    by_cases he : (gApply (gCut r) role (Command.mk 9 (gCutC c).name (gCutC c).want (gCutC c).at_ (gCutC c).rule (gCutC c).key (gCutC c).n (gCutC c).m) now).2.err = 150
    · rw [if_pos he]
    rw [if_neg he]
    obtain ⟨hr, hs⟩ := reads_one (.inr (.inl rfl)) he
    obtain ⟨j, hj⟩ := reads_loop hr.names (lRegistryReads_l0 r role c now which) (fun n i => rfl) ((gNames (gCut r)).length + 1) 0 (by omega) (by omega)
    rw [hj, hs]; simp [outc1, hlen]
  rw [if_neg w1]
  by_cases w2 : which = 2
  · rw [if_pos w2]
    by_cases he : (gApply (gCut r) role (Command.mk 10 (gCutC c).name (gCutC c).want (gCutC c).at_ (gCutC c).rule (gCutC c).key (gCutC c).n (gCutC c).m) now).2.err = 150
    · rw [if_pos he]
    rw [if_neg he]
    obtain ⟨hr, hs⟩ := reads_one (.inr (.inr rfl)) he
    obtain ⟨j, hj⟩ := reads_loop hr.names (lRegistryReads_l1 r role c now which) (fun n i => rfl) ((gNames (gCut r)).length + 1) 0 (by omega) (by omega)
    rw [hj, hs]; simp [outc1, hlen]
  rw [if_neg w2]
  by_cases he : (gApply (gCut r) role (Command.mk 8 (gCutC c).name (gCutC c).want (gCutC c).at_ (gCutC c).rule (gCutC c).key (gCutC c).n (gCutC c).m) now).2.err = 150
  · rw [if_pos he]
  rw [if_neg he]
  obtain ⟨hr, hs⟩ := reads_one (.inl rfl) he
  obtain ⟨j, hj⟩ := reads_loop hr.names (lRegistryReads_l2 r role c now which) (fun n i => rfl) ((gNames (gCut r)).length + 1) 0 (by omega) (by omega)
  rw [hj, hs]; simp [outc1, hlen]
end Go.Proofs.YtopjaeoklkpcpaaGreatDoor.Jd

namespace Go.Proofs.YtopjaeoklkpcpaaGreatDoor.Jd
open Go.Proofs
open Go.RowKit (Below)
set_option maxRecDepth 100000
set_option maxHeartbeats 8000000
set_option linter.unusedVariables false
set_option linter.unusedSimpArgs false
theorem lRegistryReads_ok (w : World) {r_slots_gens_a : Option Addr} {r_slots_gens_c : Nat} {r_slots_used_a : Option Addr} {r_slots_used_c : Nat} {r_slots_free_a : Option Addr} {r_slots_free_c : Nat} {r_l_a : Option Addr} {r_l_c : Nat} {r_l_t : List TA} {ea0 : Addr} {ea1 : Addr} {ea2 : Addr} {ea3 : Addr} {r : Registry} {role : Int} {c : Command} {now : Int} {which : Int} (h_r_slots_gens : Sl w eI 1 r_slots_gens_a r.slots.gens) (k_r_slots_gens : r.slots.gens.length ≤ r_slots_gens_c) (h_r_slots_used : Sl w eB 1 r_slots_used_a r.slots.used) (k_r_slots_used : r.slots.used.length ≤ r_slots_used_c) (h_r_slots_free : Sl w eI 1 r_slots_free_a r.slots.free) (k_r_slots_free : r.slots.free.length ≤ r_slots_free_c) (h_r_l : SlN w eTenant 8 DT r_l_a r.l r_l_t) (k_r_l : r.l.length ≤ r_l_c) (i_c_at_ : -9223372036854775808 ≤ c.at_ ∧ c.at_ ≤ 9223372036854775807) (hG : Gl w) (hE : Er w ea0 ea1 ea2 ea3) : Val Tryz.prog 11 [(Value.agg [(vs r_slots_gens_a r.slots.gens.length r_slots_gens_c), (vs r_slots_used_a r.slots.used.length r_slots_used_c), (vs r_slots_free_a r.slots.free.length r_slots_free_c), (vs r_l_a r.l.length r_l_c), (vi r.seq)].toArray), (vi role), (Value.agg [(vi c.verb), (vt c.name), (vi c.want), (vi c.at_), (Value.bool c.rule.allow), (vi c.rule.pfx.addr), (vi c.rule.pfx.bits), (vi c.rule.prt.lo), (vi c.rule.prt.hi), (vt c.key), (vi c.n), (vi c.m)].toArray), (vi now), (vi which)] w (Value.bool (lRegistryReads r role c now which)) := by
 have hF := Is.refl (lRegistryReads r role c now which)
 refine enter Tryz.func11 Tryz.ntmps11 (h := ?_)
 refine Z2 ?_
 refine JL_a noMk (a_box (l := [_, _, _, _, _])) (k := fun r1 hr1 => ?_)
 refine JL_a noMk (a_box (l := [_, _, _, _, _, _, _, _, _, _, _, _])) (k := fun r2 hr2 => ?_)
 refine Z96 ?_
 refine Z1 ?_
 refine Z24 ?_
 rintro w1_1 e1_1 w2_1 hw1_1 ⟨a1_1, c1_1, t1_1, B_1, he_1, hf_1, hs1_1, hl1_1⟩
 refine ⟨_, _, he_1, hw1_1.fresh hf_1, ?_⟩
 have hcb_1 := gCut_bd r
 have hsm_1 := gCut_small r
 refine Z133 ?_
 refine Z225 ?_
 refine Z109 ?_
 refine Z320 ?_
 refine Z206 ?_
 refine Z72 ?_
 refine Z4 ?_
 refine Z281 ?_
 refine J_dec rfl (fun hq1 => ?_) (fun hq1 => ?_)
 ·refine J_reg ?_
  refine Z206 ?_
  refine Z72 ?_
  refine Z4 ?_
  refine Z281 ?_
  refine J_dec rfl (fun hq2 => ?_) (fun hq2 => ?_)
  ·exact absurd (Eq.trans (Eq.symm hq1) hq2) (by decide)
  refine Z14 ?_
  refine Z248 ?_
  refine Z126 ?_
  refine JL_p (c_callA Tryz.call17) (fun w1 hw1 => gApply_ok w1 (r := (gCut r)) (role := role) (c := (Command.mk 9 ((gCutC c).name) ((gCutC c).want) ((gCutC c).at_) ((gCutC c).rule) ((gCutC c).key) ((gCutC c).n) ((gCutC c).m))) (now := now) (h_r_slots_gens := (SlJ.take (SlJ.of_base h_r_slots_gens) _) w1 hw1) (n_r_slots_gens := by first | omega | (simp; done) | exact Nat.le_trans (by assumption) (by decide)) (h_r_slots_used := (SlJ.take (SlJ.of_base h_r_slots_used) _) w1 hw1) (n_r_slots_used := by first | omega | (simp; done) | exact Nat.le_trans (by assumption) (by decide)) (h_r_slots_free := (SlJ.take (SlJ.of_base h_r_slots_free) _) w1 hw1) (n_r_slots_free := by first | omega | (simp; done) | exact Nat.le_trans (by assumption) (by decide)) (h_r_l := (SlNB.j hs1_1.1 sh).2 w1 hw1) (n_r_l := by first | omega | (simp; done) | exact Nat.le_trans (by assumption) (by decide)) (k_r_l := hs1_1.2) (i_c_at_ := by first | exact i_c_at_ | (simp; done) | (exact ⟨by decide, by decide⟩) | omega) (hG := hG.ext hw1.ext_out) (hE := hE.ext hw1.ext_out) (hsm := by first | assumption | exact Small.nil)) (k := ?_)
  rintro w1_2 e1_2 w2_2 hw1_2 ⟨a1_2, c1_2, a2_2, c2_2, a3_2, c3_2, a4_2, c4_2, t4_2, B_2, he_2, hf_2, hs1_2, hs2_2, hs3_2, hs4_2, hl1_2, hl2_2, hl3_2, hl4_2⟩
  refine ⟨_, _, he_2, hw1_2.fresh hf_2, ?_⟩
  have hap_23610 := gApply_small role (Command.mk 9 ((gCutC c).name) ((gCutC c).want) ((gCutC c).at_) ((gCutC c).rule) ((gCutC c).key) ((gCutC c).n) ((gCutC c).m)) now (by first | assumption | exact Small.nil : Small ((gCut r).l))
  have hab_23610 := gApply_bd (gCut r) role (Command.mk 9 ((gCutC c).name) ((gCutC c).want) ((gCutC c).at_) ((gCutC c).rule) ((gCutC c).key) ((gCutC c).n) ((gCutC c).m)) now
  try dsimp only at hab_23610
  refine Z37 ?_
  refine JL_a noMk (a_alloc (l := [_, _, _, _, _]) Tryz.zeroValue28) (k := fun r3 hr3 => ?_)
  refine JL_a noMk (a_alloc (l := [_, _, _, _, _, _]) Tryz.zeroValue44) (k := fun r4 hr4 => ?_)
  refine Z455 ?_
  refine J_subL _ (sk (sk (sa (sa (sd (sk sz)))))) ?_
  refine Z425 ?_
  refine Z281 ?_
  refine J_dec rfl (fun hq3 => ?_) (fun hq3 => ?_)
  ·refine J_seq ?_
   refine Z536 ?_
   refine Z376 ?_
   refine JX_ret Tryz.results11 (Res.tmp rfl Res.nil) (fun w1 hw1 => ?_)
   exact ⟨(by rw [((hF.pos hq1).pos hq3).eq] <;> first | rfl | (simp only [List.length_set] <;> rfl)), hw1.ext_out⟩
  refine Z167 ?_
  refine Z536 ?_
  refine Z73 ?_
  rintro w1_3 e1_3 w2_3 hw1_3 ⟨a1_3, c1_3, B1_3, he_3, hf_3, ho1_3, hl1_3⟩
  refine ⟨_, _, he_3, hw1_3.fresh hf_3, ?_⟩
  refine Z427 ?_
  refine Z1 ?_
  refine J_block ?_
  refine J_loop2 (σ1 := Nat) (σ2 := Nat) (fun n_2 i_1 => (B1_3 ++ ((r3, oc [(vs a1_2 ((gApply (gCut r) role (Command.mk 9 ((gCutC c).name) ((gCutC c).want) ((gCutC c).at_) ((gCutC c).rule) ((gCutC c).key) ((gCutC c).n) ((gCutC c).m)) now).1.slots.gens.length) c1_2), (vs a2_2 ((gApply (gCut r) role (Command.mk 9 ((gCutC c).name) ((gCutC c).want) ((gCutC c).at_) ((gCutC c).rule) ((gCutC c).key) ((gCutC c).n) ((gCutC c).m)) now).1.slots.used.length) c2_2), (vs a3_2 ((gApply (gCut r) role (Command.mk 9 ((gCutC c).name) ((gCutC c).want) ((gCutC c).at_) ((gCutC c).rule) ((gCutC c).key) ((gCutC c).n) ((gCutC c).m)) now).1.slots.free.length) c3_2), (vs a4_2 ((gApply (gCut r) role (Command.mk 9 ((gCutC c).name) ((gCutC c).want) ((gCutC c).at_) ((gCutC c).rule) ((gCutC c).key) ((gCutC c).n) ((gCutC c).m)) now).1.l.length) c4_2), (vi ((gApply (gCut r) role (Command.mk 9 ((gCutC c).name) ((gCutC c).want) ((gCutC c).at_) ((gCutC c).rule) ((gCutC c).key) ((gCutC c).n) ((gCutC c).m)) now).1.seq))] 28) :: (B_2 ++ (B_1 ++ ((r1, oc [(vs r_slots_gens_a ((gCut r).slots.gens.length) r_slots_gens_c), (vs r_slots_used_a ((gCut r).slots.used.length) r_slots_used_c), (vs r_slots_free_a ((gCut r).slots.free.length) r_slots_free_c), (vs a1_1 ((gCut r).l.length) c1_1), (vi ((gCut r).seq))] 28) :: [])))))) (fun n_2 i_1 => [(5, (Value.pointer (some ⟨r1, 0, none⟩))), (10, (Value.bool false)), (11, (Value.bool gShown)), (12, (Value.pointer (some ⟨r3, 0, none⟩))), (14, (vs a1_3 ((gNames (gCut r)).length) c1_3)), (15, (vi ((i_1 : Nat) : Int)))]) (fun n_2 i_1 => ((gNames (gCut r)).length) - i_1 < n_2 ∧ Is (lRegistryReads_l0 r role c now which (((gNames (gCut r)).length) + 1) 0) (lRegistryReads_l0 r role c now which n_2 i_1)) (fun n_2 i_1 => n_2) (((gNames (gCut r)).length) + 1) 0 ?_ se (List.Perm.refl _) ?_
  ·exact ⟨Nat.lt_succ_self _, Is.refl _⟩
  ·rintro (_ | n_2) i_1 ⟨hm4, hF3⟩
   ·omega
   refine J_seq ?_
   refine Z39 ?_
   refine JL_q (q_lenS Tryz.runUnderlying66) (k := ?_)
   refine Z12 ?_
   refine J_dec rfl (fun hq4 => ?_) (fun hq4 => ?_)
   rotate_left
   ·refine J_exit ?_
    refine Z123 ?_
    refine Z2 ?_
    refine Z94 ?_
    refine Z495 ?_
    refine Z201 ?_
    refine Z0 ?_
    refine Z39 ?_
    refine JL_bool 93 rfl (fun hq13 => ?_) (fun hq13 => ?_)
    rotate_left
    ·refine JL_skips 3 rfl ?_
     refine Z254 ?_
     refine Z26 ?_
     refine JX_ret Tryz.results11 (Res.tmp rfl Res.nil) (fun w1 hw1 => ?_)
     exact ⟨(by rw [((((hF.pos hq1).neg hq3).ok1 (hF3.neg hq4)).f hq13).eq] <;> first | rfl | (simp only [List.length_set] <;> rfl)), hw1.ext_out⟩
    refine Z282 ?_
    refine JL_vg (c_callA Tryz.call26) (fun w1 hw1 => gSame_ok w1 (a := (gCut r)) (b := (Registry.mk ((gApply (gCut r) role (Command.mk 9 ((gCutC c).name) ((gCutC c).want) ((gCutC c).at_) ((gCutC c).rule) ((gCutC c).key) ((gCutC c).n) ((gCutC c).m)) now).1.slots) ((gApply (gCut r) role (Command.mk 9 ((gCutC c).name) ((gCutC c).want) ((gCutC c).at_) ((gCutC c).rule) ((gCutC c).key) ((gCutC c).n) ((gCutC c).m)) now).1.l) (((gApply (gCut r) role (Command.mk 9 ((gCutC c).name) ((gCutC c).want) ((gCutC c).at_) ((gCutC c).rule) ((gCutC c).key) ((gCutC c).n) ((gCutC c).m)) now).1.seq) - 1))) (h_a_slots_gens := (SlJ.take (SlJ.of_base h_r_slots_gens) _) w1 hw1) (n_a_slots_gens := by first | omega | (simp; done) | exact Nat.le_trans (by assumption) (by decide)) (h_a_slots_used := (SlJ.take (SlJ.of_base h_r_slots_used) _) w1 hw1) (n_a_slots_used := by first | omega | (simp; done) | exact Nat.le_trans (by assumption) (by decide)) (h_a_slots_free := (SlJ.take (SlJ.of_base h_r_slots_free) _) w1 hw1) (n_a_slots_free := by first | omega | (simp; done) | exact Nat.le_trans (by assumption) (by decide)) (h_a_l := (SlNB.j hs1_1.1 sh).2 w1 hw1) (n_a_l := by first | omega | (simp; done) | exact Nat.le_trans (by assumption) (by decide)) (k_a_l := hs1_1.2) (h_b_slots_gens := (SlB.slj hs1_2) w1 hw1) (n_b_slots_gens := by first | omega | (simp; done) | exact Nat.le_trans (by assumption) (by decide)) (h_b_slots_used := (SlB.slj hs2_2) w1 hw1) (n_b_slots_used := by first | omega | (simp; done) | exact Nat.le_trans (by assumption) (by decide)) (h_b_slots_free := (SlB.slj hs3_2) w1 hw1) (n_b_slots_free := by first | omega | (simp; done) | exact Nat.le_trans (by assumption) (by decide)) (h_b_l := (SlNB.j hs4_2.1 sh).2 w1 hw1) (n_b_l := by first | omega | (simp; done) | exact Nat.le_trans (by assumption) (by decide)) (k_b_l := hs4_2.2) (hsm := by first | assumption | exact Small.nil) (hsm2 := by first | assumption | exact Small.nil)) (k := ?_)
    refine Z18 ?_
    refine JL_bool 98 rfl (fun hq14 => ?_) (fun hq14 => ?_)
    rotate_left
    ·refine JL_skips 6 rfl ?_
     refine Z26 ?_
     refine JX_ret Tryz.results11 (Res.tmp rfl Res.nil) (fun w1 hw1 => ?_)
     exact ⟨(by rw [(((((hF.pos hq1).neg hq3).ok1 (hF3.neg hq4)).t hq13).f hq14).eq] <;> first | rfl | (simp only [List.length_set] <;> rfl)), hw1.ext_out⟩
    refine Z480 ?_
    refine Z436 ?_
    refine JL_qg q_eql (k := ?_)
    refine Z79 ?_
    refine JX_ret Tryz.results11 (Res.tmp rfl Res.nil) (fun w1 hw1 => ?_)
    exact ⟨(by rw [(((((hF.pos hq1).neg hq3).ok1 (hF3.neg hq4)).t hq13).t hq14).eq] <;> first | rfl | (simp only [List.length_set] <;> rfl)), hw1.ext_out⟩
   refine Z460 ?_
   refine J_seq ?_
   refine Z347 ?_
   refine Z421 ?_
   refine JG_q 3 rfl (by kernel_rfl) (q_idx (n := (gNames (gCut r)).length) Tryz.runUnderlying66 Tryz.sizeOf9 i_1 (ho1_3.slj eS_ok) (gD (by first | exact ix)) (by first | rfl | simp)) (k := ?_)
   refine JG_q 4 rfl (by kernel_rfl) (q_loadE Tryz.isAgg9 i_1 0 (ho1_3.slj eS_ok) (gD (by first | exact ix))) (k := ?_)
   refine JG_br [5, 9] (by kernel_rfl) rfl (List.forall_mem_cons.2 ⟨?_, (List.forall_mem_cons.2 ⟨?_, nofun⟩)⟩)
   ·skip
    refine Z537 ?_
    rintro w1_124 e1_124 w2_124 hw1_124 ⟨a1_124, c1_124, a2_124, c2_124, B1_124, B2_124, he_124, hf_124, ho1_124, ho2_124, hl1_124, hl2_124⟩
    refine ⟨_, _, _, he_124, hf_124, (nA rfl).symm, ?_⟩
    have hfv_89619 := gFind_ver (gCut r) ((gNames (gCut r)).getD i_1 default)
    refine Z330 ?_
    refine JG_br [9] (by kernel_rfl) rfl (List.forall_mem_cons.2 ⟨?_, nofun⟩)
    ·skip
     refine JO_aV rfl noMk (a_alloc (l := [_, _, _, _, _, _, _, _]) Tryz.zeroValue52) (k := fun r205 hr205 => ?_)
     refine JG_br [10] (by kernel_rfl) rfl (List.forall_mem_cons.2 ⟨?_, nofun⟩)
     ·skip
      refine JO_s (V' := ((r205, _) :: [])) rfl (w_store (l' := [_, _, _, _, _, _, _, _]) Tryz.sizeOf52) (k := ?_)
      refine Z474 ?_
      refine Z72 ?_
      refine Z46 ?_
      refine Z363 ?_
      refine JD_bool 61 rfl (fun hq5 => ?_) (fun hq5 => ?_)
      ·refine JD_skips 7 rfl ?_
       refine Z54 ?_
       refine Z475 ?_
       refine JX_ret Tryz.results11 (Res.tmp rfl Res.nil) (fun w1 hw1 => ?_)
       exact ⟨(by rw [(((hF.pos hq1).neg hq3).er1 ((hF3.pos hq4).t hq5)).eq] <;> first | rfl | (simp only [List.length_set] <;> rfl)), hw1.ext_out⟩
      refine Z223 ?_
      refine Z311 ?_
      refine Z340 ?_
      refine Z456 ?_
      refine JD_dec 70 rfl (fun hq6 => ?_) (fun hq6 => ?_)
      ·refine JD_skips 5 rfl ?_
       refine Z408 ?_
       refine JX_ret Tryz.results11 (Res.tmp rfl Res.nil) (fun w1 hw1 => ?_)
       exact ⟨(by rw [(((hF.pos hq1).neg hq3).er1 (((hF3.pos hq4).f hq5).pos hq6)).eq] <;> first | rfl | (simp only [List.length_set] <;> rfl)), hw1.ext_out⟩
      refine Z448 ?_
      refine Z264 ?_
      refine Z23 ?_
      refine JD_dec 77 rfl (fun hq7 => ?_) (fun hq7 => ?_)
      ·refine JD_skips 9 rfl ?_
       refine Z287 ?_
       refine JX_ret Tryz.results11 (Res.tmp rfl Res.nil) (fun w1 hw1 => ?_)
       exact ⟨(by rw [(((hF.pos hq1).neg hq3).er1 ((((hF3.pos hq4).f hq5).neg hq6).pos hq7)).eq] <;> first | rfl | (simp only [List.length_set] <;> rfl)), hw1.ext_out⟩
      refine Z186 ?_
      refine Z406 ?_
      refine Z387 ?_
      refine JD_qg (q_loadEP Tryz.isAgg42 Tryz.sizeOf42 i_1 0 (SlNB.j hs1_1.1 sh).sl (zip_get hs1_1.1.1 (by first | exact ix))) (k := ?_)
      refine Z329 ?_
      refine Z0 ?_
      refine J_dec rfl (fun hq8 => ?_) (fun hq8 => ?_)
      rotate_left
      ·refine J_skip ?_
       refine Z17 ?_
       refine Z47 ?_
       refine Z232 ?_
       refine Z59 ?_
       exact JX_inv2 n_2 (i_1 + 1) ⟨by omega, (((((hF3.pos hq4).f hq5).neg hq6).neg hq7).neg hq8)⟩ (Nat.lt_succ_self _) se (List.Perm.refl _)
      refine Z221 ?_
      refine JX_ret Tryz.results11 (Res.tmp rfl Res.nil) (fun w1 hw1 => ?_)
      exact ⟨(by rw [(((hF.pos hq1).neg hq3).er1 (((((hF3.pos hq4).f hq5).neg hq6).neg hq7).pos hq8)).eq] <;> first | rfl | (simp only [List.length_set] <;> rfl)), hw1.ext_out⟩
   ·skip
    refine JO_aV rfl noMk (a_alloc (l := [_, _, _, _, _, _, _, _]) Tryz.zeroValue52) (k := fun r205 hr205 => ?_)
    refine JG_br [5] (by kernel_rfl) rfl (List.forall_mem_cons.2 ⟨?_, nofun⟩)
    ·skip
     refine Z537 ?_
     rintro w1_124 e1_124 w2_124 hw1_124 ⟨a1_124, c1_124, a2_124, c2_124, B1_124, B2_124, he_124, hf_124, ho1_124, ho2_124, hl1_124, hl2_124⟩
     refine ⟨_, _, _, he_124, hf_124, (nA rfl).symm, ?_⟩
     have hfv_89619 := gFind_ver (gCut r) ((gNames (gCut r)).getD i_1 default)
     refine Z330 ?_
     refine JG_br [10] (by kernel_rfl) rfl (List.forall_mem_cons.2 ⟨?_, nofun⟩)
     ·skip
      refine JO_s (V' := ((r205, _) :: [])) rfl (w_store (l' := [_, _, _, _, _, _, _, _]) Tryz.sizeOf52) (k := ?_)
      refine Z474 ?_
      refine Z72 ?_
      refine Z46 ?_
      refine Z363 ?_
      refine JD_bool 61 rfl (fun hq9 => ?_) (fun hq9 => ?_)
      ·refine JD_skips 7 rfl ?_
       refine Z54 ?_
       refine Z475 ?_
       refine JX_ret Tryz.results11 (Res.tmp rfl Res.nil) (fun w1 hw1 => ?_)
       exact ⟨(by rw [(((hF.pos hq1).neg hq3).er1 ((hF3.pos hq4).t hq9)).eq] <;> first | rfl | (simp only [List.length_set] <;> rfl)), hw1.ext_out⟩
      refine Z223 ?_
      refine Z311 ?_
      refine Z340 ?_
      refine Z456 ?_
      refine JD_dec 70 rfl (fun hq10 => ?_) (fun hq10 => ?_)
      ·refine JD_skips 5 rfl ?_
       refine Z408 ?_
       refine JX_ret Tryz.results11 (Res.tmp rfl Res.nil) (fun w1 hw1 => ?_)
       exact ⟨(by rw [(((hF.pos hq1).neg hq3).er1 (((hF3.pos hq4).f hq9).pos hq10)).eq] <;> first | rfl | (simp only [List.length_set] <;> rfl)), hw1.ext_out⟩
      refine Z448 ?_
      refine Z264 ?_
      refine Z23 ?_
      refine JD_dec 77 rfl (fun hq11 => ?_) (fun hq11 => ?_)
      ·refine JD_skips 9 rfl ?_
       refine Z287 ?_
       refine JX_ret Tryz.results11 (Res.tmp rfl Res.nil) (fun w1 hw1 => ?_)
       exact ⟨(by rw [(((hF.pos hq1).neg hq3).er1 ((((hF3.pos hq4).f hq9).neg hq10).pos hq11)).eq] <;> first | rfl | (simp only [List.length_set] <;> rfl)), hw1.ext_out⟩
      refine Z186 ?_
      refine Z406 ?_
      refine Z387 ?_
      refine JD_qg (q_loadEP Tryz.isAgg42 Tryz.sizeOf42 i_1 0 (SlNB.j hs1_1.1 sh).sl (zip_get hs1_1.1.1 (by first | exact ix))) (k := ?_)
      refine Z329 ?_
      refine Z0 ?_
      refine J_dec rfl (fun hq12 => ?_) (fun hq12 => ?_)
      rotate_left
      ·refine J_skip ?_
       refine Z17 ?_
       refine Z47 ?_
       refine Z232 ?_
       refine Z59 ?_
       exact JX_inv2 n_2 (i_1 + 1) ⟨by omega, (((((hF3.pos hq4).f hq9).neg hq10).neg hq11).neg hq12)⟩ (Nat.lt_succ_self _) se (List.Perm.refl _)
      refine Z221 ?_
      refine JX_ret Tryz.results11 (Res.tmp rfl Res.nil) (fun w1 hw1 => ?_)
      exact ⟨(by rw [(((hF.pos hq1).neg hq3).er1 (((((hF3.pos hq4).f hq9).neg hq10).neg hq11).pos hq12)).eq] <;> first | rfl | (simp only [List.length_set] <;> rfl)), hw1.ext_out⟩
 refine Z167 ?_
 refine Z4 ?_
 refine Z281 ?_
 refine J_dec rfl (fun hq15 => ?_) (fun hq15 => ?_)
 rotate_left
 ·refine J_skip ?_
  refine JX_seq ?_
  refine Z248 ?_
  refine Z126 ?_
  refine JL_p (c_callA Tryz.call17) (fun w1 hw1 => gApply_ok w1 (r := (gCut r)) (role := role) (c := (Command.mk 8 ((gCutC c).name) ((gCutC c).want) ((gCutC c).at_) ((gCutC c).rule) ((gCutC c).key) ((gCutC c).n) ((gCutC c).m))) (now := now) (h_r_slots_gens := (SlJ.take (SlJ.of_base h_r_slots_gens) _) w1 hw1) (n_r_slots_gens := by first | omega | (simp; done) | exact Nat.le_trans (by assumption) (by decide)) (h_r_slots_used := (SlJ.take (SlJ.of_base h_r_slots_used) _) w1 hw1) (n_r_slots_used := by first | omega | (simp; done) | exact Nat.le_trans (by assumption) (by decide)) (h_r_slots_free := (SlJ.take (SlJ.of_base h_r_slots_free) _) w1 hw1) (n_r_slots_free := by first | omega | (simp; done) | exact Nat.le_trans (by assumption) (by decide)) (h_r_l := (SlNB.j hs1_1.1 sh).2 w1 hw1) (n_r_l := by first | omega | (simp; done) | exact Nat.le_trans (by assumption) (by decide)) (k_r_l := hs1_1.2) (i_c_at_ := by first | exact i_c_at_ | (simp; done) | (exact ⟨by decide, by decide⟩) | omega) (hG := hG.ext hw1.ext_out) (hE := hE.ext hw1.ext_out) (hsm := by first | assumption | exact Small.nil)) (k := ?_)
  rintro w1_526 e1_526 w2_526 hw1_526 ⟨a1_526, c1_526, a2_526, c2_526, a3_526, c3_526, a4_526, c4_526, t4_526, B_526, he_526, hf_526, hs1_526, hs2_526, hs3_526, hs4_526, hl1_526, hl2_526, hl3_526, hl4_526⟩
  refine ⟨_, _, he_526, hw1_526.fresh hf_526, ?_⟩
  have hap_50708 := gApply_small role (Command.mk 8 ((gCutC c).name) ((gCutC c).want) ((gCutC c).at_) ((gCutC c).rule) ((gCutC c).key) ((gCutC c).n) ((gCutC c).m)) now (by first | assumption | exact Small.nil : Small ((gCut r).l))
  have hab_50708 := gApply_bd (gCut r) role (Command.mk 8 ((gCutC c).name) ((gCutC c).want) ((gCutC c).at_) ((gCutC c).rule) ((gCutC c).key) ((gCutC c).n) ((gCutC c).m)) now
  try dsimp only at hab_50708
  refine Z37 ?_
  refine JL_a noMk (a_alloc (l := [_, _, _, _, _]) Tryz.zeroValue28) (k := fun r527 hr527 => ?_)
  refine JL_a noMk (a_alloc (l := [_, _, _, _, _, _]) Tryz.zeroValue44) (k := fun r528 hr528 => ?_)
  refine Z455 ?_
  refine J_subL _ (sk (sk (sa (sa (sd (sk sz)))))) ?_
  refine Z425 ?_
  refine Z281 ?_
  refine J_dec rfl (fun hq28 => ?_) (fun hq28 => ?_)
  ·refine J_seq ?_
   refine Z536 ?_
   refine Z376 ?_
   refine JX_ret Tryz.results11 (Res.tmp rfl Res.nil) (fun w1 hw1 => ?_)
   exact ⟨(by rw [(((hF.neg hq1).neg hq15).pos hq28).eq] <;> first | rfl | (simp only [List.length_set] <;> rfl)), hw1.ext_out⟩
  refine Z167 ?_
  refine Z536 ?_
  refine Z73 ?_
  rintro w1_527 e1_527 w2_527 hw1_527 ⟨a1_527, c1_527, B1_527, he_527, hf_527, ho1_527, hl1_527⟩
  refine ⟨_, _, he_527, hw1_527.fresh hf_527, ?_⟩
  refine Z427 ?_
  refine Z1 ?_
  refine J_block ?_
  refine J_loop2 (σ1 := Nat) (σ2 := Nat) (fun n_10 i_9 => (B1_527 ++ ((r527, oc [(vs a1_526 ((gApply (gCut r) role (Command.mk 8 ((gCutC c).name) ((gCutC c).want) ((gCutC c).at_) ((gCutC c).rule) ((gCutC c).key) ((gCutC c).n) ((gCutC c).m)) now).1.slots.gens.length) c1_526), (vs a2_526 ((gApply (gCut r) role (Command.mk 8 ((gCutC c).name) ((gCutC c).want) ((gCutC c).at_) ((gCutC c).rule) ((gCutC c).key) ((gCutC c).n) ((gCutC c).m)) now).1.slots.used.length) c2_526), (vs a3_526 ((gApply (gCut r) role (Command.mk 8 ((gCutC c).name) ((gCutC c).want) ((gCutC c).at_) ((gCutC c).rule) ((gCutC c).key) ((gCutC c).n) ((gCutC c).m)) now).1.slots.free.length) c3_526), (vs a4_526 ((gApply (gCut r) role (Command.mk 8 ((gCutC c).name) ((gCutC c).want) ((gCutC c).at_) ((gCutC c).rule) ((gCutC c).key) ((gCutC c).n) ((gCutC c).m)) now).1.l.length) c4_526), (vi ((gApply (gCut r) role (Command.mk 8 ((gCutC c).name) ((gCutC c).want) ((gCutC c).at_) ((gCutC c).rule) ((gCutC c).key) ((gCutC c).n) ((gCutC c).m)) now).1.seq))] 28) :: (B_526 ++ (B_1 ++ ((r1, oc [(vs r_slots_gens_a ((gCut r).slots.gens.length) r_slots_gens_c), (vs r_slots_used_a ((gCut r).slots.used.length) r_slots_used_c), (vs r_slots_free_a ((gCut r).slots.free.length) r_slots_free_c), (vs a1_1 ((gCut r).l.length) c1_1), (vi ((gCut r).seq))] 28) :: [])))))) (fun n_10 i_9 => [(5, (Value.pointer (some ⟨r1, 0, none⟩))), (10, (Value.bool false)), (11, (Value.bool gShown)), (12, (Value.pointer (some ⟨r527, 0, none⟩))), (14, (vs a1_527 ((gNames (gCut r)).length) c1_527)), (15, (vi ((i_9 : Nat) : Int)))]) (fun n_10 i_9 => ((gNames (gCut r)).length) - i_9 < n_10 ∧ Is (lRegistryReads_l2 r role c now which (((gNames (gCut r)).length) + 1) 0) (lRegistryReads_l2 r role c now which n_10 i_9)) (fun n_10 i_9 => n_10) (((gNames (gCut r)).length) + 1) 0 ?_ se (List.Perm.refl _) ?_
  ·exact ⟨Nat.lt_succ_self _, Is.refl _⟩
  ·rintro (_ | n_10) i_9 ⟨hm12, hF11⟩
   ·omega
   refine J_seq ?_
   refine Z39 ?_
   refine JL_q (q_lenS Tryz.runUnderlying66) (k := ?_)
   refine Z12 ?_
   refine J_dec rfl (fun hq29 => ?_) (fun hq29 => ?_)
   rotate_left
   ·refine J_exit ?_
    refine Z123 ?_
    refine Z2 ?_
    refine Z94 ?_
    refine Z495 ?_
    refine Z201 ?_
    refine Z0 ?_
    refine Z39 ?_
    refine JL_bool 93 rfl (fun hq38 => ?_) (fun hq38 => ?_)
    rotate_left
    ·refine JL_skips 3 rfl ?_
     refine Z254 ?_
     refine Z26 ?_
     refine JX_ret Tryz.results11 (Res.tmp rfl Res.nil) (fun w1 hw1 => ?_)
     exact ⟨(by rw [(((((hF.neg hq1).neg hq15).neg hq28).ok1 (hF11.neg hq29)).f hq38).eq] <;> first | rfl | (simp only [List.length_set] <;> rfl)), hw1.ext_out⟩
    refine Z282 ?_
    refine JL_vg (c_callA Tryz.call26) (fun w1 hw1 => gSame_ok w1 (a := (gCut r)) (b := (Registry.mk ((gApply (gCut r) role (Command.mk 8 ((gCutC c).name) ((gCutC c).want) ((gCutC c).at_) ((gCutC c).rule) ((gCutC c).key) ((gCutC c).n) ((gCutC c).m)) now).1.slots) ((gApply (gCut r) role (Command.mk 8 ((gCutC c).name) ((gCutC c).want) ((gCutC c).at_) ((gCutC c).rule) ((gCutC c).key) ((gCutC c).n) ((gCutC c).m)) now).1.l) (((gApply (gCut r) role (Command.mk 8 ((gCutC c).name) ((gCutC c).want) ((gCutC c).at_) ((gCutC c).rule) ((gCutC c).key) ((gCutC c).n) ((gCutC c).m)) now).1.seq) - 1))) (h_a_slots_gens := (SlJ.take (SlJ.of_base h_r_slots_gens) _) w1 hw1) (n_a_slots_gens := by first | omega | (simp; done) | exact Nat.le_trans (by assumption) (by decide)) (h_a_slots_used := (SlJ.take (SlJ.of_base h_r_slots_used) _) w1 hw1) (n_a_slots_used := by first | omega | (simp; done) | exact Nat.le_trans (by assumption) (by decide)) (h_a_slots_free := (SlJ.take (SlJ.of_base h_r_slots_free) _) w1 hw1) (n_a_slots_free := by first | omega | (simp; done) | exact Nat.le_trans (by assumption) (by decide)) (h_a_l := (SlNB.j hs1_1.1 sh).2 w1 hw1) (n_a_l := by first | omega | (simp; done) | exact Nat.le_trans (by assumption) (by decide)) (k_a_l := hs1_1.2) (h_b_slots_gens := (SlB.slj hs1_526) w1 hw1) (n_b_slots_gens := by first | omega | (simp; done) | exact Nat.le_trans (by assumption) (by decide)) (h_b_slots_used := (SlB.slj hs2_526) w1 hw1) (n_b_slots_used := by first | omega | (simp; done) | exact Nat.le_trans (by assumption) (by decide)) (h_b_slots_free := (SlB.slj hs3_526) w1 hw1) (n_b_slots_free := by first | omega | (simp; done) | exact Nat.le_trans (by assumption) (by decide)) (h_b_l := (SlNB.j hs4_526.1 sh).2 w1 hw1) (n_b_l := by first | omega | (simp; done) | exact Nat.le_trans (by assumption) (by decide)) (k_b_l := hs4_526.2) (hsm := by first | assumption | exact Small.nil) (hsm2 := by first | assumption | exact Small.nil)) (k := ?_)
    refine Z18 ?_
    refine JL_bool 98 rfl (fun hq39 => ?_) (fun hq39 => ?_)
    rotate_left
    ·refine JL_skips 6 rfl ?_
     refine Z26 ?_
     refine JX_ret Tryz.results11 (Res.tmp rfl Res.nil) (fun w1 hw1 => ?_)
     exact ⟨(by rw [((((((hF.neg hq1).neg hq15).neg hq28).ok1 (hF11.neg hq29)).t hq38).f hq39).eq] <;> first | rfl | (simp only [List.length_set] <;> rfl)), hw1.ext_out⟩
    refine Z480 ?_
    refine Z436 ?_
    refine JL_qg q_eql (k := ?_)
    refine Z79 ?_
    refine JX_ret Tryz.results11 (Res.tmp rfl Res.nil) (fun w1 hw1 => ?_)
    exact ⟨(by rw [((((((hF.neg hq1).neg hq15).neg hq28).ok1 (hF11.neg hq29)).t hq38).t hq39).eq] <;> first | rfl | (simp only [List.length_set] <;> rfl)), hw1.ext_out⟩
   refine Z460 ?_
   refine J_seq ?_
   refine Z347 ?_
   refine Z421 ?_
   refine JG_q 3 rfl (by kernel_rfl) (q_idx (n := (gNames (gCut r)).length) Tryz.runUnderlying66 Tryz.sizeOf9 i_9 (ho1_527.slj eS_ok) (gD (by first | exact ix)) (by first | rfl | simp)) (k := ?_)
   refine JG_q 4 rfl (by kernel_rfl) (q_loadE Tryz.isAgg9 i_9 0 (ho1_527.slj eS_ok) (gD (by first | exact ix))) (k := ?_)
   refine JG_br [5, 9] (by kernel_rfl) rfl (List.forall_mem_cons.2 ⟨?_, (List.forall_mem_cons.2 ⟨?_, nofun⟩)⟩)
   ·skip
    refine Z538 ?_
    rintro w1_648 e1_648 w2_648 hw1_648 ⟨a1_648, c1_648, a2_648, c2_648, B1_648, B2_648, he_648, hf_648, ho1_648, ho2_648, hl1_648, hl2_648⟩
    refine ⟨_, _, _, he_648, hf_648, (nA rfl).symm, ?_⟩
    have hfv_43894 := gFind_ver (gCut r) ((gNames (gCut r)).getD i_9 default)
    refine Z330 ?_
    refine JG_br [9] (by kernel_rfl) rfl (List.forall_mem_cons.2 ⟨?_, nofun⟩)
    ·skip
     refine JO_aV rfl noMk (a_alloc (l := [_, _, _, _, _, _, _, _]) Tryz.zeroValue52) (k := fun r729 hr729 => ?_)
     refine JG_br [10] (by kernel_rfl) rfl (List.forall_mem_cons.2 ⟨?_, nofun⟩)
     ·skip
      refine JO_s (V' := ((r729, _) :: [])) rfl (w_store (l' := [_, _, _, _, _, _, _, _]) Tryz.sizeOf52) (k := ?_)
      refine Z474 ?_
      refine Z72 ?_
      refine Z46 ?_
      refine Z363 ?_
      refine JD_bool 61 rfl (fun hq30 => ?_) (fun hq30 => ?_)
      ·refine JD_skips 7 rfl ?_
       refine Z54 ?_
       refine Z475 ?_
       refine JX_ret Tryz.results11 (Res.tmp rfl Res.nil) (fun w1 hw1 => ?_)
       exact ⟨(by rw [((((hF.neg hq1).neg hq15).neg hq28).er1 ((hF11.pos hq29).t hq30)).eq] <;> first | rfl | (simp only [List.length_set] <;> rfl)), hw1.ext_out⟩
      refine Z223 ?_
      refine Z311 ?_
      refine Z334 ?_
      refine Z456 ?_
      refine JD_dec 70 rfl (fun hq31 => ?_) (fun hq31 => ?_)
      ·refine JD_skips 5 rfl ?_
       refine Z408 ?_
       refine JX_ret Tryz.results11 (Res.tmp rfl Res.nil) (fun w1 hw1 => ?_)
       exact ⟨(by rw [((((hF.neg hq1).neg hq15).neg hq28).er1 (((hF11.pos hq29).f hq30).pos hq31)).eq] <;> first | rfl | (simp only [List.length_set] <;> rfl)), hw1.ext_out⟩
      refine Z448 ?_
      refine Z264 ?_
      refine Z23 ?_
      refine JD_dec 77 rfl (fun hq32 => ?_) (fun hq32 => ?_)
      ·refine JD_skips 9 rfl ?_
       refine Z287 ?_
       refine JX_ret Tryz.results11 (Res.tmp rfl Res.nil) (fun w1 hw1 => ?_)
       exact ⟨(by rw [((((hF.neg hq1).neg hq15).neg hq28).er1 ((((hF11.pos hq29).f hq30).neg hq31).pos hq32)).eq] <;> first | rfl | (simp only [List.length_set] <;> rfl)), hw1.ext_out⟩
      refine Z186 ?_
      refine Z406 ?_
      refine Z388 ?_
      refine JD_qg (q_loadEP Tryz.isAgg42 Tryz.sizeOf42 i_9 0 (SlNB.j hs1_1.1 sh).sl (zip_get hs1_1.1.1 (by first | exact ix))) (k := ?_)
      refine Z329 ?_
      refine Z0 ?_
      refine J_dec rfl (fun hq33 => ?_) (fun hq33 => ?_)
      rotate_left
      ·refine J_skip ?_
       refine Z17 ?_
       refine Z47 ?_
       refine Z232 ?_
       refine Z59 ?_
       exact JX_inv2 n_10 (i_9 + 1) ⟨by omega, (((((hF11.pos hq29).f hq30).neg hq31).neg hq32).neg hq33)⟩ (Nat.lt_succ_self _) se (List.Perm.refl _)
      refine Z221 ?_
      refine JX_ret Tryz.results11 (Res.tmp rfl Res.nil) (fun w1 hw1 => ?_)
      exact ⟨(by rw [((((hF.neg hq1).neg hq15).neg hq28).er1 (((((hF11.pos hq29).f hq30).neg hq31).neg hq32).pos hq33)).eq] <;> first | rfl | (simp only [List.length_set] <;> rfl)), hw1.ext_out⟩
   ·skip
    refine JO_aV rfl noMk (a_alloc (l := [_, _, _, _, _, _, _, _]) Tryz.zeroValue52) (k := fun r729 hr729 => ?_)
    refine JG_br [5] (by kernel_rfl) rfl (List.forall_mem_cons.2 ⟨?_, nofun⟩)
    ·skip
     refine Z538 ?_
     rintro w1_648 e1_648 w2_648 hw1_648 ⟨a1_648, c1_648, a2_648, c2_648, B1_648, B2_648, he_648, hf_648, ho1_648, ho2_648, hl1_648, hl2_648⟩
     refine ⟨_, _, _, he_648, hf_648, (nA rfl).symm, ?_⟩
     have hfv_43894 := gFind_ver (gCut r) ((gNames (gCut r)).getD i_9 default)
     refine Z330 ?_
     refine JG_br [10] (by kernel_rfl) rfl (List.forall_mem_cons.2 ⟨?_, nofun⟩)
     ·skip
      refine JO_s (V' := ((r729, _) :: [])) rfl (w_store (l' := [_, _, _, _, _, _, _, _]) Tryz.sizeOf52) (k := ?_)
      refine Z474 ?_
      refine Z72 ?_
      refine Z46 ?_
      refine Z363 ?_
      refine JD_bool 61 rfl (fun hq34 => ?_) (fun hq34 => ?_)
      ·refine JD_skips 7 rfl ?_
       refine Z54 ?_
       refine Z475 ?_
       refine JX_ret Tryz.results11 (Res.tmp rfl Res.nil) (fun w1 hw1 => ?_)
       exact ⟨(by rw [((((hF.neg hq1).neg hq15).neg hq28).er1 ((hF11.pos hq29).t hq34)).eq] <;> first | rfl | (simp only [List.length_set] <;> rfl)), hw1.ext_out⟩
      refine Z223 ?_
      refine Z311 ?_
      refine Z334 ?_
      refine Z456 ?_
      refine JD_dec 70 rfl (fun hq35 => ?_) (fun hq35 => ?_)
      ·refine JD_skips 5 rfl ?_
       refine Z408 ?_
       refine JX_ret Tryz.results11 (Res.tmp rfl Res.nil) (fun w1 hw1 => ?_)
       exact ⟨(by rw [((((hF.neg hq1).neg hq15).neg hq28).er1 (((hF11.pos hq29).f hq34).pos hq35)).eq] <;> first | rfl | (simp only [List.length_set] <;> rfl)), hw1.ext_out⟩
      refine Z448 ?_
      refine Z264 ?_
      refine Z23 ?_
      refine JD_dec 77 rfl (fun hq36 => ?_) (fun hq36 => ?_)
      ·refine JD_skips 9 rfl ?_
       refine Z287 ?_
       refine JX_ret Tryz.results11 (Res.tmp rfl Res.nil) (fun w1 hw1 => ?_)
       exact ⟨(by rw [((((hF.neg hq1).neg hq15).neg hq28).er1 ((((hF11.pos hq29).f hq34).neg hq35).pos hq36)).eq] <;> first | rfl | (simp only [List.length_set] <;> rfl)), hw1.ext_out⟩
      refine Z186 ?_
      refine Z406 ?_
      refine Z388 ?_
      refine JD_qg (q_loadEP Tryz.isAgg42 Tryz.sizeOf42 i_9 0 (SlNB.j hs1_1.1 sh).sl (zip_get hs1_1.1.1 (by first | exact ix))) (k := ?_)
      refine Z329 ?_
      refine Z0 ?_
      refine J_dec rfl (fun hq37 => ?_) (fun hq37 => ?_)
      rotate_left
      ·refine J_skip ?_
       refine Z17 ?_
       refine Z47 ?_
       refine Z232 ?_
       refine Z59 ?_
       exact JX_inv2 n_10 (i_9 + 1) ⟨by omega, (((((hF11.pos hq29).f hq34).neg hq35).neg hq36).neg hq37)⟩ (Nat.lt_succ_self _) se (List.Perm.refl _)
      refine Z221 ?_
      refine JX_ret Tryz.results11 (Res.tmp rfl Res.nil) (fun w1 hw1 => ?_)
      exact ⟨(by rw [((((hF.neg hq1).neg hq15).neg hq28).er1 (((((hF11.pos hq29).f hq34).neg hq35).neg hq36).pos hq37)).eq] <;> first | rfl | (simp only [List.length_set] <;> rfl)), hw1.ext_out⟩
 refine Z486 ?_
 refine Z206 ?_
 refine Z0 ?_
 refine Z248 ?_
 refine Z126 ?_
 refine JL_p (c_callA Tryz.call17) (fun w1 hw1 => gApply_ok w1 (r := (gCut r)) (role := role) (c := (Command.mk 10 ((gCutC c).name) ((gCutC c).want) ((gCutC c).at_) ((gCutC c).rule) ((gCutC c).key) ((gCutC c).n) ((gCutC c).m))) (now := now) (h_r_slots_gens := (SlJ.take (SlJ.of_base h_r_slots_gens) _) w1 hw1) (n_r_slots_gens := by first | omega | (simp; done) | exact Nat.le_trans (by assumption) (by decide)) (h_r_slots_used := (SlJ.take (SlJ.of_base h_r_slots_used) _) w1 hw1) (n_r_slots_used := by first | omega | (simp; done) | exact Nat.le_trans (by assumption) (by decide)) (h_r_slots_free := (SlJ.take (SlJ.of_base h_r_slots_free) _) w1 hw1) (n_r_slots_free := by first | omega | (simp; done) | exact Nat.le_trans (by assumption) (by decide)) (h_r_l := (SlNB.j hs1_1.1 sh).2 w1 hw1) (n_r_l := by first | omega | (simp; done) | exact Nat.le_trans (by assumption) (by decide)) (k_r_l := hs1_1.2) (i_c_at_ := by first | exact i_c_at_ | (simp; done) | (exact ⟨by decide, by decide⟩) | omega) (hG := hG.ext hw1.ext_out) (hE := hE.ext hw1.ext_out) (hsm := by first | assumption | exact Small.nil)) (k := ?_)
 rintro w1_264 e1_264 w2_264 hw1_264 ⟨a1_264, c1_264, a2_264, c2_264, a3_264, c3_264, a4_264, c4_264, t4_264, B_264, he_264, hf_264, hs1_264, hs2_264, hs3_264, hs4_264, hl1_264, hl2_264, hl3_264, hl4_264⟩
 refine ⟨_, _, he_264, hw1_264.fresh hf_264, ?_⟩
 have hap_90506 := gApply_small role (Command.mk 10 ((gCutC c).name) ((gCutC c).want) ((gCutC c).at_) ((gCutC c).rule) ((gCutC c).key) ((gCutC c).n) ((gCutC c).m)) now (by first | assumption | exact Small.nil : Small ((gCut r).l))
 have hab_90506 := gApply_bd (gCut r) role (Command.mk 10 ((gCutC c).name) ((gCutC c).want) ((gCutC c).at_) ((gCutC c).rule) ((gCutC c).key) ((gCutC c).n) ((gCutC c).m)) now
 try dsimp only at hab_90506
 refine Z37 ?_
 refine JL_a noMk (a_alloc (l := [_, _, _, _, _]) Tryz.zeroValue28) (k := fun r265 hr265 => ?_)
 refine JL_a noMk (a_alloc (l := [_, _, _, _, _, _]) Tryz.zeroValue44) (k := fun r266 hr266 => ?_)
 refine Z455 ?_
 refine J_subL _ (sk (sk (sa (sa (sd (sk sz)))))) ?_
 refine Z425 ?_
 refine Z281 ?_
 refine J_dec rfl (fun hq16 => ?_) (fun hq16 => ?_)
 ·refine J_seq ?_
  refine Z536 ?_
  refine Z376 ?_
  refine JX_ret Tryz.results11 (Res.tmp rfl Res.nil) (fun w1 hw1 => ?_)
  exact ⟨(by rw [(((hF.neg hq1).pos hq15).pos hq16).eq] <;> first | rfl | (simp only [List.length_set] <;> rfl)), hw1.ext_out⟩
 refine Z167 ?_
 refine Z536 ?_
 refine Z73 ?_
 rintro w1_265 e1_265 w2_265 hw1_265 ⟨a1_265, c1_265, B1_265, he_265, hf_265, ho1_265, hl1_265⟩
 refine ⟨_, _, he_265, hw1_265.fresh hf_265, ?_⟩
 refine Z427 ?_
 refine Z1 ?_
 refine J_block ?_
 refine J_loop2 (σ1 := Nat) (σ2 := Nat) (fun n_6 i_5 => (B1_265 ++ ((r265, oc [(vs a1_264 ((gApply (gCut r) role (Command.mk 10 ((gCutC c).name) ((gCutC c).want) ((gCutC c).at_) ((gCutC c).rule) ((gCutC c).key) ((gCutC c).n) ((gCutC c).m)) now).1.slots.gens.length) c1_264), (vs a2_264 ((gApply (gCut r) role (Command.mk 10 ((gCutC c).name) ((gCutC c).want) ((gCutC c).at_) ((gCutC c).rule) ((gCutC c).key) ((gCutC c).n) ((gCutC c).m)) now).1.slots.used.length) c2_264), (vs a3_264 ((gApply (gCut r) role (Command.mk 10 ((gCutC c).name) ((gCutC c).want) ((gCutC c).at_) ((gCutC c).rule) ((gCutC c).key) ((gCutC c).n) ((gCutC c).m)) now).1.slots.free.length) c3_264), (vs a4_264 ((gApply (gCut r) role (Command.mk 10 ((gCutC c).name) ((gCutC c).want) ((gCutC c).at_) ((gCutC c).rule) ((gCutC c).key) ((gCutC c).n) ((gCutC c).m)) now).1.l.length) c4_264), (vi ((gApply (gCut r) role (Command.mk 10 ((gCutC c).name) ((gCutC c).want) ((gCutC c).at_) ((gCutC c).rule) ((gCutC c).key) ((gCutC c).n) ((gCutC c).m)) now).1.seq))] 28) :: (B_264 ++ (B_1 ++ ((r1, oc [(vs r_slots_gens_a ((gCut r).slots.gens.length) r_slots_gens_c), (vs r_slots_used_a ((gCut r).slots.used.length) r_slots_used_c), (vs r_slots_free_a ((gCut r).slots.free.length) r_slots_free_c), (vs a1_1 ((gCut r).l.length) c1_1), (vi ((gCut r).seq))] 28) :: [])))))) (fun n_6 i_5 => [(5, (Value.pointer (some ⟨r1, 0, none⟩))), (10, (Value.bool false)), (11, (Value.bool gShown)), (12, (Value.pointer (some ⟨r265, 0, none⟩))), (14, (vs a1_265 ((gNames (gCut r)).length) c1_265)), (15, (vi ((i_5 : Nat) : Int)))]) (fun n_6 i_5 => ((gNames (gCut r)).length) - i_5 < n_6 ∧ Is (lRegistryReads_l1 r role c now which (((gNames (gCut r)).length) + 1) 0) (lRegistryReads_l1 r role c now which n_6 i_5)) (fun n_6 i_5 => n_6) (((gNames (gCut r)).length) + 1) 0 ?_ se (List.Perm.refl _) ?_
 ·exact ⟨Nat.lt_succ_self _, Is.refl _⟩
 ·rintro (_ | n_6) i_5 ⟨hm8, hF7⟩
  ·omega
  refine J_seq ?_
  refine Z39 ?_
  refine JL_q (q_lenS Tryz.runUnderlying66) (k := ?_)
  refine Z12 ?_
  refine J_dec rfl (fun hq17 => ?_) (fun hq17 => ?_)
  rotate_left
  ·refine J_exit ?_
   refine Z123 ?_
   refine Z2 ?_
   refine Z94 ?_
   refine Z495 ?_
   refine Z201 ?_
   refine Z0 ?_
   refine Z39 ?_
   refine JL_bool 93 rfl (fun hq26 => ?_) (fun hq26 => ?_)
   rotate_left
   ·refine JL_skips 3 rfl ?_
    refine Z254 ?_
    refine Z26 ?_
    refine JX_ret Tryz.results11 (Res.tmp rfl Res.nil) (fun w1 hw1 => ?_)
    exact ⟨(by rw [(((((hF.neg hq1).pos hq15).neg hq16).ok1 (hF7.neg hq17)).f hq26).eq] <;> first | rfl | (simp only [List.length_set] <;> rfl)), hw1.ext_out⟩
   refine Z282 ?_
   refine JL_vg (c_callA Tryz.call26) (fun w1 hw1 => gSame_ok w1 (a := (gCut r)) (b := (Registry.mk ((gApply (gCut r) role (Command.mk 10 ((gCutC c).name) ((gCutC c).want) ((gCutC c).at_) ((gCutC c).rule) ((gCutC c).key) ((gCutC c).n) ((gCutC c).m)) now).1.slots) ((gApply (gCut r) role (Command.mk 10 ((gCutC c).name) ((gCutC c).want) ((gCutC c).at_) ((gCutC c).rule) ((gCutC c).key) ((gCutC c).n) ((gCutC c).m)) now).1.l) (((gApply (gCut r) role (Command.mk 10 ((gCutC c).name) ((gCutC c).want) ((gCutC c).at_) ((gCutC c).rule) ((gCutC c).key) ((gCutC c).n) ((gCutC c).m)) now).1.seq) - 1))) (h_a_slots_gens := (SlJ.take (SlJ.of_base h_r_slots_gens) _) w1 hw1) (n_a_slots_gens := by first | omega | (simp; done) | exact Nat.le_trans (by assumption) (by decide)) (h_a_slots_used := (SlJ.take (SlJ.of_base h_r_slots_used) _) w1 hw1) (n_a_slots_used := by first | omega | (simp; done) | exact Nat.le_trans (by assumption) (by decide)) (h_a_slots_free := (SlJ.take (SlJ.of_base h_r_slots_free) _) w1 hw1) (n_a_slots_free := by first | omega | (simp; done) | exact Nat.le_trans (by assumption) (by decide)) (h_a_l := (SlNB.j hs1_1.1 sh).2 w1 hw1) (n_a_l := by first | omega | (simp; done) | exact Nat.le_trans (by assumption) (by decide)) (k_a_l := hs1_1.2) (h_b_slots_gens := (SlB.slj hs1_264) w1 hw1) (n_b_slots_gens := by first | omega | (simp; done) | exact Nat.le_trans (by assumption) (by decide)) (h_b_slots_used := (SlB.slj hs2_264) w1 hw1) (n_b_slots_used := by first | omega | (simp; done) | exact Nat.le_trans (by assumption) (by decide)) (h_b_slots_free := (SlB.slj hs3_264) w1 hw1) (n_b_slots_free := by first | omega | (simp; done) | exact Nat.le_trans (by assumption) (by decide)) (h_b_l := (SlNB.j hs4_264.1 sh).2 w1 hw1) (n_b_l := by first | omega | (simp; done) | exact Nat.le_trans (by assumption) (by decide)) (k_b_l := hs4_264.2) (hsm := by first | assumption | exact Small.nil) (hsm2 := by first | assumption | exact Small.nil)) (k := ?_)
   refine Z18 ?_
   refine JL_bool 98 rfl (fun hq27 => ?_) (fun hq27 => ?_)
   rotate_left
   ·refine JL_skips 6 rfl ?_
    refine Z26 ?_
    refine JX_ret Tryz.results11 (Res.tmp rfl Res.nil) (fun w1 hw1 => ?_)
    exact ⟨(by rw [((((((hF.neg hq1).pos hq15).neg hq16).ok1 (hF7.neg hq17)).t hq26).f hq27).eq] <;> first | rfl | (simp only [List.length_set] <;> rfl)), hw1.ext_out⟩
   refine Z480 ?_
   refine Z436 ?_
   refine JL_qg q_eql (k := ?_)
   refine Z79 ?_
   refine JX_ret Tryz.results11 (Res.tmp rfl Res.nil) (fun w1 hw1 => ?_)
   exact ⟨(by rw [((((((hF.neg hq1).pos hq15).neg hq16).ok1 (hF7.neg hq17)).t hq26).t hq27).eq] <;> first | rfl | (simp only [List.length_set] <;> rfl)), hw1.ext_out⟩
  refine Z460 ?_
  refine J_seq ?_
  refine Z347 ?_
  refine Z421 ?_
  refine JG_q 3 rfl (by kernel_rfl) (q_idx (n := (gNames (gCut r)).length) Tryz.runUnderlying66 Tryz.sizeOf9 i_5 (ho1_265.slj eS_ok) (gD (by first | exact ix)) (by first | rfl | simp)) (k := ?_)
  refine JG_q 4 rfl (by kernel_rfl) (q_loadE Tryz.isAgg9 i_5 0 (ho1_265.slj eS_ok) (gD (by first | exact ix))) (k := ?_)
  refine JG_br [5, 9] (by kernel_rfl) rfl (List.forall_mem_cons.2 ⟨?_, (List.forall_mem_cons.2 ⟨?_, nofun⟩)⟩)
  ·skip
   refine Z539 ?_
   rintro w1_386 e1_386 w2_386 hw1_386 ⟨a1_386, c1_386, a2_386, c2_386, B1_386, B2_386, he_386, hf_386, ho1_386, ho2_386, hl1_386, hl2_386⟩
   refine ⟨_, _, _, he_386, hf_386, (nA rfl).symm, ?_⟩
   have hfv_86961 := gFind_ver (gCut r) ((gNames (gCut r)).getD i_5 default)
   refine Z330 ?_
   refine JG_br [9] (by kernel_rfl) rfl (List.forall_mem_cons.2 ⟨?_, nofun⟩)
   ·skip
    refine JO_aV rfl noMk (a_alloc (l := [_, _, _, _, _, _, _, _]) Tryz.zeroValue52) (k := fun r467 hr467 => ?_)
    refine JG_br [10] (by kernel_rfl) rfl (List.forall_mem_cons.2 ⟨?_, nofun⟩)
    ·skip
     refine JO_s (V' := ((r467, _) :: [])) rfl (w_store (l' := [_, _, _, _, _, _, _, _]) Tryz.sizeOf52) (k := ?_)
     refine Z474 ?_
     refine Z72 ?_
     refine Z46 ?_
     refine Z363 ?_
     refine JD_bool 61 rfl (fun hq18 => ?_) (fun hq18 => ?_)
     ·refine JD_skips 7 rfl ?_
      refine Z54 ?_
      refine Z475 ?_
      refine JX_ret Tryz.results11 (Res.tmp rfl Res.nil) (fun w1 hw1 => ?_)
      exact ⟨(by rw [((((hF.neg hq1).pos hq15).neg hq16).er1 ((hF7.pos hq17).t hq18)).eq] <;> first | rfl | (simp only [List.length_set] <;> rfl)), hw1.ext_out⟩
     refine Z223 ?_
     refine Z311 ?_
     refine Z335 ?_
     refine Z456 ?_
     refine JD_dec 70 rfl (fun hq19 => ?_) (fun hq19 => ?_)
     ·refine JD_skips 5 rfl ?_
      refine Z408 ?_
      refine JX_ret Tryz.results11 (Res.tmp rfl Res.nil) (fun w1 hw1 => ?_)
      exact ⟨(by rw [((((hF.neg hq1).pos hq15).neg hq16).er1 (((hF7.pos hq17).f hq18).pos hq19)).eq] <;> first | rfl | (simp only [List.length_set] <;> rfl)), hw1.ext_out⟩
     refine Z448 ?_
     refine Z264 ?_
     refine Z23 ?_
     refine JD_dec 77 rfl (fun hq20 => ?_) (fun hq20 => ?_)
     ·refine JD_skips 9 rfl ?_
      refine Z287 ?_
      refine JX_ret Tryz.results11 (Res.tmp rfl Res.nil) (fun w1 hw1 => ?_)
      exact ⟨(by rw [((((hF.neg hq1).pos hq15).neg hq16).er1 ((((hF7.pos hq17).f hq18).neg hq19).pos hq20)).eq] <;> first | rfl | (simp only [List.length_set] <;> rfl)), hw1.ext_out⟩
     refine Z186 ?_
     refine Z406 ?_
     refine Z389 ?_
     refine JD_qg (q_loadEP Tryz.isAgg42 Tryz.sizeOf42 i_5 0 (SlNB.j hs1_1.1 sh).sl (zip_get hs1_1.1.1 (by first | exact ix))) (k := ?_)
     refine Z329 ?_
     refine Z0 ?_
     refine J_dec rfl (fun hq21 => ?_) (fun hq21 => ?_)
     rotate_left
     ·refine J_skip ?_
      refine Z17 ?_
      refine Z47 ?_
      refine Z232 ?_
      refine Z59 ?_
      exact JX_inv2 n_6 (i_5 + 1) ⟨by omega, (((((hF7.pos hq17).f hq18).neg hq19).neg hq20).neg hq21)⟩ (Nat.lt_succ_self _) se (List.Perm.refl _)
     refine Z221 ?_
     refine JX_ret Tryz.results11 (Res.tmp rfl Res.nil) (fun w1 hw1 => ?_)
     exact ⟨(by rw [((((hF.neg hq1).pos hq15).neg hq16).er1 (((((hF7.pos hq17).f hq18).neg hq19).neg hq20).pos hq21)).eq] <;> first | rfl | (simp only [List.length_set] <;> rfl)), hw1.ext_out⟩
  ·skip
   refine JO_aV rfl noMk (a_alloc (l := [_, _, _, _, _, _, _, _]) Tryz.zeroValue52) (k := fun r467 hr467 => ?_)
   refine JG_br [5] (by kernel_rfl) rfl (List.forall_mem_cons.2 ⟨?_, nofun⟩)
   ·skip
    refine Z539 ?_
    rintro w1_386 e1_386 w2_386 hw1_386 ⟨a1_386, c1_386, a2_386, c2_386, B1_386, B2_386, he_386, hf_386, ho1_386, ho2_386, hl1_386, hl2_386⟩
    refine ⟨_, _, _, he_386, hf_386, (nA rfl).symm, ?_⟩
    have hfv_86961 := gFind_ver (gCut r) ((gNames (gCut r)).getD i_5 default)
    refine Z330 ?_
    refine JG_br [10] (by kernel_rfl) rfl (List.forall_mem_cons.2 ⟨?_, nofun⟩)
    ·skip
     refine JO_s (V' := ((r467, _) :: [])) rfl (w_store (l' := [_, _, _, _, _, _, _, _]) Tryz.sizeOf52) (k := ?_)
     refine Z474 ?_
     refine Z72 ?_
     refine Z46 ?_
     refine Z363 ?_
     refine JD_bool 61 rfl (fun hq22 => ?_) (fun hq22 => ?_)
     ·refine JD_skips 7 rfl ?_
      refine Z54 ?_
      refine Z475 ?_
      refine JX_ret Tryz.results11 (Res.tmp rfl Res.nil) (fun w1 hw1 => ?_)
      exact ⟨(by rw [((((hF.neg hq1).pos hq15).neg hq16).er1 ((hF7.pos hq17).t hq22)).eq] <;> first | rfl | (simp only [List.length_set] <;> rfl)), hw1.ext_out⟩
     refine Z223 ?_
     refine Z311 ?_
     refine Z335 ?_
     refine Z456 ?_
     refine JD_dec 70 rfl (fun hq23 => ?_) (fun hq23 => ?_)
     ·refine JD_skips 5 rfl ?_
      refine Z408 ?_
      refine JX_ret Tryz.results11 (Res.tmp rfl Res.nil) (fun w1 hw1 => ?_)
      exact ⟨(by rw [((((hF.neg hq1).pos hq15).neg hq16).er1 (((hF7.pos hq17).f hq22).pos hq23)).eq] <;> first | rfl | (simp only [List.length_set] <;> rfl)), hw1.ext_out⟩
     refine Z448 ?_
     refine Z264 ?_
     refine Z23 ?_
     refine JD_dec 77 rfl (fun hq24 => ?_) (fun hq24 => ?_)
     ·refine JD_skips 9 rfl ?_
      refine Z287 ?_
      refine JX_ret Tryz.results11 (Res.tmp rfl Res.nil) (fun w1 hw1 => ?_)
      exact ⟨(by rw [((((hF.neg hq1).pos hq15).neg hq16).er1 ((((hF7.pos hq17).f hq22).neg hq23).pos hq24)).eq] <;> first | rfl | (simp only [List.length_set] <;> rfl)), hw1.ext_out⟩
     refine Z186 ?_
     refine Z406 ?_
     refine Z389 ?_
     refine JD_qg (q_loadEP Tryz.isAgg42 Tryz.sizeOf42 i_5 0 (SlNB.j hs1_1.1 sh).sl (zip_get hs1_1.1.1 (by first | exact ix))) (k := ?_)
     refine Z329 ?_
     refine Z0 ?_
     refine J_dec rfl (fun hq25 => ?_) (fun hq25 => ?_)
     rotate_left
     ·refine J_skip ?_
      refine Z17 ?_
      refine Z47 ?_
      refine Z232 ?_
      refine Z59 ?_
      exact JX_inv2 n_6 (i_5 + 1) ⟨by omega, (((((hF7.pos hq17).f hq22).neg hq23).neg hq24).neg hq25)⟩ (Nat.lt_succ_self _) se (List.Perm.refl _)
     refine Z221 ?_
     refine JX_ret Tryz.results11 (Res.tmp rfl Res.nil) (fun w1 hw1 => ?_)
     exact ⟨(by rw [((((hF.neg hq1).pos hq15).neg hq16).er1 (((((hF7.pos hq17).f hq22).neg hq23).neg hq24).pos hq25)).eq] <;> first | rfl | (simp only [List.length_set] <;> rfl)), hw1.ext_out⟩

end Go.Proofs.YtopjaeoklkpcpaaGreatDoor.Jd

