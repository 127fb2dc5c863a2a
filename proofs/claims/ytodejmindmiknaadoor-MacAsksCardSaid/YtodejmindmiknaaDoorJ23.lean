/- Drawn regions with guards whose value is known. No condition. -/
import Derived.Test.YtodejmindmiknaaDoorJ22
namespace Go.Proofs.YtodejmindmiknaaDoor.Jd
set_option linter.unusedSimpArgs false
open Go.RowKit (Below)
set_option linter.unusedVariables false
section
variable {P : Program} {rd : Option Nat} {b0 : World} {Mk : List Nat} {N : Nat} {D : List Deferred} {l : List Oper} {n f : Nat} {listed : Array Bool} {L V : Heap} {E : Env} {T : Act → World → Prop}
variable {op : Op} {ty : TypeId} {pos : String} {after : Array Edge} {v : Value} {d : Nat}
theorem JG_qg (i : Nat) {g t : Nat} {b : Bool} {u : Value} (hi : l[i]? = some { dst := some d, op := op, type := ty, pos := pos, after := after, guard := some (g, b) }) (ht : takeB l n listed i = true) (h : RunQ P N D b0 Mk L E op ty v)
    (hg : (l.toArray[g]?).bind (·.dst) = some t := by rfl) (hu : look E t = some u := by rfl) (hb : wantB u b = true := by rfl) (htt : Nat.blt t N = true := by rfl) (hd : Nat.blt d N = true := by rfl)
    (k : JG P rd b0 Mk N D l n f (listed.setIfInBounds i true) L V ((d, v) :: E) T) : JG P rd b0 Mk N D l n (f + 1) listed L V E T := by
  intro hgd inv a w ha hw
  simp only [takeB, Bool.and_eq_true, Nat.blt_eq] at ht
  obtain ⟨⟨hin, hr⟩, hf⟩ := ht
  have hi' : l.toArray[i]? = some { dst := some d, op := op, type := ty, pos := pos, after := after, guard := some (g, b) } := by simpa using hi
  have hr' : i ∈ Region.ready .any l.toArray listed := by simpa using hr
  refine wpG_first hi' (goodB_nd hgd) (goodB_tail hgd) hin (fun listed' a' w' hF => seqB_ready hF.1) f _ listed a w inv (Region.free_spec hi' hf) hr' (v := v) (.inl ⟨by simp only [Region.wanted]; rw [yielded_of ha hg hu htt]; exact hb, fun w' hw' => by rw [execOp_mkO]; exact h a w' ha hw'⟩) hw.right ?_
  exact k hgd (inv.set hr' hin) _ _ (ha.put hd v) hw
theorem JO_rg {i : Nat} {fn : FuncId} {args : List Value} {X : Type} {v : X → Value} {B : X → Heap} {g t : Nat} {b : Bool} {u : Value} (hi : l[i]? = some { dst := some d, op := op, type := ty, pos := pos, after := after, guard := some (g, b) }) (hc : RunC P N D b0 Mk L E op ty fn args)
    (h : ∀ w, SH b0 Mk L w → Ret P fn args w X v B) (hg : (l.toArray[g]?).bind (·.dst) = some t := by rfl) (hu : look E t = some u := by rfl) (hb : wantB u b = true := by rfl) (htt : Nat.blt t N = true := by rfl) (hn : notDeferOp op = true := by rfl) (hd : Nat.blt d N = true := by rfl)
    (k : ∀ x, JG P rd b0 Mk N D l n f (listed.setIfInBounds i true) (B x ++ L) V ((d, v x) :: E) T) : JO P rd b0 Mk N D l n f listed L V E T i := by
  intro hgd inv a w ha hw
  have hi' : l.toArray[i]? = some { dst := some d, op := op, type := ty, pos := pos, after := after, guard := some (g, b) } := by simpa using hi
  unfold wpO
  simp only [hi']
  rw [if_pos (by simp only [Region.wanted]; rw [yielded_of ha hg hu htt]; exact hb)]
  refine wpIn_enter (notDefer_mk hn) (by rw [execOp_mkO]; exact hc a w ha hw.right) (((h w hw.right).shV hw).mono fun e w' he => ?_)
  obtain ⟨x, rfl, h2⟩ := he
  exact ⟨_, rfl, SH b0 Mk (B x ++ L), fun y hy => hy.right, h2.right, k x hgd inv _ _ (ha.put hd _) h2⟩
theorem JO_vg {i : Nat} {fn : FuncId} {args : List Value} {g t : Nat} {b : Bool} {u : Value} (hi : l[i]? = some { dst := some d, op := op, type := ty, pos := pos, after := after, guard := some (g, b) }) (hc : RunC P N D b0 Mk L E op ty fn args)
    (h : ∀ w, SH b0 Mk L w → Val P fn args w v) (hg : (l.toArray[g]?).bind (·.dst) = some t := by rfl) (hu : look E t = some u := by rfl) (hb : wantB u b = true := by rfl) (htt : Nat.blt t N = true := by rfl) (hn : notDeferOp op = true := by rfl) (hd : Nat.blt d N = true := by rfl)
    (k : JG P rd b0 Mk N D l n f (listed.setIfInBounds i true) L V ((d, v) :: E) T) : JO P rd b0 Mk N D l n f listed L V E T i :=
  JO_rg (X := Unit) (v := fun _ => v) (B := fun _ => []) hi hc (fun w hw => (h w hw).mono fun _ _ ⟨he, hf⟩ => ⟨(), he, Fresh.of_ext hf⟩) hg hu hb htt hn hd fun _ => k
theorem JO_qg {i g t : Nat} {b : Bool} {u : Value} (hi : l[i]? = some { dst := some d, op := op, type := ty, pos := pos, after := after, guard := some (g, b) }) (h : RunQ P N D b0 Mk L E op ty v)
    (hg : (l.toArray[g]?).bind (·.dst) = some t := by rfl) (hu : look E t = some u := by rfl) (hb : wantB u b = true := by rfl) (htt : Nat.blt t N = true := by rfl) (hn : notDeferOp op = true := by rfl) (hd : Nat.blt d N = true := by rfl)
    (k : JG P rd b0 Mk N D l n f (listed.setIfInBounds i true) L V ((d, v) :: E) T) : JO P rd b0 Mk N D l n f listed L V E T i := by
  intro hgd inv a w ha hw
  have hi' : l.toArray[i]? = some { dst := some d, op := op, type := ty, pos := pos, after := after, guard := some (g, b) } := by simpa using hi
  unfold wpO
  simp only [hi']
  rw [if_pos (by simp only [Region.wanted]; rw [yielded_of ha hg hu htt]; exact hb)]
  exact wpIn_value (notDefer_mk hn) (by rw [execOp_mkO]; exact h a w ha hw.right) ⟨SH b0 Mk L, fun y hy => hy, hw.right, k hgd inv _ _ (ha.put hd _) hw⟩
end
end Go.Proofs.YtodejmindmiknaaDoor.Jd
