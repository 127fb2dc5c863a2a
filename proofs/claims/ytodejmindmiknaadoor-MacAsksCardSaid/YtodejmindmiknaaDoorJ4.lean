/- Regions in which new blocks may be made at several moments: every order is gone through. Further words: loops over several variables, slices that are made and appended to. No condition. -/
import Derived.Test.YtodejmindmiknaaDoorJ3
namespace Go.Proofs.YtodejmindmiknaaDoor.Jd
set_option linter.unusedSimpArgs false
set_option linter.unusedVariables false
open Go.RowKit (Below)

def FinG (P : Program) (rd : Option Nat) (ops : Array Oper) (g n : Nat) (T : Act → World → Prop) (listed : Array Bool) (a : Act) (w : World) : Prop := Region.seqB .any ops g n listed = true ∧ T a w

def goodB (l : List Oper) (n : Nat) : Bool :=
  Nat.ble n l.length && l.all notDefer && (Nat.beq n l.length || (Region.sinkB .any l.toArray n && Region.chainB .any l.toArray n))

/-- From here on whatever order: f of the first n operations are still to come. -/
def JG (P : Program) (rd : Option Nat) (b0 : World) (Mk : List Nat) (N : Nat) (D : List Deferred) (l : List Oper) (n f : Nat) (listed : Array Bool) (L V : Heap) (E : Env) (T : Act → World → Prop) : Prop :=
  goodB l n = true → HeadInv .any l.toArray n listed → ∀ a w, Holds N D E a → SH b0 Mk (V ++ L) w → wpG P rd l.toArray n (FinG P rd l.toArray (l.length - n) n T) f (SH b0 Mk L) listed a w

/-- Operation i comes next. -/
def JO (P : Program) (rd : Option Nat) (b0 : World) (Mk : List Nat) (N : Nat) (D : List Deferred) (l : List Oper) (n f : Nat) (listed : Array Bool) (L V : Heap) (E : Env) (T : Act → World → Prop) (i : Nat) : Prop :=
  goodB l n = true → HeadInv .any l.toArray n (listed.setIfInBounds i true) → ∀ a w, Holds N D E a → SH b0 Mk (V ++ L) w →
    wpO P rd l.toArray i (fun a' w' => ∃ S' : World → Prop, (∀ x, S' x → SH b0 Mk L x) ∧ S' w' ∧ wpG P rd l.toArray n (FinG P rd l.toArray (l.length - n) n T) f S' (listed.setIfInBounds i true) a' w') a w

def takeB (l : List Oper) (n : Nat) (listed : Array Bool) (i : Nat) : Bool := Nat.blt i n && (Region.ready .any l.toArray listed).contains i && Region.free .any l.toArray listed i

section
variable {P : Program} {rd : Option Nat} {b0 : World} {Mk : List Nat} {N : Nat} {D : List Deferred} {l : List Oper} {n f : Nat} {listed : Array Bool} {L V : Heap} {E : Env} {T : Act → World → Prop}
variable {op : Op} {ty : TypeId} {pos : String} {after : Array Edge} {v : Value} {d : Nat}

theorem goodB_nd (h : goodB l n = true) : ∀ (j : Nat) (o : Oper), l.toArray[j]? = some o → notDefer o = true := fun j o ho => by
  simp only [goodB, Bool.and_eq_true] at h
  have : o ∈ l := by simpa using Array.mem_of_getElem? ho
  exact List.all_eq_true.1 h.1.2 o this

theorem goodB_tail (h : goodB l n = true) : ∀ listed, HeadInv .any l.toArray n listed → ∀ i, i < n → listed.getD i true = false → ∀ j ∈ Region.ready .any l.toArray listed, j < n := by
  simp only [goodB, Bool.and_eq_true, Nat.ble_eq] at h
  obtain ⟨⟨hn, _⟩, htl⟩ := h
  intro listed inv i hin hun j hj
  rw [Bool.or_eq_true] at htl
  rcases htl with htl | htl
  · have : n = l.length := by simpa using htl
    obtain ⟨_, oj, hoj, _⟩ := mem_ready.1 hj
    have := (Array.getElem?_eq_some_iff.1 hoj).1
    simp at this
    omega
  · simp only [Bool.and_eq_true] at htl
    rcases Nat.lt_or_ge j n with h' | h'
    · exact h'
    · rcases Nat.lt_or_ge n l.length with h2 | h2
      · exact absurd hj (tail_waits htl.1 htl.2 (by simpa using h2) inv _ i rfl hin hun j h')
      · obtain ⟨_, oj, hoj, _⟩ := mem_ready.1 hj
        have := (Array.getElem?_eq_some_iff.1 hoj).1
        simp at this
        omega

theorem J_any {id : Nat} {Q : Exit → Act → World → Prop} (hm : P.follows .mixedOrders = true) (n : Nat) (hg : goodB l n = true)
    (h : JG P rd b0 Mk N D l n n (Array.replicate l.length false) L V E (fun a w => wpL P rd l.toArray (Q .normal) (l.drop n) a w)) : J P rd b0 Mk N D (V ++ L) E (Code.region id l.toArray true) Q := by
  intro a w ha hw
  have inv0 : HeadInv .any l.toArray n (Array.replicate l.length false) :=
    ⟨by simp, fun j oj _ hl => (by rw [getD_replicate_false] at hl; cases hl), fun t _ ht => getD_in (by simpa using ht) (getD_replicate_false _ _)⟩
  have H := h hg inv0 a _ ha (hw.drawn (w.drawn + 1))
  have hn : n ≤ l.length := by simp only [goodB, Bool.and_eq_true, Nat.ble_eq] at hg; exact hg.1.1
  refine wpIn_nQ (wpIn_region_any hm ?_)
  have := wpAnyIn_of_wpG (Q := nQ (Q .normal)) (g := l.length - n) (fun listed a' w' hF => by
    have h1 := wpAnyIn_of_seq (P := P) (rd := rd) (ops := l.toArray) (l.drop n) n listed a' w' (fun j => by simp [List.getElem?_drop]) (by rw [List.length_drop]; exact hF.1) hF.2
    rwa [List.length_drop] at h1) _ _ _ _ _ H
  rw [show n + (l.length - n) = l.length by omega] at this
  simpa using this

theorem JG_q (i : Nat) (hi : l[i]? = some { dst := some d, op := op, type := ty, pos := pos, after := after, guard := none }) (ht : takeB l n listed i = true) (h : RunQ P N D b0 Mk L E op ty v) (hd : Nat.blt d N = true := by rfl)
    (k : JG P rd b0 Mk N D l n f (listed.setIfInBounds i true) L V ((d, v) :: E) T) : JG P rd b0 Mk N D l n (f + 1) listed L V E T := by
  intro hg inv a w ha hw
  simp only [takeB, Bool.and_eq_true, Nat.blt_eq] at ht
  obtain ⟨⟨hin, hr⟩, hf⟩ := ht
  have hi' : l.toArray[i]? = some { dst := some d, op := op, type := ty, pos := pos, after := after, guard := none } := by simpa using hi
  have hr' : i ∈ Region.ready .any l.toArray listed := by simpa using hr
  refine wpG_first hi' (goodB_nd hg) (goodB_tail hg) hin (fun listed' a' w' hF => seqB_ready hF.1) f _ listed a w inv (Region.free_spec hi' hf) hr' (v := v) (.inl ⟨by rfl, fun w' hw' => by rw [execOp_mkO]; exact h a w' ha hw'⟩) hw.right ?_
  exact k hg (inv.set hr' hin) _ _ (ha.put hd v) hw

theorem JG_br (rs : List Nat) (hr : Region.ready .any l.toArray listed = rs) (hb : (!rs.isEmpty && rs.all fun i => Nat.blt i n) = true) (h : ∀ i ∈ rs, JO P rd b0 Mk N D l n f listed L V E T i) : JG P rd b0 Mk N D l n (f + 1) listed L V E T := by
  intro hg inv a w ha hw
  simp only [Bool.and_eq_true, List.all_eq_true, Nat.blt_eq, Bool.not_eq_true'] at hb
  refine ⟨by rw [hr]; intro e; simp [e] at hb, fun i hi => ?_⟩
  have hin := hb.2 i (hr ▸ hi)
  exact ⟨hin, h i (hr ▸ hi) hg (inv.set hi hin) a w ha hw⟩

theorem JG_nil (hs : Region.seqB .any l.toArray (l.length - n) n listed = true) (tl : List Oper) (h : JL P rd b0 Mk N D l.toArray (V ++ L) E tl T) :
    JG P rd b0 Mk N D l n 0 listed L V E (fun a w => wpL P rd l.toArray T tl a w) := fun _ _ a w ha hw => ⟨hs, h a w ha hw⟩

theorem JO_a {o : Obj} {v : Nat → Value} {i : Nat} (hi : l[i]? = some { dst := some d, op := op, type := ty, pos := pos, after := after, guard := none }) (hM : ∀ k ∈ Mk, k < b0.heap.size) (h : RunA P N D b0 Mk L E op ty o v) (hn : notDeferOp op = true := by rfl) (hd : Nat.blt d N = true := by rfl)
    (k : ∀ r, b0.heap.size ≤ r → JG P rd b0 Mk N D l n f (listed.setIfInBounds i true) ((r, o) :: L) V ((d, v r) :: E) T) : JO P rd b0 Mk N D l n f listed L V E T i := by
  intro hg inv a w ha hw
  have hi' : l.toArray[i]? = some { dst := some d, op := op, type := ty, pos := pos, after := after, guard := none } := by simpa using hi
  unfold wpO
  simp only [hi']
  rw [if_pos (by rfl)]
  exact wpIn_value (notDefer_mk hn) (by rw [execOp_mkO]; exact h a w ha hw.right)
    ⟨SH b0 Mk ((w.heap.size, o) :: L), fun x hx => hx.sub (List.sublist_cons_self _ _), (hw.alloc_mid o hM).right, k _ hw.size hg inv _ _ (ha.put hd _) (hw.alloc_mid o hM)⟩

theorem JO_r {i : Nat} {fn : FuncId} {args : List Value} {X : Type} {v : X → Value} {B : X → Heap} (hi : l[i]? = some { dst := some d, op := op, type := ty, pos := pos, after := after, guard := none }) (hc : RunC P N D b0 Mk L E op ty fn args)
    (h : ∀ w, SH b0 Mk L w → Ret P fn args w X v B) (hn : notDeferOp op = true := by rfl) (hd : Nat.blt d N = true := by rfl)
    (k : ∀ x, JG P rd b0 Mk N D l n f (listed.setIfInBounds i true) (B x ++ L) V ((d, v x) :: E) T) : JO P rd b0 Mk N D l n f listed L V E T i := by
  intro hg inv a w ha hw
  have hi' : l.toArray[i]? = some { dst := some d, op := op, type := ty, pos := pos, after := after, guard := none } := by simpa using hi
  unfold wpO
  simp only [hi']
  rw [if_pos (by rfl)]
  refine wpIn_enter (notDefer_mk hn) (by rw [execOp_mkO]; exact hc a w ha hw.right) (((h w hw.right).shV hw).mono fun e w' he => ?_)
  obtain ⟨x, rfl, h2⟩ := he
  exact ⟨_, rfl, SH b0 Mk (B x ++ L), fun y hy => hy.right, h2.right, k x hg inv _ _ (ha.put hd _) h2⟩

theorem JO_v {i : Nat} {fn : FuncId} {args : List Value} (hi : l[i]? = some { dst := some d, op := op, type := ty, pos := pos, after := after, guard := none }) (hc : RunC P N D b0 Mk L E op ty fn args)
    (h : ∀ w, SH b0 Mk L w → Val P fn args w v) (hn : notDeferOp op = true := by rfl) (hd : Nat.blt d N = true := by rfl)
    (k : JG P rd b0 Mk N D l n f (listed.setIfInBounds i true) L V ((d, v) :: E) T) : JO P rd b0 Mk N D l n f listed L V E T i :=
  JO_r (X := Unit) (v := fun _ => v) (B := fun _ => []) hi hc (fun w hw => (h w hw).mono fun _ _ ⟨he, hf⟩ => ⟨(), he, Fresh.of_ext hf⟩) hn hd fun _ => k

/-- An operation that makes new blocks (or none), whatever it is. -/
def RunN (P : Program) (N : Nat) (D : List Deferred) (b0 : World) (Mk : List Nat) (L : Heap) (E : Env) (op : Op) (ty : TypeId) (X : Type) (v : X → Value) (B : X → Heap) : Prop :=
  ∀ a w, Holds N D E a → SH b0 Mk L w → ∃ x w', (execOp a.eval (mkO op ty)).run P w = .ok (.value (v x)) w' ∧ Fresh w w' (B x)

theorem JO_n {i : Nat} {X : Type} {v : X → Value} {B : X → Heap} (hi : l[i]? = some { dst := some d, op := op, type := ty, pos := pos, after := after, guard := none }) (h : RunN P N D b0 Mk L E op ty X v B) (hn : notDeferOp op = true := by rfl) (hd : Nat.blt d N = true := by rfl)
    (k : ∀ x, JG P rd b0 Mk N D l n f (listed.setIfInBounds i true) (B x ++ L) V ((d, v x) :: E) T) : JO P rd b0 Mk N D l n f listed L V E T i := by
  intro hg inv a w ha hw
  have hi' : l.toArray[i]? = some { dst := some d, op := op, type := ty, pos := pos, after := after, guard := none } := by simpa using hi
  unfold wpO
  simp only [hi']
  rw [if_pos (by rfl)]
  obtain ⟨x, w', h1, h2⟩ := h a w ha hw.right
  have h3 : SH b0 Mk (V ++ (B x ++ L)) w' := (hw.fresh h2).perm (by rw [← List.append_assoc, ← List.append_assoc]; exact List.perm_append_comm.append_right _)
  exact wpIn_value (notDefer_mk hn) (by rw [execOp_mkO]; exact h1) ⟨SH b0 Mk (B x ++ L), fun y hy => hy.right, h3.right, k x hg inv _ _ (ha.put hd _) h3⟩

theorem JL_n {ops : Array Oper} {r : List Oper} {X : Type} {v : X → Value} {B : X → Heap} (h : RunN P N D b0 Mk L E op ty X v B) (hn : notDeferOp op = true := by rfl) (hd : Nat.blt d N = true := by rfl)
    (k : ∀ x, JL P rd b0 Mk N D ops (B x ++ L) ((d, v x) :: E) r T) : JL P rd b0 Mk N D ops L E ({ dst := some d, op := op, type := ty, pos := pos, after := after, guard := none } :: r) T := by
  intro a w ha hw
  unfold wpL
  rw [if_pos (by rfl)]
  obtain ⟨x, w', h1, h2⟩ := h a w ha hw
  exact wpIn_value (notDefer_mk hn) (by rw [execOp_mkO]; exact h1) (k x _ _ (ha.put hd _) (hw.fresh h2))

theorem JD_n {ops : Array Oper} {r : List (Bool × Oper)} {X : Type} {v : X → Value} {B : X → Heap} (h : RunN P N D b0 Mk L E op ty X v B) (hn : notDeferOp op = true := by rfl) (hd : Nat.blt d N = true := by rfl)
    (k : ∀ x, JD P rd b0 Mk N D ops (B x ++ L) V ((d, v x) :: E) r T) : JD P rd b0 Mk N D ops L V E ((false, { dst := some d, op := op, type := ty, pos := pos, after := after, guard := none }) :: r) T := by
  intro a w ha hw
  unfold wpS
  rw [if_pos (by rfl)]
  obtain ⟨x, w', h1, h2⟩ := h a w ha hw.right
  have h3 : SH b0 Mk (V ++ (B x ++ L)) w' := (hw.fresh h2).perm (by rw [← List.append_assoc, ← List.append_assoc]; exact List.perm_append_comm.append_right _)
  exact wpIn_value (notDefer_mk hn) (by rw [execOp_mkO]; exact h1) ⟨SH b0 Mk (B x ++ L), fun y hy => hy.right, h3.right, k x _ _ (ha.put hd _) h3⟩
end

/-! ### loops over one, two, .. variables -/
section loops
variable {P : Program} {rd : Option Nat} {b0 : World} {Mk : List Nat} {N : Nat} {D : List Deferred} {L : Heap} {E : Env} {Q : Exit → Act → World → Prop} {c : Code}

theorem J_loop1 {σ1 : Type} (Ls : σ1 → Heap) (Es : σ1 → Env) (I : σ1 → Prop) (m : σ1 → Nat) (x1 : σ1) (hI : I x1) (hE : SubE E (Es x1)) (hL : List.Perm L (Ls x1))
    (h : ∀ s1, I s1 → J P rd b0 Mk N D (Ls s1) (Es s1) c (kInv (Round b0 Mk N D Ls Es I m (m s1)) Q)) : J P rd b0 Mk N D L E (Code.loop c) Q :=
  J_loop Ls Es I m x1 hI hE hL h
theorem JX_inv1 {σ1 : Type} {Ls : σ1 → Heap} {Es : σ1 → Env} {I : σ1 → Prop} {m : σ1 → Nat} {n : Nat} (s1 : σ1) (hI : I s1) (hm : m s1 < n) (hE : SubE E (Es s1)) (hL : List.Perm L (Ls s1)) :
    JX b0 Mk N D L E (kInv (Round b0 Mk N D Ls Es I m n) Q) .normal := JX_inv s1 hI hm hE hL

def Round2 {σ1 σ2 : Type} (b0 : World) (Mk : List Nat) (N : Nat) (D : List Deferred) (Ls : σ1 → σ2 → Heap) (Es : σ1 → σ2 → Env) (I : σ1 → σ2 → Prop) (m : σ1 → σ2 → Nat) (n : Nat) : Act → World → Prop :=
  Round b0 Mk N D (fun s : σ1 × σ2 => Ls s.1 s.2) (fun s => Es s.1 s.2) (fun s => I s.1 s.2) (fun s => m s.1 s.2) n
theorem J_loop2 {σ1 σ2 : Type} (Ls : σ1 → σ2 → Heap) (Es : σ1 → σ2 → Env) (I : σ1 → σ2 → Prop) (m : σ1 → σ2 → Nat) (x1 : σ1) (x2 : σ2) (hI : I x1 x2) (hE : SubE E (Es x1 x2)) (hL : List.Perm L (Ls x1 x2))
    (h : ∀ s1 s2, I s1 s2 → J P rd b0 Mk N D (Ls s1 s2) (Es s1 s2) c (kInv (Round2 b0 Mk N D Ls Es I m (m s1 s2)) Q)) : J P rd b0 Mk N D L E (Code.loop c) Q :=
  J_loop (σ := σ1 × σ2) (fun s => Ls s.1 s.2) (fun s => Es s.1 s.2) (fun s => I s.1 s.2) (fun s => m s.1 s.2) (x1, x2) hI hE hL (fun s hI => h s.1 s.2 hI)
theorem JX_inv2 {σ1 σ2 : Type} {Ls : σ1 → σ2 → Heap} {Es : σ1 → σ2 → Env} {I : σ1 → σ2 → Prop} {m : σ1 → σ2 → Nat} {n : Nat} (s1 : σ1) (s2 : σ2) (hI : I s1 s2) (hm : m s1 s2 < n) (hE : SubE E (Es s1 s2)) (hL : List.Perm L (Ls s1 s2)) :
    JX b0 Mk N D L E (kInv (Round2 b0 Mk N D Ls Es I m n) Q) .normal := JX_inv (Ls := fun s : σ1 × σ2 => Ls s.1 s.2) (Es := fun s => Es s.1 s.2) (I := fun s => I s.1 s.2) (m := fun s => m s.1 s.2) (s1, s2) hI hm hE hL

def Round3 {σ1 σ2 σ3 : Type} (b0 : World) (Mk : List Nat) (N : Nat) (D : List Deferred) (Ls : σ1 → σ2 → σ3 → Heap) (Es : σ1 → σ2 → σ3 → Env) (I : σ1 → σ2 → σ3 → Prop) (m : σ1 → σ2 → σ3 → Nat) (n : Nat) : Act → World → Prop :=
  Round b0 Mk N D (fun s : σ1 × σ2 × σ3 => Ls s.1 s.2.1 s.2.2) (fun s => Es s.1 s.2.1 s.2.2) (fun s => I s.1 s.2.1 s.2.2) (fun s => m s.1 s.2.1 s.2.2) n
theorem J_loop3 {σ1 σ2 σ3 : Type} (Ls : σ1 → σ2 → σ3 → Heap) (Es : σ1 → σ2 → σ3 → Env) (I : σ1 → σ2 → σ3 → Prop) (m : σ1 → σ2 → σ3 → Nat) (x1 : σ1) (x2 : σ2) (x3 : σ3) (hI : I x1 x2 x3) (hE : SubE E (Es x1 x2 x3)) (hL : List.Perm L (Ls x1 x2 x3))
    (h : ∀ s1 s2 s3, I s1 s2 s3 → J P rd b0 Mk N D (Ls s1 s2 s3) (Es s1 s2 s3) c (kInv (Round3 b0 Mk N D Ls Es I m (m s1 s2 s3)) Q)) : J P rd b0 Mk N D L E (Code.loop c) Q :=
  J_loop (σ := σ1 × σ2 × σ3) (fun s => Ls s.1 s.2.1 s.2.2) (fun s => Es s.1 s.2.1 s.2.2) (fun s => I s.1 s.2.1 s.2.2) (fun s => m s.1 s.2.1 s.2.2) (x1, x2, x3) hI hE hL (fun s hI => h s.1 s.2.1 s.2.2 hI)
theorem JX_inv3 {σ1 σ2 σ3 : Type} {Ls : σ1 → σ2 → σ3 → Heap} {Es : σ1 → σ2 → σ3 → Env} {I : σ1 → σ2 → σ3 → Prop} {m : σ1 → σ2 → σ3 → Nat} {n : Nat} (s1 : σ1) (s2 : σ2) (s3 : σ3) (hI : I s1 s2 s3) (hm : m s1 s2 s3 < n) (hE : SubE E (Es s1 s2 s3)) (hL : List.Perm L (Ls s1 s2 s3)) :
    JX b0 Mk N D L E (kInv (Round3 b0 Mk N D Ls Es I m n) Q) .normal := JX_inv (Ls := fun s : σ1 × σ2 × σ3 => Ls s.1 s.2.1 s.2.2) (Es := fun s => Es s.1 s.2.1 s.2.2) (I := fun s => I s.1 s.2.1 s.2.2) (m := fun s => m s.1 s.2.1 s.2.2) (s1, s2, s3) hI hm hE hL
def Round4 {σ1 σ2 σ3 σ4 : Type} (b0 : World) (Mk : List Nat) (N : Nat) (D : List Deferred) (Ls : σ1 → σ2 → σ3 → σ4 → Heap) (Es : σ1 → σ2 → σ3 → σ4 → Env) (I : σ1 → σ2 → σ3 → σ4 → Prop) (m : σ1 → σ2 → σ3 → σ4 → Nat) (n : Nat) : Act → World → Prop :=
  Round b0 Mk N D (fun s : σ1 × σ2 × σ3 × σ4 => Ls s.1 s.2.1 s.2.2.1 s.2.2.2) (fun s => Es s.1 s.2.1 s.2.2.1 s.2.2.2) (fun s => I s.1 s.2.1 s.2.2.1 s.2.2.2) (fun s => m s.1 s.2.1 s.2.2.1 s.2.2.2) n
theorem J_loop4 {σ1 σ2 σ3 σ4 : Type} (Ls : σ1 → σ2 → σ3 → σ4 → Heap) (Es : σ1 → σ2 → σ3 → σ4 → Env) (I : σ1 → σ2 → σ3 → σ4 → Prop) (m : σ1 → σ2 → σ3 → σ4 → Nat) (x1 : σ1) (x2 : σ2) (x3 : σ3) (x4 : σ4) (hI : I x1 x2 x3 x4) (hE : SubE E (Es x1 x2 x3 x4)) (hL : List.Perm L (Ls x1 x2 x3 x4))
    (h : ∀ s1 s2 s3 s4, I s1 s2 s3 s4 → J P rd b0 Mk N D (Ls s1 s2 s3 s4) (Es s1 s2 s3 s4) c (kInv (Round4 b0 Mk N D Ls Es I m (m s1 s2 s3 s4)) Q)) : J P rd b0 Mk N D L E (Code.loop c) Q :=
  J_loop (σ := σ1 × σ2 × σ3 × σ4) (fun s : σ1 × σ2 × σ3 × σ4 => Ls s.1 s.2.1 s.2.2.1 s.2.2.2) (fun s => Es s.1 s.2.1 s.2.2.1 s.2.2.2) (fun s => I s.1 s.2.1 s.2.2.1 s.2.2.2) (fun s => m s.1 s.2.1 s.2.2.1 s.2.2.2) (x1, x2, x3, x4) hI hE hL (fun s hI => h s.1 s.2.1 s.2.2.1 s.2.2.2 hI)
theorem JX_inv4 {σ1 σ2 σ3 σ4 : Type} {Ls : σ1 → σ2 → σ3 → σ4 → Heap} {Es : σ1 → σ2 → σ3 → σ4 → Env} {I : σ1 → σ2 → σ3 → σ4 → Prop} {m : σ1 → σ2 → σ3 → σ4 → Nat} {n : Nat} (s1 : σ1) (s2 : σ2) (s3 : σ3) (s4 : σ4) (hI : I s1 s2 s3 s4) (hm : m s1 s2 s3 s4 < n) (hE : SubE E (Es s1 s2 s3 s4)) (hL : List.Perm L (Ls s1 s2 s3 s4)) :
    JX b0 Mk N D L E (kInv (Round4 b0 Mk N D Ls Es I m n) Q) .normal := JX_inv (Ls := fun s : σ1 × σ2 × σ3 × σ4 => Ls s.1 s.2.1 s.2.2.1 s.2.2.2) (Es := fun s => Es s.1 s.2.1 s.2.2.1 s.2.2.2) (I := fun s => I s.1 s.2.1 s.2.2.1 s.2.2.2) (m := fun s => m s.1 s.2.1 s.2.2.1 s.2.2.2) (s1, s2, s3, s4) hI hm hE hL
def Round5 {σ1 σ2 σ3 σ4 σ5 : Type} (b0 : World) (Mk : List Nat) (N : Nat) (D : List Deferred) (Ls : σ1 → σ2 → σ3 → σ4 → σ5 → Heap) (Es : σ1 → σ2 → σ3 → σ4 → σ5 → Env) (I : σ1 → σ2 → σ3 → σ4 → σ5 → Prop) (m : σ1 → σ2 → σ3 → σ4 → σ5 → Nat) (n : Nat) : Act → World → Prop :=
  Round b0 Mk N D (fun s : σ1 × σ2 × σ3 × σ4 × σ5 => Ls s.1 s.2.1 s.2.2.1 s.2.2.2.1 s.2.2.2.2) (fun s => Es s.1 s.2.1 s.2.2.1 s.2.2.2.1 s.2.2.2.2) (fun s => I s.1 s.2.1 s.2.2.1 s.2.2.2.1 s.2.2.2.2) (fun s => m s.1 s.2.1 s.2.2.1 s.2.2.2.1 s.2.2.2.2) n
theorem J_loop5 {σ1 σ2 σ3 σ4 σ5 : Type} (Ls : σ1 → σ2 → σ3 → σ4 → σ5 → Heap) (Es : σ1 → σ2 → σ3 → σ4 → σ5 → Env) (I : σ1 → σ2 → σ3 → σ4 → σ5 → Prop) (m : σ1 → σ2 → σ3 → σ4 → σ5 → Nat) (x1 : σ1) (x2 : σ2) (x3 : σ3) (x4 : σ4) (x5 : σ5) (hI : I x1 x2 x3 x4 x5) (hE : SubE E (Es x1 x2 x3 x4 x5)) (hL : List.Perm L (Ls x1 x2 x3 x4 x5))
    (h : ∀ s1 s2 s3 s4 s5, I s1 s2 s3 s4 s5 → J P rd b0 Mk N D (Ls s1 s2 s3 s4 s5) (Es s1 s2 s3 s4 s5) c (kInv (Round5 b0 Mk N D Ls Es I m (m s1 s2 s3 s4 s5)) Q)) : J P rd b0 Mk N D L E (Code.loop c) Q :=
  J_loop (σ := σ1 × σ2 × σ3 × σ4 × σ5) (fun s : σ1 × σ2 × σ3 × σ4 × σ5 => Ls s.1 s.2.1 s.2.2.1 s.2.2.2.1 s.2.2.2.2) (fun s => Es s.1 s.2.1 s.2.2.1 s.2.2.2.1 s.2.2.2.2) (fun s => I s.1 s.2.1 s.2.2.1 s.2.2.2.1 s.2.2.2.2) (fun s => m s.1 s.2.1 s.2.2.1 s.2.2.2.1 s.2.2.2.2) (x1, x2, x3, x4, x5) hI hE hL (fun s hI => h s.1 s.2.1 s.2.2.1 s.2.2.2.1 s.2.2.2.2 hI)
theorem JX_inv5 {σ1 σ2 σ3 σ4 σ5 : Type} {Ls : σ1 → σ2 → σ3 → σ4 → σ5 → Heap} {Es : σ1 → σ2 → σ3 → σ4 → σ5 → Env} {I : σ1 → σ2 → σ3 → σ4 → σ5 → Prop} {m : σ1 → σ2 → σ3 → σ4 → σ5 → Nat} {n : Nat} (s1 : σ1) (s2 : σ2) (s3 : σ3) (s4 : σ4) (s5 : σ5) (hI : I s1 s2 s3 s4 s5) (hm : m s1 s2 s3 s4 s5 < n) (hE : SubE E (Es s1 s2 s3 s4 s5)) (hL : List.Perm L (Ls s1 s2 s3 s4 s5)) :
    JX b0 Mk N D L E (kInv (Round5 b0 Mk N D Ls Es I m n) Q) .normal := JX_inv (Ls := fun s : σ1 × σ2 × σ3 × σ4 × σ5 => Ls s.1 s.2.1 s.2.2.1 s.2.2.2.1 s.2.2.2.2) (Es := fun s => Es s.1 s.2.1 s.2.2.1 s.2.2.2.1 s.2.2.2.2) (I := fun s => I s.1 s.2.1 s.2.2.1 s.2.2.2.1 s.2.2.2.2) (m := fun s => m s.1 s.2.1 s.2.2.1 s.2.2.2.1 s.2.2.2.2) (s1, s2, s3, s4, s5) hI hm hE hL
def Round6 {σ1 σ2 σ3 σ4 σ5 σ6 : Type} (b0 : World) (Mk : List Nat) (N : Nat) (D : List Deferred) (Ls : σ1 → σ2 → σ3 → σ4 → σ5 → σ6 → Heap) (Es : σ1 → σ2 → σ3 → σ4 → σ5 → σ6 → Env) (I : σ1 → σ2 → σ3 → σ4 → σ5 → σ6 → Prop) (m : σ1 → σ2 → σ3 → σ4 → σ5 → σ6 → Nat) (n : Nat) : Act → World → Prop :=
  Round b0 Mk N D (fun s : σ1 × σ2 × σ3 × σ4 × σ5 × σ6 => Ls s.1 s.2.1 s.2.2.1 s.2.2.2.1 s.2.2.2.2.1 s.2.2.2.2.2) (fun s => Es s.1 s.2.1 s.2.2.1 s.2.2.2.1 s.2.2.2.2.1 s.2.2.2.2.2) (fun s => I s.1 s.2.1 s.2.2.1 s.2.2.2.1 s.2.2.2.2.1 s.2.2.2.2.2) (fun s => m s.1 s.2.1 s.2.2.1 s.2.2.2.1 s.2.2.2.2.1 s.2.2.2.2.2) n
theorem J_loop6 {σ1 σ2 σ3 σ4 σ5 σ6 : Type} (Ls : σ1 → σ2 → σ3 → σ4 → σ5 → σ6 → Heap) (Es : σ1 → σ2 → σ3 → σ4 → σ5 → σ6 → Env) (I : σ1 → σ2 → σ3 → σ4 → σ5 → σ6 → Prop) (m : σ1 → σ2 → σ3 → σ4 → σ5 → σ6 → Nat) (x1 : σ1) (x2 : σ2) (x3 : σ3) (x4 : σ4) (x5 : σ5) (x6 : σ6) (hI : I x1 x2 x3 x4 x5 x6) (hE : SubE E (Es x1 x2 x3 x4 x5 x6)) (hL : List.Perm L (Ls x1 x2 x3 x4 x5 x6))
    (h : ∀ s1 s2 s3 s4 s5 s6, I s1 s2 s3 s4 s5 s6 → J P rd b0 Mk N D (Ls s1 s2 s3 s4 s5 s6) (Es s1 s2 s3 s4 s5 s6) c (kInv (Round6 b0 Mk N D Ls Es I m (m s1 s2 s3 s4 s5 s6)) Q)) : J P rd b0 Mk N D L E (Code.loop c) Q :=
  J_loop (σ := σ1 × σ2 × σ3 × σ4 × σ5 × σ6) (fun s : σ1 × σ2 × σ3 × σ4 × σ5 × σ6 => Ls s.1 s.2.1 s.2.2.1 s.2.2.2.1 s.2.2.2.2.1 s.2.2.2.2.2) (fun s => Es s.1 s.2.1 s.2.2.1 s.2.2.2.1 s.2.2.2.2.1 s.2.2.2.2.2) (fun s => I s.1 s.2.1 s.2.2.1 s.2.2.2.1 s.2.2.2.2.1 s.2.2.2.2.2) (fun s => m s.1 s.2.1 s.2.2.1 s.2.2.2.1 s.2.2.2.2.1 s.2.2.2.2.2) (x1, x2, x3, x4, x5, x6) hI hE hL (fun s hI => h s.1 s.2.1 s.2.2.1 s.2.2.2.1 s.2.2.2.2.1 s.2.2.2.2.2 hI)
theorem JX_inv6 {σ1 σ2 σ3 σ4 σ5 σ6 : Type} {Ls : σ1 → σ2 → σ3 → σ4 → σ5 → σ6 → Heap} {Es : σ1 → σ2 → σ3 → σ4 → σ5 → σ6 → Env} {I : σ1 → σ2 → σ3 → σ4 → σ5 → σ6 → Prop} {m : σ1 → σ2 → σ3 → σ4 → σ5 → σ6 → Nat} {n : Nat} (s1 : σ1) (s2 : σ2) (s3 : σ3) (s4 : σ4) (s5 : σ5) (s6 : σ6) (hI : I s1 s2 s3 s4 s5 s6) (hm : m s1 s2 s3 s4 s5 s6 < n) (hE : SubE E (Es s1 s2 s3 s4 s5 s6)) (hL : List.Perm L (Ls s1 s2 s3 s4 s5 s6)) :
    JX b0 Mk N D L E (kInv (Round6 b0 Mk N D Ls Es I m n) Q) .normal := JX_inv (Ls := fun s : σ1 × σ2 × σ3 × σ4 × σ5 × σ6 => Ls s.1 s.2.1 s.2.2.1 s.2.2.2.1 s.2.2.2.2.1 s.2.2.2.2.2) (Es := fun s => Es s.1 s.2.1 s.2.2.1 s.2.2.2.1 s.2.2.2.2.1 s.2.2.2.2.2) (I := fun s => I s.1 s.2.1 s.2.2.1 s.2.2.2.1 s.2.2.2.2.1 s.2.2.2.2.2) (m := fun s => m s.1 s.2.1 s.2.2.1 s.2.2.2.1 s.2.2.2.2.1 s.2.2.2.2.2) (s1, s2, s3, s4, s5, s6) hI hm hE hL
def Round7 {σ1 σ2 σ3 σ4 σ5 σ6 σ7 : Type} (b0 : World) (Mk : List Nat) (N : Nat) (D : List Deferred) (Ls : σ1 → σ2 → σ3 → σ4 → σ5 → σ6 → σ7 → Heap) (Es : σ1 → σ2 → σ3 → σ4 → σ5 → σ6 → σ7 → Env) (I : σ1 → σ2 → σ3 → σ4 → σ5 → σ6 → σ7 → Prop) (m : σ1 → σ2 → σ3 → σ4 → σ5 → σ6 → σ7 → Nat) (n : Nat) : Act → World → Prop :=
  Round b0 Mk N D (fun s : σ1 × σ2 × σ3 × σ4 × σ5 × σ6 × σ7 => Ls s.1 s.2.1 s.2.2.1 s.2.2.2.1 s.2.2.2.2.1 s.2.2.2.2.2.1 s.2.2.2.2.2.2) (fun s => Es s.1 s.2.1 s.2.2.1 s.2.2.2.1 s.2.2.2.2.1 s.2.2.2.2.2.1 s.2.2.2.2.2.2) (fun s => I s.1 s.2.1 s.2.2.1 s.2.2.2.1 s.2.2.2.2.1 s.2.2.2.2.2.1 s.2.2.2.2.2.2) (fun s => m s.1 s.2.1 s.2.2.1 s.2.2.2.1 s.2.2.2.2.1 s.2.2.2.2.2.1 s.2.2.2.2.2.2) n
theorem J_loop7 {σ1 σ2 σ3 σ4 σ5 σ6 σ7 : Type} (Ls : σ1 → σ2 → σ3 → σ4 → σ5 → σ6 → σ7 → Heap) (Es : σ1 → σ2 → σ3 → σ4 → σ5 → σ6 → σ7 → Env) (I : σ1 → σ2 → σ3 → σ4 → σ5 → σ6 → σ7 → Prop) (m : σ1 → σ2 → σ3 → σ4 → σ5 → σ6 → σ7 → Nat) (x1 : σ1) (x2 : σ2) (x3 : σ3) (x4 : σ4) (x5 : σ5) (x6 : σ6) (x7 : σ7) (hI : I x1 x2 x3 x4 x5 x6 x7) (hE : SubE E (Es x1 x2 x3 x4 x5 x6 x7)) (hL : List.Perm L (Ls x1 x2 x3 x4 x5 x6 x7))
    (h : ∀ s1 s2 s3 s4 s5 s6 s7, I s1 s2 s3 s4 s5 s6 s7 → J P rd b0 Mk N D (Ls s1 s2 s3 s4 s5 s6 s7) (Es s1 s2 s3 s4 s5 s6 s7) c (kInv (Round7 b0 Mk N D Ls Es I m (m s1 s2 s3 s4 s5 s6 s7)) Q)) : J P rd b0 Mk N D L E (Code.loop c) Q :=
  J_loop (σ := σ1 × σ2 × σ3 × σ4 × σ5 × σ6 × σ7) (fun s : σ1 × σ2 × σ3 × σ4 × σ5 × σ6 × σ7 => Ls s.1 s.2.1 s.2.2.1 s.2.2.2.1 s.2.2.2.2.1 s.2.2.2.2.2.1 s.2.2.2.2.2.2) (fun s => Es s.1 s.2.1 s.2.2.1 s.2.2.2.1 s.2.2.2.2.1 s.2.2.2.2.2.1 s.2.2.2.2.2.2) (fun s => I s.1 s.2.1 s.2.2.1 s.2.2.2.1 s.2.2.2.2.1 s.2.2.2.2.2.1 s.2.2.2.2.2.2) (fun s => m s.1 s.2.1 s.2.2.1 s.2.2.2.1 s.2.2.2.2.1 s.2.2.2.2.2.1 s.2.2.2.2.2.2) (x1, x2, x3, x4, x5, x6, x7) hI hE hL (fun s hI => h s.1 s.2.1 s.2.2.1 s.2.2.2.1 s.2.2.2.2.1 s.2.2.2.2.2.1 s.2.2.2.2.2.2 hI)
theorem JX_inv7 {σ1 σ2 σ3 σ4 σ5 σ6 σ7 : Type} {Ls : σ1 → σ2 → σ3 → σ4 → σ5 → σ6 → σ7 → Heap} {Es : σ1 → σ2 → σ3 → σ4 → σ5 → σ6 → σ7 → Env} {I : σ1 → σ2 → σ3 → σ4 → σ5 → σ6 → σ7 → Prop} {m : σ1 → σ2 → σ3 → σ4 → σ5 → σ6 → σ7 → Nat} {n : Nat} (s1 : σ1) (s2 : σ2) (s3 : σ3) (s4 : σ4) (s5 : σ5) (s6 : σ6) (s7 : σ7) (hI : I s1 s2 s3 s4 s5 s6 s7) (hm : m s1 s2 s3 s4 s5 s6 s7 < n) (hE : SubE E (Es s1 s2 s3 s4 s5 s6 s7)) (hL : List.Perm L (Ls s1 s2 s3 s4 s5 s6 s7)) :
    JX b0 Mk N D L E (kInv (Round7 b0 Mk N D Ls Es I m n) Q) .normal := JX_inv (Ls := fun s : σ1 × σ2 × σ3 × σ4 × σ5 × σ6 × σ7 => Ls s.1 s.2.1 s.2.2.1 s.2.2.2.1 s.2.2.2.2.1 s.2.2.2.2.2.1 s.2.2.2.2.2.2) (Es := fun s => Es s.1 s.2.1 s.2.2.1 s.2.2.2.1 s.2.2.2.2.1 s.2.2.2.2.2.1 s.2.2.2.2.2.2) (I := fun s => I s.1 s.2.1 s.2.2.1 s.2.2.2.1 s.2.2.2.2.1 s.2.2.2.2.2.1 s.2.2.2.2.2.2) (m := fun s => m s.1 s.2.1 s.2.2.1 s.2.2.2.1 s.2.2.2.2.1 s.2.2.2.2.2.1 s.2.2.2.2.2.2) (s1, s2, s3, s4, s5, s6, s7) hI hm hE hL
def Round8 {σ1 σ2 σ3 σ4 σ5 σ6 σ7 σ8 : Type} (b0 : World) (Mk : List Nat) (N : Nat) (D : List Deferred) (Ls : σ1 → σ2 → σ3 → σ4 → σ5 → σ6 → σ7 → σ8 → Heap) (Es : σ1 → σ2 → σ3 → σ4 → σ5 → σ6 → σ7 → σ8 → Env) (I : σ1 → σ2 → σ3 → σ4 → σ5 → σ6 → σ7 → σ8 → Prop) (m : σ1 → σ2 → σ3 → σ4 → σ5 → σ6 → σ7 → σ8 → Nat) (n : Nat) : Act → World → Prop :=
  Round b0 Mk N D (fun s : σ1 × σ2 × σ3 × σ4 × σ5 × σ6 × σ7 × σ8 => Ls s.1 s.2.1 s.2.2.1 s.2.2.2.1 s.2.2.2.2.1 s.2.2.2.2.2.1 s.2.2.2.2.2.2.1 s.2.2.2.2.2.2.2) (fun s => Es s.1 s.2.1 s.2.2.1 s.2.2.2.1 s.2.2.2.2.1 s.2.2.2.2.2.1 s.2.2.2.2.2.2.1 s.2.2.2.2.2.2.2) (fun s => I s.1 s.2.1 s.2.2.1 s.2.2.2.1 s.2.2.2.2.1 s.2.2.2.2.2.1 s.2.2.2.2.2.2.1 s.2.2.2.2.2.2.2) (fun s => m s.1 s.2.1 s.2.2.1 s.2.2.2.1 s.2.2.2.2.1 s.2.2.2.2.2.1 s.2.2.2.2.2.2.1 s.2.2.2.2.2.2.2) n
theorem J_loop8 {σ1 σ2 σ3 σ4 σ5 σ6 σ7 σ8 : Type} (Ls : σ1 → σ2 → σ3 → σ4 → σ5 → σ6 → σ7 → σ8 → Heap) (Es : σ1 → σ2 → σ3 → σ4 → σ5 → σ6 → σ7 → σ8 → Env) (I : σ1 → σ2 → σ3 → σ4 → σ5 → σ6 → σ7 → σ8 → Prop) (m : σ1 → σ2 → σ3 → σ4 → σ5 → σ6 → σ7 → σ8 → Nat) (x1 : σ1) (x2 : σ2) (x3 : σ3) (x4 : σ4) (x5 : σ5) (x6 : σ6) (x7 : σ7) (x8 : σ8) (hI : I x1 x2 x3 x4 x5 x6 x7 x8) (hE : SubE E (Es x1 x2 x3 x4 x5 x6 x7 x8)) (hL : List.Perm L (Ls x1 x2 x3 x4 x5 x6 x7 x8))
    (h : ∀ s1 s2 s3 s4 s5 s6 s7 s8, I s1 s2 s3 s4 s5 s6 s7 s8 → J P rd b0 Mk N D (Ls s1 s2 s3 s4 s5 s6 s7 s8) (Es s1 s2 s3 s4 s5 s6 s7 s8) c (kInv (Round8 b0 Mk N D Ls Es I m (m s1 s2 s3 s4 s5 s6 s7 s8)) Q)) : J P rd b0 Mk N D L E (Code.loop c) Q :=
  J_loop (σ := σ1 × σ2 × σ3 × σ4 × σ5 × σ6 × σ7 × σ8) (fun s : σ1 × σ2 × σ3 × σ4 × σ5 × σ6 × σ7 × σ8 => Ls s.1 s.2.1 s.2.2.1 s.2.2.2.1 s.2.2.2.2.1 s.2.2.2.2.2.1 s.2.2.2.2.2.2.1 s.2.2.2.2.2.2.2) (fun s => Es s.1 s.2.1 s.2.2.1 s.2.2.2.1 s.2.2.2.2.1 s.2.2.2.2.2.1 s.2.2.2.2.2.2.1 s.2.2.2.2.2.2.2) (fun s => I s.1 s.2.1 s.2.2.1 s.2.2.2.1 s.2.2.2.2.1 s.2.2.2.2.2.1 s.2.2.2.2.2.2.1 s.2.2.2.2.2.2.2) (fun s => m s.1 s.2.1 s.2.2.1 s.2.2.2.1 s.2.2.2.2.1 s.2.2.2.2.2.1 s.2.2.2.2.2.2.1 s.2.2.2.2.2.2.2) (x1, x2, x3, x4, x5, x6, x7, x8) hI hE hL (fun s hI => h s.1 s.2.1 s.2.2.1 s.2.2.2.1 s.2.2.2.2.1 s.2.2.2.2.2.1 s.2.2.2.2.2.2.1 s.2.2.2.2.2.2.2 hI)
theorem JX_inv8 {σ1 σ2 σ3 σ4 σ5 σ6 σ7 σ8 : Type} {Ls : σ1 → σ2 → σ3 → σ4 → σ5 → σ6 → σ7 → σ8 → Heap} {Es : σ1 → σ2 → σ3 → σ4 → σ5 → σ6 → σ7 → σ8 → Env} {I : σ1 → σ2 → σ3 → σ4 → σ5 → σ6 → σ7 → σ8 → Prop} {m : σ1 → σ2 → σ3 → σ4 → σ5 → σ6 → σ7 → σ8 → Nat} {n : Nat} (s1 : σ1) (s2 : σ2) (s3 : σ3) (s4 : σ4) (s5 : σ5) (s6 : σ6) (s7 : σ7) (s8 : σ8) (hI : I s1 s2 s3 s4 s5 s6 s7 s8) (hm : m s1 s2 s3 s4 s5 s6 s7 s8 < n) (hE : SubE E (Es s1 s2 s3 s4 s5 s6 s7 s8)) (hL : List.Perm L (Ls s1 s2 s3 s4 s5 s6 s7 s8)) :
    JX b0 Mk N D L E (kInv (Round8 b0 Mk N D Ls Es I m n) Q) .normal := JX_inv (Ls := fun s : σ1 × σ2 × σ3 × σ4 × σ5 × σ6 × σ7 × σ8 => Ls s.1 s.2.1 s.2.2.1 s.2.2.2.1 s.2.2.2.2.1 s.2.2.2.2.2.1 s.2.2.2.2.2.2.1 s.2.2.2.2.2.2.2) (Es := fun s => Es s.1 s.2.1 s.2.2.1 s.2.2.2.1 s.2.2.2.2.1 s.2.2.2.2.2.1 s.2.2.2.2.2.2.1 s.2.2.2.2.2.2.2) (I := fun s => I s.1 s.2.1 s.2.2.1 s.2.2.2.1 s.2.2.2.2.1 s.2.2.2.2.2.1 s.2.2.2.2.2.2.1 s.2.2.2.2.2.2.2) (m := fun s => m s.1 s.2.1 s.2.2.1 s.2.2.2.1 s.2.2.2.2.1 s.2.2.2.2.2.1 s.2.2.2.2.2.2.1 s.2.2.2.2.2.2.2) (s1, s2, s3, s4, s5, s6, s7, s8) hI hm hE hL
def Round9 {σ1 σ2 σ3 σ4 σ5 σ6 σ7 σ8 σ9 : Type} (b0 : World) (Mk : List Nat) (N : Nat) (D : List Deferred) (Ls : σ1 → σ2 → σ3 → σ4 → σ5 → σ6 → σ7 → σ8 → σ9 → Heap) (Es : σ1 → σ2 → σ3 → σ4 → σ5 → σ6 → σ7 → σ8 → σ9 → Env) (I : σ1 → σ2 → σ3 → σ4 → σ5 → σ6 → σ7 → σ8 → σ9 → Prop) (m : σ1 → σ2 → σ3 → σ4 → σ5 → σ6 → σ7 → σ8 → σ9 → Nat) (n : Nat) : Act → World → Prop :=
  Round b0 Mk N D (fun s : σ1 × σ2 × σ3 × σ4 × σ5 × σ6 × σ7 × σ8 × σ9 => Ls s.1 s.2.1 s.2.2.1 s.2.2.2.1 s.2.2.2.2.1 s.2.2.2.2.2.1 s.2.2.2.2.2.2.1 s.2.2.2.2.2.2.2.1 s.2.2.2.2.2.2.2.2) (fun s => Es s.1 s.2.1 s.2.2.1 s.2.2.2.1 s.2.2.2.2.1 s.2.2.2.2.2.1 s.2.2.2.2.2.2.1 s.2.2.2.2.2.2.2.1 s.2.2.2.2.2.2.2.2) (fun s => I s.1 s.2.1 s.2.2.1 s.2.2.2.1 s.2.2.2.2.1 s.2.2.2.2.2.1 s.2.2.2.2.2.2.1 s.2.2.2.2.2.2.2.1 s.2.2.2.2.2.2.2.2) (fun s => m s.1 s.2.1 s.2.2.1 s.2.2.2.1 s.2.2.2.2.1 s.2.2.2.2.2.1 s.2.2.2.2.2.2.1 s.2.2.2.2.2.2.2.1 s.2.2.2.2.2.2.2.2) n
theorem J_loop9 {σ1 σ2 σ3 σ4 σ5 σ6 σ7 σ8 σ9 : Type} (Ls : σ1 → σ2 → σ3 → σ4 → σ5 → σ6 → σ7 → σ8 → σ9 → Heap) (Es : σ1 → σ2 → σ3 → σ4 → σ5 → σ6 → σ7 → σ8 → σ9 → Env) (I : σ1 → σ2 → σ3 → σ4 → σ5 → σ6 → σ7 → σ8 → σ9 → Prop) (m : σ1 → σ2 → σ3 → σ4 → σ5 → σ6 → σ7 → σ8 → σ9 → Nat) (x1 : σ1) (x2 : σ2) (x3 : σ3) (x4 : σ4) (x5 : σ5) (x6 : σ6) (x7 : σ7) (x8 : σ8) (x9 : σ9) (hI : I x1 x2 x3 x4 x5 x6 x7 x8 x9) (hE : SubE E (Es x1 x2 x3 x4 x5 x6 x7 x8 x9)) (hL : List.Perm L (Ls x1 x2 x3 x4 x5 x6 x7 x8 x9))
    (h : ∀ s1 s2 s3 s4 s5 s6 s7 s8 s9, I s1 s2 s3 s4 s5 s6 s7 s8 s9 → J P rd b0 Mk N D (Ls s1 s2 s3 s4 s5 s6 s7 s8 s9) (Es s1 s2 s3 s4 s5 s6 s7 s8 s9) c (kInv (Round9 b0 Mk N D Ls Es I m (m s1 s2 s3 s4 s5 s6 s7 s8 s9)) Q)) : J P rd b0 Mk N D L E (Code.loop c) Q :=
  J_loop (σ := σ1 × σ2 × σ3 × σ4 × σ5 × σ6 × σ7 × σ8 × σ9) (fun s : σ1 × σ2 × σ3 × σ4 × σ5 × σ6 × σ7 × σ8 × σ9 => Ls s.1 s.2.1 s.2.2.1 s.2.2.2.1 s.2.2.2.2.1 s.2.2.2.2.2.1 s.2.2.2.2.2.2.1 s.2.2.2.2.2.2.2.1 s.2.2.2.2.2.2.2.2) (fun s => Es s.1 s.2.1 s.2.2.1 s.2.2.2.1 s.2.2.2.2.1 s.2.2.2.2.2.1 s.2.2.2.2.2.2.1 s.2.2.2.2.2.2.2.1 s.2.2.2.2.2.2.2.2) (fun s => I s.1 s.2.1 s.2.2.1 s.2.2.2.1 s.2.2.2.2.1 s.2.2.2.2.2.1 s.2.2.2.2.2.2.1 s.2.2.2.2.2.2.2.1 s.2.2.2.2.2.2.2.2) (fun s => m s.1 s.2.1 s.2.2.1 s.2.2.2.1 s.2.2.2.2.1 s.2.2.2.2.2.1 s.2.2.2.2.2.2.1 s.2.2.2.2.2.2.2.1 s.2.2.2.2.2.2.2.2) (x1, x2, x3, x4, x5, x6, x7, x8, x9) hI hE hL (fun s hI => h s.1 s.2.1 s.2.2.1 s.2.2.2.1 s.2.2.2.2.1 s.2.2.2.2.2.1 s.2.2.2.2.2.2.1 s.2.2.2.2.2.2.2.1 s.2.2.2.2.2.2.2.2 hI)
theorem JX_inv9 {σ1 σ2 σ3 σ4 σ5 σ6 σ7 σ8 σ9 : Type} {Ls : σ1 → σ2 → σ3 → σ4 → σ5 → σ6 → σ7 → σ8 → σ9 → Heap} {Es : σ1 → σ2 → σ3 → σ4 → σ5 → σ6 → σ7 → σ8 → σ9 → Env} {I : σ1 → σ2 → σ3 → σ4 → σ5 → σ6 → σ7 → σ8 → σ9 → Prop} {m : σ1 → σ2 → σ3 → σ4 → σ5 → σ6 → σ7 → σ8 → σ9 → Nat} {n : Nat} (s1 : σ1) (s2 : σ2) (s3 : σ3) (s4 : σ4) (s5 : σ5) (s6 : σ6) (s7 : σ7) (s8 : σ8) (s9 : σ9) (hI : I s1 s2 s3 s4 s5 s6 s7 s8 s9) (hm : m s1 s2 s3 s4 s5 s6 s7 s8 s9 < n) (hE : SubE E (Es s1 s2 s3 s4 s5 s6 s7 s8 s9)) (hL : List.Perm L (Ls s1 s2 s3 s4 s5 s6 s7 s8 s9)) :
    JX b0 Mk N D L E (kInv (Round9 b0 Mk N D Ls Es I m n) Q) .normal := JX_inv (Ls := fun s : σ1 × σ2 × σ3 × σ4 × σ5 × σ6 × σ7 × σ8 × σ9 => Ls s.1 s.2.1 s.2.2.1 s.2.2.2.1 s.2.2.2.2.1 s.2.2.2.2.2.1 s.2.2.2.2.2.2.1 s.2.2.2.2.2.2.2.1 s.2.2.2.2.2.2.2.2) (Es := fun s => Es s.1 s.2.1 s.2.2.1 s.2.2.2.1 s.2.2.2.2.1 s.2.2.2.2.2.1 s.2.2.2.2.2.2.1 s.2.2.2.2.2.2.2.1 s.2.2.2.2.2.2.2.2) (I := fun s => I s.1 s.2.1 s.2.2.1 s.2.2.2.1 s.2.2.2.2.1 s.2.2.2.2.2.1 s.2.2.2.2.2.2.1 s.2.2.2.2.2.2.2.1 s.2.2.2.2.2.2.2.2) (m := fun s => m s.1 s.2.1 s.2.2.1 s.2.2.2.1 s.2.2.2.2.1 s.2.2.2.2.2.1 s.2.2.2.2.2.2.1 s.2.2.2.2.2.2.2.1 s.2.2.2.2.2.2.2.2) (s1, s2, s3, s4, s5, s6, s7, s8, s9) hI hm hE hL
def Round10 {σ1 σ2 σ3 σ4 σ5 σ6 σ7 σ8 σ9 σ10 : Type} (b0 : World) (Mk : List Nat) (N : Nat) (D : List Deferred) (Ls : σ1 → σ2 → σ3 → σ4 → σ5 → σ6 → σ7 → σ8 → σ9 → σ10 → Heap) (Es : σ1 → σ2 → σ3 → σ4 → σ5 → σ6 → σ7 → σ8 → σ9 → σ10 → Env) (I : σ1 → σ2 → σ3 → σ4 → σ5 → σ6 → σ7 → σ8 → σ9 → σ10 → Prop) (m : σ1 → σ2 → σ3 → σ4 → σ5 → σ6 → σ7 → σ8 → σ9 → σ10 → Nat) (n : Nat) : Act → World → Prop :=
  Round b0 Mk N D (fun s : σ1 × σ2 × σ3 × σ4 × σ5 × σ6 × σ7 × σ8 × σ9 × σ10 => Ls s.1 s.2.1 s.2.2.1 s.2.2.2.1 s.2.2.2.2.1 s.2.2.2.2.2.1 s.2.2.2.2.2.2.1 s.2.2.2.2.2.2.2.1 s.2.2.2.2.2.2.2.2.1 s.2.2.2.2.2.2.2.2.2) (fun s => Es s.1 s.2.1 s.2.2.1 s.2.2.2.1 s.2.2.2.2.1 s.2.2.2.2.2.1 s.2.2.2.2.2.2.1 s.2.2.2.2.2.2.2.1 s.2.2.2.2.2.2.2.2.1 s.2.2.2.2.2.2.2.2.2) (fun s => I s.1 s.2.1 s.2.2.1 s.2.2.2.1 s.2.2.2.2.1 s.2.2.2.2.2.1 s.2.2.2.2.2.2.1 s.2.2.2.2.2.2.2.1 s.2.2.2.2.2.2.2.2.1 s.2.2.2.2.2.2.2.2.2) (fun s => m s.1 s.2.1 s.2.2.1 s.2.2.2.1 s.2.2.2.2.1 s.2.2.2.2.2.1 s.2.2.2.2.2.2.1 s.2.2.2.2.2.2.2.1 s.2.2.2.2.2.2.2.2.1 s.2.2.2.2.2.2.2.2.2) n
theorem J_loop10 {σ1 σ2 σ3 σ4 σ5 σ6 σ7 σ8 σ9 σ10 : Type} (Ls : σ1 → σ2 → σ3 → σ4 → σ5 → σ6 → σ7 → σ8 → σ9 → σ10 → Heap) (Es : σ1 → σ2 → σ3 → σ4 → σ5 → σ6 → σ7 → σ8 → σ9 → σ10 → Env) (I : σ1 → σ2 → σ3 → σ4 → σ5 → σ6 → σ7 → σ8 → σ9 → σ10 → Prop) (m : σ1 → σ2 → σ3 → σ4 → σ5 → σ6 → σ7 → σ8 → σ9 → σ10 → Nat) (x1 : σ1) (x2 : σ2) (x3 : σ3) (x4 : σ4) (x5 : σ5) (x6 : σ6) (x7 : σ7) (x8 : σ8) (x9 : σ9) (x10 : σ10) (hI : I x1 x2 x3 x4 x5 x6 x7 x8 x9 x10) (hE : SubE E (Es x1 x2 x3 x4 x5 x6 x7 x8 x9 x10)) (hL : List.Perm L (Ls x1 x2 x3 x4 x5 x6 x7 x8 x9 x10))
    (h : ∀ s1 s2 s3 s4 s5 s6 s7 s8 s9 s10, I s1 s2 s3 s4 s5 s6 s7 s8 s9 s10 → J P rd b0 Mk N D (Ls s1 s2 s3 s4 s5 s6 s7 s8 s9 s10) (Es s1 s2 s3 s4 s5 s6 s7 s8 s9 s10) c (kInv (Round10 b0 Mk N D Ls Es I m (m s1 s2 s3 s4 s5 s6 s7 s8 s9 s10)) Q)) : J P rd b0 Mk N D L E (Code.loop c) Q :=
  J_loop (σ := σ1 × σ2 × σ3 × σ4 × σ5 × σ6 × σ7 × σ8 × σ9 × σ10) (fun s : σ1 × σ2 × σ3 × σ4 × σ5 × σ6 × σ7 × σ8 × σ9 × σ10 => Ls s.1 s.2.1 s.2.2.1 s.2.2.2.1 s.2.2.2.2.1 s.2.2.2.2.2.1 s.2.2.2.2.2.2.1 s.2.2.2.2.2.2.2.1 s.2.2.2.2.2.2.2.2.1 s.2.2.2.2.2.2.2.2.2) (fun s => Es s.1 s.2.1 s.2.2.1 s.2.2.2.1 s.2.2.2.2.1 s.2.2.2.2.2.1 s.2.2.2.2.2.2.1 s.2.2.2.2.2.2.2.1 s.2.2.2.2.2.2.2.2.1 s.2.2.2.2.2.2.2.2.2) (fun s => I s.1 s.2.1 s.2.2.1 s.2.2.2.1 s.2.2.2.2.1 s.2.2.2.2.2.1 s.2.2.2.2.2.2.1 s.2.2.2.2.2.2.2.1 s.2.2.2.2.2.2.2.2.1 s.2.2.2.2.2.2.2.2.2) (fun s => m s.1 s.2.1 s.2.2.1 s.2.2.2.1 s.2.2.2.2.1 s.2.2.2.2.2.1 s.2.2.2.2.2.2.1 s.2.2.2.2.2.2.2.1 s.2.2.2.2.2.2.2.2.1 s.2.2.2.2.2.2.2.2.2) (x1, x2, x3, x4, x5, x6, x7, x8, x9, x10) hI hE hL (fun s hI => h s.1 s.2.1 s.2.2.1 s.2.2.2.1 s.2.2.2.2.1 s.2.2.2.2.2.1 s.2.2.2.2.2.2.1 s.2.2.2.2.2.2.2.1 s.2.2.2.2.2.2.2.2.1 s.2.2.2.2.2.2.2.2.2 hI)
theorem JX_inv10 {σ1 σ2 σ3 σ4 σ5 σ6 σ7 σ8 σ9 σ10 : Type} {Ls : σ1 → σ2 → σ3 → σ4 → σ5 → σ6 → σ7 → σ8 → σ9 → σ10 → Heap} {Es : σ1 → σ2 → σ3 → σ4 → σ5 → σ6 → σ7 → σ8 → σ9 → σ10 → Env} {I : σ1 → σ2 → σ3 → σ4 → σ5 → σ6 → σ7 → σ8 → σ9 → σ10 → Prop} {m : σ1 → σ2 → σ3 → σ4 → σ5 → σ6 → σ7 → σ8 → σ9 → σ10 → Nat} {n : Nat} (s1 : σ1) (s2 : σ2) (s3 : σ3) (s4 : σ4) (s5 : σ5) (s6 : σ6) (s7 : σ7) (s8 : σ8) (s9 : σ9) (s10 : σ10) (hI : I s1 s2 s3 s4 s5 s6 s7 s8 s9 s10) (hm : m s1 s2 s3 s4 s5 s6 s7 s8 s9 s10 < n) (hE : SubE E (Es s1 s2 s3 s4 s5 s6 s7 s8 s9 s10)) (hL : List.Perm L (Ls s1 s2 s3 s4 s5 s6 s7 s8 s9 s10)) :
    JX b0 Mk N D L E (kInv (Round10 b0 Mk N D Ls Es I m n) Q) .normal := JX_inv (Ls := fun s : σ1 × σ2 × σ3 × σ4 × σ5 × σ6 × σ7 × σ8 × σ9 × σ10 => Ls s.1 s.2.1 s.2.2.1 s.2.2.2.1 s.2.2.2.2.1 s.2.2.2.2.2.1 s.2.2.2.2.2.2.1 s.2.2.2.2.2.2.2.1 s.2.2.2.2.2.2.2.2.1 s.2.2.2.2.2.2.2.2.2) (Es := fun s => Es s.1 s.2.1 s.2.2.1 s.2.2.2.1 s.2.2.2.2.1 s.2.2.2.2.2.1 s.2.2.2.2.2.2.1 s.2.2.2.2.2.2.2.1 s.2.2.2.2.2.2.2.2.1 s.2.2.2.2.2.2.2.2.2) (I := fun s => I s.1 s.2.1 s.2.2.1 s.2.2.2.1 s.2.2.2.2.1 s.2.2.2.2.2.1 s.2.2.2.2.2.2.1 s.2.2.2.2.2.2.2.1 s.2.2.2.2.2.2.2.2.1 s.2.2.2.2.2.2.2.2.2) (m := fun s => m s.1 s.2.1 s.2.2.1 s.2.2.2.1 s.2.2.2.2.1 s.2.2.2.2.2.1 s.2.2.2.2.2.2.1 s.2.2.2.2.2.2.2.1 s.2.2.2.2.2.2.2.2.1 s.2.2.2.2.2.2.2.2.2) (s1, s2, s3, s4, s5, s6, s7, s8, s9, s10) hI hm hE hL
end loops

theorem noMk {n : Nat} : ∀ k ∈ ([] : List Nat), k < n := fun _ h => by cases h

theorem gD {α : Type} [Inhabited α] {xs : List α} {m : Nat} (h : m < xs.length) : xs[m]? = some (xs.getD m default) := by
  simp [List.getD, List.getElem?_eq_getElem h]

section ops
variable {P : Program} {b0 : World} {Mk : List Nat} {N : Nat} {D : List Deferred} {L V : Heap} {E : Env} {ty : TypeId}

/-- A slice literal. -/
theorem a_bslice {t e k len : Nat} {z : Value} {parts : List (Nat × Operand)} {ps : List (Nat × List Value)} {l zs : List Value} (hU : ∀ w, (underlying t).run P w = .ok (.slice e) w) (hS : ∀ w, (sizeOf e).run P w = .ok k w) (hz : ∀ w, (zeroValue e).run P w = .ok z w)
    (hv : evp E parts = some ps := by rfl) (hb : Nat.ble (len * k) 16777216 = true := by rfl) (hzs : ((List.range (len * k)).map fun i => (cellsL z).getD (i % (cellsL z).length) undef) = zs := by rfl) (hzl : Nat.blt 0 (cellsL z).length = true := by rfl)
    (hf : fillL ((List.range len).map fun i => (i * k, k)) zs ps = some l := by rfl) :
    RunA P N D b0 Mk L E (.buildSlice t len parts.toArray) ty (.cells l.toArray e) (fun r => .slice (some ⟨r, 0, none⟩) len len) := fun a w ha _ => by
  have h1 := ha.evalp hv
  subst h1
  have hb' : ¬ (len * k > 2 ^ 24) := by
    have h2 : len * k ≤ 16777216 := by simpa using hb
    omega
  have hzl' : 0 < (cellsL z).length := by simpa using hzl
  have hz0 : ∃ z0 : Array Value, (if len * k = 0 then (pure #[] : Sem (Array Value)) else do pure (← zeroValue e).cells).run P w = .ok z0 w ∧ (Array.range (len * k)).map (fun i => z0[i % z0.size]!) = zs.toArray := by
    by_cases h0 : len * k = 0
    · refine ⟨#[], by simp [h0], ?_⟩
      subst hzs
      simp [h0]
    · refine ⟨(cellsL z).toArray, by simp [h0, hz, cellsL_eq], ?_⟩
      subst hzs
      apply Array.ext'
      simp only [Array.toList_map, Array.toList_range]
      apply List.map_congr_left
      intro i _
      have hm : i % (cellsL z).length < (cellsL z).length := Nat.mod_lt _ hzl'
      simp [List.getD, hm]
  obtain ⟨z0, hz1, hz2⟩ := hz0
  have hfl := fill_fillL ((List.range len).map fun i => (i * k, k)) (fun i => some (i * k, k)) (fun i q hq => by
    simp only [List.getElem?_map] at hq
    cases hr : (List.range len)[i]? with
    | none => simp [hr] at hq
    | some j =>
      have : j = i := by
        have := List.getElem?_eq_some_iff.1 hr
        obtain ⟨h1, h2⟩ := this
        simpa using h2.symm
      subst this
      simp [hr] at hq
      simp [hq]) (parts.map fun p => (p.1, a.eval p.2)) zs l (by rw [List.map_map]; exact hf)
  by_cases h0 : len * k = 0
  · have hz3 : z0 = #[] := by simp [h0] at hz1; exact hz1
    subst hz3
    simp only [mkO, execOp, Instr.buildSlice, Sem.run_bind, hU, hS, Result.andThen_ok, hb', if_false, Sem.run_pure, if_pos h0]
    have e2 : (Array.map (fun (x : Nat × Operand) => (x.1, a.eval x.2)) parts.toArray).toList = parts.map fun p => (p.1, a.eval p.2) := by simp
    simp only [hz2, e2, hfl]
    simp [newRow]
  · have hz3 : z.cells = z0 := by simp [h0, hz] at hz1; exact hz1
    simp only [mkO, execOp, Instr.buildSlice, Sem.run_bind, hU, hS, Result.andThen_ok, hb', if_false, Sem.run_pure, if_neg h0, hz, hz3]
    have e2 : (Array.map (fun (x : Nat × Operand) => (x.1, a.eval x.2)) parts.toArray).toList = parts.map fun p => (p.1, a.eval p.2) := by simp
    simp only [hz2, e2, hfl]
    simp [newRow]
end ops
end Go.Proofs.YtodejmindmiknaaDoor.Jd
