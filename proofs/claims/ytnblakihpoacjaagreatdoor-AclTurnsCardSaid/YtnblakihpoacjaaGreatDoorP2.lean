/- Part of the proofs of this seat: walks and plain facts. No condition. -/
import Derived.Lay
import Derived.LaidHandle
import Derived.Shelf.Strings.Builder1
import Derived.Shelf.Strings.Builder2
import Derived.Shelf.Strings.OnBuilder
import Derived.Shelf.Strings.BuilderF
import Derived.Shelf.Strings.BuilderK
import Derived.Shelf.Strings.Builder2Cap
import Derived.Shelf.Strconv.Itoa0
import Derived.Shelf.Strconv.Itoa1
import Derived.Shelf.LaysM
import Derived.Shelf.Strconv.Itoa2
import Derived.Shelf.Strconv.Itoa3
import Derived.Shelf.Strings.Search1
import Derived.Shelf.Strings.Search2
import Derived.Shelf.Strings.Cut
import Derived.Shelf.Strings.Shaped
import Derived.Ground.GguProg
import Derived.Shelf.GgSortLib.LibTypes
import Derived.Shelf.Strings.BuilderCap
import Derived.Test.YtnblakihpoacjaaGreatDoorProg
import Derived.Test.YtnblakihpoacjaaGreatDoorChecked
import Derived.WalkKit
import Derived.LaidEql
import Derived.Stop.Asserts
import Derived.RowKitTokens
import Derived.Test.YtnblakihpoacjaaGreatDoorP1
namespace Go.Proofs.YtnblakihpoacjaaGreatDoor.Jd
open Go.RowKit (Below)
set_option linter.unusedVariables false
set_option linter.unusedSimpArgs false
theorem lb {p : Prop} (h : p := by first | omega | (simp only [List.length_append, List.length_take, List.length_drop, List.length_set, List.length_replicate, List.length_cons, List.length_nil, List.length_map, toS_length, toI_length]; omega) | (simp only [List.length_append, List.length_take, List.length_drop, List.length_set, List.length_replicate, List.length_cons, List.length_nil, List.length_map, toS_length, toI_length] at *; omega)) : p := h
theorem ix {p : Prop} (h : p := by first | omega | (simp only [List.length_set]; omega) | (simp only [List.length_append, List.length_take, List.length_drop, List.length_set, List.length_replicate, List.length_cons, List.length_nil, List.length_map, toS_length, toI_length]; omega)) : p := h
theorem se {E E' : Env} (h : SubE E E' := by repeat (first | exact SubE.nil | refine SubE.cons rfl ?_)) : SubE E E' := h
theorem me {α : Type} {p : α} {l : List α} (h : p ∈ l := by repeat (first | exact List.mem_cons_self | apply List.mem_cons_of_mem | apply List.mem_append_right)) : p ∈ l := h
theorem q0 {l : Heap} : List.Perm l l := List.Perm.refl _
theorem qa {x a : Nat × Obj} {t r : Heap} (p : List.Perm t (a :: r)) : List.Perm (x :: t) (a :: x :: r) := (List.Perm.cons _ p).trans (List.Perm.swap _ _ _)
theorem qb {x : Nat × Obj} {t r S : Heap} (p : List.Perm t (S ++ r)) : List.Perm (x :: t) (S ++ (x :: r)) := (List.Perm.cons _ p).trans List.perm_middle.symm
theorem qc {a : Nat × Obj} {t r S : Heap} (p : List.Perm t (a :: r)) : List.Perm (S ++ t) (a :: (S ++ r)) := (List.Perm.append_left _ p).trans List.perm_middle
theorem qd {t r S U : Heap} (p : List.Perm t (U ++ r)) : List.Perm (S ++ t) (U ++ (S ++ r)) := (List.Perm.append_left _ p).trans (perm_seg _ _ _)
theorem keyU8 : KeyOk (κ := Int) (.int .u8) (fun x => .int .u8 x) := by
  refine ⟨fun x y => ?_, fun n t x P w h => ?_⟩
  · simp only [Instr.sameNow]
    by_cases hh : x = y <;> simp [hh]
  · show (do match ← underlying t, Value.int .u8 x with | _, _ => _ : Sem Unit).run P w = _
    simp only [Sem.run_bind, h, Result.andThen_ok, Sem.run_pure]
section
variable {P : Program} {rd : Option Nat} {b0 : World} {Mk : List Nat} {N : Nat} {D : List Deferred} {ops : Array Oper} {L V : Heap} {E : Env} {T : Act → World → Prop}
variable {op : Op} {ty : TypeId} {pos : String} {after : Array Edge} {d : Nat}
theorem q_lookT {κ : Type} [DecidableEq κ] {kd : TypeDesc} {enc : κ → Value} {t kt et : TypeId} {x y : Operand} {r ck : Nat} {es : Array MapEntry} {l : List (κ × Value)} {z v : Value} (q : κ) (hk : KeyOk kd enc) (hU : ∀ w, (underlying t).run P w = .ok (.map kt et) w) (hK : ∀ w, (underlying kt).run P w = .ok kd w)
    (hz : ∀ w, (zeroValue et).run P w = .ok z w) (hes : MapIs enc es l) (hv : lookL l q = some v) (hx : ev E x = some (.map (some r)) := by rfl) (hy : ev E y = some (enc q) := by rfl)
    (hm : (r, Obj.map es ck) ∈ L := by repeat (first | exact List.mem_cons_self | apply List.mem_cons_of_mem | apply List.mem_append_right)) :
    RunQ P N D b0 Mk L E (.lookup t x y true) ty (.tuple [v, .bool true].toArray) := by
  have := q_lookupOk (N := N) (D := D) (b0 := b0) (Mk := Mk) (ty := ty) q hk hU hK hz hes hx hy hm
  rwa [hv] at this
theorem q_lookF {κ : Type} [DecidableEq κ] {kd : TypeDesc} {enc : κ → Value} {t kt et : TypeId} {x y : Operand} {r ck : Nat} {es : Array MapEntry} {l : List (κ × Value)} {z : Value} (q : κ) (hk : KeyOk kd enc) (hU : ∀ w, (underlying t).run P w = .ok (.map kt et) w) (hK : ∀ w, (underlying kt).run P w = .ok kd w)
    (hz : ∀ w, (zeroValue et).run P w = .ok z w) (hes : MapIs enc es l) (hv : lookL l q = none) (hx : ev E x = some (.map (some r)) := by rfl) (hy : ev E y = some (enc q) := by rfl)
    (hm : (r, Obj.map es ck) ∈ L := by repeat (first | exact List.mem_cons_self | apply List.mem_cons_of_mem | apply List.mem_append_right)) :
    RunQ P N D b0 Mk L E (.lookup t x y true) ty (.tuple [z, .bool false].toArray) := by
  have := q_lookupOk (N := N) (D := D) (b0 := b0) (Mk := Mk) (ty := ty) q hk hU hK hz hes hx hy hm
  rwa [hv] at this
theorem e_ins {κ : Type} [DecidableEq κ] {kd : TypeDesc} {enc : κ → Value} {t kt et : TypeId} {x y u : Operand} {r ck : Nat} {es : Array MapEntry} {l : List (κ × Value)} {v : Value} (q : κ) (hk : KeyOk kd enc) (hU : ∀ w, (underlying t).run P w = .ok (.map kt et) w) (hK : ∀ w, (underlying kt).run P w = .ok kd w)
    (hes : MapIs enc es l) (hnew : ∀ p ∈ l, p.1 ≠ q) (hx : ev E x = some (.map (some r)) := by rfl) (hy : ev E y = some (enc q) := by rfl) (hu : ev E u = some v := by rfl)
    (hm : (r, Obj.map es ck) ∈ L := by repeat (first | exact List.mem_cons_self | apply List.mem_cons_of_mem | apply List.mem_append_right)) :
    RunM P N D b0 Mk L E (.insert t x y u) ty [(r, .map es ck)] (Array MapEntry × Nat) (fun _ => .skip) (fun x => [(r, .map x.1 x.2)]) (fun x => MapIs enc x.1 (l ++ [(q, v)])) := fun a w ha hw => by
  obtain ⟨x, w', h1, h2, h3⟩ := e_put (ty := ty) q hk hU hK hes hnew hx hy hu hm a w ha hw
  exact ⟨x, w', h1, h2, h3⟩
theorem JL_ins {κ : Type} [DecidableEq κ] {kd : TypeDesc} {enc : κ → Value} {t kt et : TypeId} {x y u : Operand} {r ck : Nat} {es : Array MapEntry} {ml : List (κ × Value)} {v : Value} {R : Heap} {l : List Oper} (q : κ) (hk : KeyOk kd enc) (hU : ∀ w, (underlying t).run P w = .ok (.map kt et) w) (hK : ∀ w, (underlying kt).run P w = .ok kd w)
    (hes : MapIs enc es ml) (hnew : ∀ p ∈ ml, p.1 ≠ q) (hL : List.Perm L ((r, Obj.map es ck) :: R)) (hx : ev E x = some (.map (some r)) := by rfl) (hy : ev E y = some (enc q) := by rfl) (hu : ev E u = some v := by rfl)
    (k : ∀ es2 ck2, MapIs enc es2 (ml ++ [(q, v)]) → JL P rd b0 Mk N D ops ((r, Obj.map es2 ck2) :: R) E l T) :
    JL P rd b0 Mk N D ops L E ({ dst := none, op := .insert t x y u, type := ty, pos := pos, after := after, guard := none } :: l) T :=
  JL_es (H := [(r, Obj.map es ck)]) hL (e_ins q hk hU hK hes hnew hx hy hu (hL.mem_iff.2 List.mem_cons_self)) rfl (fun x hq => k x.1 x.2 hq)
theorem q_assertIs {t xT : TypeId} {x : Operand} {v : Value} {u : TypeDesc} (hU : P.underlying t = some u) (hu : ∀ ms, u ≠ .interface ms := by intro ms h; cases h) (hx : ev E x = some (.iface t v) := by rfl) :
    RunQ P N D b0 Mk L E (.typeAssert x xT t true) ty (.tuple [v, .bool true].toArray) := fun a w ha _ => by
  have : (Instr.typeAssert (.iface t v) xT t true).run P w = .ok (.tuple [v, .bool true].toArray) w := by
    unfold Instr.typeAssert
    simp only [Sem.run_bind, run_underlying hU, Result.andThen_ok]
    cases u <;> simp_all
  simp [mkO, execOp, ha.eval hx, this]
theorem q_half {t t' : TypeId} {x y : Operand} {p : Int} (hx : ev E x = some (.int .i64 p) := by rfl) (hy : ev E y = some (.int .i64 2) := by rfl) (h : -1 ≤ p ∧ p ≤ 9223372036854775807 := by omega) : RunQ P N D b0 Mk L E (.binOp .quo t x y t') ty (.int .i64 ((p.toNat / 2 : Nat) : Int)) := fun a w ha _ => by
  have h2 : p.tdiv 2 = ((p.toNat / 2 : Nat) : Int) := by
    rcases Int.lt_or_le p 0 with h0 | h0
    · have : p = -1 := by omega
      subst this; rfl
    · rw [Int.tdiv_eq_ediv_of_nonneg h0]; omega
  have h3 : IntKind.i64.wrap ((p.toNat / 2 : Nat) : Int) = ((p.toNat / 2 : Nat) : Int) := wrap_i64 ⟨by omega, by omega⟩
  simp only [mkO, execOp, ha.eval hx, ha.eval hy]
  simp [eqGuard, binOp, Op.intDiv, h2, -Int.natCast_ediv]
  exact h3
theorem JO_pV {l : List Oper} {n f' : Nat} {listed : Array Bool} {i : Nat} {f : FuncId} {args : List Value} {R : World → Ending → World → Prop} (hi : l[i]? = some { dst := some d, op := op, type := ty, pos := pos, after := after, guard := none }) (hc : RunC P N D b0 Mk L E op ty f args)
    (h : ∀ w, SH b0 Mk L w → Calls P f args.toArray w (R w)) (hn : notDeferOp op = true := by rfl) (hd : Nat.blt d N = true := by rfl)
    (k : ∀ w e w', SH b0 Mk L w → R w e w' → ∃ v B V', e = .returned v ∧ Fresh w w' B ∧ V' = B ++ V ∧ JG P rd b0 Mk N D l n f' (listed.setIfInBounds i true) L V' ((d, v) :: E) T) : JO P rd b0 Mk N D l n f' listed L V E T i := by
  intro hg inv a w ha hw
  have hi' : l.toArray[i]? = some { dst := some d, op := op, type := ty, pos := pos, after := after, guard := none } := by simpa using hi
  unfold wpO
  simp only [hi']
  rw [if_pos (by rfl)]
  refine wpIn_enter (notDefer_mk hn) (by rw [execOp_mkO]; exact hc a w ha hw.right) ((h w hw.right).mono fun e w' he => ?_)
  obtain ⟨v, B, V', rfl, h2, rfl, h3⟩ := k w e w' hw.right he
  have h4 : SH b0 Mk ((B ++ V) ++ L) w' := by rw [List.append_assoc]; exact hw.fresh h2
  exact ⟨_, rfl, SH b0 Mk L, fun y hy => hy, h4.right, h3 hg inv _ _ (ha.put hd _) h4⟩
theorem JO_m {l : List Oper} {n f' : Nat} {listed : Array Bool} {i : Nat} {f : FuncId} {args : List Value} {R : World → Ending → World → Prop} (hi : l[i]? = some { dst := some d, op := op, type := ty, pos := pos, after := after, guard := none }) (hc : RunC P N D b0 Mk L E op ty f args)
    (h : ∀ w, SH b0 Mk (V ++ L) w → Calls P f args.toArray w (R w)) (hn : notDeferOp op = true := by rfl) (hd : Nat.blt d N = true := by rfl)
    (k : ∀ w e w', SH b0 Mk (V ++ L) w → R w e w' → ∃ v V', e = .returned v ∧ SH b0 Mk (V' ++ L) w' ∧ JG P rd b0 Mk N D l n f' (listed.setIfInBounds i true) L V' ((d, v) :: E) T) : JO P rd b0 Mk N D l n f' listed L V E T i := by
  intro hg inv a w ha hw
  have hi' : l.toArray[i]? = some { dst := some d, op := op, type := ty, pos := pos, after := after, guard := none } := by simpa using hi
  unfold wpO
  simp only [hi']
  rw [if_pos (by rfl)]
  refine wpIn_enter (notDefer_mk hn) (by rw [execOp_mkO]; exact hc a w ha hw.right) ((h w hw).mono fun e w' he => ?_)
  obtain ⟨v, V', rfl, h2, h3⟩ := k w e w' hw he
  exact ⟨_, rfl, SH b0 Mk L, fun y hy => hy, h2.right, h3 hg inv _ _ (ha.put hd _) h2⟩
theorem JO_eV {l : List Oper} {n f' : Nat} {listed : Array Bool} {i : Nat} {H R : Heap} {X : Type} {v : X → Value} {H' : X → Heap} {Pr : X → Prop} (hi : l[i]? = some { dst := some d, op := op, type := ty, pos := pos, after := after, guard := none })
    (hV : List.Perm V (H ++ R)) (h : RunM P N D b0 Mk (V ++ L) E op ty H X (fun x => .value (v x)) H' Pr) (hn : notDeferOp op = true := by rfl) (hd : Nat.blt d N = true := by rfl)
    (k : ∀ x, Pr x → JG P rd b0 Mk N D l n f' (listed.setIfInBounds i true) L (H' x ++ R) ((d, v x) :: E) T) : JO P rd b0 Mk N D l n f' listed L V E T i := by
  intro hg inv a w ha hw
  have hi' : l.toArray[i]? = some { dst := some d, op := op, type := ty, pos := pos, after := after, guard := none } := by simpa using hi
  unfold wpO
  simp only [hi']
  rw [if_pos (by rfl)]
  obtain ⟨x, w', h1, h2, h3⟩ := h a w ha hw
  have h4 : SH b0 Mk ((H' x ++ R) ++ L) w' := by
    rw [List.append_assoc]
    exact (hw.perm (by rw [← List.append_assoc]; exact List.Perm.append_right _ hV)).tr h2
  exact wpIn_value (notDefer_mk hn) (by rw [execOp_mkO]; exact h1) ⟨SH b0 Mk L, fun y hy => hy, h4.right, k x h3 hg inv _ _ (ha.put hd _) h4⟩
theorem JO_appendV {α : Type} {enc : α → List Value} {kk by_ : Nat} {t e : TypeId} {z : Value} {x y : Operand} {a a' : Option Addr} {c c' n m : Nat} {B R : Heap} {xs ys : List α} {l : List Oper} {n' f' : Nat} {listed : Array Bool} {i : Nat} (hi : l[i]? = some { dst := some d, op := .call { callee := .builtin .append, args := #[x, y], argTypes := #[t, t] }, type := ty, pos := pos, after := after, guard := none }) (zs : List α) (hz : xs ++ ys = zs) (hT : Ty P e kk by_ z) (hU : P.underlying t = some (.slice e)) (hE : EncOk enc kk) (ho : OwnB enc kk e a c B xs) (hV : List.Perm V (B ++ R))
    (hs : SlJ b0 Mk (V ++ L) enc kk a' ys) (hb : 2 * (n + m) * by_ ≤ 281474976710656 ∧ n + m ≤ 4611686018427387904) (hx : ev E x = some (.slice a n c) := by rfl) (hy : ev E y = some (.slice a' m c') := by rfl) (hn : xs.length = n := by rfl) (hm : ys.length = m := by rfl) (hd : Nat.blt d N = true := by rfl) (hzl : n + m = zs.length := by simp)
    (k : ∀ a2 c2 B2, OwnB enc kk e a2 c2 B2 zs → JG P rd b0 Mk N D l n' f' (listed.setIfInBounds i true) L (B2 ++ R) ((d, .slice a2 zs.length c2) :: E) T) : JO P rd b0 Mk N D l n' f' listed L V E T i :=
  JO_eV hi hV (e_append hT hU hE ho hs (fun p hp => List.mem_append_left _ (hV.mem_iff.2 (List.mem_append_left _ hp))) hn hm hb.1 hb.2 hx hy) rfl hd (fun q hq => by rw [hzl]; exact k q.1 q.2.1 q.2.2 (hz ▸ hq))
theorem loadVar_word {t : TypeId} {a : Addr} {v : Value} {w : World} (hA : ∀ w, (isAgg t).run P w = .ok false w) (h : w.cell? a = some v) : (loadVar t a).run P w = .ok v w := by
  simp [loadVar, hA, h]
end
theorem lookL_hit {κ : Type} [DecidableEq κ] {k q : κ} {v : Value} {l : List (κ × Value)} (h : k = q) : lookL ((k, v) :: l) q = some v := by simp [lookL, h]
theorem lookL_miss {κ : Type} [DecidableEq κ] {k q : κ} {v : Value} {l : List (κ × Value)} (h : ¬ k = q) : lookL ((k, v) :: l) q = lookL l q := by simp [lookL, h]
theorem lookL_nil {κ : Type} [DecidableEq κ] {q : κ} : lookL ([] : List (κ × Value)) q = none := rfl
theorem swap_all {α : Type} [Inhabited α] {p : α → Prop} {xs : List α} (h : ∀ z ∈ xs, p z) {i j : Nat} (hi : i < xs.length) (hj : j < xs.length) : ∀ z ∈ ((xs.set i (xs.getD j default)).set j (xs.getD i default)), p z := fun z hz => by
  have hg : ∀ k, k < xs.length → p (xs.getD k default) := fun k hk => by
    rw [List.getD_eq_getElem?_getD, List.getElem?_eq_getElem hk]; exact h _ (List.getElem_mem hk)
  rcases List.mem_or_eq_of_mem_set hz with hz | rfl
  · rcases List.mem_or_eq_of_mem_set hz with hz | rfl
    · exact h _ hz
    · exact hg _ hj
  · exact hg _ hi
def insL {α : Type} (xs : List α) (i : Nat) (v : α) : List α := xs.take i ++ v :: xs.drop i
theorem insL_length {α : Type} {xs : List α} {i : Nat} {v : α} (h : i ≤ xs.length) : (insL xs i v).length = xs.length + 1 := by
  simp [insL]; omega
theorem insL_end {α : Type} (xs : List α) (v : α) : xs ++ [v] = insL xs xs.length v := by simp [insL]
def delL {α : Type} (xs : List α) (i j : Nat) : List α := xs.take i ++ xs.drop j
theorem delL_length {α : Type} {xs : List α} {i j : Nat} (h : i ≤ j) (hj : j ≤ xs.length) : (delL xs i j).length = xs.length - (j - i) := by
  simp [delL]; omega
end Go.Proofs.YtnblakihpoacjaaGreatDoor.Jd

namespace Go.Proofs.YtnblakihpoacjaaGreatDoor.Jd
open Go.ChangeShapes Go.WideShapes Go.ChangeAt Go.RowKit
set_option linter.unusedVariables false
set_option linter.unusedSimpArgs false
theorem laidMet_from {P : Program} (w0 : World) {laid : List (String × DataW Unit)} (args : Array Value)
    (hf : w0.layFits P laid [] = true) (hi : w0.layIfaces P laid (w0.layVars P laid) = true) :
    laidMet P laid ((w0.layVars P laid).forCall (fun _ _ => 0) ⟨#[], args, []⟩).memory := by
  have e1 : (laid.filter fun x => (laid.map (·.1)).contains x.1) = laid := List.filter_eq_self.2 fun x hx => List.contains_iff_mem.2 (List.mem_map.2 ⟨x, hx, rfl⟩)
  have e2 : (laid.filter fun x => !(laid.map (·.1)).contains x.1) = [] := List.filter_eq_nil_iff.2 fun x hx => by rw [List.contains_iff_mem.2 (List.mem_map.2 ⟨x, hx, rfl⟩)]; simp
  have h : laidMet P laid (w0.layVars P laid) := laidMet_layVars (w0 := w0) (laid.map (·.1)) [] (by rw [e1]) (by rw [e1]; exact hf) (by rw [e1]; exact hi) (by rw [e2]; exact LaidIn.none)
  exact h.of_heap (by simp [World.memory, World.forCall, Input.heap])
theorem handle_at {P : Program} {l : List (String × DataW Unit)} {W : World} {n : String} {d : DataW Unit} {g R t ng N : Nat} {nm : List UInt8} (h : handlesMet P l W) (hm : (n, d) ∈ l) (hn : d.handleName? = some nm) (hf : d.funcsIn? = none) (hg : P.globalNamed n = some g)
    (hR : (P.cutTypes.find? (·.1 == "internal/reflectlite.rtype")).map (·.2) = some R) (hN : P.types.size = N) (hone : ((List.range N).filter fun t => P.rowNamed t nm) = [t]) (hh : typeHandle P t = .pointer (some ⟨ng, t, none⟩)) :
    W.cell? ⟨g, 0, none⟩ = some (.iface R (.agg #[.pointer (some ⟨ng, t, none⟩)])) := by
  have h1 := h _ hm
  simp only [hf] at h1
  obtain ⟨name, u, ty, e1, e2, e3, e4, e5⟩ := h1
  rw [hn] at e1
  have en := Option.some.inj e1
  subst en
  obtain rfl := Option.some.inj (hR.symm.trans e2)
  have hmm : ty ∈ (List.range N).filter fun t => P.rowNamed t nm := List.mem_filter.2 ⟨List.mem_range.2 (by rw [← hN]; exact e3), e4⟩
  rw [hone] at hmm
  obtain rfl := List.mem_singleton.1 hmm
  rw [hh] at e5
  simpa using World.var?_cell hg e5 0
end Go.Proofs.YtnblakihpoacjaaGreatDoor.Jd

namespace Go.Proofs
open Go.Shelf
open Go.RowKit in
open Go.RowKit in
open Go.RowKit in
open Go.RowKit in
open Go.RowKit in
open Go.RowKit in
set_option linter.unusedVariables false
set_option linter.unusedSimpArgs false
def Tryz.lays156_ren : Go.Shelf.Ren := ⟨fun | 156 => 92 | 165 => 113 | 166 => 114 | 169 => 115 | 240 => 128 | 241 => 129 | 276 => 144 | 277 => 145 | n => n, fun | 31 => 60 | 9 => 9 | 3 => 3 | 4 => 4 | 0 => 0 | 20 => 20 | 72 => 187 | 76 => 189 | 70 => 185 | 37 => 136 | 75 => 57 | 127 => 211 | 164 => 195 | 5 => 5 | 80 => 191 | n => n, fun | n => n⟩
theorem Tryz.lays156 : Go.Proofs.Lays.n156 Tryz.prog Tryz.lays156_ren := {
  mixed := by kernel_rfl
  f156 := Tryz.func92.trans (congrArg some (by kernel_rfl))
  f165 := Tryz.func113.trans (congrArg some (by kernel_rfl))
  f166 := Tryz.func114.trans (congrArg some (by kernel_rfl))
  f169 := Tryz.func115.trans (congrArg some (by kernel_rfl))
  f240 := Tryz.func128.trans (congrArg some (by kernel_rfl))
  f241 := Tryz.func129.trans (congrArg some (by kernel_rfl))
  f276 := Tryz.func144.trans (congrArg some (by kernel_rfl))
  f277 := Tryz.func145.trans (congrArg some (by kernel_rfl))
  t0 := Tryz.underlying0
  a0 := Tryz.isAgg0
  z0 := Tryz.sizeOf0
  v0 := Tryz.zeroValue0
  t3 := Tryz.underlying3
  a3 := Tryz.isAgg3
  z3 := Tryz.sizeOf3
  v3 := Tryz.zeroValue3
  t4 := Tryz.underlying4
  a4 := Tryz.isAgg4
  z4 := Tryz.sizeOf4
  v4 := Tryz.zeroValue4
  t9 := Tryz.underlying9
  a9 := Tryz.isAgg9
  z9 := Tryz.sizeOf9
  v9 := Tryz.zeroValue9
  t20 := Tryz.underlying20
  a20 := Tryz.isAgg20
  z20 := Tryz.sizeOf20
  v20 := Tryz.zeroValue20
  t31 := Tryz.underlying60
  a31 := Tryz.isAgg60
  z31 := Tryz.sizeOf60
  v31 := Tryz.zeroValue60
  t37 := Tryz.underlying136
  a37 := Tryz.isAgg136
  z37 := Tryz.sizeOf136
  v37 := Tryz.zeroValue136
  t70 := Tryz.underlying185
  a70 := Tryz.isAgg185
  z70 := Tryz.sizeOf185
  v70 := Tryz.zeroValue185
  t72 := Tryz.underlying187
  a72 := Tryz.isAgg187
  z72 := Tryz.sizeOf187
  v72 := Tryz.zeroValue187
  t75 := Tryz.underlying57
  a75 := Tryz.isAgg57
  z75 := Tryz.sizeOf57
  v75 := Tryz.zeroValue57
  t76 := Tryz.underlying189
  a76 := Tryz.isAgg189
  z76 := Tryz.sizeOf189
  v76 := Tryz.zeroValue189
  t127 := Tryz.underlying211
  a127 := Tryz.isAgg211
  z127 := Tryz.sizeOf211
  v127 := Tryz.zeroValue211
  t164 := Tryz.underlying195
  a164 := Tryz.isAgg195
  z164 := Tryz.sizeOf195
  v164 := Tryz.zeroValue195 }
theorem Tryz.Builder_Extra_156 : Builder.Extra Tryz.prog Tryz.lays156_ren := {
  sizeBuilder := by kernel_rfl
  liesBuilder := by kernel_rfl
  t5 := Tryz.underlying5
  a5 := Tryz.isAgg5
  z5 := Tryz.sizeOf5
  v5 := Tryz.zeroValue5
  infoByte := by kernel_rfl
  cellsByte := by kernel_rfl
  sizeByte := by kernel_rfl
  neB5 := by decide }
open Go.RowKit in
theorem Tryz.strings_Join_none (a : Option Addr) (c : Nat) (sep : ByteArray) (w : World) :
    Calls Tryz.prog 92 #[.slice a 0 c, .string sep] w fun e w' => e = .returned (.string ⟨#[]⟩) ∧ w' = w := Any.strings_Join_none Tryz.lays156 Tryz.Builder_Extra_156 a c sep w
open Go.RowKit in
theorem Tryz.strings_Join (bk o c : Nat) (xs : List ByteArray) (sep : ByteArray) (w : World) (hcells : ∀ (j : Nat) x, xs[j]? = some x → w.cell? ⟨bk, o + j, none⟩ = some (.string x)) (hbk : bk < w.heap.size) (hN : xs.length ≤ 140737488355328) (hcap : xs.length ≤ c) (hlen : (Lib.join (xs.map (·.data.toList)) sep.data.toList).length ≤ 140737488355328) :
    Calls Tryz.prog 92 #[.slice (some ⟨bk, o, none⟩) xs.length c, .string sep] w fun e w' => e = .returned (.string ⟨(Lib.join (xs.map (·.data.toList)) sep.data.toList).toArray⟩) ∧ Below w.heap.size w w' := Any.strings_Join Tryz.lays156 Tryz.Builder_Extra_156 bk o c xs sep w hcells hbk hN hcap hlen
open Go.RowKit in
open Go.RowKit in
open Go.RowKit in
open Go.RowKit in
open Go.RowKit in
open Go.RowKit in
open Go.RowKit in
open Go.RowKit in
open Go.RowKit in
open Go.Lib in
open Go.Lib in
open Go.Lib in
open Go.Lib in
open Go.RowKit Go.Sort Go.Lib in
open Go.RowKit Go.Sort Go.Lib in
open Go.RowKit Go.Sort Go.Lib in
open Go.RowKit Go.Sort Go.Lib in
open Go.RowKit Go.Sort Go.Lib in
def Tryz.laysM171_ren : Go.Shelf.Ren := ⟨fun | 171 => 56 | 243 => 93 | 246 => 116 | 283 => 130 | 284 => 131 | 285 => 132 | 286 => 133 | 129 => 147 | 317 => 146 | 318 => 148 | 319 => 149 | 320 => 150 | 337 => 155 | 338 => 156 | n => n, fun | 3 => 3 | 9 => 9 | 2 => 2 | 4 => 4 | 171 => 212 | 0 => 0 | 53 => 213 | 37 => 136 | 5 => 5 | 173 => 216 | 212 => 232 | 51 => 233 | 20 => 20 | 213 => 234 | 46 => 160 | 232 => 240 | 233 => 241 | n => n, fun | 17 => 8 | 18 => 9 | 19 => 10 | n => n⟩
theorem Tryz.laysM171 : Go.Proofs.LaysM.n171 Tryz.prog Tryz.laysM171_ren := {
  mixed := by kernel_rfl
  f129 := Tryz.func147.trans (congrArg some (by kernel_rfl))
  f171 := Tryz.func56.trans (congrArg some (by kernel_rfl))
  f243 := Tryz.func93.trans (congrArg some (by kernel_rfl))
  f246 := Tryz.func116.trans (congrArg some (by kernel_rfl))
  f283 := Tryz.func130.trans (congrArg some (by kernel_rfl))
  f284 := Tryz.func131.trans (congrArg some (by kernel_rfl))
  f285 := Tryz.func132.trans (congrArg some (by kernel_rfl))
  f286 := Tryz.func133.trans (congrArg some (by kernel_rfl))
  f317 := Tryz.func146.trans (congrArg some (by kernel_rfl))
  f318 := Tryz.func148.trans (congrArg some (by kernel_rfl))
  f319 := Tryz.func149.trans (congrArg some (by kernel_rfl))
  f320 := Tryz.func150.trans (congrArg some (by kernel_rfl))
  f337 := Tryz.func155.trans (congrArg some (by kernel_rfl))
  f338 := Tryz.func156.trans (congrArg some (by kernel_rfl))
  t0 := Tryz.underlying0
  a0 := Tryz.isAgg0
  z0 := Tryz.sizeOf0
  v0 := Tryz.zeroValue0
  t2 := Tryz.underlying2
  a2 := Tryz.isAgg2
  z2 := Tryz.sizeOf2
  v2 := Tryz.zeroValue2
  t3 := Tryz.underlying3
  a3 := Tryz.isAgg3
  z3 := Tryz.sizeOf3
  v3 := Tryz.zeroValue3
  t4 := Tryz.underlying4
  a4 := Tryz.isAgg4
  z4 := Tryz.sizeOf4
  v4 := Tryz.zeroValue4
  t5 := Tryz.underlying5
  a5 := Tryz.isAgg5
  z5 := Tryz.sizeOf5
  v5 := Tryz.zeroValue5
  t9 := Tryz.underlying9
  a9 := Tryz.isAgg9
  z9 := Tryz.sizeOf9
  v9 := Tryz.zeroValue9
  t20 := Tryz.underlying20
  a20 := Tryz.isAgg20
  z20 := Tryz.sizeOf20
  v20 := Tryz.zeroValue20
  t37 := Tryz.underlying136
  a37 := Tryz.isAgg136
  z37 := Tryz.sizeOf136
  v37 := Tryz.zeroValue136
  t46 := Tryz.underlying160
  a46 := Tryz.isAgg160
  z46 := Tryz.sizeOf160
  v46 := Tryz.zeroValue160
  t51 := Tryz.underlying233
  a51 := Tryz.isAgg233
  z51 := Tryz.sizeOf233
  v51 := Tryz.zeroValue233
  t53 := Tryz.underlying213
  a53 := Tryz.isAgg213
  z53 := Tryz.sizeOf213
  v53 := Tryz.zeroValue213
  t171 := Tryz.underlying212
  a171 := Tryz.isAgg212
  z171 := Tryz.sizeOf212
  v171 := Tryz.zeroValue212
  t173 := Tryz.underlying216
  a173 := Tryz.isAgg216
  z173 := Tryz.sizeOf216
  v173 := Tryz.zeroValue216
  t212 := Tryz.underlying232
  a212 := Tryz.isAgg232
  z212 := Tryz.sizeOf232
  v212 := Tryz.zeroValue232
  t213 := Tryz.underlying234
  a213 := Tryz.isAgg234
  z213 := Tryz.sizeOf234
  t232 := Tryz.underlying240
  a232 := Tryz.isAgg240
  z232 := Tryz.sizeOf240
  v232 := Tryz.zeroValue240
  t233 := Tryz.underlying241
  a233 := Tryz.isAgg241
  z233 := Tryz.sizeOf241
  v233 := Tryz.zeroValue241
  g17 := by kernel_rfl
  g18 := by kernel_rfl
  g19 := by kernel_rfl
  i0 := by kernel_rfl
  i2 := by kernel_rfl
  i3 := by kernel_rfl
  i4 := by kernel_rfl
  i5 := by kernel_rfl
  i9 := by kernel_rfl
  i20 := by kernel_rfl
  i37 := by kernel_rfl
  i46 := by kernel_rfl
  i51 := by kernel_rfl
  i53 := by kernel_rfl
  i171 := by kernel_rfl
  i173 := by kernel_rfl
  i212 := by kernel_rfl
  i232 := by kernel_rfl
  i233 := by kernel_rfl
  m17 := by kernel_rfl
  m18 := by kernel_rfl
  m19 := by kernel_rfl }
open Go.RowKit Go.Sort Go.Lib in
theorem Tryz.strconv_Itoa (n : Int) (h0 : -9223372036854775808 ≤ n) (h1 : n ≤ 9223372036854775807) (w : World) (htab : Lib.TabIs Tryz.prog w "internal/strconv.uint64pow10" .u64 Lib.pow10Tab) :
    Calls Tryz.prog 56 #[.int .i64 n] w fun e w' => e = .returned (.string ⟨(Lib.itoa n).toArray⟩) ∧ ∃ k os, w' = grow (w.drewN k) os := Any.strconv_Itoa Tryz.laysM171 n h0 h1 w htab
open Go.RowKit Go.Sort Go.Lib in
open Go.RowKit Go.Lib in
open Go.RowKit Go.Lib in
open Go.RowKit Go.Lib in
open Go.RowKit Go.Lib in
open Go.RowKit Go.Lib in
open Go.RowKit Go.Lib in
def Tryz.lays145_ren : Go.Shelf.Ren := ⟨fun | 145 => 61 | 220 => 99 | 219 => 124 | 217 => 140 | 225 => 141 | 224 => 142 | 267 => 143 | 266 => 153 | 314 => 154 | n => n, fun | 9 => 9 | 4 => 4 | 59 => 77 | 3 => 3 | 5 => 5 | 46 => 160 | 146 => 237 | 51 => 233 | n => n, fun | 1 => 7 | n => n⟩
theorem Tryz.lays145 : Go.Proofs.Lays.n145 Tryz.prog Tryz.lays145_ren := {
  mixed := by kernel_rfl
  f145 := Tryz.func61.trans (congrArg some (by kernel_rfl))
  f217 := Tryz.func140.trans (congrArg some (by kernel_rfl))
  f219 := Tryz.func124.trans (congrArg some (by kernel_rfl))
  f220 := Tryz.func99.trans (congrArg some (by kernel_rfl))
  f224 := Tryz.func142.trans (congrArg some (by kernel_rfl))
  f225 := Tryz.func141.trans (congrArg some (by kernel_rfl))
  f266 := Tryz.func153.trans (congrArg some (by kernel_rfl))
  f267 := Tryz.func143.trans (congrArg some (by kernel_rfl))
  f314 := Tryz.func154.trans (congrArg some (by kernel_rfl))
  t3 := Tryz.underlying3
  a3 := Tryz.isAgg3
  z3 := Tryz.sizeOf3
  v3 := Tryz.zeroValue3
  t4 := Tryz.underlying4
  a4 := Tryz.isAgg4
  z4 := Tryz.sizeOf4
  v4 := Tryz.zeroValue4
  t5 := Tryz.underlying5
  a5 := Tryz.isAgg5
  z5 := Tryz.sizeOf5
  v5 := Tryz.zeroValue5
  t9 := Tryz.underlying9
  a9 := Tryz.isAgg9
  z9 := Tryz.sizeOf9
  v9 := Tryz.zeroValue9
  t46 := Tryz.underlying160
  a46 := Tryz.isAgg160
  z46 := Tryz.sizeOf160
  v46 := Tryz.zeroValue160
  t51 := Tryz.underlying233
  a51 := Tryz.isAgg233
  z51 := Tryz.sizeOf233
  v51 := Tryz.zeroValue233
  t59 := Tryz.underlying77
  a59 := Tryz.isAgg77
  z59 := Tryz.sizeOf77
  v59 := Tryz.zeroValue77
  t146 := Tryz.underlying237
  a146 := Tryz.isAgg237
  z146 := Tryz.sizeOf237
  v146 := Tryz.zeroValue237
  g1 := by kernel_rfl }
open Go.RowKit Go.Lib in
theorem Tryz.strings_Cut (s sep : ByteArray) (m : Int) (w : World) (hs : s.size < 4294967281) (hm : w.cell? ⟨7, 0, none⟩ = some (.int .i64 m)) :
    Calls Tryz.prog 61 #[.string s, .string sep] w fun e w' => e = .returned (.tuple #[.string ⟨(Lib.cut s.data.toList sep.data.toList).1.toArray⟩, .string ⟨(Lib.cut s.data.toList sep.data.toList).2.1.toArray⟩, .bool (Lib.cut s.data.toList sep.data.toList).2.2]) ∧ ∃ n, w' = w.drewN n := Any.strings_Cut Tryz.lays145 s sep m w hs hm
def Tryz.laysM145_ren : Go.Shelf.Ren := ⟨fun | 145 => 61 | 220 => 99 | 219 => 124 | 217 => 140 | 225 => 141 | 224 => 142 | 267 => 143 | 266 => 153 | 314 => 154 | n => n, fun | 9 => 9 | 4 => 4 | 59 => 77 | 3 => 3 | 5 => 5 | 46 => 160 | 146 => 237 | 51 => 233 | n => n, fun | 1 => 7 | n => n⟩
theorem Tryz.laysM145 : Go.Proofs.LaysM.n145 Tryz.prog Tryz.laysM145_ren := {
  mixed := by kernel_rfl
  f145 := Tryz.func61.trans (congrArg some (by kernel_rfl))
  f217 := Tryz.func140.trans (congrArg some (by kernel_rfl))
  f219 := Tryz.func124.trans (congrArg some (by kernel_rfl))
  f220 := Tryz.func99.trans (congrArg some (by kernel_rfl))
  f224 := Tryz.func142.trans (congrArg some (by kernel_rfl))
  f225 := Tryz.func141.trans (congrArg some (by kernel_rfl))
  f266 := Tryz.func153.trans (congrArg some (by kernel_rfl))
  f267 := Tryz.func143.trans (congrArg some (by kernel_rfl))
  f314 := Tryz.func154.trans (congrArg some (by kernel_rfl))
  t3 := Tryz.underlying3
  a3 := Tryz.isAgg3
  z3 := Tryz.sizeOf3
  v3 := Tryz.zeroValue3
  t4 := Tryz.underlying4
  a4 := Tryz.isAgg4
  z4 := Tryz.sizeOf4
  v4 := Tryz.zeroValue4
  t5 := Tryz.underlying5
  a5 := Tryz.isAgg5
  z5 := Tryz.sizeOf5
  v5 := Tryz.zeroValue5
  t9 := Tryz.underlying9
  a9 := Tryz.isAgg9
  z9 := Tryz.sizeOf9
  v9 := Tryz.zeroValue9
  t46 := Tryz.underlying160
  a46 := Tryz.isAgg160
  z46 := Tryz.sizeOf160
  v46 := Tryz.zeroValue160
  t51 := Tryz.underlying233
  a51 := Tryz.isAgg233
  z51 := Tryz.sizeOf233
  v51 := Tryz.zeroValue233
  t59 := Tryz.underlying77
  a59 := Tryz.isAgg77
  z59 := Tryz.sizeOf77
  v59 := Tryz.zeroValue77
  t146 := Tryz.underlying237
  a146 := Tryz.isAgg237
  z146 := Tryz.sizeOf237
  v146 := Tryz.zeroValue237
  g1 := by kernel_rfl
  i3 := by kernel_rfl
  i4 := by kernel_rfl
  i5 := by kernel_rfl
  i9 := by kernel_rfl
  i46 := by kernel_rfl
  i51 := by kernel_rfl
  i59 := by kernel_rfl
  i146 := by kernel_rfl
  m1 := by kernel_rfl
  s1_3 := fun w h => Go.Proofs.cell_of_shapedOpen_int (zero := #[.int .i64 0]) (t := 3) h (of_decide_eq_true (by kernel_rfl)) (by kernel_rfl) rfl (by kernel_rfl) (by kernel_rfl) Tryz.underlying3 }
def Tryz.laysGu47_ren : Go.Shelf.Ren := ⟨fun | 47 => 178 | n => n, fun | 24 => 105 | 3 => 3 | 0 => 0 | n => n, fun | n => n⟩
theorem Tryz.laysGu47 : Go.Proofs.LaysGu.n47 Tryz.prog Tryz.laysGu47_ren := {
  mixed := by kernel_rfl
  f47 := Tryz.func178.trans (congrArg some (by kernel_rfl))
  t0 := Tryz.underlying0
  a0 := Tryz.isAgg0
  z0 := Tryz.sizeOf0
  v0 := Tryz.zeroValue0
  i0 := by kernel_rfl
  t3 := Tryz.underlying3
  a3 := Tryz.isAgg3
  z3 := Tryz.sizeOf3
  v3 := Tryz.zeroValue3
  i3 := by kernel_rfl
  t24 := Tryz.underlying105
  a24 := Tryz.isAgg105
  z24 := Tryz.sizeOf105
  v24 := Tryz.zeroValue105
  i24 := by kernel_rfl }
open Go.RowKit Go.Lib Go.Sort in
theorem Tryz.IntSlice_Swap (blk off c size : Nat) (W : World) (x y : Int) (i j : Nat) (hi : i < size) (hj : j < size) (_hsz : size < 4611686018427387904) (ci : W.cell? ⟨blk, off + i, none⟩ = some (.int .i64 x)) (cj : W.cell? ⟨blk, off + j, none⟩ = some (.int .i64 y)) (fi : W.frozen? ⟨blk, off + i, none⟩ = false) (fj : W.frozen? ⟨blk, off + j, none⟩ = false) :
    Calls Tryz.prog 178 #[.slice (some ⟨blk, off, none⟩) size c, .int .i64 i, .int .i64 j] W fun e w' => e = .returned (.tuple #[]) ∧ ∃ q, w' = ((W.setCell ⟨blk, off + i, none⟩ (.int .i64 y)).setCell ⟨blk, off + j, none⟩ (.int .i64 x)).drewN q := Any.IntSlice_Swap Tryz.laysGu47 blk off c size W x y i j hi hj _hsz ci cj fi fj
end Go.Proofs

namespace Go.Proofs.YtnblakihpoacjaaGreatDoor.Jd
open Go.Proofs
open Go.RowKit (Below)
set_option linter.unusedVariables false
set_option linter.unusedSimpArgs false
/-- What the library's variables hold where a call begins. -/
structure Gl (w : World) : Prop where
  mx : ∃ m, w.cell? ⟨7, 0, none⟩ = some (.int .i64 m)
  p10 : Lib.TabIs Tryz.prog w "internal/strconv.uint64pow10" .u64 Lib.pow10Tab
  ety : w.cell? ⟨6, 0, none⟩ = some (.iface 175 (.agg #[.pointer (some ⟨11, 57, none⟩)]))
theorem var_ext {w w' : World} (he : Ext w w') {name : String} {cs : Array Value} (h : w.var? Tryz.prog name = some cs) : w'.var? Tryz.prog name = some cs := by
  unfold World.var? at *
  cases hg : Tryz.prog.globalNamed name with
  | none => rw [hg] at h; cases h
  | some b =>
    rw [hg] at h
    simp only [Option.bind_some] at h ⊢
    cases hb : w.heap[b]? with
    | none => rw [hb] at h; cases h
    | some ob =>
      rw [he.block b (Array.getElem?_eq_some_iff.1 hb).1]
      exact h
theorem cell_ext {w w' : World} (he : Ext w w') {k : Nat} (h : ∃ m, w.cell? ⟨k, 0, none⟩ = some (.int .i64 m)) : ∃ m, w'.cell? ⟨k, 0, none⟩ = some (.int .i64 m) := by
  obtain ⟨m, hm⟩ := h
  refine ⟨m, ?_⟩
  have hlt := World.block_lt_of_cell? w _ hm
  simp only [World.cell?] at hm ⊢
  rw [he.block _ hlt]
  exact hm
theorem cell_ext2 {w w' : World} (he : Ext w w') {a : Addr} {v : Value} (h : w.cell? a = some v) : w'.cell? a = some v := by
  have hlt := World.block_lt_of_cell? w _ h
  simp only [World.cell?] at h ⊢
  rw [he.block _ hlt]
  exact h
theorem Gl.ext {w w' : World} (h : Gl w) (he : Ext w w') : Gl w' := ⟨cell_ext he h.mx, var_ext he h.p10, cell_ext2 he h.ety⟩
theorem ext_drewN (w : World) (n : Nat) : Ext w (w.drewN n) := ⟨rfl, rfl, rfl, Nat.le_refl _, fun _ _ => rfl⟩
theorem ext_grow (w : World) (os : Array Obj) : Ext w (Sort.grow w os) := ⟨rfl, rfl, rfl, by simp [Sort.grow], fun k hk => by
  simp only [Sort.grow]
  exact Array.getElem?_append_left hk⟩
theorem bs_data (s : Str) : (bs s).data.toList = s := by simp [bs]
theorem Cut_ok (w : World) {s sep : Str} (hG : Gl w) (hn : s.length ≤ 4000000000) : Val Tryz.prog 61 [.string (bs s), .string (bs sep)] w (.tuple [.string (bs (Lib.cut s sep).1), .string (bs (Lib.cut s sep).2.1), .bool (Lib.cut s sep).2.2].toArray) := by
  obtain ⟨m, hm⟩ := hG.mx
  refine (Tryz.strings_Cut (bs s) (bs sep) m w (by rw [bs_size]; omega) hm).mono fun e w' ⟨he, n, hw⟩ => ⟨?_, hw ▸ ext_drewN w n⟩
  rw [he, bs_data, bs_data]; rfl

theorem Itoa_ok (w : World) {n : Int} (hG : Gl w) (hn : -9223372036854775808 ≤ n ∧ n ≤ 9223372036854775807) : Val Tryz.prog 56 [.int .i64 n] w (.string (bs (Lib.itoa n))) := by
  refine (Tryz.strconv_Itoa n hn.1 hn.2 w hG.p10).mono fun e w' ⟨he, k, os, hw⟩ => ⟨he, ?_⟩
  subst hw
  exact (ext_drewN w k).trans ((ext_grow _ os).mono (by simp))

theorem Join_ok (w : World) {a : Option Addr} {c : Nat} {xs : List Str} {sep : Str} (h_xs : Sl w eS 1 a xs) (hc : xs.length ≤ c) (hn : xs.length ≤ 1000000) (hl : (Lib.join xs sep).length ≤ 1000000) : Val Tryz.prog 92 [.slice a xs.length c, .string (bs sep)] w (.string (bs (Lib.join xs sep))) := by
  by_cases hx : xs = []
  · subst hx
    refine (Tryz.strings_Join_none a c (bs sep) w).mono fun e w' ⟨he, hw⟩ => ⟨he, hw ▸ Below.refl _ _⟩
  · obtain ⟨x0, hx0⟩ : ∃ x, xs[0]? = some x := by cases xs with
      | nil => exact absurd rfl hx
      | cons x r => exact ⟨x, rfl⟩
    obtain ⟨b, off, rfl, _, hc0⟩ := h_xs 0 x0 hx0
    have hb : b < w.heap.size := World.block_lt_of_cell? w _ (hc0 0 _ rfl)
    have hm : (xs.map bs).map (fun x : ByteArray => x.data.toList) = xs := by
      rw [List.map_map]
      conv => rhs; rw [← List.map_id xs]
      exact List.map_congr_left fun x _ => bs_data x
    have := Tryz.strings_Join b off c (xs.map bs) (bs sep) w (fun j x hj => by
      rw [List.getElem?_map] at hj
      cases hy : xs[j]? with
      | none => rw [hy] at hj; cases hj
      | some y =>
        rw [hy] at hj; cases hj
        obtain ⟨b', off', he, _, hcj⟩ := h_xs j y hy
        cases he
        have := hcj 0 _ rfl
        simpa using this) hb (by rw [List.length_map]; omega) (by rw [List.length_map]; exact hc) (by rw [hm, bs_data]; omega)
    rw [List.length_map] at this
    refine this.mono fun e w' ⟨he, hw⟩ => ⟨?_, hw⟩
    rw [he, hm, bs_data]; rfl

end Go.Proofs.YtnblakihpoacjaaGreatDoor.Jd

namespace Go.Proofs.YtnblakihpoacjaaGreatDoor.Jd
open Go.Proofs
set_option maxRecDepth 100000
open Go.RowKit Go.Extern.Stop Go.Stop Go.Extern
set_option linter.unusedVariables false
set_option linter.unusedSimpArgs false
theorem isTypeOf (v : Value) (w : World) : (Extern.ReflectliteType.typeOf #[.iface 242 v]).run Tryz.prog w = .ok (.iface 175 (.agg #[.pointer (some ⟨11, 242, none⟩)])) w := by kernel_rfl
theorem isComparable (w : World) : ((Extern.ReflectliteType.method fun t => do Extern.Rtype.noPackHeld "Comparable" t; pure (.bool (← typeInfo t).comparable)) #[.agg #[.pointer (some ⟨11, 242, none⟩)]]).run Tryz.prog w = .ok (.bool true) w := by kernel_rfl
theorem isMethodComparable (v : Value) (w : World) : (Go.method 373 175 v "Comparable").run Tryz.prog w = .ok (184, v) w := by kernel_rfl
theorem isComp : (Tryz.prog.info? 242).map (·.comparable) = some true := by kernel_rfl
theorem isSize : (Tryz.prog.info? 261).map (·.size) = some 1 := by kernel_rfl
theorem noIsE (v : Value) (xT : TypeId) (w : World) : (Instr.typeAssert (.iface 242 v) xT 177 true).run Tryz.prog w = .ok (.tuple #[.nilIface, .bool false]) w := run_typeAssert_lacksB Tryz.underlying177 (by kernel_rfl) (by kernel_rfl) v xT w
theorem noUnwrapE (v : Value) (xT : TypeId) (w : World) : (Instr.typeAssert (.iface 242 v) xT 180 true).run Tryz.prog w = .ok (.tuple #[.nilIface, .bool false]) w := run_typeAssert_lacksB Tryz.underlying180 (by kernel_rfl) (by kernel_rfl) v xT w
theorem noUnwrapsE (v : Value) (xT : TypeId) (w : World) : (Instr.typeAssert (.iface 242 v) xT 182 true).run Tryz.prog w = .ok (.tuple #[.nilIface, .bool false]) w := run_typeAssert_lacksB Tryz.underlying182 (by kernel_rfl) (by kernel_rfl) v xT w
theorem is_same (a : Addr) (w : World) :
    Calls Tryz.prog 54 #[.iface 242 (.pointer (some a)), .iface 242 (.pointer (some a))] w fun e w' => e = .returned (.bool true) ∧ w' = w := by
  obtain ⟨i, hi, hcmp⟩ := Option.map_eq_some_iff.1 isComp
  obtain ⟨j, hj, hjs⟩ := Option.map_eq_some_iff.1 isSize
  have h8 := @run_callFunc_extern Tryz.prog 88 _ Extern.ReflectliteType.typeOf Tryz.func88 (by kernel_rfl) (by kernel_rfl) (by kernel_rfl) (by kernel_rfl)
  have h32 := fun w => (@run_callFunc_extern Tryz.prog 184 _ (Extern.ReflectliteType.method fun t => do Extern.Rtype.noPackHeld "Comparable" t; pure (.bool (← typeInfo t).comparable)) Tryz.func184 (by kernel_rfl) (by kernel_rfl) (by kernel_rfl) (by kernel_rfl) #[.agg #[.pointer (some ⟨11, 242, none⟩)]] w).trans (by rw [isComparable]; rfl : _ = Result.ok (Next.value (.bool true)) w)
  have tT := isTypeOf
  have mR := isMethodComparable
  have heq := run_eql_iface_ptr_same (P := Tryz.prog) w a Tryz.underlying57 Tryz.underlying242 hi hcmp hj
  go_enter Tryz.func54, Tryz.ntmps54
  go_wp2
  refine wp_loop_rounds 1 ?_
  rw [rounds_succ]
  go_wp2
  go_ret
  exact ⟨rfl, rfl⟩
theorem is_other (a b : Addr) (ca cb : Array Value) (ta tb : TypeId) (w : World) (hne : a ≠ b) (ha : w.heap[a.block]? = some (.cells ca ta (0, 0))) (hb : w.heap[b.block]? = some (.cells cb tb (0, 0))) :
    Calls Tryz.prog 54 #[.iface 242 (.pointer (some a)), .iface 242 (.pointer (some b))] w fun e w' => e = .returned (.bool false) ∧ w' = w := by
  obtain ⟨i, hi, hcmp⟩ := Option.map_eq_some_iff.1 isComp
  obtain ⟨j, hj, hjs⟩ := Option.map_eq_some_iff.1 isSize
  have h8 := @run_callFunc_extern Tryz.prog 88 _ Extern.ReflectliteType.typeOf Tryz.func88 (by kernel_rfl) (by kernel_rfl) (by kernel_rfl) (by kernel_rfl)
  have h32 := fun w => (@run_callFunc_extern Tryz.prog 184 _ (Extern.ReflectliteType.method fun t => do Extern.Rtype.noPackHeld "Comparable" t; pure (.bool (← typeInfo t).comparable)) Tryz.func184 (by kernel_rfl) (by kernel_rfl) (by kernel_rfl) (by kernel_rfl) #[.agg #[.pointer (some ⟨11, 242, none⟩)]] w).trans (by rw [isComparable]; rfl : _ = Result.ok (Next.value (.bool true)) w)
  have tT := isTypeOf
  have mR := isMethodComparable
  have nE := noIsE
  have uE := noUnwrapE
  have vE := noUnwrapsE
  have heq := run_eql_iface_ptr_other (P := Tryz.prog) w Tryz.underlying57 Tryz.underlying242 hi hcmp hj (by rw [hjs]; decide) hne ha hb
  go_enter Tryz.func54, Tryz.ntmps54
  go_wp2
  refine wp_loop_rounds 1 ?_
  rw [rounds_succ]
  go_wp2
  go_ret
  exact ⟨rfl, rfl⟩
theorem is_same_v (w : World) {a : Addr} : Val Tryz.prog 54 [.iface 242 (.pointer (some a)), .iface 242 (.pointer (some a))] w (.bool true) :=
  (is_same a w).mono fun e w' ⟨he, hw⟩ => ⟨he, hw ▸ Below.refl _ _⟩
theorem is_other_v (w : World) {a b : Addr} (hne : a ≠ b) (ha : ∃ c t, w.heap[a.block]? = some (.cells c t (0, 0))) (hb : ∃ c t, w.heap[b.block]? = some (.cells c t (0, 0))) : Val Tryz.prog 54 [.iface 242 (.pointer (some a)), .iface 242 (.pointer (some b))] w (.bool false) := by
  obtain ⟨ca, ta, ha⟩ := ha
  obtain ⟨cb, tb, hb⟩ := hb
  exact (is_other a b ca cb ta tb w hne ha hb).mono fun e w' ⟨he, hw⟩ => ⟨he, hw ▸ Below.refl _ _⟩

/-- What the sentinels hold where a call begins. -/
structure Er (w : World) (ea0 ea1 ea2 ea3 ea4 ea5 : Addr) : Prop where
  v0 : ∃ T f, w.heap[4]? = some (Obj.cells [Value.iface 242 (.pointer (some ea0))].toArray T f)
  b0 : ∃ c t, w.heap[ea0.block]? = some (.cells c t (0, 0))
  v1 : ∃ T f, w.heap[5]? = some (Obj.cells [Value.iface 242 (.pointer (some ea1))].toArray T f)
  b1 : ∃ c t, w.heap[ea1.block]? = some (.cells c t (0, 0))
  v2 : ∃ T f, w.heap[1]? = some (Obj.cells [Value.iface 242 (.pointer (some ea2))].toArray T f)
  b2 : ∃ c t, w.heap[ea2.block]? = some (.cells c t (0, 0))
  v3 : ∃ T f, w.heap[0]? = some (Obj.cells [Value.iface 242 (.pointer (some ea3))].toArray T f)
  b3 : ∃ c t, w.heap[ea3.block]? = some (.cells c t (0, 0))
  v4 : ∃ T f, w.heap[2]? = some (Obj.cells [Value.iface 242 (.pointer (some ea4))].toArray T f)
  b4 : ∃ c t, w.heap[ea4.block]? = some (.cells c t (0, 0))
  v5 : ∃ T f, w.heap[3]? = some (Obj.cells [Value.iface 242 (.pointer (some ea5))].toArray T f)
  b5 : ∃ c t, w.heap[ea5.block]? = some (.cells c t (0, 0))
  n0_1 : ea0 ≠ ea1
  n0_2 : ea0 ≠ ea2
  n0_3 : ea0 ≠ ea3
  n0_4 : ea0 ≠ ea4
  n0_5 : ea0 ≠ ea5
  n1_0 : ea1 ≠ ea0
  n1_2 : ea1 ≠ ea2
  n1_3 : ea1 ≠ ea3
  n1_4 : ea1 ≠ ea4
  n1_5 : ea1 ≠ ea5
  n2_0 : ea2 ≠ ea0
  n2_1 : ea2 ≠ ea1
  n2_3 : ea2 ≠ ea3
  n2_4 : ea2 ≠ ea4
  n2_5 : ea2 ≠ ea5
  n3_0 : ea3 ≠ ea0
  n3_1 : ea3 ≠ ea1
  n3_2 : ea3 ≠ ea2
  n3_4 : ea3 ≠ ea4
  n3_5 : ea3 ≠ ea5
  n4_0 : ea4 ≠ ea0
  n4_1 : ea4 ≠ ea1
  n4_2 : ea4 ≠ ea2
  n4_3 : ea4 ≠ ea3
  n4_5 : ea4 ≠ ea5
  n5_0 : ea5 ≠ ea0
  n5_1 : ea5 ≠ ea1
  n5_2 : ea5 ≠ ea2
  n5_3 : ea5 ≠ ea3
  n5_4 : ea5 ≠ ea4
theorem keep_row {w w' : World} (he : Ext w w') {k : Nat} {ob : Obj} (h : w.heap[k]? = some ob) : w'.heap[k]? = some ob := by rw [he.block k (Array.getElem?_eq_some_iff.1 h).1]; exact h
theorem Er.ext {w w' : World} {ea0 ea1 ea2 ea3 ea4 ea5 : Addr} (h : Er w ea0 ea1 ea2 ea3 ea4 ea5) (he : Ext w w') : Er w' ea0 ea1 ea2 ea3 ea4 ea5 :=
  ⟨h.v0.imp fun T h => h.imp fun f h => keep_row he h, h.b0.imp fun T h => h.imp fun f h => keep_row he h, h.v1.imp fun T h => h.imp fun f h => keep_row he h, h.b1.imp fun T h => h.imp fun f h => keep_row he h, h.v2.imp fun T h => h.imp fun f h => keep_row he h, h.b2.imp fun T h => h.imp fun f h => keep_row he h, h.v3.imp fun T h => h.imp fun f h => keep_row he h, h.b3.imp fun T h => h.imp fun f h => keep_row he h, h.v4.imp fun T h => h.imp fun f h => keep_row he h, h.b4.imp fun T h => h.imp fun f h => keep_row he h, h.v5.imp fun T h => h.imp fun f h => keep_row he h, h.b5.imp fun T h => h.imp fun f h => keep_row he h, h.n0_1, h.n0_2, h.n0_3, h.n0_4, h.n0_5, h.n1_0, h.n1_2, h.n1_3, h.n1_4, h.n1_5, h.n2_0, h.n2_1, h.n2_3, h.n2_4, h.n2_5, h.n3_0, h.n3_1, h.n3_2, h.n3_4, h.n3_5, h.n4_0, h.n4_1, h.n4_2, h.n4_3, h.n4_5, h.n5_0, h.n5_1, h.n5_2, h.n5_3, h.n5_4⟩
end Go.Proofs.YtnblakihpoacjaaGreatDoor.Jd

namespace Go.Proofs.YtnblakihpoacjaaGreatDoor.Jd
open Go.Proofs
open Go.RowKit (Below)
set_option maxRecDepth 100000
set_option linter.unusedVariables false
set_option linter.unusedSimpArgs false
structure Prefix where
  addr : Int
  bits : Int
instance : Inhabited Prefix := ⟨⟨default, default⟩⟩
instance : DecidableEq Prefix := fun a b => decidable_of_iff (a.addr = b.addr ∧ a.bits = b.bits) ⟨fun h => by cases a; cases b; simp_all, fun h => by subst h; simp⟩
def rIsAddr (a : Int) : Bool := (if 0 ≤ a then decide (a ≤ 4294967295) else false)
def isAddr (a : Int) : Bool := (if 0 ≤ a then decide (a ≤ 4294967295) else false)
def rSize (bits : Int) : Int := (shlI .i64 1 (32 - bits))
def rRight (p : Prefix) : Bool := (if 0 ≤ p.bits then (if p.bits ≤ 32 then (if (rIsAddr p.addr) = true then decide ((p.addr % (rSize p.bits)) = 0) else false) else false) else false)
def rHas (p : Prefix) (a : Int) : Bool := (if (rRight p) = true then (if (rIsAddr a) = true then (if p.addr ≤ a then decide (a < (p.addr + (rSize p.bits))) else false) else false) else false)
def aRest (p : Prefix) : Int := ((shlI .i64 1 (32 - p.bits)) - 1)
def aShort (p : Prefix) : Bool := (if 0 ≤ p.bits then (if p.bits ≤ 32 then (isAddr p.addr) else false) else false)
def aEven (p : Prefix) : Bool := decide ((andI .i64 p.addr (aRest p)) = 0)
def aRight (p : Prefix) : Bool := (if (!(aShort p)) = true then false else (if (!(aEven p)) = true then false else true))
def aHas (p : Prefix) (a : Int) : Bool := (if (aRight p) = true then (if (isAddr a) = true then decide ((andNotI .i64 a (aRest p)) = p.addr) else false) else false)
def aPrint (a : Int) : Str × Int := (if (!(isAddr a)) = true then (([] : Str), 60) else ((Lib.join (((([(Lib.itoa (andI .i64 (shrI .i64 a 24) 255))] : List Str) ++ ([(Lib.itoa (andI .i64 (shrI .i64 a 16) 255))] : List Str)) ++ ([(Lib.itoa (andI .i64 (shrI .i64 a 8) 255))] : List Str)) ++ ([(Lib.itoa (andI .i64 (shrI .i64 a 0) 255))] : List Str)) ([46] : Str)), 0))
def aNumber_l0 (t : Str) (most : Int) : Nat → Int → Nat → Except (Int × Bool) (Int × Nat)
  | 0, n_1, x_2 => .ok (n_1, x_2)
  | n_3 + 1, n_1, x_2 => (if x_2 < t.length then (if (((dec t x_2).1 : Nat) : Int) < 48 then .error (0, false) else (if 57 < (((dec t x_2).1 : Nat) : Int) then .error (0, false) else (if most < n_1 then .error (0, false) else (aNumber_l0 t most n_3 ((n_1 * 10) + ((((dec t x_2).1 : Nat) : Int) - 48)) (x_2 + (dec t x_2).2))))) else .ok (n_1, x_2))
def aNumber (t : Str) (most : Int) : Int × Bool := (outc2 (aNumber_l0 t most (t.length + 1) 0 0) (fun r => r) (fun n_1 x_2 => (if n_1 ≤ most then (n_1, decide ((Lib.itoa n_1) = t)) else (n_1, false))))
def aParse (s : Str) : Int × Int := (if ((aNumber ((Lib.cut s ([46] : Str)).1) 255).2) = true then (if (!((Lib.cut s ([46] : Str)).2.2 == true)) = true then (0, 60) else (if ((aNumber ((Lib.cut ((Lib.cut s ([46] : Str)).2.1) ([46] : Str)).1) 255).2) = true then (if (!((Lib.cut ((Lib.cut s ([46] : Str)).2.1) ([46] : Str)).2.2 == true)) = true then (0, 60) else (if ((aNumber ((Lib.cut ((Lib.cut ((Lib.cut s ([46] : Str)).2.1) ([46] : Str)).2.1) ([46] : Str)).1) 255).2) = true then (if (!((Lib.cut ((Lib.cut ((Lib.cut s ([46] : Str)).2.1) ([46] : Str)).2.1) ([46] : Str)).2.2 == true)) = true then (0, 60) else (if ((aNumber ((Lib.cut ((Lib.cut ((Lib.cut ((Lib.cut s ([46] : Str)).2.1) ([46] : Str)).2.1) ([46] : Str)).2.1) ([46] : Str)).1) 255).2) = true then (if (!((Lib.cut ((Lib.cut ((Lib.cut ((Lib.cut s ([46] : Str)).2.1) ([46] : Str)).2.1) ([46] : Str)).2.1) ([46] : Str)).2.2 == false)) = true then (0, 60) else ((orI .i64 (shlI .i64 (orI .i64 (shlI .i64 (orI .i64 (shlI .i64 (orI .i64 (shlI .i64 0 8) ((aNumber ((Lib.cut s ([46] : Str)).1) 255).1)) 8) ((aNumber ((Lib.cut ((Lib.cut s ([46] : Str)).2.1) ([46] : Str)).1) 255).1)) 8) ((aNumber ((Lib.cut ((Lib.cut ((Lib.cut s ([46] : Str)).2.1) ([46] : Str)).2.1) ([46] : Str)).1) 255).1)) 8) ((aNumber ((Lib.cut ((Lib.cut ((Lib.cut ((Lib.cut s ([46] : Str)).2.1) ([46] : Str)).2.1) ([46] : Str)).2.1) ([46] : Str)).1) 255).1)), 0)) else (0, 60))) else (0, 60))) else (0, 60))) else (0, 60))
def aPrintPrefix (p : Prefix) : Str × Int := (if (!(aRight p)) = true then (([] : Str), 61) else (((((aPrint p.addr).1) ++ ([47] : Str)) ++ (Lib.itoa p.bits)), 0))
def aParsePrefix (s : Str) : Prefix × Int := (if (!((aNumber ((Lib.cut s ([47] : Str)).2.1) 32).2)) = true then ((Prefix.mk 0 0), 61) else (if ((aParse ((Lib.cut s ([47] : Str)).1)).2) ≠ 0 then ((Prefix.mk 0 0), 61) else (if (!(aRight (Prefix.mk ((aParse ((Lib.cut s ([47] : Str)).1)).1) ((aNumber ((Lib.cut s ([47] : Str)).2.1) 32).1)))) = true then ((Prefix.mk 0 0), 61) else ((Prefix.mk ((aParse ((Lib.cut s ([47] : Str)).1)).1) ((aNumber ((Lib.cut s ([47] : Str)).2.1) 32).1)), 0))))
def rCut_l0 (s : Str) (c : Int) : Nat → Nat → Except (Str × Str × Bool) Nat
  | 0, i_1 => .ok (i_1)
  | n_2 + 1, i_1 => (if ((i_1 : Nat) : Int) < ((s.length : Nat) : Int) then (if (((s.getD i_1 default).toNat : Nat) : Int) = c then .error ((s.take i_1), (s.drop (i_1 + 1)), true) else (rCut_l0 s c n_2 (i_1 + 1))) else .ok (i_1))
def rCut (s : Str) (c : Int) : Str × Str × Bool := (outc1 (rCut_l0 s c (s.length + 1) 0) (fun r => r) (fun i_1 => (s, ([] : Str), false)))
def rNumber_l0 (s : Str) (most : Int) : Nat → Int → Nat → Except (Int × Bool) (Int × Nat)
  | 0, n_1, i_2 => .ok (n_1, i_2)
  | n_3 + 1, n_1, i_2 => (if ((i_2 : Nat) : Int) < ((s.length : Nat) : Int) then (if (((s.getD i_2 default).toNat : Nat) : Int) < 48 then .error (0, false) else (if 57 < (((s.getD i_2 default).toNat : Nat) : Int) then .error (0, false) else (if most < n_1 then .error (0, false) else (rNumber_l0 s most n_3 ((10 * n_1) + ((((s.getD i_2 default).toNat : Nat) : Int) - 48)) (i_2 + 1))))) else .ok (n_1, i_2))
def rNumber (s : Str) (most : Int) : Int × Bool := (outc2 (rNumber_l0 s most (s.length + 1) 0 0) (fun r => r) (fun n_1 i_2 => (if n_1 ≤ most then (n_1, decide ((Lib.itoa n_1) = s)) else (n_1, false))))
def rPrint (a : Int) : Str × Int := (if (!(rIsAddr a)) = true then (([] : Str), 60) else ((((((((Lib.itoa (a / 16777216)) ++ ([46] : Str)) ++ (Lib.itoa ((a / 65536) % 256))) ++ ([46] : Str)) ++ (Lib.itoa ((a / 256) % 256))) ++ ([46] : Str)) ++ (Lib.itoa (a % 256))), 0))
def rParse (s : Str) : Int × Int := (if (!((rNumber ((rCut s 46).1) 255).2)) = true then (0, 60) else (if (!(((rCut s 46).2.2) == true)) = true then (0, 60) else (if (!((rNumber ((rCut ((rCut s 46).2.1) 46).1) 255).2)) = true then (0, 60) else (if (!(((rCut ((rCut s 46).2.1) 46).2.2) == true)) = true then (0, 60) else (if (!((rNumber ((rCut ((rCut ((rCut s 46).2.1) 46).2.1) 46).1) 255).2)) = true then (0, 60) else (if (!(((rCut ((rCut ((rCut s 46).2.1) 46).2.1) 46).2.2) == true)) = true then (0, 60) else (if (!((rNumber ((rCut ((rCut ((rCut ((rCut s 46).2.1) 46).2.1) 46).2.1) 46).1) 255).2)) = true then (0, 60) else (if (!(((rCut ((rCut ((rCut ((rCut s 46).2.1) 46).2.1) 46).2.1) 46).2.2) == false)) = true then (0, 60) else (((256 * ((256 * ((256 * (0 + ((rNumber ((rCut s 46).1) 255).1))) + ((rNumber ((rCut ((rCut s 46).2.1) 46).1) 255).1))) + ((rNumber ((rCut ((rCut ((rCut s 46).2.1) 46).2.1) 46).1) 255).1))) + ((rNumber ((rCut ((rCut ((rCut ((rCut s 46).2.1) 46).2.1) 46).2.1) 46).1) 255).1)), 0)))))))))
def rPrintPrefix (p : Prefix) : Str × Int := (if (!(rRight p)) = true then (([] : Str), 61) else (((((rPrint p.addr).1) ++ ([47] : Str)) ++ (Lib.itoa p.bits)), 0))
def rParsePrefix (s : Str) : Prefix × Int := (if (!((rCut s 47).2.2)) = true then ((Prefix.mk 0 0), 61) else (if ((rParse ((rCut s 47).1)).2) ≠ 0 then ((Prefix.mk 0 0), 61) else (if (!((rNumber ((rCut s 47).2.1) 32).2)) = true then ((Prefix.mk 0 0), 61) else (if (!(rRight (Prefix.mk ((rParse ((rCut s 47).1)).1) ((rNumber ((rCut s 47).2.1) 32).1)))) = true then ((Prefix.mk 0 0), 61) else ((Prefix.mk ((rParse ((rCut s 47).1)).1) ((rNumber ((rCut s 47).2.1) 32).1)), 0)))))
end Go.Proofs.YtnblakihpoacjaaGreatDoor.Jd

namespace Go.Proofs.YtnblakihpoacjaaGreatDoor.Jd
open Go.Proofs
open Go.RowKit (Below)
set_option maxRecDepth 100000
set_option linter.unusedVariables false
set_option linter.unusedSimpArgs false
structure PortsT where
  lo : Int
  hi : Int
instance : Inhabited PortsT := ⟨⟨default, default⟩⟩
instance : DecidableEq PortsT := fun a b => decidable_of_iff (a.lo = b.lo ∧ a.hi = b.hi) ⟨fun h => by cases a; cases b; simp_all, fun h => by subst h; simp⟩
structure Target where
  addr : Int
  port : Int
instance : Inhabited Target := ⟨⟨default, default⟩⟩
instance : DecidableEq Target := fun a b => decidable_of_iff (a.addr = b.addr ∧ a.port = b.port) ⟨fun h => by cases a; cases b; simp_all, fun h => by subst h; simp⟩
def rPRight (p : PortsT) : Bool := (if 0 ≤ p.lo then (if p.lo ≤ p.hi then decide (p.hi ≤ 65535) else false) else false)
def rPPrint (p : PortsT) : Str × Int := (if (!(rPRight p)) = true then (([] : Str), 70) else (if p.lo = 0 then (if p.hi = 65535 then (([42] : Str), 0) else (if p.lo = p.hi then ((Lib.itoa p.lo), 0) else ((((Lib.itoa p.lo) ++ ([45] : Str)) ++ (Lib.itoa p.hi)), 0))) else (if p.lo = p.hi then ((Lib.itoa p.lo), 0) else ((((Lib.itoa p.lo) ++ ([45] : Str)) ++ (Lib.itoa p.hi)), 0))))
def rPParse (s : Str) : PortsT × Int := (if s ≠ ([42] : Str) then (if ((rCut s 45).2.2) = true then (if ((rPPrint (PortsT.mk ((rNumber ((rCut s 45).1) 65535).1) ((rNumber ((rCut s 45).2.1) 65535).1))).2) ≠ 0 then ((PortsT.mk 0 0), 70) else (if ((rPPrint (PortsT.mk ((rNumber ((rCut s 45).1) 65535).1) ((rNumber ((rCut s 45).2.1) 65535).1))).1) ≠ s then ((PortsT.mk 0 0), 70) else ((PortsT.mk ((rNumber ((rCut s 45).1) 65535).1) ((rNumber ((rCut s 45).2.1) 65535).1)), 0))) else (if ((rPPrint (PortsT.mk ((rNumber ((rCut s 45).1) 65535).1) ((rNumber ((rCut s 45).1) 65535).1))).2) ≠ 0 then ((PortsT.mk 0 0), 70) else (if ((rPPrint (PortsT.mk ((rNumber ((rCut s 45).1) 65535).1) ((rNumber ((rCut s 45).1) 65535).1))).1) ≠ s then ((PortsT.mk 0 0), 70) else ((PortsT.mk ((rNumber ((rCut s 45).1) 65535).1) ((rNumber ((rCut s 45).1) 65535).1)), 0)))) else (if ((rPPrint (PortsT.mk 0 65535)).2) ≠ 0 then ((PortsT.mk 0 0), 70) else (if ((rPPrint (PortsT.mk 0 65535)).1) ≠ s then ((PortsT.mk 0 0), 70) else ((PortsT.mk 0 65535), 0))))
def rPHas (p : PortsT) (n_ : Int) : Bool := (if (rPRight p) = true then (if p.lo ≤ n_ then decide (n_ ≤ p.hi) else false) else false)
def rTPrint (t : Target) : Str × Int := (if ((rPrint t.addr).2) ≠ 0 then (([] : Str), 71) else (if t.port < 1 then (([] : Str), 71) else (if 65535 < t.port then (([] : Str), 71) else (((((rPrint t.addr).1) ++ ([58] : Str)) ++ (Lib.itoa t.port)), 0))))
def pRight (p : PortsT) : Bool := (if ¬ (p.lo ≤ p.hi) then false else (if ¬ (0 ≤ p.lo) then false else (if ¬ (p.hi ≤ 65535) then false else true)))
def pPrint (p : PortsT) : Str × Int := (if (!(pRight p)) = true then (([] : Str), 70) else (if p.lo = 0 ∧ p.hi = 65535 then (([42] : Str), 0) else (if p.lo = p.hi then ((Lib.itoa p.lo), 0) else ((((Lib.itoa p.lo) ++ ([45] : Str)) ++ (Lib.itoa p.hi)), 0))))
def pNumber_l0 (t : Str) : Nat → Int → Nat → Except Int (Int × Nat)
  | 0, n_1, x_2 => .ok (n_1, x_2)
  | n_3 + 1, n_1, x_2 => (if x_2 < t.length then (if ((n_1 * 10) + ((((dec t x_2).1 : Nat) : Int) - 48)) < 0 then .error (-1) else (if 65535 < ((n_1 * 10) + ((((dec t x_2).1 : Nat) : Int) - 48)) then .error (-1) else (pNumber_l0 t n_3 ((n_1 * 10) + ((((dec t x_2).1 : Nat) : Int) - 48)) (x_2 + (dec t x_2).2)))) else .ok (n_1, x_2))
def pNumber (t : Str) : Int := (outc2 (pNumber_l0 t (t.length + 1) 0 0) (fun r => r) (fun n_1 x_2 => n_1))
def pParse (s : Str) : PortsT × Int := (if ((pPrint (PortsT.mk 0 65535)).2) = 0 then (if ((pPrint (PortsT.mk 0 65535)).1) = s then ((PortsT.mk 0 65535), 0) else (if ((pPrint (PortsT.mk (pNumber s) (pNumber s))).2) = 0 then (if ((pPrint (PortsT.mk (pNumber s) (pNumber s))).1) = s then ((PortsT.mk (pNumber s) (pNumber s)), 0) else (if ((pPrint (PortsT.mk (pNumber ((Lib.cut s ([45] : Str)).1)) (pNumber ((Lib.cut s ([45] : Str)).2.1)))).2) = 0 then (if ((pPrint (PortsT.mk (pNumber ((Lib.cut s ([45] : Str)).1)) (pNumber ((Lib.cut s ([45] : Str)).2.1)))).1) = s then ((PortsT.mk (pNumber ((Lib.cut s ([45] : Str)).1)) (pNumber ((Lib.cut s ([45] : Str)).2.1))), 0) else ((PortsT.mk 0 0), 70)) else ((PortsT.mk 0 0), 70))) else (if ((pPrint (PortsT.mk (pNumber ((Lib.cut s ([45] : Str)).1)) (pNumber ((Lib.cut s ([45] : Str)).2.1)))).2) = 0 then (if ((pPrint (PortsT.mk (pNumber ((Lib.cut s ([45] : Str)).1)) (pNumber ((Lib.cut s ([45] : Str)).2.1)))).1) = s then ((PortsT.mk (pNumber ((Lib.cut s ([45] : Str)).1)) (pNumber ((Lib.cut s ([45] : Str)).2.1))), 0) else ((PortsT.mk 0 0), 70)) else ((PortsT.mk 0 0), 70)))) else (if ((pPrint (PortsT.mk (pNumber s) (pNumber s))).2) = 0 then (if ((pPrint (PortsT.mk (pNumber s) (pNumber s))).1) = s then ((PortsT.mk (pNumber s) (pNumber s)), 0) else (if ((pPrint (PortsT.mk (pNumber ((Lib.cut s ([45] : Str)).1)) (pNumber ((Lib.cut s ([45] : Str)).2.1)))).2) = 0 then (if ((pPrint (PortsT.mk (pNumber ((Lib.cut s ([45] : Str)).1)) (pNumber ((Lib.cut s ([45] : Str)).2.1)))).1) = s then ((PortsT.mk (pNumber ((Lib.cut s ([45] : Str)).1)) (pNumber ((Lib.cut s ([45] : Str)).2.1))), 0) else ((PortsT.mk 0 0), 70)) else ((PortsT.mk 0 0), 70))) else (if ((pPrint (PortsT.mk (pNumber ((Lib.cut s ([45] : Str)).1)) (pNumber ((Lib.cut s ([45] : Str)).2.1)))).2) = 0 then (if ((pPrint (PortsT.mk (pNumber ((Lib.cut s ([45] : Str)).1)) (pNumber ((Lib.cut s ([45] : Str)).2.1)))).1) = s then ((PortsT.mk (pNumber ((Lib.cut s ([45] : Str)).1)) (pNumber ((Lib.cut s ([45] : Str)).2.1))), 0) else ((PortsT.mk 0 0), 70)) else ((PortsT.mk 0 0), 70))))
def pHas (p : PortsT) (n_ : Int) : Bool := (if (pRight p) = true then (if p.lo ≤ n_ then decide (n_ ≤ p.hi) else false) else false)
def tPrint (t : Target) : Str × Int := (if ((aPrint t.addr).2) ≠ 0 then (([] : Str), 71) else (if t.port < 1 then (([] : Str), 71) else (if 65535 < t.port then (([] : Str), 71) else (((((aPrint t.addr).1) ++ ([58] : Str)) ++ (Lib.itoa t.port)), 0))))
def tParse (s : Str) : Target × Int := (if ((aParse ((Lib.cut s ([58] : Str)).1)).2) ≠ 0 then ((Target.mk 0 0), 71) else (if ((tPrint (Target.mk ((aParse ((Lib.cut s ([58] : Str)).1)).1) (pNumber ((Lib.cut s ([58] : Str)).2.1)))).2) ≠ 0 then ((Target.mk 0 0), 71) else (if ((tPrint (Target.mk ((aParse ((Lib.cut s ([58] : Str)).1)).1) (pNumber ((Lib.cut s ([58] : Str)).2.1)))).1) ≠ s then ((Target.mk 0 0), 71) else ((Target.mk ((aParse ((Lib.cut s ([58] : Str)).1)).1) (pNumber ((Lib.cut s ([58] : Str)).2.1))), 0))))
end Go.Proofs.YtnblakihpoacjaaGreatDoor.Jd

namespace Go.Proofs.YtnblakihpoacjaaGreatDoor.Jd
open Go.Proofs
open Go.RowKit (Below)
set_option maxRecDepth 100000
set_option maxHeartbeats 8000000
set_option linter.unusedVariables false
set_option linter.unusedSimpArgs false
def wIsPlain_l0 (s : Str) : Nat → Nat → Except Bool Nat
  | 0, x_1 => .ok (x_1)
  | n_2 + 1, x_1 => (if x_1 < s.length then (if (((dec s x_1).1 : Nat) : Int) < 32 then .error false else (if 126 < (((dec s x_1).1 : Nat) : Int) then .error false else (wIsPlain_l0 s n_2 (x_1 + (dec s x_1).2)))) else .ok (x_1))
def wIsPlain (s : Str) : Bool := (outc1 (wIsPlain_l0 s (s.length + 1) 0) (fun r => r) (fun x_1 => true))
def wSplit_l0 (s : Str) : Nat → Nat → List Str → List Int → Nat → Except ((List Str) × Int) (Nat × (List Str) × (List Int) × Nat)
  | 0, x_1, x_2, x_3, x_4 => .ok (x_1, x_2, x_3, x_4)
  | n_5 + 1, x_1, x_2, x_3, x_4 => (if ((x_1 : Nat) : Int) < (((s.length : Nat) : Int) + 1) then (if ((x_1 : Nat) : Int) = ((s.length : Nat) : Int) then (if x_4 = 0 then .ok (x_1, x_2, x_3, 0) else (if x_4 = 1 then .ok (x_1, (x_2 ++ ([(toS x_3)] : List Str)), [], 0) else (if x_4 = 2 then .error ([], 12) else (if x_4 = 3 then .ok (x_1, x_2, x_3, 0) else .error ([], 13))))) else (if x_4 = 0 then (if (((s.getD x_1 default).toNat : Nat) : Int) = 32 then (wSplit_l0 s n_5 (x_1 + 1) x_2 x_3 0) else (if ((x_2.length : Nat) : Int) = 12 then .error ([], 15) else (if (((s.getD x_1 default).toNat : Nat) : Int) = 34 then (wSplit_l0 s n_5 (x_1 + 1) x_2 x_3 2) else (if (((s.getD x_1 default).toNat : Nat) : Int) = 32 then (wSplit_l0 s n_5 (x_1 + 1) (x_2 ++ ([(toS x_3)] : List Str)) [] 0) else (if (((s.getD x_1 default).toNat : Nat) : Int) = 34 then .error ([], 12) else (if (((s.getD x_1 default).toNat : Nat) : Int) = 92 then .error ([], 13) else (if 64 < ((((x_3 ++ ([(((s.getD x_1 default).toNat : Nat) : Int)] : List Int)).length) : Nat) : Int) then .error ([], 14) else (wSplit_l0 s n_5 (x_1 + 1) x_2 (x_3 ++ ([(((s.getD x_1 default).toNat : Nat) : Int)] : List Int)) 1)))))))) else (if x_4 = 1 then (if (((s.getD x_1 default).toNat : Nat) : Int) = 32 then (wSplit_l0 s n_5 (x_1 + 1) (x_2 ++ ([(toS x_3)] : List Str)) [] 0) else (if (((s.getD x_1 default).toNat : Nat) : Int) = 34 then .error ([], 12) else (if (((s.getD x_1 default).toNat : Nat) : Int) = 92 then .error ([], 13) else (if 64 < ((((x_3 ++ ([(((s.getD x_1 default).toNat : Nat) : Int)] : List Int)).length) : Nat) : Int) then .error ([], 14) else (wSplit_l0 s n_5 (x_1 + 1) x_2 (x_3 ++ ([(((s.getD x_1 default).toNat : Nat) : Int)] : List Int)) 1))))) else (if x_4 = 2 then (if (((s.getD x_1 default).toNat : Nat) : Int) = 34 then (wSplit_l0 s n_5 (x_1 + 1) (x_2 ++ ([(toS x_3)] : List Str)) [] 3) else (if (((s.getD x_1 default).toNat : Nat) : Int) = 92 then (wSplit_l0 s n_5 (x_1 + 1) x_2 x_3 4) else (if 64 < ((((x_3 ++ ([(((s.getD x_1 default).toNat : Nat) : Int)] : List Int)).length) : Nat) : Int) then .error ([], 14) else (wSplit_l0 s n_5 (x_1 + 1) x_2 (x_3 ++ ([(((s.getD x_1 default).toNat : Nat) : Int)] : List Int)) 2)))) else (if x_4 = 3 then (if (((s.getD x_1 default).toNat : Nat) : Int) ≠ 32 then .error ([], 12) else (wSplit_l0 s n_5 (x_1 + 1) x_2 x_3 0)) else (if (((s.getD x_1 default).toNat : Nat) : Int) ≠ 34 then (if (((s.getD x_1 default).toNat : Nat) : Int) ≠ 92 then .error ([], 13) else (if 64 < ((((x_3 ++ ([(((s.getD x_1 default).toNat : Nat) : Int)] : List Int)).length) : Nat) : Int) then .error ([], 14) else (wSplit_l0 s n_5 (x_1 + 1) x_2 (x_3 ++ ([(((s.getD x_1 default).toNat : Nat) : Int)] : List Int)) 2))) else (if 64 < ((((x_3 ++ ([(((s.getD x_1 default).toNat : Nat) : Int)] : List Int)).length) : Nat) : Int) then .error ([], 14) else (wSplit_l0 s n_5 (x_1 + 1) x_2 (x_3 ++ ([(((s.getD x_1 default).toNat : Nat) : Int)] : List Int)) 2)))))))) else .ok (x_1, x_2, x_3, x_4))
def wSplit (s : Str) : (List Str) × Int := (if 300 < ((s.length : Nat) : Int) then ([], 10) else (if (!(wIsPlain s)) = true then ([], 11) else (outc4 (wSplit_l0 s ((s.length + 1) + 1) 0 [] [] 0) (fun r => r) (fun x_1 x_2 x_3 x_4 => (x_2, 0)))))
end Go.Proofs.YtnblakihpoacjaaGreatDoor.Jd

namespace Go.Proofs.YtnblakihpoacjaaGreatDoor.Jd
open Go.Proofs
open Go.RowKit (Below)
set_option maxRecDepth 100000
set_option maxHeartbeats 8000000
set_option linter.unusedVariables false
set_option linter.unusedSimpArgs false
structure Rule where
  allow : Bool
  pfx : Prefix
  prt : PortsT
instance : Inhabited Rule := ⟨⟨default, default, default⟩⟩
instance : DecidableEq Rule := fun a b => decidable_of_iff (a.allow = b.allow ∧ a.pfx = b.pfx ∧ a.prt = b.prt) ⟨fun h => by cases a; cases b; simp_all, fun h => by subst h; simp⟩
def aclOne (r : Rule) : Bool := (if (aRight r.pfx) = true then (pRight r.prt) else false)
def aclFitsR (r : Rule) (t : Target) : Bool := (if (aclOne r) = true then (if (aHas r.pfx t.addr) = true then (pHas r.prt t.port) else false) else false)
def aclRight_l0 (l : List Rule) : Nat → Nat → Except Bool Nat
  | 0, x_1 => .ok (x_1)
  | n_2 + 1, x_1 => (if ((x_1 : Nat) : Int) < ((l.length : Nat) : Int) then (if (!(aclOne (l.getD x_1 default))) = true then .error false else (aclRight_l0 l n_2 (x_1 + 1))) else .ok (x_1))
def aclRight (l : List Rule) : Bool := (if ((l.length : Nat) : Int) ≤ 16 then (outc1 (aclRight_l0 l (l.length + 1) 0) (fun r => r) (fun x_1 => true)) else false)
def aclPrint (r : Rule) : Str × Int := (if (!(aclOne r)) = true then (([] : Str), 80) else (if r.allow = true then (((((([97, 108, 108, 111, 119] : Str) ++ ([32] : Str)) ++ ((aPrintPrefix r.pfx).1)) ++ ([32] : Str)) ++ ((pPrint r.prt).1)), 0) else (((((([100, 101, 110, 121] : Str) ++ ([32] : Str)) ++ ((aPrintPrefix r.pfx).1)) ++ ([32] : Str)) ++ ((pPrint r.prt).1)), 0)))
def aclFits (r : Rule) (t : Target) : Bool := (if ((tPrint t).2) ≠ 0 then false else (aclFitsR r t))
def aclParse (s : Str) : Rule × Int := (if ((wSplit s).2) ≠ 0 then ((Rule.mk false (Prefix.mk 0 0) (PortsT.mk 0 0)), 80) else (if ((((wSplit s).1.length) : Nat) : Int) ≠ 3 then ((Rule.mk false (Prefix.mk 0 0) (PortsT.mk 0 0)), 80) else (if ((aParsePrefix (((wSplit s).1).getD 1 default)).2) ≠ 0 then ((Rule.mk false (Prefix.mk 0 0) (PortsT.mk 0 0)), 80) else (if ((pParse (((wSplit s).1).getD 2 default)).2) ≠ 0 then ((Rule.mk false (Prefix.mk 0 0) (PortsT.mk 0 0)), 80) else (if ((aclPrint (Rule.mk (decide ((((wSplit s).1).getD 0 default) = ([97, 108, 108, 111, 119] : Str))) ((aParsePrefix (((wSplit s).1).getD 1 default)).1) ((pParse (((wSplit s).1).getD 2 default)).1))).2) ≠ 0 then ((Rule.mk false (Prefix.mk 0 0) (PortsT.mk 0 0)), 80) else (if ((aclPrint (Rule.mk (decide ((((wSplit s).1).getD 0 default) = ([97, 108, 108, 111, 119] : Str))) ((aParsePrefix (((wSplit s).1).getD 1 default)).1) ((pParse (((wSplit s).1).getD 2 default)).1))).1) ≠ s then ((Rule.mk false (Prefix.mk 0 0) (PortsT.mk 0 0)), 80) else ((Rule.mk (decide ((((wSplit s).1).getD 0 default) = ([97, 108, 108, 111, 119] : Str))) ((aParsePrefix (((wSplit s).1).getD 1 default)).1) ((pParse (((wSplit s).1).getD 2 default)).1)), 0)))))))
def aclDecide_l1 (l : List Rule) (t : Target) (i_1 : Int) (x_2 : List Int) : Nat → Int → List Int → Int × (List Int)
  | 0, j_9, x_10 => (j_9, x_10)
  | n_11 + 1, j_9, x_10 => (if (((((j_9 - 1)).toNat / 2) : Nat) : Int) = j_9 then (j_9, x_10) else (if ¬ ((x_10.getD ((j_9).toNat) default) < (x_10.getD (((j_9 - 1)).toNat / 2) default)) then (j_9, x_10) else (aclDecide_l1 l t i_1 x_2 n_11 (((((j_9 - 1)).toNat / 2) : Nat) : Int) ((x_10.set ((((((j_9 - 1)).toNat / 2) : Nat) : Int)).toNat (x_10.getD (j_9).toNat default)).set (j_9).toNat (x_10.getD ((((((j_9 - 1)).toNat / 2) : Nat) : Int)).toNat default)))))
def aclDecide_l0 (l : List Rule) (t : Target) : Nat → Int → List Int → Int × (List Int)
  | 0, i_1, x_2 => (i_1, x_2)
  | n_3 + 1, i_1, x_2 => (if 0 ≤ i_1 then (if (aclFitsR (l.getD ((i_1).toNat) default) t) = true then (run2 (aclDecide_l1 l t i_1 x_2 ((((((x_2 ++ ([i_1] : List Int)).length) : Nat) : Int) - 1).toNat + 1) (((((x_2 ++ ([i_1] : List Int)).length) : Nat) : Int) - 1) (x_2 ++ ([i_1] : List Int))) (fun j_9 x_10 => (aclDecide_l0 l t n_3 (i_1 - 1) x_10))) else (aclDecide_l0 l t n_3 (i_1 - 1) x_2)) else (i_1, x_2))
def aclDecide (l : List Rule) (t : Target) : Bool × Int × Int := (if (!(aclRight l)) = true then (false, 0, 81) else (if ((tPrint t).2) ≠ 0 then (false, 0, 71) else (run2 (aclDecide_l0 l t (((((l.length : Nat) : Int) - 1) + 1).toNat + 1) (((l.length : Nat) : Int) - 1) []) (fun i_1 x_2 => (if ((x_2.length : Nat) : Int) = 0 then (false, (-1), 0) else (((l.getD (((x_2.getD 0 default)).toNat) default).allow), (x_2.getD 0 default), 0))))))
def aclInsert (l : List Rule) (at_ : Int) (r : Rule) : (List Rule) × Int := (if (!(aclRight l)) = true then ([], 81) else (if (!(aclOne r)) = true then ([], 80) else (if at_ < 0 then ([], 82) else (if ((l.length : Nat) : Int) < at_ then ([], 82) else (if 16 ≤ ((l.length : Nat) : Int) then ([], 82) else ((insL (l) at_.toNat r), 0))))))
def aclRemove (l : List Rule) (at_ : Int) : (List Rule) × Int := (if (!(aclRight l)) = true then ([], 81) else (if at_ < 0 then ([], 82) else (if ((l.length : Nat) : Int) ≤ at_ then ([], 82) else ((delL (l) at_.toNat (at_ + 1).toNat), 0))))
end Go.Proofs.YtnblakihpoacjaaGreatDoor.Jd

namespace Go.Proofs.YtnblakihpoacjaaGreatDoor.Jd
open Go.Proofs
open Go.RowKit (Below)
set_option maxRecDepth 100000
set_option maxHeartbeats 8000000
set_option linter.unusedVariables false
set_option linter.unusedSimpArgs false
def rlOne (r : Rule) : Bool := (if (rRight r.pfx) = true then (rPRight r.prt) else false)
def rlRight_l0 (l : List Rule) : Nat → Nat → Except Bool Nat
  | 0, i_1 => .ok (i_1)
  | n_2 + 1, i_1 => (if ((i_1 : Nat) : Int) < ((l.length : Nat) : Int) then (if (!(rlOne (l.getD i_1 default))) = true then .error false else (rlRight_l0 l n_2 (i_1 + 1))) else .ok (i_1))
def rlRight (l : List Rule) : Bool := (outc1 (rlRight_l0 l (l.length + 1) 0) (fun r => r) (fun i_1 => decide (((l.length : Nat) : Int) ≤ 16)))
def rlPrint (r : Rule) : Str × Int := (if (!(rlOne r)) = true then (([] : Str), 80) else (if r.allow = true then (((((([97, 108, 108, 111, 119] : Str) ++ ([32] : Str)) ++ ((rPrintPrefix r.pfx).1)) ++ ([32] : Str)) ++ ((rPPrint r.prt).1)), 0) else (((((([100, 101, 110, 121] : Str) ++ ([32] : Str)) ++ ((rPrintPrefix r.pfx).1)) ++ ([32] : Str)) ++ ((rPPrint r.prt).1)), 0)))
def rlParse (s : Str) : Rule × Int := (if ((rlPrint (Rule.mk (decide (((rCut s 32).1) = ([97, 108, 108, 111, 119] : Str))) ((rParsePrefix ((rCut ((rCut s 32).2.1) 32).1)).1) ((rPParse ((rCut ((rCut s 32).2.1) 32).2.1)).1))).2) ≠ 0 then ((Rule.mk false (Prefix.mk 0 0) (PortsT.mk 0 0)), 80) else (if ((rlPrint (Rule.mk (decide (((rCut s 32).1) = ([97, 108, 108, 111, 119] : Str))) ((rParsePrefix ((rCut ((rCut s 32).2.1) 32).1)).1) ((rPParse ((rCut ((rCut s 32).2.1) 32).2.1)).1))).1) ≠ s then ((Rule.mk false (Prefix.mk 0 0) (PortsT.mk 0 0)), 80) else ((Rule.mk (decide (((rCut s 32).1) = ([97, 108, 108, 111, 119] : Str))) ((rParsePrefix ((rCut ((rCut s 32).2.1) 32).1)).1) ((rPParse ((rCut ((rCut s 32).2.1) 32).2.1)).1)), 0)))
def rlFits (r : Rule) (t : Target) : Bool := (if (rlOne r) = true then (if ((rTPrint t).2) = 0 then (if (rHas r.pfx t.addr) = true then (rPHas r.prt t.port) else false) else false) else false)
def rlDecide_l0 (l : List Rule) (t : Target) : Nat → Nat → Except (Bool × Int × Int) Nat
  | 0, i_1 => .ok (i_1)
  | n_2 + 1, i_1 => (if ((i_1 : Nat) : Int) < ((l.length : Nat) : Int) then (if (rlFits (l.getD i_1 default) t) = true then .error (((l.getD i_1 default).allow), ((i_1 : Nat) : Int), 0) else (rlDecide_l0 l t n_2 (i_1 + 1))) else .ok (i_1))
def rlDecide (l : List Rule) (t : Target) : Bool × Int × Int := (if (!(rlRight l)) = true then (false, 0, 81) else (if ¬ (((rTPrint t).2) = 0) then (false, 0, 71) else (outc1 (rlDecide_l0 l t (l.length + 1) 0) (fun r => r) (fun i_1 => (false, (-1), 0)))))
def rlInsert (l : List Rule) (at_ : Int) (r : Rule) : (List Rule) × Int := (if (!(rlRight l)) = true then ([], 81) else (if (!(rlOne r)) = true then ([], 80) else (if at_ < 0 then ([], 82) else (if ((l.length : Nat) : Int) < at_ then ([], 82) else (if 16 ≤ ((l.length : Nat) : Int) then ([], 82) else ((((l.take ((at_).toNat)) ++ ([r] : List Rule)) ++ (l.drop ((at_).toNat))), 0))))))
def rlRemove (l : List Rule) (at_ : Int) : (List Rule) × Int := (if (!(rlRight l)) = true then ([], 81) else (if at_ < 0 then ([], 82) else (if ((l.length : Nat) : Int) ≤ at_ then ([], 82) else (((l.take ((at_).toNat)) ++ (l.drop (((at_ + 1)).toNat))), 0))))
def rlSame_l0 (a : List Rule) (b : List Rule) : Nat → Nat → Except Bool Nat
  | 0, i_1 => .ok (i_1)
  | n_2 + 1, i_1 => (if ((i_1 : Nat) : Int) < ((a.length : Nat) : Int) then (if ¬ (((a.getD i_1 default).allow) = ((b.getD i_1 default).allow) ∧ ((a.getD i_1 default).pfx.addr) = ((b.getD i_1 default).pfx.addr) ∧ ((a.getD i_1 default).pfx.bits) = ((b.getD i_1 default).pfx.bits) ∧ ((a.getD i_1 default).prt.lo) = ((b.getD i_1 default).prt.lo) ∧ ((a.getD i_1 default).prt.hi) = ((b.getD i_1 default).prt.hi)) then .error false else (rlSame_l0 a b n_2 (i_1 + 1))) else .ok (i_1))
def rlSame (a : List Rule) (b : List Rule) : Bool := (if ((a.length : Nat) : Int) ≠ ((b.length : Nat) : Int) then false else (outc1 (rlSame_l0 a b (a.length + 1) 0) (fun r => r) (fun i_1 => true)))
def lcut8 (s : Str) : Str := (s.take (min s.length 60))
def lFew8 (l : List Rule) : List Rule := (l.take (min l.length 18))
def lShown8  : Bool := (if ((aclParse ([100, 101, 110, 121, 32, 49, 48, 46, 48, 46, 48, 46, 48, 47, 56, 32, 50, 50] : Str)).2) = 0 then (if ((aclParse ([97, 108, 108, 111, 119, 32, 49, 48, 46, 48, 46, 48, 46, 48, 47, 56, 32, 42] : Str)).2) = 0 then (if ((aclDecide ([(aclParse ([100, 101, 110, 121, 32, 49, 48, 46, 48, 46, 48, 46, 48, 47, 56, 32, 50, 50] : Str)).1, (aclParse ([97, 108, 108, 111, 119, 32, 49, 48, 46, 48, 46, 48, 46, 48, 47, 56, 32, 42] : Str)).1] : List Rule) (Target.mk 167838211 80)).1) = true then (if ((aclDecide ([(aclParse ([100, 101, 110, 121, 32, 49, 48, 46, 48, 46, 48, 46, 48, 47, 56, 32, 50, 50] : Str)).1, (aclParse ([97, 108, 108, 111, 119, 32, 49, 48, 46, 48, 46, 48, 46, 48, 47, 56, 32, 42] : Str)).1] : List Rule) (Target.mk 167838211 80)).2.1) = 1 then (if ((aclDecide ([(aclParse ([100, 101, 110, 121, 32, 49, 48, 46, 48, 46, 48, 46, 48, 47, 56, 32, 50, 50] : Str)).1, (aclParse ([97, 108, 108, 111, 119, 32, 49, 48, 46, 48, 46, 48, 46, 48, 47, 56, 32, 42] : Str)).1] : List Rule) (Target.mk 167838211 80)).2.2) = 0 then (if (!((aclDecide ([(aclParse ([100, 101, 110, 121, 32, 49, 48, 46, 48, 46, 48, 46, 48, 47, 56, 32, 50, 50] : Str)).1, (aclParse ([97, 108, 108, 111, 119, 32, 49, 48, 46, 48, 46, 48, 46, 48, 47, 56, 32, 42] : Str)).1] : List Rule) (Target.mk 167838211 22)).1)) = true then (if ((aclDecide ([(aclParse ([100, 101, 110, 121, 32, 49, 48, 46, 48, 46, 48, 46, 48, 47, 56, 32, 50, 50] : Str)).1, (aclParse ([97, 108, 108, 111, 119, 32, 49, 48, 46, 48, 46, 48, 46, 48, 47, 56, 32, 42] : Str)).1] : List Rule) (Target.mk 167838211 22)).2.1) = 0 then (if ((aclDecide ([(aclParse ([100, 101, 110, 121, 32, 49, 48, 46, 48, 46, 48, 46, 48, 47, 56, 32, 50, 50] : Str)).1, (aclParse ([97, 108, 108, 111, 119, 32, 49, 48, 46, 48, 46, 48, 46, 48, 47, 56, 32, 42] : Str)).1] : List Rule) (Target.mk 167838211 22)).2.2) = 0 then (if (!((aclDecide ([(aclParse ([100, 101, 110, 121, 32, 49, 48, 46, 48, 46, 48, 46, 48, 47, 56, 32, 50, 50] : Str)).1, (aclParse ([97, 108, 108, 111, 119, 32, 49, 48, 46, 48, 46, 48, 46, 48, 47, 56, 32, 42] : Str)).1] : List Rule) (Target.mk 184549376 80)).1)) = true then (if ((aclDecide ([(aclParse ([100, 101, 110, 121, 32, 49, 48, 46, 48, 46, 48, 46, 48, 47, 56, 32, 50, 50] : Str)).1, (aclParse ([97, 108, 108, 111, 119, 32, 49, 48, 46, 48, 46, 48, 46, 48, 47, 56, 32, 42] : Str)).1] : List Rule) (Target.mk 184549376 80)).2.1) = (-1) then (if ((aclDecide ([(aclParse ([100, 101, 110, 121, 32, 49, 48, 46, 48, 46, 48, 46, 48, 47, 56, 32, 50, 50] : Str)).1, (aclParse ([97, 108, 108, 111, 119, 32, 49, 48, 46, 48, 46, 48, 46, 48, 47, 56, 32, 42] : Str)).1] : List Rule) (Target.mk 184549376 80)).2.2) = 0 then (if ((aclPrint ((aclParse ([97, 108, 108, 111, 119, 32, 49, 48, 46, 48, 46, 48, 46, 48, 47, 56, 32, 42] : Str)).1)).1) = ([97, 108, 108, 111, 119, 32, 49, 48, 46, 48, 46, 48, 46, 48, 47, 56, 32, 42] : Str) then (if ((aclPrint ((aclParse ([97, 108, 108, 111, 119, 32, 49, 48, 46, 48, 46, 48, 46, 48, 47, 56, 32, 42] : Str)).1)).2) = 0 then (if ((aclInsert ([(aclParse ([100, 101, 110, 121, 32, 49, 48, 46, 48, 46, 48, 46, 48, 47, 56, 32, 50, 50] : Str)).1, (aclParse ([97, 108, 108, 111, 119, 32, 49, 48, 46, 48, 46, 48, 46, 48, 47, 56, 32, 42] : Str)).1] : List Rule) 3 ((aclParse ([100, 101, 110, 121, 32, 49, 48, 46, 48, 46, 48, 46, 48, 47, 56, 32, 50, 50] : Str)).1)).2) = 82 then decide (((aclParse ([97, 108, 108, 111, 119, 32, 49, 48, 46, 48, 46, 48, 46, 48, 47, 56] : Str)).2) = 80) else false) else false) else false) else false) else false) else false) else false) else false) else false) else false) else false) else false) else false) else false)
def lAclTexts (l : List Rule) (r : Rule) (s : Str) (t : Target) : Bool := (if lShown8 = true then (if ((aclRight (lFew8 l)) == (rlRight (lFew8 l))) = true then (if ((aclPrint r).1) = ((rlPrint r).1) then (if ((aclPrint r).2) = ((rlPrint r).2) then (if ((aclParse (lcut8 s)).1.allow) = ((rlParse (lcut8 s)).1.allow) ∧ ((aclParse (lcut8 s)).1.pfx.addr) = ((rlParse (lcut8 s)).1.pfx.addr) ∧ ((aclParse (lcut8 s)).1.pfx.bits) = ((rlParse (lcut8 s)).1.pfx.bits) ∧ ((aclParse (lcut8 s)).1.prt.lo) = ((rlParse (lcut8 s)).1.prt.lo) ∧ ((aclParse (lcut8 s)).1.prt.hi) = ((rlParse (lcut8 s)).1.prt.hi) then (if ((aclParse (lcut8 s)).2) = ((rlParse (lcut8 s)).2) then ((aclFits r t) == (rlFits r t)) else false) else false) else false) else false) else false) else false)
def lAclDecides (l : List Rule) (t : Target) (at_ : Int) (r : Rule) : Bool := (if lShown8 = true then (if (((aclDecide (lFew8 l) t).1) == ((rlDecide (lFew8 l) t).1)) = true then (if ((aclDecide (lFew8 l) t).2.1) = ((rlDecide (lFew8 l) t).2.1) then (if ((aclDecide (lFew8 l) t).2.2) = ((rlDecide (lFew8 l) t).2.2) then (if (rlSame ((aclInsert (lFew8 l) at_ r).1) ((rlInsert (lFew8 l) at_ r).1)) = true then (if ((aclInsert (lFew8 l) at_ r).2) = ((rlInsert (lFew8 l) at_ r).2) then (if (rlSame ((aclRemove (lFew8 l) at_).1) ((rlRemove (lFew8 l) at_).1)) = true then decide (((aclRemove (lFew8 l) at_).2) = ((rlRemove (lFew8 l) at_).2)) else false) else false) else false) else false) else false) else false) else false)
def lAclBack (r : Rule) (s : Str) : Bool := (if ((aclPrint r).2) = 0 then (if ((aclParse ((aclPrint r).1)).2) ≠ 0 then false else (if ¬ (((aclParse ((aclPrint r).1)).1.allow) = r.allow ∧ ((aclParse ((aclPrint r).1)).1.pfx.addr) = r.pfx.addr ∧ ((aclParse ((aclPrint r).1)).1.pfx.bits) = r.pfx.bits ∧ ((aclParse ((aclPrint r).1)).1.prt.lo) = r.prt.lo ∧ ((aclParse ((aclPrint r).1)).1.prt.hi) = r.prt.hi) then false else (if lShown8 = true then (if (decide (((aclPrint r).2) = 0) == (aclRight ([r] : List Rule))) = true then (if ((aclParse (lcut8 s)).2) ≠ 0 then (if ((aclParse (lcut8 s)).1.allow) = false ∧ ((aclParse (lcut8 s)).1.pfx.addr) = 0 ∧ ((aclParse (lcut8 s)).1.pfx.bits) = 0 ∧ ((aclParse (lcut8 s)).1.prt.lo) = 0 ∧ ((aclParse (lcut8 s)).1.prt.hi) = 0 then true else (if ((aclParse (lcut8 s)).2) = 0 then (if ((aclPrint ((aclParse (lcut8 s)).1)).2) = 0 then decide (((aclPrint ((aclParse (lcut8 s)).1)).1) = (lcut8 s)) else false) else false)) else (if ((aclParse (lcut8 s)).2) = 0 then (if ((aclPrint ((aclParse (lcut8 s)).1)).2) = 0 then decide (((aclPrint ((aclParse (lcut8 s)).1)).1) = (lcut8 s)) else false) else false)) else false) else false))) else (if lShown8 = true then (if (decide (((aclPrint r).2) = 0) == (aclRight ([r] : List Rule))) = true then (if ((aclParse (lcut8 s)).2) ≠ 0 then (if ((aclParse (lcut8 s)).1.allow) = false ∧ ((aclParse (lcut8 s)).1.pfx.addr) = 0 ∧ ((aclParse (lcut8 s)).1.pfx.bits) = 0 ∧ ((aclParse (lcut8 s)).1.prt.lo) = 0 ∧ ((aclParse (lcut8 s)).1.prt.hi) = 0 then true else (if ((aclParse (lcut8 s)).2) = 0 then (if ((aclPrint ((aclParse (lcut8 s)).1)).2) = 0 then decide (((aclPrint ((aclParse (lcut8 s)).1)).1) = (lcut8 s)) else false) else false)) else (if ((aclParse (lcut8 s)).2) = 0 then (if ((aclPrint ((aclParse (lcut8 s)).1)).2) = 0 then decide (((aclPrint ((aclParse (lcut8 s)).1)).1) = (lcut8 s)) else false) else false)) else false) else false))
def lAclFirst_l0 (l : List Rule) (t : Target) : Nat → Nat → Except Bool Nat
  | 0, i_1 => .ok (i_1)
  | n_2 + 1, i_1 => (if ((i_1 : Nat) : Int) < ((((lFew8 l).length) : Nat) : Int) then (if (aclFits ((lFew8 l).getD i_1 default) t) = true then .error false else (lAclFirst_l0 l t n_2 (i_1 + 1))) else .ok (i_1))
def lAclFirst_l1 (l : List Rule) (t : Target) : Nat → Nat → Except Bool Nat
  | 0, i_5 => .ok (i_5)
  | n_6 + 1, i_5 => (if ((i_5 : Nat) : Int) < ((aclDecide (lFew8 l) t).2.1) then (if (aclFits ((lFew8 l).getD i_5 default) t) = true then .error false else (lAclFirst_l1 l t n_6 (i_5 + 1))) else .ok (i_5))
def lAclFirst (l : List Rule) (t : Target) : Bool := (if ((aclDecide (lFew8 l) t).2.2) ≠ 0 then (if lShown8 = true then (if (!((aclDecide (lFew8 l) t).1)) = true then decide (((aclDecide (lFew8 l) t).2.1) = 0) else false) else false) else (if ((aclDecide (lFew8 l) t).2.1) < (-1) then false else (if ((((lFew8 l).length) : Nat) : Int) ≤ ((aclDecide (lFew8 l) t).2.1) then false else (if ((aclDecide (lFew8 l) t).2.1) < 0 then (outc1 (lAclFirst_l0 l t (((lFew8 l).length) + 1) 0) (fun r => r) (fun i_1 => (if ((aclDecide (lFew8 l) t).2.1) < 0 then (if lShown8 = true then (!((aclDecide (lFew8 l) t).1)) else false) else (if lShown8 = true then (if (aclFits ((lFew8 l).getD ((((aclDecide (lFew8 l) t).2.1)).toNat) default) t) = true then (((aclDecide (lFew8 l) t).1) == (((lFew8 l).getD ((((aclDecide (lFew8 l) t).2.1)).toNat) default).allow)) else false) else false)))) else (outc1 (lAclFirst_l1 l t ((((aclDecide (lFew8 l) t).2.1) - ((0 : Nat) : Int)).toNat + 1) 0) (fun r => r) (fun i_5 => (if ((aclDecide (lFew8 l) t).2.1) < 0 then (if lShown8 = true then (!((aclDecide (lFew8 l) t).1)) else false) else (if lShown8 = true then (if (aclFits ((lFew8 l).getD ((((aclDecide (lFew8 l) t).2.1)).toNat) default) t) = true then (((aclDecide (lFew8 l) t).1) == (((lFew8 l).getD ((((aclDecide (lFew8 l) t).2.1)).toNat) default).allow)) else false) else false))))))))
def lAclAhead (l : List Rule) (t : Target) (at_ : Int) (r : Rule) : Bool := (if ((aclDecide (lFew8 l) t).2.2) ≠ 0 then lShown8 else (if ((aclInsert (lFew8 l) at_ r).2) ≠ 0 then lShown8 else (if ((aclDecide (lFew8 l) t).2.1) < 0 then (if (aclFits r t) = true then (if lShown8 = true then (if ((aclDecide ((aclInsert (lFew8 l) at_ r).1) t).2.2) = 0 then (if (((aclDecide ((aclInsert (lFew8 l) at_ r).1) t).1) == r.allow) = true then decide (((aclDecide ((aclInsert (lFew8 l) at_ r).1) t).2.1) = at_) else false) else false) else false) else (if ((aclDecide (lFew8 l) t).2.1) < 0 then (if lShown8 = true then (if ((aclDecide ((aclInsert (lFew8 l) at_ r).1) t).2.2) = 0 then (if (!((aclDecide ((aclInsert (lFew8 l) at_ r).1) t).1)) = true then decide (((aclDecide ((aclInsert (lFew8 l) at_ r).1) t).2.1) < 0) else false) else false) else false) else (if lShown8 = true then (if ((aclDecide ((aclInsert (lFew8 l) at_ r).1) t).2.2) = 0 then (if (((aclDecide ((aclInsert (lFew8 l) at_ r).1) t).1) == ((aclDecide (lFew8 l) t).1)) = true then decide (((aclDecide ((aclInsert (lFew8 l) at_ r).1) t).2.1) = (((aclDecide (lFew8 l) t).2.1) + 1)) else false) else false) else false))) else (if at_ ≤ ((aclDecide (lFew8 l) t).2.1) then (if (aclFits r t) = true then (if lShown8 = true then (if ((aclDecide ((aclInsert (lFew8 l) at_ r).1) t).2.2) = 0 then (if (((aclDecide ((aclInsert (lFew8 l) at_ r).1) t).1) == r.allow) = true then decide (((aclDecide ((aclInsert (lFew8 l) at_ r).1) t).2.1) = at_) else false) else false) else false) else (if ((aclDecide (lFew8 l) t).2.1) < 0 then (if lShown8 = true then (if ((aclDecide ((aclInsert (lFew8 l) at_ r).1) t).2.2) = 0 then (if (!((aclDecide ((aclInsert (lFew8 l) at_ r).1) t).1)) = true then decide (((aclDecide ((aclInsert (lFew8 l) at_ r).1) t).2.1) < 0) else false) else false) else false) else (if at_ ≤ ((aclDecide (lFew8 l) t).2.1) then (if lShown8 = true then (if ((aclDecide ((aclInsert (lFew8 l) at_ r).1) t).2.2) = 0 then (if (((aclDecide ((aclInsert (lFew8 l) at_ r).1) t).1) == ((aclDecide (lFew8 l) t).1)) = true then decide (((aclDecide ((aclInsert (lFew8 l) at_ r).1) t).2.1) = (((aclDecide (lFew8 l) t).2.1) + 1)) else false) else false) else false) else (if lShown8 = true then (if ((aclDecide ((aclInsert (lFew8 l) at_ r).1) t).2.2) = 0 then (if (((aclDecide ((aclInsert (lFew8 l) at_ r).1) t).1) == ((aclDecide (lFew8 l) t).1)) = true then decide (((aclDecide ((aclInsert (lFew8 l) at_ r).1) t).2.1) = ((aclDecide (lFew8 l) t).2.1)) else false) else false) else false)))) else (if ((aclDecide (lFew8 l) t).2.1) < 0 then (if lShown8 = true then (if ((aclDecide ((aclInsert (lFew8 l) at_ r).1) t).2.2) = 0 then (if (!((aclDecide ((aclInsert (lFew8 l) at_ r).1) t).1)) = true then decide (((aclDecide ((aclInsert (lFew8 l) at_ r).1) t).2.1) < 0) else false) else false) else false) else (if at_ ≤ ((aclDecide (lFew8 l) t).2.1) then (if lShown8 = true then (if ((aclDecide ((aclInsert (lFew8 l) at_ r).1) t).2.2) = 0 then (if (((aclDecide ((aclInsert (lFew8 l) at_ r).1) t).1) == ((aclDecide (lFew8 l) t).1)) = true then decide (((aclDecide ((aclInsert (lFew8 l) at_ r).1) t).2.1) = (((aclDecide (lFew8 l) t).2.1) + 1)) else false) else false) else false) else (if lShown8 = true then (if ((aclDecide ((aclInsert (lFew8 l) at_ r).1) t).2.2) = 0 then (if (((aclDecide ((aclInsert (lFew8 l) at_ r).1) t).1) == ((aclDecide (lFew8 l) t).1)) = true then decide (((aclDecide ((aclInsert (lFew8 l) at_ r).1) t).2.1) = ((aclDecide (lFew8 l) t).2.1)) else false) else false) else false)))))))
def lAclTurns (l : List Rule) (at_ : Int) (r : Rule) : Bool := (if ((aclInsert (lFew8 l) at_ r).2) ≠ 0 then (if lShown8 = true then decide (((((aclInsert (lFew8 l) at_ r).1.length) : Nat) : Int) = 0) else false) else (if at_ < 0 then false else (if ((((aclInsert (lFew8 l) at_ r).1.length) : Nat) : Int) ≤ at_ then false else (if ¬ (((((aclInsert (lFew8 l) at_ r).1).getD ((at_).toNat) default).allow) = r.allow ∧ ((((aclInsert (lFew8 l) at_ r).1).getD ((at_).toNat) default).pfx.addr) = r.pfx.addr ∧ ((((aclInsert (lFew8 l) at_ r).1).getD ((at_).toNat) default).pfx.bits) = r.pfx.bits ∧ ((((aclInsert (lFew8 l) at_ r).1).getD ((at_).toNat) default).prt.lo) = r.prt.lo ∧ ((((aclInsert (lFew8 l) at_ r).1).getD ((at_).toNat) default).prt.hi) = r.prt.hi) then false else (if ((((aclInsert (lFew8 l) at_ r).1.length) : Nat) : Int) ≠ (((((lFew8 l).length) : Nat) : Int) + 1) then false else (if lShown8 = true then (if ((aclRemove ((aclInsert (lFew8 l) at_ r).1) at_).2) = 0 then (if (rlSame ((aclRemove ((aclInsert (lFew8 l) at_ r).1) at_).1) (lFew8 l)) = true then (aclRight ((aclInsert (lFew8 l) at_ r).1)) else false) else false) else false))))))
def lAclLast (l : List Rule) (t : Target) (allow : Bool) : Bool := (if ((aclDecide (lFew8 l) t).2.2) ≠ 0 then lShown8 else (if ((aclInsert (lFew8 l) ((((lFew8 l).length) : Nat) : Int) (Rule.mk allow (Prefix.mk 0 0) (PortsT.mk 0 65535))).2) ≠ 0 then lShown8 else (if 0 ≤ ((aclDecide (lFew8 l) t).2.1) then (if lShown8 = true then (if ((aclDecide ((aclInsert (lFew8 l) ((((lFew8 l).length) : Nat) : Int) (Rule.mk allow (Prefix.mk 0 0) (PortsT.mk 0 65535))).1) t).2.2) = 0 then (if (((aclDecide ((aclInsert (lFew8 l) ((((lFew8 l).length) : Nat) : Int) (Rule.mk allow (Prefix.mk 0 0) (PortsT.mk 0 65535))).1) t).1) == ((aclDecide (lFew8 l) t).1)) = true then decide (((aclDecide ((aclInsert (lFew8 l) ((((lFew8 l).length) : Nat) : Int) (Rule.mk allow (Prefix.mk 0 0) (PortsT.mk 0 65535))).1) t).2.1) = ((aclDecide (lFew8 l) t).2.1)) else false) else false) else false) else (if lShown8 = true then (if ((aclDecide ((aclInsert (lFew8 l) ((((lFew8 l).length) : Nat) : Int) (Rule.mk allow (Prefix.mk 0 0) (PortsT.mk 0 65535))).1) t).2.2) = 0 then (if (((aclDecide ((aclInsert (lFew8 l) ((((lFew8 l).length) : Nat) : Int) (Rule.mk allow (Prefix.mk 0 0) (PortsT.mk 0 65535))).1) t).1) == allow) = true then decide (((aclDecide ((aclInsert (lFew8 l) ((((lFew8 l).length) : Nat) : Int) (Rule.mk allow (Prefix.mk 0 0) (PortsT.mk 0 65535))).1) t).2.1) = ((((lFew8 l).length) : Nat) : Int)) else false) else false) else false))))
def lAclNone (r : Rule) (t : Target) : Bool := (if ((aclDecide ([]) t).2.2) ≠ 0 then (if lShown8 = true then (if ((aclDecide ([]) t).2.2) = 71 then (if (!((aclDecide ([]) t).1)) = true then (if ((aclDecide ([]) t).2.1) = 0 then (if ((aclDecide ([r] : List Rule) t).2.2) ≠ 0 then (!((aclDecide ([r] : List Rule) t).1)) else false) else false) else false) else false) else false) else (if ((aclDecide ([r] : List Rule) t).2.2) ≠ 0 then (if lShown8 = true then (if ((aclDecide ([r] : List Rule) t).2.2) = 81 then (!(aclRight ([r] : List Rule))) else false) else false) else (if lShown8 = true then (if (!((aclDecide ([]) t).1)) = true then (if ((aclDecide ([]) t).2.1) = (-1) then (if (aclFits r t) = true then (if (((aclDecide ([r] : List Rule) t).1) == r.allow) = true then (if (decide (((aclDecide ([r] : List Rule) t).2.1) = 0) == (aclFits r t)) = true then (decide (((aclDecide ([r] : List Rule) t).2.1) = (-1)) == (!(aclFits r t))) else false) else false) else (if (((aclDecide ([r] : List Rule) t).1) == false) = true then (if (decide (((aclDecide ([r] : List Rule) t).2.1) = 0) == (aclFits r t)) = true then (decide (((aclDecide ([r] : List Rule) t).2.1) = (-1)) == (!(aclFits r t))) else false) else false)) else false) else false) else false)))
end Go.Proofs.YtnblakihpoacjaaGreatDoor.Jd

namespace Go.Proofs.YtnblakihpoacjaaGreatDoor.Jd
set_option linter.unusedVariables false
set_option linter.unusedSimpArgs false
theorem rIsAddr_t {a : Int} (h : rIsAddr a = true) : 0 ≤ a ∧ a ≤ 4294967295 := by
  unfold rIsAddr at h; split at h
  · exact ⟨‹_›, by simpa using h⟩
  · cases h
theorem isAddr_t {a : Int} (h : isAddr a = true) : 0 ≤ a ∧ a ≤ 4294967295 := by
  unfold isAddr at h; split at h
  · exact ⟨‹_›, by simpa using h⟩
  · cases h
theorem rSize_pow {bits : Int} (h : 0 ≤ bits ∧ bits ≤ 32) : rSize bits = 2 ^ (32 - bits).toNat := by
  obtain ⟨n, hn⟩ : ∃ n : Nat, bits = 32 - (n : Int) := ⟨(32 - bits).toNat, by omega⟩
  have h1 : (32 - bits).toNat = n := by omega
  have h2 : n ≤ 32 := by omega
  unfold rSize shlI
  rw [h1, show min n IntKind.i64.bits = n from by show min n 64 = n; omega, Int.one_mul]
  apply wrap_i64
  have h3 : (2 : Int) ^ n ≤ 2 ^ 32 := pow_mono h2
  have h4 : (0 : Int) < 2 ^ n := Int.pow_pos (by omega)
  omega
theorem rSize_bd {bits : Int} (h : 0 ≤ bits ∧ bits ≤ 32) : 1 ≤ rSize bits ∧ rSize bits ≤ 4294967296 := by
  rw [rSize_pow h]
  have h3 : (2 : Int) ^ (32 - bits).toNat ≤ 2 ^ 32 := pow_mono (by omega)
  have h4 : (0 : Int) < 2 ^ (32 - bits).toNat := Int.pow_pos (by omega)
  omega
theorem rRight_t {p : Prefix} (h : rRight p = true) : 0 ≤ p.bits ∧ p.bits ≤ 32 ∧ 0 ≤ p.addr ∧ p.addr ≤ 4294967295 := by
  unfold rRight at h
  split at h
  · split at h
    · split at h
      · have := rIsAddr_t ‹_›; omega
      · cases h
    · cases h
  · cases h
theorem aShort_t {p : Prefix} (h : aShort p = true) : 0 ≤ p.bits ∧ p.bits ≤ 32 ∧ 0 ≤ p.addr ∧ p.addr ≤ 4294967295 := by
  unfold aShort at h
  split at h
  · split at h
    · have := isAddr_t h; omega
    · cases h
  · cases h
theorem aRight_t {p : Prefix} (h : aRight p = true) : 0 ≤ p.bits ∧ p.bits ≤ 32 ∧ 0 ≤ p.addr ∧ p.addr ≤ 4294967295 := by
  apply aShort_t
  unfold aRight at h
  cases hs : aShort p
  · simp [hs] at h
  · rfl
theorem bytes_bd {a : Int} (h : 0 ≤ a ∧ a ≤ 4294967295) : (0 ≤ andI .i64 (shrI .i64 a 24) 255 ∧ andI .i64 (shrI .i64 a 24) 255 ≤ 255) ∧ (0 ≤ andI .i64 (shrI .i64 a 16) 255 ∧ andI .i64 (shrI .i64 a 16) 255 ≤ 255) ∧ (0 ≤ andI .i64 (shrI .i64 a 8) 255 ∧ andI .i64 (shrI .i64 a 8) 255 ≤ 255) ∧ (0 ≤ andI .i64 (shrI .i64 a 0) 255 ∧ andI .i64 (shrI .i64 a 0) 255 ≤ 255) :=
  ⟨(byte_at h 24 (by omega)).2, (byte_at h 16 (by omega)).2, (byte_at h 8 (by omega)).2, (byte_at h 0 (by omega)).2⟩
theorem print_len {x y z u : Str} (hx : x.length ≤ 21) (hy : y.length ≤ 21) (hz : z.length ≤ 21) (hu : u.length ≤ 21) : (Lib.join ((([x] ++ [y]) ++ [z]) ++ [u]) [46]).length ≤ 87 := by
  simp [Lib.join, List.intercalate]
  omega
theorem aPrint_len (a : Int) : (aPrint a).1.length ≤ 87 := by
  unfold aPrint
  split
  · simp
  · rename_i hn
    have h := isAddr_t (a := a) (by simpa using hn)
    have hbb := bytes_bd h
    exact print_len (itoa_len (by omega)) (itoa_len (by omega)) (itoa_len (by omega)) (itoa_len (by omega))
theorem num_small {n : Int} (h : 0 ≤ n ∧ n < 10) : (([48, 49, 50, 51, 52, 53, 54, 55, 56, 57] : Str).take (n + 1).toNat).drop n.toNat = Lib.itoa n := by
  obtain ⟨k, rfl⟩ : ∃ k : Nat, n = (k : Int) := ⟨n.toNat, by omega⟩
  have hk : k < 10 := by omega
  unfold Lib.itoa
  rw [if_neg (by omega), Int.toNat_natCast, Lib.decDigits, dif_pos hk, show ((k : Int) + 1).toNat = k + 1 by omega]
  match k, hk with
  | 0, _ | 1, _ | 2, _ | 3, _ | 4, _ | 5, _ | 6, _ | 7, _ | 8, _ | 9, _ => rfl
theorem num_big {n : Int} (h : 10 ≤ n) : Lib.itoa (n / 10) ++ (([48, 49, 50, 51, 52, 53, 54, 55, 56, 57] : Str).take (n % 10 + 1).toNat).drop (n % 10).toNat = Lib.itoa n := by
  obtain ⟨k, rfl⟩ : ∃ k : Nat, n = (k : Int) := ⟨n.toNat, by omega⟩
  rw [num_small (by omega)]
  unfold Lib.itoa
  rw [if_neg (by omega), if_neg (by omega), if_neg (by omega)]
  have e1 : ((k : Int) / 10).toNat = k / 10 := by omega
  have e2 : ((k : Int) % 10).toNat = k % 10 := by omega
  rw [e1, e2, Int.toNat_natCast, Lib.decDigits.eq_def k, dif_neg (by omega), Lib.decDigits.eq_def (k % 10), dif_pos (by omega)]
theorem rCut_l0_len (s : Str) (c : Int) : ∀ (n i : Nat), (∀ r, rCut_l0 s c n i = .error r → r.1.length ≤ s.length ∧ r.2.1.length ≤ s.length)
  | 0, i, r, h => by simp [rCut_l0] at h
  | n + 1, i, r, h => by
    unfold rCut_l0 at h
    split at h
    · split at h
      · injection h with h; subst h; simp only [List.length_take, List.length_drop]; omega
      · exact rCut_l0_len s c n _ r h
    · simp at h
theorem rCut_len (s : Str) (c : Int) : (rCut s c).1.length ≤ s.length ∧ (rCut s c).2.1.length ≤ s.length := by
  unfold rCut
  generalize hx : rCut_l0 s c _ _ = x
  cases x with
  | error r => exact rCut_l0_len s c _ _ r hx
  | ok v => simp [outc1]
theorem rNumber_l0_bd (s : Str) (most : Int) (hm : 0 ≤ most) : ∀ (n : Nat) (a : Int) (i : Nat), 0 ≤ a → (∀ r, rNumber_l0 s most n a i = .error r → r.2 = false) ∧ (∀ b j, rNumber_l0 s most n a i = .ok (b, j) → 0 ≤ b)
  | 0, a, i, h => by simp [rNumber_l0]; omega
  | n + 1, a, i, h => by
    unfold rNumber_l0
    split
    · split
      · simp
      · split
        · simp
        · split
          · simp
          · exact rNumber_l0_bd s most hm n _ _ (by omega)
    · simp; omega
theorem rNumber_bd {s : Str} {most : Int} (h : (rNumber s most).2 = true) (hm : 0 ≤ most := by decide) : 0 ≤ (rNumber s most).1 ∧ (rNumber s most).1 ≤ most := by
  have hb := rNumber_l0_bd s most hm (s.length + 1) 0 0 (by omega)
  unfold rNumber at h ⊢
  generalize rNumber_l0 s most (s.length + 1) 0 0 = x at *
  cases x with
  | error r => have := hb.1 r rfl; simp [outc2, this] at h
  | ok v =>
    have := hb.2 v.1 v.2 rfl
    simp only [outc2] at h ⊢
    split at h
    · rename_i hle
      rw [if_pos hle]; exact ⟨this, hle⟩
    · cases h
theorem rPrint_len (a : Int) : (rPrint a).1.length ≤ 87 := by
  unfold rPrint
  split
  · simp
  · rename_i hn
    have h := rIsAddr_t (a := a) (by simpa using hn)
    have h1 := itoa_len (n := a / 16777216) (by omega)
    have h2 := itoa_len (n := a / 65536 % 256) (by omega)
    have h3 := itoa_len (n := a / 256 % 256) (by omega)
    have h4 := itoa_len (n := a % 256) (by omega)
    simp only [List.length_append, List.length_cons, List.length_nil]
    omega
end Go.Proofs.YtnblakihpoacjaaGreatDoor.Jd

namespace Go.Proofs.YtnblakihpoacjaaGreatDoor.Jd
set_option linter.unusedVariables false
set_option linter.unusedSimpArgs false
theorem rPRight_t {p : PortsT} (h : rPRight p = true) : 0 ≤ p.lo ∧ p.lo ≤ p.hi ∧ p.hi ≤ 65535 := by
  unfold rPRight at h
  split at h
  · split at h
    · simp at h; omega
    · cases h
  · cases h
theorem pRight_t {p : PortsT} (h : pRight p = true) : 0 ≤ p.lo ∧ p.lo ≤ p.hi ∧ p.hi ≤ 65535 := by
  unfold pRight at h
  split at h
  · cases h
  · split at h
    · cases h
    · split at h
      · cases h
      · omega
end Go.Proofs.YtnblakihpoacjaaGreatDoor.Jd

namespace Go.Proofs.YtnblakihpoacjaaGreatDoor.Jd
open Go.Proofs
open Go.RowKit (Below)
set_option maxRecDepth 100000
set_option maxHeartbeats 8000000
set_option linter.unusedVariables false
set_option linter.unusedSimpArgs false
theorem mixed : Tryz.prog.follows .mixedOrders = true := by kernel_rfl
theorem FO_23_0 : FieldOff Tryz.prog 23 0 0 := fun r k w => by simp [Instr.fieldAt, Instr.sureAddr, fieldPlace, addr_add]
theorem FO_23_1 : FieldOff Tryz.prog 23 1 1 := fun r k w => by simp [Instr.fieldAt, Instr.sureAddr, fieldPlace, addr_add]
theorem FO_25_0 : FieldOff Tryz.prog 25 0 0 := fun r k w => by simp [Instr.fieldAt, Instr.sureAddr, fieldPlace, addr_add]
theorem FO_25_1 : FieldOff Tryz.prog 25 1 1 := fun r k w => by simp [Instr.fieldAt, Instr.sureAddr, fieldPlace, addr_add]
theorem FO_39_0 : FieldOff Tryz.prog 39 0 0 := fun r k w => by simp [Instr.fieldAt, Instr.sureAddr, fieldPlace, addr_add]
theorem FO_39_1 : FieldOff Tryz.prog 39 1 1 := fun r k w => by simp [Instr.fieldAt, Instr.sureAddr, fieldPlace, addr_add]
theorem FO_94_0 : FieldOff Tryz.prog 94 0 0 := fun r k w => by simp [Instr.fieldAt, Instr.sureAddr, fieldPlace, addr_add]
theorem FO_123_0 : FieldOff Tryz.prog 123 0 0 := fun r k w => by simp [Instr.fieldAt, Instr.sureAddr, fieldPlace, addr_add]
theorem FO_128_0 : FieldOff Tryz.prog 128 0 0 := fun r k w => by simp [Instr.fieldAt, Instr.sureAddr, fieldPlace, addr_add]
theorem FO_158_0 : FieldOff Tryz.prog 158 0 0 := fun r k w => by simp [Instr.fieldAt, Instr.sureAddr, fieldPlace, addr_add]
theorem FO_158_1 : FieldOff Tryz.prog 158 1 1 := fun r k w => by simp [Instr.fieldAt, Instr.sureAddr, fieldPlace, addr_add]
theorem FO_158_2 : FieldOff Tryz.prog 158 2 5 := fun r k w => by simp [Instr.fieldAt, Instr.sureAddr, fieldPlace, addr_add]
theorem FO_162_0 : FieldOff Tryz.prog 162 0 0 := fun r k w => by simp [Instr.fieldAt, Instr.sureAddr, fieldPlace, addr_add]
theorem FO_164_0 : FieldOff Tryz.prog 164 0 0 := fun r k w => by simp [Instr.fieldAt, Instr.sureAddr, fieldPlace, addr_add]
theorem PL_23 : Places Tryz.prog 23 [(0, 1), (1, 1)] := ⟨_, fun w => Tryz.runUnderlying23 w, fun w => by simp⟩
theorem PL_25 : Places Tryz.prog 25 [(0, 1), (1, 1)] := ⟨_, fun w => Tryz.runUnderlying25 w, fun w => by simp⟩
theorem PL_94 : Places Tryz.prog 94 [(0, 1)] := ⟨_, fun w => Tryz.runUnderlying94 w, fun w => by simp⟩
theorem PL_123 : Places Tryz.prog 123 [(0, 2)] := ⟨_, fun w => Tryz.runUnderlying123 w, fun w => by simp⟩
theorem PL_128 : Places Tryz.prog 128 [(0, 2)] := ⟨_, fun w => Tryz.runUnderlying128 w, fun w => by simp⟩
theorem PL_158 : Places Tryz.prog 158 [(0, 1), (1, 4), (5, 1)] := ⟨_, fun w => Tryz.runUnderlying158 w, fun w => by simp⟩
theorem PL_162 : Places Tryz.prog 162 [(0, 1)] := ⟨_, fun w => Tryz.runUnderlying162 w, fun w => by simp⟩
theorem PL_164 : Places Tryz.prog 164 [(0, 1)] := ⟨_, fun w => Tryz.runUnderlying164 w, fun w => by simp⟩
theorem EQH_25 (a0 b0 : Int) (a1 b1 : Int) (n : Nat) (w : World) : (Op.equalIn (n + 2) 25 (Value.agg [Value.int .i64 a0, Value.int .i64 a1].toArray) (Value.agg [Value.int .i64 b0, Value.int .i64 b1].toArray)).run Tryz.prog w = .ok (decide (a0 = b0 ∧ a1 = b1)) w := by
  rw [show n + 2 = (n + 1) + 1 from rfl]
  unfold Op.equalIn
  simp [part, run_eqI (P := Tryz.prog) (t := 3) n .i64 _ _ Tryz.runUnderlying3]
  by_cases h0 : a0 = b0 <;> by_cases h1 : a1 = b1 <;> simp_all
theorem EQ_25 (x y : Operand) (a0 b0 : Int) (a1 b1 : Int) (w : World) : (do eqGuard .eql 25 x y (Value.agg [Value.int .i64 a0, Value.int .i64 a1].toArray) (Value.agg [Value.int .i64 b0, Value.int .i64 b1].toArray); binOp .eql 25 (Value.agg [Value.int .i64 a0, Value.int .i64 a1].toArray) (Value.agg [Value.int .i64 b0, Value.int .i64 b1].toArray) : Sem Value).run Tryz.prog w = .ok (.bool (decide (a0 = b0 ∧ a1 = b1))) w := by
  have h2 : (binOp .eql 25 (Value.agg [Value.int .i64 a0, Value.int .i64 a1].toArray) (Value.agg [Value.int .i64 b0, Value.int .i64 b1].toArray)).run Tryz.prog w = .ok (.bool (decide (a0 = b0 ∧ a1 = b1))) w := by
    show (do pure (.bool (← Op.equal 25 _ _)) : Sem Value).run Tryz.prog w = _
    simp only [Sem.run_bind, Op.equal, Op.maxDepth, EQH_25 a0 b0 a1 b1 9998, Result.andThen_ok, Sem.run_pure]
  simp [eqGuard]
  simpa using h2
theorem TY_9 : Ty Tryz.prog 9 1 16 (Value.string (bs ([] : Str))) := ⟨⟨Tryz.t9, by kernel_rfl, rfl, rfl, rfl⟩, rfl⟩
theorem rIsAddr_ok (w : World) {a : Int} : Val Tryz.prog 80 [(Value.int .i64 (a))] w (Value.bool ((rIsAddr a))) := by
  have hF := Is.refl (rIsAddr a)
  refine enter Tryz.func80 Tryz.ntmps80 (h := ?_)
  refine J_seq ?_
  refine J_reg ?_
  refine JL_q (q_assign) (k := ?_)
  refine JL_nil ?_
  refine JX_seq ?_
  refine J_seq ?_
  refine J_reg ?_
  refine JL_q (q_move) (k := ?_)
  refine JL_q (q_geq) (k := ?_)
  refine JL_q (q_move) (k := ?_)
  refine JL_dec 5 rfl (fun hq1 => ?_) (fun hq1 => ?_)
  rotate_left
  · refine JL_skips 2 rfl ?_
    refine JL_q (q_pickF) (k := ?_)
    refine JL_q (q_assign) (k := ?_)
    refine JL_nil ?_
    refine JX_seq ?_
    refine J_ret ?_
    refine JX_ret Tryz.results80 (Res.tmp rfl Res.nil) (fun w1 hw1 => ?_)
    exact ⟨(by rw [((hF.neg hq1)).eq] <;> first | rfl | (simp only [List.length_set] <;> rfl)), hw1.ext_out⟩
  refine JL_qg (q_move) (k := ?_)
  refine JL_qg (q_leq) (k := ?_)
  refine JL_q (q_pickT) (k := ?_)
  refine JL_q (q_assign) (k := ?_)
  refine JL_nil ?_
  refine JX_seq ?_
  refine J_ret ?_
  refine JX_ret Tryz.results80 (Res.tmp rfl Res.nil) (fun w1 hw1 => ?_)
  exact ⟨(by rw [((hF.pos hq1)).eq] <;> first | rfl | (simp only [List.length_set] <;> rfl)), hw1.ext_out⟩

theorem isAddr_ok (w : World) {a : Int} : Val Tryz.prog 90 [(Value.int .i64 (a))] w (Value.bool ((isAddr a))) := by
  have hF := Is.refl (isAddr a)
  refine enter Tryz.func90 Tryz.ntmps90 (h := ?_)
  refine J_seq ?_
  refine J_reg ?_
  refine JL_q (q_assign) (k := ?_)
  refine JL_nil ?_
  refine JX_seq ?_
  refine J_seq ?_
  refine J_reg ?_
  refine JL_q (q_move) (k := ?_)
  refine JL_q (q_geq) (k := ?_)
  refine JL_q (q_move) (k := ?_)
  refine JL_dec 5 rfl (fun hq1 => ?_) (fun hq1 => ?_)
  rotate_left
  · refine JL_skips 2 rfl ?_
    refine JL_q (q_pickF) (k := ?_)
    refine JL_q (q_assign) (k := ?_)
    refine JL_nil ?_
    refine JX_seq ?_
    refine J_ret ?_
    refine JX_ret Tryz.results90 (Res.tmp rfl Res.nil) (fun w1 hw1 => ?_)
    exact ⟨(by rw [((hF.neg hq1)).eq] <;> first | rfl | (simp only [List.length_set] <;> rfl)), hw1.ext_out⟩
  refine JL_qg (q_move) (k := ?_)
  refine JL_qg (q_leq) (k := ?_)
  refine JL_q (q_pickT) (k := ?_)
  refine JL_q (q_assign) (k := ?_)
  refine JL_nil ?_
  refine JX_seq ?_
  refine J_ret ?_
  refine JX_ret Tryz.results90 (Res.tmp rfl Res.nil) (fun w1 hw1 => ?_)
  exact ⟨(by rw [((hF.pos hq1)).eq] <;> first | rfl | (simp only [List.length_set] <;> rfl)), hw1.ext_out⟩

theorem rSize_ok (w : World) {bits : Int} (hb : 0 ≤ bits ∧ bits ≤ 32) : Val Tryz.prog 81 [(Value.int .i64 (bits))] w (Value.int .i64 ((rSize bits))) := by
  have hF := Is.refl (rSize bits)
  refine enter Tryz.func81 Tryz.ntmps81 (h := ?_)
  refine J_seq ?_
  refine J_reg ?_
  refine JL_q (q_assign) (k := ?_)
  refine JL_nil ?_
  refine JX_seq ?_
  refine J_seq ?_
  refine J_reg ?_
  refine JL_q (q_move) (k := ?_)
  refine JL_q (q_sub) (k := ?_)
  refine JL_q (q_shlW) (k := ?_)
  refine JL_q (q_assign) (k := ?_)
  refine JL_nil ?_
  refine JX_seq ?_
  refine J_ret ?_
  refine JX_ret Tryz.results81 (Res.tmp rfl Res.nil) (fun w1 hw1 => ?_)
  exact ⟨(by rw [(hF).eq] <;> first | rfl | (simp only [List.length_set] <;> rfl)), hw1.ext_out⟩

theorem rRight_ok (w : World) {p : Prefix} : Val Tryz.prog 71 [(Value.agg [(Value.int .i64 (p.addr)), (Value.int .i64 (p.bits))].toArray)] w (Value.bool ((rRight p))) := by
  have hF := Is.refl (rRight p)
  refine enter Tryz.func71 Tryz.ntmps71 (h := ?_)
  refine J_seq ?_
  refine J_reg ?_
  refine JL_a noMk (a_box (l := [_, _])) (k := fun r1 hr1 => ?_)
  refine JL_q (q_assign) (k := ?_)
  refine JL_nil ?_
  refine JX_seq ?_
  refine J_seq ?_
  refine J_plan mixed 23 [(true, 0), (true, 1), (true, 2), (true, 3), (true, 4), (true, 5), (true, 6), (true, 7), (true, 8), (true, 9), (true, 10), (false, 11), (true, 12), (true, 13), (true, 14), (true, 15), (true, 16), (true, 17), (false, 18), (true, 19), (true, 20), (true, 21), (true, 22)] (by kernel_rfl) ?_
  refine JD_q (q_fld FO_23_1) (k := ?_)
  refine JD_q (q_load Tryz.isAgg3) (k := ?_)
  refine JD_q (q_geq) (k := ?_)
  refine JD_q (q_move) (k := ?_)
  refine JD_dec 6 rfl (fun hq1 => ?_) (fun hq1 => ?_)
  rotate_left
  · refine JD_skips 3 rfl ?_
    refine JD_q (q_pickF) (k := ?_)
    refine JD_q (q_move) (k := ?_)
    refine JD_skips 3 rfl ?_
    refine JD_q (q_pickF) (k := ?_)
    refine JD_q (q_move) (k := ?_)
    refine JD_skips 7 rfl ?_
    refine JD_q (q_pickF) (k := ?_)
    refine JD_q (q_assign) (k := ?_)
    refine JD_nil0 ?_
    refine JL_nil ?_
    refine JX_seq ?_
    refine J_ret ?_
    refine JX_ret Tryz.results71 (Res.tmp rfl Res.nil) (fun w1 hw1 => ?_)
    exact ⟨(by rw [((hF.neg hq1)).eq] <;> first | rfl | (simp only [List.length_set] <;> rfl)), hw1.ext_out⟩
  refine JD_qg (q_fld FO_23_1) (k := ?_)
  refine JD_qg (q_load Tryz.isAgg3) (k := ?_)
  refine JD_qg (q_leq) (k := ?_)
  refine JD_q (q_pickT) (k := ?_)
  refine JD_q (q_move) (k := ?_)
  refine JD_dec 11 rfl (fun hq2 => ?_) (fun hq2 => ?_)
  rotate_left
  · refine JD_skips 3 rfl ?_
    refine JD_q (q_pickF) (k := ?_)
    refine JD_q (q_move) (k := ?_)
    refine JD_skips 7 rfl ?_
    refine JD_q (q_pickF) (k := ?_)
    refine JD_q (q_assign) (k := ?_)
    refine JD_nil0 ?_
    refine JL_nil ?_
    refine JX_seq ?_
    refine J_ret ?_
    refine JX_ret Tryz.results71 (Res.tmp rfl Res.nil) (fun w1 hw1 => ?_)
    exact ⟨(by rw [(((hF.pos hq1).neg hq2)).eq] <;> first | rfl | (simp only [List.length_set] <;> rfl)), hw1.ext_out⟩
  refine JD_qg (q_fld FO_23_0) (k := ?_)
  refine JD_qg (q_load Tryz.isAgg3) (k := ?_)
  refine JD_vg (args := [(Value.int .i64 (p.addr))]) (c_callA Tryz.call80) (fun w1 hw1 => rIsAddr_ok w1 (a := p.addr)) (k := ?_)
  refine JD_q (q_pickT) (k := ?_)
  refine JD_q (q_move) (k := ?_)
  refine JD_bool 16 rfl (fun hq3 => ?_) (fun hq3 => ?_)
  rotate_left
  · refine JD_skips 7 rfl ?_
    refine JD_q (q_pickF) (k := ?_)
    refine JD_q (q_assign) (k := ?_)
    refine JD_nil0 ?_
    refine JL_nil ?_
    refine JX_seq ?_
    refine J_ret ?_
    refine JX_ret Tryz.results71 (Res.tmp rfl Res.nil) (fun w1 hw1 => ?_)
    exact ⟨(by rw [((((hF.pos hq1).pos hq2).f hq3)).eq] <;> first | rfl | (simp only [List.length_set] <;> rfl)), hw1.ext_out⟩
  have hfhq3 := rIsAddr_t hq3
  refine JD_qg (q_fld FO_23_0) (k := ?_)
  refine JD_qg (q_load Tryz.isAgg3) (k := ?_)
  refine JD_qg (q_fld FO_23_1) (k := ?_)
  refine JD_qg (q_load Tryz.isAgg3) (k := ?_)
  refine JD_vg (args := [(Value.int .i64 (p.bits))]) (c_callA Tryz.call81) (fun w1 hw1 => rSize_ok w1 (bits := p.bits) (hb := by first | exact lb | decide)) (k := ?_)
  have hs_6199 := rSize_bd (bits := p.bits) (by omega)
  refine JD_qg (q_rem) (k := ?_)
  refine JD_qg (q_eql) (k := ?_)
  refine JD_q (q_pickT) (k := ?_)
  refine JD_q (q_assign) (k := ?_)
  refine JD_nil0 ?_
  refine JL_nil ?_
  refine JX_seq ?_
  refine J_ret ?_
  refine JX_ret Tryz.results71 (Res.tmp rfl Res.nil) (fun w1 hw1 => ?_)
  exact ⟨(by rw [((((hF.pos hq1).pos hq2).t hq3)).eq] <;> first | rfl | (simp only [List.length_set] <;> rfl)), hw1.ext_out⟩

theorem rHas_ok (w : World) {p : Prefix} {a : Int} : Val Tryz.prog 49 [(Value.agg [(Value.int .i64 (p.addr)), (Value.int .i64 (p.bits))].toArray), (Value.int .i64 (a))] w (Value.bool ((rHas p a))) := by
  have hF := Is.refl (rHas p a)
  refine enter Tryz.func49 Tryz.ntmps49 (h := ?_)
  refine J_seq ?_
  refine J_reg ?_
  refine JL_a noMk (a_box (l := [_, _])) (k := fun r1 hr1 => ?_)
  refine JL_q (q_assign) (k := ?_)
  refine JL_nil ?_
  refine JX_seq ?_
  refine J_seq ?_
  refine J_plan mixed 23 [(true, 0), (false, 1), (true, 2), (true, 3), (false, 4), (true, 5), (true, 6), (true, 7), (true, 8), (true, 9), (true, 10), (true, 11), (true, 12), (true, 13), (true, 14), (true, 15), (true, 16), (true, 17), (false, 18), (true, 19), (true, 20), (true, 21), (true, 22)] (by kernel_rfl) ?_
  refine JD_q (q_loadA Tryz.isAgg23 Tryz.sizeOf23) (k := ?_)
  refine JD_v (args := [(Value.agg [(Value.int .i64 (p.addr)), (Value.int .i64 (p.bits))].toArray)]) (c_callA Tryz.call71) (fun w1 hw1 => rRight_ok w1 (p := p)) (k := ?_)
  refine JD_q (q_move) (k := ?_)
  refine JD_bool 7 rfl (fun hq1 => ?_) (fun hq1 => ?_)
  rotate_left
  · refine JD_skips 2 rfl ?_
    refine JD_q (q_pickF) (k := ?_)
    refine JD_q (q_move) (k := ?_)
    refine JD_skips 4 rfl ?_
    refine JD_q (q_pickF) (k := ?_)
    refine JD_q (q_move) (k := ?_)
    refine JD_skips 8 rfl ?_
    refine JD_q (q_pickF) (k := ?_)
    refine JD_q (q_assign) (k := ?_)
    refine JD_nil0 ?_
    refine JL_nil ?_
    refine JX_seq ?_
    refine J_ret ?_
    refine JX_ret Tryz.results49 (Res.tmp rfl Res.nil) (fun w1 hw1 => ?_)
    exact ⟨(by rw [((hF.f hq1)).eq] <;> first | rfl | (simp only [List.length_set] <;> rfl)), hw1.ext_out⟩
  have hfhq1 := rRight_t hq1
  refine JD_qg (q_move) (k := ?_)
  refine JD_vg (args := [(Value.int .i64 (a))]) (c_callA Tryz.call80) (fun w1 hw1 => rIsAddr_ok w1 (a := a)) (k := ?_)
  refine JD_q (q_pickT) (k := ?_)
  refine JD_q (q_move) (k := ?_)
  refine JD_bool 11 rfl (fun hq2 => ?_) (fun hq2 => ?_)
  rotate_left
  · refine JD_skips 4 rfl ?_
    refine JD_q (q_pickF) (k := ?_)
    refine JD_q (q_move) (k := ?_)
    refine JD_skips 8 rfl ?_
    refine JD_q (q_pickF) (k := ?_)
    refine JD_q (q_assign) (k := ?_)
    refine JD_nil0 ?_
    refine JL_nil ?_
    refine JX_seq ?_
    refine J_ret ?_
    refine JX_ret Tryz.results49 (Res.tmp rfl Res.nil) (fun w1 hw1 => ?_)
    exact ⟨(by rw [(((hF.t hq1).f hq2)).eq] <;> first | rfl | (simp only [List.length_set] <;> rfl)), hw1.ext_out⟩
  have hfhq2 := rIsAddr_t hq2
  refine JD_qg (q_move) (k := ?_)
  refine JD_qg (q_fld FO_23_0) (k := ?_)
  refine JD_qg (q_load Tryz.isAgg3) (k := ?_)
  refine JD_qg (q_geq) (k := ?_)
  refine JD_q (q_pickT) (k := ?_)
  refine JD_q (q_move) (k := ?_)
  refine JD_dec 17 rfl (fun hq3 => ?_) (fun hq3 => ?_)
  rotate_left
  · refine JD_skips 8 rfl ?_
    refine JD_q (q_pickF) (k := ?_)
    refine JD_q (q_assign) (k := ?_)
    refine JD_nil0 ?_
    refine JL_nil ?_
    refine JX_seq ?_
    refine J_ret ?_
    refine JX_ret Tryz.results49 (Res.tmp rfl Res.nil) (fun w1 hw1 => ?_)
    exact ⟨(by rw [((((hF.t hq1).t hq2).neg hq3)).eq] <;> first | rfl | (simp only [List.length_set] <;> rfl)), hw1.ext_out⟩
  refine JD_qg (q_move) (k := ?_)
  refine JD_qg (q_fld FO_23_0) (k := ?_)
  refine JD_qg (q_load Tryz.isAgg3) (k := ?_)
  refine JD_qg (q_fld FO_23_1) (k := ?_)
  refine JD_qg (q_load Tryz.isAgg3) (k := ?_)
  refine JD_vg (args := [(Value.int .i64 (p.bits))]) (c_callA Tryz.call81) (fun w1 hw1 => rSize_ok w1 (bits := p.bits) (hb := by first | exact lb | decide)) (k := ?_)
  have hs_6199 := rSize_bd (bits := p.bits) (by omega)
  refine JD_qg (q_add) (k := ?_)
  refine JD_qg (q_lss) (k := ?_)
  refine JD_q (q_pickT) (k := ?_)
  refine JD_q (q_assign) (k := ?_)
  refine JD_nil0 ?_
  refine JL_nil ?_
  refine JX_seq ?_
  refine J_ret ?_
  refine JX_ret Tryz.results49 (Res.tmp rfl Res.nil) (fun w1 hw1 => ?_)
  exact ⟨(by rw [((((hF.t hq1).t hq2).pos hq3)).eq] <;> first | rfl | (simp only [List.length_set] <;> rfl)), hw1.ext_out⟩

theorem aRest_ok (w : World) {p : Prefix} (hb : 0 ≤ p.bits ∧ p.bits ≤ 32) : Val Tryz.prog 111 [(Value.agg [(Value.int .i64 (p.addr)), (Value.int .i64 (p.bits))].toArray)] w (Value.int .i64 ((aRest p))) := by
  have hF := Is.refl (aRest p)
  refine enter Tryz.func111 Tryz.ntmps111 (h := ?_)
  refine J_seq ?_
  refine J_reg ?_
  refine JL_a noMk (a_box (l := [_, _])) (k := fun r1 hr1 => ?_)
  refine JL_q (q_assign) (k := ?_)
  refine JL_nil ?_
  refine JX_seq ?_
  refine J_seq ?_
  refine J_reg ?_
  refine JL_q (q_fld FO_123_0) (k := ?_)
  refine JL_q (q_fld FO_23_1) (k := ?_)
  refine JL_q (q_load Tryz.isAgg3) (k := ?_)
  refine JL_q (q_sub) (k := ?_)
  refine JL_q (q_shlW) (k := ?_)
  refine JL_q (q_sub (h := by (have := rSize_bd (bits := p.bits) (by omega); simp only [rSize] at this; omega))) (k := ?_)
  refine JL_q (q_assign) (k := ?_)
  refine JL_nil ?_
  refine JX_seq ?_
  refine J_ret ?_
  refine JX_ret Tryz.results111 (Res.tmp rfl Res.nil) (fun w1 hw1 => ?_)
  exact ⟨(by rw [(hF).eq] <;> first | rfl | (simp only [List.length_set] <;> rfl)), hw1.ext_out⟩

theorem aShort_ok (w : World) {p : Prefix} : Val Tryz.prog 82 [(Value.agg [(Value.int .i64 (p.addr)), (Value.int .i64 (p.bits))].toArray)] w (Value.bool ((aShort p))) := by
  have hF := Is.refl (aShort p)
  refine enter Tryz.func82 Tryz.ntmps82 (h := ?_)
  refine J_seq ?_
  refine J_reg ?_
  refine JL_a noMk (a_box (l := [_, _])) (k := fun r1 hr1 => ?_)
  refine JL_q (q_assign) (k := ?_)
  refine JL_nil ?_
  refine JX_seq ?_
  refine J_seq ?_
  refine J_reg ?_
  refine JL_q (q_fld FO_123_0) (k := ?_)
  refine JL_q (q_fld FO_23_1) (k := ?_)
  refine JL_q (q_load Tryz.isAgg3) (k := ?_)
  refine JL_q (q_geq) (k := ?_)
  refine JL_q (q_move) (k := ?_)
  refine JL_dec 7 rfl (fun hq1 => ?_) (fun hq1 => ?_)
  rotate_left
  · refine JL_skips 4 rfl ?_
    refine JL_q (q_pickF) (k := ?_)
    refine JL_q (q_move) (k := ?_)
    refine JL_skips 4 rfl ?_
    refine JL_q (q_pickF) (k := ?_)
    refine JL_q (q_assign) (k := ?_)
    refine JL_nil ?_
    refine JX_seq ?_
    refine J_ret ?_
    refine JX_ret Tryz.results82 (Res.tmp rfl Res.nil) (fun w1 hw1 => ?_)
    exact ⟨(by rw [((hF.neg hq1)).eq] <;> first | rfl | (simp only [List.length_set] <;> rfl)), hw1.ext_out⟩
  refine JL_qg (q_fld FO_123_0) (k := ?_)
  refine JL_qg (q_fld FO_23_1) (k := ?_)
  refine JL_qg (q_load Tryz.isAgg3) (k := ?_)
  refine JL_qg (q_leq) (k := ?_)
  refine JL_q (q_pickT) (k := ?_)
  refine JL_q (q_move) (k := ?_)
  refine JL_dec 13 rfl (fun hq2 => ?_) (fun hq2 => ?_)
  rotate_left
  · refine JL_skips 4 rfl ?_
    refine JL_q (q_pickF) (k := ?_)
    refine JL_q (q_assign) (k := ?_)
    refine JL_nil ?_
    refine JX_seq ?_
    refine J_ret ?_
    refine JX_ret Tryz.results82 (Res.tmp rfl Res.nil) (fun w1 hw1 => ?_)
    exact ⟨(by rw [(((hF.pos hq1).neg hq2)).eq] <;> first | rfl | (simp only [List.length_set] <;> rfl)), hw1.ext_out⟩
  refine JL_qg (q_fld FO_123_0) (k := ?_)
  refine JL_qg (q_fld FO_23_0) (k := ?_)
  refine JL_qg (q_load Tryz.isAgg3) (k := ?_)
  refine JL_vg (args := [(Value.int .i64 (p.addr))]) (c_callA Tryz.call90) (fun w1 hw1 => isAddr_ok w1 (a := p.addr)) (k := ?_)
  refine JL_q (q_pickT) (k := ?_)
  refine JL_q (q_assign) (k := ?_)
  refine JL_nil ?_
  refine JX_seq ?_
  refine J_ret ?_
  refine JX_ret Tryz.results82 (Res.tmp rfl Res.nil) (fun w1 hw1 => ?_)
  exact ⟨(by rw [(((hF.pos hq1).pos hq2)).eq] <;> first | rfl | (simp only [List.length_set] <;> rfl)), hw1.ext_out⟩

theorem aEven_ok (w : World) {p : Prefix} (hb : 0 ≤ p.bits ∧ p.bits ≤ 32) : Val Tryz.prog 83 [(Value.agg [(Value.int .i64 (p.addr)), (Value.int .i64 (p.bits))].toArray)] w (Value.bool ((aEven p))) := by
  have hF := Is.refl (aEven p)
  refine enter Tryz.func83 Tryz.ntmps83 (h := ?_)
  refine J_seq ?_
  refine J_reg ?_
  refine JL_a noMk (a_box (l := [_, _])) (k := fun r1 hr1 => ?_)
  refine JL_q (q_assign) (k := ?_)
  refine JL_nil ?_
  refine JX_seq ?_
  refine J_seq ?_
  refine J_plan mixed 8 [(true, 0), (true, 1), (true, 2), (true, 3), (false, 4), (true, 5), (true, 6), (true, 7)] (by kernel_rfl) ?_
  refine JD_q (q_fld FO_123_0) (k := ?_)
  refine JD_q (q_fld FO_23_0) (k := ?_)
  refine JD_q (q_load Tryz.isAgg3) (k := ?_)
  refine JD_q (q_loadA Tryz.isAgg123 Tryz.sizeOf123) (k := ?_)
  refine JD_v (args := [(Value.agg [(Value.int .i64 (p.addr)), (Value.int .i64 (p.bits))].toArray)]) (c_callA Tryz.call111) (fun w1 hw1 => aRest_ok w1 (p := p) (hb := by first | exact lb | decide)) (k := ?_)
  refine JD_q (q_andW) (k := ?_)
  refine JD_q (q_eql) (k := ?_)
  refine JD_q (q_assign) (k := ?_)
  refine JD_nil0 ?_
  refine JL_nil ?_
  refine JX_seq ?_
  refine J_ret ?_
  refine JX_ret Tryz.results83 (Res.tmp rfl Res.nil) (fun w1 hw1 => ?_)
  exact ⟨(by rw [(hF).eq] <;> first | rfl | (simp only [List.length_set] <;> rfl)), hw1.ext_out⟩

theorem aRight_ok (w : World) {p : Prefix} : Val Tryz.prog 52 [(Value.agg [(Value.int .i64 (p.addr)), (Value.int .i64 (p.bits))].toArray)] w (Value.bool ((aRight p))) := by
  have hF := Is.refl (aRight p)
  refine enter Tryz.func52 Tryz.ntmps52 (h := ?_)
  refine J_seq ?_
  refine J_reg ?_
  refine JL_a noMk (a_box (l := [_, _])) (k := fun r1 hr1 => ?_)
  refine JL_q (q_assign) (k := ?_)
  refine JL_nil ?_
  refine JX_seq ?_
  refine J_seq ?_
  refine J_seq ?_
  refine J_reg ?_
  refine JL_a noMk (a_bslice (l := [_, _]) Tryz.runUnderlying124 Tryz.sizeOf121 Tryz.zeroValue121) (k := fun r2 hr2 => ?_)
  refine JL_q (q_lenS Tryz.runUnderlying124) (k := ?_)
  refine JL_q (q_move) (k := ?_)
  refine JL_nil ?_
  refine JX_seq ?_
  refine J_block ?_
  refine J_unroll ?_
  refine J_seq ?_
  refine J_reg ?_
  refine JL_q (q_lss) (k := ?_)
  refine JL_nil ?_
  refine JX_seq ?_
  refine J_seq ?_
  refine J_true rfl ?_
  refine J_skip ?_
  refine JX_seq ?_
  refine J_seq ?_
  refine J_block ?_
  refine J_seq ?_
  refine J_reg ?_
  refine JL_q (q_idxO Tryz.runUnderlying124 Tryz.sizeOf121 0) (k := ?_)
  refine JL_q (q_load Tryz.isAgg121) (k := ?_)
  refine JL_q (q_assign) (k := ?_)
  refine JL_nil ?_
  refine JX_seq ?_
  refine J_seq ?_
  refine J_reg ?_
  refine JL_q (q_move) (k := ?_)
  refine JL_q (q_loadA Tryz.isAgg23 Tryz.sizeOf23) (k := ?_)
  refine JL_q (q_build (cs := [_, _]) Tryz.zeroValue123 PL_123) (k := ?_)
  refine JL_v (args := [(Value.agg [(Value.int .i64 (p.addr)), (Value.int .i64 (p.bits))].toArray)]) (c_callA Tryz.call82) (fun w1 hw1 => aShort_ok w1 (p := p)) (k := ?_)
  refine JL_q (q_not) (k := ?_)
  refine JL_nil ?_
  refine JX_seq ?_
  refine J_cond rfl (fun hq1 => ?_) (fun hq1 => ?_)
  · refine J_seq ?_
    refine J_reg ?_
    refine JL_q (q_assign) (k := ?_)
    refine JL_nil ?_
    refine JX_seq ?_
    refine J_ret ?_
    refine JX_block_ret ?_
    refine JX_seq_ret ?_
    refine JX_inv_ret ?_
    refine JX_block_ret ?_
    refine JX_seq_ret ?_
    refine JX_ret Tryz.results52 (Res.tmp rfl Res.nil) (fun w1 hw1 => ?_)
    exact ⟨(by rw [((hF.t hq1)).eq] <;> first | rfl | (simp only [List.length_set] <;> rfl)), hw1.ext_out⟩
  have hfhq1 := aShort_t (by simpa using hq1)
  refine J_skip ?_
  refine JX_block ?_
  refine JX_seq ?_
  refine J_reg ?_
  refine JL_q (q_add) (k := ?_)
  refine JL_q (q_move) (k := ?_)
  refine JL_nil ?_
  refine JX_again ?_
  refine J_seq ?_
  refine J_reg ?_
  refine JL_q (q_lss) (k := ?_)
  refine JL_nil ?_
  refine JX_seq ?_
  refine J_seq ?_
  refine J_true rfl ?_
  refine J_skip ?_
  refine JX_seq ?_
  refine J_seq ?_
  refine J_block ?_
  refine J_seq ?_
  refine J_reg ?_
  refine JL_q (q_idxO Tryz.runUnderlying124 Tryz.sizeOf121 1) (k := ?_)
  refine JL_q (q_load Tryz.isAgg121) (k := ?_)
  refine JL_q (q_assign) (k := ?_)
  refine JL_nil ?_
  refine JX_seq ?_
  refine J_seq ?_
  refine J_reg ?_
  refine JL_q (q_move) (k := ?_)
  refine JL_q (q_loadA Tryz.isAgg23 Tryz.sizeOf23) (k := ?_)
  refine JL_q (q_build (cs := [_, _]) Tryz.zeroValue123 PL_123) (k := ?_)
  refine JL_v (args := [(Value.agg [(Value.int .i64 (p.addr)), (Value.int .i64 (p.bits))].toArray)]) (c_callA Tryz.call83) (fun w1 hw1 => aEven_ok w1 (p := p) (hb := by first | exact lb | decide)) (k := ?_)
  refine JL_q (q_not) (k := ?_)
  refine JL_nil ?_
  refine JX_seq ?_
  refine J_cond rfl (fun hq2 => ?_) (fun hq2 => ?_)
  · refine J_seq ?_
    refine J_reg ?_
    refine JL_q (q_assign) (k := ?_)
    refine JL_nil ?_
    refine JX_seq ?_
    refine J_ret ?_
    refine JX_block_ret ?_
    refine JX_seq_ret ?_
    refine JX_inv_ret ?_
    refine JX_block_ret ?_
    refine JX_seq_ret ?_
    refine JX_ret Tryz.results52 (Res.tmp rfl Res.nil) (fun w1 hw1 => ?_)
    exact ⟨(by rw [(((hF.f hq1).t hq2)).eq] <;> first | rfl | (simp only [List.length_set] <;> rfl)), hw1.ext_out⟩
  refine J_skip ?_
  refine JX_block ?_
  refine JX_seq ?_
  refine J_reg ?_
  refine JL_q (q_add) (k := ?_)
  refine JL_q (q_move) (k := ?_)
  refine JL_nil ?_
  refine JX_again ?_
  refine J_seq ?_
  refine J_reg ?_
  refine JL_q (q_lss) (k := ?_)
  refine JL_nil ?_
  refine JX_seq ?_
  refine J_seq ?_
  refine J_false rfl ?_
  refine J_exit ?_
  refine JX_seq_exit ?_
  refine JX_inv_exit ?_
  refine JX_block_hit ?_
  refine JX_seq ?_
  refine J_seq ?_
  refine J_reg ?_
  refine JL_q (q_assign) (k := ?_)
  refine JL_nil ?_
  refine JX_seq ?_
  refine J_ret ?_
  refine JX_ret Tryz.results52 (Res.tmp rfl Res.nil) (fun w1 hw1 => ?_)
  exact ⟨(by rw [(((hF.f hq1).f hq2)).eq] <;> first | rfl | (simp only [List.length_set] <;> rfl)), hw1.ext_out⟩

theorem aHas_ok (w : World) {p : Prefix} {a : Int} : Val Tryz.prog 77 [(Value.agg [(Value.int .i64 (p.addr)), (Value.int .i64 (p.bits))].toArray), (Value.int .i64 (a))] w (Value.bool ((aHas p a))) := by
  have hF := Is.refl (aHas p a)
  refine enter Tryz.func77 Tryz.ntmps77 (h := ?_)
  refine J_seq ?_
  refine J_reg ?_
  refine JL_a noMk (a_box (l := [_, _])) (k := fun r1 hr1 => ?_)
  refine JL_q (q_assign) (k := ?_)
  refine JL_nil ?_
  refine JX_seq ?_
  refine J_seq ?_
  refine J_reg ?_
  refine JL_q (q_func) (k := ?_)
  refine JL_q (q_assign) (k := ?_)
  refine JL_nil ?_
  refine JX_seq ?_
  refine J_seq ?_
  refine J_plan mixed 15 [(true, 0), (false, 1), (true, 2), (true, 3), (false, 4), (true, 5), (true, 6), (true, 7), (true, 8), (true, 10), (true, 11), (false, 9), (true, 12), (true, 13), (true, 14)] (by kernel_rfl) ?_
  refine JD_q (q_loadA Tryz.isAgg23 Tryz.sizeOf23) (k := ?_)
  refine JD_v (args := [(Value.agg [(Value.int .i64 (p.addr)), (Value.int .i64 (p.bits))].toArray)]) (c_callA Tryz.call52) (fun w1 hw1 => aRight_ok w1 (p := p)) (k := ?_)
  refine JD_q (q_move) (k := ?_)
  refine JD_bool 9 rfl (fun hq1 => ?_) (fun hq1 => ?_)
  rotate_left
  · refine JD_skips 2 rfl ?_
    refine JD_q (q_pickF) (k := ?_)
    refine JD_q (q_move) (k := ?_)
    refine JD_skips 6 rfl ?_
    refine JD_q (q_pickF) (k := ?_)
    refine JD_q (q_assign) (k := ?_)
    refine JD_nil0 ?_
    refine JL_nil ?_
    refine JX_seq ?_
    refine J_ret ?_
    refine JX_ret Tryz.results77 (Res.tmp rfl Res.nil) (fun w1 hw1 => ?_)
    exact ⟨(by rw [((hF.f hq1)).eq] <;> first | rfl | (simp only [List.length_set] <;> rfl)), hw1.ext_out⟩
  have hfhq1 := aRight_t hq1
  refine JD_qg (q_move) (k := ?_)
  refine JD_vg (args := [(Value.int .i64 (a))]) (c_callA Tryz.call90) (fun w1 hw1 => isAddr_ok w1 (a := a)) (k := ?_)
  refine JD_q (q_pickT) (k := ?_)
  refine JD_q (q_move) (k := ?_)
  refine JD_bool 13 rfl (fun hq2 => ?_) (fun hq2 => ?_)
  rotate_left
  · refine JD_skips 6 rfl ?_
    refine JD_q (q_pickF) (k := ?_)
    refine JD_q (q_assign) (k := ?_)
    refine JD_nil0 ?_
    refine JL_nil ?_
    refine JX_seq ?_
    refine J_ret ?_
    refine JX_ret Tryz.results77 (Res.tmp rfl Res.nil) (fun w1 hw1 => ?_)
    exact ⟨(by rw [(((hF.t hq1).f hq2)).eq] <;> first | rfl | (simp only [List.length_set] <;> rfl)), hw1.ext_out⟩
  have hfhq2 := isAddr_t hq2
  refine JD_qg (q_move) (k := ?_)
  refine JD_qg (q_move) (k := ?_)
  refine JD_qg (q_fld FO_23_0) (k := ?_)
  refine JD_qg (q_load Tryz.isAgg3) (k := ?_)
  refine JD_inlg (args := [(Value.int .i64 (a)), (Value.pointer (some ⟨r1, 0, none⟩))]) (c_callA Tryz.call110) Tryz.func110 Tryz.ntmps110 ?_
  refine J_seq ?_
  refine J_reg ?_
  refine JL_q (q_assign) (k := ?_)
  refine JL_nil ?_
  refine JX_seq ?_
  refine J_seq ?_
  refine J_reg ?_
  refine JL_q (q_move) (k := ?_)
  refine JL_q (q_loadA Tryz.isAgg23 Tryz.sizeOf23) (k := ?_)
  refine JL_q (q_build (cs := [_, _]) Tryz.zeroValue123 PL_123) (k := ?_)
  refine JL_v (args := [(Value.agg [(Value.int .i64 (p.addr)), (Value.int .i64 (p.bits))].toArray)]) (c_callA Tryz.call111) (fun w1 hw1 => aRest_ok w1 (p := p) (hb := by first | exact lb | decide)) (k := ?_)
  refine JL_q (q_andNotW) (k := ?_)
  refine JL_q (q_assign) (k := ?_)
  refine JL_nil ?_
  refine JX_seq ?_
  refine J_ret ?_
  refine JX_retID ((r1, Obj.cells [(Value.int .i64 (p.addr)), (Value.int .i64 (p.bits))].toArray 23) :: []) [] Tryz.results110 (Res.tmp rfl Res.nil) (List.Perm.trans (List.Perm.refl _) (List.Perm.of_eq (by first | rfl | (simp only [List.cons_append, List.nil_append, List.append_assoc, List.append_nil]; done) | (simp only [List.cons_append, List.nil_append, List.append_assoc, List.append_nil]; rfl)))) (List.Sublist.refl _) ?_
  refine JD_qg (q_eql) (k := ?_)
  refine JD_q (q_pickT) (k := ?_)
  refine JD_q (q_assign) (k := ?_)
  refine JD_nil0 ?_
  refine JL_nil ?_
  refine JX_seq ?_
  refine J_ret ?_
  refine JX_ret Tryz.results77 (Res.tmp rfl Res.nil) (fun w1 hw1 => ?_)
  exact ⟨(by rw [(((hF.t hq1).t hq2)).eq] <;> first | rfl | (simp only [List.length_set] <;> rfl)), hw1.ext_out⟩

theorem aPrint_ok (w : World) {ea0 : Addr} {ea1 : Addr} {ea2 : Addr} {ea3 : Addr} {ea4 : Addr} {ea5 : Addr} {a : Int} (hG : Gl w) (hE : Er w ea0 ea1 ea2 ea3 ea4 ea5) : Val Tryz.prog 55 [(Value.int .i64 (a))] w (Value.tuple [(Value.string (bs ((aPrint a).1))), (Value.int .i64 (((aPrint a).2)))].toArray) := by
  have hF := Is.refl (aPrint a)
  refine enterD Tryz.func55 Tryz.ntmps55 (h := ?_)
  refine J_seq ?_
  refine J_reg ?_
  refine JL_q (q_assign) (k := ?_)
  refine JL_q (q_assign) (k := ?_)
  refine JL_nil ?_
  refine JX_seq ?_
  refine J_seq ?_
  refine J_seq ?_
  refine J_reg ?_
  refine JL_q (q_move) (k := ?_)
  refine JL_v (args := [(Value.int .i64 (a))]) (c_callA Tryz.call90) (fun w1 hw1 => isAddr_ok w1 (a := a)) (k := ?_)
  refine JL_q (q_not) (k := ?_)
  refine JL_nil ?_
  refine JX_seq ?_
  refine J_cond rfl (fun hq1 => ?_) (fun hq1 => ?_)
  · refine J_seq ?_
    refine J_reg ?_
    refine JL_q (q_assign) (k := ?_)
    refine JL_q (q_assign) (k := ?_)
    refine JL_nil ?_
    refine JX_seq ?_
    refine J_ret ?_
    refine JX_seq_ret ?_
    refine JX_retD [] (List.Perm.refl _) Tryz.results55 (Res.tmp rfl (Res.tmp rfl Res.nil)) (fun w1 hw1 => ?_)
    exact ⟨(by rw [((hF.t hq1)).eq] <;> first | rfl | (simp only [List.length_set] <;> rfl)), hw1.ext_out⟩
  have hfhq1 := isAddr_t (by simpa using hq1)
  refine J_skip ?_
  refine JX_seq ?_
  refine J_seq ?_
  refine J_reg ?_
  refine JL_a noMk (a_alloc (l := [_]) Tryz.zeroValue60) (k := fun r1 hr1 => ?_)
  refine JL_nil ?_
  refine JX_seq ?_
  refine J_seq ?_
  refine J_seq ?_
  refine J_reg ?_
  refine JL_q (q_move) (k := ?_)
  refine JL_inl (args := [(Value.int .i64 (a))]) (c_callA Tryz.call91) Tryz.func91 Tryz.ntmps91 ?_
  refine J_seq ?_
  refine J_reg ?_
  refine JL_a noMk (a_box (l := [_])) (k := fun r2 hr2 => ?_)
  refine JL_q (q_assign) (k := ?_)
  refine JL_nil ?_
  refine JX_seq ?_
  refine J_seq ?_
  refine J_reg ?_
  refine JL_q (q_func) (k := ?_)
  refine JL_q (q_assign) (k := ?_)
  refine JL_nil ?_
  refine JX_seq ?_
  refine J_ret ?_
  refine JX_retI Tryz.results91 (Res.tmp rfl Res.nil) ?_
  refine JL_nil ?_
  refine JX_seq ?_
  refine J_block ?_
  refine J_rangeI noMk rfl Tryz.call112 Tryz.func112 Tryz.ntmps112 (fun l3 rD3 rr3 hl3 => ?_)
  refine J_scope ?_
  refine J_seq ?_
  refine J_label ?_
  refine JX_seq ?_
  refine J_seq ?_
  refine J_reg ?_
  refine JL_q (q_assign) (k := ?_)
  refine JL_nil ?_
  refine JX_seq ?_
  refine J_block ?_
  refine J_unroll ?_
  refine J_seq ?_
  refine J_seq ?_
  refine J_reg ?_
  refine JL_q (q_move) (k := ?_)
  refine JL_q (q_geq) (k := ?_)
  refine JL_nil ?_
  refine JX_seq ?_
  refine J_true rfl ?_
  refine J_skip ?_
  refine JX_seq ?_
  refine J_seq ?_
  refine J_block ?_
  refine J_seq ?_
  refine J_reg ?_
  refine JL_q (q_move) (k := ?_)
  refine JL_q (q_load Tryz.isAgg3) (k := ?_)
  refine JL_q (q_move) (k := ?_)
  refine JL_q (q_shrW) (k := ?_)
  refine JL_q (q_andW) (k := ?_)
  refine JL_yIn (vs := [(Value.int .i64 ((andI .i64 (shrI .i64 a 24) 255)))]) hl3 q0 y_call ?_
  refine J_reg ?_
  refine JL_q (q_assign) (k := ?_)
  refine JL_nil ?_
  refine JX_begin q0 ?_
  refine J_block ?_
  refine J_plan mixed 5 [(true, 0), (true, 1), (false, 2), (false, 3), (false, 4)] (by kernel_rfl) ?_
  refine JD_q (q_load Tryz.isAgg60) (k := ?_)
  refine JD_q (q_move) (k := ?_)
  have hbb := bytes_bd (a := a) (by omega)
  refine JD_v (args := [(Value.int .i64 ((andI .i64 (shrI .i64 a 24) 255)))]) (c_callA Tryz.call56) (fun w1 hw1 => Itoa_ok w1 (n := (andI .i64 (shrI .i64 a 24) 255)) (hG := hG.ext hw1.ext_out) (hn := by first | exact lb)) (k := ?_)
  have hil_84351 := itoa_len (n := (andI .i64 (shrI .i64 a 24) 255)) (by omega)
  refine JD_a noMk (a_bslice (l := [_]) Tryz.runUnderlying60 Tryz.sizeOf9 Tryz.zeroValue9) (k := fun r4 hr4 => ?_)
  refine JD_append ([(Lib.itoa (andI .i64 (shrI .i64 a 24) 255))] : List Str) (List.nil_append _) TY_9 Tryz.underlying60 eS_ok OwnB.nil (List.Perm.refl _) (SlJ.lit (xs := ([(Lib.itoa (andI .i64 (shrI .i64 a 24) 255))] : List Str)) eS_ok) ⟨by first | omega | (simp; done) | (simp; omega), by first | omega | (simp; done) | (simp; omega)⟩ (n := 0) (m := 1) (k := fun ax1 cx1 Bx1 hox1 => ?_)
  refine JD_nil ?_
  refine JL_eqL (L' := (Bx1 ++ ((r4, Obj.cells [(Value.string (bs (Lib.itoa (andI .i64 (shrI .i64 a 24) 255))))].toArray 9) :: ((l3, loopAt rr3 .busy none) :: ((rD3, Obj.deferred (some [])) :: ((r2, Obj.cells [(Value.int .i64 (a))].toArray 3) :: ((r1, Obj.cells [(Value.slice (none) (0) (0))].toArray 60) :: []))))))) (by simp only [List.append_nil, List.append_assoc, List.cons_append, List.nil_append]) ?_
  refine JL_s (w_store (l' := [_]) Tryz.sizeOf60) (k := ?_)
  refine JL_nil ?_
  refine JX_block ?_
  refine JX_roundI (qc (qa q0)) ?_
  refine JL_q (q_not) (k := ?_)
  refine JL_nil ?_
  refine JX_seq ?_
  refine J_false rfl ?_
  refine J_skip ?_
  refine JX_block ?_
  refine JX_seq ?_
  refine J_reg ?_
  refine JL_q (q_move) (k := ?_)
  refine JL_q (q_sub) (k := ?_)
  refine JL_q (q_assign) (k := ?_)
  refine JL_nil ?_
  refine JX_again ?_
  refine J_seq ?_
  refine J_seq ?_
  refine J_reg ?_
  refine JL_q (q_move) (k := ?_)
  refine JL_q (q_geq) (k := ?_)
  refine JL_nil ?_
  refine JX_seq ?_
  refine J_true rfl ?_
  refine J_skip ?_
  refine JX_seq ?_
  refine J_seq ?_
  refine J_block ?_
  refine J_seq ?_
  refine J_reg ?_
  refine JL_q (q_move) (k := ?_)
  refine JL_q (q_load Tryz.isAgg3) (k := ?_)
  refine JL_q (q_move) (k := ?_)
  refine JL_q (q_shrW) (k := ?_)
  refine JL_q (q_andW) (k := ?_)
  refine JL_yIn (vs := [(Value.int .i64 ((andI .i64 (shrI .i64 a 16) 255)))]) hl3 q0 y_call ?_
  refine J_reg ?_
  refine JL_q (q_assign) (k := ?_)
  refine JL_nil ?_
  refine JX_begin q0 ?_
  refine J_block ?_
  refine J_planV ((l3, loopAt rr3 .busy none) :: ((r4, Obj.cells [(Value.string (bs (Lib.itoa (andI .i64 (shrI .i64 a 24) 255))))].toArray 9) :: ((rD3, Obj.deferred (some [])) :: ((r2, Obj.cells [(Value.int .i64 (a))].toArray 3) :: ((r1, Obj.cells [(Value.slice (ax1) (([(Lib.itoa (andI .i64 (shrI .i64 a 24) 255))] : List Str).length) (cx1))].toArray 60) :: []))))) (Bx1 ++ []) (List.Perm.trans (qb q0) (List.Perm.of_eq (by first | rfl | (simp only [List.cons_append, List.nil_append, List.append_assoc, List.append_nil]; done) | (simp only [List.cons_append, List.nil_append, List.append_assoc, List.append_nil]; rfl)))) mixed 5 [(true, 0), (true, 1), (false, 2), (false, 3), (false, 4)] (by kernel_rfl) ?_
  refine JD_q (q_load Tryz.isAgg60) (k := ?_)
  refine JD_q (q_move) (k := ?_)
  have hbb := bytes_bd (a := a) (by omega)
  refine JD_v (args := [(Value.int .i64 ((andI .i64 (shrI .i64 a 16) 255)))]) (c_callA Tryz.call56) (fun w1 hw1 => Itoa_ok w1 (n := (andI .i64 (shrI .i64 a 16) 255)) (hG := hG.ext hw1.ext_out) (hn := by first | exact lb)) (k := ?_)
  have hil_16277 := itoa_len (n := (andI .i64 (shrI .i64 a 16) 255)) (by omega)
  refine JD_a noMk (a_bslice (l := [_]) Tryz.runUnderlying60 Tryz.sizeOf9 Tryz.zeroValue9) (k := fun r5 hr5 => ?_)
  refine JD_append (([(Lib.itoa (andI .i64 (shrI .i64 a 24) 255))] : List Str) ++ ([(Lib.itoa (andI .i64 (shrI .i64 a 16) 255))] : List Str)) rfl TY_9 Tryz.underlying60 eS_ok hox1 q0 (SlJ.lit (xs := ([(Lib.itoa (andI .i64 (shrI .i64 a 16) 255))] : List Str)) eS_ok) ⟨by first | omega | (simp; done) | (simp; omega), by first | omega | (simp; done) | (simp; omega)⟩ (n := ([(Lib.itoa (andI .i64 (shrI .i64 a 24) 255))] : List Str).length) (m := 1) (k := fun ax3 cx3 Bx3 hox3 => ?_)
  have hal3 : (([(Lib.itoa (andI .i64 (shrI .i64 a 24) 255))] : List Str) ++ ([(Lib.itoa (andI .i64 (shrI .i64 a 16) 255))] : List Str)).length = ([(Lib.itoa (andI .i64 (shrI .i64 a 24) 255))] : List Str).length + 1 := by first | rfl | exact List.length_append | simp
  refine JD_nil ?_
  refine JL_eqL (L' := (Bx3 ++ ((r5, Obj.cells [(Value.string (bs (Lib.itoa (andI .i64 (shrI .i64 a 16) 255))))].toArray 9) :: ((l3, loopAt rr3 .busy none) :: ((r4, Obj.cells [(Value.string (bs (Lib.itoa (andI .i64 (shrI .i64 a 24) 255))))].toArray 9) :: ((rD3, Obj.deferred (some [])) :: ((r2, Obj.cells [(Value.int .i64 (a))].toArray 3) :: ((r1, Obj.cells [(Value.slice (ax1) (([(Lib.itoa (andI .i64 (shrI .i64 a 24) 255))] : List Str).length) (cx1))].toArray 60) :: [])))))))) (by simp only [List.append_nil, List.append_assoc, List.cons_append, List.nil_append]) ?_
  refine JL_s (w_store (l' := [_]) Tryz.sizeOf60) (k := ?_)
  refine JL_nil ?_
  refine JX_block ?_
  refine JX_roundI (qc (qa q0)) ?_
  refine JL_q (q_not) (k := ?_)
  refine JL_nil ?_
  refine JX_seq ?_
  refine J_false rfl ?_
  refine J_skip ?_
  refine JX_block ?_
  refine JX_seq ?_
  refine J_reg ?_
  refine JL_q (q_move) (k := ?_)
  refine JL_q (q_sub) (k := ?_)
  refine JL_q (q_assign) (k := ?_)
  refine JL_nil ?_
  refine JX_again ?_
  refine J_seq ?_
  refine J_seq ?_
  refine J_reg ?_
  refine JL_q (q_move) (k := ?_)
  refine JL_q (q_geq) (k := ?_)
  refine JL_nil ?_
  refine JX_seq ?_
  refine J_true rfl ?_
  refine J_skip ?_
  refine JX_seq ?_
  refine J_seq ?_
  refine J_block ?_
  refine J_seq ?_
  refine J_reg ?_
  refine JL_q (q_move) (k := ?_)
  refine JL_q (q_load Tryz.isAgg3) (k := ?_)
  refine JL_q (q_move) (k := ?_)
  refine JL_q (q_shrW) (k := ?_)
  refine JL_q (q_andW) (k := ?_)
  refine JL_yIn (vs := [(Value.int .i64 ((andI .i64 (shrI .i64 a 8) 255)))]) hl3 q0 y_call ?_
  refine J_reg ?_
  refine JL_q (q_assign) (k := ?_)
  refine JL_nil ?_
  refine JX_begin q0 ?_
  refine J_block ?_
  refine J_planV ((l3, loopAt rr3 .busy none) :: ((r5, Obj.cells [(Value.string (bs (Lib.itoa (andI .i64 (shrI .i64 a 16) 255))))].toArray 9) :: ((r4, Obj.cells [(Value.string (bs (Lib.itoa (andI .i64 (shrI .i64 a 24) 255))))].toArray 9) :: ((rD3, Obj.deferred (some [])) :: ((r2, Obj.cells [(Value.int .i64 (a))].toArray 3) :: ((r1, Obj.cells [(Value.slice (ax3) ((([(Lib.itoa (andI .i64 (shrI .i64 a 24) 255))] : List Str) ++ ([(Lib.itoa (andI .i64 (shrI .i64 a 16) 255))] : List Str)).length) (cx3))].toArray 60) :: [])))))) (Bx3 ++ []) (List.Perm.trans (qb q0) (List.Perm.of_eq (by first | rfl | (simp only [List.cons_append, List.nil_append, List.append_assoc, List.append_nil]; done) | (simp only [List.cons_append, List.nil_append, List.append_assoc, List.append_nil]; rfl)))) mixed 5 [(true, 0), (true, 1), (false, 2), (false, 3), (false, 4)] (by kernel_rfl) ?_
  refine JD_q (q_load Tryz.isAgg60) (k := ?_)
  refine JD_q (q_move) (k := ?_)
  have hbb := bytes_bd (a := a) (by omega)
  refine JD_v (args := [(Value.int .i64 ((andI .i64 (shrI .i64 a 8) 255)))]) (c_callA Tryz.call56) (fun w1 hw1 => Itoa_ok w1 (n := (andI .i64 (shrI .i64 a 8) 255)) (hG := hG.ext hw1.ext_out) (hn := by first | exact lb)) (k := ?_)
  have hil_69706 := itoa_len (n := (andI .i64 (shrI .i64 a 8) 255)) (by omega)
  refine JD_a noMk (a_bslice (l := [_]) Tryz.runUnderlying60 Tryz.sizeOf9 Tryz.zeroValue9) (k := fun r6 hr6 => ?_)
  refine JD_append ((([(Lib.itoa (andI .i64 (shrI .i64 a 24) 255))] : List Str) ++ ([(Lib.itoa (andI .i64 (shrI .i64 a 16) 255))] : List Str)) ++ ([(Lib.itoa (andI .i64 (shrI .i64 a 8) 255))] : List Str)) rfl TY_9 Tryz.underlying60 eS_ok hox3 q0 (SlJ.lit (xs := ([(Lib.itoa (andI .i64 (shrI .i64 a 8) 255))] : List Str)) eS_ok) ⟨by first | omega | (simp; done) | (simp; omega), by first | omega | (simp; done) | (simp; omega)⟩ (n := (([(Lib.itoa (andI .i64 (shrI .i64 a 24) 255))] : List Str) ++ ([(Lib.itoa (andI .i64 (shrI .i64 a 16) 255))] : List Str)).length) (m := 1) (k := fun ax5 cx5 Bx5 hox5 => ?_)
  have hal5 : ((([(Lib.itoa (andI .i64 (shrI .i64 a 24) 255))] : List Str) ++ ([(Lib.itoa (andI .i64 (shrI .i64 a 16) 255))] : List Str)) ++ ([(Lib.itoa (andI .i64 (shrI .i64 a 8) 255))] : List Str)).length = (([(Lib.itoa (andI .i64 (shrI .i64 a 24) 255))] : List Str) ++ ([(Lib.itoa (andI .i64 (shrI .i64 a 16) 255))] : List Str)).length + 1 := by first | rfl | exact List.length_append | simp
  refine JD_nil ?_
  refine JL_eqL (L' := (Bx5 ++ ((r6, Obj.cells [(Value.string (bs (Lib.itoa (andI .i64 (shrI .i64 a 8) 255))))].toArray 9) :: ((l3, loopAt rr3 .busy none) :: ((r5, Obj.cells [(Value.string (bs (Lib.itoa (andI .i64 (shrI .i64 a 16) 255))))].toArray 9) :: ((r4, Obj.cells [(Value.string (bs (Lib.itoa (andI .i64 (shrI .i64 a 24) 255))))].toArray 9) :: ((rD3, Obj.deferred (some [])) :: ((r2, Obj.cells [(Value.int .i64 (a))].toArray 3) :: ((r1, Obj.cells [(Value.slice (ax3) ((([(Lib.itoa (andI .i64 (shrI .i64 a 24) 255))] : List Str) ++ ([(Lib.itoa (andI .i64 (shrI .i64 a 16) 255))] : List Str)).length) (cx3))].toArray 60) :: []))))))))) (by simp only [List.append_nil, List.append_assoc, List.cons_append, List.nil_append]) ?_
  refine JL_s (w_store (l' := [_]) Tryz.sizeOf60) (k := ?_)
  refine JL_nil ?_
  refine JX_block ?_
  refine JX_roundI (qc (qa q0)) ?_
  refine JL_q (q_not) (k := ?_)
  refine JL_nil ?_
  refine JX_seq ?_
  refine J_false rfl ?_
  refine J_skip ?_
  refine JX_block ?_
  refine JX_seq ?_
  refine J_reg ?_
  refine JL_q (q_move) (k := ?_)
  refine JL_q (q_sub) (k := ?_)
  refine JL_q (q_assign) (k := ?_)
  refine JL_nil ?_
  refine JX_again ?_
  refine J_seq ?_
  refine J_seq ?_
  refine J_reg ?_
  refine JL_q (q_move) (k := ?_)
  refine JL_q (q_geq) (k := ?_)
  refine JL_nil ?_
  refine JX_seq ?_
  refine J_true rfl ?_
  refine J_skip ?_
  refine JX_seq ?_
  refine J_seq ?_
  refine J_block ?_
  refine J_seq ?_
  refine J_reg ?_
  refine JL_q (q_move) (k := ?_)
  refine JL_q (q_load Tryz.isAgg3) (k := ?_)
  refine JL_q (q_move) (k := ?_)
  refine JL_q (q_shrW) (k := ?_)
  refine JL_q (q_andW) (k := ?_)
  refine JL_yIn (vs := [(Value.int .i64 ((andI .i64 (shrI .i64 a 0) 255)))]) hl3 q0 y_call ?_
  refine J_reg ?_
  refine JL_q (q_assign) (k := ?_)
  refine JL_nil ?_
  refine JX_begin q0 ?_
  refine J_block ?_
  refine J_planV ((l3, loopAt rr3 .busy none) :: ((r6, Obj.cells [(Value.string (bs (Lib.itoa (andI .i64 (shrI .i64 a 8) 255))))].toArray 9) :: ((r5, Obj.cells [(Value.string (bs (Lib.itoa (andI .i64 (shrI .i64 a 16) 255))))].toArray 9) :: ((r4, Obj.cells [(Value.string (bs (Lib.itoa (andI .i64 (shrI .i64 a 24) 255))))].toArray 9) :: ((rD3, Obj.deferred (some [])) :: ((r2, Obj.cells [(Value.int .i64 (a))].toArray 3) :: ((r1, Obj.cells [(Value.slice (ax5) (((([(Lib.itoa (andI .i64 (shrI .i64 a 24) 255))] : List Str) ++ ([(Lib.itoa (andI .i64 (shrI .i64 a 16) 255))] : List Str)) ++ ([(Lib.itoa (andI .i64 (shrI .i64 a 8) 255))] : List Str)).length) (cx5))].toArray 60) :: []))))))) (Bx5 ++ []) (List.Perm.trans (qb q0) (List.Perm.of_eq (by first | rfl | (simp only [List.cons_append, List.nil_append, List.append_assoc, List.append_nil]; done) | (simp only [List.cons_append, List.nil_append, List.append_assoc, List.append_nil]; rfl)))) mixed 5 [(true, 0), (true, 1), (false, 2), (false, 3), (false, 4)] (by kernel_rfl) ?_
  refine JD_q (q_load Tryz.isAgg60) (k := ?_)
  refine JD_q (q_move) (k := ?_)
  have hbb := bytes_bd (a := a) (by omega)
  refine JD_v (args := [(Value.int .i64 ((andI .i64 (shrI .i64 a 0) 255)))]) (c_callA Tryz.call56) (fun w1 hw1 => Itoa_ok w1 (n := (andI .i64 (shrI .i64 a 0) 255)) (hG := hG.ext hw1.ext_out) (hn := by first | exact lb)) (k := ?_)
  have hil_59981 := itoa_len (n := (andI .i64 (shrI .i64 a 0) 255)) (by omega)
  refine JD_a noMk (a_bslice (l := [_]) Tryz.runUnderlying60 Tryz.sizeOf9 Tryz.zeroValue9) (k := fun r7 hr7 => ?_)
  refine JD_append (((([(Lib.itoa (andI .i64 (shrI .i64 a 24) 255))] : List Str) ++ ([(Lib.itoa (andI .i64 (shrI .i64 a 16) 255))] : List Str)) ++ ([(Lib.itoa (andI .i64 (shrI .i64 a 8) 255))] : List Str)) ++ ([(Lib.itoa (andI .i64 (shrI .i64 a 0) 255))] : List Str)) rfl TY_9 Tryz.underlying60 eS_ok hox5 q0 (SlJ.lit (xs := ([(Lib.itoa (andI .i64 (shrI .i64 a 0) 255))] : List Str)) eS_ok) ⟨by first | omega | (simp; done) | (simp; omega), by first | omega | (simp; done) | (simp; omega)⟩ (n := ((([(Lib.itoa (andI .i64 (shrI .i64 a 24) 255))] : List Str) ++ ([(Lib.itoa (andI .i64 (shrI .i64 a 16) 255))] : List Str)) ++ ([(Lib.itoa (andI .i64 (shrI .i64 a 8) 255))] : List Str)).length) (m := 1) (k := fun ax7 cx7 Bx7 hox7 => ?_)
  have hal7 : (((([(Lib.itoa (andI .i64 (shrI .i64 a 24) 255))] : List Str) ++ ([(Lib.itoa (andI .i64 (shrI .i64 a 16) 255))] : List Str)) ++ ([(Lib.itoa (andI .i64 (shrI .i64 a 8) 255))] : List Str)) ++ ([(Lib.itoa (andI .i64 (shrI .i64 a 0) 255))] : List Str)).length = ((([(Lib.itoa (andI .i64 (shrI .i64 a 24) 255))] : List Str) ++ ([(Lib.itoa (andI .i64 (shrI .i64 a 16) 255))] : List Str)) ++ ([(Lib.itoa (andI .i64 (shrI .i64 a 8) 255))] : List Str)).length + 1 := by first | rfl | exact List.length_append | simp
  refine JD_nil ?_
  refine JL_eqL (L' := (Bx7 ++ ((r7, Obj.cells [(Value.string (bs (Lib.itoa (andI .i64 (shrI .i64 a 0) 255))))].toArray 9) :: ((l3, loopAt rr3 .busy none) :: ((r6, Obj.cells [(Value.string (bs (Lib.itoa (andI .i64 (shrI .i64 a 8) 255))))].toArray 9) :: ((r5, Obj.cells [(Value.string (bs (Lib.itoa (andI .i64 (shrI .i64 a 16) 255))))].toArray 9) :: ((r4, Obj.cells [(Value.string (bs (Lib.itoa (andI .i64 (shrI .i64 a 24) 255))))].toArray 9) :: ((rD3, Obj.deferred (some [])) :: ((r2, Obj.cells [(Value.int .i64 (a))].toArray 3) :: ((r1, Obj.cells [(Value.slice (ax5) (((([(Lib.itoa (andI .i64 (shrI .i64 a 24) 255))] : List Str) ++ ([(Lib.itoa (andI .i64 (shrI .i64 a 16) 255))] : List Str)) ++ ([(Lib.itoa (andI .i64 (shrI .i64 a 8) 255))] : List Str)).length) (cx5))].toArray 60) :: [])))))))))) (by simp only [List.append_nil, List.append_assoc, List.cons_append, List.nil_append]) ?_
  refine JL_s (w_store (l' := [_]) Tryz.sizeOf60) (k := ?_)
  refine JL_nil ?_
  refine JX_block ?_
  refine JX_roundI (qc (qa q0)) ?_
  refine JL_q (q_not) (k := ?_)
  refine JL_nil ?_
  refine JX_seq ?_
  refine J_false rfl ?_
  refine J_skip ?_
  refine JX_block ?_
  refine JX_seq ?_
  refine J_reg ?_
  refine JL_q (q_move) (k := ?_)
  refine JL_q (q_sub) (k := ?_)
  refine JL_q (q_assign) (k := ?_)
  refine JL_nil ?_
  refine JX_again ?_
  refine J_seq ?_
  refine J_seq ?_
  refine J_reg ?_
  refine JL_q (q_move) (k := ?_)
  refine JL_q (q_geq) (k := ?_)
  refine JL_nil ?_
  refine JX_seq ?_
  refine J_false rfl ?_
  refine J_exit ?_
  refine JX_seq_exit ?_
  refine JX_inv_exit ?_
  refine JX_block_hit ?_
  refine JX_scope ?_
  refine JX_it0 (.inr rfl) Tryz.results112 q0 ?_
  refine JX_block ?_
  refine JX_seq ?_
  refine J_seq ?_
  refine J_reg ?_
  refine JL_q (q_load Tryz.isAgg60) (k := ?_)
  refine JL_v (args := [(Value.slice (ax7) ((((([(Lib.itoa (andI .i64 (shrI .i64 a 24) 255))] : List Str) ++ ([(Lib.itoa (andI .i64 (shrI .i64 a 16) 255))] : List Str)) ++ ([(Lib.itoa (andI .i64 (shrI .i64 a 8) 255))] : List Str)) ++ ([(Lib.itoa (andI .i64 (shrI .i64 a 0) 255))] : List Str)).length) (cx7)), (Value.string (bs ([46] : Str)))]) (c_callA Tryz.call92) (fun w1 hw1 => Join_ok w1 (h_xs := (hox7.slj eS_ok) w1 hw1) (xs := (((([(Lib.itoa (andI .i64 (shrI .i64 a 24) 255))] : List Str) ++ ([(Lib.itoa (andI .i64 (shrI .i64 a 16) 255))] : List Str)) ++ ([(Lib.itoa (andI .i64 (shrI .i64 a 8) 255))] : List Str)) ++ ([(Lib.itoa (andI .i64 (shrI .i64 a 0) 255))] : List Str))) (sep := ([46] : Str)) (hc := hox7.le) (hn := by first | exact lb) (hl := Nat.le_trans (show (Lib.join (((([(Lib.itoa (andI .i64 (shrI .i64 a 24) 255))] : List Str) ++ ([(Lib.itoa (andI .i64 (shrI .i64 a 16) 255))] : List Str)) ++ ([(Lib.itoa (andI .i64 (shrI .i64 a 8) 255))] : List Str)) ++ ([(Lib.itoa (andI .i64 (shrI .i64 a 0) 255))] : List Str)) ([46] : Str)).length ≤ 100000 by (have := print_len (itoa_len (n := andI .i64 (shrI .i64 a 24) 255) (by omega)) (itoa_len (n := andI .i64 (shrI .i64 a 16) 255) (by omega)) (itoa_len (n := andI .i64 (shrI .i64 a 8) 255) (by omega)) (itoa_len (n := andI .i64 (shrI .i64 a 0) 255) (by omega)); omega)) (by decide))) (k := ?_)
  have hjl_72793 : (Lib.join (((([(Lib.itoa (andI .i64 (shrI .i64 a 24) 255))] : List Str) ++ ([(Lib.itoa (andI .i64 (shrI .i64 a 16) 255))] : List Str)) ++ ([(Lib.itoa (andI .i64 (shrI .i64 a 8) 255))] : List Str)) ++ ([(Lib.itoa (andI .i64 (shrI .i64 a 0) 255))] : List Str)) ([46] : Str)).length ≤ 100000 := by (have := print_len (itoa_len (n := andI .i64 (shrI .i64 a 24) 255) (by omega)) (itoa_len (n := andI .i64 (shrI .i64 a 16) 255) (by omega)) (itoa_len (n := andI .i64 (shrI .i64 a 8) 255) (by omega)) (itoa_len (n := andI .i64 (shrI .i64 a 0) 255) (by omega)); omega)
  refine JL_q (q_assign) (k := ?_)
  refine JL_q (q_assign) (k := ?_)
  refine JL_nil ?_
  refine JX_seq ?_
  refine J_ret ?_
  refine JX_retD [rD3] (qa (qc (qa (qa (qa (qa q0)))))) Tryz.results55 (Res.tmp rfl (Res.tmp rfl Res.nil)) (fun w1 hw1 => ?_)
  exact ⟨(by rw [((hF.f hq1)).eq] <;> first | rfl | (simp only [List.length_set] <;> rfl)), hw1.ext_out⟩

theorem aNumber_ok (w : World) {ea0 : Addr} {ea1 : Addr} {ea2 : Addr} {ea3 : Addr} {ea4 : Addr} {ea5 : Addr} {t : Str} {most : Int} (n_t : t.length ≤ 1000000) (hG : Gl w) (hE : Er w ea0 ea1 ea2 ea3 ea4 ea5) (hm : 0 ≤ most ∧ most ≤ 1000000000) : Val Tryz.prog 62 [(Value.agg [(Value.string (bs t))].toArray), (Value.int .i64 (most))] w (Value.tuple [(Value.int .i64 (((aNumber t most).1))), (Value.bool (((aNumber t most).2)))].toArray) := by
  have hF := Is.refl (aNumber t most)
  refine enter Tryz.func62 Tryz.ntmps62 (h := ?_)
  refine J_seq ?_
  refine J_reg ?_
  refine JL_a noMk (a_box (l := [_])) (k := fun r1 hr1 => ?_)
  refine JL_q (q_assign) (k := ?_)
  refine JL_q (q_assign) (k := ?_)
  refine JL_nil ?_
  refine JX_seq ?_
  refine J_seq ?_
  refine J_reg ?_
  refine JL_q (q_assign) (k := ?_)
  refine JL_nil ?_
  refine JX_seq ?_
  refine J_seq ?_
  refine J_seq ?_
  refine J_reg ?_
  refine JL_q (q_fld FO_94_0) (k := ?_)
  refine JL_q (q_load Tryz.isAgg9) (k := ?_)
  refine JL_a noMk (a_rangeT Tryz.runUnderlying9) (k := fun r2 hr2 => ?_)
  refine JL_nil ?_
  refine JX_seq ?_
  refine J_block ?_
  refine J_loop3 (σ1 := Nat) (σ2 := Int) (σ3 := Nat) (fun n_3 n_1 x_2 => ((r2, Obj.stringIter (bs t) x_2) :: ((r1, Obj.cells [(Value.string (bs t))].toArray 94) :: []))) (fun n_3 n_1 x_2 => [(1, (Value.int .i64 (most))), (2, (Value.pointer (some ⟨r1, 0, none⟩))), (4, (Value.int .i64 (0))), (5, (Value.bool (false))), (6, (Value.int .i64 (n_1))), (11, (Value.pointer (some ⟨r2, 0, none⟩)))]) (fun n_3 n_1 x_2 => t.length - x_2 < n_3 ∧ Is (aNumber_l0 t most (t.length + 1) 0 0) (aNumber_l0 t most n_3 n_1 x_2) ∧ 0 ≤ n_1 ∧ n_1 ≤ 10 * most + 9) (fun n_3 n_1 x_2 => n_3) (t.length + 1) 0 0 ?_ se (List.Perm.refl _) ?_
  · exact ⟨Nat.lt_succ_self _, Is.refl _, (by omega)⟩
  · rintro (_ | n_3) n_1 x_2 ⟨hm5, hF4, hi6⟩
    · omega
    refine J_seq ?_
    refine J_reg ?_
    refine JL_next q0 (fun hq1 => ?_) (fun hq1 => ?_)
    rotate_left
    · refine JL_q (q_ext) (k := ?_)
      refine JL_nil ?_
      refine JX_seq ?_
      refine J_seq ?_
      refine J_false rfl ?_
      refine J_exit ?_
      refine JX_seq_exit ?_
      refine JX_inv_exit ?_
      refine JX_block_hit ?_
      refine JX_seq ?_
      refine J_seq ?_
      refine J_plan mixed 13 [(true, 0), (true, 1), (true, 2), (true, 3), (true, 4), (true, 5), (true, 7), (true, 8), (false, 6), (true, 9), (true, 10), (true, 11), (true, 12)] (by kernel_rfl) ?_
      refine JD_q (q_move) (k := ?_)
      refine JD_q (q_move) (k := ?_)
      refine JD_q (q_move) (k := ?_)
      refine JD_q (q_leq) (k := ?_)
      refine JD_q (q_move) (k := ?_)
      refine JD_dec 36 rfl (fun hq5 => ?_) (fun hq5 => ?_)
      rotate_left
      · refine JD_skips 5 rfl ?_
        refine JD_q (q_pickF) (k := ?_)
        refine JD_q (q_assign) (k := ?_)
        refine JD_q (q_assign) (k := ?_)
        refine JD_nil0 ?_
        refine JL_nil ?_
        refine JX_seq ?_
        refine J_ret ?_
        refine JX_ret Tryz.results62 (Res.tmp rfl (Res.tmp rfl Res.nil)) (fun w1 hw1 => ?_)
        exact ⟨(by rw [(((hF.ok2 (hF4.neg hq1)).neg hq5)).eq] <;> first | rfl | (simp only [List.length_set] <;> rfl)), hw1.ext_out⟩
      refine JD_qg (q_move) (k := ?_)
      refine JD_qg (q_fld FO_94_0) (k := ?_)
      refine JD_qg (q_load Tryz.isAgg9) (k := ?_)
      refine JD_vg (args := [(Value.int .i64 (n_1))]) (c_callA Tryz.call56) (fun w1 hw1 => Itoa_ok w1 (n := n_1) (hG := hG.ext hw1.ext_out) (hn := by first | exact lb)) (k := ?_)
      have hil_26873 := itoa_len (n := n_1) (by omega)
      refine JD_qg (q_eqT) (k := ?_)
      refine JD_q (q_pickT) (k := ?_)
      refine JD_q (q_assign) (k := ?_)
      refine JD_q (q_assign) (k := ?_)
      refine JD_nil0 ?_
      refine JL_nil ?_
      refine JX_seq ?_
      refine J_ret ?_
      refine JX_ret Tryz.results62 (Res.tmp rfl (Res.tmp rfl Res.nil)) (fun w1 hw1 => ?_)
      exact ⟨(by rw [(((hF.ok2 (hF4.neg hq1)).pos hq5)).eq] <;> first | rfl | (simp only [List.length_set] <;> rfl)), hw1.ext_out⟩
    have hrhq1 := dec_bd t x_2
    have hphq1 := dec_pos t x_2
    refine JL_q (q_ext) (k := ?_)
    refine JL_nil ?_
    refine JX_seq ?_
    refine J_seq ?_
    refine J_true rfl ?_
    refine J_skip ?_
    refine JX_seq ?_
    refine J_block ?_
    refine J_seq ?_
    refine J_reg ?_
    refine JL_q (q_ext) (k := ?_)
    refine JL_q (q_assign) (k := ?_)
    refine JL_nil ?_
    refine JX_seq ?_
    refine J_seq ?_
    refine J_seq ?_
    refine J_reg ?_
    refine JL_q (q_move) (k := ?_)
    refine JL_q (q_lss) (k := ?_)
    refine JL_q (q_move) (k := ?_)
    refine JL_dec 17 rfl (fun hq2 => ?_) (fun hq2 => ?_)
    · refine JL_skips 2 rfl ?_
      refine JL_q (q_pickT) (k := ?_)
      refine JL_q (q_move) (k := ?_)
      refine JL_skips 3 rfl ?_
      refine JL_q (q_pickT) (k := ?_)
      refine JL_nil ?_
      refine JX_seq ?_
      refine J_true rfl ?_
      refine J_seq ?_
      refine J_reg ?_
      refine JL_q (q_assign) (k := ?_)
      refine JL_q (q_assign) (k := ?_)
      refine JL_nil ?_
      refine JX_seq ?_
      refine J_ret ?_
      refine JX_seq_ret ?_
      refine JX_block_ret ?_
      refine JX_inv_ret ?_
      refine JX_block_ret ?_
      refine JX_seq_ret ?_
      refine JX_ret Tryz.results62 (Res.tmp rfl (Res.tmp rfl Res.nil)) (fun w1 hw1 => ?_)
      exact ⟨(by rw [((hF.er2 ((hF4.pos hq1).pos hq2))).eq] <;> first | rfl | (simp only [List.length_set] <;> rfl)), hw1.ext_out⟩
    refine JL_qg (q_move) (k := ?_)
    refine JL_qg (q_gtr) (k := ?_)
    refine JL_q (q_pickF) (k := ?_)
    refine JL_q (q_move) (k := ?_)
    refine JL_dec 21 rfl (fun hq3 => ?_) (fun hq3 => ?_)
    · refine JL_skips 3 rfl ?_
      refine JL_q (q_pickT) (k := ?_)
      refine JL_nil ?_
      refine JX_seq ?_
      refine J_true rfl ?_
      refine J_seq ?_
      refine J_reg ?_
      refine JL_q (q_assign) (k := ?_)
      refine JL_q (q_assign) (k := ?_)
      refine JL_nil ?_
      refine JX_seq ?_
      refine J_ret ?_
      refine JX_seq_ret ?_
      refine JX_block_ret ?_
      refine JX_inv_ret ?_
      refine JX_block_ret ?_
      refine JX_seq_ret ?_
      refine JX_ret Tryz.results62 (Res.tmp rfl (Res.tmp rfl Res.nil)) (fun w1 hw1 => ?_)
      exact ⟨(by rw [((hF.er2 (((hF4.pos hq1).neg hq2).pos hq3))).eq] <;> first | rfl | (simp only [List.length_set] <;> rfl)), hw1.ext_out⟩
    refine JL_qg (q_move) (k := ?_)
    refine JL_qg (q_move) (k := ?_)
    refine JL_qg (q_gtr) (k := ?_)
    refine JL_q (q_pickF) (k := ?_)
    refine JL_nil ?_
    refine JX_seq ?_
    refine J_dec rfl (fun hq4 => ?_) (fun hq4 => ?_)
    rotate_left
    · refine J_skip ?_
      refine JX_seq ?_
      refine J_reg ?_
      refine JL_q (q_move) (k := ?_)
      refine JL_q (q_mul) (k := ?_)
      refine JL_q (q_move) (k := ?_)
      refine JL_q (q_subK (p := (((dec t x_2).1 : Nat) : Int)) (q := 48) (wrap_i32 (by omega))) (k := ?_)
      refine JL_q (q_conv (r := ((((dec t x_2).1 : Nat) : Int) - 48)) (wrap_i64 (by first | omega | exact xorI_u8_i64 _ _)) Tryz.runUnderlying21 Tryz.runUnderlying3) (k := ?_)
      refine JL_q (q_add) (k := ?_)
      refine JL_q (q_assign) (k := ?_)
      refine JL_nil ?_
      refine JX_block ?_
      exact JX_inv3 n_3 ((n_1 * 10) + ((((dec t x_2).1 : Nat) : Int) - 48)) (x_2 + (dec t x_2).2) ⟨by omega, ((((hF4.pos hq1).neg hq2).neg hq3).neg hq4), (by omega)⟩ (Nat.lt_succ_self _) se (List.Perm.refl _)
    refine J_seq ?_
    refine J_reg ?_
    refine JL_q (q_assign) (k := ?_)
    refine JL_q (q_assign) (k := ?_)
    refine JL_nil ?_
    refine JX_seq ?_
    refine J_ret ?_
    refine JX_seq_ret ?_
    refine JX_block_ret ?_
    refine JX_inv_ret ?_
    refine JX_block_ret ?_
    refine JX_seq_ret ?_
    refine JX_ret Tryz.results62 (Res.tmp rfl (Res.tmp rfl Res.nil)) (fun w1 hw1 => ?_)
    exact ⟨(by rw [((hF.er2 ((((hF4.pos hq1).neg hq2).neg hq3).pos hq4))).eq] <;> first | rfl | (simp only [List.length_set] <;> rfl)), hw1.ext_out⟩

theorem aParse_ok (w : World) {ea0 : Addr} {ea1 : Addr} {ea2 : Addr} {ea3 : Addr} {ea4 : Addr} {ea5 : Addr} {s : Str} (n_s : s.length ≤ 1000000) (hG : Gl w) (hE : Er w ea0 ea1 ea2 ea3 ea4 ea5) : Val Tryz.prog 63 [(Value.string (bs s))] w (Value.tuple [(Value.int .i64 (((aParse s).1))), (Value.int .i64 (((aParse s).2)))].toArray) := by
  have hF := Is.refl (aParse s)
  refine enter Tryz.func63 Tryz.ntmps63 (h := ?_)
  refine J_seq ?_
  refine J_reg ?_
  refine JL_q (q_assign) (k := ?_)
  refine JL_q (q_assign) (k := ?_)
  refine JL_nil ?_
  refine JX_seq ?_
  refine J_seq ?_
  refine J_reg ?_
  refine JL_q (q_move) (k := ?_)
  refine JL_q (q_build (cs := [_]) Tryz.zeroValue94 PL_94) (k := ?_)
  refine JL_q (q_build (cs := [_, _, _, _, _, _]) Tryz.zeroValue158 PL_158) (k := ?_)
  refine JL_a noMk (a_box (l := [_, _, _, _, _, _])) (k := fun r1 hr1 => ?_)
  refine JL_q (q_assign) (k := ?_)
  refine JL_nil ?_
  refine JX_seq ?_
  refine J_seq ?_
  refine J_reg ?_
  refine JL_q (q_move) (k := ?_)
  refine JL_q (q_func) (k := ?_)
  refine JL_q (q_assign) (k := ?_)
  refine JL_nil ?_
  refine JX_seq ?_
  refine J_seq ?_
  refine J_seq ?_
  refine J_reg ?_
  refine JL_q (q_move) (k := ?_)
  refine JL_q (q_move) (k := ?_)
  refine JL_q (q_move) (k := ?_)
  refine JL_q (q_move) (k := ?_)
  refine JL_a noMk (a_bslice (l := [_, _, _, _]) Tryz.runUnderlying206 Tryz.sizeOf28 Tryz.zeroValue28) (k := fun r2 hr2 => ?_)
  refine JL_inl (args := [(Value.slice (some ⟨r2, 0, none⟩) (4) (4))]) (c_callA Tryz.call101) Tryz.func101 Tryz.ntmps101 ?_
  refine J_seq ?_
  refine J_reg ?_
  refine JL_q (q_assign) (k := ?_)
  refine JL_nil ?_
  refine JX_seq ?_
  refine J_seq ?_
  refine J_seq ?_
  refine J_reg ?_
  refine JL_q (q_move) (k := ?_)
  refine JL_q (q_lenS Tryz.runUnderlying206) (k := ?_)
  refine JL_q (q_move) (k := ?_)
  refine JL_nil ?_
  refine JX_seq ?_
  refine J_block ?_
  refine J_unroll ?_
  refine J_seq ?_
  refine J_reg ?_
  refine JL_q (q_lss) (k := ?_)
  refine JL_nil ?_
  refine JX_seq ?_
  refine J_seq ?_
  refine J_true rfl ?_
  refine J_skip ?_
  refine JX_seq ?_
  refine J_seq ?_
  refine J_block ?_
  refine J_seq ?_
  refine J_reg ?_
  refine JL_q (q_idxO Tryz.runUnderlying206 Tryz.sizeOf28 0) (k := ?_)
  refine JL_q (q_load Tryz.isAgg28) (k := ?_)
  refine JL_q (q_assign) (k := ?_)
  refine JL_nil ?_
  refine JX_seq ?_
  refine J_seq ?_
  refine J_reg ?_
  refine JL_q (q_move) (k := ?_)
  refine JL_inl (args := [(Value.pointer (some ⟨r1, 0, none⟩))]) (c_callA Tryz.call100) Tryz.func100 Tryz.ntmps100 ?_
  refine J_seq ?_
  refine J_reg ?_
  refine JL_q (q_assign) (k := ?_)
  refine JL_nil ?_
  refine JX_seq ?_
  refine J_seq ?_
  refine J_reg ?_
  refine JL_q (q_move) (k := ?_)
  refine JL_q (q_nil) (k := ?_)
  refine JL_q (q_fld FO_158_0) (k := ?_)
  refine JL_q (q_fld FO_94_0) (k := ?_)
  refine JL_q (q_load Tryz.isAgg9) (k := ?_)
  refine JL_v (args := [(Value.string (bs s)), (Value.string (bs ([46] : Str)))]) (c_callA Tryz.call61) (fun w1 hw1 => Cut_ok w1 (s := s) (sep := ([46] : Str)) (hG := hG.ext hw1.ext_out) (hn := by first | exact lb)) (k := ?_)
  have hct_60744 := cut_len s ([46] : Str)
  refine JL_q (q_move) (k := ?_)
  refine JL_q (q_ext) (k := ?_)
  refine JL_q (q_ext) (k := ?_)
  refine JL_q (q_ext) (k := ?_)
  refine JL_q (q_assign) (k := ?_)
  refine JL_q (q_assign) (k := ?_)
  refine JL_q (q_assign) (k := ?_)
  refine JL_nil ?_
  refine JX_seq ?_
  refine J_seq ?_
  refine J_reg ?_
  refine JL_q (q_move) (k := ?_)
  refine JL_q (q_build (cs := [_]) Tryz.zeroValue94 PL_94) (k := ?_)
  refine JL_v (args := [(Value.agg [(Value.string (bs ((Lib.cut s ([46] : Str)).1)))].toArray), (Value.int .i64 (255))]) (c_callA Tryz.call62) (fun w1 hw1 => aNumber_ok w1 (t := ((Lib.cut s ([46] : Str)).1)) (most := 255) (n_t := by first | exact lb | decide) (hG := hG.ext hw1.ext_out) (hE := hE.ext hw1.ext_out) (hm := by first | exact lb | decide)) (k := ?_)
  refine JL_q (q_move) (k := ?_)
  refine JL_q (q_ext) (k := ?_)
  refine JL_q (q_ext) (k := ?_)
  refine JL_q (q_assign) (k := ?_)
  refine JL_q (q_assign) (k := ?_)
  refine JL_nil ?_
  refine JX_seq ?_
  refine J_seq ?_
  refine J_planK ((r2, Obj.cells [(Value.func (.func 100) [(Value.pointer (some ⟨r1, 0, none⟩))].toArray [].toArray), (Value.func (.func 100) [(Value.pointer (some ⟨r1, 0, none⟩))].toArray [].toArray), (Value.func (.func 100) [(Value.pointer (some ⟨r1, 0, none⟩))].toArray [].toArray), (Value.func (.func 100) [(Value.pointer (some ⟨r1, 0, none⟩))].toArray [].toArray)].toArray 28) :: []) ((r1, Obj.cells [(Value.string (bs s)), (Value.int .i64 (0)), (Value.int .i64 (0)), (Value.int .i64 (0)), (Value.int .i64 (0)), (Value.int .i64 (0))].toArray 158) :: []) [((⟨r1, 5, none⟩ : Addr), (Value.int .i64 (0)))] (List.Perm.trans (qa q0) (List.Perm.of_eq (by first | rfl | (simp only [List.cons_append, List.nil_append, List.append_assoc, List.append_nil]; done) | (simp only [List.cons_append, List.nil_append, List.append_assoc, List.append_nil]; rfl)))) (by repeat (first | exact KC.nil | refine KC.cons (by repeat (first | exact List.mem_cons_self | apply List.mem_cons_of_mem | apply List.mem_append_right)) rfl ?_)) mixed 16 [(true, 0), (true, 1), (true, 2), (true, 3), (true, 4), (true, 5), (true, 6), (true, 7), (true, 8), (true, 9), (true, 10), (false, 11), (true, 12), (true, 13), (true, 14), (false, 15)] (by kernel_rfl) ?_
  refine JK_q ((q_move).k) (k := ?_)
  refine JK_q ((q_move).k) (k := ?_)
  refine JK_q ((q_nil).k) (k := ?_)
  refine JK_q ((q_fld FO_158_2).k) (k := ?_)
  refine JK_q (k_load Tryz.isAgg3) (k := ?_)
  refine JK_q ((q_move).k) (k := ?_)
  refine JK_q ((q_move).k) (k := ?_)
  refine JK_q ((q_move).k) (k := ?_)
  refine JK_q ((q_nil).k) (k := ?_)
  refine JK_q ((q_fld FO_158_1).k) (k := ?_)
  refine JK_q ((q_idxP (m := 0) Tryz.runUnderlying156 Tryz.sizeOf3).k) (k := ?_)
  refine JK_s (V' := ((r1, Obj.cells [(Value.string (bs s)), (Value.int .i64 (((aNumber ((Lib.cut s ([46] : Str)).1) 255).1))), (Value.int .i64 (0)), (Value.int .i64 (0)), (Value.int .i64 (0)), (Value.int .i64 (0))].toArray 158) :: [])) (by repeat (first | exact KC.nil | refine KC.cons (by repeat (first | exact List.mem_cons_self | apply List.mem_cons_of_mem | apply List.mem_append_right)) rfl ?_)) (w_store (l' := [_, _, _, _, _, _]) Tryz.sizeOf3) (k := ?_)
  refine JK_q ((q_nil).k) (k := ?_)
  refine JK_q ((q_fld FO_158_0).k) (k := ?_)
  refine JK_q ((q_fld FO_94_0).k) (k := ?_)
  refine JK_s (V' := ((r1, Obj.cells [(Value.string (bs ((Lib.cut s ([46] : Str)).2.1))), (Value.int .i64 (((aNumber ((Lib.cut s ([46] : Str)).1) 255).1))), (Value.int .i64 (0)), (Value.int .i64 (0)), (Value.int .i64 (0)), (Value.int .i64 (0))].toArray 158) :: [])) (by repeat (first | exact KC.nil | refine KC.cons (by repeat (first | exact List.mem_cons_self | apply List.mem_cons_of_mem | apply List.mem_append_right)) rfl ?_)) (w_store (l' := [_, _, _, _, _, _]) Tryz.sizeOf9) (k := ?_)
  refine JK_nil ?_
  refine JL_eqL (L' := ((r1, Obj.cells [(Value.string (bs ((Lib.cut s ([46] : Str)).2.1))), (Value.int .i64 (((aNumber ((Lib.cut s ([46] : Str)).1) 255).1))), (Value.int .i64 (0)), (Value.int .i64 (0)), (Value.int .i64 (0)), (Value.int .i64 (0))].toArray 158) :: ((r2, Obj.cells [(Value.func (.func 100) [(Value.pointer (some ⟨r1, 0, none⟩))].toArray [].toArray), (Value.func (.func 100) [(Value.pointer (some ⟨r1, 0, none⟩))].toArray [].toArray), (Value.func (.func 100) [(Value.pointer (some ⟨r1, 0, none⟩))].toArray [].toArray), (Value.func (.func 100) [(Value.pointer (some ⟨r1, 0, none⟩))].toArray [].toArray)].toArray 28) :: []))) (by simp only [List.append_nil, List.append_assoc, List.cons_append, List.nil_append]) ?_
  refine JL_nil ?_
  refine JX_seq ?_
  refine J_seq ?_
  refine J_reg ?_
  refine JL_q (q_move) (k := ?_)
  refine JL_q (q_nil) (k := ?_)
  refine JL_q (q_fld FO_158_2) (k := ?_)
  refine JL_q (q_load Tryz.isAgg3) (k := ?_)
  refine JL_q (q_add) (k := ?_)
  refine JL_q (q_nil) (k := ?_)
  refine JL_q (q_fld FO_158_2) (k := ?_)
  refine JL_s (w_store (l' := [_, _, _, _, _, _]) Tryz.sizeOf3) (k := ?_)
  refine JL_nil ?_
  refine JX_seq ?_
  refine J_seq ?_
  refine J_reg ?_
  refine JL_q (q_move) (k := ?_)
  refine JL_q (q_move) (k := ?_)
  refine JL_bool 46 rfl (fun hq1 => ?_) (fun hq1 => ?_)
  rotate_left
  · refine JL_skips 7 rfl ?_
    refine JL_q (q_pickF) (k := ?_)
    refine JL_q (q_assign) (k := ?_)
    refine JL_nil ?_
    refine JX_seq ?_
    refine J_ret ?_
    refine JX_retI Tryz.results100 (Res.tmp rfl Res.nil) ?_
    refine JL_q (q_not) (k := ?_)
    refine JL_nil ?_
    refine JX_seq ?_
    refine J_true rfl ?_
    refine J_seq ?_
    refine J_reg ?_
    refine JL_q (q_assign) (k := ?_)
    refine JL_nil ?_
    refine JX_seq ?_
    refine J_ret ?_
    refine JX_block_ret ?_
    refine JX_seq_ret ?_
    refine JX_inv_ret ?_
    refine JX_block_ret ?_
    refine JX_seq_ret ?_
    refine JX_retI Tryz.results101 (Res.tmp rfl Res.nil) ?_
    refine JL_q (q_not) (k := ?_)
    refine JL_nil ?_
    refine JX_seq ?_
    refine J_true rfl ?_
    refine J_seq ?_
    refine J_reg ?_
    refine JL_q (q_assign) (k := ?_)
    refine JL_q (q_assign) (k := ?_)
    refine JL_nil ?_
    refine JX_seq ?_
    refine J_ret ?_
    refine JX_seq_ret ?_
    refine JX_ret Tryz.results63 (Res.tmp rfl (Res.tmp rfl Res.nil)) (fun w1 hw1 => ?_)
    exact ⟨(by rw [((hF.f hq1)).eq] <;> first | rfl | (simp only [List.length_set] <;> rfl)), hw1.ext_out⟩
  refine JL_qg (q_move) (k := ?_)
  refine JL_qg (q_move) (k := ?_)
  refine JL_qg (q_nil) (k := ?_)
  refine JL_qg (q_fld FO_158_2) (k := ?_)
  refine JL_qg (q_load Tryz.isAgg3) (k := ?_)
  refine JL_qg (q_lss) (k := ?_)
  refine JL_qg (q_eqlB Tryz.runUnderlying4) (k := ?_)
  refine JL_q (q_pickT) (k := ?_)
  refine JL_q (q_assign) (k := ?_)
  refine JL_nil ?_
  refine JX_seq ?_
  refine J_ret ?_
  refine JX_retI Tryz.results100 (Res.tmp rfl Res.nil) ?_
  refine JL_q (q_not) (k := ?_)
  refine JL_nil ?_
  refine JX_seq ?_
  refine J_cond rfl (fun hq2 => ?_) (fun hq2 => ?_)
  · refine J_seq ?_
    refine J_reg ?_
    refine JL_q (q_assign) (k := ?_)
    refine JL_nil ?_
    refine JX_seq ?_
    refine J_ret ?_
    refine JX_block_ret ?_
    refine JX_seq_ret ?_
    refine JX_inv_ret ?_
    refine JX_block_ret ?_
    refine JX_seq_ret ?_
    refine JX_retI Tryz.results101 (Res.tmp rfl Res.nil) ?_
    refine JL_q (q_not) (k := ?_)
    refine JL_nil ?_
    refine JX_seq ?_
    refine J_true rfl ?_
    refine J_seq ?_
    refine J_reg ?_
    refine JL_q (q_assign) (k := ?_)
    refine JL_q (q_assign) (k := ?_)
    refine JL_nil ?_
    refine JX_seq ?_
    refine J_ret ?_
    refine JX_seq_ret ?_
    refine JX_ret Tryz.results63 (Res.tmp rfl (Res.tmp rfl Res.nil)) (fun w1 hw1 => ?_)
    exact ⟨(by rw [(((hF.t hq1).t hq2)).eq] <;> first | rfl | (simp only [List.length_set] <;> rfl)), hw1.ext_out⟩
  refine J_skip ?_
  refine JX_block ?_
  refine JX_seq ?_
  refine J_reg ?_
  refine JL_q (q_add) (k := ?_)
  refine JL_q (q_move) (k := ?_)
  refine JL_nil ?_
  refine JX_again ?_
  refine J_seq ?_
  refine J_reg ?_
  refine JL_q (q_lss) (k := ?_)
  refine JL_nil ?_
  refine JX_seq ?_
  refine J_seq ?_
  refine J_true rfl ?_
  refine J_skip ?_
  refine JX_seq ?_
  refine J_seq ?_
  refine J_block ?_
  refine J_seq ?_
  refine J_reg ?_
  refine JL_q (q_idxO Tryz.runUnderlying206 Tryz.sizeOf28 1) (k := ?_)
  refine JL_q (q_load Tryz.isAgg28) (k := ?_)
  refine JL_q (q_assign) (k := ?_)
  refine JL_nil ?_
  refine JX_seq ?_
  refine J_seq ?_
  refine J_reg ?_
  refine JL_q (q_move) (k := ?_)
  refine JL_inl (args := [(Value.pointer (some ⟨r1, 0, none⟩))]) (c_callA Tryz.call100) Tryz.func100 Tryz.ntmps100 ?_
  refine J_seq ?_
  refine J_reg ?_
  refine JL_q (q_assign) (k := ?_)
  refine JL_nil ?_
  refine JX_seq ?_
  refine J_seq ?_
  refine J_reg ?_
  refine JL_q (q_move) (k := ?_)
  refine JL_q (q_nil) (k := ?_)
  refine JL_q (q_fld FO_158_0) (k := ?_)
  refine JL_q (q_fld FO_94_0) (k := ?_)
  refine JL_q (q_load Tryz.isAgg9) (k := ?_)
  refine JL_v (args := [(Value.string (bs ((Lib.cut s ([46] : Str)).2.1))), (Value.string (bs ([46] : Str)))]) (c_callA Tryz.call61) (fun w1 hw1 => Cut_ok w1 (s := ((Lib.cut s ([46] : Str)).2.1)) (sep := ([46] : Str)) (hG := hG.ext hw1.ext_out) (hn := by first | exact lb)) (k := ?_)
  have hct_48814 := cut_len ((Lib.cut s ([46] : Str)).2.1) ([46] : Str)
  refine JL_q (q_move) (k := ?_)
  refine JL_q (q_ext) (k := ?_)
  refine JL_q (q_ext) (k := ?_)
  refine JL_q (q_ext) (k := ?_)
  refine JL_q (q_assign) (k := ?_)
  refine JL_q (q_assign) (k := ?_)
  refine JL_q (q_assign) (k := ?_)
  refine JL_nil ?_
  refine JX_seq ?_
  refine J_seq ?_
  refine J_reg ?_
  refine JL_q (q_move) (k := ?_)
  refine JL_q (q_build (cs := [_]) Tryz.zeroValue94 PL_94) (k := ?_)
  refine JL_v (args := [(Value.agg [(Value.string (bs ((Lib.cut ((Lib.cut s ([46] : Str)).2.1) ([46] : Str)).1)))].toArray), (Value.int .i64 (255))]) (c_callA Tryz.call62) (fun w1 hw1 => aNumber_ok w1 (t := ((Lib.cut ((Lib.cut s ([46] : Str)).2.1) ([46] : Str)).1)) (most := 255) (n_t := by first | exact lb | decide) (hG := hG.ext hw1.ext_out) (hE := hE.ext hw1.ext_out) (hm := by first | exact lb | decide)) (k := ?_)
  refine JL_q (q_move) (k := ?_)
  refine JL_q (q_ext) (k := ?_)
  refine JL_q (q_ext) (k := ?_)
  refine JL_q (q_assign) (k := ?_)
  refine JL_q (q_assign) (k := ?_)
  refine JL_nil ?_
  refine JX_seq ?_
  refine J_seq ?_
  refine J_planK ((r2, Obj.cells [(Value.func (.func 100) [(Value.pointer (some ⟨r1, 0, none⟩))].toArray [].toArray), (Value.func (.func 100) [(Value.pointer (some ⟨r1, 0, none⟩))].toArray [].toArray), (Value.func (.func 100) [(Value.pointer (some ⟨r1, 0, none⟩))].toArray [].toArray), (Value.func (.func 100) [(Value.pointer (some ⟨r1, 0, none⟩))].toArray [].toArray)].toArray 28) :: []) ((r1, Obj.cells [(Value.string (bs ((Lib.cut s ([46] : Str)).2.1))), (Value.int .i64 (((aNumber ((Lib.cut s ([46] : Str)).1) 255).1))), (Value.int .i64 (0)), (Value.int .i64 (0)), (Value.int .i64 (0)), (Value.int .i64 (1))].toArray 158) :: []) [((⟨r1, 5, none⟩ : Addr), (Value.int .i64 (1)))] (List.Perm.trans (List.Perm.refl _) (List.Perm.of_eq (by first | rfl | (simp only [List.cons_append, List.nil_append, List.append_assoc, List.append_nil]; done) | (simp only [List.cons_append, List.nil_append, List.append_assoc, List.append_nil]; rfl)))) (by repeat (first | exact KC.nil | refine KC.cons (by repeat (first | exact List.mem_cons_self | apply List.mem_cons_of_mem | apply List.mem_append_right)) rfl ?_)) mixed 16 [(true, 0), (true, 1), (true, 2), (true, 3), (true, 4), (true, 5), (true, 6), (true, 7), (true, 8), (true, 9), (true, 10), (false, 11), (true, 12), (true, 13), (true, 14), (false, 15)] (by kernel_rfl) ?_
  refine JK_q ((q_move).k) (k := ?_)
  refine JK_q ((q_move).k) (k := ?_)
  refine JK_q ((q_nil).k) (k := ?_)
  refine JK_q ((q_fld FO_158_2).k) (k := ?_)
  refine JK_q (k_load Tryz.isAgg3) (k := ?_)
  refine JK_q ((q_move).k) (k := ?_)
  refine JK_q ((q_move).k) (k := ?_)
  refine JK_q ((q_move).k) (k := ?_)
  refine JK_q ((q_nil).k) (k := ?_)
  refine JK_q ((q_fld FO_158_1).k) (k := ?_)
  refine JK_q ((q_idxP (m := 1) Tryz.runUnderlying156 Tryz.sizeOf3).k) (k := ?_)
  refine JK_s (V' := ((r1, Obj.cells [(Value.string (bs ((Lib.cut s ([46] : Str)).2.1))), (Value.int .i64 (((aNumber ((Lib.cut s ([46] : Str)).1) 255).1))), (Value.int .i64 (((aNumber ((Lib.cut ((Lib.cut s ([46] : Str)).2.1) ([46] : Str)).1) 255).1))), (Value.int .i64 (0)), (Value.int .i64 (0)), (Value.int .i64 (1))].toArray 158) :: [])) (by repeat (first | exact KC.nil | refine KC.cons (by repeat (first | exact List.mem_cons_self | apply List.mem_cons_of_mem | apply List.mem_append_right)) rfl ?_)) (w_store (l' := [_, _, _, _, _, _]) Tryz.sizeOf3) (k := ?_)
  refine JK_q ((q_nil).k) (k := ?_)
  refine JK_q ((q_fld FO_158_0).k) (k := ?_)
  refine JK_q ((q_fld FO_94_0).k) (k := ?_)
  refine JK_s (V' := ((r1, Obj.cells [(Value.string (bs ((Lib.cut ((Lib.cut s ([46] : Str)).2.1) ([46] : Str)).2.1))), (Value.int .i64 (((aNumber ((Lib.cut s ([46] : Str)).1) 255).1))), (Value.int .i64 (((aNumber ((Lib.cut ((Lib.cut s ([46] : Str)).2.1) ([46] : Str)).1) 255).1))), (Value.int .i64 (0)), (Value.int .i64 (0)), (Value.int .i64 (1))].toArray 158) :: [])) (by repeat (first | exact KC.nil | refine KC.cons (by repeat (first | exact List.mem_cons_self | apply List.mem_cons_of_mem | apply List.mem_append_right)) rfl ?_)) (w_store (l' := [_, _, _, _, _, _]) Tryz.sizeOf9) (k := ?_)
  refine JK_nil ?_
  refine JL_eqL (L' := ((r1, Obj.cells [(Value.string (bs ((Lib.cut ((Lib.cut s ([46] : Str)).2.1) ([46] : Str)).2.1))), (Value.int .i64 (((aNumber ((Lib.cut s ([46] : Str)).1) 255).1))), (Value.int .i64 (((aNumber ((Lib.cut ((Lib.cut s ([46] : Str)).2.1) ([46] : Str)).1) 255).1))), (Value.int .i64 (0)), (Value.int .i64 (0)), (Value.int .i64 (1))].toArray 158) :: ((r2, Obj.cells [(Value.func (.func 100) [(Value.pointer (some ⟨r1, 0, none⟩))].toArray [].toArray), (Value.func (.func 100) [(Value.pointer (some ⟨r1, 0, none⟩))].toArray [].toArray), (Value.func (.func 100) [(Value.pointer (some ⟨r1, 0, none⟩))].toArray [].toArray), (Value.func (.func 100) [(Value.pointer (some ⟨r1, 0, none⟩))].toArray [].toArray)].toArray 28) :: []))) (by simp only [List.append_nil, List.append_assoc, List.cons_append, List.nil_append]) ?_
  refine JL_nil ?_
  refine JX_seq ?_
  refine J_seq ?_
  refine J_reg ?_
  refine JL_q (q_move) (k := ?_)
  refine JL_q (q_nil) (k := ?_)
  refine JL_q (q_fld FO_158_2) (k := ?_)
  refine JL_q (q_load Tryz.isAgg3) (k := ?_)
  refine JL_q (q_add) (k := ?_)
  refine JL_q (q_nil) (k := ?_)
  refine JL_q (q_fld FO_158_2) (k := ?_)
  refine JL_s (w_store (l' := [_, _, _, _, _, _]) Tryz.sizeOf3) (k := ?_)
  refine JL_nil ?_
  refine JX_seq ?_
  refine J_seq ?_
  refine J_reg ?_
  refine JL_q (q_move) (k := ?_)
  refine JL_q (q_move) (k := ?_)
  refine JL_bool 46 rfl (fun hq3 => ?_) (fun hq3 => ?_)
  rotate_left
  · refine JL_skips 7 rfl ?_
    refine JL_q (q_pickF) (k := ?_)
    refine JL_q (q_assign) (k := ?_)
    refine JL_nil ?_
    refine JX_seq ?_
    refine J_ret ?_
    refine JX_retI Tryz.results100 (Res.tmp rfl Res.nil) ?_
    refine JL_q (q_not) (k := ?_)
    refine JL_nil ?_
    refine JX_seq ?_
    refine J_true rfl ?_
    refine J_seq ?_
    refine J_reg ?_
    refine JL_q (q_assign) (k := ?_)
    refine JL_nil ?_
    refine JX_seq ?_
    refine J_ret ?_
    refine JX_block_ret ?_
    refine JX_seq_ret ?_
    refine JX_inv_ret ?_
    refine JX_block_ret ?_
    refine JX_seq_ret ?_
    refine JX_retI Tryz.results101 (Res.tmp rfl Res.nil) ?_
    refine JL_q (q_not) (k := ?_)
    refine JL_nil ?_
    refine JX_seq ?_
    refine J_true rfl ?_
    refine J_seq ?_
    refine J_reg ?_
    refine JL_q (q_assign) (k := ?_)
    refine JL_q (q_assign) (k := ?_)
    refine JL_nil ?_
    refine JX_seq ?_
    refine J_ret ?_
    refine JX_seq_ret ?_
    refine JX_ret Tryz.results63 (Res.tmp rfl (Res.tmp rfl Res.nil)) (fun w1 hw1 => ?_)
    exact ⟨(by rw [((((hF.t hq1).f hq2).f hq3)).eq] <;> first | rfl | (simp only [List.length_set] <;> rfl)), hw1.ext_out⟩
  refine JL_qg (q_move) (k := ?_)
  refine JL_qg (q_move) (k := ?_)
  refine JL_qg (q_nil) (k := ?_)
  refine JL_qg (q_fld FO_158_2) (k := ?_)
  refine JL_qg (q_load Tryz.isAgg3) (k := ?_)
  refine JL_qg (q_lss) (k := ?_)
  refine JL_qg (q_eqlB Tryz.runUnderlying4) (k := ?_)
  refine JL_q (q_pickT) (k := ?_)
  refine JL_q (q_assign) (k := ?_)
  refine JL_nil ?_
  refine JX_seq ?_
  refine J_ret ?_
  refine JX_retI Tryz.results100 (Res.tmp rfl Res.nil) ?_
  refine JL_q (q_not) (k := ?_)
  refine JL_nil ?_
  refine JX_seq ?_
  refine J_cond rfl (fun hq4 => ?_) (fun hq4 => ?_)
  · refine J_seq ?_
    refine J_reg ?_
    refine JL_q (q_assign) (k := ?_)
    refine JL_nil ?_
    refine JX_seq ?_
    refine J_ret ?_
    refine JX_block_ret ?_
    refine JX_seq_ret ?_
    refine JX_inv_ret ?_
    refine JX_block_ret ?_
    refine JX_seq_ret ?_
    refine JX_retI Tryz.results101 (Res.tmp rfl Res.nil) ?_
    refine JL_q (q_not) (k := ?_)
    refine JL_nil ?_
    refine JX_seq ?_
    refine J_true rfl ?_
    refine J_seq ?_
    refine J_reg ?_
    refine JL_q (q_assign) (k := ?_)
    refine JL_q (q_assign) (k := ?_)
    refine JL_nil ?_
    refine JX_seq ?_
    refine J_ret ?_
    refine JX_seq_ret ?_
    refine JX_ret Tryz.results63 (Res.tmp rfl (Res.tmp rfl Res.nil)) (fun w1 hw1 => ?_)
    exact ⟨(by rw [(((((hF.t hq1).f hq2).t hq3).t hq4)).eq] <;> first | rfl | (simp only [List.length_set] <;> rfl)), hw1.ext_out⟩
  refine J_skip ?_
  refine JX_block ?_
  refine JX_seq ?_
  refine J_reg ?_
  refine JL_q (q_add) (k := ?_)
  refine JL_q (q_move) (k := ?_)
  refine JL_nil ?_
  refine JX_again ?_
  refine J_seq ?_
  refine J_reg ?_
  refine JL_q (q_lss) (k := ?_)
  refine JL_nil ?_
  refine JX_seq ?_
  refine J_seq ?_
  refine J_true rfl ?_
  refine J_skip ?_
  refine JX_seq ?_
  refine J_seq ?_
  refine J_block ?_
  refine J_seq ?_
  refine J_reg ?_
  refine JL_q (q_idxO Tryz.runUnderlying206 Tryz.sizeOf28 2) (k := ?_)
  refine JL_q (q_load Tryz.isAgg28) (k := ?_)
  refine JL_q (q_assign) (k := ?_)
  refine JL_nil ?_
  refine JX_seq ?_
  refine J_seq ?_
  refine J_reg ?_
  refine JL_q (q_move) (k := ?_)
  refine JL_inl (args := [(Value.pointer (some ⟨r1, 0, none⟩))]) (c_callA Tryz.call100) Tryz.func100 Tryz.ntmps100 ?_
  refine J_seq ?_
  refine J_reg ?_
  refine JL_q (q_assign) (k := ?_)
  refine JL_nil ?_
  refine JX_seq ?_
  refine J_seq ?_
  refine J_reg ?_
  refine JL_q (q_move) (k := ?_)
  refine JL_q (q_nil) (k := ?_)
  refine JL_q (q_fld FO_158_0) (k := ?_)
  refine JL_q (q_fld FO_94_0) (k := ?_)
  refine JL_q (q_load Tryz.isAgg9) (k := ?_)
  refine JL_v (args := [(Value.string (bs ((Lib.cut ((Lib.cut s ([46] : Str)).2.1) ([46] : Str)).2.1))), (Value.string (bs ([46] : Str)))]) (c_callA Tryz.call61) (fun w1 hw1 => Cut_ok w1 (s := ((Lib.cut ((Lib.cut s ([46] : Str)).2.1) ([46] : Str)).2.1)) (sep := ([46] : Str)) (hG := hG.ext hw1.ext_out) (hn := by first | exact lb)) (k := ?_)
  have hct_70887 := cut_len ((Lib.cut ((Lib.cut s ([46] : Str)).2.1) ([46] : Str)).2.1) ([46] : Str)
  refine JL_q (q_move) (k := ?_)
  refine JL_q (q_ext) (k := ?_)
  refine JL_q (q_ext) (k := ?_)
  refine JL_q (q_ext) (k := ?_)
  refine JL_q (q_assign) (k := ?_)
  refine JL_q (q_assign) (k := ?_)
  refine JL_q (q_assign) (k := ?_)
  refine JL_nil ?_
  refine JX_seq ?_
  refine J_seq ?_
  refine J_reg ?_
  refine JL_q (q_move) (k := ?_)
  refine JL_q (q_build (cs := [_]) Tryz.zeroValue94 PL_94) (k := ?_)
  refine JL_v (args := [(Value.agg [(Value.string (bs ((Lib.cut ((Lib.cut ((Lib.cut s ([46] : Str)).2.1) ([46] : Str)).2.1) ([46] : Str)).1)))].toArray), (Value.int .i64 (255))]) (c_callA Tryz.call62) (fun w1 hw1 => aNumber_ok w1 (t := ((Lib.cut ((Lib.cut ((Lib.cut s ([46] : Str)).2.1) ([46] : Str)).2.1) ([46] : Str)).1)) (most := 255) (n_t := by first | exact lb | decide) (hG := hG.ext hw1.ext_out) (hE := hE.ext hw1.ext_out) (hm := by first | exact lb | decide)) (k := ?_)
  refine JL_q (q_move) (k := ?_)
  refine JL_q (q_ext) (k := ?_)
  refine JL_q (q_ext) (k := ?_)
  refine JL_q (q_assign) (k := ?_)
  refine JL_q (q_assign) (k := ?_)
  refine JL_nil ?_
  refine JX_seq ?_
  refine J_seq ?_
  refine J_planK ((r2, Obj.cells [(Value.func (.func 100) [(Value.pointer (some ⟨r1, 0, none⟩))].toArray [].toArray), (Value.func (.func 100) [(Value.pointer (some ⟨r1, 0, none⟩))].toArray [].toArray), (Value.func (.func 100) [(Value.pointer (some ⟨r1, 0, none⟩))].toArray [].toArray), (Value.func (.func 100) [(Value.pointer (some ⟨r1, 0, none⟩))].toArray [].toArray)].toArray 28) :: []) ((r1, Obj.cells [(Value.string (bs ((Lib.cut ((Lib.cut s ([46] : Str)).2.1) ([46] : Str)).2.1))), (Value.int .i64 (((aNumber ((Lib.cut s ([46] : Str)).1) 255).1))), (Value.int .i64 (((aNumber ((Lib.cut ((Lib.cut s ([46] : Str)).2.1) ([46] : Str)).1) 255).1))), (Value.int .i64 (0)), (Value.int .i64 (0)), (Value.int .i64 (2))].toArray 158) :: []) [((⟨r1, 5, none⟩ : Addr), (Value.int .i64 (2)))] (List.Perm.trans (List.Perm.refl _) (List.Perm.of_eq (by first | rfl | (simp only [List.cons_append, List.nil_append, List.append_assoc, List.append_nil]; done) | (simp only [List.cons_append, List.nil_append, List.append_assoc, List.append_nil]; rfl)))) (by repeat (first | exact KC.nil | refine KC.cons (by repeat (first | exact List.mem_cons_self | apply List.mem_cons_of_mem | apply List.mem_append_right)) rfl ?_)) mixed 16 [(true, 0), (true, 1), (true, 2), (true, 3), (true, 4), (true, 5), (true, 6), (true, 7), (true, 8), (true, 9), (true, 10), (false, 11), (true, 12), (true, 13), (true, 14), (false, 15)] (by kernel_rfl) ?_
  refine JK_q ((q_move).k) (k := ?_)
  refine JK_q ((q_move).k) (k := ?_)
  refine JK_q ((q_nil).k) (k := ?_)
  refine JK_q ((q_fld FO_158_2).k) (k := ?_)
  refine JK_q (k_load Tryz.isAgg3) (k := ?_)
  refine JK_q ((q_move).k) (k := ?_)
  refine JK_q ((q_move).k) (k := ?_)
  refine JK_q ((q_move).k) (k := ?_)
  refine JK_q ((q_nil).k) (k := ?_)
  refine JK_q ((q_fld FO_158_1).k) (k := ?_)
  refine JK_q ((q_idxP (m := 2) Tryz.runUnderlying156 Tryz.sizeOf3).k) (k := ?_)
  refine JK_s (V' := ((r1, Obj.cells [(Value.string (bs ((Lib.cut ((Lib.cut s ([46] : Str)).2.1) ([46] : Str)).2.1))), (Value.int .i64 (((aNumber ((Lib.cut s ([46] : Str)).1) 255).1))), (Value.int .i64 (((aNumber ((Lib.cut ((Lib.cut s ([46] : Str)).2.1) ([46] : Str)).1) 255).1))), (Value.int .i64 (((aNumber ((Lib.cut ((Lib.cut ((Lib.cut s ([46] : Str)).2.1) ([46] : Str)).2.1) ([46] : Str)).1) 255).1))), (Value.int .i64 (0)), (Value.int .i64 (2))].toArray 158) :: [])) (by repeat (first | exact KC.nil | refine KC.cons (by repeat (first | exact List.mem_cons_self | apply List.mem_cons_of_mem | apply List.mem_append_right)) rfl ?_)) (w_store (l' := [_, _, _, _, _, _]) Tryz.sizeOf3) (k := ?_)
  refine JK_q ((q_nil).k) (k := ?_)
  refine JK_q ((q_fld FO_158_0).k) (k := ?_)
  refine JK_q ((q_fld FO_94_0).k) (k := ?_)
  refine JK_s (V' := ((r1, Obj.cells [(Value.string (bs ((Lib.cut ((Lib.cut ((Lib.cut s ([46] : Str)).2.1) ([46] : Str)).2.1) ([46] : Str)).2.1))), (Value.int .i64 (((aNumber ((Lib.cut s ([46] : Str)).1) 255).1))), (Value.int .i64 (((aNumber ((Lib.cut ((Lib.cut s ([46] : Str)).2.1) ([46] : Str)).1) 255).1))), (Value.int .i64 (((aNumber ((Lib.cut ((Lib.cut ((Lib.cut s ([46] : Str)).2.1) ([46] : Str)).2.1) ([46] : Str)).1) 255).1))), (Value.int .i64 (0)), (Value.int .i64 (2))].toArray 158) :: [])) (by repeat (first | exact KC.nil | refine KC.cons (by repeat (first | exact List.mem_cons_self | apply List.mem_cons_of_mem | apply List.mem_append_right)) rfl ?_)) (w_store (l' := [_, _, _, _, _, _]) Tryz.sizeOf9) (k := ?_)
  refine JK_nil ?_
  refine JL_eqL (L' := ((r1, Obj.cells [(Value.string (bs ((Lib.cut ((Lib.cut ((Lib.cut s ([46] : Str)).2.1) ([46] : Str)).2.1) ([46] : Str)).2.1))), (Value.int .i64 (((aNumber ((Lib.cut s ([46] : Str)).1) 255).1))), (Value.int .i64 (((aNumber ((Lib.cut ((Lib.cut s ([46] : Str)).2.1) ([46] : Str)).1) 255).1))), (Value.int .i64 (((aNumber ((Lib.cut ((Lib.cut ((Lib.cut s ([46] : Str)).2.1) ([46] : Str)).2.1) ([46] : Str)).1) 255).1))), (Value.int .i64 (0)), (Value.int .i64 (2))].toArray 158) :: ((r2, Obj.cells [(Value.func (.func 100) [(Value.pointer (some ⟨r1, 0, none⟩))].toArray [].toArray), (Value.func (.func 100) [(Value.pointer (some ⟨r1, 0, none⟩))].toArray [].toArray), (Value.func (.func 100) [(Value.pointer (some ⟨r1, 0, none⟩))].toArray [].toArray), (Value.func (.func 100) [(Value.pointer (some ⟨r1, 0, none⟩))].toArray [].toArray)].toArray 28) :: []))) (by simp only [List.append_nil, List.append_assoc, List.cons_append, List.nil_append]) ?_
  refine JL_nil ?_
  refine JX_seq ?_
  refine J_seq ?_
  refine J_reg ?_
  refine JL_q (q_move) (k := ?_)
  refine JL_q (q_nil) (k := ?_)
  refine JL_q (q_fld FO_158_2) (k := ?_)
  refine JL_q (q_load Tryz.isAgg3) (k := ?_)
  refine JL_q (q_add) (k := ?_)
  refine JL_q (q_nil) (k := ?_)
  refine JL_q (q_fld FO_158_2) (k := ?_)
  refine JL_s (w_store (l' := [_, _, _, _, _, _]) Tryz.sizeOf3) (k := ?_)
  refine JL_nil ?_
  refine JX_seq ?_
  refine J_seq ?_
  refine J_reg ?_
  refine JL_q (q_move) (k := ?_)
  refine JL_q (q_move) (k := ?_)
  refine JL_bool 46 rfl (fun hq5 => ?_) (fun hq5 => ?_)
  rotate_left
  · refine JL_skips 7 rfl ?_
    refine JL_q (q_pickF) (k := ?_)
    refine JL_q (q_assign) (k := ?_)
    refine JL_nil ?_
    refine JX_seq ?_
    refine J_ret ?_
    refine JX_retI Tryz.results100 (Res.tmp rfl Res.nil) ?_
    refine JL_q (q_not) (k := ?_)
    refine JL_nil ?_
    refine JX_seq ?_
    refine J_true rfl ?_
    refine J_seq ?_
    refine J_reg ?_
    refine JL_q (q_assign) (k := ?_)
    refine JL_nil ?_
    refine JX_seq ?_
    refine J_ret ?_
    refine JX_block_ret ?_
    refine JX_seq_ret ?_
    refine JX_inv_ret ?_
    refine JX_block_ret ?_
    refine JX_seq_ret ?_
    refine JX_retI Tryz.results101 (Res.tmp rfl Res.nil) ?_
    refine JL_q (q_not) (k := ?_)
    refine JL_nil ?_
    refine JX_seq ?_
    refine J_true rfl ?_
    refine J_seq ?_
    refine J_reg ?_
    refine JL_q (q_assign) (k := ?_)
    refine JL_q (q_assign) (k := ?_)
    refine JL_nil ?_
    refine JX_seq ?_
    refine J_ret ?_
    refine JX_seq_ret ?_
    refine JX_ret Tryz.results63 (Res.tmp rfl (Res.tmp rfl Res.nil)) (fun w1 hw1 => ?_)
    exact ⟨(by rw [((((((hF.t hq1).f hq2).t hq3).f hq4).f hq5)).eq] <;> first | rfl | (simp only [List.length_set] <;> rfl)), hw1.ext_out⟩
  refine JL_qg (q_move) (k := ?_)
  refine JL_qg (q_move) (k := ?_)
  refine JL_qg (q_nil) (k := ?_)
  refine JL_qg (q_fld FO_158_2) (k := ?_)
  refine JL_qg (q_load Tryz.isAgg3) (k := ?_)
  refine JL_qg (q_lss) (k := ?_)
  refine JL_qg (q_eqlB Tryz.runUnderlying4) (k := ?_)
  refine JL_q (q_pickT) (k := ?_)
  refine JL_q (q_assign) (k := ?_)
  refine JL_nil ?_
  refine JX_seq ?_
  refine J_ret ?_
  refine JX_retI Tryz.results100 (Res.tmp rfl Res.nil) ?_
  refine JL_q (q_not) (k := ?_)
  refine JL_nil ?_
  refine JX_seq ?_
  refine J_cond rfl (fun hq6 => ?_) (fun hq6 => ?_)
  · refine J_seq ?_
    refine J_reg ?_
    refine JL_q (q_assign) (k := ?_)
    refine JL_nil ?_
    refine JX_seq ?_
    refine J_ret ?_
    refine JX_block_ret ?_
    refine JX_seq_ret ?_
    refine JX_inv_ret ?_
    refine JX_block_ret ?_
    refine JX_seq_ret ?_
    refine JX_retI Tryz.results101 (Res.tmp rfl Res.nil) ?_
    refine JL_q (q_not) (k := ?_)
    refine JL_nil ?_
    refine JX_seq ?_
    refine J_true rfl ?_
    refine J_seq ?_
    refine J_reg ?_
    refine JL_q (q_assign) (k := ?_)
    refine JL_q (q_assign) (k := ?_)
    refine JL_nil ?_
    refine JX_seq ?_
    refine J_ret ?_
    refine JX_seq_ret ?_
    refine JX_ret Tryz.results63 (Res.tmp rfl (Res.tmp rfl Res.nil)) (fun w1 hw1 => ?_)
    exact ⟨(by rw [(((((((hF.t hq1).f hq2).t hq3).f hq4).t hq5).t hq6)).eq] <;> first | rfl | (simp only [List.length_set] <;> rfl)), hw1.ext_out⟩
  refine J_skip ?_
  refine JX_block ?_
  refine JX_seq ?_
  refine J_reg ?_
  refine JL_q (q_add) (k := ?_)
  refine JL_q (q_move) (k := ?_)
  refine JL_nil ?_
  refine JX_again ?_
  refine J_seq ?_
  refine J_reg ?_
  refine JL_q (q_lss) (k := ?_)
  refine JL_nil ?_
  refine JX_seq ?_
  refine J_seq ?_
  refine J_true rfl ?_
  refine J_skip ?_
  refine JX_seq ?_
  refine J_seq ?_
  refine J_block ?_
  refine J_seq ?_
  refine J_reg ?_
  refine JL_q (q_idxO Tryz.runUnderlying206 Tryz.sizeOf28 3) (k := ?_)
  refine JL_q (q_load Tryz.isAgg28) (k := ?_)
  refine JL_q (q_assign) (k := ?_)
  refine JL_nil ?_
  refine JX_seq ?_
  refine J_seq ?_
  refine J_reg ?_
  refine JL_q (q_move) (k := ?_)
  refine JL_inl (args := [(Value.pointer (some ⟨r1, 0, none⟩))]) (c_callA Tryz.call100) Tryz.func100 Tryz.ntmps100 ?_
  refine J_seq ?_
  refine J_reg ?_
  refine JL_q (q_assign) (k := ?_)
  refine JL_nil ?_
  refine JX_seq ?_
  refine J_seq ?_
  refine J_reg ?_
  refine JL_q (q_move) (k := ?_)
  refine JL_q (q_nil) (k := ?_)
  refine JL_q (q_fld FO_158_0) (k := ?_)
  refine JL_q (q_fld FO_94_0) (k := ?_)
  refine JL_q (q_load Tryz.isAgg9) (k := ?_)
  refine JL_v (args := [(Value.string (bs ((Lib.cut ((Lib.cut ((Lib.cut s ([46] : Str)).2.1) ([46] : Str)).2.1) ([46] : Str)).2.1))), (Value.string (bs ([46] : Str)))]) (c_callA Tryz.call61) (fun w1 hw1 => Cut_ok w1 (s := ((Lib.cut ((Lib.cut ((Lib.cut s ([46] : Str)).2.1) ([46] : Str)).2.1) ([46] : Str)).2.1)) (sep := ([46] : Str)) (hG := hG.ext hw1.ext_out) (hn := by first | exact lb)) (k := ?_)
  have hct_80526 := cut_len ((Lib.cut ((Lib.cut ((Lib.cut s ([46] : Str)).2.1) ([46] : Str)).2.1) ([46] : Str)).2.1) ([46] : Str)
  refine JL_q (q_move) (k := ?_)
  refine JL_q (q_ext) (k := ?_)
  refine JL_q (q_ext) (k := ?_)
  refine JL_q (q_ext) (k := ?_)
  refine JL_q (q_assign) (k := ?_)
  refine JL_q (q_assign) (k := ?_)
  refine JL_q (q_assign) (k := ?_)
  refine JL_nil ?_
  refine JX_seq ?_
  refine J_seq ?_
  refine J_reg ?_
  refine JL_q (q_move) (k := ?_)
  refine JL_q (q_build (cs := [_]) Tryz.zeroValue94 PL_94) (k := ?_)
  refine JL_v (args := [(Value.agg [(Value.string (bs ((Lib.cut ((Lib.cut ((Lib.cut ((Lib.cut s ([46] : Str)).2.1) ([46] : Str)).2.1) ([46] : Str)).2.1) ([46] : Str)).1)))].toArray), (Value.int .i64 (255))]) (c_callA Tryz.call62) (fun w1 hw1 => aNumber_ok w1 (t := ((Lib.cut ((Lib.cut ((Lib.cut ((Lib.cut s ([46] : Str)).2.1) ([46] : Str)).2.1) ([46] : Str)).2.1) ([46] : Str)).1)) (most := 255) (n_t := by first | exact lb | decide) (hG := hG.ext hw1.ext_out) (hE := hE.ext hw1.ext_out) (hm := by first | exact lb | decide)) (k := ?_)
  refine JL_q (q_move) (k := ?_)
  refine JL_q (q_ext) (k := ?_)
  refine JL_q (q_ext) (k := ?_)
  refine JL_q (q_assign) (k := ?_)
  refine JL_q (q_assign) (k := ?_)
  refine JL_nil ?_
  refine JX_seq ?_
  refine J_seq ?_
  refine J_planK ((r2, Obj.cells [(Value.func (.func 100) [(Value.pointer (some ⟨r1, 0, none⟩))].toArray [].toArray), (Value.func (.func 100) [(Value.pointer (some ⟨r1, 0, none⟩))].toArray [].toArray), (Value.func (.func 100) [(Value.pointer (some ⟨r1, 0, none⟩))].toArray [].toArray), (Value.func (.func 100) [(Value.pointer (some ⟨r1, 0, none⟩))].toArray [].toArray)].toArray 28) :: []) ((r1, Obj.cells [(Value.string (bs ((Lib.cut ((Lib.cut ((Lib.cut s ([46] : Str)).2.1) ([46] : Str)).2.1) ([46] : Str)).2.1))), (Value.int .i64 (((aNumber ((Lib.cut s ([46] : Str)).1) 255).1))), (Value.int .i64 (((aNumber ((Lib.cut ((Lib.cut s ([46] : Str)).2.1) ([46] : Str)).1) 255).1))), (Value.int .i64 (((aNumber ((Lib.cut ((Lib.cut ((Lib.cut s ([46] : Str)).2.1) ([46] : Str)).2.1) ([46] : Str)).1) 255).1))), (Value.int .i64 (0)), (Value.int .i64 (3))].toArray 158) :: []) [((⟨r1, 5, none⟩ : Addr), (Value.int .i64 (3)))] (List.Perm.trans (List.Perm.refl _) (List.Perm.of_eq (by first | rfl | (simp only [List.cons_append, List.nil_append, List.append_assoc, List.append_nil]; done) | (simp only [List.cons_append, List.nil_append, List.append_assoc, List.append_nil]; rfl)))) (by repeat (first | exact KC.nil | refine KC.cons (by repeat (first | exact List.mem_cons_self | apply List.mem_cons_of_mem | apply List.mem_append_right)) rfl ?_)) mixed 16 [(true, 0), (true, 1), (true, 2), (true, 3), (true, 4), (true, 5), (true, 6), (true, 7), (true, 8), (true, 9), (true, 10), (false, 11), (true, 12), (true, 13), (true, 14), (false, 15)] (by kernel_rfl) ?_
  refine JK_q ((q_move).k) (k := ?_)
  refine JK_q ((q_move).k) (k := ?_)
  refine JK_q ((q_nil).k) (k := ?_)
  refine JK_q ((q_fld FO_158_2).k) (k := ?_)
  refine JK_q (k_load Tryz.isAgg3) (k := ?_)
  refine JK_q ((q_move).k) (k := ?_)
  refine JK_q ((q_move).k) (k := ?_)
  refine JK_q ((q_move).k) (k := ?_)
  refine JK_q ((q_nil).k) (k := ?_)
  refine JK_q ((q_fld FO_158_1).k) (k := ?_)
  refine JK_q ((q_idxP (m := 3) Tryz.runUnderlying156 Tryz.sizeOf3).k) (k := ?_)
  refine JK_s (V' := ((r1, Obj.cells [(Value.string (bs ((Lib.cut ((Lib.cut ((Lib.cut s ([46] : Str)).2.1) ([46] : Str)).2.1) ([46] : Str)).2.1))), (Value.int .i64 (((aNumber ((Lib.cut s ([46] : Str)).1) 255).1))), (Value.int .i64 (((aNumber ((Lib.cut ((Lib.cut s ([46] : Str)).2.1) ([46] : Str)).1) 255).1))), (Value.int .i64 (((aNumber ((Lib.cut ((Lib.cut ((Lib.cut s ([46] : Str)).2.1) ([46] : Str)).2.1) ([46] : Str)).1) 255).1))), (Value.int .i64 (((aNumber ((Lib.cut ((Lib.cut ((Lib.cut ((Lib.cut s ([46] : Str)).2.1) ([46] : Str)).2.1) ([46] : Str)).2.1) ([46] : Str)).1) 255).1))), (Value.int .i64 (3))].toArray 158) :: [])) (by repeat (first | exact KC.nil | refine KC.cons (by repeat (first | exact List.mem_cons_self | apply List.mem_cons_of_mem | apply List.mem_append_right)) rfl ?_)) (w_store (l' := [_, _, _, _, _, _]) Tryz.sizeOf3) (k := ?_)
  refine JK_q ((q_nil).k) (k := ?_)
  refine JK_q ((q_fld FO_158_0).k) (k := ?_)
  refine JK_q ((q_fld FO_94_0).k) (k := ?_)
  refine JK_s (V' := ((r1, Obj.cells [(Value.string (bs ((Lib.cut ((Lib.cut ((Lib.cut ((Lib.cut s ([46] : Str)).2.1) ([46] : Str)).2.1) ([46] : Str)).2.1) ([46] : Str)).2.1))), (Value.int .i64 (((aNumber ((Lib.cut s ([46] : Str)).1) 255).1))), (Value.int .i64 (((aNumber ((Lib.cut ((Lib.cut s ([46] : Str)).2.1) ([46] : Str)).1) 255).1))), (Value.int .i64 (((aNumber ((Lib.cut ((Lib.cut ((Lib.cut s ([46] : Str)).2.1) ([46] : Str)).2.1) ([46] : Str)).1) 255).1))), (Value.int .i64 (((aNumber ((Lib.cut ((Lib.cut ((Lib.cut ((Lib.cut s ([46] : Str)).2.1) ([46] : Str)).2.1) ([46] : Str)).2.1) ([46] : Str)).1) 255).1))), (Value.int .i64 (3))].toArray 158) :: [])) (by repeat (first | exact KC.nil | refine KC.cons (by repeat (first | exact List.mem_cons_self | apply List.mem_cons_of_mem | apply List.mem_append_right)) rfl ?_)) (w_store (l' := [_, _, _, _, _, _]) Tryz.sizeOf9) (k := ?_)
  refine JK_nil ?_
  refine JL_eqL (L' := ((r1, Obj.cells [(Value.string (bs ((Lib.cut ((Lib.cut ((Lib.cut ((Lib.cut s ([46] : Str)).2.1) ([46] : Str)).2.1) ([46] : Str)).2.1) ([46] : Str)).2.1))), (Value.int .i64 (((aNumber ((Lib.cut s ([46] : Str)).1) 255).1))), (Value.int .i64 (((aNumber ((Lib.cut ((Lib.cut s ([46] : Str)).2.1) ([46] : Str)).1) 255).1))), (Value.int .i64 (((aNumber ((Lib.cut ((Lib.cut ((Lib.cut s ([46] : Str)).2.1) ([46] : Str)).2.1) ([46] : Str)).1) 255).1))), (Value.int .i64 (((aNumber ((Lib.cut ((Lib.cut ((Lib.cut ((Lib.cut s ([46] : Str)).2.1) ([46] : Str)).2.1) ([46] : Str)).2.1) ([46] : Str)).1) 255).1))), (Value.int .i64 (3))].toArray 158) :: ((r2, Obj.cells [(Value.func (.func 100) [(Value.pointer (some ⟨r1, 0, none⟩))].toArray [].toArray), (Value.func (.func 100) [(Value.pointer (some ⟨r1, 0, none⟩))].toArray [].toArray), (Value.func (.func 100) [(Value.pointer (some ⟨r1, 0, none⟩))].toArray [].toArray), (Value.func (.func 100) [(Value.pointer (some ⟨r1, 0, none⟩))].toArray [].toArray)].toArray 28) :: []))) (by simp only [List.append_nil, List.append_assoc, List.cons_append, List.nil_append]) ?_
  refine JL_nil ?_
  refine JX_seq ?_
  refine J_seq ?_
  refine J_reg ?_
  refine JL_q (q_move) (k := ?_)
  refine JL_q (q_nil) (k := ?_)
  refine JL_q (q_fld FO_158_2) (k := ?_)
  refine JL_q (q_load Tryz.isAgg3) (k := ?_)
  refine JL_q (q_add) (k := ?_)
  refine JL_q (q_nil) (k := ?_)
  refine JL_q (q_fld FO_158_2) (k := ?_)
  refine JL_s (w_store (l' := [_, _, _, _, _, _]) Tryz.sizeOf3) (k := ?_)
  refine JL_nil ?_
  refine JX_seq ?_
  refine J_seq ?_
  refine J_reg ?_
  refine JL_q (q_move) (k := ?_)
  refine JL_q (q_move) (k := ?_)
  refine JL_bool 46 rfl (fun hq7 => ?_) (fun hq7 => ?_)
  rotate_left
  · refine JL_skips 7 rfl ?_
    refine JL_q (q_pickF) (k := ?_)
    refine JL_q (q_assign) (k := ?_)
    refine JL_nil ?_
    refine JX_seq ?_
    refine J_ret ?_
    refine JX_retI Tryz.results100 (Res.tmp rfl Res.nil) ?_
    refine JL_q (q_not) (k := ?_)
    refine JL_nil ?_
    refine JX_seq ?_
    refine J_true rfl ?_
    refine J_seq ?_
    refine J_reg ?_
    refine JL_q (q_assign) (k := ?_)
    refine JL_nil ?_
    refine JX_seq ?_
    refine J_ret ?_
    refine JX_block_ret ?_
    refine JX_seq_ret ?_
    refine JX_inv_ret ?_
    refine JX_block_ret ?_
    refine JX_seq_ret ?_
    refine JX_retI Tryz.results101 (Res.tmp rfl Res.nil) ?_
    refine JL_q (q_not) (k := ?_)
    refine JL_nil ?_
    refine JX_seq ?_
    refine J_true rfl ?_
    refine J_seq ?_
    refine J_reg ?_
    refine JL_q (q_assign) (k := ?_)
    refine JL_q (q_assign) (k := ?_)
    refine JL_nil ?_
    refine JX_seq ?_
    refine J_ret ?_
    refine JX_seq_ret ?_
    refine JX_ret Tryz.results63 (Res.tmp rfl (Res.tmp rfl Res.nil)) (fun w1 hw1 => ?_)
    exact ⟨(by rw [((((((((hF.t hq1).f hq2).t hq3).f hq4).t hq5).f hq6).f hq7)).eq] <;> first | rfl | (simp only [List.length_set] <;> rfl)), hw1.ext_out⟩
  refine JL_qg (q_move) (k := ?_)
  refine JL_qg (q_move) (k := ?_)
  refine JL_qg (q_nil) (k := ?_)
  refine JL_qg (q_fld FO_158_2) (k := ?_)
  refine JL_qg (q_load Tryz.isAgg3) (k := ?_)
  refine JL_qg (q_lss) (k := ?_)
  refine JL_qg (q_eqlB Tryz.runUnderlying4) (k := ?_)
  refine JL_q (q_pickT) (k := ?_)
  refine JL_q (q_assign) (k := ?_)
  refine JL_nil ?_
  refine JX_seq ?_
  refine J_ret ?_
  refine JX_retI Tryz.results100 (Res.tmp rfl Res.nil) ?_
  refine JL_q (q_not) (k := ?_)
  refine JL_nil ?_
  refine JX_seq ?_
  refine J_cond rfl (fun hq8 => ?_) (fun hq8 => ?_)
  · refine J_seq ?_
    refine J_reg ?_
    refine JL_q (q_assign) (k := ?_)
    refine JL_nil ?_
    refine JX_seq ?_
    refine J_ret ?_
    refine JX_block_ret ?_
    refine JX_seq_ret ?_
    refine JX_inv_ret ?_
    refine JX_block_ret ?_
    refine JX_seq_ret ?_
    refine JX_retI Tryz.results101 (Res.tmp rfl Res.nil) ?_
    refine JL_q (q_not) (k := ?_)
    refine JL_nil ?_
    refine JX_seq ?_
    refine J_true rfl ?_
    refine J_seq ?_
    refine J_reg ?_
    refine JL_q (q_assign) (k := ?_)
    refine JL_q (q_assign) (k := ?_)
    refine JL_nil ?_
    refine JX_seq ?_
    refine J_ret ?_
    refine JX_seq_ret ?_
    refine JX_ret Tryz.results63 (Res.tmp rfl (Res.tmp rfl Res.nil)) (fun w1 hw1 => ?_)
    exact ⟨(by rw [(((((((((hF.t hq1).f hq2).t hq3).f hq4).t hq5).f hq6).t hq7).t hq8)).eq] <;> first | rfl | (simp only [List.length_set] <;> rfl)), hw1.ext_out⟩
  refine J_skip ?_
  refine JX_block ?_
  refine JX_seq ?_
  refine J_reg ?_
  refine JL_q (q_add) (k := ?_)
  refine JL_q (q_move) (k := ?_)
  refine JL_nil ?_
  refine JX_again ?_
  refine J_seq ?_
  refine J_reg ?_
  refine JL_q (q_lss) (k := ?_)
  refine JL_nil ?_
  refine JX_seq ?_
  refine J_seq ?_
  refine J_false rfl ?_
  refine J_exit ?_
  refine JX_seq_exit ?_
  refine JX_inv_exit ?_
  refine JX_block_hit ?_
  refine JX_seq ?_
  refine J_seq ?_
  refine J_reg ?_
  refine JL_q (q_assign) (k := ?_)
  refine JL_nil ?_
  refine JX_seq ?_
  refine J_ret ?_
  refine JX_retI Tryz.results101 (Res.tmp rfl Res.nil) ?_
  refine JL_q (q_not) (k := ?_)
  refine JL_nil ?_
  refine JX_seq ?_
  refine J_false rfl ?_
  refine J_skip ?_
  refine JX_seq ?_
  refine J_seq ?_
  refine J_reg ?_
  refine JL_q (q_assign) (k := ?_)
  refine JL_nil ?_
  refine JX_seq ?_
  refine J_seq ?_
  refine J_seq ?_
  refine J_reg ?_
  refine JL_q (q_move) (k := ?_)
  refine JL_q (q_nil) (k := ?_)
  refine JL_q (q_fld FO_158_1) (k := ?_)
  refine JL_q (q_loadA Tryz.isAgg156 Tryz.sizeOf156) (k := ?_)
  refine JL_q (q_move) (k := ?_)
  refine JL_nil ?_
  refine JX_seq ?_
  refine J_block ?_
  refine J_unroll ?_
  refine J_seq ?_
  refine J_reg ?_
  refine JL_q (q_lss) (k := ?_)
  refine JL_nil ?_
  refine JX_seq ?_
  refine J_seq ?_
  refine J_true rfl ?_
  refine J_skip ?_
  refine JX_seq ?_
  refine J_seq ?_
  refine J_block ?_
  refine J_seq ?_
  refine J_reg ?_
  refine JL_q (q_idxA (m := 0) Tryz.runUnderlying156 Tryz.sizeOf3 Tryz.isAgg3) (k := ?_)
  refine JL_q (q_assign) (k := ?_)
  refine JL_nil ?_
  refine JX_seq ?_
  refine J_reg ?_
  refine JL_q (q_move) (k := ?_)
  refine JL_q (q_shlW) (k := ?_)
  refine JL_q (q_move) (k := ?_)
  refine JL_q (q_orW) (k := ?_)
  refine JL_q (q_assign) (k := ?_)
  refine JL_nil ?_
  refine JX_block ?_
  refine JX_seq ?_
  refine J_reg ?_
  refine JL_q (q_add) (k := ?_)
  refine JL_q (q_move) (k := ?_)
  refine JL_nil ?_
  refine JX_again ?_
  refine J_seq ?_
  refine J_reg ?_
  refine JL_q (q_lss) (k := ?_)
  refine JL_nil ?_
  refine JX_seq ?_
  refine J_seq ?_
  refine J_true rfl ?_
  refine J_skip ?_
  refine JX_seq ?_
  refine J_seq ?_
  refine J_block ?_
  refine J_seq ?_
  refine J_reg ?_
  refine JL_q (q_idxA (m := 1) Tryz.runUnderlying156 Tryz.sizeOf3 Tryz.isAgg3) (k := ?_)
  refine JL_q (q_assign) (k := ?_)
  refine JL_nil ?_
  refine JX_seq ?_
  refine J_reg ?_
  refine JL_q (q_move) (k := ?_)
  refine JL_q (q_shlW) (k := ?_)
  refine JL_q (q_move) (k := ?_)
  refine JL_q (q_orW) (k := ?_)
  refine JL_q (q_assign) (k := ?_)
  refine JL_nil ?_
  refine JX_block ?_
  refine JX_seq ?_
  refine J_reg ?_
  refine JL_q (q_add) (k := ?_)
  refine JL_q (q_move) (k := ?_)
  refine JL_nil ?_
  refine JX_again ?_
  refine J_seq ?_
  refine J_reg ?_
  refine JL_q (q_lss) (k := ?_)
  refine JL_nil ?_
  refine JX_seq ?_
  refine J_seq ?_
  refine J_true rfl ?_
  refine J_skip ?_
  refine JX_seq ?_
  refine J_seq ?_
  refine J_block ?_
  refine J_seq ?_
  refine J_reg ?_
  refine JL_q (q_idxA (m := 2) Tryz.runUnderlying156 Tryz.sizeOf3 Tryz.isAgg3) (k := ?_)
  refine JL_q (q_assign) (k := ?_)
  refine JL_nil ?_
  refine JX_seq ?_
  refine J_reg ?_
  refine JL_q (q_move) (k := ?_)
  refine JL_q (q_shlW) (k := ?_)
  refine JL_q (q_move) (k := ?_)
  refine JL_q (q_orW) (k := ?_)
  refine JL_q (q_assign) (k := ?_)
  refine JL_nil ?_
  refine JX_block ?_
  refine JX_seq ?_
  refine J_reg ?_
  refine JL_q (q_add) (k := ?_)
  refine JL_q (q_move) (k := ?_)
  refine JL_nil ?_
  refine JX_again ?_
  refine J_seq ?_
  refine J_reg ?_
  refine JL_q (q_lss) (k := ?_)
  refine JL_nil ?_
  refine JX_seq ?_
  refine J_seq ?_
  refine J_true rfl ?_
  refine J_skip ?_
  refine JX_seq ?_
  refine J_seq ?_
  refine J_block ?_
  refine J_seq ?_
  refine J_reg ?_
  refine JL_q (q_idxA (m := 3) Tryz.runUnderlying156 Tryz.sizeOf3 Tryz.isAgg3) (k := ?_)
  refine JL_q (q_assign) (k := ?_)
  refine JL_nil ?_
  refine JX_seq ?_
  refine J_reg ?_
  refine JL_q (q_move) (k := ?_)
  refine JL_q (q_shlW) (k := ?_)
  refine JL_q (q_move) (k := ?_)
  refine JL_q (q_orW) (k := ?_)
  refine JL_q (q_assign) (k := ?_)
  refine JL_nil ?_
  refine JX_block ?_
  refine JX_seq ?_
  refine J_reg ?_
  refine JL_q (q_add) (k := ?_)
  refine JL_q (q_move) (k := ?_)
  refine JL_nil ?_
  refine JX_again ?_
  refine J_seq ?_
  refine J_reg ?_
  refine JL_q (q_lss) (k := ?_)
  refine JL_nil ?_
  refine JX_seq ?_
  refine J_seq ?_
  refine J_false rfl ?_
  refine J_exit ?_
  refine JX_seq_exit ?_
  refine JX_inv_exit ?_
  refine JX_block_hit ?_
  refine JX_seq ?_
  refine J_seq ?_
  refine J_reg ?_
  refine JL_q (q_move) (k := ?_)
  refine JL_q (q_assign) (k := ?_)
  refine JL_q (q_assign) (k := ?_)
  refine JL_nil ?_
  refine JX_seq ?_
  refine J_ret ?_
  refine JX_ret Tryz.results63 (Res.tmp rfl (Res.tmp rfl Res.nil)) (fun w1 hw1 => ?_)
  exact ⟨(by rw [(((((((((hF.t hq1).f hq2).t hq3).f hq4).t hq5).f hq6).t hq7).f hq8)).eq] <;> first | rfl | (simp only [List.length_set] <;> rfl)), hw1.ext_out⟩

theorem aPrintPrefix_ok (w : World) {ea0 : Addr} {ea1 : Addr} {ea2 : Addr} {ea3 : Addr} {ea4 : Addr} {ea5 : Addr} {p : Prefix} (hG : Gl w) (hE : Er w ea0 ea1 ea2 ea3 ea4 ea5) : Val Tryz.prog 31 [(Value.agg [(Value.int .i64 (p.addr)), (Value.int .i64 (p.bits))].toArray)] w (Value.tuple [(Value.string (bs ((aPrintPrefix p).1))), (Value.int .i64 (((aPrintPrefix p).2)))].toArray) := by
  have hF := Is.refl (aPrintPrefix p)
  refine enter Tryz.func31 Tryz.ntmps31 (h := ?_)
  refine J_seq ?_
  refine J_reg ?_
  refine JL_a noMk (a_box (l := [_, _])) (k := fun r1 hr1 => ?_)
  refine JL_q (q_assign) (k := ?_)
  refine JL_q (q_assign) (k := ?_)
  refine JL_nil ?_
  refine JX_seq ?_
  refine J_seq ?_
  refine J_seq ?_
  refine J_reg ?_
  refine JL_q (q_loadA Tryz.isAgg23 Tryz.sizeOf23) (k := ?_)
  refine JL_v (args := [(Value.agg [(Value.int .i64 (p.addr)), (Value.int .i64 (p.bits))].toArray)]) (c_callA Tryz.call52) (fun w1 hw1 => aRight_ok w1 (p := p)) (k := ?_)
  refine JL_q (q_not) (k := ?_)
  refine JL_nil ?_
  refine JX_seq ?_
  refine J_cond rfl (fun hq1 => ?_) (fun hq1 => ?_)
  · refine J_seq ?_
    refine J_reg ?_
    refine JL_q (q_assign) (k := ?_)
    refine JL_q (q_assign) (k := ?_)
    refine JL_nil ?_
    refine JX_seq ?_
    refine J_ret ?_
    refine JX_seq_ret ?_
    refine JX_ret Tryz.results31 (Res.tmp rfl (Res.tmp rfl Res.nil)) (fun w1 hw1 => ?_)
    exact ⟨(by rw [((hF.t hq1)).eq] <;> first | rfl | (simp only [List.length_set] <;> rfl)), hw1.ext_out⟩
  have hfhq1 := aRight_t (by simpa using hq1)
  refine J_skip ?_
  refine JX_seq ?_
  refine J_seq ?_
  refine J_reg ?_
  refine JL_q (q_fld FO_23_0) (k := ?_)
  refine JL_q (q_load Tryz.isAgg3) (k := ?_)
  refine JL_v (args := [(Value.int .i64 (p.addr))]) (c_callA Tryz.call55) (fun w1 hw1 => aPrint_ok w1 (a := p.addr) (hG := hG.ext hw1.ext_out) (hE := hE.ext hw1.ext_out)) (k := ?_)
  have hpl_25198 := aPrint_len p.addr
  refine JL_q (q_move) (k := ?_)
  refine JL_q (q_ext) (k := ?_)
  refine JL_q (q_ext) (k := ?_)
  refine JL_q (q_assign) (k := ?_)
  refine JL_q (q_assign) (k := ?_)
  refine JL_nil ?_
  refine JX_seq ?_
  refine J_seq ?_
  refine J_reg ?_
  refine JL_q (q_move) (k := ?_)
  refine JL_q (q_addT (s := ((aPrint p.addr).1)) (s' := ([47] : Str)) (h := by first | exact lb)) (k := ?_)
  have hsa1 : (((aPrint p.addr).1) ++ ([47] : Str)).length = ((aPrint p.addr).1).length + 1 := by simp only [List.length_append, List.length_cons, List.length_nil, Nat.zero_add]
  refine JL_q (q_fld FO_23_1) (k := ?_)
  refine JL_q (q_load Tryz.isAgg3) (k := ?_)
  refine JL_v (args := [(Value.int .i64 (p.bits))]) (c_callA Tryz.call56) (fun w1 hw1 => Itoa_ok w1 (n := p.bits) (hG := hG.ext hw1.ext_out) (hn := by first | exact lb)) (k := ?_)
  have hil_97556 := itoa_len (n := p.bits) (by omega)
  refine JL_q (q_addT (s := (((aPrint p.addr).1) ++ ([47] : Str))) (s' := (Lib.itoa p.bits)) (h := by first | exact lb)) (k := ?_)
  have hsa2 : ((((aPrint p.addr).1) ++ ([47] : Str)) ++ (Lib.itoa p.bits)).length = (((aPrint p.addr).1) ++ ([47] : Str)).length + (Lib.itoa p.bits).length := by simp only [List.length_append, List.length_cons, List.length_nil, Nat.zero_add]
  refine JL_q (q_assign) (k := ?_)
  refine JL_q (q_assign) (k := ?_)
  refine JL_nil ?_
  refine JX_seq ?_
  refine J_ret ?_
  refine JX_ret Tryz.results31 (Res.tmp rfl (Res.tmp rfl Res.nil)) (fun w1 hw1 => ?_)
  exact ⟨(by rw [((hF.f hq1)).eq] <;> first | rfl | (simp only [List.length_set] <;> rfl)), hw1.ext_out⟩

theorem aParsePrefix_ok (w : World) {ea0 : Addr} {ea1 : Addr} {ea2 : Addr} {ea3 : Addr} {ea4 : Addr} {ea5 : Addr} {s : Str} (n_s : s.length ≤ 1000000) (hG : Gl w) (hE : Er w ea0 ea1 ea2 ea3 ea4 ea5) : Val Tryz.prog 34 [(Value.string (bs s))] w (Value.tuple [(Value.agg [(Value.int .i64 (((aParsePrefix s).1.addr))), (Value.int .i64 (((aParsePrefix s).1.bits)))].toArray), (Value.int .i64 (((aParsePrefix s).2)))].toArray) := by
  have hF := Is.refl (aParsePrefix s)
  refine enter Tryz.func34 Tryz.ntmps34 (h := ?_)
  refine J_seq ?_
  refine J_reg ?_
  refine JL_a noMk (a_alloc (l := [_, _]) Tryz.zeroValue23) (k := fun r1 hr1 => ?_)
  refine JL_q (q_assign) (k := ?_)
  refine JL_nil ?_
  refine JX_seq ?_
  refine J_seq ?_
  refine J_reg ?_
  refine JL_q (q_move) (k := ?_)
  refine JL_v (args := [(Value.string (bs s)), (Value.string (bs ([47] : Str)))]) (c_callA Tryz.call61) (fun w1 hw1 => Cut_ok w1 (s := s) (sep := ([47] : Str)) (hG := hG.ext hw1.ext_out) (hn := by first | exact lb)) (k := ?_)
  have hct_38475 := cut_len s ([47] : Str)
  refine JL_q (q_move) (k := ?_)
  refine JL_q (q_ext) (k := ?_)
  refine JL_q (q_ext) (k := ?_)
  refine JL_q (q_ext) (k := ?_)
  refine JL_q (q_assign) (k := ?_)
  refine JL_q (q_assign) (k := ?_)
  refine JL_q (q_assign) (k := ?_)
  refine JL_nil ?_
  refine JX_seq ?_
  refine J_seq ?_
  refine J_reg ?_
  refine JL_q (q_move) (k := ?_)
  refine JL_q (q_build (cs := [_]) Tryz.zeroValue94 PL_94) (k := ?_)
  refine JL_v (args := [(Value.agg [(Value.string (bs ((Lib.cut s ([47] : Str)).2.1)))].toArray), (Value.int .i64 (32))]) (c_callA Tryz.call62) (fun w1 hw1 => aNumber_ok w1 (t := ((Lib.cut s ([47] : Str)).2.1)) (most := 32) (n_t := by first | exact lb | decide) (hG := hG.ext hw1.ext_out) (hE := hE.ext hw1.ext_out) (hm := by first | exact lb | decide)) (k := ?_)
  refine JL_q (q_move) (k := ?_)
  refine JL_q (q_ext) (k := ?_)
  refine JL_q (q_ext) (k := ?_)
  refine JL_q (q_assign) (k := ?_)
  refine JL_q (q_assign) (k := ?_)
  refine JL_nil ?_
  refine JX_seq ?_
  refine J_seq ?_
  refine J_reg ?_
  refine JL_q (q_move) (k := ?_)
  refine JL_v (args := [(Value.string (bs ((Lib.cut s ([47] : Str)).1)))]) (c_callA Tryz.call63) (fun w1 hw1 => aParse_ok w1 (s := ((Lib.cut s ([47] : Str)).1)) (n_s := by first | exact lb | decide) (hG := hG.ext hw1.ext_out) (hE := hE.ext hw1.ext_out)) (k := ?_)
  refine JL_q (q_move) (k := ?_)
  refine JL_q (q_ext) (k := ?_)
  refine JL_q (q_ext) (k := ?_)
  refine JL_q (q_assign) (k := ?_)
  refine JL_q (q_assign) (k := ?_)
  refine JL_nil ?_
  refine JX_seq ?_
  refine J_seq ?_
  refine J_reg ?_
  refine JL_q (q_move) (k := ?_)
  refine JL_q (q_move) (k := ?_)
  refine JL_q (q_build (cs := [_, _]) Tryz.zeroValue23 PL_23) (k := ?_)
  refine JL_a noMk (a_alloc (l := [_, _]) Tryz.zeroValue23) (k := fun r2 hr2 => ?_)
  refine JL_s (w_store (l' := [_, _]) Tryz.sizeOf23) (k := ?_)
  refine JL_nil ?_
  refine JX_seq ?_
  refine J_seq ?_
  refine J_seq ?_
  refine J_reg ?_
  refine JL_q (q_move) (k := ?_)
  refine JL_q (q_not) (k := ?_)
  refine JL_q (q_move) (k := ?_)
  refine JL_bool 34 rfl (fun hq1 => ?_) (fun hq1 => ?_)
  · refine JL_skips 2 rfl ?_
    refine JL_q (q_pickT) (k := ?_)
    refine JL_q (q_move) (k := ?_)
    refine JL_skips 3 rfl ?_
    refine JL_q (q_pickT) (k := ?_)
    refine JL_nil ?_
    refine JX_seq ?_
    refine J_true rfl ?_
    refine J_seq ?_
    refine J_reg ?_
    refine JL_q (q_build (cs := [_, _]) Tryz.zeroValue23 PL_23) (k := ?_)
    refine JL_s (w_store (l' := [_, _]) Tryz.sizeOf23) (k := ?_)
    refine JL_q (q_assign) (k := ?_)
    refine JL_nil ?_
    refine JX_seq ?_
    refine J_ret ?_
    refine JX_seq_ret ?_
    refine JX_ret Tryz.results34 (Res.agg Tryz.isAgg23 Tryz.sizeOf23 rfl me rfl (Res.tmp rfl Res.nil)) (fun w1 hw1 => ?_)
    exact ⟨(by rw [((hF.t hq1)).eq] <;> first | rfl | (simp only [List.length_set] <;> rfl)), hw1.ext_out⟩
  refine JL_qg (q_move) (k := ?_)
  refine JL_qg (q_neq) (k := ?_)
  refine JL_q (q_pickF) (k := ?_)
  refine JL_q (q_move) (k := ?_)
  refine JL_dec 38 rfl (fun hq2 => ?_) (fun hq2 => ?_)
  · refine JL_skips 3 rfl ?_
    refine JL_q (q_pickT) (k := ?_)
    refine JL_nil ?_
    refine JX_seq ?_
    refine J_true rfl ?_
    refine J_seq ?_
    refine J_reg ?_
    refine JL_q (q_build (cs := [_, _]) Tryz.zeroValue23 PL_23) (k := ?_)
    refine JL_s (w_store (l' := [_, _]) Tryz.sizeOf23) (k := ?_)
    refine JL_q (q_assign) (k := ?_)
    refine JL_nil ?_
    refine JX_seq ?_
    refine J_ret ?_
    refine JX_seq_ret ?_
    refine JX_ret Tryz.results34 (Res.agg Tryz.isAgg23 Tryz.sizeOf23 rfl me rfl (Res.tmp rfl Res.nil)) (fun w1 hw1 => ?_)
    exact ⟨(by rw [(((hF.f hq1).pos hq2)).eq] <;> first | rfl | (simp only [List.length_set] <;> rfl)), hw1.ext_out⟩
  refine JL_qg (q_loadA Tryz.isAgg23 Tryz.sizeOf23) (k := ?_)
  refine JL_vg (args := [(Value.agg [(Value.int .i64 (((aParse ((Lib.cut s ([47] : Str)).1)).1))), (Value.int .i64 (((aNumber ((Lib.cut s ([47] : Str)).2.1) 32).1)))].toArray)]) (c_callA Tryz.call52) (fun w1 hw1 => aRight_ok w1 (p := (Prefix.mk ((aParse ((Lib.cut s ([47] : Str)).1)).1) ((aNumber ((Lib.cut s ([47] : Str)).2.1) 32).1)))) (k := ?_)
  refine JL_qg (q_not) (k := ?_)
  refine JL_q (q_pickF) (k := ?_)
  refine JL_nil ?_
  refine JX_seq ?_
  refine J_cond rfl (fun hq3 => ?_) (fun hq3 => ?_)
  · refine J_seq ?_
    refine J_reg ?_
    refine JL_q (q_build (cs := [_, _]) Tryz.zeroValue23 PL_23) (k := ?_)
    refine JL_s (w_store (l' := [_, _]) Tryz.sizeOf23) (k := ?_)
    refine JL_q (q_assign) (k := ?_)
    refine JL_nil ?_
    refine JX_seq ?_
    refine J_ret ?_
    refine JX_seq_ret ?_
    refine JX_ret Tryz.results34 (Res.agg Tryz.isAgg23 Tryz.sizeOf23 rfl me rfl (Res.tmp rfl Res.nil)) (fun w1 hw1 => ?_)
    exact ⟨(by rw [((((hF.f hq1).neg hq2).t hq3)).eq] <;> first | rfl | (simp only [List.length_set] <;> rfl)), hw1.ext_out⟩
  have hfhq3 := aRight_t (by simpa using hq3)
  refine J_skip ?_
  refine JX_seq ?_
  refine J_seq ?_
  refine J_reg ?_
  refine JL_q (q_loadA Tryz.isAgg23 Tryz.sizeOf23) (k := ?_)
  refine JL_s (w_store (l' := [_, _]) Tryz.sizeOf23) (k := ?_)
  refine JL_q (q_assign) (k := ?_)
  refine JL_nil ?_
  refine JX_seq ?_
  refine J_ret ?_
  refine JX_ret Tryz.results34 (Res.agg Tryz.isAgg23 Tryz.sizeOf23 rfl me rfl (Res.tmp rfl Res.nil)) (fun w1 hw1 => ?_)
  exact ⟨(by rw [((((hF.f hq1).neg hq2).f hq3)).eq] <;> first | rfl | (simp only [List.length_set] <;> rfl)), hw1.ext_out⟩

theorem rNum_ok (w : World) {n_ : Int} (hn : 0 ≤ n_ ∧ n_ ≤ 1000000000000) : Val Tryz.prog 74 [(Value.int .i64 (n_))] w (Value.string (bs (Lib.itoa n_))) := by
  have hF := Is.refl (Lib.itoa n_)
  refine enter Tryz.func74 Tryz.ntmps74 (h := ?_)
  refine J_seq ?_
  refine J_reg ?_
  refine JL_q (q_assign) (k := ?_)
  refine JL_nil ?_
  refine JX_seq ?_
  refine J_seq ?_
  refine J_seq ?_
  refine J_reg ?_
  refine JL_q (q_move) (k := ?_)
  refine JL_q (q_lss) (k := ?_)
  refine JL_nil ?_
  refine JX_seq ?_
  refine J_dec rfl (fun hq1 => ?_) (fun hq1 => ?_)
  · refine J_seq ?_
    refine J_reg ?_
    refine JL_q (q_move) (k := ?_)
    refine JL_q (q_move) (k := ?_)
    refine JL_q (q_add) (k := ?_)
    refine JL_q (q_subT (s := ([48, 49, 50, 51, 52, 53, 54, 55, 56, 57] : Str)) ((n_).toNat) (((n_ + 1)).toNat) Tryz.runUnderlying9 (by first | omega | (simp; omega)) (by first | omega | (simp; omega))) (k := ?_)
    have hsb1 : ((([48, 49, 50, 51, 52, 53, 54, 55, 56, 57] : Str).take (((n_ + 1)).toNat)).drop ((n_).toNat)).length = (((n_ + 1)).toNat) - ((n_).toNat) := by first | omega | (simp only [List.length_take, List.length_drop, List.length_cons, List.length_nil] <;> omega)
    refine JL_q (q_assign) (k := ?_)
    refine JL_nil ?_
    refine JX_seq ?_
    refine J_ret ?_
    refine JX_seq_ret ?_
    refine JX_ret Tryz.results74 (Res.tmp rfl Res.nil) (fun w1 hw1 => ?_)
    exact ⟨(by first | exact congrArg (fun q => Ending.returned (Value.string (bs q))) (num_small (n := n_) (by omega)) | exact congrArg (fun q => Ending.returned (Value.string (bs q))) (num_big (n := n_) (by omega))), hw1.ext_out⟩
  refine J_skip ?_
  refine JX_seq ?_
  refine J_seq ?_
  refine J_plan mixed 11 [(true, 0), (true, 1), (true, 3), (true, 4), (true, 5), (true, 6), (true, 7), (true, 8), (false, 2), (true, 9), (true, 10)] (by kernel_rfl) ?_
  refine JD_q (q_move) (k := ?_)
  refine JD_q (q_quo) (k := ?_)
  refine JD_q (q_move) (k := ?_)
  refine JD_q (q_rem) (k := ?_)
  refine JD_q (q_move) (k := ?_)
  refine JD_q (q_rem) (k := ?_)
  refine JD_q (q_add) (k := ?_)
  refine JD_q (q_subT (s := ([48, 49, 50, 51, 52, 53, 54, 55, 56, 57] : Str)) (((n_ % 10)).toNat) ((((n_ % 10) + 1)).toNat) Tryz.runUnderlying9 (by first | omega | (simp; omega)) (by first | omega | (simp; omega))) (k := ?_)
  have hsb2 : ((([48, 49, 50, 51, 52, 53, 54, 55, 56, 57] : Str).take ((((n_ % 10) + 1)).toNat)).drop (((n_ % 10)).toNat)).length = ((((n_ % 10) + 1)).toNat) - (((n_ % 10)).toNat) := by first | omega | (simp only [List.length_take, List.length_drop, List.length_cons, List.length_nil] <;> omega)
  refine JD_v (args := [(Value.int .i64 ((n_ / 10)))]) (c_callA Tryz.call74) (fun w1 hw1 => rNum_ok w1 (n_ := (n_ / 10)) (hn := by first | exact lb | decide)) (k := ?_)
  have hil_68167 := itoa_len (n := (n_ / 10)) (by omega)
  refine JD_q (q_addT (s := (Lib.itoa (n_ / 10))) (s' := ((([48, 49, 50, 51, 52, 53, 54, 55, 56, 57] : Str).take ((((n_ % 10) + 1)).toNat)).drop (((n_ % 10)).toNat))) (h := by (simp; omega))) (k := ?_)
  have hsa3 : ((Lib.itoa (n_ / 10)) ++ ((([48, 49, 50, 51, 52, 53, 54, 55, 56, 57] : Str).take ((((n_ % 10) + 1)).toNat)).drop (((n_ % 10)).toNat))).length = (Lib.itoa (n_ / 10)).length + ((([48, 49, 50, 51, 52, 53, 54, 55, 56, 57] : Str).take ((((n_ % 10) + 1)).toNat)).drop (((n_ % 10)).toNat)).length := by simp only [List.length_append, List.length_cons, List.length_nil, Nat.zero_add]
  refine JD_q (q_assign) (k := ?_)
  refine JD_nil0 ?_
  refine JL_nil ?_
  refine JX_seq ?_
  refine J_ret ?_
  refine JX_ret Tryz.results74 (Res.tmp rfl Res.nil) (fun w1 hw1 => ?_)
  exact ⟨(by first | exact congrArg (fun q => Ending.returned (Value.string (bs q))) (num_small (n := n_) (by omega)) | exact congrArg (fun q => Ending.returned (Value.string (bs q))) (num_big (n := n_) (by omega))), hw1.ext_out⟩
  termination_by n_.toNat
  decreasing_by omega

theorem rCut_ok (w : World) {s : Str} {c : Int} (n_s : s.length ≤ 1000000) : Val Tryz.prog 44 [(Value.string (bs s)), (Value.int .u8 (c))] w (Value.tuple [(Value.string (bs ((rCut s c).1))), (Value.string (bs ((rCut s c).2.1))), (Value.bool (((rCut s c).2.2)))].toArray) := by
  have hF := Is.refl (rCut s c)
  refine enter Tryz.func44 Tryz.ntmps44 (h := ?_)
  refine J_seq ?_
  refine J_reg ?_
  refine JL_q (q_assign) (k := ?_)
  refine JL_q (q_assign) (k := ?_)
  refine JL_q (q_assign) (k := ?_)
  refine JL_nil ?_
  refine JX_seq ?_
  refine J_seq ?_
  refine J_seq ?_
  refine J_reg ?_
  refine JL_q (q_assign) (k := ?_)
  refine JL_nil ?_
  refine JX_seq ?_
  refine J_block ?_
  refine J_loop2 (σ1 := Nat) (σ2 := Nat) (fun n_2 i_1 => []) (fun n_2 i_1 => [(0, (Value.string (bs s))), (1, (Value.int .u8 (c))), (4, (Value.string (bs ([] : Str)))), (5, (Value.string (bs ([] : Str)))), (6, (Value.bool (false))), (7, (Value.int .i64 (((i_1 : Nat) : Int))))]) (fun n_2 i_1 => s.length - i_1 < n_2 ∧ Is (rCut_l0 s c (s.length + 1) 0) (rCut_l0 s c n_2 i_1) ∧ i_1 ≤ s.length) (fun n_2 i_1 => n_2) (s.length + 1) 0 ?_ se (List.Perm.refl _) ?_
  · exact ⟨Nat.lt_succ_self _, Is.refl _, (by first | omega | rfl | (simp; done))⟩
  · rintro (_ | n_2) i_1 ⟨hm4, hF3, hi5⟩
    · omega
    refine J_seq ?_
    refine J_seq ?_
    refine J_reg ?_
    refine JL_q (q_move) (k := ?_)
    refine JL_q (q_move) (k := ?_)
    refine JL_q (q_lenT Tryz.runUnderlying9) (k := ?_)
    refine JL_q (q_lss) (k := ?_)
    refine JL_nil ?_
    refine JX_seq ?_
    refine J_dec rfl (fun hq1 => ?_) (fun hq1 => ?_)
    rotate_left
    · refine J_exit ?_
      refine JX_seq_exit ?_
      refine JX_inv_exit ?_
      refine JX_block_hit ?_
      refine JX_seq ?_
      refine J_seq ?_
      refine J_reg ?_
      refine JL_q (q_move) (k := ?_)
      refine JL_q (q_assign) (k := ?_)
      refine JL_q (q_assign) (k := ?_)
      refine JL_q (q_assign) (k := ?_)
      refine JL_nil ?_
      refine JX_seq ?_
      refine J_ret ?_
      refine JX_ret Tryz.results44 (Res.tmp rfl (Res.tmp rfl (Res.tmp rfl Res.nil))) (fun w1 hw1 => ?_)
      exact ⟨(by rw [((hF.ok1 (hF3.neg hq1))).eq] <;> first | rfl | (simp only [List.length_set] <;> rfl)), hw1.ext_out⟩
    refine J_skip ?_
    refine JX_seq ?_
    refine J_seq ?_
    refine J_block ?_
    refine J_seq ?_
    refine J_reg ?_
    refine JL_q (q_move) (k := ?_)
    refine JL_q (q_move) (k := ?_)
    have hu16 := u8_lt (s.getD i_1 default)
    refine JL_q (q_idxT (s := s) i_1 Tryz.runUnderlying9 (by first | exact ix)) (k := ?_)
    refine JL_q (q_move) (k := ?_)
    refine JL_q (q_eql) (k := ?_)
    refine JL_nil ?_
    refine JX_seq ?_
    refine J_dec rfl (fun hq2 => ?_) (fun hq2 => ?_)
    rotate_left
    · refine J_skip ?_
      refine JX_block ?_
      refine JX_seq ?_
      refine J_reg ?_
      refine JL_q (q_move) (k := ?_)
      refine JL_q (q_add) (k := ?_)
      refine JL_q (q_assign) (k := ?_)
      refine JL_nil ?_
      exact JX_inv2 n_2 (i_1 + 1) ⟨by omega, ((hF3.pos hq1).neg hq2), (by omega)⟩ (Nat.lt_succ_self _) se (List.Perm.refl _)
    refine J_seq ?_
    refine J_plan mixed 10 [(true, 0), (true, 1), (true, 2), (true, 3), (true, 4), (true, 5), (true, 6), (true, 7), (true, 8), (true, 9)] (by kernel_rfl) ?_
    refine JD_q (q_move) (k := ?_)
    refine JD_q (q_move) (k := ?_)
    refine JD_q (q_subThi (s := s) i_1 Tryz.runUnderlying9 (by omega)) (k := ?_)
    have hsb3 : (s.take i_1).length = i_1 := by first | omega | (simp only [List.length_take, List.length_drop, List.length_cons, List.length_nil] <;> omega)
    refine JD_q (q_move) (k := ?_)
    refine JD_q (q_move) (k := ?_)
    refine JD_q (q_add) (k := ?_)
    refine JD_q (q_subTlo (s := s) (i_1 + 1) Tryz.runUnderlying9 (by omega)) (k := ?_)
    have hsb4 : (s.drop (i_1 + 1)).length = s.length - (i_1 + 1) := by first | omega | (simp only [List.length_take, List.length_drop, List.length_cons, List.length_nil] <;> omega)
    refine JD_q (q_assign) (k := ?_)
    refine JD_q (q_assign) (k := ?_)
    refine JD_q (q_assign) (k := ?_)
    refine JD_nil0 ?_
    refine JL_nil ?_
    refine JX_seq ?_
    refine J_ret ?_
    refine JX_block_ret ?_
    refine JX_seq_ret ?_
    refine JX_inv_ret ?_
    refine JX_block_ret ?_
    refine JX_seq_ret ?_
    refine JX_ret Tryz.results44 (Res.tmp rfl (Res.tmp rfl (Res.tmp rfl Res.nil))) (fun w1 hw1 => ?_)
    exact ⟨(by rw [((hF.er1 ((hF3.pos hq1).pos hq2))).eq] <;> first | rfl | (simp only [List.length_set] <;> rfl)), hw1.ext_out⟩

theorem rNumber_ok (w : World) {s : Str} {most : Int} (n_s : s.length ≤ 1000000) (hm : 0 ≤ most ∧ most ≤ 1000000000) : Val Tryz.prog 76 [(Value.string (bs s)), (Value.int .i64 (most))] w (Value.tuple [(Value.int .i64 (((rNumber s most).1))), (Value.bool (((rNumber s most).2)))].toArray) := by
  have hF := Is.refl (rNumber s most)
  refine enter Tryz.func76 Tryz.ntmps76 (h := ?_)
  refine J_seq ?_
  refine J_reg ?_
  refine JL_q (q_assign) (k := ?_)
  refine JL_q (q_assign) (k := ?_)
  refine JL_nil ?_
  refine JX_seq ?_
  refine J_seq ?_
  refine J_reg ?_
  refine JL_q (q_assign) (k := ?_)
  refine JL_nil ?_
  refine JX_seq ?_
  refine J_seq ?_
  refine J_seq ?_
  refine J_reg ?_
  refine JL_q (q_assign) (k := ?_)
  refine JL_nil ?_
  refine JX_seq ?_
  refine J_block ?_
  refine J_loop3 (σ1 := Nat) (σ2 := Int) (σ3 := Nat) (fun n_3 n_1 i_2 => []) (fun n_3 n_1 i_2 => [(0, (Value.string (bs s))), (1, (Value.int .i64 (most))), (4, (Value.int .i64 (0))), (5, (Value.bool (false))), (6, (Value.int .i64 (n_1))), (7, (Value.int .i64 (((i_2 : Nat) : Int))))]) (fun n_3 n_1 i_2 => s.length - i_2 < n_3 ∧ Is (rNumber_l0 s most (s.length + 1) 0 0) (rNumber_l0 s most n_3 n_1 i_2) ∧ 0 ≤ n_1 ∧ n_1 ≤ 10 * most + 9 ∧ i_2 ≤ s.length) (fun n_3 n_1 i_2 => n_3) (s.length + 1) 0 0 ?_ se (List.Perm.refl _) ?_
  · exact ⟨Nat.lt_succ_self _, Is.refl _, (by omega), (by omega)⟩
  · rintro (_ | n_3) n_1 i_2 ⟨hm5, hF4, hi6, hi7⟩
    · omega
    refine J_seq ?_
    refine J_seq ?_
    refine J_reg ?_
    refine JL_q (q_move) (k := ?_)
    refine JL_q (q_move) (k := ?_)
    refine JL_q (q_lenT Tryz.runUnderlying9) (k := ?_)
    refine JL_q (q_lss) (k := ?_)
    refine JL_nil ?_
    refine JX_seq ?_
    refine J_dec rfl (fun hq1 => ?_) (fun hq1 => ?_)
    rotate_left
    · refine J_exit ?_
      refine JX_seq_exit ?_
      refine JX_inv_exit ?_
      refine JX_block_hit ?_
      refine JX_seq ?_
      refine J_seq ?_
      refine J_reg ?_
      refine JL_q (q_move) (k := ?_)
      refine JL_q (q_move) (k := ?_)
      refine JL_q (q_move) (k := ?_)
      refine JL_q (q_leq) (k := ?_)
      refine JL_q (q_move) (k := ?_)
      refine JL_dec 41 rfl (fun hq5 => ?_) (fun hq5 => ?_)
      rotate_left
      · refine JL_skips 4 rfl ?_
        refine JL_q (q_pickF) (k := ?_)
        refine JL_q (q_assign) (k := ?_)
        refine JL_q (q_assign) (k := ?_)
        refine JL_nil ?_
        refine JX_seq ?_
        refine J_ret ?_
        refine JX_ret Tryz.results76 (Res.tmp rfl (Res.tmp rfl Res.nil)) (fun w1 hw1 => ?_)
        exact ⟨(by rw [(((hF.ok2 (hF4.neg hq1)).neg hq5)).eq] <;> first | rfl | (simp only [List.length_set] <;> rfl)), hw1.ext_out⟩
      refine JL_qg (q_move) (k := ?_)
      refine JL_vg (args := [(Value.int .i64 (n_1))]) (c_callA Tryz.call74) (fun w1 hw1 => rNum_ok w1 (n_ := n_1) (hn := by first | exact lb | decide)) (k := ?_)
      have hil_26873 := itoa_len (n := n_1) (by omega)
      refine JL_qg (q_move) (k := ?_)
      refine JL_qg (q_eqT) (k := ?_)
      refine JL_q (q_pickT) (k := ?_)
      refine JL_q (q_assign) (k := ?_)
      refine JL_q (q_assign) (k := ?_)
      refine JL_nil ?_
      refine JX_seq ?_
      refine J_ret ?_
      refine JX_ret Tryz.results76 (Res.tmp rfl (Res.tmp rfl Res.nil)) (fun w1 hw1 => ?_)
      exact ⟨(by rw [(((hF.ok2 (hF4.neg hq1)).pos hq5)).eq] <;> first | rfl | (simp only [List.length_set] <;> rfl)), hw1.ext_out⟩
    refine J_skip ?_
    refine JX_seq ?_
    refine J_seq ?_
    refine J_block ?_
    refine J_seq ?_
    refine J_seq ?_
    refine J_reg ?_
    refine JL_q (q_move) (k := ?_)
    refine JL_q (q_move) (k := ?_)
    have hu16 := u8_lt (s.getD i_2 default)
    refine JL_q (q_idxT (s := s) i_2 Tryz.runUnderlying9 (by first | exact ix)) (k := ?_)
    refine JL_q (q_lss) (k := ?_)
    refine JL_q (q_move) (k := ?_)
    refine JL_dec 18 rfl (fun hq2 => ?_) (fun hq2 => ?_)
    · refine JL_skips 4 rfl ?_
      refine JL_q (q_pickT) (k := ?_)
      refine JL_q (q_move) (k := ?_)
      refine JL_skips 3 rfl ?_
      refine JL_q (q_pickT) (k := ?_)
      refine JL_nil ?_
      refine JX_seq ?_
      refine J_true rfl ?_
      refine J_seq ?_
      refine J_reg ?_
      refine JL_q (q_assign) (k := ?_)
      refine JL_q (q_assign) (k := ?_)
      refine JL_nil ?_
      refine JX_seq ?_
      refine J_ret ?_
      refine JX_seq_ret ?_
      refine JX_block_ret ?_
      refine JX_seq_ret ?_
      refine JX_inv_ret ?_
      refine JX_block_ret ?_
      refine JX_seq_ret ?_
      refine JX_ret Tryz.results76 (Res.tmp rfl (Res.tmp rfl Res.nil)) (fun w1 hw1 => ?_)
      exact ⟨(by rw [((hF.er2 ((hF4.pos hq1).pos hq2))).eq] <;> first | rfl | (simp only [List.length_set] <;> rfl)), hw1.ext_out⟩
    refine JL_qg (q_move) (k := ?_)
    refine JL_qg (q_move) (k := ?_)
    have hu21 := u8_lt (s.getD i_2 default)
    refine JL_qg (q_idxT (s := s) i_2 Tryz.runUnderlying9 (by first | exact ix)) (k := ?_)
    refine JL_qg (q_gtr) (k := ?_)
    refine JL_q (q_pickF) (k := ?_)
    refine JL_q (q_move) (k := ?_)
    refine JL_dec 24 rfl (fun hq3 => ?_) (fun hq3 => ?_)
    · refine JL_skips 3 rfl ?_
      refine JL_q (q_pickT) (k := ?_)
      refine JL_nil ?_
      refine JX_seq ?_
      refine J_true rfl ?_
      refine J_seq ?_
      refine J_reg ?_
      refine JL_q (q_assign) (k := ?_)
      refine JL_q (q_assign) (k := ?_)
      refine JL_nil ?_
      refine JX_seq ?_
      refine J_ret ?_
      refine JX_seq_ret ?_
      refine JX_block_ret ?_
      refine JX_seq_ret ?_
      refine JX_inv_ret ?_
      refine JX_block_ret ?_
      refine JX_seq_ret ?_
      refine JX_ret Tryz.results76 (Res.tmp rfl (Res.tmp rfl Res.nil)) (fun w1 hw1 => ?_)
      exact ⟨(by rw [((hF.er2 (((hF4.pos hq1).neg hq2).pos hq3))).eq] <;> first | rfl | (simp only [List.length_set] <;> rfl)), hw1.ext_out⟩
    refine JL_qg (q_move) (k := ?_)
    refine JL_qg (q_move) (k := ?_)
    refine JL_qg (q_gtr) (k := ?_)
    refine JL_q (q_pickF) (k := ?_)
    refine JL_nil ?_
    refine JX_seq ?_
    refine J_dec rfl (fun hq4 => ?_) (fun hq4 => ?_)
    · refine J_seq ?_
      refine J_reg ?_
      refine JL_q (q_assign) (k := ?_)
      refine JL_q (q_assign) (k := ?_)
      refine JL_nil ?_
      refine JX_seq ?_
      refine J_ret ?_
      refine JX_seq_ret ?_
      refine JX_block_ret ?_
      refine JX_seq_ret ?_
      refine JX_inv_ret ?_
      refine JX_block_ret ?_
      refine JX_seq_ret ?_
      refine JX_ret Tryz.results76 (Res.tmp rfl (Res.tmp rfl Res.nil)) (fun w1 hw1 => ?_)
      exact ⟨(by rw [((hF.er2 ((((hF4.pos hq1).neg hq2).neg hq3).pos hq4))).eq] <;> first | rfl | (simp only [List.length_set] <;> rfl)), hw1.ext_out⟩
    refine J_skip ?_
    refine JX_seq ?_
    refine J_reg ?_
    refine JL_q (q_move) (k := ?_)
    refine JL_q (q_mul) (k := ?_)
    refine JL_q (q_move) (k := ?_)
    refine JL_q (q_move) (k := ?_)
    have hu33 := u8_lt (s.getD i_2 default)
    refine JL_q (q_idxT (s := s) i_2 Tryz.runUnderlying9 (by first | exact ix)) (k := ?_)
    refine JL_q (q_subK (p := (((s.getD i_2 default).toNat : Nat) : Int)) (q := 48) (wrap_u8 (by omega))) (k := ?_)
    refine JL_q (q_conv (r := ((((s.getD i_2 default).toNat : Nat) : Int) - 48)) (wrap_i64 (by first | omega | exact xorI_u8_i64 _ _)) Tryz.runUnderlying5 Tryz.runUnderlying3) (k := ?_)
    refine JL_q (q_add) (k := ?_)
    refine JL_q (q_assign) (k := ?_)
    refine JL_nil ?_
    refine JX_block ?_
    refine JX_seq ?_
    refine J_reg ?_
    refine JL_q (q_move) (k := ?_)
    refine JL_q (q_add) (k := ?_)
    refine JL_q (q_assign) (k := ?_)
    refine JL_nil ?_
    exact JX_inv3 n_3 ((10 * n_1) + ((((s.getD i_2 default).toNat : Nat) : Int) - 48)) (i_2 + 1) ⟨by omega, ((((hF4.pos hq1).neg hq2).neg hq3).neg hq4), (by omega), (by omega)⟩ (Nat.lt_succ_self _) se (List.Perm.refl _)

theorem rPrint_ok (w : World) {a : Int} : Val Tryz.prog 73 [(Value.int .i64 (a))] w (Value.tuple [(Value.string (bs ((rPrint a).1))), (Value.int .i64 (((rPrint a).2)))].toArray) := by
  have hF := Is.refl (rPrint a)
  refine enter Tryz.func73 Tryz.ntmps73 (h := ?_)
  refine J_seq ?_
  refine J_reg ?_
  refine JL_q (q_assign) (k := ?_)
  refine JL_q (q_assign) (k := ?_)
  refine JL_nil ?_
  refine JX_seq ?_
  refine J_seq ?_
  refine J_seq ?_
  refine J_reg ?_
  refine JL_q (q_move) (k := ?_)
  refine JL_v (args := [(Value.int .i64 (a))]) (c_callA Tryz.call80) (fun w1 hw1 => rIsAddr_ok w1 (a := a)) (k := ?_)
  refine JL_q (q_not) (k := ?_)
  refine JL_nil ?_
  refine JX_seq ?_
  refine J_cond rfl (fun hq1 => ?_) (fun hq1 => ?_)
  · refine J_seq ?_
    refine J_reg ?_
    refine JL_q (q_assign) (k := ?_)
    refine JL_q (q_assign) (k := ?_)
    refine JL_nil ?_
    refine JX_seq ?_
    refine J_ret ?_
    refine JX_seq_ret ?_
    refine JX_ret Tryz.results73 (Res.tmp rfl (Res.tmp rfl Res.nil)) (fun w1 hw1 => ?_)
    exact ⟨(by rw [((hF.t hq1)).eq] <;> first | rfl | (simp only [List.length_set] <;> rfl)), hw1.ext_out⟩
  have hfhq1 := rIsAddr_t (by simpa using hq1)
  refine J_skip ?_
  refine JX_seq ?_
  refine J_seq ?_
  refine J_reg ?_
  refine JL_q (q_move) (k := ?_)
  refine JL_q (q_quo) (k := ?_)
  refine JL_v (args := [(Value.int .i64 ((a / 16777216)))]) (c_callA Tryz.call74) (fun w1 hw1 => rNum_ok w1 (n_ := (a / 16777216)) (hn := by first | exact lb | decide)) (k := ?_)
  have hil_19915 := itoa_len (n := (a / 16777216)) (by omega)
  refine JL_q (q_addT (s := (Lib.itoa (a / 16777216))) (s' := ([46] : Str)) (h := by first | exact lb)) (k := ?_)
  have hsa1 : ((Lib.itoa (a / 16777216)) ++ ([46] : Str)).length = (Lib.itoa (a / 16777216)).length + 1 := by simp only [List.length_append, List.length_cons, List.length_nil, Nat.zero_add]
  refine JL_q (q_move) (k := ?_)
  refine JL_q (q_quo) (k := ?_)
  refine JL_q (q_rem) (k := ?_)
  refine JL_v (args := [(Value.int .i64 (((a / 65536) % 256)))]) (c_callA Tryz.call74) (fun w1 hw1 => rNum_ok w1 (n_ := ((a / 65536) % 256)) (hn := by first | exact lb | decide)) (k := ?_)
  have hil_92762 := itoa_len (n := ((a / 65536) % 256)) (by omega)
  refine JL_q (q_addT (s := ((Lib.itoa (a / 16777216)) ++ ([46] : Str))) (s' := (Lib.itoa ((a / 65536) % 256))) (h := by first | exact lb)) (k := ?_)
  have hsa2 : (((Lib.itoa (a / 16777216)) ++ ([46] : Str)) ++ (Lib.itoa ((a / 65536) % 256))).length = ((Lib.itoa (a / 16777216)) ++ ([46] : Str)).length + (Lib.itoa ((a / 65536) % 256)).length := by simp only [List.length_append, List.length_cons, List.length_nil, Nat.zero_add]
  refine JL_q (q_addT (s := (((Lib.itoa (a / 16777216)) ++ ([46] : Str)) ++ (Lib.itoa ((a / 65536) % 256)))) (s' := ([46] : Str)) (h := by first | exact lb)) (k := ?_)
  have hsa3 : ((((Lib.itoa (a / 16777216)) ++ ([46] : Str)) ++ (Lib.itoa ((a / 65536) % 256))) ++ ([46] : Str)).length = (((Lib.itoa (a / 16777216)) ++ ([46] : Str)) ++ (Lib.itoa ((a / 65536) % 256))).length + 1 := by simp only [List.length_append, List.length_cons, List.length_nil, Nat.zero_add]
  refine JL_q (q_move) (k := ?_)
  refine JL_q (q_quo) (k := ?_)
  refine JL_q (q_rem) (k := ?_)
  refine JL_v (args := [(Value.int .i64 (((a / 256) % 256)))]) (c_callA Tryz.call74) (fun w1 hw1 => rNum_ok w1 (n_ := ((a / 256) % 256)) (hn := by first | exact lb | decide)) (k := ?_)
  have hil_73777 := itoa_len (n := ((a / 256) % 256)) (by omega)
  refine JL_q (q_addT (s := ((((Lib.itoa (a / 16777216)) ++ ([46] : Str)) ++ (Lib.itoa ((a / 65536) % 256))) ++ ([46] : Str))) (s' := (Lib.itoa ((a / 256) % 256))) (h := by first | exact lb)) (k := ?_)
  have hsa4 : (((((Lib.itoa (a / 16777216)) ++ ([46] : Str)) ++ (Lib.itoa ((a / 65536) % 256))) ++ ([46] : Str)) ++ (Lib.itoa ((a / 256) % 256))).length = ((((Lib.itoa (a / 16777216)) ++ ([46] : Str)) ++ (Lib.itoa ((a / 65536) % 256))) ++ ([46] : Str)).length + (Lib.itoa ((a / 256) % 256)).length := by simp only [List.length_append, List.length_cons, List.length_nil, Nat.zero_add]
  refine JL_q (q_addT (s := (((((Lib.itoa (a / 16777216)) ++ ([46] : Str)) ++ (Lib.itoa ((a / 65536) % 256))) ++ ([46] : Str)) ++ (Lib.itoa ((a / 256) % 256)))) (s' := ([46] : Str)) (h := by first | exact lb)) (k := ?_)
  have hsa5 : ((((((Lib.itoa (a / 16777216)) ++ ([46] : Str)) ++ (Lib.itoa ((a / 65536) % 256))) ++ ([46] : Str)) ++ (Lib.itoa ((a / 256) % 256))) ++ ([46] : Str)).length = (((((Lib.itoa (a / 16777216)) ++ ([46] : Str)) ++ (Lib.itoa ((a / 65536) % 256))) ++ ([46] : Str)) ++ (Lib.itoa ((a / 256) % 256))).length + 1 := by simp only [List.length_append, List.length_cons, List.length_nil, Nat.zero_add]
  refine JL_q (q_move) (k := ?_)
  refine JL_q (q_rem) (k := ?_)
  refine JL_v (args := [(Value.int .i64 ((a % 256)))]) (c_callA Tryz.call74) (fun w1 hw1 => rNum_ok w1 (n_ := (a % 256)) (hn := by first | exact lb | decide)) (k := ?_)
  have hil_10885 := itoa_len (n := (a % 256)) (by omega)
  refine JL_q (q_addT (s := ((((((Lib.itoa (a / 16777216)) ++ ([46] : Str)) ++ (Lib.itoa ((a / 65536) % 256))) ++ ([46] : Str)) ++ (Lib.itoa ((a / 256) % 256))) ++ ([46] : Str))) (s' := (Lib.itoa (a % 256))) (h := by first | exact lb)) (k := ?_)
  have hsa6 : (((((((Lib.itoa (a / 16777216)) ++ ([46] : Str)) ++ (Lib.itoa ((a / 65536) % 256))) ++ ([46] : Str)) ++ (Lib.itoa ((a / 256) % 256))) ++ ([46] : Str)) ++ (Lib.itoa (a % 256))).length = ((((((Lib.itoa (a / 16777216)) ++ ([46] : Str)) ++ (Lib.itoa ((a / 65536) % 256))) ++ ([46] : Str)) ++ (Lib.itoa ((a / 256) % 256))) ++ ([46] : Str)).length + (Lib.itoa (a % 256)).length := by simp only [List.length_append, List.length_cons, List.length_nil, Nat.zero_add]
  refine JL_q (q_assign) (k := ?_)
  refine JL_q (q_assign) (k := ?_)
  refine JL_nil ?_
  refine JX_seq ?_
  refine J_ret ?_
  refine JX_ret Tryz.results73 (Res.tmp rfl (Res.tmp rfl Res.nil)) (fun w1 hw1 => ?_)
  exact ⟨(by rw [((hF.f hq1)).eq] <;> first | rfl | (simp only [List.length_set] <;> rfl)), hw1.ext_out⟩

theorem rParse_ok (w : World) {s : Str} (n_s : s.length ≤ 1000000) : Val Tryz.prog 75 [(Value.string (bs s))] w (Value.tuple [(Value.int .i64 (((rParse s).1))), (Value.int .i64 (((rParse s).2)))].toArray) := by
  have hF := Is.refl (rParse s)
  refine enter Tryz.func75 Tryz.ntmps75 (h := ?_)
  refine J_seq ?_
  refine J_reg ?_
  refine JL_q (q_assign) (k := ?_)
  refine JL_q (q_assign) (k := ?_)
  refine JL_nil ?_
  refine JX_seq ?_
  refine J_seq ?_
  refine J_reg ?_
  refine JL_q (q_assign) (k := ?_)
  refine JL_nil ?_
  refine JX_seq ?_
  refine J_seq ?_
  refine J_seq ?_
  refine J_reg ?_
  refine JL_q (q_assign) (k := ?_)
  refine JL_nil ?_
  refine JX_seq ?_
  refine J_block ?_
  refine J_unroll ?_
  refine J_seq ?_
  refine J_seq ?_
  refine J_reg ?_
  refine JL_q (q_move) (k := ?_)
  refine JL_q (q_lss) (k := ?_)
  refine JL_nil ?_
  refine JX_seq ?_
  refine J_true rfl ?_
  refine J_skip ?_
  refine JX_seq ?_
  refine J_seq ?_
  refine J_block ?_
  refine J_seq ?_
  refine J_reg ?_
  refine JL_q (q_move) (k := ?_)
  refine JL_v (args := [(Value.string (bs s)), (Value.int .u8 (46))]) (c_callA Tryz.call44) (fun w1 hw1 => rCut_ok w1 (s := s) (c := 46) (n_s := by first | exact lb | decide)) (k := ?_)
  have hct_13079 := rCut_len s 46
  refine JL_q (q_move) (k := ?_)
  refine JL_q (q_ext) (k := ?_)
  refine JL_q (q_ext) (k := ?_)
  refine JL_q (q_ext) (k := ?_)
  refine JL_q (q_assign) (k := ?_)
  refine JL_q (q_assign) (k := ?_)
  refine JL_q (q_assign) (k := ?_)
  refine JL_nil ?_
  refine JX_seq ?_
  refine J_seq ?_
  refine J_reg ?_
  refine JL_q (q_move) (k := ?_)
  refine JL_v (args := [(Value.string (bs ((rCut s 46).1))), (Value.int .i64 (255))]) (c_callA Tryz.call76) (fun w1 hw1 => rNumber_ok w1 (s := ((rCut s 46).1)) (most := 255) (n_s := by first | exact lb | decide) (hm := by first | exact lb | decide)) (k := ?_)
  refine JL_q (q_move) (k := ?_)
  refine JL_q (q_ext) (k := ?_)
  refine JL_q (q_ext) (k := ?_)
  refine JL_q (q_assign) (k := ?_)
  refine JL_q (q_assign) (k := ?_)
  refine JL_nil ?_
  refine JX_seq ?_
  refine J_seq ?_
  refine J_seq ?_
  refine J_reg ?_
  refine JL_q (q_move) (k := ?_)
  refine JL_q (q_not) (k := ?_)
  refine JL_q (q_move) (k := ?_)
  refine JL_bool 28 rfl (fun hq1 => ?_) (fun hq1 => ?_)
  · refine JL_skips 4 rfl ?_
    refine JL_q (q_pickT) (k := ?_)
    refine JL_nil ?_
    refine JX_seq ?_
    refine J_true rfl ?_
    refine J_seq ?_
    refine J_reg ?_
    refine JL_q (q_assign) (k := ?_)
    refine JL_q (q_assign) (k := ?_)
    refine JL_nil ?_
    refine JX_seq ?_
    refine J_ret ?_
    refine JX_seq_ret ?_
    refine JX_block_ret ?_
    refine JX_seq_ret ?_
    refine JX_inv_ret ?_
    refine JX_block_ret ?_
    refine JX_seq_ret ?_
    refine JX_ret Tryz.results75 (Res.tmp rfl (Res.tmp rfl Res.nil)) (fun w1 hw1 => ?_)
    exact ⟨(by rw [((hF.t hq1)).eq] <;> first | rfl | (simp only [List.length_set] <;> rfl)), hw1.ext_out⟩
  have hfhq1 := rNumber_bd (by simpa using hq1)
  refine JL_qg (q_move) (k := ?_)
  refine JL_qg (q_move) (k := ?_)
  refine JL_qg (q_lss) (k := ?_)
  refine JL_qg (q_neqB Tryz.runUnderlying4) (k := ?_)
  refine JL_q (q_pickF) (k := ?_)
  refine JL_nil ?_
  refine JX_seq ?_
  refine J_cond rfl (fun hq2 => ?_) (fun hq2 => ?_)
  · refine J_seq ?_
    refine J_reg ?_
    refine JL_q (q_assign) (k := ?_)
    refine JL_q (q_assign) (k := ?_)
    refine JL_nil ?_
    refine JX_seq ?_
    refine J_ret ?_
    refine JX_seq_ret ?_
    refine JX_block_ret ?_
    refine JX_seq_ret ?_
    refine JX_inv_ret ?_
    refine JX_block_ret ?_
    refine JX_seq_ret ?_
    refine JX_ret Tryz.results75 (Res.tmp rfl (Res.tmp rfl Res.nil)) (fun w1 hw1 => ?_)
    exact ⟨(by rw [(((hF.f hq1).t hq2)).eq] <;> first | rfl | (simp only [List.length_set] <;> rfl)), hw1.ext_out⟩
  refine J_skip ?_
  refine JX_seq ?_
  refine J_seq ?_
  refine J_reg ?_
  refine JL_q (q_move) (k := ?_)
  refine JL_q (q_mul) (k := ?_)
  refine JL_q (q_move) (k := ?_)
  refine JL_q (q_add) (k := ?_)
  refine JL_q (q_assign) (k := ?_)
  refine JL_nil ?_
  refine JX_seq ?_
  refine J_reg ?_
  refine JL_q (q_move) (k := ?_)
  refine JL_q (q_assign) (k := ?_)
  refine JL_nil ?_
  refine JX_block ?_
  refine JX_seq ?_
  refine J_reg ?_
  refine JL_q (q_move) (k := ?_)
  refine JL_q (q_add) (k := ?_)
  refine JL_q (q_assign) (k := ?_)
  refine JL_nil ?_
  refine JX_again ?_
  refine J_seq ?_
  refine J_seq ?_
  refine J_reg ?_
  refine JL_q (q_move) (k := ?_)
  refine JL_q (q_lss) (k := ?_)
  refine JL_nil ?_
  refine JX_seq ?_
  refine J_true rfl ?_
  refine J_skip ?_
  refine JX_seq ?_
  refine J_seq ?_
  refine J_block ?_
  refine J_seq ?_
  refine J_reg ?_
  refine JL_q (q_move) (k := ?_)
  refine JL_v (args := [(Value.string (bs ((rCut s 46).2.1))), (Value.int .u8 (46))]) (c_callA Tryz.call44) (fun w1 hw1 => rCut_ok w1 (s := ((rCut s 46).2.1)) (c := 46) (n_s := by first | exact lb | decide)) (k := ?_)
  have hct_86460 := rCut_len ((rCut s 46).2.1) 46
  refine JL_q (q_move) (k := ?_)
  refine JL_q (q_ext) (k := ?_)
  refine JL_q (q_ext) (k := ?_)
  refine JL_q (q_ext) (k := ?_)
  refine JL_q (q_assign) (k := ?_)
  refine JL_q (q_assign) (k := ?_)
  refine JL_q (q_assign) (k := ?_)
  refine JL_nil ?_
  refine JX_seq ?_
  refine J_seq ?_
  refine J_reg ?_
  refine JL_q (q_move) (k := ?_)
  refine JL_v (args := [(Value.string (bs ((rCut ((rCut s 46).2.1) 46).1))), (Value.int .i64 (255))]) (c_callA Tryz.call76) (fun w1 hw1 => rNumber_ok w1 (s := ((rCut ((rCut s 46).2.1) 46).1)) (most := 255) (n_s := by first | exact lb | decide) (hm := by first | exact lb | decide)) (k := ?_)
  refine JL_q (q_move) (k := ?_)
  refine JL_q (q_ext) (k := ?_)
  refine JL_q (q_ext) (k := ?_)
  refine JL_q (q_assign) (k := ?_)
  refine JL_q (q_assign) (k := ?_)
  refine JL_nil ?_
  refine JX_seq ?_
  refine J_seq ?_
  refine J_seq ?_
  refine J_reg ?_
  refine JL_q (q_move) (k := ?_)
  refine JL_q (q_not) (k := ?_)
  refine JL_q (q_move) (k := ?_)
  refine JL_bool 28 rfl (fun hq3 => ?_) (fun hq3 => ?_)
  · refine JL_skips 4 rfl ?_
    refine JL_q (q_pickT) (k := ?_)
    refine JL_nil ?_
    refine JX_seq ?_
    refine J_true rfl ?_
    refine J_seq ?_
    refine J_reg ?_
    refine JL_q (q_assign) (k := ?_)
    refine JL_q (q_assign) (k := ?_)
    refine JL_nil ?_
    refine JX_seq ?_
    refine J_ret ?_
    refine JX_seq_ret ?_
    refine JX_block_ret ?_
    refine JX_seq_ret ?_
    refine JX_inv_ret ?_
    refine JX_block_ret ?_
    refine JX_seq_ret ?_
    refine JX_ret Tryz.results75 (Res.tmp rfl (Res.tmp rfl Res.nil)) (fun w1 hw1 => ?_)
    exact ⟨(by rw [((((hF.f hq1).f hq2).t hq3)).eq] <;> first | rfl | (simp only [List.length_set] <;> rfl)), hw1.ext_out⟩
  have hfhq3 := rNumber_bd (by simpa using hq3)
  refine JL_qg (q_move) (k := ?_)
  refine JL_qg (q_move) (k := ?_)
  refine JL_qg (q_lss) (k := ?_)
  refine JL_qg (q_neqB Tryz.runUnderlying4) (k := ?_)
  refine JL_q (q_pickF) (k := ?_)
  refine JL_nil ?_
  refine JX_seq ?_
  refine J_cond rfl (fun hq4 => ?_) (fun hq4 => ?_)
  · refine J_seq ?_
    refine J_reg ?_
    refine JL_q (q_assign) (k := ?_)
    refine JL_q (q_assign) (k := ?_)
    refine JL_nil ?_
    refine JX_seq ?_
    refine J_ret ?_
    refine JX_seq_ret ?_
    refine JX_block_ret ?_
    refine JX_seq_ret ?_
    refine JX_inv_ret ?_
    refine JX_block_ret ?_
    refine JX_seq_ret ?_
    refine JX_ret Tryz.results75 (Res.tmp rfl (Res.tmp rfl Res.nil)) (fun w1 hw1 => ?_)
    exact ⟨(by rw [(((((hF.f hq1).f hq2).f hq3).t hq4)).eq] <;> first | rfl | (simp only [List.length_set] <;> rfl)), hw1.ext_out⟩
  refine J_skip ?_
  refine JX_seq ?_
  refine J_seq ?_
  refine J_reg ?_
  refine JL_q (q_move) (k := ?_)
  refine JL_q (q_mul) (k := ?_)
  refine JL_q (q_move) (k := ?_)
  refine JL_q (q_add) (k := ?_)
  refine JL_q (q_assign) (k := ?_)
  refine JL_nil ?_
  refine JX_seq ?_
  refine J_reg ?_
  refine JL_q (q_move) (k := ?_)
  refine JL_q (q_assign) (k := ?_)
  refine JL_nil ?_
  refine JX_block ?_
  refine JX_seq ?_
  refine J_reg ?_
  refine JL_q (q_move) (k := ?_)
  refine JL_q (q_add) (k := ?_)
  refine JL_q (q_assign) (k := ?_)
  refine JL_nil ?_
  refine JX_again ?_
  refine J_seq ?_
  refine J_seq ?_
  refine J_reg ?_
  refine JL_q (q_move) (k := ?_)
  refine JL_q (q_lss) (k := ?_)
  refine JL_nil ?_
  refine JX_seq ?_
  refine J_true rfl ?_
  refine J_skip ?_
  refine JX_seq ?_
  refine J_seq ?_
  refine J_block ?_
  refine J_seq ?_
  refine J_reg ?_
  refine JL_q (q_move) (k := ?_)
  refine JL_v (args := [(Value.string (bs ((rCut ((rCut s 46).2.1) 46).2.1))), (Value.int .u8 (46))]) (c_callA Tryz.call44) (fun w1 hw1 => rCut_ok w1 (s := ((rCut ((rCut s 46).2.1) 46).2.1)) (c := 46) (n_s := by first | exact lb | decide)) (k := ?_)
  have hct_9025 := rCut_len ((rCut ((rCut s 46).2.1) 46).2.1) 46
  refine JL_q (q_move) (k := ?_)
  refine JL_q (q_ext) (k := ?_)
  refine JL_q (q_ext) (k := ?_)
  refine JL_q (q_ext) (k := ?_)
  refine JL_q (q_assign) (k := ?_)
  refine JL_q (q_assign) (k := ?_)
  refine JL_q (q_assign) (k := ?_)
  refine JL_nil ?_
  refine JX_seq ?_
  refine J_seq ?_
  refine J_reg ?_
  refine JL_q (q_move) (k := ?_)
  refine JL_v (args := [(Value.string (bs ((rCut ((rCut ((rCut s 46).2.1) 46).2.1) 46).1))), (Value.int .i64 (255))]) (c_callA Tryz.call76) (fun w1 hw1 => rNumber_ok w1 (s := ((rCut ((rCut ((rCut s 46).2.1) 46).2.1) 46).1)) (most := 255) (n_s := by first | exact lb | decide) (hm := by first | exact lb | decide)) (k := ?_)
  refine JL_q (q_move) (k := ?_)
  refine JL_q (q_ext) (k := ?_)
  refine JL_q (q_ext) (k := ?_)
  refine JL_q (q_assign) (k := ?_)
  refine JL_q (q_assign) (k := ?_)
  refine JL_nil ?_
  refine JX_seq ?_
  refine J_seq ?_
  refine J_seq ?_
  refine J_reg ?_
  refine JL_q (q_move) (k := ?_)
  refine JL_q (q_not) (k := ?_)
  refine JL_q (q_move) (k := ?_)
  refine JL_bool 28 rfl (fun hq5 => ?_) (fun hq5 => ?_)
  · refine JL_skips 4 rfl ?_
    refine JL_q (q_pickT) (k := ?_)
    refine JL_nil ?_
    refine JX_seq ?_
    refine J_true rfl ?_
    refine J_seq ?_
    refine J_reg ?_
    refine JL_q (q_assign) (k := ?_)
    refine JL_q (q_assign) (k := ?_)
    refine JL_nil ?_
    refine JX_seq ?_
    refine J_ret ?_
    refine JX_seq_ret ?_
    refine JX_block_ret ?_
    refine JX_seq_ret ?_
    refine JX_inv_ret ?_
    refine JX_block_ret ?_
    refine JX_seq_ret ?_
    refine JX_ret Tryz.results75 (Res.tmp rfl (Res.tmp rfl Res.nil)) (fun w1 hw1 => ?_)
    exact ⟨(by rw [((((((hF.f hq1).f hq2).f hq3).f hq4).t hq5)).eq] <;> first | rfl | (simp only [List.length_set] <;> rfl)), hw1.ext_out⟩
  have hfhq5 := rNumber_bd (by simpa using hq5)
  refine JL_qg (q_move) (k := ?_)
  refine JL_qg (q_move) (k := ?_)
  refine JL_qg (q_lss) (k := ?_)
  refine JL_qg (q_neqB Tryz.runUnderlying4) (k := ?_)
  refine JL_q (q_pickF) (k := ?_)
  refine JL_nil ?_
  refine JX_seq ?_
  refine J_cond rfl (fun hq6 => ?_) (fun hq6 => ?_)
  · refine J_seq ?_
    refine J_reg ?_
    refine JL_q (q_assign) (k := ?_)
    refine JL_q (q_assign) (k := ?_)
    refine JL_nil ?_
    refine JX_seq ?_
    refine J_ret ?_
    refine JX_seq_ret ?_
    refine JX_block_ret ?_
    refine JX_seq_ret ?_
    refine JX_inv_ret ?_
    refine JX_block_ret ?_
    refine JX_seq_ret ?_
    refine JX_ret Tryz.results75 (Res.tmp rfl (Res.tmp rfl Res.nil)) (fun w1 hw1 => ?_)
    exact ⟨(by rw [(((((((hF.f hq1).f hq2).f hq3).f hq4).f hq5).t hq6)).eq] <;> first | rfl | (simp only [List.length_set] <;> rfl)), hw1.ext_out⟩
  refine J_skip ?_
  refine JX_seq ?_
  refine J_seq ?_
  refine J_reg ?_
  refine JL_q (q_move) (k := ?_)
  refine JL_q (q_mul) (k := ?_)
  refine JL_q (q_move) (k := ?_)
  refine JL_q (q_add) (k := ?_)
  refine JL_q (q_assign) (k := ?_)
  refine JL_nil ?_
  refine JX_seq ?_
  refine J_reg ?_
  refine JL_q (q_move) (k := ?_)
  refine JL_q (q_assign) (k := ?_)
  refine JL_nil ?_
  refine JX_block ?_
  refine JX_seq ?_
  refine J_reg ?_
  refine JL_q (q_move) (k := ?_)
  refine JL_q (q_add) (k := ?_)
  refine JL_q (q_assign) (k := ?_)
  refine JL_nil ?_
  refine JX_again ?_
  refine J_seq ?_
  refine J_seq ?_
  refine J_reg ?_
  refine JL_q (q_move) (k := ?_)
  refine JL_q (q_lss) (k := ?_)
  refine JL_nil ?_
  refine JX_seq ?_
  refine J_true rfl ?_
  refine J_skip ?_
  refine JX_seq ?_
  refine J_seq ?_
  refine J_block ?_
  refine J_seq ?_
  refine J_reg ?_
  refine JL_q (q_move) (k := ?_)
  refine JL_v (args := [(Value.string (bs ((rCut ((rCut ((rCut s 46).2.1) 46).2.1) 46).2.1))), (Value.int .u8 (46))]) (c_callA Tryz.call44) (fun w1 hw1 => rCut_ok w1 (s := ((rCut ((rCut ((rCut s 46).2.1) 46).2.1) 46).2.1)) (c := 46) (n_s := by first | exact lb | decide)) (k := ?_)
  have hct_87653 := rCut_len ((rCut ((rCut ((rCut s 46).2.1) 46).2.1) 46).2.1) 46
  refine JL_q (q_move) (k := ?_)
  refine JL_q (q_ext) (k := ?_)
  refine JL_q (q_ext) (k := ?_)
  refine JL_q (q_ext) (k := ?_)
  refine JL_q (q_assign) (k := ?_)
  refine JL_q (q_assign) (k := ?_)
  refine JL_q (q_assign) (k := ?_)
  refine JL_nil ?_
  refine JX_seq ?_
  refine J_seq ?_
  refine J_reg ?_
  refine JL_q (q_move) (k := ?_)
  refine JL_v (args := [(Value.string (bs ((rCut ((rCut ((rCut ((rCut s 46).2.1) 46).2.1) 46).2.1) 46).1))), (Value.int .i64 (255))]) (c_callA Tryz.call76) (fun w1 hw1 => rNumber_ok w1 (s := ((rCut ((rCut ((rCut ((rCut s 46).2.1) 46).2.1) 46).2.1) 46).1)) (most := 255) (n_s := by first | exact lb | decide) (hm := by first | exact lb | decide)) (k := ?_)
  refine JL_q (q_move) (k := ?_)
  refine JL_q (q_ext) (k := ?_)
  refine JL_q (q_ext) (k := ?_)
  refine JL_q (q_assign) (k := ?_)
  refine JL_q (q_assign) (k := ?_)
  refine JL_nil ?_
  refine JX_seq ?_
  refine J_seq ?_
  refine J_seq ?_
  refine J_reg ?_
  refine JL_q (q_move) (k := ?_)
  refine JL_q (q_not) (k := ?_)
  refine JL_q (q_move) (k := ?_)
  refine JL_bool 28 rfl (fun hq7 => ?_) (fun hq7 => ?_)
  · refine JL_skips 4 rfl ?_
    refine JL_q (q_pickT) (k := ?_)
    refine JL_nil ?_
    refine JX_seq ?_
    refine J_true rfl ?_
    refine J_seq ?_
    refine J_reg ?_
    refine JL_q (q_assign) (k := ?_)
    refine JL_q (q_assign) (k := ?_)
    refine JL_nil ?_
    refine JX_seq ?_
    refine J_ret ?_
    refine JX_seq_ret ?_
    refine JX_block_ret ?_
    refine JX_seq_ret ?_
    refine JX_inv_ret ?_
    refine JX_block_ret ?_
    refine JX_seq_ret ?_
    refine JX_ret Tryz.results75 (Res.tmp rfl (Res.tmp rfl Res.nil)) (fun w1 hw1 => ?_)
    exact ⟨(by rw [((((((((hF.f hq1).f hq2).f hq3).f hq4).f hq5).f hq6).t hq7)).eq] <;> first | rfl | (simp only [List.length_set] <;> rfl)), hw1.ext_out⟩
  have hfhq7 := rNumber_bd (by simpa using hq7)
  refine JL_qg (q_move) (k := ?_)
  refine JL_qg (q_move) (k := ?_)
  refine JL_qg (q_lss) (k := ?_)
  refine JL_qg (q_neqB Tryz.runUnderlying4) (k := ?_)
  refine JL_q (q_pickF) (k := ?_)
  refine JL_nil ?_
  refine JX_seq ?_
  refine J_cond rfl (fun hq8 => ?_) (fun hq8 => ?_)
  · refine J_seq ?_
    refine J_reg ?_
    refine JL_q (q_assign) (k := ?_)
    refine JL_q (q_assign) (k := ?_)
    refine JL_nil ?_
    refine JX_seq ?_
    refine J_ret ?_
    refine JX_seq_ret ?_
    refine JX_block_ret ?_
    refine JX_seq_ret ?_
    refine JX_inv_ret ?_
    refine JX_block_ret ?_
    refine JX_seq_ret ?_
    refine JX_ret Tryz.results75 (Res.tmp rfl (Res.tmp rfl Res.nil)) (fun w1 hw1 => ?_)
    exact ⟨(by rw [(((((((((hF.f hq1).f hq2).f hq3).f hq4).f hq5).f hq6).f hq7).t hq8)).eq] <;> first | rfl | (simp only [List.length_set] <;> rfl)), hw1.ext_out⟩
  refine J_skip ?_
  refine JX_seq ?_
  refine J_seq ?_
  refine J_reg ?_
  refine JL_q (q_move) (k := ?_)
  refine JL_q (q_mul) (k := ?_)
  refine JL_q (q_move) (k := ?_)
  refine JL_q (q_add) (k := ?_)
  refine JL_q (q_assign) (k := ?_)
  refine JL_nil ?_
  refine JX_seq ?_
  refine J_reg ?_
  refine JL_q (q_move) (k := ?_)
  refine JL_q (q_assign) (k := ?_)
  refine JL_nil ?_
  refine JX_block ?_
  refine JX_seq ?_
  refine J_reg ?_
  refine JL_q (q_move) (k := ?_)
  refine JL_q (q_add) (k := ?_)
  refine JL_q (q_assign) (k := ?_)
  refine JL_nil ?_
  refine JX_again ?_
  refine J_seq ?_
  refine J_seq ?_
  refine J_reg ?_
  refine JL_q (q_move) (k := ?_)
  refine JL_q (q_lss) (k := ?_)
  refine JL_nil ?_
  refine JX_seq ?_
  refine J_false rfl ?_
  refine J_exit ?_
  refine JX_seq_exit ?_
  refine JX_inv_exit ?_
  refine JX_block_hit ?_
  refine JX_seq ?_
  refine J_seq ?_
  refine J_reg ?_
  refine JL_q (q_move) (k := ?_)
  refine JL_q (q_assign) (k := ?_)
  refine JL_q (q_assign) (k := ?_)
  refine JL_nil ?_
  refine JX_seq ?_
  refine J_ret ?_
  refine JX_ret Tryz.results75 (Res.tmp rfl (Res.tmp rfl Res.nil)) (fun w1 hw1 => ?_)
  exact ⟨(by rw [(((((((((hF.f hq1).f hq2).f hq3).f hq4).f hq5).f hq6).f hq7).f hq8)).eq] <;> first | rfl | (simp only [List.length_set] <;> rfl)), hw1.ext_out⟩

theorem rPrintPrefix_ok (w : World) {p : Prefix} : Val Tryz.prog 42 [(Value.agg [(Value.int .i64 (p.addr)), (Value.int .i64 (p.bits))].toArray)] w (Value.tuple [(Value.string (bs ((rPrintPrefix p).1))), (Value.int .i64 (((rPrintPrefix p).2)))].toArray) := by
  have hF := Is.refl (rPrintPrefix p)
  refine enter Tryz.func42 Tryz.ntmps42 (h := ?_)
  refine J_seq ?_
  refine J_reg ?_
  refine JL_a noMk (a_box (l := [_, _])) (k := fun r1 hr1 => ?_)
  refine JL_q (q_assign) (k := ?_)
  refine JL_q (q_assign) (k := ?_)
  refine JL_nil ?_
  refine JX_seq ?_
  refine J_seq ?_
  refine J_seq ?_
  refine J_reg ?_
  refine JL_q (q_loadA Tryz.isAgg23 Tryz.sizeOf23) (k := ?_)
  refine JL_v (args := [(Value.agg [(Value.int .i64 (p.addr)), (Value.int .i64 (p.bits))].toArray)]) (c_callA Tryz.call71) (fun w1 hw1 => rRight_ok w1 (p := p)) (k := ?_)
  refine JL_q (q_not) (k := ?_)
  refine JL_nil ?_
  refine JX_seq ?_
  refine J_cond rfl (fun hq1 => ?_) (fun hq1 => ?_)
  · refine J_seq ?_
    refine J_reg ?_
    refine JL_q (q_assign) (k := ?_)
    refine JL_q (q_assign) (k := ?_)
    refine JL_nil ?_
    refine JX_seq ?_
    refine J_ret ?_
    refine JX_seq_ret ?_
    refine JX_ret Tryz.results42 (Res.tmp rfl (Res.tmp rfl Res.nil)) (fun w1 hw1 => ?_)
    exact ⟨(by rw [((hF.t hq1)).eq] <;> first | rfl | (simp only [List.length_set] <;> rfl)), hw1.ext_out⟩
  have hfhq1 := rRight_t (by simpa using hq1)
  refine J_skip ?_
  refine JX_seq ?_
  refine J_seq ?_
  refine J_reg ?_
  refine JL_q (q_fld FO_23_0) (k := ?_)
  refine JL_q (q_load Tryz.isAgg3) (k := ?_)
  refine JL_v (args := [(Value.int .i64 (p.addr))]) (c_callA Tryz.call73) (fun w1 hw1 => rPrint_ok w1 (a := p.addr)) (k := ?_)
  have hpl_25198 := rPrint_len p.addr
  refine JL_q (q_move) (k := ?_)
  refine JL_q (q_ext) (k := ?_)
  refine JL_q (q_ext) (k := ?_)
  refine JL_q (q_assign) (k := ?_)
  refine JL_q (q_assign) (k := ?_)
  refine JL_nil ?_
  refine JX_seq ?_
  refine J_seq ?_
  refine J_reg ?_
  refine JL_q (q_move) (k := ?_)
  refine JL_q (q_addT (s := ((rPrint p.addr).1)) (s' := ([47] : Str)) (h := by first | exact lb)) (k := ?_)
  have hsa1 : (((rPrint p.addr).1) ++ ([47] : Str)).length = ((rPrint p.addr).1).length + 1 := by simp only [List.length_append, List.length_cons, List.length_nil, Nat.zero_add]
  refine JL_q (q_fld FO_23_1) (k := ?_)
  refine JL_q (q_load Tryz.isAgg3) (k := ?_)
  refine JL_v (args := [(Value.int .i64 (p.bits))]) (c_callA Tryz.call74) (fun w1 hw1 => rNum_ok w1 (n_ := p.bits) (hn := by first | exact lb | decide)) (k := ?_)
  have hil_97556 := itoa_len (n := p.bits) (by omega)
  refine JL_q (q_addT (s := (((rPrint p.addr).1) ++ ([47] : Str))) (s' := (Lib.itoa p.bits)) (h := by first | exact lb)) (k := ?_)
  have hsa2 : ((((rPrint p.addr).1) ++ ([47] : Str)) ++ (Lib.itoa p.bits)).length = (((rPrint p.addr).1) ++ ([47] : Str)).length + (Lib.itoa p.bits).length := by simp only [List.length_append, List.length_cons, List.length_nil, Nat.zero_add]
  refine JL_q (q_assign) (k := ?_)
  refine JL_q (q_assign) (k := ?_)
  refine JL_nil ?_
  refine JX_seq ?_
  refine J_ret ?_
  refine JX_ret Tryz.results42 (Res.tmp rfl (Res.tmp rfl Res.nil)) (fun w1 hw1 => ?_)
  exact ⟨(by rw [((hF.f hq1)).eq] <;> first | rfl | (simp only [List.length_set] <;> rfl)), hw1.ext_out⟩

theorem rParsePrefix_ok (w : World) {s : Str} (n_s : s.length ≤ 1000000) : Val Tryz.prog 45 [(Value.string (bs s))] w (Value.tuple [(Value.agg [(Value.int .i64 (((rParsePrefix s).1.addr))), (Value.int .i64 (((rParsePrefix s).1.bits)))].toArray), (Value.int .i64 (((rParsePrefix s).2)))].toArray) := by
  have hF := Is.refl (rParsePrefix s)
  refine enter Tryz.func45 Tryz.ntmps45 (h := ?_)
  refine J_seq ?_
  refine J_reg ?_
  refine JL_a noMk (a_alloc (l := [_, _]) Tryz.zeroValue23) (k := fun r1 hr1 => ?_)
  refine JL_q (q_assign) (k := ?_)
  refine JL_nil ?_
  refine JX_seq ?_
  refine J_seq ?_
  refine J_reg ?_
  refine JL_q (q_move) (k := ?_)
  refine JL_v (args := [(Value.string (bs s)), (Value.int .u8 (47))]) (c_callA Tryz.call44) (fun w1 hw1 => rCut_ok w1 (s := s) (c := 47) (n_s := by first | exact lb | decide)) (k := ?_)
  have hct_70710 := rCut_len s 47
  refine JL_q (q_move) (k := ?_)
  refine JL_q (q_ext) (k := ?_)
  refine JL_q (q_ext) (k := ?_)
  refine JL_q (q_ext) (k := ?_)
  refine JL_q (q_assign) (k := ?_)
  refine JL_q (q_assign) (k := ?_)
  refine JL_q (q_assign) (k := ?_)
  refine JL_nil ?_
  refine JX_seq ?_
  refine J_seq ?_
  refine J_reg ?_
  refine JL_q (q_move) (k := ?_)
  refine JL_v (args := [(Value.string (bs ((rCut s 47).1)))]) (c_callA Tryz.call75) (fun w1 hw1 => rParse_ok w1 (s := ((rCut s 47).1)) (n_s := by first | exact lb | decide)) (k := ?_)
  refine JL_q (q_move) (k := ?_)
  refine JL_q (q_ext) (k := ?_)
  refine JL_q (q_ext) (k := ?_)
  refine JL_q (q_assign) (k := ?_)
  refine JL_q (q_assign) (k := ?_)
  refine JL_nil ?_
  refine JX_seq ?_
  refine J_seq ?_
  refine J_reg ?_
  refine JL_q (q_move) (k := ?_)
  refine JL_v (args := [(Value.string (bs ((rCut s 47).2.1))), (Value.int .i64 (32))]) (c_callA Tryz.call76) (fun w1 hw1 => rNumber_ok w1 (s := ((rCut s 47).2.1)) (most := 32) (n_s := by first | exact lb | decide) (hm := by first | exact lb | decide)) (k := ?_)
  refine JL_q (q_move) (k := ?_)
  refine JL_q (q_ext) (k := ?_)
  refine JL_q (q_ext) (k := ?_)
  refine JL_q (q_assign) (k := ?_)
  refine JL_q (q_assign) (k := ?_)
  refine JL_nil ?_
  refine JX_seq ?_
  refine J_seq ?_
  refine J_reg ?_
  refine JL_q (q_move) (k := ?_)
  refine JL_q (q_move) (k := ?_)
  refine JL_q (q_build (cs := [_, _]) Tryz.zeroValue23 PL_23) (k := ?_)
  refine JL_a noMk (a_alloc (l := [_, _]) Tryz.zeroValue23) (k := fun r2 hr2 => ?_)
  refine JL_s (w_store (l' := [_, _]) Tryz.sizeOf23) (k := ?_)
  refine JL_nil ?_
  refine JX_seq ?_
  refine J_seq ?_
  refine J_seq ?_
  refine J_reg ?_
  refine JL_q (q_move) (k := ?_)
  refine JL_q (q_not) (k := ?_)
  refine JL_q (q_move) (k := ?_)
  refine JL_bool 33 rfl (fun hq1 => ?_) (fun hq1 => ?_)
  · refine JL_skips 2 rfl ?_
    refine JL_q (q_pickT) (k := ?_)
    refine JL_q (q_move) (k := ?_)
    refine JL_skips 2 rfl ?_
    refine JL_q (q_pickT) (k := ?_)
    refine JL_q (q_move) (k := ?_)
    refine JL_skips 3 rfl ?_
    refine JL_q (q_pickT) (k := ?_)
    refine JL_nil ?_
    refine JX_seq ?_
    refine J_true rfl ?_
    refine J_seq ?_
    refine J_reg ?_
    refine JL_q (q_build (cs := [_, _]) Tryz.zeroValue23 PL_23) (k := ?_)
    refine JL_s (w_store (l' := [_, _]) Tryz.sizeOf23) (k := ?_)
    refine JL_q (q_assign) (k := ?_)
    refine JL_nil ?_
    refine JX_seq ?_
    refine J_ret ?_
    refine JX_seq_ret ?_
    refine JX_ret Tryz.results45 (Res.agg Tryz.isAgg23 Tryz.sizeOf23 rfl me rfl (Res.tmp rfl Res.nil)) (fun w1 hw1 => ?_)
    exact ⟨(by rw [((hF.t hq1)).eq] <;> first | rfl | (simp only [List.length_set] <;> rfl)), hw1.ext_out⟩
  refine JL_qg (q_move) (k := ?_)
  refine JL_qg (q_neq) (k := ?_)
  refine JL_q (q_pickF) (k := ?_)
  refine JL_q (q_move) (k := ?_)
  refine JL_dec 37 rfl (fun hq2 => ?_) (fun hq2 => ?_)
  · refine JL_skips 2 rfl ?_
    refine JL_q (q_pickT) (k := ?_)
    refine JL_q (q_move) (k := ?_)
    refine JL_skips 3 rfl ?_
    refine JL_q (q_pickT) (k := ?_)
    refine JL_nil ?_
    refine JX_seq ?_
    refine J_true rfl ?_
    refine J_seq ?_
    refine J_reg ?_
    refine JL_q (q_build (cs := [_, _]) Tryz.zeroValue23 PL_23) (k := ?_)
    refine JL_s (w_store (l' := [_, _]) Tryz.sizeOf23) (k := ?_)
    refine JL_q (q_assign) (k := ?_)
    refine JL_nil ?_
    refine JX_seq ?_
    refine J_ret ?_
    refine JX_seq_ret ?_
    refine JX_ret Tryz.results45 (Res.agg Tryz.isAgg23 Tryz.sizeOf23 rfl me rfl (Res.tmp rfl Res.nil)) (fun w1 hw1 => ?_)
    exact ⟨(by rw [(((hF.f hq1).pos hq2)).eq] <;> first | rfl | (simp only [List.length_set] <;> rfl)), hw1.ext_out⟩
  refine JL_qg (q_move) (k := ?_)
  refine JL_qg (q_not) (k := ?_)
  refine JL_q (q_pickF) (k := ?_)
  refine JL_q (q_move) (k := ?_)
  refine JL_bool 41 rfl (fun hq3 => ?_) (fun hq3 => ?_)
  · refine JL_skips 3 rfl ?_
    refine JL_q (q_pickT) (k := ?_)
    refine JL_nil ?_
    refine JX_seq ?_
    refine J_true rfl ?_
    refine J_seq ?_
    refine J_reg ?_
    refine JL_q (q_build (cs := [_, _]) Tryz.zeroValue23 PL_23) (k := ?_)
    refine JL_s (w_store (l' := [_, _]) Tryz.sizeOf23) (k := ?_)
    refine JL_q (q_assign) (k := ?_)
    refine JL_nil ?_
    refine JX_seq ?_
    refine J_ret ?_
    refine JX_seq_ret ?_
    refine JX_ret Tryz.results45 (Res.agg Tryz.isAgg23 Tryz.sizeOf23 rfl me rfl (Res.tmp rfl Res.nil)) (fun w1 hw1 => ?_)
    exact ⟨(by rw [((((hF.f hq1).neg hq2).t hq3)).eq] <;> first | rfl | (simp only [List.length_set] <;> rfl)), hw1.ext_out⟩
  have hfhq3 := rNumber_bd (by simpa using hq3)
  refine JL_qg (q_loadA Tryz.isAgg23 Tryz.sizeOf23) (k := ?_)
  refine JL_vg (args := [(Value.agg [(Value.int .i64 (((rParse ((rCut s 47).1)).1))), (Value.int .i64 (((rNumber ((rCut s 47).2.1) 32).1)))].toArray)]) (c_callA Tryz.call71) (fun w1 hw1 => rRight_ok w1 (p := (Prefix.mk ((rParse ((rCut s 47).1)).1) ((rNumber ((rCut s 47).2.1) 32).1)))) (k := ?_)
  refine JL_qg (q_not) (k := ?_)
  refine JL_q (q_pickF) (k := ?_)
  refine JL_nil ?_
  refine JX_seq ?_
  refine J_cond rfl (fun hq4 => ?_) (fun hq4 => ?_)
  · refine J_seq ?_
    refine J_reg ?_
    refine JL_q (q_build (cs := [_, _]) Tryz.zeroValue23 PL_23) (k := ?_)
    refine JL_s (w_store (l' := [_, _]) Tryz.sizeOf23) (k := ?_)
    refine JL_q (q_assign) (k := ?_)
    refine JL_nil ?_
    refine JX_seq ?_
    refine J_ret ?_
    refine JX_seq_ret ?_
    refine JX_ret Tryz.results45 (Res.agg Tryz.isAgg23 Tryz.sizeOf23 rfl me rfl (Res.tmp rfl Res.nil)) (fun w1 hw1 => ?_)
    exact ⟨(by rw [(((((hF.f hq1).neg hq2).f hq3).t hq4)).eq] <;> first | rfl | (simp only [List.length_set] <;> rfl)), hw1.ext_out⟩
  have hfhq4 := rRight_t (by simpa using hq4)
  refine J_skip ?_
  refine JX_seq ?_
  refine J_seq ?_
  refine J_reg ?_
  refine JL_q (q_loadA Tryz.isAgg23 Tryz.sizeOf23) (k := ?_)
  refine JL_s (w_store (l' := [_, _]) Tryz.sizeOf23) (k := ?_)
  refine JL_q (q_assign) (k := ?_)
  refine JL_nil ?_
  refine JX_seq ?_
  refine J_ret ?_
  refine JX_ret Tryz.results45 (Res.agg Tryz.isAgg23 Tryz.sizeOf23 rfl me rfl (Res.tmp rfl Res.nil)) (fun w1 hw1 => ?_)
  exact ⟨(by rw [(((((hF.f hq1).neg hq2).f hq3).f hq4)).eq] <;> first | rfl | (simp only [List.length_set] <;> rfl)), hw1.ext_out⟩

end Go.Proofs.YtnblakihpoacjaaGreatDoor.Jd

