/- Slices that the call has made: make, append, copy, stores; slice expressions; structs that are compared. No condition. -/
import Derived.Test.YtodejmindmiknaaDoorJ6
import Derived.Laws.AppendOwn
import Derived.Laws.MakeOwn
import Derived.Laws.CopyRow
namespace Go.Proofs.YtodejmindmiknaaDoor.Jd
set_option linter.unusedSimpArgs false
set_option linter.unusedVariables false
open Go.RowKit (Below)

theorem setL_eq : ∀ (us l : List Value) (n : Nat), n + us.length ≤ l.length → setL l n us = l.take n ++ us ++ l.drop (n + us.length)
  | [], l, n, _ => by cases l <;> simp [setL]
  | u :: us, [], n, h => by simp at h
  | u :: us, q :: l, 0, h => by
    have := setL_eq us l 0 (by simp at h ⊢; omega)
    simp only [setL, this, List.take_zero, List.nil_append, Nat.zero_add, List.length_cons, List.drop_succ_cons, List.cons_append]
  | u :: us, q :: l, n + 1, h => by
    have := setL_eq (u :: us) l n (by simp at h ⊢; omega)
    simp only [setL, this, List.take_succ_cons, List.cons_append]
    rw [show n + 1 + (u :: us).length = (n + (u :: us).length) + 1 by omega, List.drop_succ_cons]

theorem take_splice (l : List Value) (p q : Nat) (e : List Value) (h1 : p + e.length ≤ q) (h2 : q ≤ l.length) :
    (l.take p ++ e ++ l.drop (p + e.length)).take q = (l.take q).take p ++ e ++ (l.take q).drop (p + e.length) := by
  have l1 : (l.take p ++ e).length = p + e.length := by simp; omega
  rw [List.take_append, List.take_of_length_le (by rw [l1]; exact h1), l1, List.take_take, Nat.min_eq_left (by omega), List.drop_take]

structure EncOk {α : Type} (enc : α → List Value) (k : Nat) : Prop where
  pos : 0 < k
  len : ∀ x, (enc x).length = k
  one : ∀ x, allOne (enc x) = true

theorem allOne_mem : ∀ {l : List Value}, allOne l = true → ∀ u ∈ l, u.oneCell' = true
  | v :: r, h, u, hu => by
    simp only [allOne, Bool.and_eq_true] at h
    rcases List.mem_cons.1 hu with rfl | hu
    · exact h.1
    · exact allOne_mem h.2 u hu

def flat {α : Type} (enc : α → List Value) (xs : List α) : List Value := (xs.map enc).flatten

section flat
variable {α : Type} {enc : α → List Value} {k : Nat}
theorem flat_length (hE : EncOk enc k) : ∀ xs : List α, (flat enc xs).length = xs.length * k
  | [] => by simp [flat]
  | x :: r => by
    have := flat_length hE r
    simp only [flat, List.map_cons, List.flatten_cons, List.length_append, List.length_cons] at *
    rw [this, hE.len, Nat.add_mul]; omega
theorem flat_append (xs ys : List α) : flat enc (xs ++ ys) = flat enc xs ++ flat enc ys := by simp [flat]
theorem flat_get (hE : EncOk enc k) : ∀ (xs : List α) (i : Nat) (x : α), xs[i]? = some x → ∀ j v, (enc x)[j]? = some v → (flat enc xs)[i * k + j]? = some v
  | [], i, x, h, _, _, _ => by simp at h
  | y :: r, 0, x, h, j, v, hv => by
    have : y = x := by simpa using h
    subst this
    simp only [flat, List.map_cons, List.flatten_cons, Nat.zero_mul, Nat.zero_add]
    rw [List.getElem?_append_left (List.getElem?_eq_some_iff.1 hv).1]; exact hv
  | y :: r, i + 1, x, h, j, v, hv => by
    have ih := flat_get hE r i x (by simpa using h) j v hv
    simp only [flat, List.map_cons, List.flatten_cons] at *
    rw [List.getElem?_append_right (by rw [hE.len, Nat.add_mul]; omega), hE.len, show (i + 1) * k + j - k = i * k + j by rw [Nat.add_mul]; omega]
    exact ih
theorem flat_one (hE : EncOk enc k) (xs : List α) : ∀ u ∈ flat enc xs, u.oneCell' = true := fun u hu => by
  obtain ⟨l, hl, hul⟩ := List.mem_flatten.1 hu
  obtain ⟨x, _, rfl⟩ := List.mem_map.1 hl
  exact allOne_mem (hE.one x) u hul
theorem flat_set (hE : EncOk enc k) : ∀ (xs : List α) (i : Nat) (y : α), i < xs.length → flat enc (xs.set i y) = (flat enc xs).take (i * k) ++ enc y ++ (flat enc xs).drop (i * k + k)
  | [], _, _, h => by simp at h
  | x :: r, 0, y, _ => by
    simp only [flat, List.set_cons_zero, List.map_cons, List.flatten_cons, Nat.zero_mul, List.take_zero, List.nil_append, Nat.zero_add]
    rw [List.drop_left' (hE.len x)]
  | x :: r, i + 1, y, h => by
    have ih := flat_set hE r i y (by simpa using h)
    simp only [flat, List.set_cons_succ, List.map_cons, List.flatten_cons] at *
    rw [ih]
    have h1 : (i + 1) * k = k + i * k := by rw [Nat.add_mul]; omega
    rw [h1, ← hE.len x, List.take_length_add_append, show (enc x).length + i * (enc x).length + (enc x).length = (enc x).length + (i * (enc x).length + (enc x).length) by omega, List.drop_length_add_append]
    simp [List.append_assoc]
end flat

/-- The slice (a, c) lies in a row of the call's own, B, and holds xs (or it is nil). -/
def OwnB {α : Type} (enc : α → List Value) (k : Nat) (e : TypeId) (a : Option Addr) (c : Nat) (B : Heap) (xs : List α) : Prop :=
  (c = 0 ∧ B = [] ∧ xs = []) ∨
  ∃ r cur f, a = some ⟨r, 0, none⟩ ∧ B = [(r, .cells cur e f)] ∧ FrOk f cur.size ∧ xs.length ≤ c ∧ cur.size = c * k ∧ cur.toList.take (xs.length * k) = flat enc xs

theorem OwnB.nil {α : Type} {enc : α → List Value} {k : Nat} {e : TypeId} {a : Option Addr} : OwnB enc k e a 0 [] [] := .inl ⟨rfl, rfl, rfl⟩

theorem OwnB.mk {α : Type} {enc : α → List Value} {k : Nat} {e : TypeId} {r c : Nat} {l : List Value} {xs : List α} (hc : xs.length = c := by rfl) (hl : l = flat enc xs := by rfl) (hE : EncOk enc k) : OwnB enc k e (some ⟨r, 0, none⟩) c [(r, .cells l.toArray e)] xs :=
  .inr ⟨r, l.toArray, (0, 0), rfl, rfl, .zero, by omega, by rw [hl]; simp [flat_length hE, hc], by subst hl; simp only [List.toList_toArray]; rw [List.take_of_length_le (by rw [flat_length hE]; omega)]⟩

theorem OwnB.sl {α : Type} {enc : α → List Value} {k : Nat} {e : TypeId} {a : Option Addr} {c : Nat} {B : Heap} {xs : List α} (hE : EncOk enc k) (h : OwnB enc k e a c B xs) {w : World} (hB : ∀ p ∈ B, w.heap[p.1]? = some p.2) : Sl w enc k a xs := by
  rcases h with ⟨rfl, rfl, rfl⟩ | ⟨r, cur, fz, rfl, rfl, hfz, h1, h2, h3⟩
  · exact Sl.nil
  · intro i x hx
    refine ⟨r, 0, rfl, hE.len x, fun j v hv => ?_⟩
    have hb := hB _ List.mem_cons_self
    simp only at hb
    have hg := flat_get hE xs i x hx j v hv
    rw [← h3] at hg
    have hg' : cur.toList[i * k + j]? = some v := by
      rw [List.getElem?_take] at hg
      split at hg
      · exact hg
      · cases hg
    simp only [World.cell?, hb, Nat.zero_add]
    simpa using hg'

theorem OwnB.slj {α : Type} {enc : α → List Value} {k : Nat} {e : TypeId} {a : Option Addr} {c : Nat} {B L : Heap} {xs : List α} {b0 : World} {Mk : List Nat} (hE : EncOk enc k) (h : OwnB enc k e a c B xs)
    (hB : ∀ p ∈ B, p ∈ L := by intro p hp; repeat (first | exact hp | exact List.mem_append_left _ hp | apply List.mem_append_right | apply List.mem_cons_of_mem)) : SlJ b0 Mk L enc k a xs :=
  fun _ hw => h.sl hE (fun p hp => hw.own p (hB p hp))

/-- A prefix of a slice. -/
theorem SlJ.take {α : Type} {enc : α → List Value} {k : Nat} {a : Option Addr} {xs : List α} {L : Heap} {b0 : World} {Mk : List Nat} (h : SlJ b0 Mk L enc k a xs) (n : Nat) : SlJ b0 Mk L enc k a (xs.take n) :=
  fun w hw i x hx => h w hw i x (by
    rw [List.getElem?_take] at hx
    split at hx
    · exact hx
    · cases hx)

/-- What a type's row of the table says. -/
structure Ty (P : Program) (e k by_ : Nat) (z : Value) : Prop where
  ex : ∃ i, P.info? e = some i ∧ i.size = k ∧ i.bytes = by_ ∧ i.zero = some z
  zs : z.cells.size = k

section
variable {P : Program} {rd : Option Nat} {b0 : World} {Mk : List Nat} {N : Nat} {D : List Deferred} {ops : Array Oper} {L V : Heap} {E : Env} {T : Act → World → Prop}
variable {op : Op} {ty : TypeId} {pos : String} {after : Array Edge} {d : Nat}

/-- An operation that changes the blocks H. -/
def RunM (P : Program) (N : Nat) (D : List Deferred) (b0 : World) (Mk : List Nat) (L : Heap) (E : Env) (op : Op) (ty : TypeId) (H : Heap) (X : Type) (v : X → Next) (H' : X → Heap) (Pr : X → Prop) : Prop :=
  ∀ a w, Holds N D E a → SH b0 Mk L w → ∃ x w', (execOp a.eval (mkO op ty)).run P w = .ok (v x) w' ∧ Tr w w' H (H' x) ∧ Pr x

theorem JL_e {l : List Oper} {H R : Heap} {X : Type} {v : X → Value} {H' : X → Heap} {Pr : X → Prop} (hL : List.Perm L (H ++ R)) (h : RunM P N D b0 Mk L E op ty H X (fun x => .value (v x)) H' Pr) (hn : notDeferOp op = true := by rfl) (hd : Nat.blt d N = true := by rfl)
    (k : ∀ x, Pr x → JL P rd b0 Mk N D ops (H' x ++ R) ((d, v x) :: E) l T) : JL P rd b0 Mk N D ops L E ({ dst := some d, op := op, type := ty, pos := pos, after := after, guard := none } :: l) T := by
  intro a w ha hw
  unfold wpL
  rw [if_pos (by rfl)]
  obtain ⟨x, w', h1, h2, h3⟩ := h a w ha hw
  exact wpIn_value (notDefer_mk hn) (by rw [execOp_mkO]; exact h1) (k x h3 _ _ (ha.put hd _) ((hw.perm hL).tr h2))

theorem JL_es {l : List Oper} {H R : Heap} {X : Type} {H' : X → Heap} {Pr : X → Prop} (hL : List.Perm L (H ++ R)) (h : RunM P N D b0 Mk L E op ty H X (fun _ => .skip) H' Pr) (hn : notDeferOp op = true := by rfl)
    (k : ∀ x, Pr x → JL P rd b0 Mk N D ops (H' x ++ R) E l T) : JL P rd b0 Mk N D ops L E ({ dst := none, op := op, type := ty, pos := pos, after := after, guard := none } :: l) T := by
  intro a w ha hw
  unfold wpL
  rw [if_pos (by rfl)]
  obtain ⟨x, w', h1, h2, h3⟩ := h a w ha hw
  exact wpIn_skip' (notDefer_mk hn) (by rw [execOp_mkO]; exact h1) (k x h3 _ _ ha ((hw.perm hL).tr h2))

theorem JD_e {l : List (Bool × Oper)} {H R : Heap} {X : Type} {v : X → Value} {H' : X → Heap} {Pr : X → Prop} (hV : List.Perm V (H ++ R)) (h : RunM P N D b0 Mk (V ++ L) E op ty H X (fun x => .value (v x)) H' Pr) (hn : notDeferOp op = true := by rfl) (hd : Nat.blt d N = true := by rfl)
    (k : ∀ x, Pr x → JD P rd b0 Mk N D ops L (H' x ++ R) ((d, v x) :: E) l T) : JD P rd b0 Mk N D ops L V E ((false, { dst := some d, op := op, type := ty, pos := pos, after := after, guard := none }) :: l) T := by
  intro a w ha hw
  unfold wpS
  rw [if_pos (by rfl)]
  obtain ⟨x, w', h1, h2, h3⟩ := h a w ha hw
  have hw2 : SH b0 Mk (H ++ (R ++ L)) w := by rw [← List.append_assoc]; exact hw.perm (hV.append_right L)
  have hw3 : SH b0 Mk ((H' x ++ R) ++ L) w' := by rw [List.append_assoc]; exact hw2.tr h2
  exact wpIn_value (notDefer_mk hn) (by rw [execOp_mkO]; exact h1) ⟨SH b0 Mk L, fun _ h => h, hw3.right, k x h3 _ _ (ha.put hd _) hw3⟩

theorem info_size {e k by_ : Nat} {z : Value} (hT : Ty P e k by_ z) : ∃ i, P.info? e = some i ∧ i.size = k ∧ i.bytes = by_ ∧ i.zero = some z := hT.ex

theorem tr_alloc {w : World} (o : Obj) : Tr w (w.alloc o) [] [(w.heap.size, o)] :=
  ⟨rfl, rfl, rfl, by simp, fun k hk _ => Below.heap_alloc w o k hk, fun p hp => by
    have : p = (w.heap.size, o) := by simpa using hp
    subst this
    show (w.heap.push o)[w.heap.size]? = some o
    simp, fun p hp => .inr (by have : p = (w.heap.size, o) := by simpa using hp
                               subst this; exact Nat.le_refl _), by simp [keys]⟩

theorem Tr.weaken {w w' : World} {H' B : Heap} (h : Tr w w' [] H') : Tr w w' B H' :=
  ⟨h.os, h.tape, h.output, h.size, fun k hk _ => h.same k hk (by simp [keys]), h.own, fun p hp => (h.key p hp).imp (fun hm => by simp [keys] at hm) id, h.nd⟩

theorem tr_row {w : World} {r : Nat} {cur cur' : Array Value} {e : TypeId} {f : Nat × Nat} (h : w.heap[r]? = some (.cells cur e f)) : Tr w (w.setRow r cur') [(r, .cells cur e f)] [(r, .cells cur' e f)] := by
  have hlt := (Array.getElem?_eq_some_iff.1 h).1
  have e1 : (w.setRow r cur').heap = w.heap.modify r (fun | .cells _ elem frozen => .cells cur' elem frozen | o => o) := rfl
  refine ⟨rfl, rfl, rfl, ?_, fun k _ hk => ?_, fun p hp => ?_, fun p hp => .inl ?_, by simp [keys]⟩
  · show w.heap.size ≤ (w.setRow r cur').heap.size
    rw [e1]; simp
  · rw [e1, Array.getElem?_modify, if_neg (fun e => hk (by subst e; simp [keys]))]
  · have : p = (r, .cells cur' e f) := by simpa using hp
    subst this
    show (w.setRow r cur').heap[r]? = _
    rw [e1, Array.getElem?_modify]
    simp [h]
  · have : p = (r, .cells cur' e f) := by simpa using hp
    subst this
    simp [keys]

theorem tr_drew {w w' : World} {H H' : Heap} (h : Tr w.drew w' H H') : Tr w w' H H' := ⟨h.os, h.tape, h.output, h.size, h.same, h.own, h.key, h.nd⟩

theorem Sl.cells {w : World} {α : Type} {enc : α → List Value} {k : Nat} {a : Addr} {xs : List α} (hE : EncOk enc k) (h : Sl w enc k (some a) xs) (n : Nat) (hn : n ≤ xs.length) : ∀ j v, (flat enc (xs.take n))[j]? = some v → w.cell? (a.add j) = some v := by
  intro j v hv
  have hj : j < n * k := by
    have h1 := (List.getElem?_eq_some_iff.1 hv).1
    rw [flat_length hE, List.length_take, Nat.min_eq_left hn] at h1
    exact h1
  have hk := hE.pos
  have hi : j / k < n := (Nat.div_lt_iff_lt_mul hk).2 hj
  have hx : xs[j / k]? = some xs[j / k] := List.getElem?_eq_getElem (by omega)
  obtain ⟨b, off, e1, _, h3⟩ := h _ _ hx
  have e1' : a = ⟨b, off, none⟩ := Option.some.inj e1
  subst e1'
  have hm : j % k < k := Nat.mod_lt _ hk
  have hl : j % k < (enc xs[j / k]).length := by rw [hE.len]; exact hm
  have hv2 := flat_get hE (xs.take n) (j / k) xs[j / k] (by rw [List.getElem?_take, if_pos hi]; exact hx) (j % k) _ (List.getElem?_eq_getElem hl)
  have e2 : j / k * k + j % k = j := by rw [Nat.mul_comm]; exact Nat.div_add_mod j k
  rw [e2, hv] at hv2
  have h4 := h3 (j % k) _ (List.getElem?_eq_getElem hl)
  rw [addr_add]
  rw [show off + j / k * k + j % k = off + j by omega] at h4
  rw [h4]; exact hv2.symm

theorem OwnB.full {α : Type} {enc : α → List Value} {k : Nat} {e : TypeId} {r c : Nat} {xs : List α} (hE : EncOk enc k) {cur : Array Value} (h1 : xs.length ≤ c) (h2 : cur.size = c * k) (h3 : cur.toList.take (xs.length * k) = flat enc xs) : OwnB enc k e (some ⟨r, 0, none⟩) c [(r, .cells cur e)] xs := by
  have _ := hE
  exact .inr ⟨r, cur, (0, 0), rfl, rfl, .zero, h1, h2, h3⟩
theorem OwnB.fullF {α : Type} {enc : α → List Value} {k : Nat} {e : TypeId} {r c : Nat} {xs : List α} {f : Nat × Nat} {cur : Array Value} (hf : FrOk f cur.size) (h1 : xs.length ≤ c) (h2 : cur.size = c * k) (h3 : cur.toList.take (xs.length * k) = flat enc xs) : OwnB enc k e (some ⟨r, 0, none⟩) c [(r, .cells cur e f)] xs :=
  .inr ⟨r, cur, f, rfl, rfl, hf, h1, h2, h3⟩
theorem run_storeCells_atG (P : Program) (g o : Nat) (t : TypeId) (fz : Nat × Nat) : ∀ (vs : List Value) (i : Nat) (cur : Array Value) (w : World), w.heap[g]? = some (.cells cur t fz) → FrOk fz cur.size → o + i + vs.length ≤ cur.size → (∀ v ∈ vs, v.oneCell' = true) →
    (storeCells ⟨g, o, none⟩ vs i).run P w = .ok () (w.setRow g (cur.toList.take (o + i) ++ vs ++ cur.toList.drop (o + i + vs.length)).toArray)
  | [], i, cur, w, hg, _, _, _ => by
    simp only [storeCells, List.append_nil, List.length_nil, Nat.add_zero, List.take_append_drop, Array.toArray_toList]
    rw [setRow_self w g cur t fz hg]
    rfl
  | v :: rest, i, cur, w, hg, hfz, hl, h1 => by
    have hi : o + i < cur.size := by simp at hl; omega
    have hadd : (⟨g, o, none⟩ : Addr).add i = ⟨g, o + i, none⟩ := by unfold Addr.add; split <;> simp_all
    have hcell : w.cell? ⟨g, o + i, none⟩ = some cur[o + i] := by simp [World.cell?, hg, hi]
    have hfro : w.frozen? ⟨g, o + i, none⟩ = false := hfz.not hg hi
    have hst : (store ((⟨g, o, none⟩ : Addr).add i) v).run P w = .ok () (w.setRow g (cur.setIfInBounds (o + i) v)) := by
      rw [hadd, run_store P w _ v _ (h1 v (by simp)), hcell]
      simp [hfro, setCell_eq_setRow w g (o + i) cur t fz v hg]
    have ih := run_storeCells_atG P g o t fz rest (i + 1) (cur.setIfInBounds (o + i) v) (w.setRow g (cur.setIfInBounds (o + i) v)) (setRow_heap w g cur _ t _ hg) (by simpa using hfz) (by simp at hl ⊢; omega) (fun x hx => h1 x (by simp [hx]))
    simp only [storeCells, Sem.run_bind, hst, Result.andThen_ok, ih, setRow_setRow]
    congr 3
    have e := list_seg_step cur.toList (o + i) v rest (by simp at hl ⊢; omega)
    simpa [Array.toList_setIfInBounds, Nat.add_assoc] using e
theorem run_append_roomG {P : Program} {w : World} {ty : TypeId} (t e : TypeId) (i : TypeInfo) (ht : P.underlying t = some (.slice e)) (hi : P.info? e = some i)
    (g sLen sCap : Nat) (cur : Array Value) (fz : Nat × Nat) (hg : w.heap[g]? = some (.cells cur e fz)) (hfz : FrOk fz cur.size)
    (a : Addr) (m c : Nat) (news : List Value) (hl : news.length = m * i.size) (hnews : ∀ j u, news[j]? = some u → w.cell? (a.add j) = some u) (h1 : ∀ u ∈ news, u.oneCell' = true)
    (hroom : sLen + m ≤ sCap) (hfit : sLen * i.size + news.length ≤ cur.size) :
    (Builtin.append_ #[t, t] ty #[.slice (some ⟨g, 0, none⟩) sLen sCap, .slice (some a) m c]).run P w =
      .ok (.slice (some ⟨g, 0, none⟩) (sLen + m) sCap) (w.setRow g (cur.toList.take (sLen * i.size) ++ news ++ cur.toList.drop (sLen * i.size + news.length)).toArray) := by
  have hf := run_firstCells_some (P := P) w i.size m a m c news hl hnews
  have hst := run_storeCells_atG P g (sLen * i.size) e fz news 0 cur w hg hfz (by simpa using hfit) h1
  simp only [Nat.add_zero] at hst
  simp [Builtin.append_, run_underlying ht, sizeOf, typeInfo, hi, Builtin.lenOf, hroom, hf, Addr.add_lit, hst]

theorem size_zeroCells' (z : Array Value) (n : Nat) : (Builtin.zeroCells z n).toList.length = n * z.size := by simp [Builtin.zeroCells]

/-- append to a slice of the call's own (or nil). -/
theorem e_append {α : Type} {enc : α → List Value} {k by_ : Nat} {t e : TypeId} {z : Value} {x y : Operand} {a a' : Option Addr} {c c' n m : Nat} {B : Heap} {xs ys : List α} (hT : Ty P e k by_ z) (hU : P.underlying t = some (.slice e)) (hE : EncOk enc k) (ho : OwnB enc k e a c B xs)
    (hs : SlJ b0 Mk L enc k a' ys) (hB : ∀ p ∈ B, p ∈ L) (hn : xs.length = n) (hm : ys.length = m) (hb : 2 * (n + m) * by_ ≤ 281474976710656) (hb2 : n + m ≤ 4611686018427387904) (hx : ev E x = some (.slice a n c) := by rfl) (hy : ev E y = some (.slice a' m c') := by rfl) :
    RunM P N D b0 Mk L E (.call { callee := .builtin .append, args := #[x, y], argTypes := #[t, t] }) ty B (Option Addr × Nat × Heap) (fun q => .value (.slice q.1 (n + m) q.2.1)) (fun q => q.2.2) (fun q => OwnB enc k e q.1 q.2.1 q.2.2 (xs ++ ys)) := by
  intro ac w ha hw
  obtain ⟨i, hi, rfl, rfl, hz⟩ := hT.ex
  have hzs := hT.zs
  have hk := hE.pos
  subst hn hm
  have run1 : ∀ (v' : Value) (w' : World), (Builtin.append_ #[t, t] ty #[.slice a xs.length c, .slice a' ys.length c']).run P w = .ok v' w' →
      (execOp ac.eval (mkO (.call { callee := .builtin .append, args := #[x, y], argTypes := #[t, t] }) ty)).run P w = .ok (.value v') w' := fun v' w' h => by
    simp [mkO, execOp, resolve, invoke, builtin, ha.eval hx, ha.eval hy, h]
  have hsl := hs w hw
  -- what is appended
  by_cases hy0 : ys = []
  · subst hy0
    -- nothing is appended: the slice is as it was
    have hrun : (Builtin.append_ #[t, t] ty #[.slice a xs.length c, .slice a' 0 c']).run P w = .ok (.slice a xs.length c) w := by
      have hle : xs.length + 0 ≤ c := by
        rcases ho with ⟨rfl, rfl, rfl⟩ | ⟨r, cur, fz, rfl, rfl, hfz, h1, _, _⟩
        · simp
        · simpa using h1
      have hf : (Builtin.firstCells i.size 0 (.slice a' 0 c')).run P w = .ok #[] w := by
        cases a' with
        | none => simp [Builtin.firstCells]
        | some q => simp [Builtin.firstCells, loadCells, loadCellsFrom]
      have hle' : xs.length ≤ c := by simpa using hle
      rcases a with _ | ad
      · simp [Builtin.append_, run_underlying hU, sizeOf, typeInfo, hi, Builtin.lenOf, hf, hle']
      · simp [Builtin.append_, run_underlying hU, sizeOf, typeInfo, hi, Builtin.lenOf, hf, hle', storeCells]
    refine ⟨(a, c, B), w, run1 _ _ (by simpa using hrun), ?_, by simpa using ho⟩
    refine Tr.refl (fun p hp => hw.own p (hB p hp)) ?_
    rcases ho with ⟨_, rfl, _⟩ | ⟨r, cur, fz, _, rfl, _⟩ <;> simp [keys]
  · have hpos : 0 < ys.length := List.length_pos_iff.2 hy0
    obtain ⟨y0, hy0'⟩ : ∃ y0, ys[0]? = some y0 := ⟨_, List.getElem?_eq_getElem hpos⟩
    obtain ⟨b1, off1, rfl, _, _⟩ := hsl 0 y0 hy0'
    have hnews := Sl.cells hE hsl ys.length (Nat.le_refl _)
    rw [List.take_length] at hnews
    have hnl : (flat enc ys).length = ys.length * i.size := flat_length hE ys
    rcases ho with ⟨rfl, rfl, rfl⟩ | ⟨r, cur, fz, rfl, rfl, hfz, h1, h2, h3⟩
    · -- nil, or empty and without room
      have hby2 : 2 * ys.length * i.bytes ≤ 281474976710656 := by simpa using hb
      have hby : ys.length * i.bytes ≤ 281474976710656 := by
        rw [Nat.mul_assoc] at hby2
        omega
      rcases a with _ | ad
      · have hr := run_append_nil (P := P) w t ty e i z hU hi hz ⟨b1, off1, none⟩ ys.length c' (flat enc ys) hnl hnews hpos (by simp at hb2; omega) hby
        refine ⟨(some ⟨w.heap.size, 0, none⟩, grownCap w ys.length 0 e, [(w.heap.size, _)]), _, run1 _ _ (by simpa using hr), tr_drew (tr_alloc (w := w.drew) _), ?_⟩
        have hge := grownCap_ge w ys.length 0 e
        refine OwnB.full hE (by simpa using hge) ?_ ?_
        · rw [Array.size_append, List.size_toArray, hnl, size_zeroCells, hzs, ← Nat.add_mul]
          dsimp only
          congr 1
          omega
        · simp only [List.nil_append, Array.toList_append]
          rw [List.take_left' (by simpa using hnl)]
      · have hnx : Builtin.nextslicecap (0 + ys.length) 0 ≤ 2 * (0 + ys.length) := nextslicecap_le (by omega)
        have hr := run_append_grow (P := P) w t ty e i z hU hi hz ad 0 0 [] (by simp) (by simp) ⟨b1, off1, none⟩ ys.length c' (flat enc ys) hnl hnews (by omega) (by simp at hb2; omega) (Nat.le_trans (Nat.mul_le_mul_right _ hnx) (by simpa using hb))
        refine ⟨(some ⟨w.heap.size, 0, none⟩, grownCap w (0 + ys.length) 0 e, [(w.heap.size, _)]), _, run1 _ _ (by simpa using hr), tr_drew (tr_alloc (w := w.drew) _), ?_⟩
        have hge := grownCap_ge w (0 + ys.length) 0 e
        refine OwnB.full hE (by simpa using hge) ?_ ?_
        · simp only [List.nil_append, Nat.zero_add] at hge ⊢
          rw [Array.size_append, List.size_toArray, hnl, size_zeroCells, hzs, ← Nat.add_mul]
          congr 1
          omega
        · simp only [List.nil_append, Array.toList_append]
          rw [List.take_left' (by simpa using hnl)]
    · have hh : w.heap[r]? = some (.cells cur e fz) := hw.own _ (hB _ List.mem_cons_self)
      by_cases hroom : xs.length + ys.length ≤ c
      · -- there is room
        have hr := run_append_roomG (P := P) (w := w) (ty := ty) t e i hU hi r xs.length c cur fz hh hfz ⟨b1, off1, none⟩ ys.length c' (flat enc ys) hnl hnews (flat_one hE ys) hroom (by rw [hnl, h2, ← Nat.add_mul]; exact Nat.mul_le_mul_right _ hroom)
        refine ⟨(some ⟨r, 0, none⟩, c, [(r, _)]), _, run1 _ _ hr, tr_row hh, OwnB.fullF ?_ (by simpa using hroom) ?_ ?_⟩
        · refine hfz.imp id fun h => Nat.le_trans (Nat.le_of_eq ?_) h
          have hle : xs.length * i.size + ys.length * i.size ≤ c * i.size := by rw [← Nat.add_mul]; exact Nat.mul_le_mul_right _ hroom
          simp only [List.size_toArray, List.length_append, List.length_take, List.length_drop, Array.length_toList, hnl, h2]
          omega
        · have hle : xs.length * i.size + ys.length * i.size ≤ c * i.size := by rw [← Nat.add_mul]; exact Nat.mul_le_mul_right _ hroom
          simp only [List.size_toArray, List.length_append, List.length_take, List.length_drop, Array.length_toList, hnl, h2]
          omega
        · have hle : xs.length * i.size ≤ c * i.size := Nat.mul_le_mul_right _ h1
          have e1 : (cur.toList.take (xs.length * i.size)).length = xs.length * i.size := by simp [h2, Nat.min_eq_left hle]
          simp only [List.toList_toArray, List.length_append, Nat.add_mul]
          rw [List.take_left' (by rw [List.length_append, e1, hnl]), h3, flat_append]
      · -- it grows
        have holds : ∀ j v, (flat enc xs)[j]? = some v → w.cell? ((⟨r, 0, none⟩ : Addr).add j) = some v := by
          have hsx : Sl w enc i.size (some ⟨r, 0, none⟩) xs := OwnB.sl hE (.inr ⟨r, cur, fz, rfl, rfl, hfz, h1, h2, h3⟩) (fun p hp => hw.own p (hB p hp))
          have := Sl.cells hE hsx xs.length (Nat.le_refl _)
          rwa [List.take_length] at this
        have hg : c < xs.length + ys.length := by omega
        have hnx : Builtin.nextslicecap (xs.length + ys.length) c ≤ 2 * (xs.length + ys.length) := nextslicecap_le hg
        have hr := run_append_grow (P := P) w t ty e i z hU hi hz ⟨r, 0, none⟩ xs.length c (flat enc xs) (flat_length hE xs) holds ⟨b1, off1, none⟩ ys.length c' (flat enc ys) hnl hnews hg (by omega) (Nat.le_trans (Nat.mul_le_mul_right _ hnx) hb)
        refine ⟨(some ⟨w.heap.size, 0, none⟩, grownCap w (xs.length + ys.length) c e, [(w.heap.size, _)]), _, run1 _ _ hr, (tr_drew (tr_alloc (w := w.drew) _)).weaken, ?_⟩
        have hge := grownCap_ge w (xs.length + ys.length) c e
        refine OwnB.full hE (by simpa using hge) ?_ ?_
        · rw [Array.size_append, Array.size_append, List.size_toArray, List.size_toArray, hnl, flat_length hE, size_zeroCells, hzs, ← Nat.add_mul, ← Nat.add_mul]
          dsimp only
          congr 1
          omega
        · simp only [Array.toList_append]
          rw [List.take_left' (by simp [hnl, flat_length hE, Nat.add_mul]), flat_append]

/-- make([]T, n). -/
theorem a_make {k by_ n : Nat} {t e : TypeId} {z : Value} {x y : Operand} (hT : Ty P e k by_ z) (hU : P.underlying t = some (.slice e)) (hb : by_ * n ≤ 281474976710656) (hb2 : n ≤ 4611686018427387904) (hx : ev E x = some (.int .i64 n) := by rfl) (hy : ev E y = some (.int .i64 n) := by rfl) :
    RunA P N D b0 Mk L E (.makeSlice t x y) ty (.cells (madeCells z.cells (n * k)) e) (fun r => .slice (some ⟨r, 0, none⟩) n n) := fun a w ha _ => by
  obtain ⟨i, hi, rfl, rfl, hz⟩ := hT.ex
  have hb3 : (i.bytes : Int) * (n : Int) ≤ 281474976710656 := by
    rw [← Int.natCast_mul]; omega
  have := run_make (P := P) w t e i z hU hi hz .i64 .i64 (n : Int) (n : Int) (by omega) (by omega) hb3 (by omega)
  simp [mkO, execOp, ha.eval hx, ha.eval hy, this]

theorem made_flat {α : Type} {enc : α → List Value} {k : Nat} {z : Value} {x0 : α} (hE : EncOk enc k) (hz : cellsL z = enc x0) (n : Nat) : madeCells z.cells (n * k) = (flat enc (List.replicate n x0)).toArray := by
  have hk := hE.pos
  apply Array.ext'
  rw [cellsL_eq, hz]
  apply List.ext_getElem?
  intro j
  by_cases hj : j < n * k
  · have hi : j / k < n := (Nat.div_lt_iff_lt_mul hk).2 hj
    have hm : j % k < (enc x0).length := by rw [hE.len]; exact Nat.mod_lt _ hk
    have h1 := flat_get hE (List.replicate n x0) (j / k) x0 (by simp [hi]) (j % k) _ (List.getElem?_eq_getElem hm)
    have e2 : j / k * k + j % k = j := by rw [Nat.mul_comm]; exact Nat.div_add_mod j k
    rw [e2] at h1
    rw [List.toList_toArray, h1]
    simp [madeCells, hj, hE.len, Nat.mod_lt _ hk]
  · rw [List.getElem?_eq_none (by simp [madeCells]; omega), List.getElem?_eq_none (by rw [List.toList_toArray, flat_length hE]; simp; omega)]

theorem OwnB.made {α : Type} {enc : α → List Value} {k : Nat} {e : TypeId} {z : Value} {x0 : α} {r n : Nat} (hE : EncOk enc k) (hz : cellsL z = enc x0) : OwnB enc k e (some ⟨r, 0, none⟩) n [(r, .cells (madeCells z.cells (n * k)) e)] (List.replicate n x0) := by
  rw [made_flat hE hz]
  exact OwnB.mk (by simp) rfl hE

/-- A store to one element. -/
theorem e_storeE {α : Type} {enc : α → List Value} {k : Nat} {t e : TypeId} {x y : Operand} {v : Value} {a : Option Addr} {c o : Nat} {B : Heap} {xs : List α} (m : Nat) (u : α) (hS : ∀ w, (sizeOf t).run P w = .ok k w) (hE : EncOk enc k) (ho : OwnB enc k e a c B xs) (hB : ∀ p ∈ B, p ∈ L) (hm : m < xs.length)
    (hx : ev E x = some (.pointer (some (ea a o))) := by rfl) (hy : ev E y = some v := by rfl) (hv : cellsL v = enc u := by rfl) (hoo : o = m * k := by first | rfl | omega) :
    RunM P N D b0 Mk L E (.store t x y) ty B Heap (fun _ => .skip) (fun q => q) (fun q => OwnB enc k e a c q (xs.set m u)) := by
  intro ac w ha hw
  subst hoo
  rcases ho with ⟨rfl, rfl, rfl⟩ | ⟨r, cur, fz, rfl, rfl, hfz, h1, h2, h3⟩
  · simp at hm
  · have hh : w.heap[r]? = some (.cells cur e fz) := hw.own _ (hB _ List.mem_cons_self)
    have hmk : m * k + k ≤ c * k := by
      have : (m + 1) * k ≤ c * k := Nat.mul_le_mul_right _ (by omega)
      rw [Nat.add_mul] at this; omega
    have hst := run_storeCellsF (P := P) (r := r) (k := m * k) (T := e) (f := fz) (enc u) cur.toList 0 w (by simpa using hh) (by simpa using hfz) (hE.one u) (by rw [hE.len, Array.length_toList, h2]; omega)
    obtain ⟨w', g1, g2, g3, g4, g5, g6, g7⟩ := hst
    refine ⟨[(r, .cells (setL cur.toList (m * k) (enc u)).toArray e fz)], w', ?_, ⟨g5, g6, g7, by omega, fun j _ hj => g3 j (fun e => hj (by subst e; simp [keys])), fun p hp => ?_, fun p hp => .inl ?_, by simp [keys]⟩, ?_⟩
    · have he : ea (some ⟨r, 0, none⟩) (m * k) = ⟨r, m * k, none⟩ := by simp [ea]
      have hn : v.cells.size = k := by rw [cellsL_eq, hv]; simp [hE.len]
      simp [mkO, execOp, ha.eval hx, ha.eval hy, Instr.storeAt, Instr.sureAddr, storeVar, he, hS, hn]
      rw [show v.cells.toList = enc u by rw [cellsL_eq, hv], g1]
      rfl
    · have : p = (r, .cells (setL cur.toList (m * k) (enc u)).toArray e fz) := by simpa using hp
      subst this
      simpa using g2
    · have : p = (r, .cells (setL cur.toList (m * k) (enc u)).toArray e fz) := by simpa using hp
      subst this
      simp [keys]
    · have hset := setL_eq
      refine OwnB.fullF (by simpa [setL_length] using hfz) (by simpa using h1) ?_ ?_
      · simp [setL_length, h2]
      · rw [List.toList_toArray, hset _ _ _ (by rw [hE.len, Array.length_toList, h2]; omega), hE.len, List.length_set, flat_set hE xs m u hm, ← h3]
        have hxl : xs.length * k ≤ c * k := Nat.mul_le_mul_right _ h1
        have hml : m * k + k ≤ xs.length * k := by
          have : (m + 1) * k ≤ xs.length * k := Nat.mul_le_mul_right _ (by omega)
          rw [Nat.add_mul] at this; omega
        have := take_splice cur.toList (m * k) (xs.length * k) (enc u) (by rw [hE.len]; exact hml) (by simp only [Array.length_toList] at *; omega)
        rw [hE.len] at this
        exact this

/-! slice expressions -/
theorem q_sliceHi {t e : TypeId} {x y : Operand} {a : Option Addr} {n c : Nat} {i : Int} {ki : IntKind} (m : Nat) (hU : ∀ w, (underlying t).run P w = .ok (.slice e) w) (hS : ∀ w, ∃ q, (sizeOf e).run P w = .ok q w) (hm : m ≤ c) (hx : ev E x = some (.slice a n c) := by rfl) (hy : ev E y = some (.int ki i) := by rfl) (hi : i = (m : Int) := by first | rfl | omega) :
    RunQ P N D b0 Mk L E (.slice t x none (some y) none) ty (.slice a m c) := fun ac w ha _ => by
  subst hi
  obtain ⟨q, hq⟩ := hS w
  have h1 : (0 : Int) ≤ (m : Int) ∧ (m : Int) ≤ (c : Int) := by omega
  have e0 : (if c = 0 then a else Option.map (fun x => x.add 0) a) = a := by
    cases a with
    | none => simp
    | some ad => simp [Addr.add]
  simp [mkO, execOp, ha.eval hx, ha.eval hy, Instr.sliceAt, hU, Instr.slice, Instr.sliceBounds, Instr.sliceBound, asIntOf, hm, hq, e0]

theorem q_sliceHiMax {t e : TypeId} {x y y2 : Operand} {a : Option Addr} {n c : Nat} {i i2 : Int} {ki ki2 : IntKind} (m m2 : Nat) (hU : ∀ w, (underlying t).run P w = .ok (.slice e) w) (hS : ∀ w, ∃ q, (sizeOf e).run P w = .ok q w) (hm : m ≤ m2) (hm2 : m2 ≤ c) (hx : ev E x = some (.slice a n c) := by rfl) (hy : ev E y = some (.int ki i) := by rfl) (hy2 : ev E y2 = some (.int ki2 i2) := by rfl)
    (hi : i = (m : Int) := by first | rfl | omega) (hi2 : i2 = (m2 : Int) := by first | rfl | omega) :
    RunQ P N D b0 Mk L E (.slice t x none (some y) (some y2)) ty (.slice a m m2) := fun ac w ha _ => by
  subst hi hi2
  obtain ⟨q, hq⟩ := hS w
  have e0 : (if m2 = 0 then a else Option.map (fun x => x.add 0) a) = a := by
    cases a with
    | none => simp
    | some ad => simp [Addr.add]
  simp [mkO, execOp, ha.eval hx, ha.eval hy, ha.eval hy2, Instr.sliceAt, hU, Instr.slice, Instr.sliceBounds, Instr.sliceBound, asIntOf, hm, hm2, hq, e0]

/-- Two values of a struct type are held against each other: by the equation on the operation's run. -/
theorem q_eqS {t t' : TypeId} {x y : Operand} {u v : Value} {b : Bool} (h : ∀ w, (do eqGuard .eql t x y u v; binOp .eql t u v : Sem Value).run P w = .ok (.bool b) w) (hx : ev E x = some u := by rfl) (hy : ev E y = some v := by rfl) : RunQ P N D b0 Mk L E (.binOp .eql t x y t') ty (.bool b) := fun ac w ha _ => by
  have := h w
  simp only [mkO, execOp, ha.eval hx, ha.eval hy]
  simp only [Sem.run_bind] at this ⊢
  rw [this]
  rfl

/-- min of two ints. -/
theorem q_min {x y : Operand} {p q : Int} {tys : Array TypeId} (hx : ev E x = some (.int .i64 p) := by rfl) (hy : ev E y = some (.int .i64 q) := by rfl) :
    RunQ P N D b0 Mk L E (.call { callee := .builtin .min, args := #[x, y], argTypes := tys }) ty (.int .i64 (if q < p then q else p)) := fun ac w ha _ => by
  simp [mkO, execOp, resolve, invoke, builtin, Builtin.min_, ha.eval hx, ha.eval hy, Builtin.min2]
end
end Go.Proofs.YtodejmindmiknaaDoor.Jd
