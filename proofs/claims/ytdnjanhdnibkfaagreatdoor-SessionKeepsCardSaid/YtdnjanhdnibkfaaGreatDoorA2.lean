/- Part of the proofs of this seat: walks and plain facts. No condition. -/
import Derived.Test.YtdnjanhdnibkfaaGreatDoorA0
import Derived.Stop.LaidTwo
import Derived.Lib.ConvBytes
import Derived.Laws.BytesString
import Derived.Lay
import Derived.LaidHandle
import Derived.Lib.AppendZeros
import Derived.Lib.AppendZerosOnto
import Derived.Lib.Overlaps
import Derived.Lib.Builder
import Derived.Lib.UnsafeStr
import Derived.Shelf.Strings.Builder1
import Derived.Shelf.Strings.Builder2
import Derived.Shelf.Strings.OnBuilder
import Derived.Shelf.Small.Wraps
import Derived.Shelf.Strings.BuilderF
import Derived.Shelf.Strings.BuilderK
import Derived.Shelf.Strings.Builder2Cap
import Derived.Shelf.Strconv.Itoa0
import Derived.Shelf.Strconv.Itoa1
import Derived.Shelf.LaysM
import Derived.Shelf.Strconv.Itoa2
import Derived.Shelf.Strconv.Itoa3
import Derived.Shelf.Strings.Search1
import Derived.Shelf.Strings.Search2
import Derived.Shelf.Strings.Cut
import Derived.Shelf.Strings.Shaped
import Derived.Ground.GguProg
import Derived.Shelf.GgSortLib.LibTypes
import Derived.Shelf.Strings.BuilderCap
import Derived.Shelf.Slices.Reverse
import Derived.Shelf.Slices.Equal
import Derived.Ground.Names2Prog
import Derived.Shelf.Slices.Clone
import Derived.Shelf.Slices.SearchI
import Derived.Shelf.Slices.Cells
import Derived.Shelf.Slices.Empties
import Derived.Shelf.Slices.Empties2
import Derived.Ground.SlgnProg
import Derived.Shelf.SlicesE.Clone
import Derived.Test.YtdnjanhdnibkfaaGreatDoorProg
import Derived.Test.YtdnjanhdnibkfaaGreatDoorChecked
import Derived.WalkKit
import Derived.LaidEql
import Derived.Stop.Asserts
import Derived.RowKitTokens
import Derived.Test.YtdnjanhdnibkfaaGreatDoorA1
namespace Go.Proofs.YtdnjanhdnibkfaaGreatDoor.Jd
open Go.Proofs.Tryz
open Go.ChangeShapes
set_option linter.unusedVariables false
set_option linter.unusedSimpArgs false
theorem Bx {P : Program} {x y : String × DataW Unit} {l : List (String × DataW Unit)} {w : World} (h : laidMet P (x :: y :: l) w) : laidMet P (x :: l) w := by
  obtain ⟨ps, hv, hn, ha⟩ := h
  obtain ⟨n, d⟩ := x
  obtain ⟨n2, d2⟩ := y
  obtain ⟨g, t, cs, fuel, p, q, h1, h2, h3, h4, h5, rfl⟩ := hv
  obtain ⟨g2, t2, cs2, fuel2, p2, q2, k1, k2, k3, k4, k5, rfl⟩ := h5
  have hs := List.Sublist.append (List.Sublist.refl (MemPlace.row ⟨g, 0, none⟩ cs.size ++ p)) (List.sublist_append_right (MemPlace.row ⟨g2, 0, none⟩ cs2.size ++ p2) q2)
  exact ⟨_, ⟨g, t, cs, fuel, p, q2, h1, h2, h3, h4, k5, rfl⟩, hn.sublist hs, fun b off hm => ha b off (hs.subset hm)⟩
theorem En {P : Program} {W : World} {n : String} {g : Nat} {cs : Array Value} (hg : P.globalNamed n = some g) (h : W.var? P n = some cs) : ∃ T f, W.heap[g]? = some (.cells cs T f) := by
  unfold World.var? at h
  rw [hg] at h
  simp only [Option.bind_some] at h
  split at h
  · cases h; exact ⟨_, _, ‹_›⟩
  · cases h
theorem Az {P : Program} {n nm : String} {text : List UInt8} {r : List (String × DataW Unit)} {W : World} {g : Nat} {ti tp te ts : TypeId} {ms : Array (String × TypeId)} {f : Field}
    (h : laidMet P ((n, .iface nm (.ptr (.agg [.lit (.string text)]))) :: r) W)
    (hg : P.globalNamed n = some g) (ht : (P.globals[g]?).map (·.type) = some ti) (hi : P.underlying ti = some (.interface ms)) (hrow : ∀ u, P.typeName? 3 u = some nm → u = tp)
    (hp : P.underlying tp = some (.pointer te)) (he : P.underlying te = some (.struct #[f])) (hft : f.type = ts) (hfo : f.offset = 0) (hs : P.underlying ts = some .string) (hc : P.cellsOf te = 1) (hcs : P.cellsOf ts = 1) :
    ∃ a : Addr, (∃ T f, W.heap[g]? = some (.cells [Value.iface tp (.pointer (some a))].toArray T f)) ∧ ∃ c t, W.heap[a.block]? = some (.cells c t (0, 0)) := by
  obtain ⟨ps, ⟨g0, t0, cs0, f0, p0, q0, hg0, ht0, hv0, hd0, _, e0⟩, _, hrows⟩ := h
  obtain rfl := Option.some.inj (hg.symm.trans hg0)
  obtain rfl := Option.some.inj (ht.symm.trans ht0)
  subst e0
  obtain ⟨l0⟩ := cs0
  have ok0 : ∀ u v, l0 = [.iface u v] → Value.okWide P W .any 0 u v := fun u v e => by
    subst e
    exact (hrows g 0 (by simp [MemPlace.row])).2 u v (by simpa using World.var?_cell hg0 hv0 0)
  obtain ⟨a0, s0, rfl, hc0, hs0, hz0, rfl⟩ := errorString_of_trod hi hrow hp he hft hfo hs hc hcs hd0 ok0
  exact ⟨a0, En hg hv0, (hrows a0.block a0.off (by simp [MemPlace.row])).1⟩
theorem Bv {P : Program} {n0 n1 nm : String} {text0 text1 : List UInt8} {r : List (String × DataW Unit)} {W : World} {g0 g1 : Nat} {ti tp te ts : TypeId} {ms : Array (String × TypeId)} {f : Field} {a0 a1 : Addr}
    (h : laidMet P ((n0, .iface nm (.ptr (.agg [.lit (.string text0)]))) :: (n1, .iface nm (.ptr (.agg [.lit (.string text1)]))) :: r) W)
    (hg0 : P.globalNamed n0 = some g0) (ht0 : (P.globals[g0]?).map (·.type) = some ti) (hg1 : P.globalNamed n1 = some g1) (ht1 : (P.globals[g1]?).map (·.type) = some ti)
    (hi : P.underlying ti = some (.interface ms)) (hrow : ∀ u, P.typeName? 3 u = some nm → u = tp)
    (hp : P.underlying tp = some (.pointer te)) (he : P.underlying te = some (.struct #[f])) (hft : f.type = ts) (hfo : f.offset = 0) (hs : P.underlying ts = some .string) (hc : P.cellsOf te = 1) (hcs : P.cellsOf ts = 1)
    (v0 : ∃ T f, W.heap[g0]? = some (.cells [Value.iface tp (.pointer (some a0))].toArray T f)) (v1 : ∃ T f, W.heap[g1]? = some (.cells [Value.iface tp (.pointer (some a1))].toArray T f)) : a0 ≠ a1 := by
  obtain ⟨b0, b1, _, _, _, _, _, _, hv0, hv1, _, _, _, _, _, _, hne, _, _⟩ := laid_sentinels2 h hg0 ht0 hg1 ht1 hi hrow hp he hft hfo hs hc hcs
  obtain ⟨T0, f0, v0⟩ := v0
  obtain ⟨T1, f1, v1⟩ := v1
  obtain ⟨T0', f0', u0⟩ := En hg0 hv0
  obtain ⟨T1', f1', u1⟩ := En hg1 hv1
  rw [v0] at u0
  rw [v1] at u1
  simp at u0 u1
  rw [u0.1, u1.1]
  exact hne
end Go.Proofs.YtdnjanhdnibkfaaGreatDoor.Jd

namespace Go.Proofs.YtdnjanhdnibkfaaGreatDoor.Jd
open Go.Proofs.Tryz
open Go.RowKit (Below)
set_option linter.unusedVariables false
set_option linter.unusedSimpArgs false
def aI (k : IntKind) (xs : List Int) : List Value := xs.map (Value.int k)
theorem Gp {k : IntKind} {xs : List Int} : (aI k xs).length = xs.length := by simp [aI]
theorem wY {k : IntKind} {xs : List Int} {m : Nat} (h : m < xs.length) : (aI k xs)[m]? = some (.int k (xs.getD m default)) := by
  simp [aI, h, List.getD]
theorem yZ {k : IntKind} {v : Int} : ∀ {xs : List Int} {m : Nat}, Fw (aI k xs) m [.int k v] = aI k (xs.set m v)
  | [], m => by simp [aI, Fw]
  | x :: r, 0 => by cases r <;> simp [aI, Fw]
  | x :: r, m + 1 => by
    have := @yZ k v r m
    simp only [aI, List.map_cons, Fw, List.set_cons_succ] at this ⊢
    rw [this]
theorem tK : ∀ {l us : List Value}, us.length = l.length → Fw l 0 us = us
  | [], [], _ => by simp [Fw]
  | [], _ :: _, h => by simp at h
  | _ :: _, [], h => by simp at h
  | c :: r, u :: us, h => by
    simp only [Fw]
    rw [tK (by simpa using h)]
theorem zA : ∀ {l : List Value} {n : Nat}, l.length = n → yK l 0 n = some l := by
  have hs : ∀ (l : List Value) (c : Value) (k n : Nat), yK (c :: l) (k + 1) n = yK l k n := by
    intro l c k n
    induction n generalizing k with
    | zero => rfl
    | succ n ih => simp only [yK, J4]; rw [ih]
  intro l
  induction l with
  | nil => intro n h; subst h; rfl
  | cons c r ih =>
    intro n h
    subst h
    simp only [List.length_cons, yK, J4]
    rw [hs, ih rfl]
theorem dN {k : IntKind} : ∀ {xs : List Int}, Nl (aI k xs) = true
  | [] => rfl
  | x :: r => by
    have := @dN k r
    simp only [aI, List.map_cons, Nl] at this ⊢
    rw [this]; rfl
section
variable {P : Program} {rd : Option Nat} {b0 : World} {Mk : List Nat} {N : Nat} {D : List Deferred} {ops : Array Oper} {L V : Av} {E : Fd} {T : Act → World → Prop}
variable {op : Op} {ty : TypeId} {pos : String} {after : Array Edge} {d : Nat}
theorem Ra {e t : TypeId} {len n : Nat} {x y : Operand} {k : IntKind} {p : Int} {r o : Nat} (m j : Nat) (hU : ∀ w, (underlying t).run P w = .ok (.array len e) w) (hS : ∀ w, (sizeOf e).run P w = .ok n w) (hx : ev E x = some (.pointer (some ⟨r, o, none⟩)) := by rfl) (hy : ev E y = some (.int k p) := by rfl) (hi : p = (m : Int) := by first | rfl | omega) (hj : j = o + m * n := by omega) (hm : m < len := by omega) :
    Db P N D b0 Mk L E (.indexAddr t x y) ty (.pointer (some ⟨r, j, none⟩)) := by
  subst hj
  exact Fi hU hS hx hy hi hm
theorem Ss {t : TypeId} {x : Operand} {r m : Nat} {k : IntKind} {xs : List Int} {T : TypeId} {f : Nat × Nat} (hA : ∀ w, (isAgg t).run P w = .ok false w) (hm : m < xs.length) (hx : ev E x = some (.pointer (some ⟨r, m, none⟩)) := by rfl)
    (hL : (r, Obj.cells (aI k xs).toArray T f) ∈ L := by repeat (first | exact List.mem_cons_self | apply List.mem_cons_of_mem | apply List.mem_append_right)) :
    Db P N D b0 Mk L E (.load t x) ty (.int k (xs.getD m default)) := Bm hA hx hL (by rw [Qv, wY hm])
theorem R4 {t : TypeId} {x : Operand} {r m : Nat} {k : IntKind} {xs : List Int} {T : TypeId} {f : Nat × Nat} (hA : ∀ w, (isAgg t).run P w = .ok false w) (hm : m < xs.length) (hb : b0.heap[r]? = some (Obj.cells (aI k xs).toArray T f)) (hx : ev E x = some (.pointer (some ⟨r, m, none⟩)) := by rfl) (hM : r ∉ Mk := by simp) :
    Db P N D b0 Mk L E (.load t x) ty (.int k (xs.getD m default)) := Em hA hb hx hM (by rw [Qv, wY hm])
theorem R5 {t : TypeId} {x : Operand} {r n : Nat} {k : IntKind} {xs : List Int} {T : TypeId} {f : Nat × Nat} (hA : ∀ w, (isAgg t).run P w = .ok true w) (hS : ∀ w, (sizeOf t).run P w = .ok n w) (hn : xs.length = n) (hx : ev E x = some (.pointer (some ⟨r, 0, none⟩)) := by rfl)
    (hL : (r, Obj.cells (aI k xs).toArray T f) ∈ L := by repeat (first | exact List.mem_cons_self | apply List.mem_cons_of_mem | apply List.mem_append_right)) :
    Db P N D b0 Mk L E (.load t x) ty (.agg (aI k xs).toArray) := Ch hA hS hx hL (zA (by rw [Gp, hn]))
theorem tL {t : TypeId} {x y : Operand} {r m : Nat} {k : IntKind} {v : Int} {xs : List Int} {T : TypeId} {L' : Av} (hS : ∀ w, (sizeOf t).run P w = .ok 1 w) (hm : m < xs.length) (hx : ev E x = some (.pointer (some ⟨r, m, none⟩)) := by rfl) (hy : ev E y = some (.int k v) := by rfl)
    (hR : Oe r (.cells (aI k xs).toArray T) (.cells (aI k (xs.set m v)).toArray T) L L' := by repeat (first | exact Oe.head | apply Oe.tail | apply Oe.app)) :
    wM P N D b0 Mk L E (.store t x y) ty L' .skip := Bn (l := aI k xs) (l' := aI k (xs.set m v)) hS hx hy hR yZ rfl rfl (by simp [Gp, Dh]; omega)
theorem E8 {t : TypeId} {x y : Operand} {r n : Nat} {k k' : IntKind} {xs ys : List Int} {T : TypeId} {L' : Av} (hS : ∀ w, (sizeOf t).run P w = .ok n w) (hn : ys.length = n) (hn' : xs.length = n) (hx : ev E x = some (.pointer (some ⟨r, 0, none⟩)) := by rfl) (hy : ev E y = some (.agg (aI k ys).toArray) := by rfl)
    (hR : Oe r (.cells (aI k' xs).toArray T) (.cells (aI k ys).toArray T) L L' := by repeat (first | exact Oe.head | apply Oe.tail | apply Oe.app)) :
    wM P N D b0 Mk L E (.store t x y) ty L' .skip := Bn (l := aI k' xs) (l' := aI k ys) hS hx hy hR (by simp only [Dh]; exact tK (by simp [Gp, hn, hn'])) (by simp [Dh, Gp, hn]) (by simp only [Dh]; exact dN) (by simp [Dh, Gp, hn, hn'])
theorem AL1 {e t : TypeId} {len : Nat} {x y : Operand} {k k' : IntKind} {p : Int} {xs : List Int} {m : Nat} (hU : ∀ w, (underlying t).run P w = .ok (.array len e) w) (hS : ∀ w, (sizeOf e).run P w = .ok 1 w) (hA : ∀ w, (isAgg e).run P w = .ok false w) (hx : ev E x = some (.agg (aI k xs).toArray) := by rfl) (hy : ev E y = some (.int k' p) := by rfl) (hi : p = (m : Int) := by first | rfl | omega) (hm : m < len := by omega) (hl : xs.length = len := by omega) :
    Db P N D b0 Mk L E (.index t x y) ty (.int k (xs.getD m default)) := fun a w ha _ => by
  subst hi
  have hg := wY (k := k) (xs := xs) (m := m) z3
  simp [Fl, execOp, ha.eval hx, ha.eval hy, Instr.index, asIntOf, hU, hS, hm, part, hA, hg]
theorem wZ {t e : TypeId} {len n : Nat} {x y : Operand} {k : IntKind} {p : Int} {r o : Nat} (l j c : Nat) (hU : ∀ w, (underlying t).run P w = .ok (.array len e) w) (hS : ∀ w, (sizeOf e).run P w = .ok n w) (hl : l < len) (hj : j = o + l * n) (hc : c = len - l) (hi : p = (l : Int)) (hx : ev E x = some (.pointer (some ⟨r, o, none⟩)) := by rfl) (hy : ev E y = some (.int k p) := by rfl) :
    Db P N D b0 Mk L E (.slice t x (some y) none none) ty (.slice (some ⟨r, j, none⟩) c c) := fun a w ha _ => by
  subst hi hj hc
  have h2 : ¬ len = l := by omega
  simp [Fl, execOp, ha.eval hx, ha.eval hy, Instr.sliceAt, Instr.sliceBounds, Instr.sliceBound, asIntOf, hU, hS, Instr.sureAddr, h2, Bc]
  intro h; omega
theorem xA {t e : TypeId} {len n : Nat} {x y : Operand} {k : IntKind} {p : Int} {r o : Nat} (h : Nat) (hU : ∀ w, (underlying t).run P w = .ok (.array len e) w) (hS : ∀ w, (sizeOf e).run P w = .ok n w) (hh : h ≤ len) (h0 : 0 < len) (hi : p = (h : Int)) (hx : ev E x = some (.pointer (some ⟨r, o, none⟩)) := by rfl) (hy : ev E y = some (.int k p) := by rfl) :
    Db P N D b0 Mk L E (.slice t x none (some y) none) ty (.slice (some ⟨r, o, none⟩) h len) := fun a w ha _ => by
  subst hi
  have h2 : ¬ len = 0 := by omega
  simp [Fl, execOp, ha.eval hx, ha.eval hy, Instr.sliceAt, Instr.sliceBounds, Instr.sliceBound, asIntOf, hU, hS, Instr.sureAddr, h2, Bc]
  intro h; omega
theorem eO {t e : TypeId} {len n : Nat} {x : Operand} {r o : Nat} (hU : ∀ w, (underlying t).run P w = .ok (.array len e) w) (hS : ∀ w, (sizeOf e).run P w = .ok n w) (h0 : 0 < len) (hx : ev E x = some (.pointer (some ⟨r, o, none⟩)) := by rfl) :
    Db P N D b0 Mk L E (.slice t x none none none) ty (.slice (some ⟨r, o, none⟩) len len) := fun a w ha _ => by
  have h2 : ¬ len = 0 := by omega
  simp [Fl, execOp, ha.eval hx, Instr.sliceAt, Instr.sliceBounds, hU, hS, Instr.sureAddr, Bc]
theorem AY9 {t : TypeId} {x : Operand} {k : IntKind} {p : Int} (hx : ev E x = some (.int k p) := by rfl) (hk : k.signed = false := by rfl) : Db P N D b0 Mk L E (.unOp .xor t x) ty (.int k (Gk k k.max p)) := fun a w ha _ => by
  simp [Fl, execOp, ha.eval hx, Op.unary, Op.intBits, hk, Gk]
theorem AZ0 {t : TypeId} {x : Operand} {k : IntKind} {p : Int} (hx : ev E x = some (.int k p) := by rfl) : Db P N D b0 Mk L E (.unOp .neg t x) ty (.int k (k.wrap (0 - p))) := fun a w ha _ => by
  simp [Fl, execOp, ha.eval hx, Op.unary, Op.intArith]
def pW (P : Program) (t : TypeId) (pl : List (Nat × Nat)) : Prop :=
  ∃ len e n, (∀ w, (underlying t).run P w = .ok (.array len e) w) ∧ (∀ w, (sizeOf e).run P w = .ok n w) ∧ ∀ (i : Nat) (q : Nat × Nat), pl[i]? = some q → q = (i * n, n)
theorem jP {t : TypeId} {z : Value} {pl : List (Nat × Nat)} {parts : List (Nat × Operand)} {ps : List (Nat × List Value)} {cs : List Value} (hz : ∀ w, (zeroValue t).run P w = .ok z w) (hp : pW P t pl) (hv : evp E parts = some ps := by rfl)
    (hf : jE pl (Dh z) ps = some cs := by rfl) : Db P N D b0 Mk L E (.build t parts.toArray) ty (.agg cs.toArray) := fun a w ha _ => by
  obtain ⟨len, e, n, hU, hS, hq⟩ := hp
  have h1 := ha.evalp hv
  subst h1
  have := Sp pl (fun i => some (i * n, n)) (fun i q h => by rw [hq i q h]) (parts.map fun p => (p.1, a.eval p.2)) (Dh z) cs (by rw [List.map_map]; exact hf)
  simp only [Fl, execOp, Instr.build, Sem.run_bind, hz, hU, hS, Result.andThen_ok]
  have e : (Array.map (fun x => match x with | (i, x) => (i, a.eval x)) parts.toArray).toList = parts.map fun p => (p.1, a.eval p.2) := by simp
  simp only [Result.andThen_ok, Gn, e, this, Sem.run_pure]
def Lg (s : An) : List Int := s.map fun b => (b.toNat : Int)
theorem Cw {s : An} : (Lg s).length = s.length := by simp [Lg]
theorem pX : ∀ (xs : List Int), Ex eN xs = aI .u8 xs
  | [] => rfl
  | x :: r => by
    have := pX r
    simp only [Ex, aI, List.map_cons, List.flatten_cons] at this ⊢
    rw [this]; rfl
theorem AL2 {t e s' : TypeId} {u : TypeDesc} {x : Operand} {s : An} (hs : P.underlying s' = some u) (hU : P.underlying t = some (.slice e)) (hE : P.underlying e = some (.int .u8)) (hx : ev E x = some (.string (bs s)) := by rfl) :
    Vi P N D b0 Mk L E (.convert s' t x) ty [] (Option Addr × Nat × Av) (fun q => .value (.slice q.1 (Lg s).length q.2.1)) (fun q => q.2.2) (fun q => Bt eN 1 e q.1 q.2.1 q.2.2 (Lg s)) := fun a w ha hw => by
  have hr := Lib.run_convert_string_bytes (P := P) w s' t e (bs s) hs hU hE
  have hb : (bs s).size = s.length := Im s
  have hge : s.length ≤ grownCap w s.length 0 e := by simpa using grownCap_ge w s.length 0 e
  have hbd : (bs s).data.toList = s := by simp [bs]
  have hcl : (Lib.bytesCells w e (bs s)).toList = aI .u8 (Lg s) ++ List.replicate (grownCap w s.length 0 e - s.length) (.int .u8 0) := by
    simp [Lib.bytesCells, hb, aI, Lg, hbd, List.map_map]
  have hsz : (Lib.bytesCells w e (bs s)).size = grownCap w s.length 0 e := by
    rw [← Array.length_toList, hcl]; simp [Gp, Cw]; omega
  refine ⟨(some ⟨w.heap.size, 0, none⟩, grownCap w s.length 0 e, [(w.heap.size, .cells (Lib.bytesCells w e (bs s)) e ((Lib.bytesCells w e (bs s)).size, (Lib.bytesCells w e (bs s)).size + 1))]), Lib.bytesWorld w e (bs s), ?_, ?_, ?_⟩
  · simp [Fl, execOp, ha.eval hx, hr, hb, Cw]
  · refine ⟨rfl, rfl, rfl, ?_, fun k hk _ => Lib.bytesWorld_at_old w e _ k hk, fun p hp => ?_, fun p hp => .inr ?_, by simp [keys]⟩
    · rw [Lib.bytesWorld_size]; omega
    · have : p = (w.heap.size, .cells (Lib.bytesCells w e (bs s)) e ((Lib.bytesCells w e (bs s)).size, (Lib.bytesCells w e (bs s)).size + 1)) := by simpa using hp
      subst this
      exact Lib.bytesWorld_at_new w e _
    · have : p = (w.heap.size, .cells (Lib.bytesCells w e (bs s)) e ((Lib.bytesCells w e (bs s)).size, (Lib.bytesCells w e (bs s)).size + 1)) := by simpa using hp
      subst this
      exact Nat.le_refl _
  · refine Bt.fullF (.inr (Nat.le_refl _)) (by simpa [Cw] using hge) (by simp [hsz]) ?_
    rw [hcl, pX, Nat.mul_one, ← Gp (k := .u8)]
    exact List.take_left' rfl
theorem tM {t e s' : TypeId} {u : TypeDesc} {x : Operand} {s : An} {l : List Oper} (hs : P.underlying s' = some u) (hU : P.underlying t = some (.slice e)) (hE : P.underlying e = some (.int .u8)) (hx : ev E x = some (.string (bs s)) := by rfl) (hd : Nat.blt d N = true := by rfl)
    (k : ∀ a2 c2 B2, Bt eN 1 e a2 c2 B2 (Lg s) → JL P rd b0 Mk N D ops (B2 ++ L) ((d, .slice a2 (Lg s).length c2) :: E) l T) :
    JL P rd b0 Mk N D ops L E ({ dst := some d, op := .convert s' t x, type := ty, pos := pos, after := after, guard := none } :: l) T :=
  wS (List.Perm.refl _) (AL2 hs hU hE hx) rfl hd (fun q hq => k q.1 q.2.1 q.2.2 hq)
def Pn (xs : List Int) : An := xs.map fun x => UInt8.ofNat x.toNat
theorem Di {xs : List Int} : (Pn xs).length = xs.length := by simp [Pn]
theorem jQ : ∀ (xs : List Int) (r : ByteArray), xs.foldl (fun r n => r.push (UInt8.ofNat n.toNat)) r = r ++ bs (Pn xs)
  | [], r => by simp [Pn, bs, ByteArray.ext_iff]
  | x :: xs, r => by
    rw [List.foldl_cons, jQ xs]
    simp [Pn, bs, ByteArray.ext_iff, ByteArray.push]
theorem jR {t e s' : TypeId} {x : Operand} {a : Option Addr} {n c : Nat} {xs : List Int} (hs : P.underlying s' = some .string) (hU : P.underlying t = some (.slice e)) (hE : P.underlying e = some (.int .u8)) (hJ : Cl b0 Mk L eN 1 a xs) (hx : ev E x = some (.slice a n c) := by rfl) (hn : xs.length = n := by rfl) :
    Db P N D b0 Mk L E (.convert t s' x) ty (.string (bs (Pn xs))) := fun ac w ha hw => by
  subst hn
  have hr : ∀ v, (Conv.bytesToString (.slice a xs.length c)).run P w = .ok v w → (execOp ac.eval (Fl (.convert t s' x) ty)).run P w = .ok (.value v) w := fun v hv => by
    simp [Fl, execOp, ha.eval hx, run_convert_bytes_string w t s' e a xs.length c hU hE hs, hv]
  apply hr
  rcases a with _ | ad
  · have : xs = [] := Sl.none (hJ w hw)
    subst this
    simp [Conv.bytesToString, Pn, bs]
    rfl
  · have hl : (loadCells ad xs.length).run P w = .ok (xs.map (Value.int .u8)).toArray w := by
      have h1 := Sl.cells Bz (hJ w hw) xs.length (Nat.le_refl _)
      rw [List.take_length, pX] at h1
      have := run_loadCells_list (P := P) w ad (aI .u8 xs) h1
      rw [Gp] at this
      exact this
    rw [run_bytesToString w ad xs.length c xs hl, jQ]
    simp
theorem AL3 {t e : TypeId} {x y : Operand} {r r' o o' n n' c c' m : Nat} {l l' us src : List Value} {T T' : TypeId} {f' : Nat × Nat} (hU : ∀ w, (underlying t).run P w = .ok (.slice e) w) (hS : ∀ w, (sizeOf e).run P w = .ok 1 w) (hx : ev E x = some (.slice (some ⟨r, o, none⟩) n c)) (hy : ev E y = some (.slice (some ⟨r', o', none⟩) n' c'))
    (hL : (r, Obj.cells l.toArray T) ∈ L) (hm : (r', Obj.cells src.toArray T' f') ∈ L) (hn : Nat.min n' n = m) (hseg : yK src o' m = some us) (hl : Fw l o us = l') (ho : Nl us = true) (hk : Nat.ble (o + us.length) l.length = true) :
    Vi P N D b0 Mk L E (.call { callee := .builtin .copy, args := #[x, y], argTypes := #[t, t] }) ty [(r, .cells l.toArray T)] Unit (fun _ => .value (.int .i64 m)) (fun _ => [(r, .cells l'.toArray T)]) (fun _ => True) := fun a w ha hw => by
  obtain ⟨h1, h2⟩ := Vf src m o' us hseg
  have hld : (loadCells ⟨r', o', none⟩ m).run P w = .ok us.toArray w := by
    rw [← h1]
    exact run_loadCells_list w ⟨r', o', none⟩ us fun j v hj => by
      rw [Bc]
      exact hw.cell hm (h2 j v hj)
  have hw0 : w.heap[r]? = some (.cells l.toArray T (0, 0)) := hw.own _ hL
  obtain ⟨w', g1, g2, g3, g4, g5, g6, g7⟩ := Pl (P := P) (r := r) (k := o) (T := T) us l 0 w hw0 ho (by simpa using hk)
  subst hl
  refine ⟨(), w', ?_, ⟨g5, g6, g7, by omega, fun j _ hj => g3 j (fun e => hj (by subst e; simp [keys])), fun p hp => ?_, fun p hp => .inl ?_, by simp [keys]⟩, trivial⟩
  · simp [Fl, execOp, resolve, invoke, builtin, ha.eval hx, ha.eval hy, Builtin.copy_, hU, hS, Builtin.lenOf, hn, Builtin.firstCells, hld, g1, goInt]
  · have : p = (r, .cells (Fw l (o + 0) us).toArray T) := by simpa using hp
    subst this
    simpa using g2
  · have : p = (r, .cells (Fw l (o + 0) us).toArray T) := by simpa using hp
    subst this
    simp [keys]
theorem R6 {t e : TypeId} {x y : Operand} {r r' o o' n n' c c' m : Nat} {l l' us src : List Value} {T' T2 : TypeId} {f' : Nat × Nat} {R : Av} {lo : List (Bool × Oper)} (hU : ∀ w, (underlying t).run P w = .ok (.slice e) w) (hS : ∀ w, (sizeOf e).run P w = .ok 1 w)
    (hV : List.Perm V ((r, Obj.cells l.toArray T2) :: R)) (hm : (r', Obj.cells src.toArray T' f') ∈ V) (hx : ev E x = some (.slice (some ⟨r, o, none⟩) n c) := by rfl) (hy : ev E y = some (.slice (some ⟨r', o', none⟩) n' c') := by rfl) (hn : Nat.min n' n = m := by rfl) (hseg : yK src o' m = some us := by rfl) (hl : Fw l o us = l' := by rfl) (ho : Nl us = true := by rfl) (hk : Nat.ble (o + us.length) l.length = true := by rfl) (hd : Nat.blt d N = true := by rfl)
    (k : JD P rd b0 Mk N D ops L ((r, Obj.cells l'.toArray T2) :: R) ((d, .int .i64 m) :: E) lo T) :
    JD P rd b0 Mk N D ops L V E ((false, { dst := some d, op := .call { callee := .builtin .copy, args := #[x, y], argTypes := #[t, t] }, type := ty, pos := pos, after := after, guard := none }) :: lo) T :=
  AK2 (H := [(r, Obj.cells l.toArray T2)]) hV (AL3 hU hS hx hy (List.mem_append_left _ (hV.mem_iff.2 List.mem_cons_self)) (List.mem_append_left _ hm) hn hseg hl ho hk) rfl hd (fun _ _ => k)
theorem tN : ∀ (us l : List Value), us.length ≤ l.length → Fw l 0 us = us ++ l.drop us.length
  | [], l, _ => by cases l <;> simp [Fw]
  | u :: us, [], h => by simp at h
  | u :: us, c :: r, h => by
    simp only [Fw]
    rw [tN us r (by simpa using h)]
    simp
theorem AL4 {t e s' : TypeId} {x y : Operand} {r n c : Nat} {s : An} {xs : List Int} {T : TypeId} (hU : ∀ w, (underlying t).run P w = .ok (.slice e) w) (hS : ∀ w, (sizeOf e).run P w = .ok 1 w) (hx : ev E x = some (.slice (some ⟨r, 0, none⟩) n c)) (hy : ev E y = some (.string (bs s)))
    (hL : (r, Obj.cells (aI .u8 xs).toArray T) ∈ L) (hn : xs.length = n) :
    Vi P N D b0 Mk L E (.call { callee := .builtin .copy, args := #[x, y], argTypes := #[t, s'] }) ty [(r, .cells (aI .u8 xs).toArray T)] Unit (fun _ => .value (.int .i64 (min s.length n : Nat))) (fun _ => [(r, .cells (aI .u8 (Lg (s.take n) ++ xs.drop s.length)).toArray T)]) (fun _ => True) := fun a w ha hw => by
  subst hn
  have hw0 : w.heap[r]? = some (.cells (aI .u8 xs).toArray T (0, 0)) := hw.own _ hL
  have hbs : (bs s).size = s.length := Im s
  have hmin : Nat.min s.length xs.length = min s.length xs.length := rfl
  have hc : (Builtin.firstCells 1 (min s.length xs.length) (.string (bs s))).run P w = .ok (aI .u8 (Lg (s.take xs.length))).toArray w := by
    have hd : ((bs s).extract 0 (min s.length xs.length)).data.toList = s.take xs.length := by
      simp [bs]
      omega
    have : (((bs s).extract 0 (min s.length xs.length)).data.map fun b => Value.int .u8 b.toNat) = (aI .u8 (Lg (s.take xs.length))).toArray := by
      apply Array.ext'
      rw [Array.toList_map, hd]
      simp [aI, Lg, List.map_map]
      rfl
    simp only [Builtin.firstCells]
    rw [this]
    simp
  obtain ⟨w', g1, g2, g3, g4, g5, g6, g7⟩ := Pl (P := P) (r := r) (k := 0) (T := T) (aI .u8 (Lg (s.take xs.length))) (aI .u8 xs) 0 w hw0 dN (by simp [Gp, Cw]; omega)
  have hset : Fw (aI .u8 xs) (0 + 0) (aI .u8 (Lg (s.take xs.length))) = aI .u8 (Lg (s.take xs.length) ++ xs.drop s.length) := by
    rw [Nat.zero_add, tN _ _ (by simp [Gp, Cw]; omega)]
    have hl : (aI .u8 (Lg (s.take xs.length))).length = min xs.length s.length := by rw [Gp, Cw, List.length_take]
    rw [hl]
    simp only [aI, List.map_append, List.map_drop]
    congr 1
    rcases Nat.le_total xs.length s.length with h | h
    · rw [Nat.min_eq_left h, List.drop_of_length_le Ij, List.drop_of_length_le (by simpa using h)]
    · rw [Nat.min_eq_right h]
  rw [hset] at g2
  refine ⟨(), w', ?_, ⟨g5, g6, g7, by omega, fun j _ hj => g3 j (fun e => hj (by subst e; simp [keys])), fun p hp => ?_, fun p hp => .inl ?_, by simp [keys]⟩, trivial⟩
  · simp [Fl, execOp, resolve, invoke, builtin, ha.eval hx, ha.eval hy, Builtin.copy_, hU, hS, Builtin.lenOf, hbs, hmin, hc, g1, goInt]
  · have : p = (r, .cells (aI .u8 (Lg (s.take xs.length) ++ xs.drop s.length)).toArray T) := by simpa using hp
    subst this
    exact g2
  · have : p = (r, .cells (aI .u8 (Lg (s.take xs.length) ++ xs.drop s.length)).toArray T) := by simpa using hp
    subst this
    simp [keys]
theorem R7 {t e s' : TypeId} {x y : Operand} {r n c : Nat} {s : An} {xs : List Int} {T2 : TypeId} {R : Av} {lo : List Oper} (hU : ∀ w, (underlying t).run P w = .ok (.slice e) w) (hS : ∀ w, (sizeOf e).run P w = .ok 1 w) (hL : List.Perm L ((r, Obj.cells (aI .u8 xs).toArray T2) :: R)) (hn : xs.length = n)
    (hx : ev E x = some (.slice (some ⟨r, 0, none⟩) n c) := by rfl) (hy : ev E y = some (.string (bs s)) := by rfl)
    (k : JL P rd b0 Mk N D ops ((r, Obj.cells (aI .u8 (Lg (s.take n) ++ xs.drop s.length)).toArray T2) :: R) ((d, .int .i64 (min s.length n : Nat)) :: E) lo T) (hd : Nat.blt d N = true := by rfl) :
    JL P rd b0 Mk N D ops L E ({ dst := some d, op := .call { callee := .builtin .copy, args := #[x, y], argTypes := #[t, s'] }, type := ty, pos := pos, after := after, guard := none } :: lo) T :=
  wS (H := [(r, Obj.cells (aI .u8 xs).toArray T2)]) hL (AL4 hU hS hx hy (hL.mem_iff.2 List.mem_cons_self) hn) rfl hd (fun _ _ => k)
theorem xB {v : Value} {l : List Oper} {n f : Nat} {listed : Array Bool} {i : Nat} (hi : l[i]? = some { dst := some d, op := op, type := ty, pos := pos, after := after, guard := none }) (h : Db P N D b0 Mk L E op ty v) (hn : Bp op = true := by rfl) (hd : Nat.blt d N = true := by rfl)
    (k : JG P rd b0 Mk N D l n f (listed.setIfInBounds i true) L V ((d, v) :: E) T) : JO P rd b0 Mk N D l n f listed L V E T i :=
  BN5 (X := Unit) (v := fun _ => v) (B := fun _ => []) hi (fun a w ha hw => ⟨(), w, h a w ha hw, Ej.of_ext (Below.refl _ _)⟩) hn hd fun _ => k
end
end Go.Proofs.YtdnjanhdnibkfaaGreatDoor.Jd

namespace Go.Proofs.YtdnjanhdnibkfaaGreatDoor.Jd
open Go.Proofs.Tryz
open Go.RowKit (Below)
set_option linter.unusedVariables false
set_option linter.unusedSimpArgs false
def Po {κ : Type} (enc : κ → Value) (es : Array MapEntry) (xs : List κ) : Prop := Ja enc es (xs.map fun q => (q, Value.bool true))
theorem Po.nil {κ : Type} {enc : κ → Value} : Po enc #[] [] := rfl
theorem mV {κ : Type} [DecidableEq κ] (q : κ) : ∀ (xs : List κ), (Lp (xs.map fun q => (q, Value.bool true)) q).getD (.bool false) = .bool (decide (q ∈ xs))
  | [] => by simp [Lp]
  | x :: r => by
    have ih := mV q r
    by_cases h : x = q
    · subst h; simp [Lp]
    · have h' : ¬ q = x := fun e => h e.symm
      simp only [Lp, List.map_cons, List.find?_cons, h, decide_false] at ih ⊢
      rw [ih]
      simp [h']
theorem R8 : Pm (κ := An) .string (fun s => .string (bs s)) := by
  refine ⟨fun x y => ?_, fun n t x P w h => ?_⟩
  · simp only [Instr.sameNow]
    rw [beq_toListBytes, Ov, Ov]
    by_cases hh : x = y <;> simp [hh]
  · show (do match ← underlying t, Value.string (bs x) with | _, _ => _ : Sem Unit).run P w = _
    simp only [Sem.run_bind, h, Result.andThen_ok, Sem.run_pure]
theorem AL5 (a b : Int) : 0 ≤ Gk .u8 a b ∧ Gk .u8 a b ≤ 255 := by
  unfold Gk
  simp only [IntKind.wrap, IntKind.bits, IntKind.signed]
  simp
  omega
theorem tO (a b : Int) : -9223372036854775808 ≤ Gk .u8 a b ∧ Gk .u8 a b ≤ 9223372036854775807 := by
  have := AL5 a b
  omega
section
variable {P : Program} {rd : Option Nat} {b0 : World} {Mk : List Nat} {N : Nat} {D : List Deferred} {ops : Array Oper} {L V : Av} {E : Fd} {T : Act → World → Prop}
variable {op : Op} {ty : TypeId} {pos : String} {after : Array Edge} {d : Nat}
theorem bF {κ : Type} [DecidableEq κ] {kd : TypeDesc} {enc : κ → Value} {t kt et : TypeId} {x y : Operand} {r ck : Nat} {es : Array MapEntry} {xs : List κ} (q : κ) (hk : Pm kd enc) (hU : ∀ w, (underlying t).run P w = .ok (.map kt et) w) (hK : ∀ w, (underlying kt).run P w = .ok kd w)
    (hz : ∀ w, (zeroValue et).run P w = .ok (.bool false) w) (hes : Po enc es xs) (hx : ev E x = some (.map (some r)) := by rfl) (hy : ev E y = some (enc q) := by rfl)
    (hm : (r, Obj.map es ck) ∈ L := by repeat (first | exact List.mem_cons_self | apply List.mem_cons_of_mem | apply List.mem_append_right)) :
    Db P N D b0 Mk L E (.lookup t x y false) ty (.bool (decide (q ∈ xs))) := by
  have := Q0 (P := P) (N := N) (D := D) (b0 := b0) (Mk := Mk) (L := L) (E := E) (ty := ty) (t := t) q hk hU hK hz hes hx hy hm
  rw [mV] at this
  exact this
theorem Mm {l : List Oper} (h : JL P rd b0 Mk N D ops L E l T) : JD P rd b0 Mk N D ops L [] E [] (fun a w => Pz P rd ops T l a w) := Sm h
theorem BI9 {l : List (Bool × Oper)} {H R : Av} {X : Type} {H' : X → Av} {Pr : X → Prop} (hV : List.Perm V (H ++ R)) (h : Vi P N D b0 Mk (V ++ L) E op ty H X (fun _ => .skip) H' Pr) (hn : Bp op = true := by rfl)
    (k : ∀ x, Pr x → JD P rd b0 Mk N D ops L (H' x ++ R) E l T) : JD P rd b0 Mk N D ops L V E ((false, { dst := none, op := op, type := ty, pos := pos, after := after, guard := none }) :: l) T := by
  intro a w ha hw
  unfold Ve
  rw [if_pos (by rfl)]
  obtain ⟨x, w', h1, h2, h3⟩ := h a w ha hw
  have hw2 : SH b0 Mk (H ++ (R ++ L)) w := by rw [← List.append_assoc]; exact hw.perm (hV.append_right L)
  have hw3 : SH b0 Mk ((H' x ++ R) ++ L) w' := by rw [List.append_assoc]; exact hw2.tr h2
  exact Lv (Bs hn) J7 ⟨SH b0 Mk L, fun _ h => h, hw3.right, k x h3 _ _ ha hw3⟩
theorem gV {κ : Type} [DecidableEq κ] {kd : TypeDesc} {enc : κ → Value} {t kt et : TypeId} {x y u : Operand} {r ck : Nat} {es : Array MapEntry} {xs : List κ} {R : Av} {l : List Oper} (q : κ) (hk : Pm kd enc) (hU : ∀ w, (underlying t).run P w = .ok (.map kt et) w) (hK : ∀ w, (underlying kt).run P w = .ok kd w)
    (hes : Po enc es xs) (hnew : ¬ q ∈ xs) (hL : List.Perm L ((r, Obj.map es ck) :: R)) (hx : ev E x = some (.map (some r)) := by rfl) (hy : ev E y = some (enc q) := by rfl) (hu : ev E u = some (.bool true) := by rfl)
    (k : ∀ es2 ck2, Po enc es2 (xs ++ [q]) → JL P rd b0 Mk N D ops ((r, Obj.map es2 ck2) :: R) E l T) :
    JL P rd b0 Mk N D ops L E ({ dst := none, op := .mapUpdate t x y u, type := ty, pos := pos, after := after, guard := none } :: l) T :=
  AY1 q hk hU hK hes (by simp only [List.mem_map]; rintro p ⟨z, hz, rfl⟩ e; exact hnew (e ▸ hz)) hL hx hy hu (fun es2 ck2 h => k es2 ck2 (by simpa [Po] using h))
theorem AL6 {κ : Type} [DecidableEq κ] {kd : TypeDesc} {enc : κ → Value} {t kt et : TypeId} {x y u : Operand} {r ck : Nat} {es : Array MapEntry} {xs : List κ} {R : Av} {l : List (Bool × Oper)} (q : κ) (hk : Pm kd enc) (hU : ∀ w, (underlying t).run P w = .ok (.map kt et) w) (hK : ∀ w, (underlying kt).run P w = .ok kd w)
    (hes : Po enc es xs) (hnew : ¬ q ∈ xs) (hV : List.Perm V ((r, Obj.map es ck) :: R)) (hx : ev E x = some (.map (some r)) := by rfl) (hy : ev E y = some (enc q) := by rfl) (hu : ev E u = some (.bool true) := by rfl)
    (k : ∀ es2 ck2, Po enc es2 (xs ++ [q]) → JD P rd b0 Mk N D ops L ((r, Obj.map es2 ck2) :: R) E l T) :
    JD P rd b0 Mk N D ops L V E ((false, { dst := none, op := .mapUpdate t x y u, type := ty, pos := pos, after := after, guard := none }) :: l) T :=
  BI9 (H := [(r, Obj.map es ck)]) hV (Q1 q hk hU hK hes (by simp only [List.mem_map]; rintro p ⟨z, hz, rfl⟩ e; exact hnew (e ▸ hz)) hx hy hu (List.mem_append_left _ (hV.mem_iff.2 List.mem_cons_self))) rfl (fun x hq => k x.1 x.2 (by simpa [Po] using hq))
theorem mW {t : TypeId} {x : Operand} {v : Value} {u : TypeDesc} (hU : P.underlying t = some u) (hx : ev E x = some v := by rfl) (hu : ∀ ms, u ≠ .interface ms := by intro ms h; cases h) : Db P N D b0 Mk L E (.makeInterface t x) ty (.iface t v) := fun a w ha _ => by
  cases u with
  | interface ms => exact absurd rfl (hu ms)
  | _ => simp [Fl, execOp, ha.eval hx, Instr.makeInterface, run_underlying hU]
end
end Go.Proofs.YtdnjanhdnibkfaaGreatDoor.Jd

namespace Go.Proofs.YtdnjanhdnibkfaaGreatDoor.Jd
open Go.Proofs.Tryz
open Go.ChangeShapes Go.WideShapes Go.ChangeAt Go.RowKit
set_option linter.unusedVariables false
set_option linter.unusedSimpArgs false
theorem Jk {P : Program} (w0 : World) {laid : List (String × DataW Unit)} (args : Array Value)
    (hf : w0.layFits P laid [] = true) (hi : w0.layIfaces P laid (w0.layVars P laid) = true) :
    laidMet P laid ((w0.layVars P laid).forCall (fun _ _ => 0) ⟨#[], args, []⟩).memory := by
  have e1 : (laid.filter fun x => (laid.map (·.1)).contains x.1) = laid := List.filter_eq_self.2 fun x hx => List.contains_iff_mem.2 (List.mem_map.2 ⟨x, hx, rfl⟩)
  have e2 : (laid.filter fun x => !(laid.map (·.1)).contains x.1) = [] := List.filter_eq_nil_iff.2 fun x hx => by rw [List.contains_iff_mem.2 (List.mem_map.2 ⟨x, hx, rfl⟩)]; simp
  have h : laidMet P laid (w0.layVars P laid) := laidMet_layVars (w0 := w0) (laid.map (·.1)) [] (by rw [e1]) (by rw [e1]; exact hf) (by rw [e1]; exact hi) (by rw [e2]; exact LaidIn.none)
  exact h.of_heap (by simp [World.memory, World.forCall, Input.heap])
theorem Ow {P : Program} {l : List (String × DataW Unit)} {W : World} {n : String} {d : DataW Unit} {g R t ng N : Nat} {nm : List UInt8} (h : handlesMet P l W) (hm : (n, d) ∈ l) (hn : d.handleName? = some nm) (hf : d.funcsIn? = none) (hg : P.globalNamed n = some g)
    (hR : (P.cutTypes.find? (·.1 == "internal/reflectlite.rtype")).map (·.2) = some R) (hN : P.types.size = N) (hone : ((List.range N).filter fun t => P.rowNamed t nm) = [t]) (hh : typeHandle P t = .pointer (some ⟨ng, t, none⟩)) :
    W.cell? ⟨g, 0, none⟩ = some (.iface R (.agg #[.pointer (some ⟨ng, t, none⟩)])) := by
  have h1 := h _ hm
  simp only [hf] at h1
  obtain ⟨name, u, ty, e1, e2, e3, e4, e5⟩ := h1
  rw [hn] at e1
  have en := Option.some.inj e1
  subst en
  obtain rfl := Option.some.inj (hR.symm.trans e2)
  have hmm : ty ∈ (List.range N).filter fun t => P.rowNamed t nm := List.mem_filter.2 ⟨List.mem_range.2 (by rw [← hN]; exact e3), e4⟩
  rw [hone] at hmm
  obtain rfl := List.mem_singleton.1 hmm
  rw [hh] at e5
  simpa using World.var?_cell hg e5 0
end Go.Proofs.YtdnjanhdnibkfaaGreatDoor.Jd

namespace Go.Proofs.YtdnjanhdnibkfaaGreatDoor.Jd
open Go.Proofs.Tryz
open Go.RowKit (Below)
set_option linter.unusedVariables false
set_option linter.unusedSimpArgs false
def Nq (a : Option Addr) (k lo c : Nat) : Option Addr := if c = lo then a else a.map fun x => x.add (lo * k)
theorem Sl.off {w : World} {α : Type} {enc : α → List Value} {k : Nat} {a : Option Addr} {xs : List α} (h : Sl w enc k a xs) (lo c : Nat) (hc : xs.length ≤ c) : Sl w enc k (Nq a k lo c) (xs.drop lo) := fun i x hx => by
  rw [List.getElem?_drop] at hx
  have hlt := (List.getElem?_eq_some_iff.1 hx).1
  obtain ⟨b, off, rfl, h2, h3⟩ := h _ _ hx
  refine ⟨b, off + lo * k, ?_, h2, fun j v hv => ?_⟩
  · simp only [Nq]
    rw [if_neg z3, Option.map_some, Bc]
  · have := h3 j v hv
    rw [Nat.add_mul] at this
    rw [show off + lo * k + i * k + j = off + (lo * k + i * k) + j by omega]
    exact this
section
variable {b0 : World} {Mk : List Nat} {B L : Av} {α : Type} {enc : α → List Value} {k : Nat} {a : Option Addr} {xs : List α}
theorem Cl.off (h : Cl b0 Mk L enc k a xs) (lo c : Nat) (hc : xs.length ≤ c) : Cl b0 Mk L enc k (Nq a k lo c) (xs.drop lo) := fun w hw => (h w hw).off lo c hc
theorem wX.off (h : wX b0 B enc k a xs) (lo c : Nat) (hc : xs.length ≤ c) : wX b0 B enc k (Nq a k lo c) (xs.drop lo) := fun w he hw => (h w he hw).off lo c hc
theorem SH.notIn {w : World} {r : Nat} {o : Obj} {R : Av} {β : Type} {ys : List β} (h : SH b0 Mk L w) (hp : List.Perm L ((r, o) :: (B ++ R))) : ∀ m ∈ keys B, yQ (some (⟨r, 0, none⟩ : Addr)) ys m := fun m hm p hp' _ e => by
  cases hp'
  have hn := (h.perm hp).nd
  simp only [List.map_cons, List.nodup_cons, List.map_append, List.mem_append] at hn
  have e' : m = r := e
  subst e'
  exact hn.1 (.inl hm)
theorem Bt.nd {e : TypeId} {c : Nat} (h : Bt enc k e a c B xs) : (B.map Prod.fst).Nodup := by
  rcases h with ⟨_, rfl, _⟩ | ⟨r, cur, fz, _, rfl, _⟩ <;> simp
end
section
variable {P : Program} {rd : Option Nat} {b0 : World} {Mk : List Nat} {N : Nat} {D : List Deferred} {ops : Array Oper} {L V : Av} {E : Fd} {T : Act → World → Prop}
variable {op : Op} {ty : TypeId} {pos : String} {after : Array Edge} {d : Nat}
theorem Hj {t e k : TypeId} {x y : Operand} {a : Option Addr} {n c : Nat} {i : Int} {ki : IntKind} (lo m : Nat) (hU : ∀ w, (underlying t).run P w = .ok (.slice e) w) (hS : ∀ w, (sizeOf e).run P w = .ok k w) (hlo : lo ≤ n) (hnc : n ≤ c) (hm : m = n - lo) (hx : ev E x = some (.slice a n c) := by rfl) (hy : ev E y = some (.int ki i) := by rfl) (hi : i = (lo : Int) := by first | rfl | omega) :
    Db P N D b0 Mk L E (.slice t x (some y) none none) ty (.slice (Nq a k lo c) m (c - lo)) := fun ac w ha _ => by
  subst hi hm
  simp [Fl, execOp, ha.eval hx, ha.eval hy, Instr.sliceAt, hU, Instr.slice, Instr.sliceBounds, Instr.sliceBound, asIntOf, hlo, hS w, Nq]
theorem R9 {t e : TypeId} {x : Operand} {a : Option Addr} {n c : Nat} (hU : ∀ w, (underlying t).run P w = .ok (.slice e) w) (hx : ev E x = some (.slice a n c) := by rfl) :
    Db P N D b0 Mk L E (.call { callee := .builtin .cap, args := #[x], argTypes := #[t] }) ty (.int .i64 c) := fun ac w ha _ => by
  simp [Fl, execOp, resolve, invoke, builtin, ha.eval hx, Builtin.cap_, hU, goInt]
theorem mX {α : Type} {enc : α → List Value} {k by_ : Nat} {t e : TypeId} {z : Value} {x y : Operand} {a a' : Option Addr} {c c' dn dc sn : Nat} {B : Av} {xs ys : List α} (lo q : Nat) (hT : Ty P e k by_ z) (hU : P.underlying t = some (.slice e)) (hE : Ed enc k) (ho : Bt enc k e a c B xs)
    (hs : Cl b0 Mk L enc k a' ys) (hB : ∀ p ∈ B, p ∈ L) (hq : q = min sn dn) (hqy : q ≤ ys.length) (hlo : lo ≤ xs.length) (hc : lo + q ≤ c) (hx : ev E x = some (.slice (Nq a k lo c) dn dc) := by rfl) (hy : ev E y = some (.slice a' sn c') := by rfl) :
    Vi P N D b0 Mk L E (.call { callee := .builtin .copy, args := #[x, y], argTypes := #[t, t] }) ty B Av (fun _ => .value (.int .i64 q)) (fun h => h) (fun h => Bt enc k e a c h (xs.take lo ++ ys.take q ++ xs.drop (lo + q))) := by
  intro ac w ha hw
  obtain ⟨i, hi, rfl, rfl, hz⟩ := hT.ex
  have Qw : ∀ (v' : Value) (w' : World), (Builtin.copy_ #[t, t] ty #[.slice (Nq a i.size lo c) dn dc, .slice a' sn c']).run P w = .ok v' w' →
      (execOp ac.eval (Fl (.call { callee := .builtin .copy, args := #[x, y], argTypes := #[t, t] }) ty)).run P w = .ok (.value v') w' := fun v' w' h => by
    simp [Fl, execOp, resolve, invoke, builtin, ha.eval hx, ha.eval hy, h]
  have hsl := hs w hw
  have hmin : Nat.min sn dn = q := hq.symm
  have hle : xs.length ≤ c := ho.le'
  by_cases hq0 : q = 0
  · have e0 : xs.take lo ++ ys.take q ++ xs.drop (lo + q) = xs := by rw [hq0]; simp
    rw [e0]
    refine ⟨B, w, Qw _ _ ?_, Tr.refl (fun p hp => hw.own p (hB p hp)) ho.nd, ho⟩
    have hf : ∀ v, (Builtin.firstCells i.size 0 v).run P w = .ok #[] w ∨ True := fun _ => .inr trivial
    rw [hq0] at hmin ⊢
    rcases Nq a i.size lo c with _ | ad <;> rcases a' with _ | ad' <;> simp [Builtin.copy_, run_underlying hU, Builtin.lenOf, Builtin.firstCells, sizeOf, typeInfo, hi, hmin, loadCells, loadCellsFrom, storeCells, goInt]
  · rcases ho with ⟨rfl, rfl, rfl⟩ | ⟨r, cur, fz, rfl, rfl, hfz, h1, h2, h3⟩
    · omega
    · have hh : w.heap[r]? = some (.cells cur e fz) := hw.own _ (hB _ List.mem_cons_self)
      have hyn : (ys.take q).length = q := by rw [List.length_take]; omega
      have hfl : (Ex enc (ys.take q)).length = q * i.size := by rw [Dc hE, hyn]
      have hle2 : lo * i.size + q * i.size ≤ c * i.size := by rw [← Nat.add_mul]; exact Nat.mul_le_mul_right _ hc
      have hst := Gg P r (lo * i.size) e fz (Ex enc (ys.take q)) 0 cur w hh hfz (by rw [hfl]; omega) (aU hE _)
      have hoff : Nq (some (⟨r, 0, none⟩ : Addr)) i.size lo c = some ⟨r, lo * i.size, none⟩ := by
        simp only [Nq]; rw [if_neg z3, Option.map_some, Bc, Nat.zero_add]
      obtain ⟨y0, hy0⟩ : ∃ y0, ys[0]? = some y0 := ⟨_, List.getElem?_eq_getElem z3⟩
      obtain ⟨b1, o1, rfl, _, _⟩ := hsl 0 y0 hy0
      have hl : (loadCells ⟨b1, o1, none⟩ (q * i.size)).run P w = .ok (Ex enc (ys.take q)).toArray w := by
        rw [← hfl]
        exact run_loadCells_list w _ _ (Sl.cells hE hsl q hqy)
      refine ⟨[(r, .cells (cur.toList.take (lo * i.size + 0) ++ Ex enc (ys.take q) ++ cur.toList.drop (lo * i.size + 0 + (Ex enc (ys.take q)).length)).toArray e fz)], _, Qw _ _ ?_, dH hh, Bt.fullF ?_ ?_ ?_ ?_⟩
      · rw [hoff]
        simp [Builtin.copy_, run_underlying hU, Builtin.lenOf, Builtin.firstCells, sizeOf, typeInfo, hi, hmin, hl, hst, goInt]
      · refine hfz.imp id fun h => Nat.le_trans (Nat.le_of_eq ?_) h
        simp only [List.size_toArray, List.length_append, List.length_take, List.length_drop, Array.length_toList, hfl, h2]; omega
      · simp only [List.length_append, List.length_take, List.length_drop]; omega
      · simp only [List.size_toArray, List.length_append, List.length_take, List.length_drop, Array.length_toList, hfl, h2]; omega
      · have hA : cur.toList.take (lo * i.size) = Ex enc (xs.take lo) := by
          have := congrArg (List.take (lo * i.size)) h3
          rw [List.take_take, Nat.min_eq_left (Nat.mul_le_mul_right _ hlo)] at this
          rw [this]
          have hl : Ex enc xs = Ex enc (xs.take lo) ++ Ex enc (xs.drop lo) := by rw [← Ho, List.take_append_drop]
          rw [hl, List.take_left' (by rw [Dc hE, List.length_take]; congr 1; omega)]
        simp only [List.toList_toArray, Nat.add_zero, hfl]
        rw [hA, Ho, Ho]
        by_cases hlong : lo + q ≤ xs.length
        · have hD : (cur.toList.drop (lo * i.size + q * i.size)).take ((xs.length - (lo + q)) * i.size) = Ex enc (xs.drop (lo + q)) := by
            have := congrArg (List.drop ((lo + q) * i.size)) h3
            rw [List.drop_take, ← Nat.sub_mul] at this
            rw [← Nat.add_mul, this]
            have hl : Ex enc xs = Ex enc (xs.take (lo + q)) ++ Ex enc (xs.drop (lo + q)) := by rw [← Ho, List.take_append_drop]
            rw [hl, List.drop_left' (by rw [Dc hE, List.length_take]; congr 1; omega)]
          have hlen : (xs.take lo ++ ys.take q ++ xs.drop (lo + q)).length * i.size = (Ex enc (xs.take lo) ++ Ex enc (ys.take q)).length + (xs.length - (lo + q)) * i.size := by
            rw [@List.length_append _ (Ex enc (xs.take lo)), hfl, Dc hE]
            simp only [List.length_append, List.length_drop, Nat.add_mul, hyn]
          rw [hlen, List.take_length_add_append, hD]
        · have hd : xs.drop (lo + q) = [] := List.drop_eq_nil_of_le z3
          rw [hd]
          simp only [Ex, List.map_nil, List.flatten_nil, List.append_nil]
          rw [List.take_left' (by
            have h5 : (List.map enc (List.take lo xs)).flatten.length = (xs.take lo).length * i.size := Dc hE _
            have h6 : (List.map enc (List.take q ys)).flatten.length = (ys.take q).length * i.size := Dc hE _
            rw [List.length_append, List.length_append, h5, h6, Nat.add_mul])]
theorem jS {α : Type} {enc : α → List Value} {k by_ : Nat} {t e : TypeId} {z : Value} {x y : Operand} {a a' : Option Addr} {c c' dn dc sn : Nat} {B R : Av} {xs ys : List α} {l : List Oper} (lo q : Nat) (zs : List α) (hz : xs.take lo ++ ys.take q ++ xs.drop (lo + q) = zs) (hT : Ty P e k by_ z) (hU : P.underlying t = some (.slice e)) (hE : Ed enc k) (ho : Bt enc k e a c B xs) (hL : List.Perm L (B ++ R))
    (hs : Cl b0 Mk L enc k a' ys) (hq : q = min sn dn) (hqy : q ≤ ys.length) (hlo : lo ≤ xs.length) (hc : lo + q ≤ c) (hx : ev E x = some (.slice (Nq a k lo c) dn dc) := by rfl) (hy : ev E y = some (.slice a' sn c') := by rfl) (hd : Nat.blt d N = true := by rfl)
    (kk : ∀ B2, Bt enc k e a c B2 zs → JL P rd b0 Mk N D ops (B2 ++ R) ((d, .int .i64 q) :: E) l T) :
    JL P rd b0 Mk N D ops L E ({ dst := some d, op := .call { callee := .builtin .copy, args := #[x, y], argTypes := #[t, t] }, type := ty, pos := pos, after := after, guard := none } :: l) T :=
  wS hL (mX lo q hT hU hE ho hs (fun p hp => hL.mem_iff.2 (List.mem_append_left _ hp)) hq hqy hlo hc hx hy) rfl hd (fun h hh => kk h (hz ▸ hh))
theorem jT {α : Type} {enc : α → List Value} {k by_ : Nat} {t e : TypeId} {z : Value} {x y : Operand} {a a' : Option Addr} {c c' dn dc sn : Nat} {B R : Av} {xs ys : List α} {l : List (Bool × Oper)} (lo q : Nat) (zs : List α) (hz : xs.take lo ++ ys.take q ++ xs.drop (lo + q) = zs) (hT : Ty P e k by_ z) (hU : P.underlying t = some (.slice e)) (hE : Ed enc k) (ho : Bt enc k e a c B xs) (hV : List.Perm V (B ++ R))
    (hs : Cl b0 Mk (V ++ L) enc k a' ys) (hq : q = min sn dn) (hqy : q ≤ ys.length) (hlo : lo ≤ xs.length) (hc : lo + q ≤ c) (hx : ev E x = some (.slice (Nq a k lo c) dn dc) := by rfl) (hy : ev E y = some (.slice a' sn c') := by rfl) (hd : Nat.blt d N = true := by rfl)
    (kk : ∀ B2, Bt enc k e a c B2 zs → JD P rd b0 Mk N D ops L (B2 ++ R) ((d, .int .i64 q) :: E) l T) :
    JD P rd b0 Mk N D ops L V E ((false, { dst := some d, op := .call { callee := .builtin .copy, args := #[x, y], argTypes := #[t, t] }, type := ty, pos := pos, after := after, guard := none }) :: l) T :=
  AK2 hV (mX lo q hT hU hE ho hs (fun p hp => List.mem_append_left _ (hV.mem_iff.2 (List.mem_append_left _ hp))) hq hqy hlo hc hx hy) rfl hd (fun h hh => kk h (hz ▸ hh))
theorem Vm {α : Type} {enc : α → List Value} {k : Nat} {z : Value} {x0 : α} (hE : Ed enc k) (hz : Dh z = enc x0) (n : Nat) : (Builtin.zeroCells z.cells n).toList = Ex enc (List.replicate n x0) := by
  have h := mQ hE hz n
  have hs : z.cells.size = k := by rw [Gn, hz]; simpa using hE.len x0
  have e : Builtin.zeroCells z.cells n = madeCells z.cells (n * k) := by rw [← hs]; rfl
  rw [e, h]
theorem xC {α : Type} {enc : α → List Value} {k by_ : Nat} {t e : TypeId} {z : Value} {x : Operand} {a : Option Addr} {c dn dc : Nat} {B : Av} {xs : List α} (lo : Nat) {x0 : α} (hT : Ty P e k by_ z) (hZ : ∀ w, (zeroValue e).run P w = .ok z w) (hz0 : Dh z = enc x0) (hU : P.underlying t = some (.slice e)) (hE : Ed enc k) (ho : Bt enc k e a c B xs)
    (hB : ∀ p ∈ B, p ∈ L) (hlo : xs.length ≤ lo) (hc : lo + dn ≤ c) (hx : ev E x = some (.slice (Nq a k lo c) dn dc) := by rfl) :
    Vi P N D b0 Mk L E (.call { callee := .builtin .clear, args := #[x], argTypes := #[t] }) ty B Av (fun _ => .value (.tuple #[])) (fun h => h) (fun h => Bt enc k e a c h xs) := by
  intro ac w ha hw
  obtain ⟨i, hi, rfl, rfl, hz⟩ := hT.ex
  have hzs := hT.zs
  have Qw : ∀ (v' : Value) (w' : World), (Builtin.clear_ #[t] ty #[.slice (Nq a i.size lo c) dn dc]).run P w = .ok v' w' →
      (execOp ac.eval (Fl (.call { callee := .builtin .clear, args := #[x], argTypes := #[t] }) ty)).run P w = .ok (.value v') w' := fun v' w' h => by
    simp [Fl, execOp, resolve, invoke, builtin, ha.eval hx, h]
  by_cases hq0 : dn = 0
  · subst hq0
    refine ⟨B, w, Qw _ _ ?_, Tr.refl (fun p hp => hw.own p (hB p hp)) ho.nd, ho⟩
    rcases Nq a i.size lo c with _ | ad <;> simp [Builtin.clear_, run_underlying hU]
  · rcases ho with ⟨rfl, rfl, rfl⟩ | ⟨r, cur, fz, rfl, rfl, hfz, h1, h2, h3⟩
    · omega
    · have hh : w.heap[r]? = some (.cells cur e fz) := hw.own _ (hB _ List.mem_cons_self)
      have hle2 : lo * i.size + dn * i.size ≤ c * i.size := by rw [← Nat.add_mul]; exact Nat.mul_le_mul_right _ hc
      have hzl : (Builtin.zeroCells z.cells dn).toList.length = dn * i.size := by rw [fY, hzs]
      have hz1 : ∀ v ∈ (Builtin.zeroCells z.cells dn).toList, v.oneCell' = true := fun v hv => by
        rw [Vm hE hz0 dn] at hv
        exact aU hE _ v hv
      have hst := Gg P r (lo * i.size) e fz (Builtin.zeroCells z.cells dn).toList 0 cur w hh hfz (by rw [hzl]; omega) hz1
      have hoff : Nq (some (⟨r, 0, none⟩ : Addr)) i.size lo c = some ⟨r, lo * i.size, none⟩ := by
        simp only [Nq]; rw [if_neg z3, Option.map_some, Bc, Nat.zero_add]
      refine ⟨[(r, .cells (cur.toList.take (lo * i.size + 0) ++ (Builtin.zeroCells z.cells dn).toList ++ cur.toList.drop (lo * i.size + 0 + (Builtin.zeroCells z.cells dn).toList.length)).toArray e fz)], _, Qw _ _ ?_, dH hh, Bt.fullF ?_ h1 ?_ ?_⟩
      · rw [hoff]
        cases dn with
        | zero => exact absurd rfl hq0
        | succ dn => simp [Builtin.clear_, run_underlying hU, hZ, hst]
      · refine hfz.imp id fun h => Nat.le_trans (Nat.le_of_eq ?_) h
        simp only [List.size_toArray, List.length_append, List.length_take, List.length_drop, Array.length_toList, hzl, h2]; omega
      · simp only [List.size_toArray, List.length_append, List.length_take, List.length_drop, Array.length_toList, hzl, h2]; omega
      · have hm : xs.length * i.size ≤ lo * i.size := Nat.mul_le_mul_right _ hlo
        simp only [List.toList_toArray, Nat.add_zero]
        have hm2 : xs.length * i.size ≤ (List.take (lo * i.size) cur.toList).length := by
          rw [List.length_take]
          have : cur.toList.length = c * i.size := by simpa using h2
          omega
        rw [List.append_assoc, List.take_append_of_le_length hm2, List.take_take, Nat.min_eq_left hm, h3]
theorem tP {α : Type} {enc : α → List Value} {k by_ : Nat} {t e : TypeId} {z : Value} {x : Operand} {a : Option Addr} {c dn dc : Nat} {B R : Av} {xs : List α} {l : List Oper} (lo : Nat) {x0 : α} (hT : Ty P e k by_ z) (hZ : ∀ w, (zeroValue e).run P w = .ok z w) (hz0 : Dh z = enc x0) (hU : P.underlying t = some (.slice e)) (hE : Ed enc k) (ho : Bt enc k e a c B xs) (hL : List.Perm L (B ++ R))
    (hlo : xs.length ≤ lo) (hc : lo + dn ≤ c) (hx : ev E x = some (.slice (Nq a k lo c) dn dc) := by rfl) 
    (kk : ∀ B2, Bt enc k e a c B2 xs → JL P rd b0 Mk N D ops (B2 ++ R) E l T) :
    JL P rd b0 Mk N D ops L E ({ dst := none, op := .call { callee := .builtin .clear, args := #[x], argTypes := #[t] }, type := ty, pos := pos, after := after, guard := none } :: l) T := by
  intro ac w ha hw
  unfold Pz
  rw [if_pos (by rfl)]
  obtain ⟨h, w', h1, h2, h3⟩ := xC (ty := ty) lo hT hZ hz0 hU hE ho (fun p hp => hL.mem_iff.2 (List.mem_append_left _ hp)) hlo hc hx ac w ha hw
  have hE2 : Ee N D E (ac.put none (.tuple #[])) := ha
  exact Dv (o := { dst := none, op := .call { callee := .builtin .clear, args := #[x], argTypes := #[t] }, type := ty, pos := pos, after := after, guard := none }) rfl J7 (kk h h3 _ _ hE2 ((hw.perm hL).tr h2))
theorem E9 {α : Type} {enc : α → List Value} {k by_ : Nat} {t tn e : TypeId} {z : Value} {x0 : α} {x y : Operand} {a : Option Addr} {c n m : Nat} {i : Int} {xs : List α} {kn : IntKind} (hT : Ty P e k by_ z) (hU : P.underlying t = some (.slice e)) (hN : P.underlying tn = some (.int kn)) (hE : Ed enc k) (hz : Dh z = enc x0)
    (hs : Cl b0 Mk L enc k a xs) (hn : xs.length = n) (h0 : 0 < m) (hg : c < n + m) (hb : 2 * (n + m) * by_ ≤ 281474976710656) (hb2 : n + m ≤ 4611686018427387904) (hi : i = (m : Int)) (hx : ev E x = some (.slice a n c) := by rfl) (hy : ev E y = some (.int .i64 i) := by rfl) :
    Vi P N D b0 Mk L E (.call { callee := .builtin .append, args := #[x, y], argTypes := #[t, tn] }) ty [] (Option Addr × Nat × Av) (fun q => .value (.slice q.1 (n + m) q.2.1)) (fun q => q.2.2) (fun q => Bt enc k e q.1 q.2.1 q.2.2 (xs ++ List.replicate m x0)) := by
  intro ac w ha hw
  obtain ⟨i, hi, rfl, rfl, hzz⟩ := hT.ex
  subst hn
  rename_i hi'
  have hzs := hT.zs
  have hk := hE.pos
  subst hi'
  have Qw : ∀ (v' : Value) (w' : World), (Builtin.append_ #[t, tn] ty #[.slice a xs.length c, .int .i64 m]).run P w = .ok v' w' →
      (execOp ac.eval (Fl (.call { callee := .builtin .append, args := #[x, y], argTypes := #[t, tn] }) ty)).run P w = .ok (.value v') w' := fun v' w' h => by
    simp [Fl, execOp, resolve, invoke, builtin, ha.eval hx, ha.eval hy, h]
  have hsl := hs w hw
  have hnx : Builtin.nextslicecap (xs.length + m) c ≤ 2 * (xs.length + m) := nextslicecap_le hg
  have holds : (Builtin.firstCells i.size xs.length (.slice a xs.length c)).run P w.drew = .ok (Ex enc xs).toArray w.drew := by
    by_cases hx0 : xs = []
    · subst hx0
      rcases a with _ | ad <;> simp [Builtin.firstCells, loadCells, loadCellsFrom, Ex]
    · obtain ⟨y0, hy0⟩ : ∃ y0, xs[0]? = some y0 := ⟨_, List.getElem?_eq_getElem (List.length_pos_iff.2 hx0)⟩
      obtain ⟨b1, o1, rfl, _, _⟩ := hsl 0 y0 hy0
      have h5 := Sl.cells hE hsl xs.length (Nat.le_refl _)
      rw [List.take_length] at h5
      have : ∀ j v, (Ex enc xs)[j]? = some v → w.drew.cell? ((⟨b1, o1, none⟩ : Addr).add j) = some v := fun j v hj => h5 j v hj
      exact run_firstCells_some (P := P) w.drew i.size xs.length _ xs.length c (Ex enc xs) (Dc hE xs) this
  have hbm : m * i.bytes ≤ 281474976710656 := by
    have : m * i.bytes ≤ 2 * (xs.length + m) * i.bytes := Nat.mul_le_mul_right _ z3
    omega
  have hr := Lib.run_append_grow_zeros (P := P) w t tn ty e i z .i64 kn hU hN hi hzz a xs.length c (Ex enc xs) holds m h0 hk hg z3 hbm (Nat.le_trans (Nat.mul_le_mul_right _ hnx) hb)
  refine ⟨(some ⟨w.heap.size, 0, none⟩, grownCap w (xs.length + m) c e, [(w.heap.size, _)]), _, Qw _ _ hr, gO (Vj (w := w.drew) _), ?_⟩
  · have hge := grownCap_ge w (xs.length + m) c e
    refine Bt.full hE (by simpa using hge) ?_ ?_
    · rw [Array.size_append, Array.size_append, List.size_toArray, Dc hE, size_zeroCells, size_zeroCells, hzs, ← Nat.add_mul, ← Nat.add_mul]
      dsimp only
      congr 1
      omega
    · simp only [Array.toList_append, List.toList_toArray]
      rw [Vm hE hz m, List.take_left' (by rw [List.length_append, Dc hE, Dc hE, List.length_append, Nat.add_mul]), Ho]
theorem jU {α : Type} {enc : α → List Value} {kk by_ : Nat} {t tn e : TypeId} {z : Value} {x0 : α} {x y : Operand} {a : Option Addr} {c n m : Nat} {i : Int} {xs : List α} {kn : IntKind} {l : List Oper} (hT : Ty P e kk by_ z) (hU : P.underlying t = some (.slice e)) (hN : P.underlying tn = some (.int kn)) (hE : Ed enc kk) (hz : Dh z = enc x0)
    (hs : Cl b0 Mk L enc kk a xs) (hn : xs.length = n) (h0 : 0 < m) (hg : c < n + m) (hb : 2 * (n + m) * by_ ≤ 281474976710656 ∧ n + m ≤ 4611686018427387904) (hi : i = (m : Int)) (hx : ev E x = some (.slice a n c) := by rfl) (hy : ev E y = some (.int .i64 i) := by rfl) (hd : Nat.blt d N = true := by rfl)
    (k : ∀ a2 c2 B2, Bt enc kk e a2 c2 B2 (xs ++ List.replicate m x0) → JL P rd b0 Mk N D ops (B2 ++ L) ((d, .slice a2 (xs ++ List.replicate m x0).length c2) :: E) l T) :
    JL P rd b0 Mk N D ops L E ({ dst := some d, op := .call { callee := .builtin .append, args := #[x, y], argTypes := #[t, tn] }, type := ty, pos := pos, after := after, guard := none } :: l) T :=
  wS (List.Perm.refl _) (E9 hT hU hN hE hz hs hn h0 hg hb.1 hb.2 hi hx hy) rfl hd (fun q hq => by
    have := k q.1 q.2.1 q.2.2 hq
    rwa [List.length_append, List.length_replicate, hn] at this)
theorem Rs {x : Operand} {l : List Operand} {tys : Array TypeId} {k : FuncId} {t : TypeId} {name : String} {v recv : Value} {vs args : List Value} {nm : Nat} (hnm : P.types.size + Made.depth = nm)
    (hm : ∀ w, SH b0 Mk L w → (Go.method nm t v name).run P w = .ok (k, recv) w) (hc : ∀ args w, (callFunc k args).run P w = .ok (.enter k args) w)
    (hx : ev E x = some (.iface t v) := by rfl) (ha : evs E l = some vs := by rfl) (he : recv :: vs = args := by rfl) :
    Pk P N D b0 Mk L E (.call { callee := .invoke x name, args := l.toArray, argTypes := tys }) ty k args := fun a w h hw => by
  subst he hnm
  have h1 := h.evals ha
  have h2 : (l.toArray.map a.eval) = vs.toArray := by rw [← h1]; simp
  have hme := hm w hw
  have hprog : ∀ w : World, (Go.program).run P w = .ok P w := fun _ => rfl
  simp only [Fl, execOp, resolve, Sem.run_bind, Sem.run_pure, Result.andThen_ok, invoke, h2, h.eval hx]
  simp [callMethod, hprog, hme, hc]
end
end Go.Proofs.YtdnjanhdnibkfaaGreatDoor.Jd

namespace Go.Proofs.YtdnjanhdnibkfaaGreatDoor.Jd
open Go.Proofs.Tryz
open Go.RowKit (Below)
set_option linter.unusedVariables false
set_option linter.unusedSimpArgs false
theorem lb {p : Prop} (h : p := by first | omega | (simp only [List.length_append, List.length_take, List.length_drop, List.length_set, List.length_replicate, List.length_cons, List.length_nil, List.length_map, Di, Cw]; omega) | (simp only [List.length_append, List.length_take, List.length_drop, List.length_set, List.length_replicate, List.length_cons, List.length_nil, List.length_map, Di, Cw] at *; omega)) : p := h
theorem ix {p : Prop} (h : p := by first | omega | (simp only [List.length_set]; omega) | (simp only [List.length_append, List.length_take, List.length_drop, List.length_set, List.length_replicate, List.length_cons, List.length_nil, List.length_map, Di, Cw]; omega)) : p := h
theorem se {E E' : Fd} (h : Kp E E' := by repeat (first | exact Kp.nil | refine Kp.cons rfl ?_)) : Kp E E' := h
theorem me {α : Type} {p : α} {l : List α} (h : p ∈ l := by repeat (first | exact List.mem_cons_self | apply List.mem_cons_of_mem | apply List.mem_append_right)) : p ∈ l := h
theorem q0 {l : Av} : List.Perm l l := List.Perm.refl _
theorem qa {x a : Nat × Obj} {t r : Av} (p : List.Perm t (a :: r)) : List.Perm (x :: t) (a :: x :: r) := (List.Perm.cons _ p).trans (List.Perm.swap _ _ _)
theorem qb {x : Nat × Obj} {t r S : Av} (p : List.Perm t (S ++ r)) : List.Perm (x :: t) (S ++ (x :: r)) := (List.Perm.cons _ p).trans List.perm_middle.symm
theorem qc {a : Nat × Obj} {t r S : Av} (p : List.Perm t (a :: r)) : List.Perm (S ++ t) (a :: (S ++ r)) := (List.Perm.append_left _ p).trans List.perm_middle
theorem qd {t r S U : Av} (p : List.Perm t (U ++ r)) : List.Perm (S ++ t) (U ++ (S ++ r)) := (List.Perm.append_left _ p).trans (Q3 _ _ _)
section
variable {P : Program} {rd : Option Nat} {b0 : World} {Mk : List Nat} {N : Nat} {D : List Deferred} {ops : Array Oper} {L V : Av} {E : Fd} {T : Act → World → Prop}
variable {op : Op} {ty : TypeId} {pos : String} {after : Array Edge} {d : Nat}
theorem Dm {κ : Type} [DecidableEq κ] {kd : TypeDesc} {enc : κ → Value} {t kt et : TypeId} {x y : Operand} {r ck : Nat} {es : Array MapEntry} {l : List (κ × Value)} {z v : Value} (q : κ) (hk : Pm kd enc) (hU : ∀ w, (underlying t).run P w = .ok (.map kt et) w) (hK : ∀ w, (underlying kt).run P w = .ok kd w)
    (hz : ∀ w, (zeroValue et).run P w = .ok z w) (hes : Ja enc es l) (hv : Lp l q = some v) (hx : ev E x = some (.map (some r)) := by rfl) (hy : ev E y = some (enc q) := by rfl)
    (hm : (r, Obj.map es ck) ∈ L := by repeat (first | exact List.mem_cons_self | apply List.mem_cons_of_mem | apply List.mem_append_right)) :
    Db P N D b0 Mk L E (.lookup t x y true) ty (.tuple [v, .bool true].toArray) := by
  have := jK (N := N) (D := D) (b0 := b0) (Mk := Mk) (ty := ty) q hk hU hK hz hes hx hy hm
  rwa [hv] at this
theorem St {κ : Type} [DecidableEq κ] {kd : TypeDesc} {enc : κ → Value} {t kt et : TypeId} {x y : Operand} {r ck : Nat} {es : Array MapEntry} {l : List (κ × Value)} {z : Value} (q : κ) (hk : Pm kd enc) (hU : ∀ w, (underlying t).run P w = .ok (.map kt et) w) (hK : ∀ w, (underlying kt).run P w = .ok kd w)
    (hz : ∀ w, (zeroValue et).run P w = .ok z w) (hes : Ja enc es l) (hv : Lp l q = none) (hx : ev E x = some (.map (some r)) := by rfl) (hy : ev E y = some (enc q) := by rfl)
    (hm : (r, Obj.map es ck) ∈ L := by repeat (first | exact List.mem_cons_self | apply List.mem_cons_of_mem | apply List.mem_append_right)) :
    Db P N D b0 Mk L E (.lookup t x y true) ty (.tuple [z, .bool false].toArray) := by
  have := jK (N := N) (D := D) (b0 := b0) (Mk := Mk) (ty := ty) q hk hU hK hz hes hx hy hm
  rwa [hv] at this
theorem BJ0 {κ : Type} [DecidableEq κ] {kd : TypeDesc} {enc : κ → Value} {t kt et : TypeId} {x y u : Operand} {r ck : Nat} {es : Array MapEntry} {l : List (κ × Value)} {v : Value} (q : κ) (hk : Pm kd enc) (hU : ∀ w, (underlying t).run P w = .ok (.map kt et) w) (hK : ∀ w, (underlying kt).run P w = .ok kd w)
    (hes : Ja enc es l) (hnew : ∀ p ∈ l, p.1 ≠ q) (hx : ev E x = some (.map (some r)) := by rfl) (hy : ev E y = some (enc q) := by rfl) (hu : ev E u = some v := by rfl)
    (hm : (r, Obj.map es ck) ∈ L := by repeat (first | exact List.mem_cons_self | apply List.mem_cons_of_mem | apply List.mem_append_right)) :
    Vi P N D b0 Mk L E (.insert t x y u) ty [(r, .map es ck)] (Array MapEntry × Nat) (fun _ => .skip) (fun x => [(r, .map x.1 x.2)]) (fun x => Ja enc x.1 (l ++ [(q, v)])) := fun a w ha hw => by
  obtain ⟨x, w', h1, h2, h3⟩ := Q1 (ty := ty) q hk hU hK hes hnew hx hy hu hm a w ha hw
  exact ⟨x, w', h1, h2, h3⟩
theorem Gm {κ : Type} [DecidableEq κ] {kd : TypeDesc} {enc : κ → Value} {t kt et : TypeId} {x y u : Operand} {r ck : Nat} {es : Array MapEntry} {ml : List (κ × Value)} {v : Value} {R : Av} {l : List Oper} (q : κ) (hk : Pm kd enc) (hU : ∀ w, (underlying t).run P w = .ok (.map kt et) w) (hK : ∀ w, (underlying kt).run P w = .ok kd w)
    (hes : Ja enc es ml) (hnew : ∀ p ∈ ml, p.1 ≠ q) (hL : List.Perm L ((r, Obj.map es ck) :: R)) (hx : ev E x = some (.map (some r)) := by rfl) (hy : ev E y = some (enc q) := by rfl) (hu : ev E u = some v := by rfl)
    (k : ∀ es2 ck2, Ja enc es2 (ml ++ [(q, v)]) → JL P rd b0 Mk N D ops ((r, Obj.map es2 ck2) :: R) E l T) :
    JL P rd b0 Mk N D ops L E ({ dst := none, op := .insert t x y u, type := ty, pos := pos, after := after, guard := none } :: l) T :=
  P7 (H := [(r, Obj.map es ck)]) hL (BJ0 q hk hU hK hes hnew hx hy hu (hL.mem_iff.2 List.mem_cons_self)) rfl (fun x hq => k x.1 x.2 hq)
theorem xD {t xT : TypeId} {x : Operand} {v : Value} {u : TypeDesc} (hU : P.underlying t = some u) (hu : ∀ ms, u ≠ .interface ms := by intro ms h; cases h) (hx : ev E x = some (.iface t v) := by rfl) :
    Db P N D b0 Mk L E (.typeAssert x xT t true) ty (.tuple [v, .bool true].toArray) := fun a w ha _ => by
  have : (Instr.typeAssert (.iface t v) xT t true).run P w = .ok (.tuple [v, .bool true].toArray) w := by
    unfold Instr.typeAssert
    simp only [Sem.run_bind, run_underlying hU, Result.andThen_ok]
    cases u <;> simp_all
  simp [Fl, execOp, ha.eval hx, this]
theorem AZ1 {t t' : TypeId} {x y : Operand} {p : Int} (hx : ev E x = some (.int .i64 p) := by rfl) (hy : ev E y = some (.int .i64 2) := by rfl) (h : -1 ≤ p ∧ p ≤ 9223372036854775807 := by omega) : Db P N D b0 Mk L E (.binOp .quo t x y t') ty (.int .i64 ((p.toNat / 2 : Nat) : Int)) := fun a w ha _ => by
  have h2 : p.tdiv 2 = ((p.toNat / 2 : Nat) : Int) := by
    rcases Int.lt_or_le p 0 with h0 | h0
    · have : p = -1 := by omega
      subst this; rfl
    · rw [Int.tdiv_eq_ediv_of_nonneg h0]; omega
  have h3 : IntKind.i64.wrap ((p.toNat / 2 : Nat) : Int) = ((p.toNat / 2 : Nat) : Int) := Hh ⟨by omega, by omega⟩
  simp only [Fl, execOp, ha.eval hx, ha.eval hy]
  simp [eqGuard, binOp, Op.intDiv, h2, -Int.natCast_ediv]
  exact h3
theorem S0 {l : List Oper} {n f' : Nat} {listed : Array Bool} {i : Nat} {f : FuncId} {args : List Value} {R : World → Ending → World → Prop} (hi : l[i]? = some { dst := some d, op := op, type := ty, pos := pos, after := after, guard := none }) (hc : Pk P N D b0 Mk L E op ty f args)
    (h : ∀ w, SH b0 Mk L w → Calls P f args.toArray w (R w)) (hn : Bp op = true := by rfl) (hd : Nat.blt d N = true := by rfl)
    (k : ∀ w e w', SH b0 Mk L w → R w e w' → ∃ v B V', e = .returned v ∧ Ej w w' B ∧ V' = B ++ V ∧ JG P rd b0 Mk N D l n f' (listed.setIfInBounds i true) L V' ((d, v) :: E) T) : JO P rd b0 Mk N D l n f' listed L V E T i := by
  intro hg inv a w ha hw
  have hi' : l.toArray[i]? = some { dst := some d, op := op, type := ty, pos := pos, after := after, guard := none } := by simpa using hi
  unfold wpO
  simp only [hi']
  rw [if_pos (by rfl)]
  refine Ez (Bs hn) z61 ((h w hw.right).mono fun e w' he => ?_)
  obtain ⟨v, B, V', rfl, h2, rfl, h3⟩ := k w e w' hw.right he
  have h4 : SH b0 Mk ((B ++ V) ++ L) w' := by rw [List.append_assoc]; exact hw.fresh h2
  exact ⟨_, rfl, SH b0 Mk L, fun y hy => hy, h4.right, h3 hg inv _ _ (ha.put hd _) h4⟩
theorem Su {t : TypeId} {a : Addr} {v : Value} {w : World} (hA : ∀ w, (isAgg t).run P w = .ok false w) (h : w.cell? a = some v) : (loadVar t a).run P w = .ok v w := by
  simp [loadVar, hA, h]
end
theorem Co {κ : Type} [DecidableEq κ] {k q : κ} {v : Value} {l : List (κ × Value)} (h : k = q) : Lp ((k, v) :: l) q = some v := by simp [Lp, h]
theorem Ai {κ : Type} [DecidableEq κ] {k q : κ} {v : Value} {l : List (κ × Value)} (h : ¬ k = q) : Lp ((k, v) :: l) q = Lp l q := by simp [Lp, h]
theorem Lz {κ : Type} [DecidableEq κ] {q : κ} : Lp ([] : List (κ × Value)) q = none := rfl
theorem S1 {α : Type} [Inhabited α] {p : α → Prop} {xs : List α} (h : ∀ z ∈ xs, p z) {i j : Nat} (hi : i < xs.length) (hj : j < xs.length) : ∀ z ∈ ((xs.set i (xs.getD j default)).set j (xs.getD i default)), p z := fun z hz => by
  have hg : ∀ k, k < xs.length → p (xs.getD k default) := fun k hk => by
    rw [List.getD_eq_getElem?_getD, List.getElem?_eq_getElem hk]; exact h _ (List.getElem_mem hk)
  rcases List.mem_or_eq_of_mem_set hz with hz | rfl
  · rcases List.mem_or_eq_of_mem_set hz with hz | rfl
    · exact h _ hz
    · exact hg _ hj
  · exact hg _ hi
def Mz {α : Type} (xs : List α) (i : Nat) (v : α) : List α := xs.take i ++ v :: xs.drop i
theorem Ap {α : Type} {xs : List α} {i : Nat} {v : α} (h : i ≤ xs.length) : (Mz xs i v).length = xs.length + 1 := by
  simp [Mz]; omega
theorem S2 {α : Type} (xs : List α) (v : α) : xs ++ [v] = Mz xs xs.length v := by simp [Mz]
end Go.Proofs.YtdnjanhdnibkfaaGreatDoor.Jd

namespace Go.Proofs.YtdnjanhdnibkfaaGreatDoor.Jd
open Go.Proofs.Tryz
open Go.RowKit (Below)
set_option linter.unusedVariables false
set_option linter.unusedSimpArgs false
def pY {α β : Type} (D : World → α → β → Prop) : Prop := ∀ w w' x t, (∀ p v, w.cell? p = some v → w'.cell? p = some v) → D w x t → D w' x t
def Yz (w : World) {α β : Type} [Inhabited α] [Inhabited β] (enc : α × β → List Value) (k : Nat) (D : World → α → β → Prop) (a : Option Addr) (xs : List α) (ts : List β) : Prop :=
  ts.length = xs.length ∧ Sl w enc k a (List.zip xs ts) ∧ ∀ i, i < xs.length → D w (xs.getD i default) (ts.getD i default)
def Hn (b0 : World) (Mk : List Nat) (L : Av) {α β : Type} [Inhabited α] [Inhabited β] (enc : α × β → List Value) (k : Nat) (D : World → α → β → Prop) (a : Option Addr) (xs : List α) (ts : List β) : Prop :=
  ts.length = xs.length ∧ ∀ w, SH b0 Mk L w → Yz w enc k D a xs ts
def Vn (b0 : World) (B : Av) {α β : Type} [Inhabited α] [Inhabited β] (enc : α × β → List Value) (k : Nat) (D : World → α → β → Prop) (a : Option Addr) (xs : List α) (ts : List β) : Prop :=
  ts.length = xs.length ∧ ∀ w, iY b0 w → (∀ p ∈ B, w.heap[p.1]? = some p.2) → Yz w enc k D a xs ts
def Kr (B : Av) {α β : Type} [Inhabited α] [Inhabited β] (enc : α × β → List Value) (k : Nat) (D : World → α → β → Prop) (a : Option Addr) (xs : List α) (ts : List β) : Prop :=
  ts.length = xs.length ∧ ∀ w : World, (∀ p ∈ B, w.heap[p.1]? = some p.2) → Yz w enc k D a xs ts
def Dr (B : Av) {α β : Type} [Inhabited α] [Inhabited β] (D : World → α → β → Prop) (xs : List α) (ts : List β) : Prop :=
  ts.length = xs.length ∧ ∀ w : World, (∀ p ∈ B, w.heap[p.1]? = some p.2) → ∀ i, i < xs.length → D w (xs.getD i default) (ts.getD i default)
theorem F0 {w w' : World} (he : iY w w') : ∀ p v, w.cell? p = some v → w'.cell? p = some v := fun p v h => Sn h (he.block _ (World.block_lt_of_cell? w _ h))
theorem Wo {α β : Type} [Inhabited α] [Inhabited β] {xs : List α} {ts : List β} {m : Nat} (hl : ts.length = xs.length) (h : m < xs.length) : (List.zip xs ts)[m]? = some (xs.getD m default, ts.getD m default) := by
  rw [List.getD_eq_getElem?_getD, List.getD_eq_getElem?_getD, List.getElem?_eq_getElem h, List.getElem?_eq_getElem (show m < ts.length by omega), List.getElem?_eq_getElem (by rw [List.length_zip]; omega)]
  simp
theorem Hf {α β : Type} {xs : List α} {ts : List β} (hl : ts.length = xs.length) : (List.zip xs ts).length = xs.length := by rw [List.length_zip]; omega
theorem Sv {α : Type} [Inhabited α] {xs : List α} {i n : Nat} (h : i < n) : (xs.take n).getD i default = xs.getD i default := by
  rw [List.getD_eq_getElem?_getD, List.getD_eq_getElem?_getD, List.getElem?_take, if_pos h]
theorem Sw {α : Type} [Inhabited α] {xs : List α} {i n : Nat} : (xs.drop n).getD i default = xs.getD (n + i) default := by
  rw [List.getD_eq_getElem?_getD, List.getD_eq_getElem?_getD, List.getElem?_drop]
theorem bG {α : Type} [Inhabited α] {xs ys : List α} {i : Nat} : (xs ++ ys).getD i default = if i < xs.length then xs.getD i default else ys.getD (i - xs.length) default := by
  simp only [List.getD_eq_getElem?_getD]
  by_cases h : i < xs.length
  · rw [if_pos h, List.getElem?_append_left h]
  · rw [if_neg h, List.getElem?_append_right z3]
section
variable {α β : Type} [Inhabited α] [Inhabited β] {enc : α × β → List Value} {k : Nat} {D : World → α → β → Prop} {a : Option Addr} {xs : List α} {ts : List β} {b0 : World} {Mk : List Nat} {B L : Av}
theorem Yz.ext {w w' : World} (hD : pY D) (h : Yz w enc k D a xs ts) (he : iY w w') : Yz w' enc k D a xs ts := ⟨h.1, h.2.1.ext he, fun i hi => hD _ _ _ _ (F0 he) (h.2.2 i hi)⟩
theorem Hn.of_base (hD : pY D) (h : Yz b0 enc k D a xs ts) : Hn b0 [] L enc k D a xs ts := ⟨h.1, fun _ hw => h.ext hD hw.ext_out⟩
theorem Vn.base (hD : pY D) (h : Yz b0 enc k D a xs ts) : Vn b0 B enc k D a xs ts := ⟨h.1, fun _ he _ => h.ext hD he⟩
theorem Hn.nil : Hn b0 Mk L enc k D a ([] : List α) ([] : List β) := ⟨rfl, fun _ _ => ⟨rfl, Sl.nil, fun i hi => by simp at hi⟩⟩
theorem Vn.nil : Vn b0 B enc k D a ([] : List α) ([] : List β) := ⟨rfl, fun _ _ _ => ⟨rfl, Sl.nil, fun i hi => by simp at hi⟩⟩
theorem Kr.nil : Kr B enc k D a ([] : List α) ([] : List β) := ⟨rfl, fun _ _ => ⟨rfl, Sl.nil, fun i hi => by simp at hi⟩⟩
theorem Vn.j (h : Vn b0 B enc k D a xs ts) (hB : ∀ p ∈ B, p ∈ L := by intro p hp; repeat (first | exact hp | exact List.mem_append_left _ hp | apply List.mem_append_right | apply List.mem_cons_of_mem)) : Hn b0 [] L enc k D a xs ts := ⟨h.1, fun w hw => h.2 w hw.ext_out fun p hp => hw.own p (hB p hp)⟩
theorem Kr.j (h : Kr B enc k D a xs ts) (hB : ∀ p ∈ B, p ∈ L := by intro p hp; repeat (first | exact hp | exact List.mem_append_left _ hp | apply List.mem_append_right | apply List.mem_cons_of_mem)) : Hn b0 Mk L enc k D a xs ts := ⟨h.1, fun w hw => h.2 w fun p hp => hw.own p (hB p hp)⟩
theorem Kr.mono {B' : Av} (h : Kr B enc k D a xs ts) (hB : ∀ p ∈ B, p ∈ B') : Kr B' enc k D a xs ts := ⟨h.1, fun w hw => h.2 w fun p hp => hw p (hB p hp)⟩
theorem Vn.mono {B' : Av} (h : Vn b0 B enc k D a xs ts) (hB : ∀ p ∈ B, p ∈ B' := by intro p hp; repeat (first | exact hp | exact List.mem_append_left _ hp | apply List.mem_append_right | apply List.mem_cons_of_mem)) : Vn b0 B' enc k D a xs ts := ⟨h.1, fun w he hw => h.2 w he fun p hp => hw p (hB p hp)⟩
theorem Hn.sl (h : Hn b0 Mk L enc k D a xs ts) : Cl b0 Mk L enc k a (List.zip xs ts) := fun w hw => (h.2 w hw).2.1
theorem Hn.at (h : Hn b0 Mk L enc k D a xs ts) {m : Nat} (hm : m < xs.length) : ∀ w, SH b0 Mk L w → D w (xs.getD m default) (ts.getD m default) := fun w hw => (h.2 w hw).2.2 m hm
theorem Vn.at (h : Vn b0 B enc k D a xs ts) {m : Nat} (hm : m < xs.length) : ∀ w, iY b0 w → (∀ p ∈ B, w.heap[p.1]? = some p.2) → D w (xs.getD m default) (ts.getD m default) := fun w he hw => (h.2 w he hw).2.2 m hm
theorem Kr.at (h : Kr B enc k D a xs ts) {m : Nat} (hm : m < xs.length) : ∀ w : World, (∀ p ∈ B, w.heap[p.1]? = some p.2) → D w (xs.getD m default) (ts.getD m default) := fun w hw => (h.2 w hw).2.2 m hm
theorem S3 {α β : Type} {xs : List α} {ts : List β} (n : Nat) : (List.zip xs ts).take n = List.zip (xs.take n) (ts.take n) := List.take_zipWith
theorem S4 {α β : Type} {xs : List α} {ts : List β} (n : Nat) : (List.zip xs ts).drop n = List.zip (xs.drop n) (ts.drop n) := List.drop_zipWith
theorem Yz.take {w : World} (h : Yz w enc k D a xs ts) (n : Nat) : Yz w enc k D a (xs.take n) (ts.take n) := by
  refine ⟨by rw [List.length_take, List.length_take, h.1], ?_, fun i hi => ?_⟩
  · rw [← S3]
    intro i x hx
    refine h.2.1 i x ?_
    rw [List.getElem?_take] at hx
    split at hx
    · exact hx
    · cases hx
  · rw [List.length_take] at hi
    rw [Sv z3, Sv z3]
    exact h.2.2 i z3
theorem Yz.off {w : World} (h : Yz w enc k D a xs ts) (lo c : Nat) (hc : xs.length ≤ c) : Yz w enc k D (Nq a k lo c) (xs.drop lo) (ts.drop lo) := by
  refine ⟨by rw [List.length_drop, List.length_drop, h.1], ?_, fun i hi => ?_⟩
  · rw [← S4]
    exact h.2.1.off lo c (by rw [Hf h.1]; exact hc)
  · rw [List.length_drop] at hi
    rw [Sw, Sw]
    exact h.2.2 _ z3
theorem Hn.take (h : Hn b0 Mk L enc k D a xs ts) (n : Nat) : Hn b0 Mk L enc k D a (xs.take n) (ts.take n) := ⟨by rw [List.length_take, List.length_take, h.1], fun w hw => (h.2 w hw).take n⟩
theorem Vn.take (h : Vn b0 B enc k D a xs ts) (n : Nat) : Vn b0 B enc k D a (xs.take n) (ts.take n) := ⟨by rw [List.length_take, List.length_take, h.1], fun w he hw => (h.2 w he hw).take n⟩
theorem Kr.take (h : Kr B enc k D a xs ts) (n : Nat) : Kr B enc k D a (xs.take n) (ts.take n) := ⟨by rw [List.length_take, List.length_take, h.1], fun w hw => (h.2 w hw).take n⟩
theorem Hn.off (h : Hn b0 Mk L enc k D a xs ts) (lo c : Nat) (hc : xs.length ≤ c) : Hn b0 Mk L enc k D (Nq a k lo c) (xs.drop lo) (ts.drop lo) := ⟨by rw [List.length_drop, List.length_drop, h.1], fun w hw => (h.2 w hw).off lo c hc⟩
theorem Vn.off (h : Vn b0 B enc k D a xs ts) (lo c : Nat) (hc : xs.length ≤ c) : Vn b0 B enc k D (Nq a k lo c) (xs.drop lo) (ts.drop lo) := ⟨by rw [List.length_drop, List.length_drop, h.1], fun w he hw => (h.2 w he hw).off lo c hc⟩
theorem Dr.nil : Dr B D ([] : List α) ([] : List β) := ⟨rfl, fun _ _ i hi => by simp at hi⟩
theorem Dr.mono {B' : Av} (h : Dr B D xs ts) (hB : ∀ p ∈ B, p ∈ B' := by intro p hp; repeat (first | exact hp | exact List.mem_append_left _ hp | apply List.mem_append_right | apply List.mem_cons_of_mem)) : Dr B' D xs ts := ⟨h.1, fun w hw => h.2 w fun p hp => hw p (hB p hp)⟩
theorem Dr.append {ys : List α} {us : List β} (h : Dr B D xs ts) (h2 : Dr B D ys us) : Dr B D (xs ++ ys) (ts ++ us) := by
  refine ⟨by rw [List.length_append, List.length_append, h.1, h2.1], fun w hw i hi => ?_⟩
  rw [bG, bG, h.1]
  rw [List.length_append] at hi
  by_cases hc : i < xs.length
  · rw [if_pos hc, if_pos hc]; exact h.2 w hw i hc
  · rw [if_neg hc, if_neg hc]; exact h2.2 w hw _ z3
theorem Dr.take (h : Dr B D xs ts) (n : Nat) : Dr B D (xs.take n) (ts.take n) := by
  refine ⟨by rw [List.length_take, List.length_take, h.1], fun w hw i hi => ?_⟩
  rw [List.length_take] at hi
  rw [Sv z3, Sv z3]
  exact h.2 w hw i z3
theorem Dr.drop (h : Dr B D xs ts) (n : Nat) : Dr B D (xs.drop n) (ts.drop n) := by
  refine ⟨by rw [List.length_drop, List.length_drop, h.1], fun w hw i hi => ?_⟩
  rw [List.length_drop] at hi
  rw [Sw, Sw]
  exact h.2 w hw _ z3
theorem Dr.one {x : α} {t : β} (h : ∀ w : World, (∀ p ∈ B, w.heap[p.1]? = some p.2) → D w x t) : Dr B D [x] [t] := ⟨rfl, fun w hw i hi => by
  have : i = 0 := by simp at hi; omega
  subst this; exact h w hw⟩
theorem Dr.of (h : Kr B enc k D a xs ts) : Dr B D xs ts := ⟨h.1, fun w hw => (h.2 w hw).2.2⟩
theorem Bt.nj {e : TypeId} {c : Nat} {R : Av} (hE : Ed enc k) (h : Bt enc k e a c B (List.zip xs ts)) (hd : Dr R D xs ts) (hB : ∀ p ∈ B, p ∈ L := by intro p hp; repeat (first | exact hp | exact List.mem_append_left _ hp | apply List.mem_append_right | apply List.mem_cons_of_mem)) (hR : ∀ p ∈ R, p ∈ L := by intro p hp; repeat (first | exact hp | exact List.mem_append_left _ hp | apply List.mem_append_right | apply List.mem_cons_of_mem)) : Hn b0 Mk L enc k D a xs ts :=
  ⟨hd.1, fun w hw => ⟨hd.1, h.sl hE fun p hp => hw.own p (hB p hp), hd.2 w fun p hp => hw.own p (hR p hp)⟩⟩
theorem Bt.nb {e : TypeId} {c : Nat} {R U : Av} (hE : Ed enc k) (h : Bt enc k e a c B (List.zip xs ts)) (hd : Dr R D xs ts) (hB : ∀ p ∈ B, p ∈ U := by intro p hp; repeat (first | exact hp | exact List.mem_append_left _ hp | apply List.mem_append_right | apply List.mem_cons_of_mem)) (hR : ∀ p ∈ R, p ∈ U := by intro p hp; repeat (first | exact hp | exact List.mem_append_left _ hp | apply List.mem_append_right | apply List.mem_cons_of_mem)) : Kr U enc k D a xs ts :=
  ⟨hd.1, fun w hw => ⟨hd.1, h.sl hE fun p hp => hw p (hB p hp), hd.2 w fun p hp => hw p (hR p hp)⟩⟩
end
section
variable {P : Program} {b0 : World} {Mk : List Nat} {N : Nat} {D : List Deferred} {L V : Av} {E : Fd} {ty : TypeId}
theorem Po.len {κ : Type} {enc : κ → Value} {es : Array MapEntry} {xs : List κ} (h : Po enc es xs) : es.size = xs.length := by
  have := congrArg List.length h
  simpa using this
theorem pZ {t kt et : TypeId} {x : Operand} {r ck : Nat} {es : Array MapEntry} {κ : Type} {enc : κ → Value} {xs : List κ} (hU : ∀ w, (underlying t).run P w = .ok (.map kt et) w) (hes : Po enc es xs) (hx : ev E x = some (.map (some r)) := by rfl)
    (hm : (r, Obj.map es ck) ∈ L := by repeat (first | exact List.mem_cons_self | apply List.mem_cons_of_mem | apply List.mem_append_right)) :
    Db P N D b0 Mk L E (.call { callee := .builtin .len, args := #[x], argTypes := #[t] }) ty (.int .i64 (xs.length : Int)) := by
  rw [← hes.len]
  exact AX5 hU hx hm
end
section
variable {P : Program} {rd : Option Nat} {b0 : World} {Mk : List Nat} {N : Nat} {D : List Deferred} {ops : Array Oper} {L V : Av} {E : Fd} {T : Act → World → Prop}
variable {ty : TypeId} {pos : String} {after : Array Edge} {d : Nat}
theorem bH {α : Type} {enc : α → List Value} {kk by_ n : Nat} {i : Int} {t e : TypeId} {z : Value} {x0 : α} {x y : Operand} {l : List Oper} (hT : Ty P e kk by_ z) (hU : P.underlying t = some (.slice e)) (hE : Ed enc kk) (hz : Dh z = enc x0) (hb : by_ * n ≤ 281474976710656 ∧ n ≤ 4611686018427387904) (hx : ev E x = some (.int .i64 i) := by rfl) (hy : ev E y = some (.int .i64 i) := by rfl) (hi : i = (n : Int) := by omega) (hd : Nat.blt d N = true := by rfl)
    (k : ∀ a2 B2, Bt enc kk e a2 n B2 (List.replicate n x0) → JL P rd b0 Mk N D ops (B2 ++ L) ((d, .slice a2 n n) :: E) l T) :
    JL P rd b0 Mk N D ops L E ({ dst := some d, op := .makeSlice t x y, type := ty, pos := pos, after := after, guard := none } :: l) T :=
  AL0 hT hU hE hz hb hx hy hi hd (fun a2 B2 ho => by have h := k a2 B2 ho; rw [List.length_replicate]; exact h)
theorem jV {α : Type} {enc : α → List Value} {kk by_ n : Nat} {i : Int} {t e : TypeId} {z : Value} {x0 : α} {x y : Operand} {l : List Oper} {n' f' : Nat} {listed : Array Bool} {j : Nat} (hj : l[j]? = some { dst := some d, op := .makeSlice t x y, type := ty, pos := pos, after := after, guard := none }) (hT : Ty P e kk by_ z) (hU : P.underlying t = some (.slice e)) (hE : Ed enc kk) (hz : Dh z = enc x0) (hb : by_ * n ≤ 281474976710656 ∧ n ≤ 4611686018427387904) (hx : ev E x = some (.int .i64 i) := by rfl) (hy : ev E y = some (.int .i64 i) := by rfl) (hi : i = (n : Int) := by omega) (hd : Nat.blt d N = true := by rfl)
    (k : ∀ a2 B2, Bt enc kk e a2 n B2 (List.replicate n x0) → JG P rd b0 Mk N D l n' f' (listed.setIfInBounds j true) (B2 ++ L) V ((d, .slice a2 n n) :: E) T) :
    JO P rd b0 Mk N D l n' f' listed L V E T j :=
  Kz hj hT hU hE hz hb hx hy hi hd (fun a2 B2 ho => by have h := k a2 B2 ho; rw [List.length_replicate]; exact h)
end
section
variable {P : Program} {b0 : World} {Mk : List Nat} {N : Nat} {D : List Deferred} {L : Av} {E : Fd} {ty : TypeId}
theorem La {t e len n : TypeId} {x y : Operand} {k : IntKind} {p : Int} {l cs : List Value} {m : Nat} (hU : ∀ w, (underlying t).run P w = .ok (.array len e) w) (hS : ∀ w, (sizeOf e).run P w = .ok n w) (hA : ∀ w, (isAgg e).run P w = .ok true w) (hx : ev E x = some (.agg l.toArray) := by rfl) (hy : ev E y = some (.int k p) := by rfl) (hi : p = (m : Int) := by rfl) (hm : Nat.blt m len = true := by rfl) (hv : (l.drop (m * n)).take n = cs := by rfl) :
    Db P N D b0 Mk L E (.index t x y) ty (.agg cs.toArray) := fun a w ha _ => by
  subst hi
  have hm' : m < len := by simpa [Nat.blt_eq] using hm
  subst hv
  simp [Fl, execOp, ha.eval hx, ha.eval hy, Instr.index, asIntOf, hU, hS, hm', part, hA]
  try rw [List.take_drop]
end
end Go.Proofs.YtdnjanhdnibkfaaGreatDoor.Jd

namespace Go.Proofs.YtdnjanhdnibkfaaGreatDoor.Jd
open Go.Proofs.Tryz
open Go.RowKit (Below)
set_option linter.unusedVariables false
set_option linter.unusedSimpArgs false
theorem Sl.cmono {w w' : World} {α : Type} {enc : α → List Value} {k : Nat} {a : Option Addr} {xs : List α} (hc : ∀ p v, w.cell? p = some v → w'.cell? p = some v) (h : Sl w enc k a xs) : Sl w' enc k a xs := fun i x hx => by
  obtain ⟨b, off, e, hl, h2⟩ := h i x hx
  exact ⟨b, off, e, hl, fun j v hv => hc _ _ (h2 j v hv)⟩
theorem Cl.nilj {b0 : World} {Mk : List Nat} {L : Av} {α : Type} {enc : α → List Value} {k : Nat} {a : Option Addr} : Cl b0 Mk L enc k a ([] : List α) := fun _ _ => Sl.nil
theorem sk {a : Nat × Obj} {L' L : Av} (h : List.Sublist L' L) : List.Sublist (a :: L') (a :: L) := h.cons_cons a
theorem sd {a : Nat × Obj} {L' L : Av} (h : List.Sublist L' L) : List.Sublist L' (a :: L) := h.cons a
theorem sa {A L' L : Av} (h : List.Sublist L' L) : List.Sublist (A ++ L') (A ++ L) := (List.Sublist.refl A).append h
theorem sx {A L' L : Av} (h : List.Sublist L' L) : List.Sublist L' (A ++ L) := h.trans (List.sublist_append_right A L)
theorem sz : List.Sublist ([] : Av) [] := List.nil_sublist _
abbrev vi (n : Int) : Value := .int .i64 n
abbrev vs (a : Option Addr) (n c : Nat) : Value := .slice a n c
abbrev vt (s : An) : Value := .string (bs s)
abbrev oc (l : List Value) (t : TypeId) : Obj := .cells l.toArray t
theorem nE {L : Av} : ([] : Av) ++ L = L := rfl
theorem nC {a : Nat × Obj} {V L X : Av} (h : V ++ L = X) : (a :: V) ++ L = a :: X := h ▸ rfl
theorem nA {B V L X : Av} (h : V ++ L = X) : (B ++ V) ++ L = B ++ X := by rw [List.append_assoc, h]
theorem vp {L L2 V L' : Av} (p : List.Perm L L2) (e : V ++ L' = L2) : List.Perm L (V ++ L') := e ▸ p
theorem eqp {L L' : Av} (e : L = L') : List.Perm L L' := .of_eq e
theorem AL8 {A B C : Av} (h1 : ∀ p ∈ A, p ∈ C) (h2 : ∀ p ∈ B, p ∈ C) : ∀ p ∈ A ++ B, p ∈ C := fun p hp => (List.mem_append.1 hp).elim (h1 p) (h2 p)
theorem S5 {C : Av} : ∀ p ∈ ([] : Av), p ∈ C := fun p hp => by cases hp
theorem AL9 {r : Nat} {o : Obj} {C : Av} (h : (r, o) ∈ C) : ∀ p ∈ [(r, o)], p ∈ C := fun p hp => by
  rw [List.mem_singleton] at hp; subst hp; exact h
theorem sh {A C : Av} (h : ∀ p ∈ A, p ∈ C := by
    (repeat' (first | exact S5 | refine AL8 ?_ ?_ | refine AL9 ?_)) <;>
    first
    | (intro p hp; (repeat (first | exact hp | exact List.mem_append_left _ hp | apply List.mem_append_right | apply List.mem_cons_of_mem)); done)
    | ((repeat (first | exact List.mem_cons_self | apply List.mem_cons_of_mem | apply List.mem_append_right)); done)
    | (intro p hp; simp_all; done)) : ∀ p ∈ A, p ∈ C := h
section
variable {P : Program} {b0 : World} {Mk : List Nat} {N : Nat} {D : List Deferred} {L : Av} {E : Fd} {ty : TypeId}
theorem S6 {κ : Type} [DecidableEq κ] {kd : TypeDesc} {enc : κ → Value} {t kt et : TypeId} {x y : Operand} {r ck : Nat} {es : Array MapEntry} {xs : List κ} (q : κ) [inst : Decidable (q ∈ xs)] (hk : Pm kd enc) (hU : ∀ w, (underlying t).run P w = .ok (.map kt et) w) (hK : ∀ w, (underlying kt).run P w = .ok kd w)
    (hz : ∀ w, (zeroValue et).run P w = .ok (.bool false) w) (hes : Po enc es xs) (hx : ev E x = some (.map (some r)) := by rfl) (hy : ev E y = some (enc q) := by rfl)
    (hm : (r, Obj.map es ck) ∈ L := by repeat (first | exact List.mem_cons_self | apply List.mem_cons_of_mem | apply List.mem_append_right)) :
    Db P N D b0 Mk L E (.lookup t x y false) ty (.bool (decide (q ∈ xs))) := by
  have h := bF (P := P) (N := N) (D := D) (b0 := b0) (Mk := Mk) (L := L) (E := E) (ty := ty) (t := t) q hk hU hK hz hes hx hy hm
  have e : ∀ (i1 i2 : Decidable (q ∈ xs)), @decide _ i1 = @decide _ i2 := fun i1 i2 => by congr
  rw [e _ inst] at h
  exact h
end
end Go.Proofs.YtdnjanhdnibkfaaGreatDoor.Jd

namespace Go.Proofs.YtdnjanhdnibkfaaGreatDoor.Jd
open Go.Proofs.Tryz
set_option linter.unusedVariables false
set_option linter.unusedSimpArgs false
theorem tQ {A C : Av} {w : World} (hw : ∀ p ∈ C, w.heap[p.1]? = some p.2) (h : ∀ p ∈ A, p ∈ C := by exact sh) : ∀ p ∈ A, w.heap[p.1]? = some p.2 := fun p hp => hw p (h p hp)
end Go.Proofs.YtdnjanhdnibkfaaGreatDoor.Jd

namespace Go.Proofs.YtdnjanhdnibkfaaGreatDoor.Jd
open Go.Proofs.Tryz
open Go.RowKit (Below)
set_option linter.unusedVariables false
set_option linter.unusedSimpArgs false
section
variable {P : Program} {rd : Option Nat} {b0 : World} {Mk : List Nat} {N : Nat} {D : List Deferred} {l : List Oper} {n f : Nat} {listed : Array Bool} {L V : Av} {E : Fd} {T : Act → World → Prop}
variable {op : Op} {ty : TypeId} {pos : String} {after : Array Edge} {v : Value} {d : Nat}
theorem Jp {o : Obj} {v : Nat → Value} {i : Nat} (hi : l[i]? = some { dst := some d, op := op, type := ty, pos := pos, after := after, guard := none }) (hM : ∀ k ∈ Mk, k < b0.heap.size) (h : jC P N D b0 Mk L E op ty o v) (hn : Bp op = true := by rfl) (hd : Nat.blt d N = true := by rfl)
    (k : ∀ r, b0.heap.size ≤ r → JG P rd b0 Mk N D l n f (listed.setIfInBounds i true) L ((r, o) :: V) ((d, v r) :: E) T) : JO P rd b0 Mk N D l n f listed L V E T i := by
  intro hg inv a w ha hw
  have hi' : l.toArray[i]? = some { dst := some d, op := op, type := ty, pos := pos, after := after, guard := none } := by simpa using hi
  unfold wpO
  simp only [hi']
  rw [if_pos (by rfl)]
  have h4 : SH b0 Mk (((w.heap.size, o) :: V) ++ L) (w.alloc o) := hw.alloc o hM
  exact Dv (Bs hn) z70
    ⟨SH b0 Mk L, fun x hx => hx, h4.right, k _ hw.size hg inv _ _ (ha.put hd _) h4⟩
theorem tR {i : Nat} {V' : Av} (hi : l[i]? = some { dst := none, op := op, type := ty, pos := pos, after := after, guard := none }) (h : wM P N D b0 Mk (V ++ L) E op ty (V' ++ L) .skip) (hn : Bp op = true := by rfl)
    (k : JG P rd b0 Mk N D l n f (listed.setIfInBounds i true) L V' E T) : JO P rd b0 Mk N D l n f listed L V E T i := by
  intro hg inv a w ha hw
  have hi' : l.toArray[i]? = some { dst := none, op := op, type := ty, pos := pos, after := after, guard := none } := by simpa using hi
  unfold wpO
  simp only [hi']
  rw [if_pos (by rfl)]
  obtain ⟨w', h1, h2⟩ := h a w ha hw
  exact Lv (Bs hn) J7 ⟨SH b0 Mk L, fun y hy => hy, h2.right, k hg inv _ _ ha h2⟩
end
end Go.Proofs.YtdnjanhdnibkfaaGreatDoor.Jd

namespace Go.Proofs.YtdnjanhdnibkfaaGreatDoor.Jd
open Go.Proofs.Tryz
open Go.ChangeShapes Go.WideShapes Go.ChangeAt Go.RowKit
set_option linter.unusedVariables false
set_option linter.unusedSimpArgs false
section
variable {H : Type} {encH : TypeId × Value → H} {P : Program} {W : World}
def S7 {H : Type} (x : Int × An × Int) : DataW H := .agg [.lit (.int .i64 x.1), .lit (.string x.2.1), .lit (.int .i64 x.2.2)]
def S8 (x : Int × An × Int) : List Value := [.int .i64 x.1, .string (bs x.2.1), .int .i64 x.2.2]
theorem F1 {base : Nat} {sp : Nat → Bool} {held : Bool} {fuel : Nat} {e : TypeId} {fs : Array Field} {f0 f1 f2 : Field} {cs : List Value} {x : Int × An × Int} {ps : List MemPlace} (hs : P.underlying e = some (.struct fs)) (hfs : fs = #[f0, f1, f2]) (hce : P.cellsOf e = 3)
    (o0 : f0.offset = 0) (o1 : f1.offset = 1) (o2 : f2.offset = 2) (t0 : P.underlying f0.type = some (.int .i64)) (t1 : P.underlying f1.type = some .string) (t2 : P.underlying f2.type = some (.int .i64)) (c0 : P.cellsOf f0.type = 1) (c1 : P.cellsOf f1.type = 1) (c2 : P.cellsOf f2.type = 1)
    (h : DataW.trod encH P W base sp held fuel e cs = some (S7 x, ps)) : cs = S8 x := by
  subst hfs
  obtain ⟨xs, m, _, hx, hlen, hxl, hf⟩ := DataW.trod_struct hs h
  have hxl' : xs.length = 3 := by simpa using hxl
  rw [hce] at hlen
  obtain ⟨x0, x1, x2, rfl⟩ : ∃ x0 x1 x2, xs = [x0, x1, x2] := by
    match xs, hxl' with
    | [a, b, c], _ => exact ⟨a, b, c, rfl⟩
  obtain ⟨v0, v1, v2, rfl⟩ : ∃ v0 v1 v2, cs = [v0, v1, v2] := by
    match cs, hlen with
    | [a, b, c], _ => exact ⟨a, b, c, rfl⟩
  have e0 : _ = some x0 := hf 0 f0 rfl
  have e1 : _ = some x1 := hf 1 f1 rfl
  have e2 : _ = some x2 := hf 2 f2 rfl
  rw [o0, c0] at e0
  rw [o1, c1] at e1
  rw [o2, c2] at e2
  obtain ⟨n0, q0, r0, _⟩ := DataW.trod_int t0 e0
  obtain ⟨s1, q1, r1, _⟩ := DataW.trod_string t1 e1
  obtain ⟨n2, q2, r2, _⟩ := DataW.trod_int t2 e2
  have hd := congrArg Prod.fst hx
  simp only [S7, r0, r1, r2, List.map_cons, List.map_nil, DataW.agg.injEq, List.cons.injEq, DataW.lit.injEq, Lit.int.injEq, Lit.string.injEq, true_and, and_true] at hd
  obtain ⟨d0, d1, d2⟩ := hd
  simp at q0 q1 q2
  rw [q0, q1, q2, ← d0, ← d2, R2 s1, ← d1]
  rfl
theorem Jl {name : String} {l : List (Int × An × Int)} {rest : List (String × DataW Unit)} {g : Nat} {t e : TypeId} {n : Nat} {fs : Array Field} {f0 f1 f2 : Field} (hg : P.globalNamed name = some g) (hty : (P.globals[g]?).map (·.type) = some t) (ht : P.underlying t = some (.array n e)) (hs : P.underlying e = some (.struct fs)) (hfs : fs = #[f0, f1, f2]) (hce : P.cellsOf e = 3) (hct : P.cellsOf t = 3 * n)
    (o0 : f0.offset = 0) (o1 : f1.offset = 1) (o2 : f2.offset = 2) (t0 : P.underlying f0.type = some (.int .i64)) (t1 : P.underlying f1.type = some .string) (t2 : P.underlying f2.type = some (.int .i64)) (c0 : P.cellsOf f0.type = 1) (c1 : P.cellsOf f1.type = 1) (c2 : P.cellsOf f2.type = 1) (hl : l.length = n)
    (h : laidMet P ((name, .agg (l.map S7)) :: rest) W) : W.var? P name = some (l.flatMap S8).toArray := by
  obtain ⟨ps, ⟨g', t', cs, fuel, p, q, hg', ht', hvar, hd, _, _⟩, _⟩ := h
  obtain rfl := Option.some.inj (hg.symm.trans hg')
  obtain rfl := Option.some.inj (hty.symm.trans ht')
  refine hvar.trans (congrArg some ?_)
  obtain ⟨xs, m, _, hx, hlen, hxl, hf⟩ := DataW.trod_array ht hd
  rw [hct] at hlen
  rw [hce] at hf
  have hdx : xs.map (·.1) = l.map S7 := by
    have := congrArg Prod.fst hx
    simpa using this.symm
  have row : ∀ i (hi : i < n), (cs.toList.drop (i * 3)).take 3 = S8 (l.getD i default) := fun i hi => by
    have h1 := hf i hi
    rw [List.getElem?_eq_getElem z3] at h1
    have h2 : xs[i].1 = S7 (l.getD i default) := by
      have := congrArg (·[i]?) hdx
      simpa [show i < xs.length by omega, show i < l.length by omega, List.getD] using this
    exact F1 hs hfs hce o0 o1 o2 t0 t1 t2 c0 c1 c2 (x := l.getD i default) (ps := xs[i].2) (by rw [h1, ← h2])
  have key : ∀ (l : List (Int × An × Int)) (cs : List Value), cs.length = 3 * l.length → (∀ i, i < l.length → (cs.drop (i * 3)).take 3 = S8 (l.getD i default)) → cs = l.flatMap S8 := by
    intro l
    induction l with
    | nil => intro cs hc _; simpa using hc
    | cons x r ih =>
      intro cs hc hr
      have h0 := hr 0 Ij
      simp at h0
      rw [List.flatMap_cons, ← List.take_append_drop 3 cs, h0]
      congr 1
      refine ih (cs.drop 3) (by simp at hc ⊢; omega) fun i hi => ?_
      have := hr (i + 1) (by simp; omega)
      rw [List.drop_drop, show 3 + i * 3 = (i + 1) * 3 by omega, this]
      simp
  have := key l cs.toList (by rw [hl]; simpa using hlen) (fun i hi => row i z3)
  rw [← this]
end
end Go.Proofs.YtdnjanhdnibkfaaGreatDoor.Jd

namespace Go.Proofs.YtdnjanhdnibkfaaGreatDoor.Jd
open Go.Proofs.Tryz
open Go.Proofs
set_option linter.unusedVariables false
set_option linter.unusedSimpArgs false
def AM0 (B : Av) {α : Type} (enc : α → List Value) (k : Nat) (a : Option Addr) (c : Nat) (xs : List α) : Prop := ∀ w : World, (∀ p ∈ B, w.heap[p.1]? = some p.2) → Sl w enc k a xs ∧ xs.length ≤ c
theorem AM0.slb {B : Av} {α : Type} {enc : α → List Value} {k : Nat} {a : Option Addr} {c : Nat} {xs : List α} (h : AM0 B enc k a c xs) : Hd B enc k a xs := fun w hw => (h w hw).1
theorem AM0.nil {B : Av} {α : Type} {enc : α → List Value} {k : Nat} {a : Option Addr} {c : Nat} : AM0 B enc k a c ([] : List α) := fun _ _ => ⟨Sl.nil, Nat.zero_le _⟩
end Go.Proofs.YtdnjanhdnibkfaaGreatDoor.Jd

namespace Go.Proofs.YtdnjanhdnibkfaaGreatDoor.Jd
open Go.Proofs.Tryz
open Go.Proofs
set_option linter.unusedVariables false
set_option linter.unusedSimpArgs false
section
variable {P : Program} {rd : Option Nat} {b0 : World} {Mk : List Nat} {N : Nat} {D : List Deferred} {ops : Array Oper} {L V : Av} {E : Fd} {T : Act → World → Prop}
variable {op : Op} {ty : TypeId} {pos : String} {after : Array Edge} {d : Nat}
theorem BJ1 {l : List (Bool × Oper)} {f : FuncId} {args : List Value} {R : World → Ending → World → Prop} (hc : Pk P N D b0 Mk L E op ty f args) (h : ∀ w, SH b0 Mk (V ++ L) w → Calls P f args.toArray w (R w)) (hn : Bp op = true := by rfl) (hd : Nat.blt d N = true := by rfl)
    (k : ∀ w e w', SH b0 Mk (V ++ L) w → R w e w' → ∃ v V', e = .returned v ∧ SH b0 Mk (V' ++ L) w' ∧ JD P rd b0 Mk N D ops L V' ((d, v) :: E) l T) :
    JD P rd b0 Mk N D ops L V E ((false, { dst := some d, op := op, type := ty, pos := pos, after := after, guard := none }) :: l) T := by
  intro a w ha hw
  unfold Ve
  rw [if_pos (by rfl)]
  refine Ez (Bs hn) z61 ((h w hw).mono fun e w' he => ?_)
  obtain ⟨v, V', rfl, h2, h3⟩ := k w e w' hw he
  exact ⟨_, rfl, SH b0 Mk L, fun y hy => hy, h2.right, h3 _ _ (ha.put hd _) h2⟩
end
end Go.Proofs.YtdnjanhdnibkfaaGreatDoor.Jd

namespace Go.Proofs
open Go.Shelf
open Go.RowKit in
set_option linter.unusedVariables false
set_option linter.unusedSimpArgs false
def Tryz.lays156_ren : Go.Shelf.Ren := ⟨fun | 156 => 48 | 165 => 98 | 166 => 99 | 169 => 100 | 240 => 153 | 241 => 154 | 276 => 206 | 277 => 207 | n => n, fun | 31 => 106 | 9 => 9 | 3 => 3 | 4 => 4 | 0 => 0 | 20 => 20 | 72 => 178 | 76 => 180 | 70 => 176 | 37 => 174 | 75 => 93 | 127 => 250 | 164 => 303 | 5 => 5 | 80 => 182 | n => n, fun | n => n⟩
theorem Tryz.lays156 : Go.Proofs.Lays.n156 Tryz.prog Tryz.lays156_ren := {
  mixed := by kernel_rfl
  f156 := func48.trans (congrArg some (by kernel_rfl))
  f165 := func98.trans (congrArg some (by kernel_rfl))
  f166 := func99.trans (congrArg some (by kernel_rfl))
  f169 := func100.trans (congrArg some (by kernel_rfl))
  f240 := func153.trans (congrArg some (by kernel_rfl))
  f241 := func154.trans (congrArg some (by kernel_rfl))
  f276 := func206.trans (congrArg some (by kernel_rfl))
  f277 := func207.trans (congrArg some (by kernel_rfl))
  t0 := underlying0
  a0 := isAgg0
  z0 := sizeOf0
  v0 := zeroValue0
  t3 := underlying3
  a3 := isAgg3
  z3 := sizeOf3
  v3 := zeroValue3
  t4 := underlying4
  a4 := isAgg4
  z4 := sizeOf4
  v4 := zeroValue4
  t9 := underlying9
  a9 := isAgg9
  z9 := sizeOf9
  v9 := zeroValue9
  t20 := underlying20
  a20 := isAgg20
  z20 := sizeOf20
  v20 := zeroValue20
  t31 := underlying106
  a31 := isAgg106
  z31 := sizeOf106
  v31 := zeroValue106
  t37 := underlying174
  a37 := isAgg174
  z37 := sizeOf174
  v37 := zeroValue174
  t70 := underlying176
  a70 := isAgg176
  z70 := sizeOf176
  v70 := zeroValue176
  t72 := underlying178
  a72 := isAgg178
  z72 := sizeOf178
  v72 := zeroValue178
  t75 := underlying93
  a75 := isAgg93
  z75 := sizeOf93
  v75 := zeroValue93
  t76 := underlying180
  a76 := isAgg180
  z76 := sizeOf180
  v76 := zeroValue180
  t127 := underlying250
  a127 := isAgg250
  z127 := sizeOf250
  v127 := zeroValue250
  t164 := underlying303
  a164 := isAgg303
  z164 := sizeOf303
  v164 := zeroValue303 }
theorem Tryz.Builder_Extra_156 : Builder.Extra Tryz.prog Tryz.lays156_ren := {
  sizeBuilder := by kernel_rfl
  liesBuilder := by kernel_rfl
  t5 := underlying5
  a5 := isAgg5
  z5 := sizeOf5
  v5 := zeroValue5
  infoByte := by kernel_rfl
  cellsByte := by kernel_rfl
  sizeByte := by kernel_rfl
  neB5 := by decide }
open Go.RowKit in
theorem Tryz.strings_Join_none (a : Option Addr) (c : Nat) (sep : ByteArray) (w : World) :
    Calls Tryz.prog 48 #[.slice a 0 c, .string sep] w fun e w' => e = .returned (.string ⟨#[]⟩) ∧ w' = w := Any.strings_Join_none Tryz.lays156 Tryz.Builder_Extra_156 a c sep w
open Go.RowKit in
theorem Tryz.strings_Join (bk o c : Nat) (xs : List ByteArray) (sep : ByteArray) (w : World) (hcells : ∀ (j : Nat) x, xs[j]? = some x → w.cell? ⟨bk, o + j, none⟩ = some (.string x)) (hbk : bk < w.heap.size) (hN : xs.length ≤ 140737488355328) (hcap : xs.length ≤ c) (hlen : (Lib.join (xs.map (·.data.toList)) sep.data.toList).length ≤ 140737488355328) :
    Calls Tryz.prog 48 #[.slice (some ⟨bk, o, none⟩) xs.length c, .string sep] w fun e w' => e = .returned (.string ⟨(Lib.join (xs.map (·.data.toList)) sep.data.toList).toArray⟩) ∧ Below w.heap.size w w' := Any.strings_Join Tryz.lays156 Tryz.Builder_Extra_156 bk o c xs sep w hcells hbk hN hcap hlen
open Go.RowKit Go.Sort Go.Lib in
def Tryz.laysM171_ren : Go.Shelf.Ren := ⟨fun | 171 => 46 | 243 => 93 | 246 => 148 | 283 => 198 | 284 => 199 | 285 => 200 | 286 => 201 | 129 => 245 | 317 => 244 | 318 => 246 | 319 => 247 | 320 => 248 | 337 => 264 | 338 => 265 | n => n, fun | 3 => 3 | 9 => 9 | 2 => 2 | 4 => 4 | 171 => 328 | 0 => 0 | 53 => 329 | 37 => 174 | 5 => 5 | 173 => 332 | 212 => 371 | 51 => 163 | 20 => 20 | 213 => 372 | 46 => 175 | 232 => 396 | 233 => 225 | n => n, fun | 17 => 20 | 18 => 21 | 19 => 22 | n => n⟩
theorem Tryz.laysM171 : Go.Proofs.LaysM.n171 Tryz.prog Tryz.laysM171_ren := {
  mixed := by kernel_rfl
  f129 := func245.trans (congrArg some (by kernel_rfl))
  f171 := func46.trans (congrArg some (by kernel_rfl))
  f243 := func93.trans (congrArg some (by kernel_rfl))
  f246 := func148.trans (congrArg some (by kernel_rfl))
  f283 := func198.trans (congrArg some (by kernel_rfl))
  f284 := func199.trans (congrArg some (by kernel_rfl))
  f285 := func200.trans (congrArg some (by kernel_rfl))
  f286 := func201.trans (congrArg some (by kernel_rfl))
  f317 := func244.trans (congrArg some (by kernel_rfl))
  f318 := func246.trans (congrArg some (by kernel_rfl))
  f319 := func247.trans (congrArg some (by kernel_rfl))
  f320 := func248.trans (congrArg some (by kernel_rfl))
  f337 := func264.trans (congrArg some (by kernel_rfl))
  f338 := func265.trans (congrArg some (by kernel_rfl))
  t0 := underlying0
  a0 := isAgg0
  z0 := sizeOf0
  v0 := zeroValue0
  t2 := underlying2
  a2 := isAgg2
  z2 := sizeOf2
  v2 := zeroValue2
  t3 := underlying3
  a3 := isAgg3
  z3 := sizeOf3
  v3 := zeroValue3
  t4 := underlying4
  a4 := isAgg4
  z4 := sizeOf4
  v4 := zeroValue4
  t5 := underlying5
  a5 := isAgg5
  z5 := sizeOf5
  v5 := zeroValue5
  t9 := underlying9
  a9 := isAgg9
  z9 := sizeOf9
  v9 := zeroValue9
  t20 := underlying20
  a20 := isAgg20
  z20 := sizeOf20
  v20 := zeroValue20
  t37 := underlying174
  a37 := isAgg174
  z37 := sizeOf174
  v37 := zeroValue174
  t46 := underlying175
  a46 := isAgg175
  z46 := sizeOf175
  v46 := zeroValue175
  t51 := underlying163
  a51 := isAgg163
  z51 := sizeOf163
  v51 := zeroValue163
  t53 := underlying329
  a53 := isAgg329
  z53 := sizeOf329
  v53 := zeroValue329
  t171 := underlying328
  a171 := isAgg328
  z171 := sizeOf328
  v171 := zeroValue328
  t173 := underlying332
  a173 := isAgg332
  z173 := sizeOf332
  v173 := zeroValue332
  t212 := underlying371
  a212 := isAgg371
  z212 := sizeOf371
  v212 := zeroValue371
  t213 := underlying372
  a213 := isAgg372
  z213 := sizeOf372
  t232 := underlying396
  a232 := isAgg396
  z232 := sizeOf396
  v232 := zeroValue396
  t233 := underlying225
  a233 := isAgg225
  z233 := sizeOf225
  v233 := zeroValue225
  g17 := by kernel_rfl
  g18 := by kernel_rfl
  g19 := by kernel_rfl
  i0 := by kernel_rfl
  i2 := by kernel_rfl
  i3 := by kernel_rfl
  i4 := by kernel_rfl
  i5 := by kernel_rfl
  i9 := by kernel_rfl
  i20 := by kernel_rfl
  i37 := by kernel_rfl
  i46 := by kernel_rfl
  i51 := by kernel_rfl
  i53 := by kernel_rfl
  i171 := by kernel_rfl
  i173 := by kernel_rfl
  i212 := by kernel_rfl
  i232 := by kernel_rfl
  i233 := by kernel_rfl
  m17 := by kernel_rfl
  m18 := by kernel_rfl
  m19 := by kernel_rfl }
open Go.RowKit Go.Sort Go.Lib in
theorem Tryz.strconv_Itoa (n : Int) (h0 : -9223372036854775808 ≤ n) (h1 : n ≤ 9223372036854775807) (w : World) (htab : Lib.TabIs Tryz.prog w "internal/strconv.uint64pow10" .u64 Lib.pow10Tab) :
    Calls Tryz.prog 46 #[.int .i64 n] w fun e w' => e = .returned (.string ⟨(Lib.itoa n).toArray⟩) ∧ ∃ k os, w' = grow (w.drewN k) os := Any.strconv_Itoa Tryz.laysM171 n h0 h1 w htab
open Go.RowKit Go.Lib in
def Tryz.lays145_ren : Go.Shelf.Ren := ⟨fun | 145 => 51 | 220 => 104 | 219 => 162 | 217 => 209 | 225 => 210 | 224 => 211 | 267 => 212 | 266 => 251 | 314 => 252 | n => n, fun | 9 => 9 | 4 => 4 | 59 => 115 | 3 => 3 | 5 => 5 | 46 => 175 | 146 => 376 | 51 => 163 | n => n, fun | 1 => 14 | n => n⟩
theorem Tryz.lays145 : Go.Proofs.Lays.n145 Tryz.prog Tryz.lays145_ren := {
  mixed := by kernel_rfl
  f145 := func51.trans (congrArg some (by kernel_rfl))
  f217 := func209.trans (congrArg some (by kernel_rfl))
  f219 := func162.trans (congrArg some (by kernel_rfl))
  f220 := func104.trans (congrArg some (by kernel_rfl))
  f224 := func211.trans (congrArg some (by kernel_rfl))
  f225 := func210.trans (congrArg some (by kernel_rfl))
  f266 := func251.trans (congrArg some (by kernel_rfl))
  f267 := func212.trans (congrArg some (by kernel_rfl))
  f314 := func252.trans (congrArg some (by kernel_rfl))
  t3 := underlying3
  a3 := isAgg3
  z3 := sizeOf3
  v3 := zeroValue3
  t4 := underlying4
  a4 := isAgg4
  z4 := sizeOf4
  v4 := zeroValue4
  t5 := underlying5
  a5 := isAgg5
  z5 := sizeOf5
  v5 := zeroValue5
  t9 := underlying9
  a9 := isAgg9
  z9 := sizeOf9
  v9 := zeroValue9
  t46 := underlying175
  a46 := isAgg175
  z46 := sizeOf175
  v46 := zeroValue175
  t51 := underlying163
  a51 := isAgg163
  z51 := sizeOf163
  v51 := zeroValue163
  t59 := underlying115
  a59 := isAgg115
  z59 := sizeOf115
  v59 := zeroValue115
  t146 := underlying376
  a146 := isAgg376
  z146 := sizeOf376
  v146 := zeroValue376
  g1 := by kernel_rfl }
open Go.RowKit Go.Lib in
theorem Tryz.strings_Cut (s sep : ByteArray) (m : Int) (w : World) (hs : s.size < 4294967281) (hm : w.cell? ⟨14, 0, none⟩ = some (.int .i64 m)) :
    Calls Tryz.prog 51 #[.string s, .string sep] w fun e w' => e = .returned (.tuple #[.string ⟨(Lib.cut s.data.toList sep.data.toList).1.toArray⟩, .string ⟨(Lib.cut s.data.toList sep.data.toList).2.1.toArray⟩, .bool (Lib.cut s.data.toList sep.data.toList).2.2]) ∧ ∃ n, w' = w.drewN n := Any.strings_Cut Tryz.lays145 s sep m w hs hm
def Tryz.laysM145_ren : Go.Shelf.Ren := ⟨fun | 145 => 51 | 220 => 104 | 219 => 162 | 217 => 209 | 225 => 210 | 224 => 211 | 267 => 212 | 266 => 251 | 314 => 252 | n => n, fun | 9 => 9 | 4 => 4 | 59 => 115 | 3 => 3 | 5 => 5 | 46 => 175 | 146 => 376 | 51 => 163 | n => n, fun | 1 => 14 | n => n⟩
theorem Tryz.laysM145 : Go.Proofs.LaysM.n145 Tryz.prog Tryz.laysM145_ren := {
  mixed := by kernel_rfl
  f145 := func51.trans (congrArg some (by kernel_rfl))
  f217 := func209.trans (congrArg some (by kernel_rfl))
  f219 := func162.trans (congrArg some (by kernel_rfl))
  f220 := func104.trans (congrArg some (by kernel_rfl))
  f224 := func211.trans (congrArg some (by kernel_rfl))
  f225 := func210.trans (congrArg some (by kernel_rfl))
  f266 := func251.trans (congrArg some (by kernel_rfl))
  f267 := func212.trans (congrArg some (by kernel_rfl))
  f314 := func252.trans (congrArg some (by kernel_rfl))
  t3 := underlying3
  a3 := isAgg3
  z3 := sizeOf3
  v3 := zeroValue3
  t4 := underlying4
  a4 := isAgg4
  z4 := sizeOf4
  v4 := zeroValue4
  t5 := underlying5
  a5 := isAgg5
  z5 := sizeOf5
  v5 := zeroValue5
  t9 := underlying9
  a9 := isAgg9
  z9 := sizeOf9
  v9 := zeroValue9
  t46 := underlying175
  a46 := isAgg175
  z46 := sizeOf175
  v46 := zeroValue175
  t51 := underlying163
  a51 := isAgg163
  z51 := sizeOf163
  v51 := zeroValue163
  t59 := underlying115
  a59 := isAgg115
  z59 := sizeOf115
  v59 := zeroValue115
  t146 := underlying376
  a146 := isAgg376
  z146 := sizeOf376
  v146 := zeroValue376
  g1 := by kernel_rfl
  i3 := by kernel_rfl
  i4 := by kernel_rfl
  i5 := by kernel_rfl
  i9 := by kernel_rfl
  i46 := by kernel_rfl
  i51 := by kernel_rfl
  i59 := by kernel_rfl
  i146 := by kernel_rfl
  m1 := by kernel_rfl
  s1_3 := fun w h => Go.Proofs.cell_of_shapedOpen_int (zero := #[.int .i64 0]) (t := 3) h (of_decide_eq_true (by kernel_rfl)) (by kernel_rfl) rfl (by kernel_rfl) (by kernel_rfl) underlying3 }
def Tryz.laysGu47_ren : Go.Shelf.Ren := ⟨fun | 47 => 296 | n => n, fun | 24 => 201 | 3 => 3 | 0 => 0 | n => n, fun | n => n⟩
theorem Tryz.laysGu47 : Go.Proofs.LaysGu.n47 Tryz.prog Tryz.laysGu47_ren := {
  mixed := by kernel_rfl
  f47 := func296.trans (congrArg some (by kernel_rfl))
  t0 := underlying0
  a0 := isAgg0
  z0 := sizeOf0
  v0 := zeroValue0
  i0 := by kernel_rfl
  t3 := underlying3
  a3 := isAgg3
  z3 := sizeOf3
  v3 := zeroValue3
  i3 := by kernel_rfl
  t24 := underlying201
  a24 := isAgg201
  z24 := sizeOf201
  v24 := zeroValue201
  i24 := by kernel_rfl }
open Go.RowKit Go.Lib Go.Sort in
theorem Tryz.IntSlice_Swap (blk off c size : Nat) (W : World) (x y : Int) (i j : Nat) (hi : i < size) (hj : j < size) (_hsz : size < 4611686018427387904) (ci : W.cell? ⟨blk, off + i, none⟩ = some (.int .i64 x)) (cj : W.cell? ⟨blk, off + j, none⟩ = some (.int .i64 y)) (fi : W.frozen? ⟨blk, off + i, none⟩ = false) (fj : W.frozen? ⟨blk, off + j, none⟩ = false) :
    Calls Tryz.prog 296 #[.slice (some ⟨blk, off, none⟩) size c, .int .i64 i, .int .i64 j] W fun e w' => e = .returned (.tuple #[]) ∧ ∃ q, w' = ((W.setCell ⟨blk, off + i, none⟩ (.int .i64 y)).setCell ⟨blk, off + j, none⟩ (.int .i64 x)).drewN q := Any.IntSlice_Swap Tryz.laysGu47 blk off c size W x y i j hi hj _hsz ci cj fi fj
end Go.Proofs

namespace Go.Proofs.YtdnjanhdnibkfaaGreatDoor.Jd
open Go.Proofs.Tryz
open Go.Proofs
open Go.RowKit (Below)
set_option maxRecDepth 100000
set_option maxHeartbeats 8000000
set_option linter.unusedVariables false
set_option linter.unusedSimpArgs false
def Ma : List Int := [1116352408, 1899447441, 3049323471, 3921009573, 961987163, 1508970993, 2453635748, 2870763221, 3624381080, 310598401, 607225278, 1426881987, 1925078388, 2162078206, 2614888103, 3248222580, 3835390401, 4022224774, 264347078, 604807628, 770255983, 1249150122, 1555081692, 1996064986, 2554220882, 2821834349, 2952996808, 3210313671, 3336571891, 3584528711, 113926993, 338241895, 666307205, 773529912, 1294757372, 1396182291, 1695183700, 1986661051, 2177026350, 2456956037, 2730485921, 2820302411, 3259730800, 3345764771, 3516065817, 3600352804, 4094571909, 275423344, 430227734, 506948616, 659060556, 883997877, 958139571, 1322822218, 1537002063, 1747873779, 1955562222, 2024104815, 2227730452, 2361852424, 2428436474, 2756734187, 3204031479, 3329325298]
theorem xE : Ma.length = 64 := rfl
def AZ2 (x : Int) (k : Int) : Int := (tH .u32 (fZ .u32 x (Cq .u64 (IntKind.u64.wrap k) 31)) (Ae .u32 x (IntKind.u64.wrap (32 - (Cq .u64 (IntKind.u64.wrap k) 31)))))
def qA (w_ : Int) (n_ : Int) : Int := (AZ2 w_ (IntKind.wrap .i64 (0 - n_)))
def AM1 (w_ : Int) (a : Int) (b : Int) (c : Int) : Int := (Gk .u32 (Gk .u32 (qA w_ a) (qA w_ b)) (qA w_ c))
def zB (w_ : Int) : Int := (Gk .u32 (Gk .u32 (qA w_ 7) (qA w_ 18)) (Ae .u32 w_ 3))
def zC (w_ : Int) : Int := (Gk .u32 (Gk .u32 (qA w_ 17) (qA w_ 19)) (Ae .u32 w_ 10))
def qB (w_ : Int) : Int := (AM1 w_ 2 13 22)
def dO (w_ : Int) : Int := (AM1 w_ 6 11 25)
def Ox (b : An) (x_1 : Nat) (x_2 : List Int) : Nat → Nat → List Int → Nat × (List Int)
  | 0, x_7, x_8 => (x_7, x_8)
  | n_9 + 1, x_7, x_8 => (if ((x_7 : Nat) : Int) < ((((Lg ((b.take ((4 * x_1) + 4)).drop (4 * x_1))).length) : Nat) : Int) then (Ox b x_1 x_2 n_9 (x_7 + 1) (x_8.set x_1 (tH .u32 (fZ .u32 (x_8.getD x_1 default) 8) (IntKind.u32.wrap ((Lg ((b.take ((4 * x_1) + 4)).drop (4 * x_1))).getD x_7 default))))) else (x_7, x_8))
def Mb (b : An) : Nat → Nat → List Int → Nat × (List Int)
  | 0, x_1, x_2 => (x_1, x_2)
  | n_3 + 1, x_1, x_2 => (if ((x_1 : Nat) : Int) < 64 then (if ((x_1 : Nat) : Int) < 16 then (Iu (Ox b x_1 x_2 (((Lg ((b.take ((4 * x_1) + 4)).drop (4 * x_1))).length) + 1) 0 x_2) (fun x_7 x_8 => (Mb b n_3 (x_1 + 1) x_8))) else (Mb b n_3 (x_1 + 1) (x_2.set x_1 (IntKind.u32.wrap ((IntKind.u32.wrap ((IntKind.u32.wrap ((x_2.getD (((((x_1 : Nat) : Int) - 16)).toNat) default) + (zB (x_2.getD (((((x_1 : Nat) : Int) - 15)).toNat) default)))) + (x_2.getD (((((x_1 : Nat) : Int) - 7)).toNat) default))) + (zC (x_2.getD (((((x_1 : Nat) : Int) - 2)).toNat) default))))))) else (x_1, x_2))
def Sx (b : An) : List Int := (Iu (Mb b (64 + 1) 0 (List.replicate 64 (0 : Int))) (fun x_1 x_2 => x_2))
def gW (s : An) : Nat → List Int → List Int
  | 0, out_1 => (out_1)
  | n_2 + 1, out_1 => (if (((out_1.length : Nat) : Int) % 64) ≠ 56 then (gW s n_2 (out_1 ++ ([0] : List Int))) else (out_1))
def tS (s : An) : An := (Qw (gW s ((120 - ((Lg s) ++ ([128] : List Int)).length % 64) % 64 + 1) ((Lg s) ++ ([128] : List Int))) (fun out_1 => (Pn ((((((((out_1 ++ ([(IntKind.u8.wrap (Ae .i64 (((s.length : Nat) : Int) * 8) 56))] : List Int)) ++ ([(IntKind.u8.wrap (Ae .i64 (((s.length : Nat) : Int) * 8) 48))] : List Int)) ++ ([(IntKind.u8.wrap (Ae .i64 (((s.length : Nat) : Int) * 8) 40))] : List Int)) ++ ([(IntKind.u8.wrap (Ae .i64 (((s.length : Nat) : Int) * 8) 32))] : List Int)) ++ ([(IntKind.u8.wrap (Ae .i64 (((s.length : Nat) : Int) * 8) 24))] : List Int)) ++ ([(IntKind.u8.wrap (Ae .i64 (((s.length : Nat) : Int) * 8) 16))] : List Int)) ++ ([(IntKind.u8.wrap (Ae .i64 (((s.length : Nat) : Int) * 8) 8))] : List Int)) ++ ([(IntKind.u8.wrap (Ae .i64 (((s.length : Nat) : Int) * 8) 0))] : List Int)))))
def gX (s : An) (x_1 : Int) (x_2 : Int) (x_3 : Int) (x_4 : Int) (x_5 : Int) (x_6 : Int) (x_7 : Int) (x_8 : Int) (x_9 : An) : Nat → Nat → Int → Int → Int → Int → Int → Int → Int → Int → Nat × Int × Int × Int × Int × Int × Int × Int × Int
  | 0, x_13, x_14, x_15, x_16, x_17, x_18, x_19, x_20, x_21 => (x_13, x_14, x_15, x_16, x_17, x_18, x_19, x_20, x_21)
  | n_22 + 1, x_13, x_14, x_15, x_16, x_17, x_18, x_19, x_20, x_21 => (if ((x_13 : Nat) : Int) < 64 then (gX s x_1 x_2 x_3 x_4 x_5 x_6 x_7 x_8 x_9 n_22 (x_13 + 1) (IntKind.u32.wrap ((IntKind.u32.wrap ((IntKind.u32.wrap ((IntKind.u32.wrap ((IntKind.u32.wrap (x_21 + (dO x_18))) + (Gk .u32 (Cq .u32 x_18 x_19) (Cq .u32 (Gk .u32 (IntKind.max .u32) x_18) x_20)))) + (Ma.getD x_13 default))) + ((Sx (x_9.take 64)).getD x_13 default))) + (IntKind.u32.wrap ((qB x_14) + (Gk .u32 (Gk .u32 (Cq .u32 x_14 x_15) (Cq .u32 x_14 x_16)) (Cq .u32 x_15 x_16)))))) x_14 x_15 x_16 (IntKind.u32.wrap (x_17 + (IntKind.u32.wrap ((IntKind.u32.wrap ((IntKind.u32.wrap ((IntKind.u32.wrap (x_21 + (dO x_18))) + (Gk .u32 (Cq .u32 x_18 x_19) (Cq .u32 (Gk .u32 (IntKind.max .u32) x_18) x_20)))) + (Ma.getD x_13 default))) + ((Sx (x_9.take 64)).getD x_13 default))))) x_18 x_19 x_20) else (x_13, x_14, x_15, x_16, x_17, x_18, x_19, x_20, x_21))
def gY (s : An) : Nat → Int → Int → Int → Int → Int → Int → Int → Int → An → Int × Int × Int × Int × Int × Int × Int × Int × An
  | 0, x_1, x_2, x_3, x_4, x_5, x_6, x_7, x_8, x_9 => (x_1, x_2, x_3, x_4, x_5, x_6, x_7, x_8, x_9)
  | n_10 + 1, x_1, x_2, x_3, x_4, x_5, x_6, x_7, x_8, x_9 => (if 64 ≤ ((x_9.length : Nat) : Int) then (AK4 (gX s x_1 x_2 x_3 x_4 x_5 x_6 x_7 x_8 x_9 (64 + 1) 0 x_1 x_2 x_3 x_4 x_5 x_6 x_7 x_8) (fun x_13 x_14 x_15 x_16 x_17 x_18 x_19 x_20 x_21 => (gY s n_10 (IntKind.u32.wrap (x_1 + x_14)) (IntKind.u32.wrap (x_2 + x_15)) (IntKind.u32.wrap (x_3 + x_16)) (IntKind.u32.wrap (x_4 + x_17)) (IntKind.u32.wrap (x_5 + x_18)) (IntKind.u32.wrap (x_6 + x_19)) (IntKind.u32.wrap (x_7 + x_20)) (IntKind.u32.wrap (x_8 + x_21)) (x_9.drop 64)))) else (x_1, x_2, x_3, x_4, x_5, x_6, x_7, x_8, x_9))
def Nr (s : An) : An := (AK4 (gY s ((tS s).length + 1) 1779033703 3144134277 1013904242 2773480762 1359893119 2600822924 528734635 1541459225 (tS s)) (fun x_1 x_2 x_3 x_4 x_5 x_6 x_7 x_8 x_9 => (Pn (((((((([(IntKind.u8.wrap (Ae .u32 x_1 24)), (IntKind.u8.wrap (Ae .u32 x_1 16)), (IntKind.u8.wrap (Ae .u32 x_1 8)), (IntKind.u8.wrap x_1)] : List Int) ++ ([(IntKind.u8.wrap (Ae .u32 x_2 24)), (IntKind.u8.wrap (Ae .u32 x_2 16)), (IntKind.u8.wrap (Ae .u32 x_2 8)), (IntKind.u8.wrap x_2)] : List Int)) ++ ([(IntKind.u8.wrap (Ae .u32 x_3 24)), (IntKind.u8.wrap (Ae .u32 x_3 16)), (IntKind.u8.wrap (Ae .u32 x_3 8)), (IntKind.u8.wrap x_3)] : List Int)) ++ ([(IntKind.u8.wrap (Ae .u32 x_4 24)), (IntKind.u8.wrap (Ae .u32 x_4 16)), (IntKind.u8.wrap (Ae .u32 x_4 8)), (IntKind.u8.wrap x_4)] : List Int)) ++ ([(IntKind.u8.wrap (Ae .u32 x_5 24)), (IntKind.u8.wrap (Ae .u32 x_5 16)), (IntKind.u8.wrap (Ae .u32 x_5 8)), (IntKind.u8.wrap x_5)] : List Int)) ++ ([(IntKind.u8.wrap (Ae .u32 x_6 24)), (IntKind.u8.wrap (Ae .u32 x_6 16)), (IntKind.u8.wrap (Ae .u32 x_6 8)), (IntKind.u8.wrap x_6)] : List Int)) ++ ([(IntKind.u8.wrap (Ae .u32 x_7 24)), (IntKind.u8.wrap (Ae .u32 x_7 16)), (IntKind.u8.wrap (Ae .u32 x_7 8)), (IntKind.u8.wrap x_7)] : List Int)) ++ ([(IntKind.u8.wrap (Ae .u32 x_8 24)), (IntKind.u8.wrap (Ae .u32 x_8 16)), (IntKind.u8.wrap (Ae .u32 x_8 8)), (IntKind.u8.wrap x_8)] : List Int)))))
end Go.Proofs.YtdnjanhdnibkfaaGreatDoor.Jd

namespace Go.Proofs.YtdnjanhdnibkfaaGreatDoor.Jd
open Go.Proofs.Tryz
open Go.Proofs
open Go.RowKit (Below)
set_option linter.unusedVariables false
set_option linter.unusedSimpArgs false
/-- What the library's variables hold where a call begins. -/
structure Gl (w : World) : Prop where
  mx : ∃ m, w.cell? ⟨14, 0, none⟩ = some (.int .i64 m)
  p10 : Lib.TabIs Tryz.prog w "internal/strconv.uint64pow10" .u64 Lib.pow10Tab
  vb : ∃ T f, w.heap[15]? = some (Obj.cells ([(Value.int .i64 (1)), (Value.string (bs ([99, 114, 101, 97, 116, 101] : An))), (Value.int .i64 (4)), (Value.int .i64 (2)), (Value.string (bs ([115, 117, 115, 112, 101, 110, 100] : An))), (Value.int .i64 (2)), (Value.int .i64 (3)), (Value.string (bs ([114, 101, 115, 117, 109, 101] : An))), (Value.int .i64 (2)), (Value.int .i64 (4)), (Value.string (bs ([100, 114, 97, 105, 110] : An))), (Value.int .i64 (2)), (Value.int .i64 (5)), (Value.string (bs ([100, 101, 108, 101, 116, 101] : An))), (Value.int .i64 (4)), (Value.int .i64 (6)), (Value.string (bs ([114, 111, 116, 97, 116, 101] : An))), (Value.int .i64 (4)), (Value.int .i64 (7)), (Value.string (bs ([97, 99, 108] : An))), (Value.int .i64 (4)), (Value.int .i64 (8)), (Value.string (bs ([107, 105, 108, 108] : An))), (Value.int .i64 (2)), (Value.int .i64 (9)), (Value.string (bs ([108, 105, 115, 116] : An))), (Value.int .i64 (1)), (Value.int .i64 (10)), (Value.string (bs ([115, 104, 111, 119] : An))), (Value.int .i64 (1))]).toArray T f)
  sha : ∃ T f, w.heap[11]? = some (Obj.cells (aI .u32 Ma).toArray T f)
  ety : w.cell? ⟨12, 0, none⟩ = some (.iface 317 (.agg #[.pointer (some ⟨23, 93, none⟩)]))
theorem AM2 {w w' : World} (he : iY w w') {name : String} {cs : Array Value} (h : w.var? Tryz.prog name = some cs) : w'.var? Tryz.prog name = some cs := by
  unfold World.var? at *
  cases hg : Tryz.prog.globalNamed name with
  | none => rw [hg] at h; cases h
  | some b =>
    rw [hg] at h
    simp only [Option.bind_some] at h ⊢
    cases hb : w.heap[b]? with
    | none => rw [hb] at h; cases h
    | some ob =>
      rw [he.block b (Array.getElem?_eq_some_iff.1 hb).1]
      exact h
theorem S9 {w w' : World} (he : iY w w') {k : Nat} (h : ∃ m, w.cell? ⟨k, 0, none⟩ = some (.int .i64 m)) : ∃ m, w'.cell? ⟨k, 0, none⟩ = some (.int .i64 m) := by
  obtain ⟨m, hm⟩ := h
  refine ⟨m, ?_⟩
  have hlt := World.block_lt_of_cell? w _ hm
  simp only [World.cell?] at hm ⊢
  rw [he.block _ hlt]
  exact hm
theorem F2 {w w' : World} (he : iY w w') {a : Addr} {v : Value} (h : w.cell? a = some v) : w'.cell? a = some v := by
  have hlt := World.block_lt_of_cell? w _ h
  simp only [World.cell?] at h ⊢
  rw [he.block _ hlt]
  exact h
theorem zD {w w' : World} (he : iY w w') {k : Nat} {cs : Array Value} (h : ∃ T f, w.heap[k]? = some (Obj.cells cs T f)) : ∃ T f, w'.heap[k]? = some (Obj.cells cs T f) := by
  obtain ⟨T, f, h⟩ := h
  exact ⟨T, f, by rw [he.block k (Array.getElem?_eq_some_iff.1 h).1]; exact h⟩
theorem Gl.ext {w w' : World} (h : Gl w) (he : iY w w') : Gl w' := ⟨S9 he h.mx, AM2 he h.p10, zD he h.vb, zD he h.sha, F2 he h.ety⟩
theorem mY (w : World) (n : Nat) : iY w (w.drewN n) := ⟨rfl, rfl, rfl, Nat.le_refl _, fun _ _ => rfl⟩
theorem T3 (w : World) (os : Array Obj) : iY w (Sort.grow w os) := ⟨rfl, rfl, rfl, by simp [Sort.grow], fun k hk => by
  simp only [Sort.grow]
  exact Array.getElem?_append_left hk⟩
theorem bI (s : An) : (bs s).data.toList = s := by simp [bs]
theorem jW (w : World) {s sep : An} (hG : Gl w) (hn : s.length ≤ 4000000000) : Ha Tryz.prog 51 [.string (bs s), .string (bs sep)] w (.tuple [.string (bs (Lib.cut s sep).1), .string (bs (Lib.cut s sep).2.1), .bool (Lib.cut s sep).2.2].toArray) := by
  obtain ⟨m, hm⟩ := hG.mx
  refine (Tryz.strings_Cut (bs s) (bs sep) m w (by rw [Im]; omega) hm).mono fun e w' ⟨he, n, hw⟩ => ⟨?_, hw ▸ mY w n⟩
  rw [he, bI, bI]; rfl

theorem Qj (w : World) {n : Int} (hG : Gl w) (hn : -9223372036854775808 ≤ n ∧ n ≤ 9223372036854775807) : Ha Tryz.prog 46 [.int .i64 n] w (.string (bs (Lib.itoa n))) := by
  refine (Tryz.strconv_Itoa n hn.1 hn.2 w hG.p10).mono fun e w' ⟨he, k, os, hw⟩ => ⟨he, ?_⟩
  subst hw
  exact (mY w k).trans ((T3 _ os).mono Ij)

theorem gZ (w : World) {a : Option Addr} {c : Nat} {xs : List An} {sep : An} (h_xs : Sl w eS 1 a xs) (hc : xs.length ≤ c) (hn : xs.length ≤ 1000000) (hl : (Lib.join xs sep).length ≤ 1000000) : Ha Tryz.prog 48 [.slice a xs.length c, .string (bs sep)] w (.string (bs (Lib.join xs sep))) := by
  by_cases hx : xs = []
  · subst hx
    refine (Tryz.strings_Join_none a c (bs sep) w).mono fun e w' ⟨he, hw⟩ => ⟨he, hw ▸ Below.refl _ _⟩
  · obtain ⟨x0, hx0⟩ : ∃ x, xs[0]? = some x := by cases xs with
      | nil => exact absurd rfl hx
      | cons x r => exact ⟨x, rfl⟩
    obtain ⟨b, off, rfl, _, hc0⟩ := h_xs 0 x0 hx0
    have hb : b < w.heap.size := World.block_lt_of_cell? w _ (hc0 0 _ rfl)
    have hm : (xs.map bs).map (fun x : ByteArray => x.data.toList) = xs := by
      rw [List.map_map]
      conv => rhs; rw [← List.map_id xs]
      exact List.map_congr_left fun x _ => bI x
    have := Tryz.strings_Join b off c (xs.map bs) (bs sep) w (fun j x hj => by
      rw [List.getElem?_map] at hj
      cases hy : xs[j]? with
      | none => rw [hy] at hj; cases hj
      | some y =>
        rw [hy] at hj; cases hj
        obtain ⟨b', off', he, _, hcj⟩ := h_xs j y hy
        cases he
        have := hcj 0 _ rfl
        simpa using this) hb (by rw [List.length_map]; omega) (by rw [List.length_map]; exact hc) (by rw [hm, bI]; omega)
    rw [List.length_map] at this
    refine this.mono fun e w' ⟨he, hw⟩ => ⟨?_, hw⟩
    rw [he, hm, bI]; rfl

end Go.Proofs.YtdnjanhdnibkfaaGreatDoor.Jd

namespace Go.Proofs.YtdnjanhdnibkfaaGreatDoor.Jd
open Go.Proofs.Tryz
open Go.Proofs
set_option maxRecDepth 100000
open Go.RowKit Go.Extern.Stop Go.Stop Go.Extern
set_option linter.unusedVariables false
set_option linter.unusedSimpArgs false
theorem tU (v : Value) (w : World) : (Extern.ReflectliteType.typeOf #[.iface 400 v]).run Tryz.prog w = .ok (.iface 317 (.agg #[.pointer (some ⟨23, 400, none⟩)])) w := by kernel_rfl
theorem bJ (w : World) : ((Extern.ReflectliteType.method fun t => do Extern.Rtype.noPackHeld "Comparable" t; pure (.bool (← typeInfo t).comparable)) #[.agg #[.pointer (some ⟨23, 400, none⟩)]]).run Tryz.prog w = .ok (.bool true) w := by kernel_rfl
theorem Pp (v : Value) (w : World) : (Go.method 530 317 v "Comparable").run Tryz.prog w = .ok (306, v) w := by kernel_rfl
theorem T4 : (Tryz.prog.info? 400).map (·.comparable) = some true := by kernel_rfl
theorem T5 : (Tryz.prog.info? 419).map (·.size) = some 1 := by kernel_rfl
theorem BJ2 (v : Value) (xT : TypeId) (w : World) : (Instr.typeAssert (.iface 400 v) xT 319 true).run Tryz.prog w = .ok (.tuple #[.nilIface, .bool false]) w := run_typeAssert_lacksB underlying319 z2 z2 v xT w
theorem F3 (v : Value) (xT : TypeId) (w : World) : (Instr.typeAssert (.iface 400 v) xT 322 true).run Tryz.prog w = .ok (.tuple #[.nilIface, .bool false]) w := run_typeAssert_lacksB underlying322 z2 z2 v xT w
theorem xF (v : Value) (xT : TypeId) (w : World) : (Instr.typeAssert (.iface 400 v) xT 324 true).run Tryz.prog w = .ok (.tuple #[.nilIface, .bool false]) w := run_typeAssert_lacksB underlying324 z2 z2 v xT w
theorem AM3 (a : Addr) (w : World) :
    Calls Tryz.prog 81 #[.iface 400 (.pointer (some a)), .iface 400 (.pointer (some a))] w fun e w' => e = .returned (.bool true) ∧ w' = w := by
  obtain ⟨i, hi, hcmp⟩ := Option.map_eq_some_iff.1 T4
  obtain ⟨j, hj, hjs⟩ := Option.map_eq_some_iff.1 T5
  have h8 := @run_callFunc_extern Tryz.prog 132 _ Extern.ReflectliteType.typeOf func132 z2 z2 z2 z2
  have h32 := fun w => (@run_callFunc_extern Tryz.prog 306 _ (Extern.ReflectliteType.method fun t => do Extern.Rtype.noPackHeld "Comparable" t; pure (.bool (← typeInfo t).comparable)) func306 z2 z2 z2 z2 #[.agg #[.pointer (some ⟨23, 400, none⟩)]] w).trans (by rw [bJ]; rfl : _ = Result.ok (Next.value (.bool true)) w)
  have tT := tU
  have mR := Pp
  have heq := run_eql_iface_ptr_same (P := Tryz.prog) w a underlying93 underlying400 hi hcmp hj
  go_enter func81, ntmps81
  go_wp2
  refine wp_loop_rounds 1 ?_
  rw [rounds_succ]
  go_wp2
  go_ret
  exact ⟨rfl, rfl⟩
theorem T6 (a b : Addr) (ca cb : Array Value) (ta tb : TypeId) (w : World) (hne : a ≠ b) (ha : w.heap[a.block]? = some (.cells ca ta (0, 0))) (hb : w.heap[b.block]? = some (.cells cb tb (0, 0))) :
    Calls Tryz.prog 81 #[.iface 400 (.pointer (some a)), .iface 400 (.pointer (some b))] w fun e w' => e = .returned (.bool false) ∧ w' = w := by
  obtain ⟨i, hi, hcmp⟩ := Option.map_eq_some_iff.1 T4
  obtain ⟨j, hj, hjs⟩ := Option.map_eq_some_iff.1 T5
  have h8 := @run_callFunc_extern Tryz.prog 132 _ Extern.ReflectliteType.typeOf func132 z2 z2 z2 z2
  have h32 := fun w => (@run_callFunc_extern Tryz.prog 306 _ (Extern.ReflectliteType.method fun t => do Extern.Rtype.noPackHeld "Comparable" t; pure (.bool (← typeInfo t).comparable)) func306 z2 z2 z2 z2 #[.agg #[.pointer (some ⟨23, 400, none⟩)]] w).trans (by rw [bJ]; rfl : _ = Result.ok (Next.value (.bool true)) w)
  have tT := tU
  have mR := Pp
  have nE := BJ2
  have uE := F3
  have vE := xF
  have heq := run_eql_iface_ptr_other (P := Tryz.prog) w underlying93 underlying400 hi hcmp hj (by rw [hjs]; decide) hne ha hb
  go_enter func81, ntmps81
  go_wp2
  refine wp_loop_rounds 1 ?_
  rw [rounds_succ]
  go_wp2
  go_ret
  exact ⟨rfl, rfl⟩
theorem Ih (w : World) {a : Addr} : Ha Tryz.prog 81 [.iface 400 (.pointer (some a)), .iface 400 (.pointer (some a))] w (.bool true) :=
  (AM3 a w).mono fun e w' ⟨he, hw⟩ => ⟨he, hw ▸ Below.refl _ _⟩
theorem Jb (w : World) {a b : Addr} (hne : a ≠ b) (ha : ∃ c t, w.heap[a.block]? = some (.cells c t (0, 0))) (hb : ∃ c t, w.heap[b.block]? = some (.cells c t (0, 0))) : Ha Tryz.prog 81 [.iface 400 (.pointer (some a)), .iface 400 (.pointer (some b))] w (.bool false) := by
  obtain ⟨ca, ta, ha⟩ := ha
  obtain ⟨cb, tb, hb⟩ := hb
  exact (T6 a b ca cb ta tb w hne ha hb).mono fun e w' ⟨he, hw⟩ => ⟨he, hw ▸ Below.refl _ _⟩

/-- What the sentinels hold where a call begins. -/
structure Er (w : World) (ea0 ea1 ea2 ea3 ea4 ea5 ea6 ea7 ea8 ea9 ea10 ea11 ea12 ea13 ea14 ea15 : Addr) : Prop where
  v0 : ∃ T f, w.heap[0]? = some (Obj.cells [Value.iface 400 (.pointer (some ea0))].toArray T f)
  b0 : ∃ c t, w.heap[ea0.block]? = some (.cells c t (0, 0))
  v1 : ∃ T f, w.heap[1]? = some (Obj.cells [Value.iface 400 (.pointer (some ea1))].toArray T f)
  b1 : ∃ c t, w.heap[ea1.block]? = some (.cells c t (0, 0))
  v2 : ∃ T f, w.heap[2]? = some (Obj.cells [Value.iface 400 (.pointer (some ea2))].toArray T f)
  b2 : ∃ c t, w.heap[ea2.block]? = some (.cells c t (0, 0))
  v3 : ∃ T f, w.heap[3]? = some (Obj.cells [Value.iface 400 (.pointer (some ea3))].toArray T f)
  b3 : ∃ c t, w.heap[ea3.block]? = some (.cells c t (0, 0))
  v4 : ∃ T f, w.heap[4]? = some (Obj.cells [Value.iface 400 (.pointer (some ea4))].toArray T f)
  b4 : ∃ c t, w.heap[ea4.block]? = some (.cells c t (0, 0))
  v5 : ∃ T f, w.heap[5]? = some (Obj.cells [Value.iface 400 (.pointer (some ea5))].toArray T f)
  b5 : ∃ c t, w.heap[ea5.block]? = some (.cells c t (0, 0))
  v6 : ∃ T f, w.heap[6]? = some (Obj.cells [Value.iface 400 (.pointer (some ea6))].toArray T f)
  b6 : ∃ c t, w.heap[ea6.block]? = some (.cells c t (0, 0))
  v7 : ∃ T f, w.heap[7]? = some (Obj.cells [Value.iface 400 (.pointer (some ea7))].toArray T f)
  b7 : ∃ c t, w.heap[ea7.block]? = some (.cells c t (0, 0))
  v8 : ∃ T f, w.heap[8]? = some (Obj.cells [Value.iface 400 (.pointer (some ea8))].toArray T f)
  b8 : ∃ c t, w.heap[ea8.block]? = some (.cells c t (0, 0))
  v9 : ∃ T f, w.heap[9]? = some (Obj.cells [Value.iface 400 (.pointer (some ea9))].toArray T f)
  b9 : ∃ c t, w.heap[ea9.block]? = some (.cells c t (0, 0))
  v10 : ∃ T f, w.heap[10]? = some (Obj.cells [Value.iface 400 (.pointer (some ea10))].toArray T f)
  b10 : ∃ c t, w.heap[ea10.block]? = some (.cells c t (0, 0))
  v11 : ∃ T f, w.heap[13]? = some (Obj.cells [Value.iface 400 (.pointer (some ea11))].toArray T f)
  b11 : ∃ c t, w.heap[ea11.block]? = some (.cells c t (0, 0))
  v12 : ∃ T f, w.heap[16]? = some (Obj.cells [Value.iface 400 (.pointer (some ea12))].toArray T f)
  b12 : ∃ c t, w.heap[ea12.block]? = some (.cells c t (0, 0))
  v13 : ∃ T f, w.heap[17]? = some (Obj.cells [Value.iface 400 (.pointer (some ea13))].toArray T f)
  b13 : ∃ c t, w.heap[ea13.block]? = some (.cells c t (0, 0))
  v14 : ∃ T f, w.heap[18]? = some (Obj.cells [Value.iface 400 (.pointer (some ea14))].toArray T f)
  b14 : ∃ c t, w.heap[ea14.block]? = some (.cells c t (0, 0))
  v15 : ∃ T f, w.heap[19]? = some (Obj.cells [Value.iface 400 (.pointer (some ea15))].toArray T f)
  b15 : ∃ c t, w.heap[ea15.block]? = some (.cells c t (0, 0))
  n1_0 : ea1 ≠ ea0
  n2_6 : ea2 ≠ ea6
  n3_7 : ea3 ≠ ea7
  n5_0 : ea5 ≠ ea0
  n5_1 : ea5 ≠ ea1
  n8_4 : ea8 ≠ ea4
  n9_4 : ea9 ≠ ea4
  n9_8 : ea9 ≠ ea8
  n10_4 : ea10 ≠ ea4
  n10_8 : ea10 ≠ ea8
  n10_9 : ea10 ≠ ea9
theorem Dd {w w' : World} (he : iY w w') {k : Nat} {ob : Obj} (h : w.heap[k]? = some ob) : w'.heap[k]? = some ob := by rw [he.block k (Array.getElem?_eq_some_iff.1 h).1]; exact h
theorem Er.ext {w w' : World} {ea0 ea1 ea2 ea3 ea4 ea5 ea6 ea7 ea8 ea9 ea10 ea11 ea12 ea13 ea14 ea15 : Addr} (h : Er w ea0 ea1 ea2 ea3 ea4 ea5 ea6 ea7 ea8 ea9 ea10 ea11 ea12 ea13 ea14 ea15) (he : iY w w') : Er w' ea0 ea1 ea2 ea3 ea4 ea5 ea6 ea7 ea8 ea9 ea10 ea11 ea12 ea13 ea14 ea15 :=
  ⟨h.v0.imp fun T h => h.imp fun f h => Dd he h, h.b0.imp fun T h => h.imp fun f h => Dd he h, h.v1.imp fun T h => h.imp fun f h => Dd he h, h.b1.imp fun T h => h.imp fun f h => Dd he h, h.v2.imp fun T h => h.imp fun f h => Dd he h, h.b2.imp fun T h => h.imp fun f h => Dd he h, h.v3.imp fun T h => h.imp fun f h => Dd he h, h.b3.imp fun T h => h.imp fun f h => Dd he h, h.v4.imp fun T h => h.imp fun f h => Dd he h, h.b4.imp fun T h => h.imp fun f h => Dd he h, h.v5.imp fun T h => h.imp fun f h => Dd he h, h.b5.imp fun T h => h.imp fun f h => Dd he h, h.v6.imp fun T h => h.imp fun f h => Dd he h, h.b6.imp fun T h => h.imp fun f h => Dd he h, h.v7.imp fun T h => h.imp fun f h => Dd he h, h.b7.imp fun T h => h.imp fun f h => Dd he h, h.v8.imp fun T h => h.imp fun f h => Dd he h, h.b8.imp fun T h => h.imp fun f h => Dd he h, h.v9.imp fun T h => h.imp fun f h => Dd he h, h.b9.imp fun T h => h.imp fun f h => Dd he h, h.v10.imp fun T h => h.imp fun f h => Dd he h, h.b10.imp fun T h => h.imp fun f h => Dd he h, h.v11.imp fun T h => h.imp fun f h => Dd he h, h.b11.imp fun T h => h.imp fun f h => Dd he h, h.v12.imp fun T h => h.imp fun f h => Dd he h, h.b12.imp fun T h => h.imp fun f h => Dd he h, h.v13.imp fun T h => h.imp fun f h => Dd he h, h.b13.imp fun T h => h.imp fun f h => Dd he h, h.v14.imp fun T h => h.imp fun f h => Dd he h, h.b14.imp fun T h => h.imp fun f h => Dd he h, h.v15.imp fun T h => h.imp fun f h => Dd he h, h.b15.imp fun T h => h.imp fun f h => Dd he h, h.n1_0, h.n2_6, h.n3_7, h.n5_0, h.n5_1, h.n8_4, h.n9_4, h.n9_8, h.n10_4, h.n10_8, h.n10_9⟩
end Go.Proofs.YtdnjanhdnibkfaaGreatDoor.Jd

namespace Go.Proofs.YtdnjanhdnibkfaaGreatDoor.Jd
open Go.Proofs.Tryz
open Go.Proofs
open Go.RowKit (Below)
set_option maxRecDepth 100000
set_option maxHeartbeats 8000000
set_option linter.unusedVariables false
set_option linter.unusedSimpArgs false
structure Handle where
  slot : Int
  gen : Int
instance : Inhabited Handle := ⟨⟨default, default⟩⟩
instance : DecidableEq Handle := fun a b => decidable_of_iff (a.slot = b.slot ∧ a.gen = b.gen) ⟨fun h => by cases a; cases b; simp_all, fun h => by subst h; simp⟩
structure Slots where
  gens : List Int
  used : List Bool
  free : List Int
instance : Inhabited Slots := ⟨⟨default, default, default⟩⟩
instance : DecidableEq Slots := fun a b => decidable_of_iff (a.gens = b.gens ∧ a.used = b.used ∧ a.free = b.free) ⟨fun h => by cases a; cases b; simp_all, fun h => by subst h; simp⟩
def Rt (s : Slots) (x_1 : Nat) (x_6 : Nat) (x_7 : List Int) : Nat → Nat → Int → Nat × Int
  | 0, x_12, x_13 => (x_12, x_13)
  | n_14 + 1, x_12, x_13 => (if ((x_12 : Nat) : Int) < ((s.used.length : Nat) : Int) then (if (s.used.getD x_12 default) = true then (Rt s x_1 x_6 x_7 n_14 (x_12 + 1) (x_13 - 1)) else (Rt s x_1 x_6 x_7 n_14 (x_12 + 1) x_13)) else (x_12, x_13))
def Wp (s : Slots) (x_1 : Nat) : Nat → Nat → List Int → Except Bool (Nat × (List Int))
  | 0, x_6, x_7 => .ok (x_6, x_7)
  | n_8 + 1, x_6, x_7 => (if ((x_6 : Nat) : Int) < ((s.free.length : Nat) : Int) then (if (s.free.getD x_6 default) < 0 then .error false else (if ((s.used.length : Nat) : Int) ≤ (s.free.getD x_6 default) then .error false else (if (s.used.getD (((s.free.getD x_6 default)).toNat) default) = true then .error false else (if (s.free.getD x_6 default) ∈ x_7 then .error false else (Wp s x_1 n_8 (x_6 + 1) (x_7 ++ [(s.free.getD x_6 default)])))))) else .ok (x_6, x_7))
def Ru (s : Slots) (x_1 : Nat) (x_19 : Nat) (x_20 : List Int) : Nat → Nat → Int → Nat × Int
  | 0, x_25, x_26 => (x_25, x_26)
  | n_27 + 1, x_25, x_26 => (if ((x_25 : Nat) : Int) < ((s.used.length : Nat) : Int) then (if (s.used.getD x_25 default) = true then (Ru s x_1 x_19 x_20 n_27 (x_25 + 1) (x_26 - 1)) else (Ru s x_1 x_19 x_20 n_27 (x_25 + 1) x_26)) else (x_25, x_26))
def Wq (s : Slots) (x_1 : Nat) : Nat → Nat → List Int → Except Bool (Nat × (List Int))
  | 0, x_19, x_20 => .ok (x_19, x_20)
  | n_21 + 1, x_19, x_20 => (if ((x_19 : Nat) : Int) < ((s.free.length : Nat) : Int) then (if (s.free.getD x_19 default) < 0 then .error false else (if ((s.used.length : Nat) : Int) ≤ (s.free.getD x_19 default) then .error false else (if (s.used.getD (((s.free.getD x_19 default)).toNat) default) = true then .error false else (if (s.free.getD x_19 default) ∈ x_20 then .error false else (Wq s x_1 n_21 (x_19 + 1) (x_20 ++ [(s.free.getD x_19 default)])))))) else .ok (x_19, x_20))
def Kk (s : Slots) (x_1 : Nat) (x_32 : Nat) (x_33 : List Int) : Nat → Nat → Int → Nat × Int
  | 0, x_38, x_39 => (x_38, x_39)
  | n_40 + 1, x_38, x_39 => (if ((x_38 : Nat) : Int) < ((s.used.length : Nat) : Int) then (if (s.used.getD x_38 default) = true then (Kk s x_1 x_32 x_33 n_40 (x_38 + 1) (x_39 - 1)) else (Kk s x_1 x_32 x_33 n_40 (x_38 + 1) x_39)) else (x_38, x_39))
def Gd (s : Slots) (x_1 : Nat) : Nat → Nat → List Int → Except Bool (Nat × (List Int))
  | 0, x_32, x_33 => .ok (x_32, x_33)
  | n_34 + 1, x_32, x_33 => (if ((x_32 : Nat) : Int) < ((s.free.length : Nat) : Int) then (if (s.free.getD x_32 default) < 0 then .error false else (if ((s.used.length : Nat) : Int) ≤ (s.free.getD x_32 default) then .error false else (if (s.used.getD (((s.free.getD x_32 default)).toNat) default) = true then .error false else (if (s.free.getD x_32 default) ∈ x_33 then .error false else (Gd s x_1 n_34 (x_32 + 1) (x_33 ++ [(s.free.getD x_32 default)])))))) else .ok (x_32, x_33))
def Gq (s : Slots) : Nat → Nat → Except Bool Nat
  | 0, x_1 => .ok (x_1)
  | n_2 + 1, x_1 => (if ((x_1 : Nat) : Int) < ((s.gens.length : Nat) : Int) then (if (s.gens.getD x_1 default) < 0 then .error (if ¬ (¬ (0 ≤ ((x_1 : Nat) : Int))) then false else (Gu (Wp s x_1 (s.free.length + 1) 0 ([] : List Int)) (fun r => r) (fun x_6 x_7 => (Iu (Rt s x_1 x_6 x_7 (s.used.length + 1) 0 ((s.gens.length : Nat) : Int)) (fun x_12 x_13 => (if ¬ (x_13 = ((x_7.length : Nat) : Int)) then false else true)))))) else (if 1000000000 < (s.gens.getD x_1 default) then .error (if ¬ (¬ (0 ≤ ((x_1 : Nat) : Int))) then false else (Gu (Wq s x_1 (s.free.length + 1) 0 ([] : List Int)) (fun r => r) (fun x_19 x_20 => (Iu (Ru s x_1 x_19 x_20 (s.used.length + 1) 0 ((s.gens.length : Nat) : Int)) (fun x_25 x_26 => (if ¬ (x_26 = ((x_20.length : Nat) : Int)) then false else true)))))) else (Gq s n_2 (x_1 + 1)))) else .ok (x_1))
def Ns (s : Slots) : Bool := (if 1 ≤ ((s.gens.length : Nat) : Int) then (if ((s.gens.length : Nat) : Int) ≤ 64 then (if ¬ (((s.used.length : Nat) : Int) = ((s.gens.length : Nat) : Int)) then false else (Fe (Gq s (s.gens.length + 1) 0) (fun r => r) (fun x_1 => (Gu (Gd s x_1 (s.free.length + 1) 0 ([] : List Int)) (fun r => r) (fun x_32 x_33 => (Iu (Kk s x_1 x_32 x_33 (s.used.length + 1) 0 ((s.gens.length : Nat) : Int)) (fun x_38 x_39 => (if ¬ (x_39 = ((x_33.length : Nat) : Int)) then false else true)))))))) else false) else false)
def Qk (s : Slots) : Nat → Nat → List Handle → Nat × (List Handle)
  | 0, x_1, x_2 => (x_1, x_2)
  | n_3 + 1, x_1, x_2 => (if ((x_1 : Nat) : Int) < ((s.used.length : Nat) : Int) then (if (s.used.getD x_1 default) = true then (Qk s n_3 (x_1 + 1) (x_2 ++ ([(Handle.mk ((x_1 : Nat) : Int) (s.gens.getD x_1 default))] : List Handle))) else (Qk s n_3 (x_1 + 1) x_2)) else (x_1, x_2))
def Xl (s : Slots) : List Handle := (if (!(Ns s)) = true then [] else (Iu (Qk s (s.used.length + 1) 0 []) (fun x_1 x_2 => x_2)))
def Gi (s : Slots) : Slots × Handle × Int := (if (!(Ns s)) = true then ((Slots.mk ([]) ([]) ([])), (Handle.mk 0 0), 90) else (if (((((s.free).length) : Nat) : Int) - 1) < 0 then ((Slots.mk ([]) ([]) ([])), (Handle.mk 0 0), 92) else (if (s.gens.getD ((((s.free).getD (((((((s.free).length) : Nat) : Int) - 1)).toNat) default)).toNat) default) = 1000000000 then ((Slots.mk ([]) ([]) ([])), (Handle.mk 0 0), 92) else ((Slots.mk (s.gens.set ((((s.free).getD (((((((s.free).length) : Nat) : Int) - 1)).toNat) default)).toNat) ((s.gens.getD ((((s.free).getD (((((((s.free).length) : Nat) : Int) - 1)).toNat) default)).toNat) default) + 1)) ((s.used).set ((((s.free).getD (((((((s.free).length) : Nat) : Int) - 1)).toNat) default)).toNat) true) ((s.free).take (((((((s.free).length) : Nat) : Int) - 1)).toNat))), (Handle.mk ((s.free).getD (((((((s.free).length) : Nat) : Int) - 1)).toNat) default) ((s.gens.set ((((s.free).getD (((((((s.free).length) : Nat) : Int) - 1)).toNat) default)).toNat) ((s.gens.getD ((((s.free).getD (((((((s.free).length) : Nat) : Int) - 1)).toNat) default)).toNat) default) + 1)).getD ((((s.free).getD (((((((s.free).length) : Nat) : Int) - 1)).toNat) default)).toNat) default)), 0))))
def hO (n_ : Int) (x_1 : List Int) (x_2 : List Bool) : Nat → Nat → List Int → Nat × (List Int)
  | 0, x_6, x_7 => (x_6, x_7)
  | n_8 + 1, x_6, x_7 => (if ((x_6 : Nat) : Int) < n_ then (hO n_ x_1 x_2 n_8 (x_6 + 1) (x_7 ++ ([((n_ - 1) - ((x_6 : Nat) : Int))] : List Int))) else (x_6, x_7))
def dP (n_ : Int) : Slots × Int := (if n_ < 1 then ((Slots.mk ([]) ([]) ([])), 2) else (if 64 < n_ then ((Slots.mk ([]) ([]) ([])), 2) else (Iu ((List.replicate ((n_).toNat) (default : Int)), (List.replicate ((n_).toNat) (default : Bool))) (fun x_1 x_2 => (Iu (hO n_ x_1 x_2 ((n_ - ((0 : Nat) : Int)).toNat + 1) 0 []) (fun x_6 x_7 => ((Slots.mk x_1 x_2 x_7), 0)))))))
end Go.Proofs.YtdnjanhdnibkfaaGreatDoor.Jd

namespace Go.Proofs.YtdnjanhdnibkfaaGreatDoor.Jd
open Go.Proofs.Tryz
open Go.Proofs
open Go.RowKit (Below)
set_option maxRecDepth 100000
set_option maxHeartbeats 8000000
set_option linter.unusedVariables false
set_option linter.unusedSimpArgs false
def Pq (r : Int) : Int := (if r = 3 then (tH .i64 (tH .i64 (tH .i64 0 4) 2) 1) else (if r = 2 then (tH .i64 (tH .i64 0 2) 1) else (if r = 1 then (tH .i64 0 1) else 0)))
def Fc (n_ : Int) : List Int := (if (Cq .i64 (Pq n_) 4) ≠ 0 then (if (Cq .i64 (Pq n_) 2) ≠ 0 then (if (Cq .i64 (Pq n_) 1) ≠ 0 then (((((((((([1] : List Int) ++ ([2] : List Int)) ++ ([3] : List Int)) ++ ([4] : List Int)) ++ ([5] : List Int)) ++ ([6] : List Int)) ++ ([7] : List Int)) ++ ([8] : List Int)) ++ ([9] : List Int)) ++ ([10] : List Int)) else (((((((([1] : List Int) ++ ([2] : List Int)) ++ ([3] : List Int)) ++ ([4] : List Int)) ++ ([5] : List Int)) ++ ([6] : List Int)) ++ ([7] : List Int)) ++ ([8] : List Int))) else (if (Cq .i64 (Pq n_) 1) ≠ 0 then (((((([1] : List Int) ++ ([5] : List Int)) ++ ([6] : List Int)) ++ ([7] : List Int)) ++ ([9] : List Int)) ++ ([10] : List Int)) else (((([1] : List Int) ++ ([5] : List Int)) ++ ([6] : List Int)) ++ ([7] : List Int)))) else (if (Cq .i64 (Pq n_) 2) ≠ 0 then (if (Cq .i64 (Pq n_) 1) ≠ 0 then (((((([2] : List Int) ++ ([3] : List Int)) ++ ([4] : List Int)) ++ ([8] : List Int)) ++ ([9] : List Int)) ++ ([10] : List Int)) else (((([2] : List Int) ++ ([3] : List Int)) ++ ([4] : List Int)) ++ ([8] : List Int))) else (if (Cq .i64 (Pq n_) 1) ≠ 0 then (([9] : List Int) ++ ([10] : List Int)) else [])))
def Rv (n_ : Int) (v : Int) : Nat → Nat → Except Bool Nat
  | 0, x_1 => .ok (x_1)
  | n_2 + 1, x_1 => (if ((x_1 : Nat) : Int) < ((((Fc n_).length) : Nat) : Int) then (if ((Fc n_).getD x_1 default) = v then .error true else (Rv n_ v n_2 (x_1 + 1))) else .ok (x_1))
def mZ (n_ : Int) (v : Int) : Bool := (Fe (Rv n_ v (((Fc n_).length) + 1) 0) (fun r => r) (fun x_1 => false))
end Go.Proofs.YtdnjanhdnibkfaaGreatDoor.Jd

namespace Go.Proofs.YtdnjanhdnibkfaaGreatDoor.Jd
open Go.Proofs.Tryz
open Go.Proofs
open Go.RowKit (Below)
set_option maxRecDepth 100000
set_option maxHeartbeats 8000000
set_option linter.unusedVariables false
set_option linter.unusedSimpArgs false
def Vo (key : An) : Bool := (if 1 ≤ ((key.length : Nat) : Int) then decide (((key.length : Nat) : Int) ≤ 64) else false)
def hP (key : An) (l : List An) (x_1 : Nat) (x_2 : List Int) : Nat → Nat → List Int → Nat × (List Int)
  | 0, x_9, x_10 => (x_9, x_10)
  | n_11 + 1, x_9, x_10 => (if ((x_9 : Nat) : Int) < 64 then (hP key l x_1 x_2 n_11 (x_9 + 1) (x_10 ++ ([(Gk .u8 ((Lg (key.take 64) ++ (List.replicate 64 (0 : Int)).drop key.length).getD x_9 default) 92)] : List Int))) else (x_9, x_10))
def hQ (key : An) (l : List An) : Nat → Nat → List Int → Nat × (List Int)
  | 0, x_1, x_2 => (x_1, x_2)
  | n_3 + 1, x_1, x_2 => (if ((x_1 : Nat) : Int) < 64 then (hQ key l n_3 (x_1 + 1) (x_2 ++ ([(Gk .u8 ((Lg (key.take 64) ++ (List.replicate 64 (0 : Int)).drop key.length).getD x_1 default) 54)] : List Int))) else (x_1, x_2))
def T7 (key : An) (l : List An) : An := (Iu (hQ key l (64 + 1) 0 []) (fun x_1 x_2 => (E3 () (Iu (hP key l x_1 x_2 (64 + 1) 0 []) (fun x_9 x_10 => (E3 () (Nr ((Pn x_10) ++ (Lib.join ([(Nr ((Pn x_2) ++ (Lib.join l ([] : An))))] : List An) ([] : An))))))))))
def bK (a : An) (b : An) : Nat → Nat → Int → Nat × Int
  | 0, x_1, differ_2 => (x_1, differ_2)
  | n_3 + 1, x_1, differ_2 => (if ((x_1 : Nat) : Int) < (if ((b.length : Nat) : Int) < ((a.length : Nat) : Int) then ((b.length : Nat) : Int) else ((a.length : Nat) : Int)) then (bK a b n_3 (x_1 + 1) (tH .i64 differ_2 (Gk .u8 (((a.getD x_1 default).toNat : Nat) : Int) (((b.getD x_1 default).toNat : Nat) : Int)))) else (x_1, differ_2))
def T8 (a : An) (b : An) : Bool := (Iu (bK a b (((if ((b.length : Nat) : Int) < ((a.length : Nat) : Int) then ((b.length : Nat) : Int) else ((a.length : Nat) : Int)) - ((0 : Nat) : Int)).toNat + 1) 0 (Gk .i64 ((a.length : Nat) : Int) ((b.length : Nat) : Int))) (fun x_1 differ_2 => decide (differ_2 = 0)))
def Ic (a : Int) (b : Int) : An × Int := (if 0 ≤ (([a, b] : List Int).getD 0 default) then (if (([a, b] : List Int).getD 0 default) ≤ 2147483647 then (if 0 ≤ (([a, b] : List Int).getD 1 default) then (if (([a, b] : List Int).getD 1 default) ≤ 2147483647 then ((Nr (Lib.join ((([([99, 104, 97, 108, 108, 101, 110, 103, 101] : An)] : List An) ++ ([(Lib.itoa (([a, b] : List Int).getD 0 default))] : List An)) ++ ([(Lib.itoa (([a, b] : List Int).getD 1 default))] : List An)) ([32] : An))), 0) else (([] : An), 2)) else (([] : An), 2)) else (([] : An), 2)) else (([] : An), 2))
def Kg (key : An) (challenge : An) (name : An) : An × Int := (if (Vo key) = true then (if ((challenge.length : Nat) : Int) = 32 then ((T7 key ([challenge, name] : List An)), 0) else (([] : An), 2)) else (([] : An), 50))
end Go.Proofs.YtdnjanhdnibkfaaGreatDoor.Jd

namespace Go.Proofs.YtdnjanhdnibkfaaGreatDoor.Jd
open Go.Proofs.Tryz
open Go.Proofs
open Go.RowKit (Below)
set_option maxRecDepth 100000
set_option maxHeartbeats 8000000
set_option linter.unusedVariables false
set_option linter.unusedSimpArgs false
structure Eb where
  id : Int
  key : An
  frm : Int
  to : Int
instance : Inhabited Eb := ⟨⟨default, default, default, default⟩⟩
instance : DecidableEq Eb := fun a b => decidable_of_iff (a.id = b.id ∧ a.key = b.key ∧ a.frm = b.frm ∧ a.to = b.to) ⟨fun h => by cases a; cases b; simp_all, fun h => by subst h; simp⟩
def bL (n_ : Int) (least : Int) (most : Int) : Bool := (if least ≤ n_ then decide (n_ ≤ most) else false)
def eP (c : Eb) : Bool := (bL c.id 1 1000000000)
def Vp (c : Eb) : Bool := (Vo c.key)
def Ql (c : Eb) : Bool := (if 0 ≤ c.frm then (if c.frm < c.to then decide (c.to ≤ 1000000000000) else false) else false)
def xG (c : Eb) (now : Int) : Bool := (if c.frm ≤ now then decide (now < c.to) else false)
def Oy (l : List Eb) (x_1 : Nat) (last_2 : Int) (x_3 : List Int) : Nat → Nat → Except Bool Nat
  | 0, x_8 => .ok (x_8)
  | n_9 + 1, x_8 => (if ((x_8 : Nat) : Int) < ((l.length : Nat) : Int) then (if (!(eP (l.getD x_8 default))) = true then .error false else (if (!(Vp (l.getD x_8 default))) = true then .error false else (if (!(Ql (l.getD x_8 default))) = true then .error false else (Oy l x_1 last_2 x_3 n_9 (x_8 + 1))))) else .ok (x_8))
def Mc (l : List Eb) : Nat → Nat → Int → List Int → Except Bool (Nat × Int × (List Int))
  | 0, x_1, last_2, x_3 => .ok (x_1, last_2, x_3)
  | n_4 + 1, x_1, last_2, x_3 => (if ((x_1 : Nat) : Int) < ((l.length : Nat) : Int) then (if ((l.getD x_1 default).id) ∈ x_3 then .error false else (if ((l.getD x_1 default).id) < last_2 then .error false else (Mc l n_4 (x_1 + 1) ((l.getD x_1 default).id) (x_3 ++ [((l.getD x_1 default).id)])))) else .ok (x_1, last_2, x_3))
def Ps (l : List Eb) : Bool := (eM (Mc l (l.length + 1) 0 0 ([] : List Int)) (fun r => r) (fun x_1 last_2 x_3 => (if ((l.length : Nat) : Int) ≤ 4 then (Fe (Oy l x_1 last_2 x_3 (l.length + 1) 0) (fun r => r) (fun x_8 => true)) else false)))
def Na (l : List Eb) (now : Int) : Nat → Nat → List Eb → Nat × (List Eb)
  | 0, x_1, x_2 => (x_1, x_2)
  | n_3 + 1, x_1, x_2 => (if ((x_1 : Nat) : Int) < ((l.length : Nat) : Int) then (if (xG (l.getD x_1 default) now) = true then (Na l now n_3 (x_1 + 1) (x_2 ++ ([(l.getD x_1 default)] : List Eb))) else (Na l now n_3 (x_1 + 1) x_2)) else (x_1, x_2))
def Et (l : List Eb) (now : Int) : List Eb := (if (!(Ps l)) = true then [] else (Iu (Na l now (l.length + 1) 0 []) (fun x_1 x_2 => x_2)))
def Oz (l : List Eb) (now : Int) (challenge : An) (name : An) (proof : An) : Nat → Nat → Except (Int × Bool) Nat
  | 0, x_1 => .ok (x_1)
  | n_2 + 1, x_1 => (if ((x_1 : Nat) : Int) < ((((Et l now).length) : Nat) : Int) then (if ¬ ((((Et l now).getD x_1 default).id) = 0 ∧ (((Et l now).getD x_1 default).key) = ([] : An) ∧ (((Et l now).getD x_1 default).frm) = 0 ∧ (((Et l now).getD x_1 default).to) = 0) then (if ((Kg (((Et l now).getD x_1 default).key) challenge name).2) = 0 then (if (T8 ((Kg (((Et l now).getD x_1 default).key) challenge name).1) proof) = true then .error ((((Et l now).getD x_1 default).id), true) else (Oz l now challenge name proof n_2 (x_1 + 1))) else (Oz l now challenge name proof n_2 (x_1 + 1))) else (Oz l now challenge name proof n_2 (x_1 + 1))) else .ok (x_1))
def Nt (l : List Eb) (now : Int) (challenge : An) (name : An) (proof : An) : Int × Bool := (Fe (Oz l now challenge name proof (((Et l now).length) + 1) 0) (fun r => r) (fun x_1 => (0, false)))
end Go.Proofs.YtdnjanhdnibkfaaGreatDoor.Jd

namespace Go.Proofs.YtdnjanhdnibkfaaGreatDoor.Jd
open Go.Proofs.Tryz
open Go.Proofs
open Go.RowKit (Below)
set_option maxRecDepth 100000
set_option linter.unusedVariables false
set_option linter.unusedSimpArgs false
structure Js where
  addr : Int
  bits : Int
instance : Inhabited Js := ⟨⟨default, default⟩⟩
instance : DecidableEq Js := fun a b => decidable_of_iff (a.addr = b.addr ∧ a.bits = b.bits) ⟨fun h => by cases a; cases b; simp_all, fun h => by subst h; simp⟩
def Za (a : Int) : Bool := (if 0 ≤ a then decide (a ≤ 4294967295) else false)
def tV (bits : Int) : Int := (fZ .i64 1 (32 - bits))
def zE (p : Js) : Int := ((fZ .i64 1 (32 - p.bits)) - 1)
def dQ (p : Js) : Bool := (if 0 ≤ p.bits then (if p.bits ≤ 32 then (Za p.addr) else false) else false)
def T9 (p : Js) : Bool := decide ((Cq .i64 p.addr (zE p)) = 0)
def dR (p : Js) : Bool := (if (!(dQ p)) = true then false else (if (!(T9 p)) = true then false else true))
def AZ3 (p : Js) (a : Int) : Bool := (if (dR p) = true then (if (Za a) = true then decide ((pS .i64 a (zE p)) = p.addr) else false) else false)
def Md (a : Int) : An × Int := (if (!(Za a)) = true then (([] : An), 60) else ((Lib.join (((([(Lib.itoa (Cq .i64 (Ae .i64 a 24) 255))] : List An) ++ ([(Lib.itoa (Cq .i64 (Ae .i64 a 16) 255))] : List An)) ++ ([(Lib.itoa (Cq .i64 (Ae .i64 a 8) 255))] : List An)) ++ ([(Lib.itoa (Cq .i64 (Ae .i64 a 0) 255))] : List An)) ([46] : An)), 0))
def Sy (t : An) (most : Int) : Nat → Int → Nat → Except (Int × Bool) (Int × Nat)
  | 0, n_1, x_2 => .ok (n_1, x_2)
  | n_3 + 1, n_1, x_2 => (if x_2 < t.length then (if (((dK t x_2).1 : Nat) : Int) < 48 then .error (0, false) else (if 57 < (((dK t x_2).1 : Nat) : Int) then .error (0, false) else (if most < n_1 then .error (0, false) else (Sy t most n_3 ((n_1 * 10) + ((((dK t x_2).1 : Nat) : Int) - 48)) (x_2 + (dK t x_2).2))))) else .ok (n_1, x_2))
def Dx (t : An) (most : Int) : Int × Bool := (Gu (Sy t most (t.length + 1) 0 0) (fun r => r) (fun n_1 x_2 => (if n_1 ≤ most then (n_1, decide ((Lib.itoa n_1) = t)) else (n_1, false))))
def Vq (s : An) : Int × Int := (if ((Dx ((Lib.cut s ([46] : An)).1) 255).2) = true then (if (!((Lib.cut s ([46] : An)).2.2 == true)) = true then (0, 60) else (if ((Dx ((Lib.cut ((Lib.cut s ([46] : An)).2.1) ([46] : An)).1) 255).2) = true then (if (!((Lib.cut ((Lib.cut s ([46] : An)).2.1) ([46] : An)).2.2 == true)) = true then (0, 60) else (if ((Dx ((Lib.cut ((Lib.cut ((Lib.cut s ([46] : An)).2.1) ([46] : An)).2.1) ([46] : An)).1) 255).2) = true then (if (!((Lib.cut ((Lib.cut ((Lib.cut s ([46] : An)).2.1) ([46] : An)).2.1) ([46] : An)).2.2 == true)) = true then (0, 60) else (if ((Dx ((Lib.cut ((Lib.cut ((Lib.cut ((Lib.cut s ([46] : An)).2.1) ([46] : An)).2.1) ([46] : An)).2.1) ([46] : An)).1) 255).2) = true then (if (!((Lib.cut ((Lib.cut ((Lib.cut ((Lib.cut s ([46] : An)).2.1) ([46] : An)).2.1) ([46] : An)).2.1) ([46] : An)).2.2 == false)) = true then (0, 60) else ((tH .i64 (fZ .i64 (tH .i64 (fZ .i64 (tH .i64 (fZ .i64 (tH .i64 (fZ .i64 0 8) ((Dx ((Lib.cut s ([46] : An)).1) 255).1)) 8) ((Dx ((Lib.cut ((Lib.cut s ([46] : An)).2.1) ([46] : An)).1) 255).1)) 8) ((Dx ((Lib.cut ((Lib.cut ((Lib.cut s ([46] : An)).2.1) ([46] : An)).2.1) ([46] : An)).1) 255).1)) 8) ((Dx ((Lib.cut ((Lib.cut ((Lib.cut ((Lib.cut s ([46] : An)).2.1) ([46] : An)).2.1) ([46] : An)).2.1) ([46] : An)).1) 255).1)), 0)) else (0, 60))) else (0, 60))) else (0, 60))) else (0, 60))
end Go.Proofs.YtdnjanhdnibkfaaGreatDoor.Jd

namespace Go.Proofs.YtdnjanhdnibkfaaGreatDoor.Jd
open Go.Proofs.Tryz
open Go.Proofs
open Go.RowKit (Below)
set_option maxRecDepth 100000
set_option linter.unusedVariables false
set_option linter.unusedSimpArgs false
structure Sz where
  lo : Int
  hi : Int
instance : Inhabited Sz := ⟨⟨default, default⟩⟩
instance : DecidableEq Sz := fun a b => decidable_of_iff (a.lo = b.lo ∧ a.hi = b.hi) ⟨fun h => by cases a; cases b; simp_all, fun h => by subst h; simp⟩
structure Cd where
  addr : Int
  port : Int
instance : Inhabited Cd := ⟨⟨default, default⟩⟩
instance : DecidableEq Cd := fun a b => decidable_of_iff (a.addr = b.addr ∧ a.port = b.port) ⟨fun h => by cases a; cases b; simp_all, fun h => by subst h; simp⟩
def dS (p : Sz) : Bool := (if ¬ (p.lo ≤ p.hi) then false else (if ¬ (0 ≤ p.lo) then false else (if ¬ (p.hi ≤ 65535) then false else true)))
def Ta (t : An) : Nat → Int → Nat → Except Int (Int × Nat)
  | 0, n_1, x_2 => .ok (n_1, x_2)
  | n_3 + 1, n_1, x_2 => (if x_2 < t.length then (if ((n_1 * 10) + ((((dK t x_2).1 : Nat) : Int) - 48)) < 0 then .error (-1) else (if 65535 < ((n_1 * 10) + ((((dK t x_2).1 : Nat) : Int) - 48)) then .error (-1) else (Ta t n_3 ((n_1 * 10) + ((((dK t x_2).1 : Nat) : Int) - 48)) (x_2 + (dK t x_2).2)))) else .ok (n_1, x_2))
def Wr (t : An) : Int := (Gu (Ta t (t.length + 1) 0 0) (fun r => r) (fun n_1 x_2 => n_1))
def AZ4 (p : Sz) (n_ : Int) : Bool := (if (dS p) = true then (if p.lo ≤ n_ then decide (n_ ≤ p.hi) else false) else false)
def Vr (t : Cd) : An × Int := (if ((Md t.addr).2) ≠ 0 then (([] : An), 71) else (if t.port < 1 then (([] : An), 71) else (if 65535 < t.port then (([] : An), 71) else (((((Md t.addr).1) ++ ([58] : An)) ++ (Lib.itoa t.port)), 0))))
def Cs (s : An) : Cd × Int := (if ((Vq ((Lib.cut s ([58] : An)).1)).2) ≠ 0 then ((Cd.mk 0 0), 71) else (if ((Vr (Cd.mk ((Vq ((Lib.cut s ([58] : An)).1)).1) (Wr ((Lib.cut s ([58] : An)).2.1)))).2) ≠ 0 then ((Cd.mk 0 0), 71) else (if ((Vr (Cd.mk ((Vq ((Lib.cut s ([58] : An)).1)).1) (Wr ((Lib.cut s ([58] : An)).2.1)))).1) ≠ s then ((Cd.mk 0 0), 71) else ((Cd.mk ((Vq ((Lib.cut s ([58] : An)).1)).1) (Wr ((Lib.cut s ([58] : An)).2.1))), 0))))
end Go.Proofs.YtdnjanhdnibkfaaGreatDoor.Jd

namespace Go.Proofs.YtdnjanhdnibkfaaGreatDoor.Jd
open Go.Proofs.Tryz
open Go.Proofs
open Go.RowKit (Below)
set_option maxRecDepth 100000
set_option maxHeartbeats 8000000
set_option linter.unusedVariables false
set_option linter.unusedSimpArgs false
def Qm (s : An) : Nat → Nat → Except Bool Nat
  | 0, x_1 => .ok (x_1)
  | n_2 + 1, x_1 => (if x_1 < s.length then (if (((dK s x_1).1 : Nat) : Int) < 32 then .error false else (if 126 < (((dK s x_1).1 : Nat) : Int) then .error false else (Qm s n_2 (x_1 + (dK s x_1).2)))) else .ok (x_1))
def jX (s : An) : Bool := (Fe (Qm s (s.length + 1) 0) (fun r => r) (fun x_1 => true))
structure Ie where
  allow : Bool
  pfx : Js
  prt : Sz
instance : Inhabited Ie := ⟨⟨default, default, default⟩⟩
instance : DecidableEq Ie := fun a b => decidable_of_iff (a.allow = b.allow ∧ a.pfx = b.pfx ∧ a.prt = b.prt) ⟨fun h => by cases a; cases b; simp_all, fun h => by subst h; simp⟩
def qC (r : Ie) : Bool := (if (dR r.pfx) = true then (dS r.prt) else false)
def Gj (r : Ie) (t : Cd) : Bool := (if (qC r) = true then (if (AZ3 r.pfx t.addr) = true then (AZ4 r.prt t.port) else false) else false)
def Qn (l : List Ie) : Nat → Nat → Except Bool Nat
  | 0, x_1 => .ok (x_1)
  | n_2 + 1, x_1 => (if ((x_1 : Nat) : Int) < ((l.length : Nat) : Int) then (if (!(qC (l.getD x_1 default))) = true then .error false else (Qn l n_2 (x_1 + 1))) else .ok (x_1))
def Jw (l : List Ie) : Bool := (if ((l.length : Nat) : Int) ≤ 16 then (Fe (Qn l (l.length + 1) 0) (fun r => r) (fun x_1 => true)) else false)
def Gv (l : List Ie) (t : Cd) (i_1 : Int) (x_2 : List Int) : Nat → Int → List Int → Int × (List Int)
  | 0, j_9, x_10 => (j_9, x_10)
  | n_11 + 1, j_9, x_10 => (if (((((j_9 - 1)).toNat / 2) : Nat) : Int) = j_9 then (j_9, x_10) else (if ¬ ((x_10.getD ((j_9).toNat) default) < (x_10.getD (((j_9 - 1)).toNat / 2) default)) then (j_9, x_10) else (Gv l t i_1 x_2 n_11 (((((j_9 - 1)).toNat / 2) : Nat) : Int) ((x_10.set ((((((j_9 - 1)).toNat / 2) : Nat) : Int)).toNat (x_10.getD (j_9).toNat default)).set (j_9).toNat (x_10.getD ((((((j_9 - 1)).toNat / 2) : Nat) : Int)).toNat default)))))
def Gw (l : List Ie) (t : Cd) : Nat → Int → List Int → Int × (List Int)
  | 0, i_1, x_2 => (i_1, x_2)
  | n_3 + 1, i_1, x_2 => (if 0 ≤ i_1 then (if (Gj (l.getD ((i_1).toNat) default) t) = true then (Iu (Gv l t i_1 x_2 ((((((x_2 ++ ([i_1] : List Int)).length) : Nat) : Int) - 1).toNat + 1) (((((x_2 ++ ([i_1] : List Int)).length) : Nat) : Int) - 1) (x_2 ++ ([i_1] : List Int))) (fun j_9 x_10 => (Gw l t n_3 (i_1 - 1) x_10))) else (Gw l t n_3 (i_1 - 1) x_2)) else (i_1, x_2))
def Ek (l : List Ie) (t : Cd) : Bool × Int × Int := (if (!(Jw l)) = true then (false, 0, 81) else (if ((Vr t).2) ≠ 0 then (false, 0, 71) else (Iu (Gw l t (((((l.length : Nat) : Int) - 1) + 1).toNat + 1) (((l.length : Nat) : Int) - 1) []) (fun i_1 x_2 => (if ((x_2.length : Nat) : Int) = 0 then (false, (-1), 0) else (((l.getD (((x_2.getD 0 default)).toNat) default).allow), (x_2.getD 0 default), 0))))))
end Go.Proofs.YtdnjanhdnibkfaaGreatDoor.Jd

namespace Go.Proofs.YtdnjanhdnibkfaaGreatDoor.Jd
open Go.Proofs.Tryz
open Go.Proofs
open Go.RowKit (Below)
set_option maxRecDepth 100000
set_option maxHeartbeats 8000000
set_option linter.unusedVariables false
set_option linter.unusedSimpArgs false
def xH (s : An) : Bool := (if ((s.length : Nat) : Int) ≤ 64 then (jX s) else false)
end Go.Proofs.YtdnjanhdnibkfaaGreatDoor.Jd

namespace Go.Proofs.YtdnjanhdnibkfaaGreatDoor.Jd
open Go.Proofs.Tryz
open Go.Proofs
open Go.RowKit (Below)
set_option maxRecDepth 100000
set_option maxHeartbeats 8000000
set_option linter.unusedVariables false
set_option linter.unusedSimpArgs false
structure Ah where
  handle : Handle
  name : An
  state : Int
  version : Int
  rules : List Ie
  creds : List Eb
  deadline : Int
instance : Inhabited Ah := ⟨⟨default, default, default, default, default, default, default⟩⟩
instance : DecidableEq Ah := fun a b => decidable_of_iff (a.handle = b.handle ∧ a.name = b.name ∧ a.state = b.state ∧ a.version = b.version ∧ a.rules = b.rules ∧ a.creds = b.creds ∧ a.deadline = b.deadline) ⟨fun h => by cases a; cases b; simp_all, fun h => by subst h; simp⟩
structure Bk where
  slots : Slots
  l : List Ah
  seq : Int
instance : Inhabited Bk := ⟨⟨default, default, default⟩⟩
instance : DecidableEq Bk := fun a b => decidable_of_iff (a.slots = b.slots ∧ a.l = b.l ∧ a.seq = b.seq) ⟨fun h => by cases a; cases b; simp_all, fun h => by subst h; simp⟩
structure zF where
  verb : Int
  name : An
  want : Int
  at_ : Int
  rule : Ie
  key : An
  n : Int
  m : Int
instance : Inhabited zF := ⟨⟨default, default, default, default, default, default, default, default⟩⟩
instance : DecidableEq zF := fun a b => decidable_of_iff (a.verb = b.verb ∧ a.name = b.name ∧ a.want = b.want ∧ a.at_ = b.at_ ∧ a.rule = b.rule ∧ a.key = b.key ∧ a.n = b.n ∧ a.m = b.m) ⟨fun h => by cases a; cases b; simp_all, fun h => by subst h; simp⟩
structure zG where
  err : Int
  seq : Int
  handle : Handle
  version : Int
  state : Int
instance : Inhabited zG := ⟨⟨default, default, default, default, default⟩⟩
instance : DecidableEq zG := fun a b => decidable_of_iff (a.err = b.err ∧ a.seq = b.seq ∧ a.handle = b.handle ∧ a.version = b.version ∧ a.state = b.state) ⟨fun h => by cases a; cases b; simp_all, fun h => by subst h; simp⟩
/-- Where a tenant's two slices lie. -/
structure TA where
  ra : Option Addr
  rc : Nat
  ca : Option Addr
  cc : Nat
instance : Inhabited TA := ⟨⟨none, 0, none, 0⟩⟩
def Fs (l : List Ah) : Prop := ∀ i, i < l.length → (l.getD i default).rules.length ≤ 1000 ∧ (l.getD i default).creds.length ≤ 1000
def Tb (s : An) : Bool := (if s ≠ ([] : An) then (if ((s.length : Nat) : Int) ≤ 40 then (xH s) else false) else false)
def Kh (t : (Ah × Int)) : Bool := (if 1 ≤ t.1.version then decide (t.1.version ≤ t.2) else false)
def Ki (t : (Ah × Int)) : Bool := (if 1 ≤ t.1.state then (if t.1.state ≤ 3 then (if 0 ≤ t.1.deadline then (if t.1.deadline ≤ 1000000000000 then (if t.1.deadline = 0 then true else decide (t.1.state = 3)) else false) else false) else false) else false)
def Pt (t : (Ah × Int)) : Bool := (if (Tb t.1.name) = true then (if (Jw t.1.rules) = true then (Ps t.1.creds) else false) else false)
def Jm (r : Bk) (name : An) : Nat → Nat → Except (Int × Bool) Nat
  | 0, x_1 => .ok (x_1)
  | n_2 + 1, x_1 => (if ((x_1 : Nat) : Int) < ((r.l.length : Nat) : Int) then (if ((r.l.getD x_1 default).name) = name then .error (((x_1 : Nat) : Int), true) else (Jm r name n_2 (x_1 + 1))) else .ok (x_1))
def Jc (r : Bk) (name : An) : Int × Bool := (Fe (Jm r name (r.l.length + 1) 0) (fun r => r) (fun x_1 => (0, false)))
def Pa (r : Bk) : Nat → Nat → List An → Except Bool (Nat × (List An))
  | 0, x_1, x_2 => .ok (x_1, x_2)
  | n_3 + 1, x_1, x_2 => (if ((x_1 : Nat) : Int) < ((r.l.length : Nat) : Int) then (if ¬ (((r.l.getD x_1 default).handle.slot) = (((Xl r.slots).getD x_1 default).slot) ∧ ((r.l.getD x_1 default).handle.gen) = (((Xl r.slots).getD x_1 default).gen)) then .error false else (if ((r.l.getD x_1 default).name) ∈ x_2 then .error false else (if (!(Kh ((r.l.getD x_1 default), r.seq))) = true then .error false else (if (!(Ki ((r.l.getD x_1 default), r.seq))) = true then .error false else (if (!(Pt ((r.l.getD x_1 default), r.seq))) = true then .error false else (Pa r n_3 (x_1 + 1) (x_2 ++ [((r.l.getD x_1 default).name)]))))))) else .ok (x_1, x_2))
def Zb (r : Bk) : Bool := (if (!(Ns r.slots)) = true then false else (if r.seq < 0 then false else (if 1000000000000 < r.seq then false else (if ((((Xl r.slots).length) : Nat) : Int) ≠ ((r.l.length : Nat) : Int) then false else (Gu (Pa r (r.l.length + 1) 0 ([] : List An)) (fun r => r) (fun x_1 x_2 => true))))))
end Go.Proofs.YtdnjanhdnibkfaaGreatDoor.Jd

namespace Go.Proofs.YtdnjanhdnibkfaaGreatDoor.Jd
open Go.Proofs.Tryz
set_option linter.unusedVariables false
set_option linter.unusedSimpArgs false
theorem tW (x : Int) : 0 ≤ IntKind.u64.wrap x := by
  simp only [IntKind.wrap, IntKind.bits, IntKind.signed]
  simp
  omega
theorem AM4 (a b : Int) : 0 ≤ Cq .u64 a b := tW _
theorem Yc (b : An) (x : Nat) (y : List Int) : ∀ (n k : Nat) (xs : List Int), (Ox b x y n k xs).2.length = xs.length
  | 0, _, _ => rfl
  | n + 1, k, xs => by
    rw [Ox]
    split
    · rw [Yc b x y n]; simp
    · rfl
theorem Rb (b : An) : ∀ (n k : Nat) (xs : List Int), (Mb b n k xs).2.length = xs.length
  | 0, _, _ => rfl
  | n + 1, k, xs => by
    rw [Mb]
    split
    · split
      · simp only [Iu]
        rw [Rb b n, Yc]
      · rw [Rb b n]; simp
    · rfl
theorem xI {b : An} : (Sx b).length = 64 := by
  unfold Sx
  simp only [Iu]
  rw [Rb]; simp
theorem Gx (s : An) : (Nr s).length = 32 := by
  unfold Nr
  simp only [AK4]
  rw [Di]; simp
end Go.Proofs.YtdnjanhdnibkfaaGreatDoor.Jd

namespace Go.Proofs.YtdnjanhdnibkfaaGreatDoor.Jd
open Go.Proofs.Tryz
set_option linter.unusedVariables false
set_option linter.unusedSimpArgs false
theorem Pu (x s : List UInt8) : Lib.join [x] s = x := by simp [Lib.join, List.intercalate]
theorem U0 (x y s : List UInt8) : (Lib.join [x, y] s).length = x.length + s.length + y.length := by
  simp [Lib.join, List.intercalate, List.intersperse]; omega
theorem jY (x y z s : List UInt8) : (Lib.join [x, y, z] s).length = x.length + s.length + y.length + s.length + z.length := by
  simp [Lib.join, List.intercalate, List.intersperse]; omega
theorem tX (key : An) (l : List An) : (T7 key l).length = 32 := by
  unfold T7
  simp only [Iu, E3]
  exact Gx _
theorem Pb (a b : Int) : (Ic a b).1.length ≤ 32 := by
  unfold Ic
  repeat' split
  all_goals first | simp only [Gx]; omega | simp
theorem tY (key challenge name : An) : (Kg key challenge name).1.length ≤ 32 := by
  unfold Kg
  repeat' split
  all_goals first | simp only [tX]; omega | simp
end Go.Proofs.YtdnjanhdnibkfaaGreatDoor.Jd

namespace Go.Proofs.YtdnjanhdnibkfaaGreatDoor.Jd
open Go.Proofs.Tryz
set_option linter.unusedVariables false
set_option linter.unusedSimpArgs false
theorem nB {α : Type} [Inhabited α] (l : List α) (k : Nat) (h : k < l.length) : l.drop k = l.getD k default :: l.drop (k + 1) := by
  rw [List.drop_eq_getElem_cons h]
  simp [List.getD, h]
theorem Ws {α : Type} (l : List α) (k : Nat) (h : ¬ k < l.length) : l.drop k = [] := List.drop_of_length_le z3
theorem nD {n a b : Int} : bL n a b = true ↔ a ≤ n ∧ n ≤ b := by
  unfold bL
  split <;> simp <;> omega
theorem qD {n a b : Int} (h : bL n a b = true) : a ≤ n ∧ n ≤ b := nD.1 h
theorem xJ {key : An} : Vo key = true ↔ 1 ≤ key.length ∧ key.length ≤ 64 := by
  unfold Vo
  split <;> simp <;> omega
def U1 (c : Eb) : Prop := (1 ≤ c.id ∧ c.id ≤ 1000000000) ∧ (1 ≤ c.key.length ∧ c.key.length ≤ 64) ∧ 0 ≤ c.frm ∧ c.frm < c.to ∧ c.to ≤ 1000000000000
theorem zH {c : Eb} : (eP c && Vp c && Ql c) = true ↔ U1 c := by
  unfold eP Vp Ql U1
  rw [Bool.and_eq_true, Bool.and_eq_true, nD, xJ]
  constructor
  · rintro ⟨⟨h1, h2⟩, h3⟩
    refine ⟨h1, h2, ?_⟩
    split at h3
    · split at h3
      · exact ⟨‹_›, ‹_›, by simpa using h3⟩
      · cases h3
    · cases h3
  · rintro ⟨h1, h2, h3, h4, h5⟩
    exact ⟨⟨h1, h2⟩, by rw [if_pos h3, if_pos h4]; simpa using h5⟩
def U2 (l : List Eb) : Prop := l.length ≤ 4 ∧ (∀ c ∈ l, U1 c) ∧ l.Pairwise fun a b => a.id < b.id
theorem bM (l : List Eb) (a : Nat) (b : Int) (c : List Int) : ∀ n k, l.length < n + k → Fe (Oy l a b c n k) (fun r => r) (fun _ => true) = (l.drop k).all fun c => eP c && Vp c && Ql c
  | 0, k, h => by
    rw [Ws l k z3]
    rfl
  | n + 1, k, h => by
    rw [Oy]
    by_cases hk : k < l.length
    · rw [if_pos z3, nB l k hk, List.all_cons]
      cases h1 : eP (l.getD k default)
      · simp [Fe]
      · cases h2 : Vp (l.getD k default)
        · simp [Fe]
        · cases h3 : Ql (l.getD k default)
          · simp [Fe]
          · simpa using bM l a b c n (k + 1) z3
    · rw [if_neg z3, Ws l k hk]
      rfl
def Vs : Int → List Int → List Eb → Bool
  | _, _, [] => true
  | last, seen, c :: r => if c.id ∈ seen then false else if c.id < last then false else Vs c.id (seen ++ [c.id]) r
theorem bN (l : List Eb) (B : Nat → Int → List Int → Bool) (b : Bool) (hB : ∀ x y z, B x y z = b) : ∀ n k last seen, l.length < n + k → eM (Mc l n k last seen) (fun r => r) B = (Vs last seen (l.drop k) && b)
  | 0, k, last, seen, h => by
    rw [Ws l k z3]
    simp [Mc, eM, Vs, hB]
  | n + 1, k, last, seen, h => by
    rw [Mc]
    by_cases hk : k < l.length
    · rw [if_pos z3, nB l k hk, Vs]
      by_cases h1 : (l.getD k default).id ∈ seen
      · rw [if_pos h1, if_pos h1]; simp [eM]
      · rw [if_neg h1, if_neg h1]
        by_cases h2 : (l.getD k default).id < last
        · rw [if_pos h2, if_pos h2]; simp [eM]
        · rw [if_neg h2, if_neg h2]
          exact bN l B b hB n (k + 1) _ _ z3
    · rw [if_neg z3, Ws l k hk]
      simp [eM, Vs, hB]
theorem jZ : ∀ (xs : List Eb) (last : Int) (seen : List Int), (∀ s ∈ seen, s ≤ last) → (Vs last seen xs = true ↔ (∀ c ∈ xs, last ≤ c.id ∧ c.id ∉ seen) ∧ xs.Pairwise fun a b => a.id < b.id)
  | [], last, seen, _ => by simp [Vs]
  | c :: r, last, seen, hs => by
    rw [Vs]
    by_cases h1 : c.id ∈ seen
    · rw [if_pos h1]
      exact ⟨nofun, fun ⟨h, _⟩ => absurd h1 (h c List.mem_cons_self).2⟩
    · rw [if_neg h1]
      by_cases h2 : c.id < last
      · rw [if_pos h2]
        exact ⟨nofun, fun ⟨h, _⟩ => by have := (h c List.mem_cons_self).1; omega⟩
      · rw [if_neg h2, jZ r c.id (seen ++ [c.id]) (fun s hm => by
          rcases List.mem_append.1 hm with hm | hm
          · have := hs s hm; omega
          · have : s = c.id := by simpa using hm
            omega), List.pairwise_cons]
        constructor
        · rintro ⟨g1, g2⟩
          have g3 : ∀ d ∈ r, c.id < d.id := fun d hd => by
            obtain ⟨a1, a2⟩ := g1 d hd
            have : d.id ≠ c.id := fun e => a2 (by simp [e])
            omega
          refine ⟨fun d hd => ?_, g3, g2⟩
          rcases List.mem_cons.1 hd with rfl | hd
          · exact ⟨by omega, h1⟩
          · obtain ⟨a1, a2⟩ := g1 d hd
            exact ⟨by omega, fun hm => a2 (List.mem_append_left _ hm)⟩
        · rintro ⟨g1, g2, g3⟩
          refine ⟨fun d hd => ?_, g3⟩
          have := g2 d hd
          refine ⟨by omega, fun hm => ?_⟩
          rcases List.mem_append.1 hm with hm | hm
          · have := hs _ hm; omega
          · have : d.id = c.id := by simpa using hm
            omega
theorem xK {l : List Eb} : Ps l = true ↔ U2 l := by
  unfold Ps U2
  rw [bN l _ (decide (((l.length : Nat) : Int) ≤ 4) && l.all fun c => eP c && Vp c && Ql c) (fun x y z => by
    by_cases h : ((l.length : Nat) : Int) ≤ 4
    · rw [if_pos h, bM l x y z _ _ z3]
      simp [h]
    · rw [if_neg h]; simp [h]) _ _ _ _ z3]
  rw [List.drop_zero, Bool.and_eq_true, Bool.and_eq_true, jZ l 0 [] Ij, List.all_eq_true, decide_eq_true_eq]
  constructor
  · rintro ⟨⟨_, h2⟩, h3, h4⟩
    exact ⟨by omega, fun c hc => zH.1 (h4 c hc), h2⟩
  · rintro ⟨h1, h2, h3⟩
    exact ⟨⟨fun c hc => ⟨by have := (h2 c hc).1; omega, by simp⟩, h3⟩, by omega, fun c hc => zH.2 (h2 c hc)⟩
def xL (l : List Eb) : Prop := ∀ k : Nat, 0 ≤ (l.getD k default).id ∧ (l.getD k default).id ≤ 1000000000
theorem xL.id {l : List Eb} (h : xL l) (k : Nat) : 0 ≤ (l.getD k default).id ∧ (l.getD k default).id ≤ 1000000000 := h k
theorem tZ {α : Type} [Inhabited α] (l : List α) (k : Nat) : l.getD k default ∈ l ∨ l.getD k default = default := by
  by_cases h : k < l.length
  · left; simp [List.getD, h]
  · right; simp [List.getD, h]
theorem uA {l : List Eb} (h : Ps l = true) : xL l := fun k => by
  obtain ⟨_, h2, _⟩ := xK.1 h
  rcases tZ l k with hm | hm
  · have := (h2 _ hm).1; omega
  · rw [hm]
    show 0 ≤ (0 : Int) ∧ (0 : Int) ≤ _
    omega
end Go.Proofs.YtdnjanhdnibkfaaGreatDoor.Jd

namespace Go.Proofs.YtdnjanhdnibkfaaGreatDoor.Jd
open Go.Proofs.Tryz
set_option linter.unusedVariables false
set_option linter.unusedSimpArgs false
theorem bO {a : Int} (h : Za a = true) : 0 ≤ a ∧ a ≤ 4294967295 := by
  unfold Za at h; split at h
  · exact ⟨‹_›, by simpa using h⟩
  · cases h
theorem F4 {bits : Int} (h : 0 ≤ bits ∧ bits ≤ 32) : tV bits = 2 ^ (32 - bits).toNat := by
  obtain ⟨n, hn⟩ : ∃ n : Nat, bits = 32 - (n : Int) := ⟨(32 - bits).toNat, by omega⟩
  have h1 : (32 - bits).toNat = n := by omega
  have h2 : n ≤ 32 := by omega
  unfold tV fZ
  rw [h1, show min n IntKind.i64.bits = n from by show min n 64 = n; omega, Int.one_mul]
  apply Hh
  have h3 : (2 : Int) ^ n ≤ 2 ^ 32 := tI h2
  have h4 : (0 : Int) < 2 ^ n := Int.pow_pos z3
  omega
theorem U3 {bits : Int} (h : 0 ≤ bits ∧ bits ≤ 32) : 1 ≤ tV bits ∧ tV bits ≤ 4294967296 := by
  rw [F4 h]
  have h3 : (2 : Int) ^ (32 - bits).toNat ≤ 2 ^ 32 := tI z3
  have h4 : (0 : Int) < 2 ^ (32 - bits).toNat := Int.pow_pos z3
  omega
theorem uB {p : Js} (h : dQ p = true) : 0 ≤ p.bits ∧ p.bits ≤ 32 ∧ 0 ≤ p.addr ∧ p.addr ≤ 4294967295 := by
  unfold dQ at h
  split at h
  · split at h
    · have := bO h; omega
    · cases h
  · cases h
theorem uC {p : Js} (h : dR p = true) : 0 ≤ p.bits ∧ p.bits ≤ 32 ∧ 0 ≤ p.addr ∧ p.addr ≤ 4294967295 := by
  apply uB
  unfold dR at h
  cases hs : dQ p
  · simp [hs] at h
  · rfl
theorem Vt {a : Int} (h : 0 ≤ a ∧ a ≤ 4294967295) : (0 ≤ Cq .i64 (Ae .i64 a 24) 255 ∧ Cq .i64 (Ae .i64 a 24) 255 ≤ 255) ∧ (0 ≤ Cq .i64 (Ae .i64 a 16) 255 ∧ Cq .i64 (Ae .i64 a 16) 255 ≤ 255) ∧ (0 ≤ Cq .i64 (Ae .i64 a 8) 255 ∧ Cq .i64 (Ae .i64 a 8) 255 ≤ 255) ∧ (0 ≤ Cq .i64 (Ae .i64 a 0) 255 ∧ Cq .i64 (Ae .i64 a 0) 255 ≤ 255) :=
  ⟨(gT h 24 z3).2, (gT h 16 z3).2, (gT h 8 z3).2, (gT h 0 z3).2⟩
theorem dT {x y z u : An} (hx : x.length ≤ 21) (hy : y.length ≤ 21) (hz : z.length ≤ 21) (hu : u.length ≤ 21) : (Lib.join ((([x] ++ [y]) ++ [z]) ++ [u]) [46]).length ≤ 87 := by
  simp [Lib.join, List.intercalate]
  omega
theorem xM (a : Int) : (Md a).1.length ≤ 87 := by
  unfold Md
  split
  · simp
  · rename_i hn
    have h := bO (a := a) (by simpa using hn)
    have hbb := Vt h
    exact dT (Fb z3) (Fb z3) (Fb z3) (Fb z3)
end Go.Proofs.YtdnjanhdnibkfaaGreatDoor.Jd

namespace Go.Proofs.YtdnjanhdnibkfaaGreatDoor.Jd
open Go.Proofs.Tryz
set_option linter.unusedVariables false
set_option linter.unusedSimpArgs false
theorem U4 {p : Sz} (h : dS p = true) : 0 ≤ p.lo ∧ p.lo ≤ p.hi ∧ p.hi ≤ 65535 := by
  unfold dS at h
  split at h
  · cases h
  · split at h
    · cases h
    · split at h
      · cases h
      · omega
end Go.Proofs.YtdnjanhdnibkfaaGreatDoor.Jd

namespace Go.Proofs.YtdnjanhdnibkfaaGreatDoor.Jd
open Go.Proofs.Tryz
set_option linter.unusedVariables false
set_option linter.unusedSimpArgs false
theorem Mn (s : Slots) : ∀ (n i : Nat) (b : Bool), Gq s n i = .error b → b = false
  | 0, i, b, h => by simp [Gq] at h
  | n + 1, i, b, h => by
    unfold Gq at h
    split at h
    · split at h
      · have h0 : (0 : Int) ≤ ((i : Nat) : Int) := by omega
        simp only [h0, not_true_eq_false, not_false_eq_true, if_true] at h
        exact (Except.error.inj h).symm
      · split at h
        · have h0 : (0 : Int) ≤ ((i : Nat) : Int) := by omega
          simp only [h0, not_true_eq_false, not_false_eq_true, if_true] at h
          exact (Except.error.inj h).symm
        · exact Mn s n _ b h
    · simp at h
theorem bP (s : Slots) : ∀ (n i j : Nat), Gq s n i = .ok j → ∀ k : Nat, i ≤ k → k < i + n → k < s.gens.length → 0 ≤ s.gens.getD k default ∧ s.gens.getD k default ≤ 1000000000
  | 0, i, j, h, k, h1, h2, h3 => by omega
  | n + 1, i, j, h, k, h1, h2, h3 => by
    unfold Gq at h
    split at h
    · split at h
      · simp at h
      · split at h
        · simp at h
        · by_cases e : k = i
          · subst e; omega
          · exact bP s n _ j h k z3 z3 h3
    · omega
theorem Rc (s : Slots) (x : Nat) : ∀ (n i : Nat) (l : List Int) (b : Bool), Gd s x n i l = .error b → b = false
  | 0, i, l, b, h => by simp [Gd] at h
  | n + 1, i, l, b, h => by
    unfold Gd at h
    split at h
    · split at h
      · exact (Except.error.inj h).symm
      · split at h
        · exact (Except.error.inj h).symm
        · split at h
          · exact (Except.error.inj h).symm
          · split at h
            · exact (Except.error.inj h).symm
            · exact Rc s x n _ _ b h
    · simp at h
theorem bQ (s : Slots) (x : Nat) : ∀ (n i : Nat) (l : List Int) (r : Nat × List Int), Gd s x n i l = .ok r → ∀ k : Nat, i ≤ k → k < i + n → k < s.free.length → 0 ≤ s.free.getD k default ∧ s.free.getD k default < ((s.used.length : Nat) : Int) ∧ s.used.getD ((s.free.getD k default)).toNat default = false
  | 0, i, l, r, h, k, h1, h2, h3 => by omega
  | n + 1, i, l, r, h, k, h1, h2, h3 => by
    unfold Gd at h
    split at h
    · split at h
      · simp at h
      · split at h
        · simp at h
        · split at h
          · simp at h
          · split at h
            · simp at h
            · by_cases e : k = i
              · subst e; refine ⟨by omega, by omega, by simp_all⟩
              · exact bQ s x n _ _ r h k z3 z3 h3
    · omega
theorem Zc {s : Slots} (h : Ns s = true) : 1 ≤ s.gens.length ∧ s.gens.length ≤ 64 ∧ s.used.length = s.gens.length ∧ (∀ k : Nat, k < s.gens.length → 0 ≤ s.gens.getD k default ∧ s.gens.getD k default ≤ 1000000000) ∧ (∀ k : Nat, k < s.free.length → 0 ≤ s.free.getD k default ∧ s.free.getD k default < ((s.used.length : Nat) : Int) ∧ s.used.getD ((s.free.getD k default)).toNat default = false) := by
  unfold Ns at h
  split at h
  · split at h
    · split at h
      · exact absurd h (by decide)
      · rename_i h1 h2 h3
        have h3' : ((s.used.length : Nat) : Int) = ((s.gens.length : Nat) : Int) := by omega
        refine ⟨by omega, by omega, by omega, ?_, ?_⟩
        · cases e : Gq s (s.gens.length + 1) 0 with
          | error b =>
            have := Mn s _ _ _ e
            subst this
            rw [e] at h; simp [Fe] at h
          | ok j =>
            intro k hk
            exact bP s _ _ _ e k z3 z3 hk
        · cases e : Gq s (s.gens.length + 1) 0 with
          | error b =>
            have := Mn s _ _ _ e
            subst this
            rw [e] at h; simp [Fe] at h
          | ok j =>
            rw [e] at h
            simp only [Fe] at h
            cases e2 : Gd s j (s.free.length + 1) 0 ([] : List Int) with
            | error b =>
              have := Rc s _ _ _ _ _ e2
              subst this
              rw [e2] at h; simp [Gu] at h
            | ok r =>
              intro k hk
              exact bQ s _ _ _ _ _ e2 k z3 z3 hk
    · exact absurd h (by decide)
  · exact absurd h (by decide)
theorem Yd (s : Slots) (x : Nat) : ∀ (n i : Nat) (l : List Int) (r : Nat × List Int), Gd s x n i l = .ok r → s.free.length < i + n → i ≤ s.free.length → r.2.length = l.length + (s.free.length - i)
  | 0, i, l, r, h, h1, h2 => by omega
  | n + 1, i, l, r, h, h1, h2 => by
    unfold Gd at h
    split at h
    · split at h
      · simp at h
      · split at h
        · simp at h
        · split at h
          · simp at h
          · split at h
            · simp at h
            · have := Yd s x n _ _ r h z3 z3
              simp only [List.length_append, List.length_cons, List.length_nil] at this
              omega
    · have := Except.ok.inj h
      subst this; simp only; omega
theorem Tc (s : Slots) (a b : Nat) (l : List Int) : ∀ (n i : Nat) (x : Int), (Kk s a b l n i x).2 ≤ x
  | 0, i, x => by simp [Kk]
  | n + 1, i, x => by
    unfold Kk
    split
    · split
      · have := Tc s a b l n (i + 1) (x - 1); omega
      · exact Tc s a b l n (i + 1) x
    · simp
theorem uD {s : Slots} (h : Ns s = true) : s.free.length ≤ 64 := by
  have h0 := Zc h
  unfold Ns at h
  rw [if_pos z3, if_pos z3, if_neg z3] at h
  cases e : Gq s (s.gens.length + 1) 0 with
  | error b =>
    have := Mn s _ _ _ e
    subst this
    rw [e] at h; simp [Fe] at h
  | ok j =>
    rw [e] at h
    simp only [Fe] at h
    cases e2 : Gd s j (s.free.length + 1) 0 ([] : List Int) with
    | error b =>
      have := Rc s _ _ _ _ _ e2
      subst this
      rw [e2] at h; simp [Gu] at h
    | ok r =>
      have hl := Yd s _ _ _ _ _ e2 z3 z3
      rw [e2] at h
      obtain ⟨r1, r2⟩ := r
      simp only [Gu, Iu] at h
      have h6 := Tc s j r1 r2 (s.used.length + 1) 0 ((s.gens.length : Nat) : Int)
      split at h
      · exact absurd h (by decide)
      · rename_i h7
        simp only [List.length_nil] at hl
        omega
theorem AM5 {l : List Int} {a b : Int} (ha : a ≤ 0) (hb : 0 ≤ b) (h : ∀ k : Nat, k < l.length → a ≤ l.getD k default ∧ l.getD k default ≤ b) (k : Nat) : a ≤ l.getD k default ∧ l.getD k default ≤ b := by
  by_cases e : k < l.length
  · exact h k e
  · have : l.getD k default = 0 := by rw [List.getD_eq_getElem?_getD, List.getElem?_eq_none z3]; rfl
    omega
theorem bR {s : Slots} (h : Ns s = true) : s.free.length ≤ 64 ∧ 1 ≤ s.gens.length ∧ s.gens.length ≤ 64 ∧ s.used.length = s.gens.length ∧ (0 ≤ (((s.free.length : Nat) : Int) - 1) → 0 ≤ s.free.getD ((((s.free.length : Nat) : Int) - 1)).toNat default ∧ s.free.getD ((((s.free.length : Nat) : Int) - 1)).toNat default < ((s.gens.length : Nat) : Int)) ∧ 0 ≤ s.gens.getD ((s.free.getD ((((s.free.length : Nat) : Int) - 1)).toNat default)).toNat default ∧ s.gens.getD ((s.free.getD ((((s.free.length : Nat) : Int) - 1)).toNat default)).toNat default ≤ 1000000000 := by
  obtain ⟨h1, h2, h3, h4, h5⟩ := Zc h
  refine ⟨uD h, h1, h2, h3, ?_, AM5 z3 z3 h4 _⟩
  intro h6
  have := h5 ((((s.free.length : Nat) : Int) - 1)).toNat z3
  omega
theorem Vu (s : Slots) : ∀ (n i : Nat) (l : List Handle), l.length ≤ i → i ≤ s.used.length → (Qk s n i l).2.length ≤ s.used.length
  | 0, i, l, h, h2 => by simp only [Qk]; omega
  | n + 1, i, l, h, h2 => by
    unfold Qk
    split
    · split
      · exact Vu s n _ _ (by simp; omega) z3
      · exact Vu s n _ _ z3 z3
    · simp only; omega
theorem U5 (s : Slots) : (Xl s).length ≤ 64 := by
  unfold Xl
  cases h : Ns s
  · simp
  · obtain ⟨h1, h2, h3, _, _⟩ := Zc h
    have := Vu s (s.used.length + 1) 0 [] Ij z3
    simp only [Bool.not_true, Bool.false_eq_true, if_false, Iu]; omega
end Go.Proofs.YtdnjanhdnibkfaaGreatDoor.Jd

namespace Go.Proofs.YtdnjanhdnibkfaaGreatDoor.Jd
open Go.Proofs.Tryz
open Go.Proofs
open Go.RowKit (Below)
set_option maxRecDepth 100000
set_option maxHeartbeats 8000000
set_option linter.unusedVariables false
set_option linter.unusedSimpArgs false
def qE (x : Handle) : List Value := [vi x.slot, vi x.gen]
theorem Zd : Ed qE 2 := ⟨by omega, fun _ => rfl, fun _ => rfl⟩
theorem mixed : Tryz.prog.follows .mixedOrders = true := by kernel_rfl
theorem bS : Bl Tryz.prog 23 0 0 := fun r k w => by simp [Instr.fieldAt, Instr.sureAddr, fieldPlace, Bc]
theorem bT : Bl Tryz.prog 31 0 0 := fun r k w => by simp [Instr.fieldAt, Instr.sureAddr, fieldPlace, Bc]
theorem Td : Bl Tryz.prog 31 1 1 := fun r k w => by simp [Instr.fieldAt, Instr.sureAddr, fieldPlace, Bc]
theorem Og : Bl Tryz.prog 31 2 2 := fun r k w => by simp [Instr.fieldAt, Instr.sureAddr, fieldPlace, Bc]
theorem Vv : Bl Tryz.prog 276 0 0 := fun r k w => by simp [Instr.fieldAt, Instr.sureAddr, fieldPlace, Bc]
theorem BJ3 : Fh Tryz.prog 23 [(0, 1), (1, 1)] := ⟨_, fun w => runUnderlying23 w, fun w => by simp⟩
theorem BJ4 : Fh Tryz.prog 31 [(0, 1), (1, 1), (2, 1)] := ⟨_, fun w => runUnderlying31 w, fun w => by simp⟩
theorem xN : Fh Tryz.prog 276 [(0, 3)] := ⟨_, fun w => runUnderlying276 w, fun w => by simp⟩
theorem U6 (a0 b0 : Int) (a1 b1 : Int) (n : Nat) (w : World) : (Op.equalIn (n + 2) 23 (Value.agg [vi a0, vi a1].toArray) (Value.agg [vi b0, vi b1].toArray)).run Tryz.prog w = .ok (decide (a0 = b0 ∧ a1 = b1)) w := by
 rw [show n + 2 = (n + 1) + 1 from rfl]
 unfold Op.equalIn
 simp [part, aW (P := Tryz.prog) (t := 3) n .i64 _ _ runUnderlying3]
 by_cases h0 : a0 = b0 <;> by_cases h1 : a1 = b1 <;> simp_all
theorem BJ5 (x y : Operand) (a0 b0 : Int) (a1 b1 : Int) (w : World) : (do eqGuard .eql 23 x y (Value.agg [vi a0, vi a1].toArray) (Value.agg [vi b0, vi b1].toArray); binOp .eql 23 (Value.agg [vi a0, vi a1].toArray) (Value.agg [vi b0, vi b1].toArray) : Sem Value).run Tryz.prog w = .ok (.bool (decide (a0 = b0 ∧ a1 = b1))) w := by
 have h2 : (binOp .eql 23 (Value.agg [vi a0, vi a1].toArray) (Value.agg [vi b0, vi b1].toArray)).run Tryz.prog w = .ok (.bool (decide (a0 = b0 ∧ a1 = b1))) w := by
  show (do pure (.bool (← Op.equal 23 _ _)) : Sem Value).run Tryz.prog w = _
  simp only [Sem.run_bind, Op.equal, Op.maxDepth, U6 a0 b0 a1 b1 9998, Result.andThen_ok, Sem.run_pure]
 simp [eqGuard]
 simpa using h2
theorem U7 (x y : Operand) (a0 b0 : Int) (a1 b1 : Int) (w : World) : (do eqGuard .neq 23 x y (Value.agg [vi a0, vi a1].toArray) (Value.agg [vi b0, vi b1].toArray); binOp .neq 23 (Value.agg [vi a0, vi a1].toArray) (Value.agg [vi b0, vi b1].toArray) : Sem Value).run Tryz.prog w = .ok (.bool (decide (¬ (a0 = b0 ∧ a1 = b1)))) w := by
 have h2 : (binOp .neq 23 (Value.agg [vi a0, vi a1].toArray) (Value.agg [vi b0, vi b1].toArray)).run Tryz.prog w = .ok (.bool (decide (¬ (a0 = b0 ∧ a1 = b1)))) w := by
  show (do pure (.bool (!(← Op.equal 23 _ _))) : Sem Value).run Tryz.prog w = _
  simp only [Sem.run_bind, Op.equal, Op.maxDepth, U6 a0 b0 a1 b1 9998, Result.andThen_ok, Sem.run_pure]
  congr 2
  simp
 simp [eqGuard]
 simpa using h2
theorem Fq : Ty Tryz.prog 3 1 8 (vi 0) := ⟨⟨Tryz.t3, by kernel_rfl, rfl, rfl, rfl⟩, rfl⟩
theorem F5 : Ty Tryz.prog 4 1 1 (Value.bool false) := ⟨⟨Tryz.t4, by kernel_rfl, rfl, rfl, rfl⟩, rfl⟩
theorem BJ6 : Ty Tryz.prog 23 2 16 (Value.agg [(vi 0), (vi 0)].toArray) := ⟨⟨Tryz.t23, by kernel_rfl, rfl, rfl, rfl⟩, rfl⟩
theorem Kl {w : World} {α : Type} {enc : α → List Value} {k : Nat} {a : Option Addr} {s : List α} (h : Sl w enc k a s) (hn : Option.isNone a = true) : ([] : List α) = s := by
 have : a = none := by simpa using hn
 subst this
 exact (Sl.none h).symm
theorem Ze (w : World) {s_a : Option Addr} {s_c : Nat} {s : List Int} (h_s : Sl w eI 1 s_a s) (n_s : s.length ≤ 1000000) : Calls Tryz.prog 123 (List.toArray [(vs s_a s.length s_c)]) w fun e w2 => ∃ a1 : Option Addr, ∃ c1 : Nat, ∃ B1 : Av, e = .returned (vs a1 s.length c1) ∧ Ej w w2 B1 ∧ Bt eI 1 3 a1 c1 B1 s := by
 have hF := Is.refl s
 refine enter func123 ntmps123 (h := ?_)
 refine Lj ?_
 refine Af (gP runUnderlying24) (k := ?_)
 refine Z0 ?_
 refine Dl rfl (fun hq1 => ?_) (fun hq1 => ?_)
 ·refine Cb ?_
  refine Lk ?_
  refine Aa results123 z0 (fun w1 hw1 => ?_)
  have hcan0 : ([] : List Int) = s := by (first | rfl | (exact Kl h_s z53))
  have hlen0 : 0 = s.length := by first | (rw [← hcan0]; done) | (rw [← hcan0]; first | rfl | (simp; done) | (simp only [List.length_append, List.length_take, List.length_drop, List.length_set, List.length_replicate, List.length_cons, List.length_nil, List.length_map, Di, Cw]; omega) | (simp; omega))
  exact ⟨none, 0, [], zY, (hw1.fresh_out.sub Mo), (hcan0 ▸ Bt.nil)⟩
 refine Ua ?_
 refine Ak Ag (Ea (l := []) runUnderlying24 sizeOf3 zeroValue3) (k := fun r1 hr1 => ?_)
 refine Ck ?_
 refine Bb s (List.nil_append _) Fq underlying24 Ba Bt.nil (List.Perm.refl _) (Cl.of_base h_s) ⟨by omega, by omega⟩ (n := 0) (m := s.length) (k := fun ax1 cx1 Bx1 hox1 => ?_)
 refine Z4 ?_
 refine Aa results123 z0 (fun w1 hw1 => ?_)
 have hcan0 : s = s := by (first | rfl | (exact Kl h_s z53))
 have hlen0 : s.length = s.length := by first | (rw [← hcan0]; done) | (rw [← hcan0]; first | rfl | (simp; done) | (simp only [List.length_append, List.length_take, List.length_drop, List.length_set, List.length_replicate, List.length_cons, List.length_nil, List.length_map, Di, Cw]; omega) | (simp; omega))
 exact ⟨ax1, cx1, Bx1, zY, (Ax (L := Bx1) (hw1.perm (List.Perm.refl _)) rfl.symm), (hcan0 ▸ hox1)⟩

theorem Zf (w : World) {s_a : Option Addr} {s_c : Nat} {s : List Bool} (h_s : Sl w eB 1 s_a s) (n_s : s.length ≤ 1000000) : Calls Tryz.prog 124 (List.toArray [(vs s_a s.length s_c)]) w fun e w2 => ∃ a1 : Option Addr, ∃ c1 : Nat, ∃ B1 : Av, e = .returned (vs a1 s.length c1) ∧ Ej w w2 B1 ∧ Bt eB 1 4 a1 c1 B1 s := by
 have hF := Is.refl s
 refine enter func124 ntmps124 (h := ?_)
 refine Lj ?_
 refine Af (gP runUnderlying29) (k := ?_)
 refine Z0 ?_
 refine Dl rfl (fun hq1 => ?_) (fun hq1 => ?_)
 ·refine Cb ?_
  refine Lk ?_
  refine Aa results124 z0 (fun w1 hw1 => ?_)
  have hcan0 : ([] : List Bool) = s := by (first | rfl | (exact Kl h_s z53))
  have hlen0 : 0 = s.length := by first | (rw [← hcan0]; done) | (rw [← hcan0]; first | rfl | (simp; done) | (simp only [List.length_append, List.length_take, List.length_drop, List.length_set, List.length_replicate, List.length_cons, List.length_nil, List.length_map, Di, Cw]; omega) | (simp; omega))
  exact ⟨none, 0, [], zY, (hw1.fresh_out.sub Mo), (hcan0 ▸ Bt.nil)⟩
 refine Ua ?_
 refine Ak Ag (Ea (l := []) runUnderlying29 sizeOf4 zeroValue4) (k := fun r1 hr1 => ?_)
 refine Ck ?_
 refine Bb s (List.nil_append _) F5 underlying29 Oa Bt.nil (List.Perm.refl _) (Cl.of_base h_s) ⟨by omega, by omega⟩ (n := 0) (m := s.length) (k := fun ax1 cx1 Bx1 hox1 => ?_)
 refine Z4 ?_
 refine Aa results124 z0 (fun w1 hw1 => ?_)
 have hcan0 : s = s := by (first | rfl | (exact Kl h_s z53))
 have hlen0 : s.length = s.length := by first | (rw [← hcan0]; done) | (rw [← hcan0]; first | rfl | (simp; done) | (simp only [List.length_append, List.length_take, List.length_drop, List.length_set, List.length_replicate, List.length_cons, List.length_nil, List.length_map, Di, Cw]; omega) | (simp; omega))
 exact ⟨ax1, cx1, Bx1, zY, (Ax (L := Bx1) (hw1.perm (List.Perm.refl _)) rfl.symm), (hcan0 ▸ hox1)⟩

theorem nF (w : World) {s_gens_a : Option Addr} {s_gens_c : Nat} {s_used_a : Option Addr} {s_used_c : Nat} {s_free_a : Option Addr} {s_free_c : Nat} {s : Slots} (h_s_gens : Sl w eI 1 s_gens_a s.gens) (n_s_gens : s.gens.length ≤ 1000) (h_s_used : Sl w eB 1 s_used_a s.used) (n_s_used : s.used.length ≤ 1000) (h_s_free : Sl w eI 1 s_free_a s.free) (n_s_free : s.free.length ≤ 1000) : Ha Tryz.prog 118 [(Value.agg [(vs s_gens_a s.gens.length s_gens_c), (vs s_used_a s.used.length s_used_c), (vs s_free_a s.free.length s_free_c)].toArray)] w (Value.bool (Ns s)) := by
 have hF := Is.refl (Ns s)
 refine enter func118 ntmps118 (h := ?_)
 refine Z2 ?_
 refine Ak Ag Ll (k := fun r1 hr1 => ?_)
 refine Kt ?_
 refine sM ?_
 refine Af (Cx (cs := [_, _, _]) zeroValue276 xN) (k := ?_)
 refine Ak Ag Ll (k := fun r2 hr2 => ?_)
 refine Ak Ag (Ea (l := [_, _, _]) runUnderlying357 sizeOf280 zeroValue280) (k := fun r3 hr3 => ?_)
 refine Bq (args := [_, _]) (Ac call173) func173 ntmps173 ?_
 refine Lj ?_
 refine Af (Fg runUnderlying357) (k := ?_)
 refine lO ?_
 refine Af (Ei runUnderlying357 sizeOf280 0) (k := ?_)
 refine Af (Bm isAgg280) (k := ?_)
 refine Ji ?_
 refine Bq (args := [_]) (Ac call174) func174 ntmps174 ?_
 refine Z2 ?_
 refine Ik ?_
 refine Eh mixed 32 [(true, 0), (true, 1), (true, 2), (true, 3), (true, 4), (true, 5), (true, 6), (true, 7), (true, 8), (true, 9), (true, 10), (true, 11), (true, 12), (true, 13), (true, 14), (true, 15), (true, 16), (true, 17), (true, 18), (true, 19), (true, 20), (true, 21), (true, 22), (true, 23), (true, 24), (true, 25), (true, 26), (true, 27), (true, 28), (true, 29), (true, 30), (true, 31)] z2 ?_
 refine Z6 ?_
 refine vY ?_
 refine Be z71 (k := ?_)
 refine Be Qg (k := ?_)
 refine Fo ?_
 refine Dg 10 rfl (fun hq1 => ?_) (fun hq1 => ?_)
 rotate_left
 ·refine Ay 7 rfl ?_
  refine oI ?_
  refine Ay 13 rfl ?_
  refine Ks ?_
  refine Bd results174 z0 ?_
  refine AV7 ?_
  refine Aa results118 z0 (fun w1 hw1 => ?_)
  exact ⟨(rq (hF.neg hq1)), hw1.ext_out⟩
 refine oX ?_
 refine M3 ?_
 refine Bu z71 (k := ?_)
 refine Bu Lm (k := ?_)
 refine eJ ?_
 refine Dg 19 rfl (fun hq2 => ?_) (fun hq2 => ?_)
 rotate_left
 ·refine Ay 13 rfl ?_
  refine Ks ?_
  refine Bd results174 z0 ?_
  refine AV7 ?_
  refine Aa results118 z0 (fun w1 hw1 => ?_)
  exact ⟨(rq ((hF.pos hq1).neg hq2)), hw1.ext_out⟩
 refine oX ?_
 refine Bu (Al Td) (k := ?_)
 refine Bu (Bm isAgg29) (k := ?_)
 refine Bu z72 (k := ?_)
 refine oX ?_
 refine M3 ?_
 refine Bu z71 (k := ?_)
 refine fT ?_
 refine rK ?_
 refine Bd results174 z0 ?_
 refine Uz ?_
 refine Bi rfl (fun hq3 => ?_) (fun hq3 => ?_)
 ·refine Cb ?_
  refine Cp ?_
  refine vU ?_
  refine Aa results118 z0 (fun w1 hw1 => ?_)
  exact ⟨(rq (((hF.pos hq1).pos hq2).pos hq3)), hw1.ext_out⟩
 refine Vb ?_
 refine Af (Ei runUnderlying357 sizeOf280 1) (k := ?_)
 refine Af (Bm isAgg280) (k := ?_)
 refine Ji ?_
 refine Bq (args := [_]) (Ac call175) func175 ntmps175 ?_
 refine Xv ?_
 refine Mq ?_
 refine vD ?_
 refine vQ ?_
 refine Ck ?_
 refine B0 ?_
 refine Hp ?_
 refine vK ?_
 refine Yk ?_
 refine Jj (σ1 := Nat) (σ2 := Nat) (fun n_2 x_1 => ((r3, oc [(Value.func (.func 174) [].toArray [].toArray), (Value.func (.func 175) [].toArray [].toArray), (Value.func (.func 176) [].toArray [].toArray)] 280) :: ((r2, oc [(vs s_gens_a s.gens.length s_gens_c), (vs s_used_a s.used.length s_used_c), (vs s_free_a s.free.length s_free_c)] 276) :: ((r1, oc [(vs s_gens_a s.gens.length s_gens_c), (vs s_used_a s.used.length s_used_c), (vs s_free_a s.free.length s_free_c)] 31) :: [])))) (fun n_2 x_1 => [(0, (vs s_gens_a s.gens.length s_gens_c)), (1, (Value.func (.func 224) [].toArray [].toArray)), (4, (vi 0)), (7, (vi ((s.gens.length : Nat) : Int))), (8, (vi ((x_1 : Nat) : Int)))]) (fun n_2 x_1 => s.gens.length - x_1 < n_2 ∧ Is (Gq s (s.gens.length + 1) 0) (Gq s n_2 x_1) ∧ x_1 ≤ s.gens.length) (fun n_2 x_1 => n_2) (s.gens.length + 1) 0 ?_ se (List.Perm.refl _) ?_
 ·exact ⟨Nat.lt_succ_self _, Is.refl _, z7⟩
 ·rintro (_ | n_2) x_1 ⟨hm4, hF3, hi5⟩
  ·omega
  refine Zy ?_
  refine Bi rfl (fun hq4 => ?_) (fun hq4 => ?_)
  rotate_left
  ·refine Cu ?_
   refine Ia ?_
   refine Yp ?_
   refine vS ?_
   refine Bd results175 z0 ?_
   refine Rf ?_
   refine lH ?_
   refine AW0 ?_
   refine AW7 ?_
   refine Nk ?_
   refine Ak Ag Xy (k := fun r12 hr12 => ?_)
   refine Iv ?_
   refine fO ?_
   refine Yk ?_
   refine aO (σ1 := Nat) (σ2 := Nat) (σ3 := List Int) (σ4 := Array MapEntry) (σ5 := Nat) (fun n_34 x_32 x_33 x_33e x_33k => ((r12, Obj.map x_33e x_33k) :: ((r3, oc [(Value.func (.func 174) [].toArray [].toArray), (Value.func (.func 175) [].toArray [].toArray), (Value.func (.func 176) [].toArray [].toArray)] 280) :: ((r2, oc [(vs s_gens_a s.gens.length s_gens_c), (vs s_used_a s.used.length s_used_c), (vs s_free_a s.free.length s_free_c)] 276) :: ((r1, oc [(vs s_gens_a s.gens.length s_gens_c), (vs s_used_a s.used.length s_used_c), (vs s_free_a s.free.length s_free_c)] 31) :: []))))) (fun n_34 x_32 x_33 x_33e x_33k => [(0, (Value.pointer (some ⟨r2, 0, none⟩))), (2, (Value.bool false)), (3, (Value.map (some r12))), (12, (vs s_free_a s.free.length s_free_c)), (13, (vi ((s.free.length : Nat) : Int))), (14, (vi ((x_32 : Nat) : Int)))]) (fun n_34 x_32 x_33 x_33e x_33k => s.free.length - x_32 < n_34 ∧ Is (Gd s x_1 (s.free.length + 1) 0 ([] : List Int)) (Gd s x_1 n_34 x_32 x_33) ∧ Po (fun x : Int => vi x) x_33e x_33 ∧ x_32 ≤ s.free.length) (fun n_34 x_32 x_33 x_33e x_33k => n_34) (s.free.length + 1) 0 ([] : List Int) (#[]) 0 ?_ se (List.Perm.refl _) ?_
   ·exact ⟨Nat.lt_succ_self _, Is.refl _, Po.nil, z7⟩
   ·rintro (_ | n_34) x_32 x_33 x_33e x_33k ⟨hm36, hF35, hx_33, hi37⟩
    ·omega
    refine Zy ?_
    refine Bi rfl (fun hq25 => ?_) (fun hq25 => ?_)
    rotate_left
    ·refine Cu ?_
     refine Ia ?_
     refine Z3 ?_
     refine vD ?_
     refine vQ ?_
     refine Qb ?_
     refine Ak Ag z64 (k := fun r13 hr13 => ?_)
     refine C1 ?_
     refine Z3 ?_
     refine AF8 ?_
     refine Ak Ag z31 (k := fun r14 hr14 => ?_)
     refine AI1 ?_
     refine Nj ?_
     refine Fx Ag rfl call223 func223 ntmps223 (fun l15 rD15 rr15 hl15 => ?_)
     refine fR ?_
     refine Af (Bm isAgg274) (k := ?_)
     refine vD ?_
     refine vR ?_
     refine Af z72 (k := ?_)
     refine Rh ?_
     refine Il (σ1 := Nat) (σ2 := Nat) (σ3 := Int) (fun n_40 x_38 x_39 => ((l15, Cr rr15 .ready none) :: ((rD15, Obj.deferred (some [])) :: ((r14, oc [(Value.pointer (some ⟨r2, 0, none⟩))] 274) :: ((r13, oc [(vi x_39)] 3) :: ((r12, Obj.map x_33e x_33k) :: ((r3, oc [(Value.func (.func 174) [].toArray [].toArray), (Value.func (.func 175) [].toArray [].toArray), (Value.func (.func 176) [].toArray [].toArray)] 280) :: ((r2, oc [(vs s_gens_a s.gens.length s_gens_c), (vs s_used_a s.used.length s_used_c), (vs s_free_a s.free.length s_free_c)] 276) :: ((r1, oc [(vs s_gens_a s.gens.length s_gens_c), (vs s_used_a s.used.length s_used_c), (vs s_free_a s.free.length s_free_c)] 31) :: []))))))))) (fun n_40 x_38 x_39 => [(0, (Value.func (.yield l15) [].toArray [].toArray)), (1, (Value.pointer (some ⟨r14, 0, none⟩))), (9, (vs s_used_a s.used.length s_used_c)), (10, (vi ((s.used.length : Nat) : Int))), (11, (vi ((x_38 : Nat) : Int)))]) (fun n_40 x_38 x_39 => s.used.length - x_38 < n_40 ∧ Is (Kk s x_1 x_32 x_33 (s.used.length + 1) 0 ((s.gens.length : Nat) : Int)) (Kk s x_1 x_32 x_33 n_40 x_38 x_39) ∧ x_38 ≤ s.used.length ∧ (0 ≤ x_39 + ((x_38 : Nat) : Int) ∧ x_39 ≤ 1000)) (fun n_40 x_38 x_39 => n_40) (s.used.length + 1) 0 ((s.gens.length : Nat) : Int) ?_ se (List.Perm.refl _) ?_
     ·exact ⟨Nat.lt_succ_self _, Is.refl _, z7, z7⟩
     ·rintro (_ | n_40) x_38 x_39 ⟨hm42, hF41, hi43, hi44⟩
      ·omega
      refine Zy ?_
      refine Bi rfl (fun hq30 => ?_) (fun hq30 => ?_)
      ·refine Cg ?_
       refine Du ?_
       refine Ib ?_
       refine Af (Cz (n := s.used.length) runUnderlying29 sizeOf4 x_38 yH (gD z4) Kc) (k := ?_)
       refine Af (Ci isAgg4 x_38 0 yH (gD z4)) (k := ?_)
       refine cZ ?_
       refine Bo 17 rfl (fun hq31 => ?_) (fun hq31 => ?_)
       rotate_left
       ·refine Ab 13 rfl ?_
        refine Pe ?_
        refine Sh ?_
        exact Ga n_40 (x_38 + 1) x_39 ⟨by omega, ((hF41.pos hq30).f hq31), vC, vC⟩ (Nat.lt_succ_self _) se (List.Perm.refl _)
       refine Qa ?_
       refine Ar (Bm isAgg274) (k := ?_)
       refine lG ?_
       refine AG6 ?_
       refine El ?_
       refine Ar (Cz (n := s.gens.length) runUnderlying24 sizeOf3 x_38 zZ (gD z4) Kc) (k := ?_)
       refine Ar (Ci isAgg3 x_38 0 zZ (gD z4)) (k := ?_)
       refine AJ0 ?_
       refine Ev (vs := [(Value.agg [(vi ((x_38 : Nat) : Int)), (vi (s.gens.getD x_38 default))].toArray)]) hl15 q0 Dw ?_
       refine Cg ?_
       refine cV ?_
       refine Cp ?_
       refine AI2 ?_
       refine AH8 ?_
       refine Fu q0 ?_
       refine Ar Hi (k := ?_)
       refine rG ?_
       refine Sh ?_
       exact Ga n_40 (x_38 + 1) (x_39 - 1) ⟨by omega, ((hF41.pos hq30).t hq31), vC, vC⟩ (Nat.lt_succ_self _) se (List.Perm.refl _)
      refine Cu ?_
      refine Ko ?_
      refine Gh (.inr rfl) results223 q0 ?_
      refine aH ?_
      refine lF ?_
      refine Af (pZ runUnderlying251 hx_33) (k := ?_)
      refine wE ?_
      refine Kx [rD15] (qa q0) results176 z0 ?_
      refine Uz ?_
      refine Bi rfl (fun hq32 => ?_) (fun hq32 => ?_)
      ·refine Cb ?_
       refine Cp ?_
       refine vU ?_
       refine Aa results118 z0 (fun w1 hw1 => ?_)
       exact ⟨(rq (((((((hF.pos hq1).pos hq2).neg hq3).ok1 (hF3.neg hq4)).ok2 (hF35.neg hq25)).rn2 (hF41.neg hq30)).pos hq32)), hw1.ext_out⟩
      refine cY ?_
      refine AC2 ?_
      refine Aa results118 z0 (fun w1 hw1 => ?_)
      exact ⟨(rq (((((((hF.pos hq1).pos hq2).neg hq3).ok1 (hF3.neg hq4)).ok2 (hF35.neg hq25)).rn2 (hF41.neg hq30)).neg hq32)), hw1.ext_out⟩
    refine dD ?_
    refine Af (Cz (n := s.free.length) runUnderlying24 sizeOf3 x_32 (Cl.of_base h_s_free) (gD z4) Kc) (k := ?_)
    refine Af (Ci isAgg3 x_32 0 (Cl.of_base h_s_free) (gD z4)) (k := ?_)
    refine Iv ?_
    refine aB ?_
    refine Ao 20 rfl (fun hq26 => ?_) (fun hq26 => ?_)
    ·refine Ab 8 rfl ?_
     refine Jh ?_
     refine Ab 8 rfl ?_
     refine iR ?_
     refine fM ?_
     refine Aa results118 z0 (fun w1 hw1 => ?_)
     exact ⟨(rq (((((hF.pos hq1).pos hq2).neg hq3).ok1 (hF3.neg hq4)).er2 ((hF35.pos hq25).pos hq26))), hw1.ext_out⟩
    refine Qa ?_
    refine lG ?_
    refine B8 ?_
    refine Ar z72 (k := ?_)
    refine Ar Qg (k := ?_)
    refine Z5 ?_
    refine Ao 30 rfl (fun hq27 => ?_) (fun hq27 => ?_)
    ·refine Ab 8 rfl ?_
     refine iR ?_
     refine fM ?_
     refine Aa results118 z0 (fun w1 hw1 => ?_)
     exact ⟨(rq (((((hF.pos hq1).pos hq2).neg hq3).ok1 (hF3.neg hq4)).er2 (((hF35.pos hq25).neg hq26).pos hq27))), hw1.ext_out⟩
    refine El ?_
    refine lG ?_
    refine B8 ?_
    refine El ?_
    refine Ar (Cz (n := s.used.length) runUnderlying29 sizeOf4 ((s.free.getD x_32 default).toNat) yH (gD z4) Kc) (k := ?_)
    refine Ar (Ci isAgg4 ((s.free.getD x_32 default).toNat) 0 yH (gD z4)) (k := ?_)
    refine Z5 ?_
    refine Bo 40 rfl (fun hq28 => ?_) (fun hq28 => ?_)
    ·refine Ab 3 rfl ?_
     refine cT ?_
     refine fM ?_
     refine Aa results118 z0 (fun w1 hw1 => ?_)
     exact ⟨(rq (((((hF.pos hq1).pos hq2).neg hq3).ok1 (hF3.neg hq4)).er2 ((((hF35.pos hq25).neg hq26).neg hq27).t hq28))), hw1.ext_out⟩
    refine Qa ?_
    refine Ar (bF (xs := x_33) (s.free.getD x_32 default) Cf runUnderlying251 runUnderlying3 zeroValue4 hx_33) (k := ?_)
    refine Pe ?_
    refine Bi rfl (fun hq29 => ?_) (fun hq29 => ?_)
    rotate_left
    ·refine Cg ?_
     refine Du ?_
     refine Sd ?_
     refine gV (xs := x_33) (s.free.getD x_32 default) Cf runUnderlying251 runUnderlying3 hx_33 z53 q0 (k := fun em9 km9 hms9 => ?_)
     refine Dz ?_
     refine Ux ?_
     exact aP n_34 (x_32 + 1) (x_33 ++ [(s.free.getD x_32 default)]) em9 km9 ⟨by omega, (((((hF35.pos hq25).neg hq26).neg hq27).f hq28).neg hq29), hms9, z3⟩ (Nat.lt_succ_self _) se (List.Perm.refl _)
    refine Z2 ?_
    refine Rg ?_
    refine fM ?_
    refine Aa results118 z0 (fun w1 hw1 => ?_)
    exact ⟨(rq (((((hF.pos hq1).pos hq2).neg hq3).ok1 (hF3.neg hq4)).er2 (((((hF35.pos hq25).neg hq26).neg hq27).f hq28).pos hq29))), hw1.ext_out⟩
  refine Py ?_
  refine Ib ?_
  refine AD5 ?_
  refine Af (Cz (n := s.gens.length) runUnderlying24 sizeOf3 x_1 zZ (gD z4) Kc) (k := ?_)
  refine Af (Ci isAgg3 x_1 0 zZ (gD z4)) (k := ?_)
  refine Bq (args := [_]) (Ac call224) func224 ntmps224 ?_
  refine iS ?_
  refine Ao 5 rfl (fun hq5 => ?_) (fun hq5 => ?_)
  ·refine Ab 2 rfl ?_
   refine Ot ?_
   refine Bd results224 z0 ?_
   refine Z0 ?_
   refine Tv ?_
   refine Ri ?_
   refine AU3 ?_
   refine Bd results116 z0 ?_
   refine Af dG (k := ?_)
   refine Z4 ?_
   refine Bd results175 z0 ?_
   refine Uz ?_
   refine Bi rfl (fun hq6 => ?_) (fun hq6 => ?_)
   ·refine Cb ?_
    refine Cp ?_
    refine vU ?_
    refine Aa results118 z0 (fun w1 hw1 => ?_)
    exact ⟨(rq (((((hF.pos hq1).pos hq2).neg hq3).er1 ((hF3.pos hq4).pos hq5)).pos hq6)), hw1.ext_out⟩
   refine Vb ?_
   refine AW0 ?_
   refine AW7 ?_
   refine Nk ?_
   refine Ak Ag Xy (k := fun r4 hr4 => ?_)
   refine Iv ?_
   refine fO ?_
   refine Yk ?_
   refine aO (σ1 := Nat) (σ2 := Nat) (σ3 := List Int) (σ4 := Array MapEntry) (σ5 := Nat) (fun n_8 x_6 x_7 x_7e x_7k => ((r4, Obj.map x_7e x_7k) :: ((r3, oc [(Value.func (.func 174) [].toArray [].toArray), (Value.func (.func 175) [].toArray [].toArray), (Value.func (.func 176) [].toArray [].toArray)] 280) :: ((r2, oc [(vs s_gens_a s.gens.length s_gens_c), (vs s_used_a s.used.length s_used_c), (vs s_free_a s.free.length s_free_c)] 276) :: ((r1, oc [(vs s_gens_a s.gens.length s_gens_c), (vs s_used_a s.used.length s_used_c), (vs s_free_a s.free.length s_free_c)] 31) :: []))))) (fun n_8 x_6 x_7 x_7e x_7k => [(0, (Value.pointer (some ⟨r2, 0, none⟩))), (2, (Value.bool false)), (3, (Value.map (some r4))), (12, (vs s_free_a s.free.length s_free_c)), (13, (vi ((s.free.length : Nat) : Int))), (14, (vi ((x_6 : Nat) : Int)))]) (fun n_8 x_6 x_7 x_7e x_7k => s.free.length - x_6 < n_8 ∧ Is (Wp s x_1 (s.free.length + 1) 0 ([] : List Int)) (Wp s x_1 n_8 x_6 x_7) ∧ Po (fun x : Int => vi x) x_7e x_7 ∧ x_6 ≤ s.free.length) (fun n_8 x_6 x_7 x_7e x_7k => n_8) (s.free.length + 1) 0 ([] : List Int) (#[]) 0 ?_ se (List.Perm.refl _) ?_
   ·exact ⟨Nat.lt_succ_self _, Is.refl _, Po.nil, z7⟩
   ·rintro (_ | n_8) x_6 x_7 x_7e x_7k ⟨hm10, hF9, hx_7, hi11⟩
    ·omega
    refine Zy ?_
    refine Bi rfl (fun hq7 => ?_) (fun hq7 => ?_)
    rotate_left
    ·refine Cu ?_
     refine Ia ?_
     refine Z3 ?_
     refine vD ?_
     refine vQ ?_
     refine Qb ?_
     refine Ak Ag z64 (k := fun r5 hr5 => ?_)
     refine C1 ?_
     refine Z3 ?_
     refine AF8 ?_
     refine Ak Ag z31 (k := fun r6 hr6 => ?_)
     refine AI1 ?_
     refine Nj ?_
     refine Fx Ag rfl call223 func223 ntmps223 (fun l7 rD7 rr7 hl7 => ?_)
     refine fR ?_
     refine Af (Bm isAgg274) (k := ?_)
     refine vD ?_
     refine vR ?_
     refine Af z72 (k := ?_)
     refine Rh ?_
     refine Il (σ1 := Nat) (σ2 := Nat) (σ3 := Int) (fun n_14 x_12 x_13 => ((l7, Cr rr7 .ready none) :: ((rD7, Obj.deferred (some [])) :: ((r6, oc [(Value.pointer (some ⟨r2, 0, none⟩))] 274) :: ((r5, oc [(vi x_13)] 3) :: ((r4, Obj.map x_7e x_7k) :: ((r3, oc [(Value.func (.func 174) [].toArray [].toArray), (Value.func (.func 175) [].toArray [].toArray), (Value.func (.func 176) [].toArray [].toArray)] 280) :: ((r2, oc [(vs s_gens_a s.gens.length s_gens_c), (vs s_used_a s.used.length s_used_c), (vs s_free_a s.free.length s_free_c)] 276) :: ((r1, oc [(vs s_gens_a s.gens.length s_gens_c), (vs s_used_a s.used.length s_used_c), (vs s_free_a s.free.length s_free_c)] 31) :: []))))))))) (fun n_14 x_12 x_13 => [(0, (Value.func (.yield l7) [].toArray [].toArray)), (1, (Value.pointer (some ⟨r6, 0, none⟩))), (9, (vs s_used_a s.used.length s_used_c)), (10, (vi ((s.used.length : Nat) : Int))), (11, (vi ((x_12 : Nat) : Int)))]) (fun n_14 x_12 x_13 => s.used.length - x_12 < n_14 ∧ Is (Rt s x_1 x_6 x_7 (s.used.length + 1) 0 ((s.gens.length : Nat) : Int)) (Rt s x_1 x_6 x_7 n_14 x_12 x_13) ∧ x_12 ≤ s.used.length ∧ (0 ≤ x_13 + ((x_12 : Nat) : Int) ∧ x_13 ≤ 1000)) (fun n_14 x_12 x_13 => n_14) (s.used.length + 1) 0 ((s.gens.length : Nat) : Int) ?_ se (List.Perm.refl _) ?_
     ·exact ⟨Nat.lt_succ_self _, Is.refl _, z7, z7⟩
     ·rintro (_ | n_14) x_12 x_13 ⟨hm16, hF15, hi17, hi18⟩
      ·omega
      refine Zy ?_
      refine Bi rfl (fun hq12 => ?_) (fun hq12 => ?_)
      ·refine Cg ?_
       refine Du ?_
       refine Ib ?_
       refine Af (Cz (n := s.used.length) runUnderlying29 sizeOf4 x_12 yH (gD z4) Kc) (k := ?_)
       refine Af (Ci isAgg4 x_12 0 yH (gD z4)) (k := ?_)
       refine cZ ?_
       refine Bo 17 rfl (fun hq13 => ?_) (fun hq13 => ?_)
       rotate_left
       ·refine Ab 13 rfl ?_
        refine Pe ?_
        refine Sh ?_
        exact Ga n_14 (x_12 + 1) x_13 ⟨by omega, ((hF15.pos hq12).f hq13), vC, vC⟩ (Nat.lt_succ_self _) se (List.Perm.refl _)
       refine Qa ?_
       refine Ar (Bm isAgg274) (k := ?_)
       refine lG ?_
       refine AG6 ?_
       refine El ?_
       refine Ar (Cz (n := s.gens.length) runUnderlying24 sizeOf3 x_12 zZ (gD z4) Kc) (k := ?_)
       refine Ar (Ci isAgg3 x_12 0 zZ (gD z4)) (k := ?_)
       refine AJ0 ?_
       refine Ev (vs := [(Value.agg [(vi ((x_12 : Nat) : Int)), (vi (s.gens.getD x_12 default))].toArray)]) hl7 q0 Dw ?_
       refine Cg ?_
       refine cV ?_
       refine Cp ?_
       refine AI2 ?_
       refine AH8 ?_
       refine Fu q0 ?_
       refine Ar Hi (k := ?_)
       refine rG ?_
       refine Sh ?_
       exact Ga n_14 (x_12 + 1) (x_13 - 1) ⟨by omega, ((hF15.pos hq12).t hq13), vC, vC⟩ (Nat.lt_succ_self _) se (List.Perm.refl _)
      refine Cu ?_
      refine Ko ?_
      refine Gh (.inr rfl) results223 q0 ?_
      refine aH ?_
      refine lF ?_
      refine Af (pZ runUnderlying251 hx_7) (k := ?_)
      refine wE ?_
      refine Kx [rD7] (qa q0) results176 z0 ?_
      refine Uz ?_
      refine Bi rfl (fun hq14 => ?_) (fun hq14 => ?_)
      ·refine Cb ?_
       refine Cp ?_
       refine vU ?_
       refine Aa results118 z0 (fun w1 hw1 => ?_)
       exact ⟨(rq ((((((((hF.pos hq1).pos hq2).neg hq3).er1 ((hF3.pos hq4).pos hq5)).neg hq6).ok2 (hF9.neg hq7)).rn2 (hF15.neg hq12)).pos hq14)), hw1.ext_out⟩
      refine cY ?_
      refine AC2 ?_
      refine Aa results118 z0 (fun w1 hw1 => ?_)
      exact ⟨(rq ((((((((hF.pos hq1).pos hq2).neg hq3).er1 ((hF3.pos hq4).pos hq5)).neg hq6).ok2 (hF9.neg hq7)).rn2 (hF15.neg hq12)).neg hq14)), hw1.ext_out⟩
    refine dD ?_
    refine Af (Cz (n := s.free.length) runUnderlying24 sizeOf3 x_6 (Cl.of_base h_s_free) (gD z4) Kc) (k := ?_)
    refine Af (Ci isAgg3 x_6 0 (Cl.of_base h_s_free) (gD z4)) (k := ?_)
    refine Iv ?_
    refine aB ?_
    refine Ao 20 rfl (fun hq8 => ?_) (fun hq8 => ?_)
    ·refine Ab 8 rfl ?_
     refine Jh ?_
     refine Ab 8 rfl ?_
     refine iR ?_
     refine fM ?_
     refine Aa results118 z0 (fun w1 hw1 => ?_)
     exact ⟨(rq ((((((hF.pos hq1).pos hq2).neg hq3).er1 ((hF3.pos hq4).pos hq5)).neg hq6).er2 ((hF9.pos hq7).pos hq8))), hw1.ext_out⟩
    refine Qa ?_
    refine lG ?_
    refine B8 ?_
    refine Ar z72 (k := ?_)
    refine Ar Qg (k := ?_)
    refine Z5 ?_
    refine Ao 30 rfl (fun hq9 => ?_) (fun hq9 => ?_)
    ·refine Ab 8 rfl ?_
     refine iR ?_
     refine fM ?_
     refine Aa results118 z0 (fun w1 hw1 => ?_)
     exact ⟨(rq ((((((hF.pos hq1).pos hq2).neg hq3).er1 ((hF3.pos hq4).pos hq5)).neg hq6).er2 (((hF9.pos hq7).neg hq8).pos hq9))), hw1.ext_out⟩
    refine El ?_
    refine lG ?_
    refine B8 ?_
    refine El ?_
    refine Ar (Cz (n := s.used.length) runUnderlying29 sizeOf4 ((s.free.getD x_6 default).toNat) yH (gD z4) Kc) (k := ?_)
    refine Ar (Ci isAgg4 ((s.free.getD x_6 default).toNat) 0 yH (gD z4)) (k := ?_)
    refine Z5 ?_
    refine Bo 40 rfl (fun hq10 => ?_) (fun hq10 => ?_)
    ·refine Ab 3 rfl ?_
     refine cT ?_
     refine fM ?_
     refine Aa results118 z0 (fun w1 hw1 => ?_)
     exact ⟨(rq ((((((hF.pos hq1).pos hq2).neg hq3).er1 ((hF3.pos hq4).pos hq5)).neg hq6).er2 ((((hF9.pos hq7).neg hq8).neg hq9).t hq10))), hw1.ext_out⟩
    refine Qa ?_
    refine Ar (bF (xs := x_7) (s.free.getD x_6 default) Cf runUnderlying251 runUnderlying3 zeroValue4 hx_7) (k := ?_)
    refine Pe ?_
    refine Bi rfl (fun hq11 => ?_) (fun hq11 => ?_)
    rotate_left
    ·refine Cg ?_
     refine Du ?_
     refine Sd ?_
     refine gV (xs := x_7) (s.free.getD x_6 default) Cf runUnderlying251 runUnderlying3 hx_7 z53 q0 (k := fun em3 km3 hms3 => ?_)
     refine Dz ?_
     refine Ux ?_
     exact aP n_8 (x_6 + 1) (x_7 ++ [(s.free.getD x_6 default)]) em3 km3 ⟨by omega, (((((hF9.pos hq7).neg hq8).neg hq9).f hq10).neg hq11), hms3, z3⟩ (Nat.lt_succ_self _) se (List.Perm.refl _)
    refine Z2 ?_
    refine Rg ?_
    refine fM ?_
    refine Aa results118 z0 (fun w1 hw1 => ?_)
    exact ⟨(rq ((((((hF.pos hq1).pos hq2).neg hq3).er1 ((hF3.pos hq4).pos hq5)).neg hq6).er2 (((((hF9.pos hq7).neg hq8).neg hq9).f hq10).pos hq11))), hw1.ext_out⟩
  refine sF ?_
  refine Hz ?_
  refine Bd results224 z0 ?_
  refine Z0 ?_
  refine Bi rfl (fun hq15 => ?_) (fun hq15 => ?_)
  rotate_left
  ·refine Cg ?_
   refine Ux ?_
   exact Hu n_2 (x_1 + 1) ⟨by omega, (((hF3.pos hq4).neg hq5).neg hq15), z3⟩ (Nat.lt_succ_self _) se (List.Perm.refl _)
  refine Z3 ?_
  refine Ri ?_
  refine AU3 ?_
  refine Bd results116 z0 ?_
  refine Af dG (k := ?_)
  refine Z4 ?_
  refine Bd results175 z0 ?_
  refine Uz ?_
  refine Bi rfl (fun hq16 => ?_) (fun hq16 => ?_)
  ·refine Cb ?_
   refine Cp ?_
   refine vU ?_
   refine Aa results118 z0 (fun w1 hw1 => ?_)
   exact ⟨(rq (((((hF.pos hq1).pos hq2).neg hq3).er1 (((hF3.pos hq4).neg hq5).pos hq15)).pos hq16)), hw1.ext_out⟩
  refine Vb ?_
  refine AW0 ?_
  refine AW7 ?_
  refine Nk ?_
  refine Ak Ag Xy (k := fun r8 hr8 => ?_)
  refine Iv ?_
  refine fO ?_
  refine Yk ?_
  refine aO (σ1 := Nat) (σ2 := Nat) (σ3 := List Int) (σ4 := Array MapEntry) (σ5 := Nat) (fun n_21 x_19 x_20 x_20e x_20k => ((r8, Obj.map x_20e x_20k) :: ((r3, oc [(Value.func (.func 174) [].toArray [].toArray), (Value.func (.func 175) [].toArray [].toArray), (Value.func (.func 176) [].toArray [].toArray)] 280) :: ((r2, oc [(vs s_gens_a s.gens.length s_gens_c), (vs s_used_a s.used.length s_used_c), (vs s_free_a s.free.length s_free_c)] 276) :: ((r1, oc [(vs s_gens_a s.gens.length s_gens_c), (vs s_used_a s.used.length s_used_c), (vs s_free_a s.free.length s_free_c)] 31) :: []))))) (fun n_21 x_19 x_20 x_20e x_20k => [(0, (Value.pointer (some ⟨r2, 0, none⟩))), (2, (Value.bool false)), (3, (Value.map (some r8))), (12, (vs s_free_a s.free.length s_free_c)), (13, (vi ((s.free.length : Nat) : Int))), (14, (vi ((x_19 : Nat) : Int)))]) (fun n_21 x_19 x_20 x_20e x_20k => s.free.length - x_19 < n_21 ∧ Is (Wq s x_1 (s.free.length + 1) 0 ([] : List Int)) (Wq s x_1 n_21 x_19 x_20) ∧ Po (fun x : Int => vi x) x_20e x_20 ∧ x_19 ≤ s.free.length) (fun n_21 x_19 x_20 x_20e x_20k => n_21) (s.free.length + 1) 0 ([] : List Int) (#[]) 0 ?_ se (List.Perm.refl _) ?_
  ·exact ⟨Nat.lt_succ_self _, Is.refl _, Po.nil, z7⟩
  ·rintro (_ | n_21) x_19 x_20 x_20e x_20k ⟨hm23, hF22, hx_20, hi24⟩
   ·omega
   refine Zy ?_
   refine Bi rfl (fun hq17 => ?_) (fun hq17 => ?_)
   rotate_left
   ·refine Cu ?_
    refine Ia ?_
    refine Z3 ?_
    refine vD ?_
    refine vQ ?_
    refine Qb ?_
    refine Ak Ag z64 (k := fun r9 hr9 => ?_)
    refine C1 ?_
    refine Z3 ?_
    refine AF8 ?_
    refine Ak Ag z31 (k := fun r10 hr10 => ?_)
    refine AI1 ?_
    refine Nj ?_
    refine Fx Ag rfl call223 func223 ntmps223 (fun l11 rD11 rr11 hl11 => ?_)
    refine fR ?_
    refine Af (Bm isAgg274) (k := ?_)
    refine vD ?_
    refine vR ?_
    refine Af z72 (k := ?_)
    refine Rh ?_
    refine Il (σ1 := Nat) (σ2 := Nat) (σ3 := Int) (fun n_27 x_25 x_26 => ((l11, Cr rr11 .ready none) :: ((rD11, Obj.deferred (some [])) :: ((r10, oc [(Value.pointer (some ⟨r2, 0, none⟩))] 274) :: ((r9, oc [(vi x_26)] 3) :: ((r8, Obj.map x_20e x_20k) :: ((r3, oc [(Value.func (.func 174) [].toArray [].toArray), (Value.func (.func 175) [].toArray [].toArray), (Value.func (.func 176) [].toArray [].toArray)] 280) :: ((r2, oc [(vs s_gens_a s.gens.length s_gens_c), (vs s_used_a s.used.length s_used_c), (vs s_free_a s.free.length s_free_c)] 276) :: ((r1, oc [(vs s_gens_a s.gens.length s_gens_c), (vs s_used_a s.used.length s_used_c), (vs s_free_a s.free.length s_free_c)] 31) :: []))))))))) (fun n_27 x_25 x_26 => [(0, (Value.func (.yield l11) [].toArray [].toArray)), (1, (Value.pointer (some ⟨r10, 0, none⟩))), (9, (vs s_used_a s.used.length s_used_c)), (10, (vi ((s.used.length : Nat) : Int))), (11, (vi ((x_25 : Nat) : Int)))]) (fun n_27 x_25 x_26 => s.used.length - x_25 < n_27 ∧ Is (Ru s x_1 x_19 x_20 (s.used.length + 1) 0 ((s.gens.length : Nat) : Int)) (Ru s x_1 x_19 x_20 n_27 x_25 x_26) ∧ x_25 ≤ s.used.length ∧ (0 ≤ x_26 + ((x_25 : Nat) : Int) ∧ x_26 ≤ 1000)) (fun n_27 x_25 x_26 => n_27) (s.used.length + 1) 0 ((s.gens.length : Nat) : Int) ?_ se (List.Perm.refl _) ?_
    ·exact ⟨Nat.lt_succ_self _, Is.refl _, z7, z7⟩
    ·rintro (_ | n_27) x_25 x_26 ⟨hm29, hF28, hi30, hi31⟩
     ·omega
     refine Zy ?_
     refine Bi rfl (fun hq22 => ?_) (fun hq22 => ?_)
     ·refine Cg ?_
      refine Du ?_
      refine Ib ?_
      refine Af (Cz (n := s.used.length) runUnderlying29 sizeOf4 x_25 yH (gD z4) Kc) (k := ?_)
      refine Af (Ci isAgg4 x_25 0 yH (gD z4)) (k := ?_)
      refine cZ ?_
      refine Bo 17 rfl (fun hq23 => ?_) (fun hq23 => ?_)
      rotate_left
      ·refine Ab 13 rfl ?_
       refine Pe ?_
       refine Sh ?_
       exact Ga n_27 (x_25 + 1) x_26 ⟨by omega, ((hF28.pos hq22).f hq23), vC, vC⟩ (Nat.lt_succ_self _) se (List.Perm.refl _)
      refine Qa ?_
      refine Ar (Bm isAgg274) (k := ?_)
      refine lG ?_
      refine AG6 ?_
      refine El ?_
      refine Ar (Cz (n := s.gens.length) runUnderlying24 sizeOf3 x_25 zZ (gD z4) Kc) (k := ?_)
      refine Ar (Ci isAgg3 x_25 0 zZ (gD z4)) (k := ?_)
      refine AJ0 ?_
      refine Ev (vs := [(Value.agg [(vi ((x_25 : Nat) : Int)), (vi (s.gens.getD x_25 default))].toArray)]) hl11 q0 Dw ?_
      refine Cg ?_
      refine cV ?_
      refine Cp ?_
      refine AI2 ?_
      refine AH8 ?_
      refine Fu q0 ?_
      refine Ar Hi (k := ?_)
      refine rG ?_
      refine Sh ?_
      exact Ga n_27 (x_25 + 1) (x_26 - 1) ⟨by omega, ((hF28.pos hq22).t hq23), vC, vC⟩ (Nat.lt_succ_self _) se (List.Perm.refl _)
     refine Cu ?_
     refine Ko ?_
     refine Gh (.inr rfl) results223 q0 ?_
     refine aH ?_
     refine lF ?_
     refine Af (pZ runUnderlying251 hx_20) (k := ?_)
     refine wE ?_
     refine Kx [rD11] (qa q0) results176 z0 ?_
     refine Uz ?_
     refine Bi rfl (fun hq24 => ?_) (fun hq24 => ?_)
     ·refine Cb ?_
      refine Cp ?_
      refine vU ?_
      refine Aa results118 z0 (fun w1 hw1 => ?_)
      exact ⟨(rq ((((((((hF.pos hq1).pos hq2).neg hq3).er1 (((hF3.pos hq4).neg hq5).pos hq15)).neg hq16).ok2 (hF22.neg hq17)).rn2 (hF28.neg hq22)).pos hq24)), hw1.ext_out⟩
     refine cY ?_
     refine AC2 ?_
     refine Aa results118 z0 (fun w1 hw1 => ?_)
     exact ⟨(rq ((((((((hF.pos hq1).pos hq2).neg hq3).er1 (((hF3.pos hq4).neg hq5).pos hq15)).neg hq16).ok2 (hF22.neg hq17)).rn2 (hF28.neg hq22)).neg hq24)), hw1.ext_out⟩
   refine dD ?_
   refine Af (Cz (n := s.free.length) runUnderlying24 sizeOf3 x_19 (Cl.of_base h_s_free) (gD z4) Kc) (k := ?_)
   refine Af (Ci isAgg3 x_19 0 (Cl.of_base h_s_free) (gD z4)) (k := ?_)
   refine Iv ?_
   refine aB ?_
   refine Ao 20 rfl (fun hq18 => ?_) (fun hq18 => ?_)
   ·refine Ab 8 rfl ?_
    refine Jh ?_
    refine Ab 8 rfl ?_
    refine iR ?_
    refine fM ?_
    refine Aa results118 z0 (fun w1 hw1 => ?_)
    exact ⟨(rq ((((((hF.pos hq1).pos hq2).neg hq3).er1 (((hF3.pos hq4).neg hq5).pos hq15)).neg hq16).er2 ((hF22.pos hq17).pos hq18))), hw1.ext_out⟩
   refine Qa ?_
   refine lG ?_
   refine B8 ?_
   refine Ar z72 (k := ?_)
   refine Ar Qg (k := ?_)
   refine Z5 ?_
   refine Ao 30 rfl (fun hq19 => ?_) (fun hq19 => ?_)
   ·refine Ab 8 rfl ?_
    refine iR ?_
    refine fM ?_
    refine Aa results118 z0 (fun w1 hw1 => ?_)
    exact ⟨(rq ((((((hF.pos hq1).pos hq2).neg hq3).er1 (((hF3.pos hq4).neg hq5).pos hq15)).neg hq16).er2 (((hF22.pos hq17).neg hq18).pos hq19))), hw1.ext_out⟩
   refine El ?_
   refine lG ?_
   refine B8 ?_
   refine El ?_
   refine Ar (Cz (n := s.used.length) runUnderlying29 sizeOf4 ((s.free.getD x_19 default).toNat) yH (gD z4) Kc) (k := ?_)
   refine Ar (Ci isAgg4 ((s.free.getD x_19 default).toNat) 0 yH (gD z4)) (k := ?_)
   refine Z5 ?_
   refine Bo 40 rfl (fun hq20 => ?_) (fun hq20 => ?_)
   ·refine Ab 3 rfl ?_
    refine cT ?_
    refine fM ?_
    refine Aa results118 z0 (fun w1 hw1 => ?_)
    exact ⟨(rq ((((((hF.pos hq1).pos hq2).neg hq3).er1 (((hF3.pos hq4).neg hq5).pos hq15)).neg hq16).er2 ((((hF22.pos hq17).neg hq18).neg hq19).t hq20))), hw1.ext_out⟩
   refine Qa ?_
   refine Ar (bF (xs := x_20) (s.free.getD x_19 default) Cf runUnderlying251 runUnderlying3 zeroValue4 hx_20) (k := ?_)
   refine Pe ?_
   refine Bi rfl (fun hq21 => ?_) (fun hq21 => ?_)
   rotate_left
   ·refine Cg ?_
    refine Du ?_
    refine Sd ?_
    refine gV (xs := x_20) (s.free.getD x_19 default) Cf runUnderlying251 runUnderlying3 hx_20 z53 q0 (k := fun em6 km6 hms6 => ?_)
    refine Dz ?_
    refine Ux ?_
    exact aP n_21 (x_19 + 1) (x_20 ++ [(s.free.getD x_19 default)]) em6 km6 ⟨by omega, (((((hF22.pos hq17).neg hq18).neg hq19).f hq20).neg hq21), hms6, z3⟩ (Nat.lt_succ_self _) se (List.Perm.refl _)
   refine Z2 ?_
   refine Rg ?_
   refine fM ?_
   refine Aa results118 z0 (fun w1 hw1 => ?_)
   exact ⟨(rq ((((((hF.pos hq1).pos hq2).neg hq3).er1 (((hF3.pos hq4).neg hq5).pos hq15)).neg hq16).er2 (((((hF22.pos hq17).neg hq18).neg hq19).f hq20).pos hq21))), hw1.ext_out⟩

theorem AM6 (w : World) {s_gens_a : Option Addr} {s_gens_c : Nat} {s_used_a : Option Addr} {s_used_c : Nat} {s_free_a : Option Addr} {s_free_c : Nat} {s : Slots} (h_s_gens : Sl w eI 1 s_gens_a s.gens) (n_s_gens : s.gens.length ≤ 1000) (h_s_used : Sl w eB 1 s_used_a s.used) (n_s_used : s.used.length ≤ 1000) (h_s_free : Sl w eI 1 s_free_a s.free) (n_s_free : s.free.length ≤ 1000) : Calls Tryz.prog 117 (List.toArray [(Value.agg [(vs s_gens_a s.gens.length s_gens_c), (vs s_used_a s.used.length s_used_c), (vs s_free_a s.free.length s_free_c)].toArray)]) w fun e w2 => ∃ a1 : Option Addr, ∃ c1 : Nat, ∃ B : Av, e = .returned (vs a1 ((Xl s).length) c1) ∧ Ej w w2 B ∧ Hd B qE 2 a1 (Xl s) ∧ (Xl s).length ≤ 1000 := by
 have hF := Is.refl (Xl s)
 refine Sq func117 ntmps117 (h := ?_)
 refine Z2 ?_
 refine Ak Ag Ll (k := fun r1 hr1 => ?_)
 refine Ik ?_
 refine Z2 ?_
 refine BF2 ?_
 refine Rf ?_
 refine Dl rfl (fun hq1 => ?_) (fun hq1 => ?_)
 ·refine Cb ?_
  refine Lk ?_
  refine Dq [] (List.Perm.refl _) results117 z0 (fun w1 hw1 => ?_)
  exact ⟨none, 0, [], (rq (hF.t hq1)), (hw1.fresh_out.sub Mo), (rn (hF.t hq1)), (rl (hF.t hq1))⟩
 have hfhq1 := bR J8
 refine Ua ?_
 refine Ak Ag (Cj (l := [_]) zeroValue212) (k := fun r2 hr2 => ?_)
 refine Od ?_
 refine sM ?_
 refine Af (Cx (cs := [_, _, _]) zeroValue276 xN) (k := ?_)
 refine Ak Ag Ll (k := fun r3 hr3 => ?_)
 refine fU ?_
 refine Iv ?_
 refine AF8 ?_
 refine Ak Ag z31 (k := fun r4 hr4 => ?_)
 refine AI1 ?_
 refine Nj ?_
 refine Fx Ag rfl call223 func223 ntmps223 (fun l5 rD5 rr5 hl5 => ?_)
 refine fR ?_
 refine Af (Bm isAgg274) (k := ?_)
 refine vD ?_
 refine vR ?_
 refine Af z72 (k := ?_)
 refine Rh ?_
 refine Ml (σ1 := Nat) (σ2 := Nat) (σ3 := List Handle) (σ4 := Option Addr) (σ5 := Nat) (σ6 := Av) (fun n_3 x_1 x_2 x_2a x_2c x_2B => (x_2B ++ ((l5, Cr rr5 .ready none) :: ((rD5, Obj.deferred (some [])) :: ((r4, oc [(Value.pointer (some ⟨r3, 0, none⟩))] 274) :: ((r3, oc [(vs s_gens_a s.gens.length s_gens_c), (vs s_used_a s.used.length s_used_c), (vs s_free_a s.free.length s_free_c)] 276) :: ((r2, oc [(vs x_2a x_2.length x_2c)] 212) :: ((r1, oc [(vs s_gens_a s.gens.length s_gens_c), (vs s_used_a s.used.length s_used_c), (vs s_free_a s.free.length s_free_c)] 31) :: [])))))))) (fun n_3 x_1 x_2 x_2a x_2c x_2B => [(0, (Value.func (.yield l5) [].toArray [].toArray)), (1, (Value.pointer (some ⟨r4, 0, none⟩))), (9, (vs s_used_a s.used.length s_used_c)), (10, (vi ((s.used.length : Nat) : Int))), (11, (vi ((x_1 : Nat) : Int)))]) (fun n_3 x_1 x_2 x_2a x_2c x_2B => s.used.length - x_1 < n_3 ∧ Is (Qk s (s.used.length + 1) 0 []) (Qk s n_3 x_1 x_2) ∧ Bt qE 2 23 x_2a x_2c x_2B x_2 ∧ x_1 ≤ s.used.length ∧ x_2.length ≤ x_1) (fun n_3 x_1 x_2 x_2a x_2c x_2B => n_3) (s.used.length + 1) 0 ([]) none 0 ([]) ?_ se (List.Perm.refl _) ?_
 ·exact ⟨Nat.lt_succ_self _, Is.refl _, Bt.nil, z7, z7⟩
 ·rintro (_ | n_3) x_1 x_2 x_2a x_2c x_2B ⟨hm5, hF4, hx_2, hi6, hi7⟩
  ·omega
  refine Zy ?_
  refine Bi rfl (fun hq2 => ?_) (fun hq2 => ?_)
  rotate_left
  ·refine Cu ?_
   refine Ko ?_
   refine Gh (.inr rfl) results223 (qc q0) ?_
   refine aH ?_
   refine Af (Bm isAgg212) (k := ?_)
   refine Z4 ?_
   refine Dq [rD5] (qa (qc q0)) results117 z0 (fun w1 hw1 => ?_)
   exact ⟨x_2a, x_2c, x_2B, (rq ((hF.f hq1).rn2 (hF4.neg hq2))), (Ax (L := x_2B) (hw1.perm (qb q0)) rfl.symm), (by rw [((hF.f hq1).rn2 (hF4.neg hq2)).eq]; exact (hx_2.slb Zd)), (rl ((hF.f hq1).rn2 (hF4.neg hq2)))⟩
  refine Py ?_
  refine Ib ?_
  refine Af (Cz (n := s.used.length) runUnderlying29 sizeOf4 x_1 yH (gD z4) Kc) (k := ?_)
  refine Af (Ci isAgg4 x_1 0 yH (gD z4)) (k := ?_)
  refine cZ ?_
  refine Bo 17 rfl (fun hq3 => ?_) (fun hq3 => ?_)
  rotate_left
  ·refine Ab 13 rfl ?_
   refine Pe ?_
   refine Sh ?_
   exact Hv n_3 (x_1 + 1) x_2 x_2a x_2c x_2B ⟨by omega, ((hF4.pos hq2).f hq3), hx_2, vC, vC⟩ (Nat.lt_succ_self _) se (List.Perm.refl _)
  refine Qa ?_
  refine Ar (Bm isAgg274) (k := ?_)
  refine lG ?_
  refine AG6 ?_
  refine El ?_
  refine Ar (Cz (n := s.gens.length) runUnderlying24 sizeOf3 x_1 zZ (gD z4) Kc) (k := ?_)
  refine Ar (Ci isAgg3 x_1 0 zZ (gD z4)) (k := ?_)
  refine AJ0 ?_
  refine Ev (vs := [(Value.agg [(vi ((x_1 : Nat) : Int)), (vi (s.gens.getD x_1 default))].toArray)]) hl5 (qc q0) Dw ?_
  refine Cp ?_
  refine Ak Ag (Cj (l := [_, _]) zeroValue23) (k := fun r6 hr6 => ?_)
  refine Ep (Bn (l' := [_, _]) sizeOf23) (k := ?_)
  refine Dz ?_
  refine AU1 ?_
  refine Af (Bm isAgg212) (k := ?_)
  refine Af z51 (k := ?_)
  refine Ak Ag (Ea (l := [_, _]) runUnderlying212 sizeOf23 zeroValue23) (k := fun r7 hr7 => ?_)
  refine Bb (x_2 ++ ([(Handle.mk ((x_1 : Nat) : Int) (s.gens.getD x_1 default))] : List Handle)) rfl BJ6 underlying212 Zd hx_2 (qb (qb (qb q0))) (Cl.lit (xs := ([(Handle.mk ((x_1 : Nat) : Int) (s.gens.getD x_1 default))] : List Handle)) Zd) ⟨by omega, by omega⟩ (n := x_2.length) (m := 1) (k := fun ax1 cx1 Bx1 hox1 => ?_)
  have hal1 : (x_2 ++ ([(Handle.mk ((x_1 : Nat) : Int) (s.gens.getD x_1 default))] : List Handle)).length = x_2.length + 1 := by first | rfl | exact List.length_append | simp
  refine Ep (Bn (l' := [_]) sizeOf212) (k := ?_)
  refine Dz ?_
  refine L1 ?_
  refine Sh ?_
  refine Dt _ (((((((qa (qc (qa (qa (qa (qa (qa (qa q0)))))))).trans (qa (qa (qc (qa (qa (qa (qa (qa q0))))))))).trans (qa (qa (qa (qc (qa (qa (qa (qa q0))))))))).trans (qa (qa (qa (qa (qc (qa (qa (qa q0))))))))).trans (qa (qa (qa (qa (qa (qc (qa (qa q0))))))))).trans (qa (qa (qa (qa (qa q0)))))).trans (qb (qb (qb (qb (qb (qb q0))))))) ?_
  refine Cn _ (List.Sublist.append z37 z14) ?_
  exact Hv n_3 (x_1 + 1) (x_2 ++ ([(Handle.mk ((x_1 : Nat) : Int) (s.gens.getD x_1 default))] : List Handle)) ax1 cx1 Bx1 ⟨by omega, ((hF4.pos hq2).t hq3), hox1, vC, vC⟩ (Nat.lt_succ_self _) se (List.Perm.refl _)

theorem U8 (w : World) {s_gens_a : Option Addr} {s_gens_c : Nat} {s_used_a : Option Addr} {s_used_c : Nat} {s_free_a : Option Addr} {s_free_c : Nat} {s : Slots} (h_s_gens : Sl w eI 1 s_gens_a s.gens) (n_s_gens : s.gens.length ≤ 1000) (h_s_used : Sl w eB 1 s_used_a s.used) (n_s_used : s.used.length ≤ 1000) (h_s_free : Sl w eI 1 s_free_a s.free) (n_s_free : s.free.length ≤ 1000) : Calls Tryz.prog 180 (List.toArray [(Value.agg [(vs s_gens_a s.gens.length s_gens_c), (vs s_used_a s.used.length s_used_c), (vs s_free_a s.free.length s_free_c)].toArray)]) w fun e w2 => ∃ a1 : Option Addr, ∃ c1 : Nat, ∃ a2 : Option Addr, ∃ c2 : Nat, ∃ a3 : Option Addr, ∃ c3 : Nat, ∃ B : Av, e = .returned (Value.tuple [(Value.agg [(vs a1 ((Gi s).1.gens.length) c1), (vs a2 ((Gi s).1.used.length) c2), (vs a3 ((Gi s).1.free.length) c3)].toArray), (Value.agg [(vi ((Gi s).2.1.slot)), (vi ((Gi s).2.1.gen))].toArray), (vi ((Gi s).2.2))].toArray) ∧ Ej w w2 B ∧ Hd B eI 1 a1 (Gi s).1.gens ∧ Hd B eB 1 a2 (Gi s).1.used ∧ Hd B eI 1 a3 (Gi s).1.free ∧ (Gi s).1.gens.length ≤ 1000 ∧ (Gi s).1.used.length ≤ 1000 ∧ (Gi s).1.free.length ≤ 1000 := by
 have hF := Is.refl (Gi s)
 refine enter func180 ntmps180 (h := ?_)
 refine Z2 ?_
 refine Ak Ag Ll (k := fun r1 hr1 => ?_)
 refine Ak Ag J6 (k := fun r2 hr2 => ?_)
 refine Ak Ag (Cj (l := [_, _]) zeroValue23) (k := fun r3 hr3 => ?_)
 refine Ik ?_
 refine Z2 ?_
 refine BF2 ?_
 refine Rf ?_
 refine Dl rfl (fun hq1 => ?_) (fun hq1 => ?_)
 ·refine Cb ?_
  refine Cp ?_
  refine vH ?_
  refine rM ?_
  refine Rg ?_
  refine Aa results180 (Bw.agg isAgg31 sizeOf31 rfl me rfl (Bw.agg isAgg23 sizeOf23 rfl me rfl z0)) (fun w1 hw1 => ?_)
  exact ⟨none, 0, none, 0, none, 0, [], (rq (hF.t hq1)), (hw1.fresh_out.sub Mo), (rn (hF.t hq1)), (rn (hF.t hq1)), (rn (hF.t hq1)), (rl (hF.t hq1)), (rl (hF.t hq1)), (rl (hF.t hq1))⟩
 have hfhq1 := bR J8
 refine Ua ?_
 refine sM ?_
 refine Bq (args := [_]) (Ac call228) func228 ntmps228 ?_
 refine Z2 ?_
 refine Ak Ag Ll (k := fun r4 hr4 => ?_)
 refine Ik ?_
 refine Xx (V := []) mixed 14 z2 ?_
 refine Ct 0 rfl z2 (Al bT) (k := ?_)
 refine Ct 1 rfl z2 rC (k := ?_)
 refine Ct 2 rfl z2 z71 (k := ?_)
 refine Ct 4 rfl z2 (Al Td) (k := ?_)
 refine Ct 5 rfl z2 (Bm isAgg29) (k := ?_)
 refine Ct 7 rfl z2 (Al Og) (k := ?_)
 refine Ct 8 rfl z2 rC (k := ?_)
 refine Cc [3, 6] z2 rfl (List.forall_mem_cons.2 ⟨?_, (List.forall_mem_cons.2 ⟨?_, nofun⟩)⟩)
 ·skip
  refine jV rfl (n := s.gens.length) (x0 := default) Fq underlying24 Ba rfl ⟨by omega, by omega⟩ (k := fun ax81 Bx81 hox81 => ?_)
  refine Cc [6] z2 rfl (List.forall_mem_cons.2 ⟨?_, nofun⟩)
  ·skip
   refine S0 rfl (Ac call124) (fun w1 hw1 => Zf w1 (s := s.used) (h_s := (Cl.of_base h_s_used) w1 hw1) (n_s := Ng)) (k := ?_)
   rintro w1_141 e1_141 w2_141 hw1_141 ⟨a1_141, c1_141, B1_141, he_141, hf_141, ho1_141⟩
   refine ⟨_, _, _, he_141, hf_141, rfl, ?_⟩
   refine Cc [9] z2 rfl (List.forall_mem_cons.2 ⟨?_, nofun⟩)
   ·skip
    refine AW9 ?_
    rintro w1_201 e1_201 w2_201 hw1_201 ⟨a1_201, c1_201, B1_201, he_201, hf_201, ho1_201⟩
    refine ⟨_, _, _, he_201, hf_201, rfl, ?_⟩
    refine AU6 ?_
    refine Cc [12] z2 rfl (List.forall_mem_cons.2 ⟨?_, nofun⟩)
    ·skip
     refine fX rfl Ag Ll (k := fun r265 hr265 => ?_)
     refine Ct 13 rfl z2 Iy (k := ?_)
     refine Yx z2 _ ?_
     refine Hw (nA (nA nE)) ?_
     refine AV0 ?_
     refine Z6 ?_
     refine vY ?_
     refine vG ?_
     refine pN (n := s.gens.length) Fq underlying24 Ba hox81 q0 zZ Ij rfl (kk := fun Bx302 hox302 => ?_)
     refine oY ?_
     refine pB ?_
     refine Bd results228 z0 ?_
     refine Hq ?_
     refine fO ?_
     refine Qb ?_
     refine Xi ?_
     refine Ik ?_
     refine Eu ?_
     refine AT7 ?_
     refine Be Ny (k := ?_)
     refine Fo ?_
     refine Dg 24 rfl (fun hq2 => ?_) (fun hq2 => ?_)
     ·refine Ay 16 rfl ?_
      refine oZ ?_
      refine J3 ?_
      refine vH ?_
      refine rM ?_
      refine Rg ?_
      refine Aa results180 (Bw.agg isAgg31 sizeOf31 rfl me rfl (Bw.agg isAgg23 sizeOf23 rfl me rfl z0)) (fun w1 hw1 => ?_)
      exact ⟨none, 0, none, 0, none, 0, [], (rq ((hF.f hq1).pos hq2)), (hw1.fresh_out.sub Mo), (rn ((hF.f hq1).pos hq2)), (rn ((hF.f hq1).pos hq2)), (rn ((hF.f hq1).pos hq2)), (rl ((hF.f hq1).pos hq2)), (rl ((hF.f hq1).pos hq2)), (rl ((hF.f hq1).pos hq2))⟩
     refine oX ?_
     refine M3 ?_
     refine oX ?_
     refine Bu (Al Og) (k := ?_)
     refine Bu rC (k := ?_)
     refine Ht ?_
     refine AT5 ?_
     refine AT1 ?_
     refine fT ?_
     refine cR ?_
     refine Bi rfl (fun hq3 => ?_) (fun hq3 => ?_)
     ·refine Cb ?_
      refine Cp ?_
      refine vH ?_
      refine rM ?_
      refine Rg ?_
      refine Aa results180 (Bw.agg isAgg31 sizeOf31 rfl me rfl (Bw.agg isAgg23 sizeOf23 rfl me rfl z0)) (fun w1 hw1 => ?_)
      exact ⟨none, 0, none, 0, none, 0, [], (rq (((hF.f hq1).neg hq2).pos hq3)), (hw1.fresh_out.sub Mo), (rn (((hF.f hq1).neg hq2).pos hq3)), (rn (((hF.f hq1).neg hq2).pos hq3)), (rn (((hF.f hq1).neg hq2).pos hq3)), (rl (((hF.f hq1).neg hq2).pos hq3)), (rl (((hF.f hq1).neg hq2).pos hq3)), (rl (((hF.f hq1).neg hq2).pos hq3))⟩
     refine Py ?_
     refine Z3 ?_
     refine fO ?_
     refine Ck ?_
     refine AT6 ?_
     refine Ji ?_
     refine fO ?_
     refine Sf ?_
     have hl4 : (s.free.take ((((s.free.length : Nat) : Int) - 1).toNat)).length = (((s.free.length : Nat) : Int) - 1).toNat := by rw [List.length_take]; omega
     have hl4c := ho1_201.le'
     refine AU0 ?_
     refine AE9 ?_
     refine Lr ?_
     refine vD ?_
     refine vR ?_
     refine AT8 ?_
     refine Lw ((s.free.getD ((((s.free.length : Nat) : Int) - 1).toNat) default).toNat) true sizeOf4 Oa ho1_141 (qd (qd q0)) J0 (k := fun Bs301 hos301 => ?_)
     refine Lr ?_
     refine vD ?_
     refine vQ ?_
     refine Ck ?_
     refine AT2 ?_
     refine AT9 ?_
     refine Lw ((s.free.getD ((((s.free.length : Nat) : Int) - 1).toNat) default).toNat) ((s.gens.getD ((s.free.getD ((((s.free.length : Nat) : Int) - 1).toNat) default).toNat) default) + 1) sizeOf3 Ba hox302 (qd q0) J0 (k := fun Bs302 hos302 => ?_)
     refine AT4 ?_
     refine Z6 ?_
     refine AW6 ?_
     refine yJ ?_
     refine vY ?_
     refine Fo ?_
     refine AT3 ?_
     refine Be z79 (k := ?_)
     refine AU5 ?_
     refine K4 ?_
     refine Aa results180 (Bw.agg isAgg31 sizeOf31 rfl me rfl (Bw.agg isAgg23 sizeOf23 rfl me rfl z0)) (fun w1 hw1 => ?_)
     exact ⟨ax81, s.gens.length, a1_141, c1_141, a1_201, ((((s.free.length : Nat) : Int) - 1).toNat), (Bs302 ++ (Bs301 ++ B1_201)), (rq (((hF.f hq1).neg hq2).neg hq3)), (Ax (L := (Bs302 ++ (Bs301 ++ B1_201))) (hw1.perm (((qb (qb (qd (qd q0)))).trans (qd (qb (qb (qd q0))))).trans (qd (qd (qb (qb q0)))))) (nA (nA rfl)).symm), (by rw [(((hF.f hq1).neg hq2).neg hq3).eq]; exact (hos302.slb Ba)), (by rw [(((hF.f hq1).neg hq2).neg hq3).eq]; exact (hos301.slb Oa)), (by rw [(((hF.f hq1).neg hq2).neg hq3).eq]; exact ((ho1_201.take Ba ((((s.free.length : Nat) : Int) - 1).toNat)).slb Ba)), (rl (((hF.f hq1).neg hq2).neg hq3)), (rl (((hF.f hq1).neg hq2).neg hq3)), (rl (((hF.f hq1).neg hq2).neg hq3))⟩
 ·skip
  refine S0 rfl (Ac call124) (fun w1 hw1 => Zf w1 (s := s.used) (h_s := (Cl.of_base h_s_used) w1 hw1) (n_s := Ng)) (k := ?_)
  rintro w1_141 e1_141 w2_141 hw1_141 ⟨a1_141, c1_141, B1_141, he_141, hf_141, ho1_141⟩
  refine ⟨_, _, _, he_141, hf_141, rfl, ?_⟩
  refine Cc [3, 9] z2 rfl (List.forall_mem_cons.2 ⟨?_, (List.forall_mem_cons.2 ⟨?_, nofun⟩)⟩)
  ·skip
   refine jV rfl (n := s.gens.length) (x0 := default) Fq underlying24 Ba rfl ⟨by omega, by omega⟩ (k := fun ax81 Bx81 hox81 => ?_)
   refine Cc [9] z2 rfl (List.forall_mem_cons.2 ⟨?_, nofun⟩)
   ·skip
    refine AW9 ?_
    rintro w1_201 e1_201 w2_201 hw1_201 ⟨a1_201, c1_201, B1_201, he_201, hf_201, ho1_201⟩
    refine ⟨_, _, _, he_201, hf_201, rfl, ?_⟩
    refine AU6 ?_
    refine Cc [12] z2 rfl (List.forall_mem_cons.2 ⟨?_, nofun⟩)
    ·skip
     refine fX rfl Ag Ll (k := fun r265 hr265 => ?_)
     refine Ct 13 rfl z2 Iy (k := ?_)
     refine Yx z2 _ ?_
     refine Hw (nA (nA nE)) ?_
     refine AV0 ?_
     refine Z6 ?_
     refine vY ?_
     refine vG ?_
     refine pN (n := s.gens.length) Fq underlying24 Ba hox81 q0 zZ Ij rfl (kk := fun Bx302 hox302 => ?_)
     refine oY ?_
     refine pB ?_
     refine Bd results228 z0 ?_
     refine Hq ?_
     refine fO ?_
     refine Qb ?_
     refine Xi ?_
     refine Ik ?_
     refine Eu ?_
     refine AT7 ?_
     refine Be Ny (k := ?_)
     refine Fo ?_
     refine Dg 24 rfl (fun hq5 => ?_) (fun hq5 => ?_)
     ·refine Ay 16 rfl ?_
      refine oZ ?_
      refine J3 ?_
      refine vH ?_
      refine rM ?_
      refine Rg ?_
      refine Aa results180 (Bw.agg isAgg31 sizeOf31 rfl me rfl (Bw.agg isAgg23 sizeOf23 rfl me rfl z0)) (fun w1 hw1 => ?_)
      exact ⟨none, 0, none, 0, none, 0, [], (rq ((hF.f hq1).pos hq5)), (hw1.fresh_out.sub Mo), (rn ((hF.f hq1).pos hq5)), (rn ((hF.f hq1).pos hq5)), (rn ((hF.f hq1).pos hq5)), (rl ((hF.f hq1).pos hq5)), (rl ((hF.f hq1).pos hq5)), (rl ((hF.f hq1).pos hq5))⟩
     refine oX ?_
     refine M3 ?_
     refine oX ?_
     refine Bu (Al Og) (k := ?_)
     refine Bu rC (k := ?_)
     refine Ht ?_
     refine AT5 ?_
     refine AT1 ?_
     refine fT ?_
     refine cR ?_
     refine Bi rfl (fun hq6 => ?_) (fun hq6 => ?_)
     ·refine Cb ?_
      refine Cp ?_
      refine vH ?_
      refine rM ?_
      refine Rg ?_
      refine Aa results180 (Bw.agg isAgg31 sizeOf31 rfl me rfl (Bw.agg isAgg23 sizeOf23 rfl me rfl z0)) (fun w1 hw1 => ?_)
      exact ⟨none, 0, none, 0, none, 0, [], (rq (((hF.f hq1).neg hq5).pos hq6)), (hw1.fresh_out.sub Mo), (rn (((hF.f hq1).neg hq5).pos hq6)), (rn (((hF.f hq1).neg hq5).pos hq6)), (rn (((hF.f hq1).neg hq5).pos hq6)), (rl (((hF.f hq1).neg hq5).pos hq6)), (rl (((hF.f hq1).neg hq5).pos hq6)), (rl (((hF.f hq1).neg hq5).pos hq6))⟩
     refine Py ?_
     refine Z3 ?_
     refine fO ?_
     refine Ck ?_
     refine AT6 ?_
     refine Ji ?_
     refine fO ?_
     refine Sf ?_
     have hl7 : (s.free.take ((((s.free.length : Nat) : Int) - 1).toNat)).length = (((s.free.length : Nat) : Int) - 1).toNat := by rw [List.length_take]; omega
     have hl7c := ho1_201.le'
     refine AU0 ?_
     refine AE9 ?_
     refine Lr ?_
     refine vD ?_
     refine vR ?_
     refine AT8 ?_
     refine Lw ((s.free.getD ((((s.free.length : Nat) : Int) - 1).toNat) default).toNat) true sizeOf4 Oa ho1_141 (qd (qd q0)) J0 (k := fun Bs301 hos301 => ?_)
     refine Lr ?_
     refine vD ?_
     refine vQ ?_
     refine Ck ?_
     refine AT2 ?_
     refine AT9 ?_
     refine Lw ((s.free.getD ((((s.free.length : Nat) : Int) - 1).toNat) default).toNat) ((s.gens.getD ((s.free.getD ((((s.free.length : Nat) : Int) - 1).toNat) default).toNat) default) + 1) sizeOf3 Ba hox302 (qd q0) J0 (k := fun Bs302 hos302 => ?_)
     refine AT4 ?_
     refine Z6 ?_
     refine AW6 ?_
     refine yJ ?_
     refine vY ?_
     refine Fo ?_
     refine AT3 ?_
     refine Be z79 (k := ?_)
     refine AU5 ?_
     refine K4 ?_
     refine Aa results180 (Bw.agg isAgg31 sizeOf31 rfl me rfl (Bw.agg isAgg23 sizeOf23 rfl me rfl z0)) (fun w1 hw1 => ?_)
     exact ⟨ax81, s.gens.length, a1_141, c1_141, a1_201, ((((s.free.length : Nat) : Int) - 1).toNat), (Bs302 ++ (Bs301 ++ B1_201)), (rq (((hF.f hq1).neg hq5).neg hq6)), (Ax (L := (Bs302 ++ (Bs301 ++ B1_201))) (hw1.perm (((qb (qb (qd (qd q0)))).trans (qd (qb (qb (qd q0))))).trans (qd (qd (qb (qb q0)))))) (nA (nA rfl)).symm), (by rw [(((hF.f hq1).neg hq5).neg hq6).eq]; exact (hos302.slb Ba)), (by rw [(((hF.f hq1).neg hq5).neg hq6).eq]; exact (hos301.slb Oa)), (by rw [(((hF.f hq1).neg hq5).neg hq6).eq]; exact ((ho1_201.take Ba ((((s.free.length : Nat) : Int) - 1).toNat)).slb Ba)), (rl (((hF.f hq1).neg hq5).neg hq6)), (rl (((hF.f hq1).neg hq5).neg hq6)), (rl (((hF.f hq1).neg hq5).neg hq6))⟩
  ·skip
   refine AW9 ?_
   rintro w1_201 e1_201 w2_201 hw1_201 ⟨a1_201, c1_201, B1_201, he_201, hf_201, ho1_201⟩
   refine ⟨_, _, _, he_201, hf_201, rfl, ?_⟩
   refine Cc [3] z2 rfl (List.forall_mem_cons.2 ⟨?_, nofun⟩)
   ·skip
    refine jV rfl (n := s.gens.length) (x0 := default) Fq underlying24 Ba rfl ⟨by omega, by omega⟩ (k := fun ax81 Bx81 hox81 => ?_)
    refine AU6 ?_
    refine Cc [12] z2 rfl (List.forall_mem_cons.2 ⟨?_, nofun⟩)
    ·skip
     refine fX rfl Ag Ll (k := fun r265 hr265 => ?_)
     refine Ct 13 rfl z2 Iy (k := ?_)
     refine Yx z2 _ ?_
     refine Hw (nA (nA nE)) ?_
     refine AV0 ?_
     refine Z6 ?_
     refine vY ?_
     refine vG ?_
     refine pN (n := s.gens.length) Fq underlying24 Ba hox81 q0 zZ Ij rfl (kk := fun Bx302 hox302 => ?_)
     refine oY ?_
     refine pB ?_
     refine Bd results228 z0 ?_
     refine Hq ?_
     refine fO ?_
     refine Qb ?_
     refine Xi ?_
     refine Ik ?_
     refine Eu ?_
     refine AT7 ?_
     refine Be Ny (k := ?_)
     refine Fo ?_
     refine Dg 24 rfl (fun hq8 => ?_) (fun hq8 => ?_)
     ·refine Ay 16 rfl ?_
      refine oZ ?_
      refine J3 ?_
      refine vH ?_
      refine rM ?_
      refine Rg ?_
      refine Aa results180 (Bw.agg isAgg31 sizeOf31 rfl me rfl (Bw.agg isAgg23 sizeOf23 rfl me rfl z0)) (fun w1 hw1 => ?_)
      exact ⟨none, 0, none, 0, none, 0, [], (rq ((hF.f hq1).pos hq8)), (hw1.fresh_out.sub Mo), (rn ((hF.f hq1).pos hq8)), (rn ((hF.f hq1).pos hq8)), (rn ((hF.f hq1).pos hq8)), (rl ((hF.f hq1).pos hq8)), (rl ((hF.f hq1).pos hq8)), (rl ((hF.f hq1).pos hq8))⟩
     refine oX ?_
     refine M3 ?_
     refine oX ?_
     refine Bu (Al Og) (k := ?_)
     refine Bu rC (k := ?_)
     refine Ht ?_
     refine AT5 ?_
     refine AT1 ?_
     refine fT ?_
     refine cR ?_
     refine Bi rfl (fun hq9 => ?_) (fun hq9 => ?_)
     ·refine Cb ?_
      refine Cp ?_
      refine vH ?_
      refine rM ?_
      refine Rg ?_
      refine Aa results180 (Bw.agg isAgg31 sizeOf31 rfl me rfl (Bw.agg isAgg23 sizeOf23 rfl me rfl z0)) (fun w1 hw1 => ?_)
      exact ⟨none, 0, none, 0, none, 0, [], (rq (((hF.f hq1).neg hq8).pos hq9)), (hw1.fresh_out.sub Mo), (rn (((hF.f hq1).neg hq8).pos hq9)), (rn (((hF.f hq1).neg hq8).pos hq9)), (rn (((hF.f hq1).neg hq8).pos hq9)), (rl (((hF.f hq1).neg hq8).pos hq9)), (rl (((hF.f hq1).neg hq8).pos hq9)), (rl (((hF.f hq1).neg hq8).pos hq9))⟩
     refine Py ?_
     refine Z3 ?_
     refine fO ?_
     refine Ck ?_
     refine AT6 ?_
     refine Ji ?_
     refine fO ?_
     refine Sf ?_
     have hl10 : (s.free.take ((((s.free.length : Nat) : Int) - 1).toNat)).length = (((s.free.length : Nat) : Int) - 1).toNat := by rw [List.length_take]; omega
     have hl10c := ho1_201.le'
     refine AU0 ?_
     refine AE9 ?_
     refine Lr ?_
     refine vD ?_
     refine vR ?_
     refine AT8 ?_
     refine Lw ((s.free.getD ((((s.free.length : Nat) : Int) - 1).toNat) default).toNat) true sizeOf4 Oa ho1_141 (qd (qd q0)) J0 (k := fun Bs301 hos301 => ?_)
     refine Lr ?_
     refine vD ?_
     refine vQ ?_
     refine Ck ?_
     refine AT2 ?_
     refine AT9 ?_
     refine Lw ((s.free.getD ((((s.free.length : Nat) : Int) - 1).toNat) default).toNat) ((s.gens.getD ((s.free.getD ((((s.free.length : Nat) : Int) - 1).toNat) default).toNat) default) + 1) sizeOf3 Ba hox302 (qd q0) J0 (k := fun Bs302 hos302 => ?_)
     refine AT4 ?_
     refine Z6 ?_
     refine AW6 ?_
     refine yJ ?_
     refine vY ?_
     refine Fo ?_
     refine AT3 ?_
     refine Be z79 (k := ?_)
     refine AU5 ?_
     refine K4 ?_
     refine Aa results180 (Bw.agg isAgg31 sizeOf31 rfl me rfl (Bw.agg isAgg23 sizeOf23 rfl me rfl z0)) (fun w1 hw1 => ?_)
     exact ⟨ax81, s.gens.length, a1_141, c1_141, a1_201, ((((s.free.length : Nat) : Int) - 1).toNat), (Bs302 ++ (Bs301 ++ B1_201)), (rq (((hF.f hq1).neg hq8).neg hq9)), (Ax (L := (Bs302 ++ (Bs301 ++ B1_201))) (hw1.perm (((qb (qb (qd (qd q0)))).trans (qd (qb (qb (qd q0))))).trans (qd (qd (qb (qb q0)))))) (nA (nA rfl)).symm), (by rw [(((hF.f hq1).neg hq8).neg hq9).eq]; exact (hos302.slb Ba)), (by rw [(((hF.f hq1).neg hq8).neg hq9).eq]; exact (hos301.slb Oa)), (by rw [(((hF.f hq1).neg hq8).neg hq9).eq]; exact ((ho1_201.take Ba ((((s.free.length : Nat) : Int) - 1).toNat)).slb Ba)), (rl (((hF.f hq1).neg hq8).neg hq9)), (rl (((hF.f hq1).neg hq8).neg hq9)), (rl (((hF.f hq1).neg hq8).neg hq9))⟩

theorem AM7 (w : World) {n_ : Int} : Calls Tryz.prog 72 (List.toArray [(vi n_)]) w fun e w2 => ∃ a1 : Option Addr, ∃ c1 : Nat, ∃ a2 : Option Addr, ∃ c2 : Nat, ∃ a3 : Option Addr, ∃ c3 : Nat, ∃ B : Av, e = .returned (Value.tuple [(Value.agg [(vs a1 ((dP n_).1.gens.length) c1), (vs a2 ((dP n_).1.used.length) c2), (vs a3 ((dP n_).1.free.length) c3)].toArray), (vi ((dP n_).2))].toArray) ∧ Ej w w2 B ∧ Hd B eI 1 a1 (dP n_).1.gens ∧ Hd B eB 1 a2 (dP n_).1.used ∧ Hd B eI 1 a3 (dP n_).1.free ∧ (dP n_).1.gens.length ≤ 1000 ∧ (dP n_).1.used.length ≤ 1000 ∧ (dP n_).1.free.length ≤ 1000 := by
 have hF := Is.refl (dP n_)
 refine enter func72 ntmps72 (h := ?_)
 refine Z2 ?_
 refine Ak Ag J6 (k := fun r1 hr1 => ?_)
 refine Iv ?_
 refine aB ?_
 refine Ao 8 rfl (fun hq1 => ?_) (fun hq1 => ?_)
 ·refine Ab 2 rfl ?_
  refine Uy ?_
  refine Af z43 (k := ?_)
  refine sN ?_
  refine Rg ?_
  refine Aa results72 (Bw.agg isAgg31 sizeOf31 rfl me rfl z0) (fun w1 hw1 => ?_)
  exact ⟨none, 0, none, 0, none, 0, [], (rq (hF.pos hq1)), (hw1.fresh_out.sub Mo), (rn (hF.pos hq1)), (rn (hF.pos hq1)), (rn (hF.pos hq1)), (rl (hF.pos hq1)), (rl (hF.pos hq1)), (rl (hF.pos hq1))⟩
 refine sF ?_
 refine Pe ?_
 refine Bi rfl (fun hq2 => ?_) (fun hq2 => ?_)
 ·refine Cb ?_
  refine Cp ?_
  refine Af z43 (k := ?_)
  refine sN ?_
  refine Rg ?_
  refine Aa results72 (Bw.agg isAgg31 sizeOf31 rfl me rfl z0) (fun w1 hw1 => ?_)
  exact ⟨none, 0, none, 0, none, 0, [], (rq ((hF.neg hq1).pos hq2)), (hw1.fresh_out.sub Mo), (rn ((hF.neg hq1).pos hq2)), (rn ((hF.neg hq1).pos hq2)), (rn ((hF.neg hq1).pos hq2)), (rl ((hF.neg hq1).pos hq2)), (rl ((hF.neg hq1).pos hq2)), (rl ((hF.neg hq1).pos hq2))⟩
 refine Yq ?_
 refine pO (σ1 := List Int) (σ2 := Option Addr) (σ3 := Nat) (σ4 := Av) (σ5 := List Bool) (σ6 := Option Addr) (σ7 := Nat) (σ8 := Av) (σ9 := Nat) (fun x_1 x_1a x_1c x_1B x_2 x_2a x_2c x_2B r122 => (x_2B ++ (x_1B ++ ((r122, oc [(vs x_1a x_1.length x_1c), (vs x_2a x_2.length x_2c), (vs none 0 0)] 31) :: ((r1, oc [(vs none 0 0), (vs none 0 0), (vs none 0 0)] 31) :: []))))) (fun x_1 x_1a x_1c x_1B x_2 x_2a x_2c x_2B r122 => [(0, (vi n_)), (2, (Value.pointer (some ⟨r1, 0, none⟩))), (3, (vi 0)), (4, (Value.pointer (some ⟨r122, 0, none⟩)))]) (fun x_1 x_1a x_1c x_1B x_2 x_2a x_2c x_2B r122 => Is (Is.xr2 ((hF.neg hq1).neg hq2)) (x_1, x_2) ∧ Bt eI 1 3 x_1a x_1c x_1B x_1 ∧ Bt eB 1 4 x_2a x_2c x_2B x_2 ∧ x_1.length ≤ 64 ∧ x_2.length ≤ 64) ?_ ?_
 ·skip
  refine Xx (V := []) mixed 6 z2 ?_
  refine Ct 0 rfl z2 Gf (k := ?_)
  refine Ct 2 rfl z2 Gf (k := ?_)
  refine Cc [1, 3, 5] z2 rfl (List.forall_mem_cons.2 ⟨?_, (List.forall_mem_cons.2 ⟨?_, (List.forall_mem_cons.2 ⟨?_, nofun⟩)⟩)⟩)
  ·skip
   refine Kz rfl (n := n_.toNat) (x0 := default) Fq underlying24 Ba rfl ⟨by omega, by omega⟩ (k := fun ax41 Bx41 hox41 => ?_)
   refine Cc [3, 5] z2 rfl (List.forall_mem_cons.2 ⟨?_, (List.forall_mem_cons.2 ⟨?_, nofun⟩)⟩)
   ·skip
    refine Kz rfl (n := n_.toNat) (x0 := default) F5 underlying29 Oa rfl ⟨by omega, by omega⟩ (k := fun ax81 Bx81 hox81 => ?_)
    refine Ct 4 rfl z2 z43 (k := ?_)
    refine Cc [5] z2 rfl (List.forall_mem_cons.2 ⟨?_, nofun⟩)
    ·skip
     refine fX rfl Ag J6 (k := fun r122 hr122 => ?_)
     refine AU2 ?_
     refine Dz ?_
     refine Dt _ ((((qa (qc (qc q0))).trans (qa q0)).trans (qb (qb (qd q0)))).trans (qd (qb (qb q0)))) ?_
     exact Jv (List.replicate n_.toNat (default : Int)) ax41 n_.toNat Bx41 (List.replicate n_.toNat (default : Bool)) ax81 n_.toNat Bx81 r122 ⟨(Is.refl (Is.xr2 ((hF.neg hq1).neg hq2))), hox41, hox81, J1, J1⟩ se (List.Perm.refl _)
   ·skip
    refine fX rfl Ag J6 (k := fun r122 hr122 => ?_)
    refine Cc [3] z2 rfl (List.forall_mem_cons.2 ⟨?_, nofun⟩)
    ·skip
     refine Kz rfl (n := n_.toNat) (x0 := default) F5 underlying29 Oa rfl ⟨by omega, by omega⟩ (k := fun ax81 Bx81 hox81 => ?_)
     refine AE8 ?_
     refine Dz ?_
     refine Dt _ ((((qc (qa (qc q0))).trans (qa (qc q0))).trans (qb (qb (qd q0)))).trans (qd (qb (qb q0)))) ?_
     exact Jv (List.replicate n_.toNat (default : Int)) ax41 n_.toNat Bx41 (List.replicate n_.toNat (default : Bool)) ax81 n_.toNat Bx81 r122 ⟨(Is.refl (Is.xr2 ((hF.neg hq1).neg hq2))), hox41, hox81, J1, J1⟩ se (List.Perm.refl _)
  ·skip
   refine Kz rfl (n := n_.toNat) (x0 := default) F5 underlying29 Oa rfl ⟨by omega, by omega⟩ (k := fun ax81 Bx81 hox81 => ?_)
   refine Cc [1, 5] z2 rfl (List.forall_mem_cons.2 ⟨?_, (List.forall_mem_cons.2 ⟨?_, nofun⟩)⟩)
   ·skip
    refine Kz rfl (n := n_.toNat) (x0 := default) Fq underlying24 Ba rfl ⟨by omega, by omega⟩ (k := fun ax41 Bx41 hox41 => ?_)
    refine Ct 4 rfl z2 z43 (k := ?_)
    refine Cc [5] z2 rfl (List.forall_mem_cons.2 ⟨?_, nofun⟩)
    ·skip
     refine fX rfl Ag J6 (k := fun r122 hr122 => ?_)
     refine AU2 ?_
     refine Dz ?_
     refine Dt _ ((((qa (qc (qc q0))).trans (qa q0)).trans (qb (qb q0))).trans (qd (qb (qb q0)))) ?_
     exact Jv (List.replicate n_.toNat (default : Int)) ax41 n_.toNat Bx41 (List.replicate n_.toNat (default : Bool)) ax81 n_.toNat Bx81 r122 ⟨(Is.refl (Is.xr2 ((hF.neg hq1).neg hq2))), hox41, hox81, J1, J1⟩ se (List.Perm.refl _)
   ·skip
    refine fX rfl Ag J6 (k := fun r122 hr122 => ?_)
    refine Cc [1] z2 rfl (List.forall_mem_cons.2 ⟨?_, nofun⟩)
    ·skip
     refine Kz rfl (n := n_.toNat) (x0 := default) Fq underlying24 Ba rfl ⟨by omega, by omega⟩ (k := fun ax41 Bx41 hox41 => ?_)
     refine AE8 ?_
     refine Dz ?_
     refine Dt _ ((((qc (qa (qc q0))).trans (qa (qc q0))).trans (qb (qb q0))).trans (qd (qb (qb q0)))) ?_
     exact Jv (List.replicate n_.toNat (default : Int)) ax41 n_.toNat Bx41 (List.replicate n_.toNat (default : Bool)) ax81 n_.toNat Bx81 r122 ⟨(Is.refl (Is.xr2 ((hF.neg hq1).neg hq2))), hox41, hox81, J1, J1⟩ se (List.Perm.refl _)
  ·skip
   refine fX rfl Ag J6 (k := fun r122 hr122 => ?_)
   refine Cc [1, 3] z2 rfl (List.forall_mem_cons.2 ⟨?_, (List.forall_mem_cons.2 ⟨?_, nofun⟩)⟩)
   ·skip
    refine Kz rfl (n := n_.toNat) (x0 := default) Fq underlying24 Ba rfl ⟨by omega, by omega⟩ (k := fun ax41 Bx41 hox41 => ?_)
    refine Cc [3] z2 rfl (List.forall_mem_cons.2 ⟨?_, nofun⟩)
    ·skip
     refine Kz rfl (n := n_.toNat) (x0 := default) F5 underlying29 Oa rfl ⟨by omega, by omega⟩ (k := fun ax81 Bx81 hox81 => ?_)
     refine AE8 ?_
     refine Dz ?_
     exact Jv (List.replicate n_.toNat (default : Int)) ax41 n_.toNat Bx41 (List.replicate n_.toNat (default : Bool)) ax81 n_.toNat Bx81 r122 ⟨(Is.refl (Is.xr2 ((hF.neg hq1).neg hq2))), hox41, hox81, J1, J1⟩ se (List.Perm.refl _)
   ·skip
    refine Kz rfl (n := n_.toNat) (x0 := default) F5 underlying29 Oa rfl ⟨by omega, by omega⟩ (k := fun ax81 Bx81 hox81 => ?_)
    refine Cc [1] z2 rfl (List.forall_mem_cons.2 ⟨?_, nofun⟩)
    ·skip
     refine Kz rfl (n := n_.toNat) (x0 := default) Fq underlying24 Ba rfl ⟨by omega, by omega⟩ (k := fun ax41 Bx41 hox41 => ?_)
     refine AE8 ?_
     refine Dz ?_
     refine Dt _ ((((qc (qc (qa q0))).trans (qa (qc (qc q0)))).trans (qb (qb q0))).trans (qd (qb (qb q0)))) ?_
     exact Jv (List.replicate n_.toNat (default : Int)) ax41 n_.toNat Bx41 (List.replicate n_.toNat (default : Bool)) ax81 n_.toNat Bx81 r122 ⟨(Is.refl (Is.xr2 ((hF.neg hq1).neg hq2))), hox41, hox81, J1, J1⟩ se (List.Perm.refl _)
 rintro x_1 x_1a x_1c x_1B x_2 x_2a x_2c x_2B r122 ⟨hJ3, hx_1, hx_2, hi4, hi5⟩
 refine Du ?_
 refine Eu ?_
 refine Hp ?_
 refine Nj ?_
 refine Ml (σ1 := Nat) (σ2 := Nat) (σ3 := List Int) (σ4 := Option Addr) (σ5 := Nat) (σ6 := Av) (fun n_8 x_6 x_7 x_7a x_7c x_7B => (x_7B ++ (x_2B ++ (x_1B ++ ((r122, oc [(vs x_1a x_1.length x_1c), (vs x_2a x_2.length x_2c), (vs x_7a x_7.length x_7c)] 31) :: ((r1, oc [(vs none 0 0), (vs none 0 0), (vs none 0 0)] 31) :: [])))))) (fun n_8 x_6 x_7 x_7a x_7c x_7B => [(0, (vi n_)), (2, (Value.pointer (some ⟨r1, 0, none⟩))), (3, (vi 0)), (4, (Value.pointer (some ⟨r122, 0, none⟩))), (18, (vi n_)), (19, (vi ((x_6 : Nat) : Int)))]) (fun n_8 x_6 x_7 x_7a x_7c x_7B => (n_ - ((x_6 : Nat) : Int)).toNat < n_8 ∧ Is (hO n_ x_1 x_2 ((n_ - ((0 : Nat) : Int)).toNat + 1) 0 []) (hO n_ x_1 x_2 n_8 x_6 x_7) ∧ Bt eI 1 3 x_7a x_7c x_7B x_7 ∧ x_7.length ≤ x_6 ∧ ((x_6 : Nat) : Int) ≤ n_) (fun n_8 x_6 x_7 x_7a x_7c x_7B => n_8) ((n_ - ((0 : Nat) : Int)).toNat + 1) 0 ([]) none 0 ([]) ?_ se (List.Perm.refl _) ?_
 ·exact ⟨Nat.lt_succ_self _, Is.refl _, Bt.nil, z7, z7⟩
 ·rintro (_ | n_8) x_6 x_7 x_7a x_7c x_7B ⟨hm10, hF9, hx_7, hi11, hi12⟩
  ·omega
  refine Zy ?_
  refine Bi rfl (fun hq3 => ?_) (fun hq3 => ?_)
  rotate_left
  ·refine Cu ?_
   refine Ia ?_
   refine Z2 ?_
   refine sM ?_
   refine sN ?_
   refine Z4 ?_
   refine Aa results72 (Bw.agg isAgg31 sizeOf31 rfl me rfl z0) (fun w1 hw1 => ?_)
   exact ⟨x_1a, x_1c, x_2a, x_2c, x_7a, x_7c, (x_1B ++ (x_2B ++ x_7B)), (rq ((((hF.neg hq1).neg hq2).rn2 hJ3).rn2 (hF9.neg hq3))), (Ax (L := (x_1B ++ (x_2B ++ x_7B))) (hw1.perm ((q0.trans (qd q0)).trans (qd (qd q0)))) (nA (nA rfl)).symm), (by rw [((((hF.neg hq1).neg hq2).rn2 hJ3).rn2 (hF9.neg hq3)).eq]; exact (hx_1.slb Ba)), (by rw [((((hF.neg hq1).neg hq2).rn2 hJ3).rn2 (hF9.neg hq3)).eq]; exact (hx_2.slb Oa)), (by rw [((((hF.neg hq1).neg hq2).rn2 hJ3).rn2 (hF9.neg hq3)).eq]; exact (hx_7.slb Ba)), (rl ((((hF.neg hq1).neg hq2).rn2 hJ3).rn2 (hF9.neg hq3))), (rl ((((hF.neg hq1).neg hq2).rn2 hJ3).rn2 (hF9.neg hq3))), (rl ((((hF.neg hq1).neg hq2).rn2 hJ3).rn2 (hF9.neg hq3)))⟩
  refine Py ?_
  refine Ib ?_
  refine Z1 ?_
  refine Cp ?_
  refine BE4 ?_
  refine Ck ?_
  refine Xi ?_
  refine Ck ?_
  refine Xi ?_
  refine Ak Ag z8 (k := fun r162 hr162 => ?_)
  refine Bb (x_7 ++ ([((n_ - 1) - ((x_6 : Nat) : Int))] : List Int)) rfl Fq underlying24 Ba hx_7 (qb q0) (Cl.lit (xs := ([((n_ - 1) - ((x_6 : Nat) : Int))] : List Int)) Ba) ⟨by omega, by omega⟩ (n := x_7.length) (m := 1) (k := fun ax161 cx161 Bx161 hox161 => ?_)
  have hal161 : (x_7 ++ ([((n_ - 1) - ((x_6 : Nat) : Int))] : List Int)).length = x_7.length + 1 := by first | rfl | exact List.length_append | simp
  refine AE9 ?_
  refine Dz ?_
  refine Ux ?_
  refine Dt _ (((((qc (qa (qc (qc (qa q0))))).trans (qa (qc (qa (qc (qc q0)))))).trans (qb (qb (qd (qb (qd q0)))))).trans (qd (qb (qb (qd (qb q0)))))).trans (qd (qd (qb (qb q0))))) ?_
  refine Cn _ (List.Sublist.append z37 (List.Sublist.append z37 (List.Sublist.append z37 (List.Sublist.cons_cons _ (List.Sublist.cons_cons _ Mo))))) ?_
  exact Hv n_8 (x_6 + 1) (x_7 ++ ([((n_ - 1) - ((x_6 : Nat) : Int))] : List Int)) ax161 cx161 Bx161 ⟨by omega, (hF9.pos hq3), hox161, z3, z3⟩ (Nat.lt_succ_self _) se (List.Perm.refl _)

end Go.Proofs.YtdnjanhdnibkfaaGreatDoor.Jd

