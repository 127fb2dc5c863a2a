/- Part of the proofs of this seat: walks and plain facts. No condition. -/
import Derived.Test.YtdnjanhdnibkfaaGreatDoorF0
import Derived.Stop.LaidTwo
import Derived.Lib.ConvBytes
import Derived.Laws.BytesString
import Derived.Lay
import Derived.LaidHandle
import Derived.Lib.AppendZeros
import Derived.Lib.AppendZerosOnto
import Derived.Lib.Overlaps
import Derived.Lib.Builder
import Derived.Lib.UnsafeStr
import Derived.Shelf.Strings.Builder1
import Derived.Shelf.Strings.Builder2
import Derived.Shelf.Strings.OnBuilder
import Derived.Shelf.Small.Wraps
import Derived.Shelf.Strings.BuilderF
import Derived.Shelf.Strings.BuilderK
import Derived.Shelf.Strings.Builder2Cap
import Derived.Shelf.Strconv.Itoa0
import Derived.Shelf.Strconv.Itoa1
import Derived.Shelf.LaysM
import Derived.Shelf.Strconv.Itoa2
import Derived.Shelf.Strconv.Itoa3
import Derived.Shelf.Strings.Search1
import Derived.Shelf.Strings.Search2
import Derived.Shelf.Strings.Cut
import Derived.Shelf.Strings.Shaped
import Derived.Ground.GguProg
import Derived.Shelf.GgSortLib.LibTypes
import Derived.Shelf.Strings.BuilderCap
import Derived.Shelf.Slices.Reverse
import Derived.Shelf.Slices.Equal
import Derived.Ground.Names2Prog
import Derived.Shelf.Slices.Clone
import Derived.Shelf.Slices.SearchI
import Derived.Shelf.Slices.Cells
import Derived.Shelf.Slices.Empties
import Derived.Shelf.Slices.Empties2
import Derived.Ground.SlgnProg
import Derived.Shelf.SlicesE.Clone
import Derived.Test.YtdnjanhdnibkfaaGreatDoorProg
import Derived.Test.YtdnjanhdnibkfaaGreatDoorChecked
import Derived.WalkKit
import Derived.LaidEql
import Derived.Stop.Asserts
import Derived.RowKitTokens
import Derived.Test.YtdnjanhdnibkfaaGreatDoorF1
namespace Go.Proofs.YtdnjanhdnibkfaaGreatDoor.Jd
open Go.Proofs.Tryz
open Go.ChangeShapes
set_option linter.unusedVariables false
set_option linter.unusedSimpArgs false
theorem Iz {P : Program} {x y : String × DataW Unit} {l : List (String × DataW Unit)} {w : World} (h : laidMet P (x :: y :: l) w) : laidMet P (x :: l) w := by
  obtain ⟨ps, hv, hn, ha⟩ := h
  obtain ⟨n, d⟩ := x
  obtain ⟨n2, d2⟩ := y
  obtain ⟨g, t, cs, fuel, p, q, h1, h2, h3, h4, h5, rfl⟩ := hv
  obtain ⟨g2, t2, cs2, fuel2, p2, q2, k1, k2, k3, k4, k5, rfl⟩ := h5
  have hs := List.Sublist.append (List.Sublist.refl (MemPlace.row ⟨g, 0, none⟩ cs.size ++ p)) (List.sublist_append_right (MemPlace.row ⟨g2, 0, none⟩ cs2.size ++ p2) q2)
  exact ⟨_, ⟨g, t, cs, fuel, p, q2, h1, h2, h3, h4, k5, rfl⟩, hn.sublist hs, fun b off hm => ha b off (hs.subset hm)⟩
theorem Kn {P : Program} {W : World} {n : String} {g : Nat} {cs : Array Value} (hg : P.globalNamed n = some g) (h : W.var? P n = some cs) : ∃ T f, W.heap[g]? = some (.cells cs T f) := by
  unfold World.var? at h
  rw [hg] at h
  simp only [Option.bind_some] at h
  split at h
  · cases h; exact ⟨_, _, ‹_›⟩
  · cases h
theorem Fe {P : Program} {n nm : String} {text : List UInt8} {r : List (String × DataW Unit)} {W : World} {g : Nat} {ti tp te ts : TypeId} {ms : Array (String × TypeId)} {f : Field}
    (h : laidMet P ((n, .iface nm (.ptr (.agg [.lit (.string text)]))) :: r) W)
    (hg : P.globalNamed n = some g) (ht : (P.globals[g]?).map (·.type) = some ti) (hi : P.underlying ti = some (.interface ms)) (hrow : ∀ u, P.typeName? 3 u = some nm → u = tp)
    (hp : P.underlying tp = some (.pointer te)) (he : P.underlying te = some (.struct #[f])) (hft : f.type = ts) (hfo : f.offset = 0) (hs : P.underlying ts = some .string) (hc : P.cellsOf te = 1) (hcs : P.cellsOf ts = 1) :
    ∃ a : Addr, (∃ T f, W.heap[g]? = some (.cells [Value.iface tp (.pointer (some a))].toArray T f)) ∧ ∃ c t, W.heap[a.block]? = some (.cells c t (0, 0)) := by
  obtain ⟨ps, ⟨g0, t0, cs0, f0, p0, q0, hg0, ht0, hv0, hd0, _, e0⟩, _, hrows⟩ := h
  obtain rfl := Option.some.inj (hg.symm.trans hg0)
  obtain rfl := Option.some.inj (ht.symm.trans ht0)
  subst e0
  obtain ⟨l0⟩ := cs0
  have ok0 : ∀ u v, l0 = [.iface u v] → Value.okWide P W .any 0 u v := fun u v e => by
    subst e
    exact (hrows g 0 (by simp [MemPlace.row])).2 u v (by simpa using World.var?_cell hg0 hv0 0)
  obtain ⟨a0, s0, rfl, hc0, hs0, hz0, rfl⟩ := errorString_of_trod hi hrow hp he hft hfo hs hc hcs hd0 ok0
  exact ⟨a0, Kn hg hv0, (hrows a0.block a0.off (by simp [MemPlace.row])).1⟩
theorem Ja {P : Program} {n0 n1 nm : String} {text0 text1 : List UInt8} {r : List (String × DataW Unit)} {W : World} {g0 g1 : Nat} {ti tp te ts : TypeId} {ms : Array (String × TypeId)} {f : Field} {a0 a1 : Addr}
    (h : laidMet P ((n0, .iface nm (.ptr (.agg [.lit (.string text0)]))) :: (n1, .iface nm (.ptr (.agg [.lit (.string text1)]))) :: r) W)
    (hg0 : P.globalNamed n0 = some g0) (ht0 : (P.globals[g0]?).map (·.type) = some ti) (hg1 : P.globalNamed n1 = some g1) (ht1 : (P.globals[g1]?).map (·.type) = some ti)
    (hi : P.underlying ti = some (.interface ms)) (hrow : ∀ u, P.typeName? 3 u = some nm → u = tp)
    (hp : P.underlying tp = some (.pointer te)) (he : P.underlying te = some (.struct #[f])) (hft : f.type = ts) (hfo : f.offset = 0) (hs : P.underlying ts = some .string) (hc : P.cellsOf te = 1) (hcs : P.cellsOf ts = 1)
    (v0 : ∃ T f, W.heap[g0]? = some (.cells [Value.iface tp (.pointer (some a0))].toArray T f)) (v1 : ∃ T f, W.heap[g1]? = some (.cells [Value.iface tp (.pointer (some a1))].toArray T f)) : a0 ≠ a1 := by
  obtain ⟨b0, b1, _, _, _, _, _, _, hv0, hv1, _, _, _, _, _, _, hne, _, _⟩ := laid_sentinels2 h hg0 ht0 hg1 ht1 hi hrow hp he hft hfo hs hc hcs
  obtain ⟨T0, f0, v0⟩ := v0
  obtain ⟨T1, f1, v1⟩ := v1
  obtain ⟨T0', f0', u0⟩ := Kn hg0 hv0
  obtain ⟨T1', f1', u1⟩ := Kn hg1 hv1
  rw [v0] at u0
  rw [v1] at u1
  simp at u0 u1
  rw [u0.1, u1.1]
  exact hne
end Go.Proofs.YtdnjanhdnibkfaaGreatDoor.Jd

namespace Go.Proofs.YtdnjanhdnibkfaaGreatDoor.Jd
open Go.Proofs.Tryz
open Go.RowKit (Below)
set_option linter.unusedVariables false
set_option linter.unusedSimpArgs false
def aI (k : IntKind) (xs : List Int) : List Value := xs.map (Value.int k)
theorem Fu {k : IntKind} {xs : List Int} : (aI k xs).length = xs.length := by simp [aI]
theorem nM {k : IntKind} {xs : List Int} {m : Nat} (h : m < xs.length) : (aI k xs)[m]? = some (.int k (xs.getD m default)) := by
  simp [aI, h, List.getD]
theorem pG {k : IntKind} {v : Int} : ∀ {xs : List Int} {m : Nat}, Fb (aI k xs) m [.int k v] = aI k (xs.set m v)
  | [], m => by simp [aI, Fb]
  | x :: r, 0 => by cases r <;> simp [aI, Fb]
  | x :: r, m + 1 => by
    have := @pG k v r m
    simp only [aI, List.map_cons, Fb, List.set_cons_succ] at this ⊢
    rw [this]
theorem kC : ∀ {l us : List Value}, us.length = l.length → Fb l 0 us = us
  | [], [], _ => by simp [Fb]
  | [], _ :: _, h => by simp at h
  | _ :: _, [], h => by simp at h
  | c :: r, u :: us, h => by
    simp only [Fb]
    rw [kC (by simpa using h)]
theorem pH : ∀ {l : List Value} {n : Nat}, l.length = n → oV l 0 n = some l := by
  have hs : ∀ (l : List Value) (c : Value) (k n : Nat), oV (c :: l) (k + 1) n = oV l k n := by
    intro l c k n
    induction n generalizing k with
    | zero => rfl
    | succ n ih => simp only [oV, uB]; rw [ih]
  intro l
  induction l with
  | nil => intro n h; subst h; rfl
  | cons c r ih =>
    intro n h
    subst h
    simp only [List.length_cons, oV, uB]
    rw [hs, ih rfl]
theorem Wo {k : IntKind} : ∀ {xs : List Int}, Ku (aI k xs) = true
  | [] => rfl
  | x :: r => by
    have := @Wo k r
    simp only [aI, List.map_cons, Ku] at this ⊢
    rw [this]; rfl
section
variable {P : Program} {rd : Option Nat} {b0 : World} {Mk : List Nat} {N : Nat} {D : List Deferred} {ops : Array Oper} {L V : Am} {E : Eg} {T : Act → World → Prop}
variable {op : Op} {ty : TypeId} {pos : String} {after : Array Edge} {d : Nat}
theorem Nw {e t : TypeId} {len n : Nat} {x y : Operand} {k : IntKind} {p : Int} {r o : Nat} (m j : Nat) (hU : ∀ w, (underlying t).run P w = .ok (.array len e) w) (hS : ∀ w, (sizeOf e).run P w = .ok n w) (hx : ev E x = some (.pointer (some ⟨r, o, none⟩)) := by rfl) (hy : ev E y = some (.int k p) := by rfl) (hi : p = (m : Int) := by first | rfl | omega) (hj : j = o + m * n := by omega) (hm : m < len := by omega) :
    Cm P N D b0 Mk L E (.indexAddr t x y) ty (.pointer (some ⟨r, j, none⟩)) := by
  subst hj
  exact Ek hU hS hx hy hi hm
theorem Pl {t : TypeId} {x : Operand} {r m : Nat} {k : IntKind} {xs : List Int} {T : TypeId} {f : Nat × Nat} (hA : ∀ w, (isAgg t).run P w = .ok false w) (hm : m < xs.length) (hx : ev E x = some (.pointer (some ⟨r, m, none⟩)) := by rfl)
    (hL : (r, Obj.cells (aI k xs).toArray T f) ∈ L := by repeat (first | exact List.mem_cons_self | apply List.mem_cons_of_mem | apply List.mem_append_right)) :
    Cm P N D b0 Mk L E (.load t x) ty (.int k (xs.getD m default)) := Bb hA hx hL (by rw [Nr, nM hm])
theorem xH {t : TypeId} {x : Operand} {r m : Nat} {k : IntKind} {xs : List Int} {T : TypeId} {f : Nat × Nat} (hA : ∀ w, (isAgg t).run P w = .ok false w) (hm : m < xs.length) (hb : b0.heap[r]? = some (Obj.cells (aI k xs).toArray T f)) (hx : ev E x = some (.pointer (some ⟨r, m, none⟩)) := by rfl) (hM : r ∉ Mk := by simp) :
    Cm P N D b0 Mk L E (.load t x) ty (.int k (xs.getD m default)) := Dp hA hb hx hM (by rw [Nr, nM hm])
theorem xI {t : TypeId} {x : Operand} {r n : Nat} {k : IntKind} {xs : List Int} {T : TypeId} {f : Nat × Nat} (hA : ∀ w, (isAgg t).run P w = .ok true w) (hS : ∀ w, (sizeOf t).run P w = .ok n w) (hn : xs.length = n) (hx : ev E x = some (.pointer (some ⟨r, 0, none⟩)) := by rfl)
    (hL : (r, Obj.cells (aI k xs).toArray T f) ∈ L := by repeat (first | exact List.mem_cons_self | apply List.mem_cons_of_mem | apply List.mem_append_right)) :
    Cm P N D b0 Mk L E (.load t x) ty (.agg (aI k xs).toArray) := Bq hA hS hx hL (pH (by rw [Fu, hn]))
theorem kD {t : TypeId} {x y : Operand} {r m : Nat} {k : IntKind} {v : Int} {xs : List Int} {T : TypeId} {L' : Am} (hS : ∀ w, (sizeOf t).run P w = .ok 1 w) (hm : m < xs.length) (hx : ev E x = some (.pointer (some ⟨r, m, none⟩)) := by rfl) (hy : ev E y = some (.int k v) := by rfl)
    (hR : Lg r (.cells (aI k xs).toArray T) (.cells (aI k (xs.set m v)).toArray T) L L' := by repeat (first | exact Lg.head | apply Lg.tail | apply Lg.app)) :
    mW P N D b0 Mk L E (.store t x y) ty L' .skip := Bc (l := aI k xs) (l' := aI k (xs.set m v)) hS hx hy hR pG rfl rfl (by simp [Fu, Cp]; omega)
theorem sJ {t : TypeId} {x y : Operand} {r n : Nat} {k k' : IntKind} {xs ys : List Int} {T : TypeId} {L' : Am} (hS : ∀ w, (sizeOf t).run P w = .ok n w) (hn : ys.length = n) (hn' : xs.length = n) (hx : ev E x = some (.pointer (some ⟨r, 0, none⟩)) := by rfl) (hy : ev E y = some (.agg (aI k ys).toArray) := by rfl)
    (hR : Lg r (.cells (aI k' xs).toArray T) (.cells (aI k ys).toArray T) L L' := by repeat (first | exact Lg.head | apply Lg.tail | apply Lg.app)) :
    mW P N D b0 Mk L E (.store t x y) ty L' .skip := Bc (l := aI k' xs) (l' := aI k ys) hS hx hy hR (by simp only [Cp]; exact kC (by simp [Fu, hn, hn'])) (by simp [Cp, Fu, hn]) (by simp only [Cp]; exact Wo) (by simp [Cp, Fu, hn, hn'])
theorem M7 {e t : TypeId} {len : Nat} {x y : Operand} {k k' : IntKind} {p : Int} {xs : List Int} {m : Nat} (hU : ∀ w, (underlying t).run P w = .ok (.array len e) w) (hS : ∀ w, (sizeOf e).run P w = .ok 1 w) (hA : ∀ w, (isAgg e).run P w = .ok false w) (hx : ev E x = some (.agg (aI k xs).toArray) := by rfl) (hy : ev E y = some (.int k' p) := by rfl) (hi : p = (m : Int) := by first | rfl | omega) (hm : m < len := by omega) (hl : xs.length = len := by omega) :
    Cm P N D b0 Mk L E (.index t x y) ty (.int k (xs.getD m default)) := fun a w ha _ => by
  subst hi
  have hg := nM (k := k) (xs := xs) (m := m) z8
  simp [Em, execOp, ha.eval hx, ha.eval hy, Instr.index, asIntOf, hU, hS, hm, part, hA, hg]
theorem nN {t e : TypeId} {len n : Nat} {x y : Operand} {k : IntKind} {p : Int} {r o : Nat} (l j c : Nat) (hU : ∀ w, (underlying t).run P w = .ok (.array len e) w) (hS : ∀ w, (sizeOf e).run P w = .ok n w) (hl : l < len) (hj : j = o + l * n) (hc : c = len - l) (hi : p = (l : Int)) (hx : ev E x = some (.pointer (some ⟨r, o, none⟩)) := by rfl) (hy : ev E y = some (.int k p) := by rfl) :
    Cm P N D b0 Mk L E (.slice t x (some y) none none) ty (.slice (some ⟨r, j, none⟩) c c) := fun a w ha _ => by
  subst hi hj hc
  have h2 : ¬ len = l := by omega
  simp [Em, execOp, ha.eval hx, ha.eval hy, Instr.sliceAt, Instr.sliceBounds, Instr.sliceBound, asIntOf, hU, hS, Instr.sureAddr, h2, Ao]
  intro h; omega
theorem nO {t e : TypeId} {len n : Nat} {x y : Operand} {k : IntKind} {p : Int} {r o : Nat} (h : Nat) (hU : ∀ w, (underlying t).run P w = .ok (.array len e) w) (hS : ∀ w, (sizeOf e).run P w = .ok n w) (hh : h ≤ len) (h0 : 0 < len) (hi : p = (h : Int)) (hx : ev E x = some (.pointer (some ⟨r, o, none⟩)) := by rfl) (hy : ev E y = some (.int k p) := by rfl) :
    Cm P N D b0 Mk L E (.slice t x none (some y) none) ty (.slice (some ⟨r, o, none⟩) h len) := fun a w ha _ => by
  subst hi
  have h2 : ¬ len = 0 := by omega
  simp [Em, execOp, ha.eval hx, ha.eval hy, Instr.sliceAt, Instr.sliceBounds, Instr.sliceBound, asIntOf, hU, hS, Instr.sureAddr, h2, Ao]
  intro h; omega
theorem Xl {t e : TypeId} {len n : Nat} {x : Operand} {r o : Nat} (hU : ∀ w, (underlying t).run P w = .ok (.array len e) w) (hS : ∀ w, (sizeOf e).run P w = .ok n w) (h0 : 0 < len) (hx : ev E x = some (.pointer (some ⟨r, o, none⟩)) := by rfl) :
    Cm P N D b0 Mk L E (.slice t x none none none) ty (.slice (some ⟨r, o, none⟩) len len) := fun a w ha _ => by
  have h2 : ¬ len = 0 := by omega
  simp [Em, execOp, ha.eval hx, Instr.sliceAt, Instr.sliceBounds, hU, hS, Instr.sureAddr, Ao]
theorem AD6 {t : TypeId} {x : Operand} {k : IntKind} {p : Int} (hx : ev E x = some (.int k p) := by rfl) (hk : k.signed = false := by rfl) : Cm P N D b0 Mk L E (.unOp .xor t x) ty (.int k (Fr k k.max p)) := fun a w ha _ => by
  simp [Em, execOp, ha.eval hx, Op.unary, Op.intBits, hk, Fr]
theorem AD7 {t : TypeId} {x : Operand} {k : IntKind} {p : Int} (hx : ev E x = some (.int k p) := by rfl) : Cm P N D b0 Mk L E (.unOp .neg t x) ty (.int k (k.wrap (0 - p))) := fun a w ha _ => by
  simp [Em, execOp, ha.eval hx, Op.unary, Op.intArith]
def gE (P : Program) (t : TypeId) (pl : List (Nat × Nat)) : Prop :=
  ∃ len e n, (∀ w, (underlying t).run P w = .ok (.array len e) w) ∧ (∀ w, (sizeOf e).run P w = .ok n w) ∧ ∀ (i : Nat) (q : Nat × Nat), pl[i]? = some q → q = (i * n, n)
theorem kE {t : TypeId} {z : Value} {pl : List (Nat × Nat)} {parts : List (Nat × Operand)} {ps : List (Nat × List Value)} {cs : List Value} (hz : ∀ w, (zeroValue t).run P w = .ok z w) (hp : gE P t pl) (hv : evp E parts = some ps := by rfl)
    (hf : aM pl (Cp z) ps = some cs := by rfl) : Cm P N D b0 Mk L E (.build t parts.toArray) ty (.agg cs.toArray) := fun a w ha _ => by
  obtain ⟨len, e, n, hU, hS, hq⟩ := hp
  have h1 := ha.evalp hv
  subst h1
  have := Ph pl (fun i => some (i * n, n)) (fun i q h => by rw [hq i q h]) (parts.map fun p => (p.1, a.eval p.2)) (Cp z) cs (by rw [List.map_map]; exact hf)
  simp only [Em, execOp, Instr.build, Sem.run_bind, hz, hU, hS, Result.andThen_ok]
  have e : (Array.map (fun x => match x with | (i, x) => (i, a.eval x)) parts.toArray).toList = parts.map fun p => (p.1, a.eval p.2) := by simp
  simp only [Result.andThen_ok, Ft, e, this, Sem.run_pure]
def Je (s : Ai) : List Int := s.map fun b => (b.toNat : Int)
theorem Ce {s : Ai} : (Je s).length = s.length := by simp [Je]
theorem gF : ∀ (xs : List Int), Dx Xk xs = aI .u8 xs
  | [] => rfl
  | x :: r => by
    have := gF r
    simp only [Dx, aI, List.map_cons, List.flatten_cons] at this ⊢
    rw [this]; rfl
theorem M8 {t e s' : TypeId} {u : TypeDesc} {x : Operand} {s : Ai} (hs : P.underlying s' = some u) (hU : P.underlying t = some (.slice e)) (hE : P.underlying e = some (.int .u8)) (hx : ev E x = some (.string (bs s)) := by rfl) :
    Rb P N D b0 Mk L E (.convert s' t x) ty [] (Option Addr × Nat × Am) (fun q => .value (.slice q.1 (Je s).length q.2.1)) (fun q => q.2.2) (fun q => Bi Xk 1 e q.1 q.2.1 q.2.2 (Je s)) := fun a w ha hw => by
  have hr := Lib.run_convert_string_bytes (P := P) w s' t e (bs s) hs hU hE
  have hb : (bs s).size = s.length := Ha s
  have hge : s.length ≤ grownCap w s.length 0 e := by simpa using grownCap_ge w s.length 0 e
  have hbd : (bs s).data.toList = s := by simp [bs]
  have hcl : (Lib.bytesCells w e (bs s)).toList = aI .u8 (Je s) ++ List.replicate (grownCap w s.length 0 e - s.length) (.int .u8 0) := by
    simp [Lib.bytesCells, hb, aI, Je, hbd, List.map_map]
  have hsz : (Lib.bytesCells w e (bs s)).size = grownCap w s.length 0 e := by
    rw [← Array.length_toList, hcl]; simp [Fu, Ce]; omega
  refine ⟨(some ⟨w.heap.size, 0, none⟩, grownCap w s.length 0 e, [(w.heap.size, .cells (Lib.bytesCells w e (bs s)) e ((Lib.bytesCells w e (bs s)).size, (Lib.bytesCells w e (bs s)).size + 1))]), Lib.bytesWorld w e (bs s), ?_, ?_, ?_⟩
  · simp [Em, execOp, ha.eval hx, hr, hb, Ce]
  · refine ⟨rfl, rfl, rfl, ?_, fun k hk _ => Lib.bytesWorld_at_old w e _ k hk, fun p hp => ?_, fun p hp => .inr ?_, by simp [keys]⟩
    · rw [Lib.bytesWorld_size]; omega
    · have : p = (w.heap.size, .cells (Lib.bytesCells w e (bs s)) e ((Lib.bytesCells w e (bs s)).size, (Lib.bytesCells w e (bs s)).size + 1)) := by simpa using hp
      subst this
      exact Lib.bytesWorld_at_new w e _
    · have : p = (w.heap.size, .cells (Lib.bytesCells w e (bs s)) e ((Lib.bytesCells w e (bs s)).size, (Lib.bytesCells w e (bs s)).size + 1)) := by simpa using hp
      subst this
      exact Nat.le_refl _
  · refine Bi.fullF (.inr (Nat.le_refl _)) (by simpa [Ce] using hge) (by simp [hsz]) ?_
    rw [hcl, gF, Nat.mul_one, ← Fu (k := .u8)]
    exact List.take_left' rfl
theorem kF {t e s' : TypeId} {u : TypeDesc} {x : Operand} {s : Ai} {l : List Oper} (hs : P.underlying s' = some u) (hU : P.underlying t = some (.slice e)) (hE : P.underlying e = some (.int .u8)) (hx : ev E x = some (.string (bs s)) := by rfl) (hd : Nat.blt d N = true := by rfl)
    (k : ∀ a2 c2 B2, Bi Xk 1 e a2 c2 B2 (Je s) → JL P rd b0 Mk N D ops (B2 ++ L) ((d, .slice a2 (Je s).length c2) :: E) l T) :
    JL P rd b0 Mk N D ops L E ({ dst := some d, op := .convert s' t x, type := ty, pos := pos, after := after, guard := none } :: l) T :=
  nF (List.Perm.refl _) (M8 hs hU hE hx) rfl hd (fun q hq => k q.1 q.2.1 q.2.2 hq)
def Md (xs : List Int) : Ai := xs.map fun x => UInt8.ofNat x.toNat
theorem Cq {xs : List Int} : (Md xs).length = xs.length := by simp [Md]
theorem aZ : ∀ (xs : List Int) (r : ByteArray), xs.foldl (fun r n => r.push (UInt8.ofNat n.toNat)) r = r ++ bs (Md xs)
  | [], r => by simp [Md, bs, ByteArray.ext_iff]
  | x :: xs, r => by
    rw [List.foldl_cons, aZ xs]
    simp [Md, bs, ByteArray.ext_iff, ByteArray.push]
theorem bA {t e s' : TypeId} {x : Operand} {a : Option Addr} {n c : Nat} {xs : List Int} (hs : P.underlying s' = some .string) (hU : P.underlying t = some (.slice e)) (hE : P.underlying e = some (.int .u8)) (hJ : Ch b0 Mk L Xk 1 a xs) (hx : ev E x = some (.slice a n c) := by rfl) (hn : xs.length = n := by rfl) :
    Cm P N D b0 Mk L E (.convert t s' x) ty (.string (bs (Md xs))) := fun ac w ha hw => by
  subst hn
  have hr : ∀ v, (Conv.bytesToString (.slice a xs.length c)).run P w = .ok v w → (execOp ac.eval (Em (.convert t s' x) ty)).run P w = .ok (.value v) w := fun v hv => by
    simp [Em, execOp, ha.eval hx, run_convert_bytes_string w t s' e a xs.length c hU hE hs, hv]
  apply hr
  rcases a with _ | ad
  · have : xs = [] := Sl.none (hJ w hw)
    subst this
    simp [Conv.bytesToString, Md, bs]
    rfl
  · have hl : (loadCells ad xs.length).run P w = .ok (xs.map (Value.int .u8)).toArray w := by
      have h1 := Sl.cells Bm (hJ w hw) xs.length (Nat.le_refl _)
      rw [List.take_length, gF] at h1
      have := run_loadCells_list (P := P) w ad (aI .u8 xs) h1
      rw [Fu] at this
      exact this
    rw [run_bytesToString w ad xs.length c xs hl, aZ]
    simp
theorem M9 {t e : TypeId} {x y : Operand} {r r' o o' n n' c c' m : Nat} {l l' us src : List Value} {T T' : TypeId} {f' : Nat × Nat} (hU : ∀ w, (underlying t).run P w = .ok (.slice e) w) (hS : ∀ w, (sizeOf e).run P w = .ok 1 w) (hx : ev E x = some (.slice (some ⟨r, o, none⟩) n c)) (hy : ev E y = some (.slice (some ⟨r', o', none⟩) n' c'))
    (hL : (r, Obj.cells l.toArray T) ∈ L) (hm : (r', Obj.cells src.toArray T' f') ∈ L) (hn : Nat.min n' n = m) (hseg : oV src o' m = some us) (hl : Fb l o us = l') (ho : Ku us = true) (hk : Nat.ble (o + us.length) l.length = true) :
    Rb P N D b0 Mk L E (.call { callee := .builtin .copy, args := #[x, y], argTypes := #[t, t] }) ty [(r, .cells l.toArray T)] Unit (fun _ => .value (.int .i64 m)) (fun _ => [(r, .cells l'.toArray T)]) (fun _ => True) := fun a w ha hw => by
  obtain ⟨h1, h2⟩ := Qy src m o' us hseg
  have hld : (loadCells ⟨r', o', none⟩ m).run P w = .ok us.toArray w := by
    rw [← h1]
    exact run_loadCells_list w ⟨r', o', none⟩ us fun j v hj => by
      rw [Ao]
      exact hw.cell hm (h2 j v hj)
  have hw0 : w.heap[r]? = some (.cells l.toArray T (0, 0)) := hw.own _ hL
  obtain ⟨w', g1, g2, g3, g4, g5, g6, g7⟩ := Ma (P := P) (r := r) (k := o) (T := T) us l 0 w hw0 ho (by simpa using hk)
  subst hl
  refine ⟨(), w', ?_, ⟨g5, g6, g7, by omega, fun j _ hj => g3 j (fun e => hj (by subst e; simp [keys])), fun p hp => ?_, fun p hp => .inl ?_, by simp [keys]⟩, trivial⟩
  · simp [Em, execOp, resolve, invoke, builtin, ha.eval hx, ha.eval hy, Builtin.copy_, hU, hS, Builtin.lenOf, hn, Builtin.firstCells, hld, g1, goInt]
  · have : p = (r, .cells (Fb l (o + 0) us).toArray T) := by simpa using hp
    subst this
    simpa using g2
  · have : p = (r, .cells (Fb l (o + 0) us).toArray T) := by simpa using hp
    subst this
    simp [keys]
theorem xJ {t e : TypeId} {x y : Operand} {r r' o o' n n' c c' m : Nat} {l l' us src : List Value} {T' T2 : TypeId} {f' : Nat × Nat} {R : Am} {lo : List (Bool × Oper)} (hU : ∀ w, (underlying t).run P w = .ok (.slice e) w) (hS : ∀ w, (sizeOf e).run P w = .ok 1 w)
    (hV : List.Perm V ((r, Obj.cells l.toArray T2) :: R)) (hm : (r', Obj.cells src.toArray T' f') ∈ V) (hx : ev E x = some (.slice (some ⟨r, o, none⟩) n c) := by rfl) (hy : ev E y = some (.slice (some ⟨r', o', none⟩) n' c') := by rfl) (hn : Nat.min n' n = m := by rfl) (hseg : oV src o' m = some us := by rfl) (hl : Fb l o us = l' := by rfl) (ho : Ku us = true := by rfl) (hk : Nat.ble (o + us.length) l.length = true := by rfl) (hd : Nat.blt d N = true := by rfl)
    (k : JD P rd b0 Mk N D ops L ((r, Obj.cells l'.toArray T2) :: R) ((d, .int .i64 m) :: E) lo T) :
    JD P rd b0 Mk N D ops L V E ((false, { dst := some d, op := .call { callee := .builtin .copy, args := #[x, y], argTypes := #[t, t] }, type := ty, pos := pos, after := after, guard := none }) :: lo) T :=
  L6 (H := [(r, Obj.cells l.toArray T2)]) hV (M9 hU hS hx hy (List.mem_append_left _ (hV.mem_iff.2 List.mem_cons_self)) (List.mem_append_left _ hm) hn hseg hl ho hk) rfl hd (fun _ _ => k)
theorem kG : ∀ (us l : List Value), us.length ≤ l.length → Fb l 0 us = us ++ l.drop us.length
  | [], l, _ => by cases l <;> simp [Fb]
  | u :: us, [], h => by simp at h
  | u :: us, c :: r, h => by
    simp only [Fb]
    rw [kG us r (by simpa using h)]
    simp
theorem N0 {t e s' : TypeId} {x y : Operand} {r n c : Nat} {s : Ai} {xs : List Int} {T : TypeId} (hU : ∀ w, (underlying t).run P w = .ok (.slice e) w) (hS : ∀ w, (sizeOf e).run P w = .ok 1 w) (hx : ev E x = some (.slice (some ⟨r, 0, none⟩) n c)) (hy : ev E y = some (.string (bs s)))
    (hL : (r, Obj.cells (aI .u8 xs).toArray T) ∈ L) (hn : xs.length = n) :
    Rb P N D b0 Mk L E (.call { callee := .builtin .copy, args := #[x, y], argTypes := #[t, s'] }) ty [(r, .cells (aI .u8 xs).toArray T)] Unit (fun _ => .value (.int .i64 (min s.length n : Nat))) (fun _ => [(r, .cells (aI .u8 (Je (s.take n) ++ xs.drop s.length)).toArray T)]) (fun _ => True) := fun a w ha hw => by
  subst hn
  have hw0 : w.heap[r]? = some (.cells (aI .u8 xs).toArray T (0, 0)) := hw.own _ hL
  have hbs : (bs s).size = s.length := Ha s
  have hmin : Nat.min s.length xs.length = min s.length xs.length := rfl
  have hc : (Builtin.firstCells 1 (min s.length xs.length) (.string (bs s))).run P w = .ok (aI .u8 (Je (s.take xs.length))).toArray w := by
    have hd : ((bs s).extract 0 (min s.length xs.length)).data.toList = s.take xs.length := by
      simp [bs]
      omega
    have : (((bs s).extract 0 (min s.length xs.length)).data.map fun b => Value.int .u8 b.toNat) = (aI .u8 (Je (s.take xs.length))).toArray := by
      apply Array.ext'
      rw [Array.toList_map, hd]
      simp [aI, Je, List.map_map]
      rfl
    simp only [Builtin.firstCells]
    rw [this]
    simp
  obtain ⟨w', g1, g2, g3, g4, g5, g6, g7⟩ := Ma (P := P) (r := r) (k := 0) (T := T) (aI .u8 (Je (s.take xs.length))) (aI .u8 xs) 0 w hw0 Wo (by simp [Fu, Ce]; omega)
  have hset : Fb (aI .u8 xs) (0 + 0) (aI .u8 (Je (s.take xs.length))) = aI .u8 (Je (s.take xs.length) ++ xs.drop s.length) := by
    rw [Nat.zero_add, kG _ _ (by simp [Fu, Ce]; omega)]
    have hl : (aI .u8 (Je (s.take xs.length))).length = min xs.length s.length := by rw [Fu, Ce, List.length_take]
    rw [hl]
    simp only [aI, List.map_append, List.map_drop]
    congr 1
    rcases Nat.le_total xs.length s.length with h | h
    · rw [Nat.min_eq_left h, List.drop_of_length_le Hs, List.drop_of_length_le (by simpa using h)]
    · rw [Nat.min_eq_right h]
  rw [hset] at g2
  refine ⟨(), w', ?_, ⟨g5, g6, g7, by omega, fun j _ hj => g3 j (fun e => hj (by subst e; simp [keys])), fun p hp => ?_, fun p hp => .inl ?_, by simp [keys]⟩, trivial⟩
  · simp [Em, execOp, resolve, invoke, builtin, ha.eval hx, ha.eval hy, Builtin.copy_, hU, hS, Builtin.lenOf, hbs, hmin, hc, g1, goInt]
  · have : p = (r, .cells (aI .u8 (Je (s.take xs.length) ++ xs.drop s.length)).toArray T) := by simpa using hp
    subst this
    exact g2
  · have : p = (r, .cells (aI .u8 (Je (s.take xs.length) ++ xs.drop s.length)).toArray T) := by simpa using hp
    subst this
    simp [keys]
theorem xK {t e s' : TypeId} {x y : Operand} {r n c : Nat} {s : Ai} {xs : List Int} {T2 : TypeId} {R : Am} {lo : List Oper} (hU : ∀ w, (underlying t).run P w = .ok (.slice e) w) (hS : ∀ w, (sizeOf e).run P w = .ok 1 w) (hL : List.Perm L ((r, Obj.cells (aI .u8 xs).toArray T2) :: R)) (hn : xs.length = n)
    (hx : ev E x = some (.slice (some ⟨r, 0, none⟩) n c) := by rfl) (hy : ev E y = some (.string (bs s)) := by rfl)
    (k : JL P rd b0 Mk N D ops ((r, Obj.cells (aI .u8 (Je (s.take n) ++ xs.drop s.length)).toArray T2) :: R) ((d, .int .i64 (min s.length n : Nat)) :: E) lo T) (hd : Nat.blt d N = true := by rfl) :
    JL P rd b0 Mk N D ops L E ({ dst := some d, op := .call { callee := .builtin .copy, args := #[x, y], argTypes := #[t, s'] }, type := ty, pos := pos, after := after, guard := none } :: lo) T :=
  nF (H := [(r, Obj.cells (aI .u8 xs).toArray T2)]) hL (N0 hU hS hx hy (hL.mem_iff.2 List.mem_cons_self) hn) rfl hd (fun _ _ => k)
theorem sK {v : Value} {l : List Oper} {n f : Nat} {listed : Array Bool} {i : Nat} (hi : l[i]? = some { dst := some d, op := op, type := ty, pos := pos, after := after, guard := none }) (h : Cm P N D b0 Mk L E op ty v) (hn : Be op = true := by rfl) (hd : Nat.blt d N = true := by rfl)
    (k : JG P rd b0 Mk N D l n f (listed.setIfInBounds i true) L V ((d, v) :: E) T) : JO P rd b0 Mk N D l n f listed L V E T i :=
  AU6 (X := Unit) (v := fun _ => v) (B := fun _ => []) hi (fun a w ha hw => ⟨(), w, h a w ha hw, Dz.of_ext (Below.refl _ _)⟩) hn hd fun _ => k
end
end Go.Proofs.YtdnjanhdnibkfaaGreatDoor.Jd

namespace Go.Proofs.YtdnjanhdnibkfaaGreatDoor.Jd
open Go.Proofs.Tryz
open Go.RowKit (Below)
set_option linter.unusedVariables false
set_option linter.unusedSimpArgs false
def Me {κ : Type} (enc : κ → Value) (es : Array MapEntry) (xs : List κ) : Prop := Hg enc es (xs.map fun q => (q, Value.bool true))
theorem Me.nil {κ : Type} {enc : κ → Value} : Me enc #[] [] := rfl
theorem dV {κ : Type} [DecidableEq κ] (q : κ) : ∀ (xs : List κ), (Jg (xs.map fun q => (q, Value.bool true)) q).getD (.bool false) = .bool (decide (q ∈ xs))
  | [] => by simp [Jg]
  | x :: r => by
    have ih := dV q r
    by_cases h : x = q
    · subst h; simp [Jg]
    · have h' : ¬ q = x := fun e => h e.symm
      simp only [Jg, List.map_cons, List.find?_cons, h, decide_false] at ih ⊢
      rw [ih]
      simp [h']
theorem xL : Mb (κ := Ai) .string (fun s => .string (bs s)) := by
  refine ⟨fun x y => ?_, fun n t x P w h => ?_⟩
  · simp only [Instr.sameNow]
    rw [beq_toListBytes, Lk, Lk]
    by_cases hh : x = y <;> simp [hh]
  · show (do match ← underlying t, Value.string (bs x) with | _, _ => _ : Sem Unit).run P w = _
    simp only [Sem.run_bind, h, Result.andThen_ok, Sem.run_pure]
theorem N1 (a b : Int) : 0 ≤ Fr .u8 a b ∧ Fr .u8 a b ≤ 255 := by
  unfold Fr
  simp only [IntKind.wrap, IntKind.bits, IntKind.signed]
  simp
  omega
theorem Nd (a b : Int) : -9223372036854775808 ≤ Fr .u8 a b ∧ Fr .u8 a b ≤ 9223372036854775807 := by
  have := N1 a b
  omega
section
variable {P : Program} {rd : Option Nat} {b0 : World} {Mk : List Nat} {N : Nat} {D : List Deferred} {ops : Array Oper} {L V : Am} {E : Eg} {T : Act → World → Prop}
variable {op : Op} {ty : TypeId} {pos : String} {after : Array Edge} {d : Nat}
theorem Ux {κ : Type} [DecidableEq κ] {kd : TypeDesc} {enc : κ → Value} {t kt et : TypeId} {x y : Operand} {r ck : Nat} {es : Array MapEntry} {xs : List κ} (q : κ) (hk : Mb kd enc) (hU : ∀ w, (underlying t).run P w = .ok (.map kt et) w) (hK : ∀ w, (underlying kt).run P w = .ok kd w)
    (hz : ∀ w, (zeroValue et).run P w = .ok (.bool false) w) (hes : Me enc es xs) (hx : ev E x = some (.map (some r)) := by rfl) (hy : ev E y = some (enc q) := by rfl)
    (hm : (r, Obj.map es ck) ∈ L := by repeat (first | exact List.mem_cons_self | apply List.mem_cons_of_mem | apply List.mem_append_right)) :
    Cm P N D b0 Mk L E (.lookup t x y false) ty (.bool (decide (q ∈ xs))) := by
  have := wS (P := P) (N := N) (D := D) (b0 := b0) (Mk := Mk) (L := L) (E := E) (ty := ty) (t := t) q hk hU hK hz hes hx hy hm
  rw [dV] at this
  exact this
theorem Lh {l : List Oper} (h : JL P rd b0 Mk N D ops L E l T) : JD P rd b0 Mk N D ops L [] E [] (fun a w => Mn P rd ops T l a w) := Pf h
theorem AO5 {l : List (Bool × Oper)} {H R : Am} {X : Type} {H' : X → Am} {Pr : X → Prop} (hV : List.Perm V (H ++ R)) (h : Rb P N D b0 Mk (V ++ L) E op ty H X (fun _ => .skip) H' Pr) (hn : Be op = true := by rfl)
    (k : ∀ x, Pr x → JD P rd b0 Mk N D ops L (H' x ++ R) E l T) : JD P rd b0 Mk N D ops L V E ((false, { dst := none, op := op, type := ty, pos := pos, after := after, guard := none }) :: l) T := by
  intro a w ha hw
  unfold Qx
  rw [if_pos (by rfl)]
  obtain ⟨x, w', h1, h2, h3⟩ := h a w ha hw
  have hw2 : SH b0 Mk (H ++ (R ++ L)) w := by rw [← List.append_assoc]; exact hw.perm (hV.append_right L)
  have hw3 : SH b0 Mk ((H' x ++ R) ++ L) w' := by rw [List.append_assoc]; exact hw2.tr h2
  exact Jq (Bf hn) uD ⟨SH b0 Mk L, fun _ h => h, hw3.right, k x h3 _ _ ha hw3⟩
theorem Yx {κ : Type} [DecidableEq κ] {kd : TypeDesc} {enc : κ → Value} {t kt et : TypeId} {x y u : Operand} {r ck : Nat} {es : Array MapEntry} {xs : List κ} {R : Am} {l : List Oper} (q : κ) (hk : Mb kd enc) (hU : ∀ w, (underlying t).run P w = .ok (.map kt et) w) (hK : ∀ w, (underlying kt).run P w = .ok kd w)
    (hes : Me enc es xs) (hnew : ¬ q ∈ xs) (hL : List.Perm L ((r, Obj.map es ck) :: R)) (hx : ev E x = some (.map (some r)) := by rfl) (hy : ev E y = some (enc q) := by rfl) (hu : ev E u = some (.bool true) := by rfl)
    (k : ∀ es2 ck2, Me enc es2 (xs ++ [q]) → JL P rd b0 Mk N D ops ((r, Obj.map es2 ck2) :: R) E l T) :
    JL P rd b0 Mk N D ops L E ({ dst := none, op := .mapUpdate t x y u, type := ty, pos := pos, after := after, guard := none } :: l) T :=
  AC8 q hk hU hK hes (by simp only [List.mem_map]; rintro p ⟨z, hz, rfl⟩ e; exact hnew (e ▸ hz)) hL hx hy hu (fun es2 ck2 h => k es2 ck2 (by simpa [Me] using h))
theorem N2 {κ : Type} [DecidableEq κ] {kd : TypeDesc} {enc : κ → Value} {t kt et : TypeId} {x y u : Operand} {r ck : Nat} {es : Array MapEntry} {xs : List κ} {R : Am} {l : List (Bool × Oper)} (q : κ) (hk : Mb kd enc) (hU : ∀ w, (underlying t).run P w = .ok (.map kt et) w) (hK : ∀ w, (underlying kt).run P w = .ok kd w)
    (hes : Me enc es xs) (hnew : ¬ q ∈ xs) (hV : List.Perm V ((r, Obj.map es ck) :: R)) (hx : ev E x = some (.map (some r)) := by rfl) (hy : ev E y = some (enc q) := by rfl) (hu : ev E u = some (.bool true) := by rfl)
    (k : ∀ es2 ck2, Me enc es2 (xs ++ [q]) → JD P rd b0 Mk N D ops L ((r, Obj.map es2 ck2) :: R) E l T) :
    JD P rd b0 Mk N D ops L V E ((false, { dst := none, op := .mapUpdate t x y u, type := ty, pos := pos, after := after, guard := none }) :: l) T :=
  AO5 (H := [(r, Obj.map es ck)]) hV (wT q hk hU hK hes (by simp only [List.mem_map]; rintro p ⟨z, hz, rfl⟩ e; exact hnew (e ▸ hz)) hx hy hu (List.mem_append_left _ (hV.mem_iff.2 List.mem_cons_self))) rfl (fun x hq => k x.1 x.2 (by simpa [Me] using hq))
theorem dW {t : TypeId} {x : Operand} {v : Value} {u : TypeDesc} (hU : P.underlying t = some u) (hx : ev E x = some v := by rfl) (hu : ∀ ms, u ≠ .interface ms := by intro ms h; cases h) : Cm P N D b0 Mk L E (.makeInterface t x) ty (.iface t v) := fun a w ha _ => by
  cases u with
  | interface ms => exact absurd rfl (hu ms)
  | _ => simp [Em, execOp, ha.eval hx, Instr.makeInterface, run_underlying hU]
end
end Go.Proofs.YtdnjanhdnibkfaaGreatDoor.Jd

namespace Go.Proofs.YtdnjanhdnibkfaaGreatDoor.Jd
open Go.Proofs.Tryz
open Go.ChangeShapes Go.WideShapes Go.ChangeAt Go.RowKit
set_option linter.unusedVariables false
set_option linter.unusedSimpArgs false
theorem gG {P : Program} (w0 : World) {laid : List (String × DataW Unit)} (args : Array Value)
    (hf : w0.layFits P laid [] = true) (hi : w0.layIfaces P laid (w0.layVars P laid) = true) :
    laidMet P laid ((w0.layVars P laid).forCall (fun _ _ => 0) ⟨#[], args, []⟩).memory := by
  have e1 : (laid.filter fun x => (laid.map (·.1)).contains x.1) = laid := List.filter_eq_self.2 fun x hx => List.contains_iff_mem.2 (List.mem_map.2 ⟨x, hx, rfl⟩)
  have e2 : (laid.filter fun x => !(laid.map (·.1)).contains x.1) = [] := List.filter_eq_nil_iff.2 fun x hx => by rw [List.contains_iff_mem.2 (List.mem_map.2 ⟨x, hx, rfl⟩)]; simp
  have h : laidMet P laid (w0.layVars P laid) := laidMet_layVars (w0 := w0) (laid.map (·.1)) [] (by rw [e1]) (by rw [e1]; exact hf) (by rw [e1]; exact hi) (by rw [e2]; exact LaidIn.none)
  exact h.of_heap (by simp [World.memory, World.forCall, Input.heap])
theorem sL {P : Program} {l : List (String × DataW Unit)} {W : World} {n : String} {d : DataW Unit} {g R t ng N : Nat} {nm : List UInt8} (h : handlesMet P l W) (hm : (n, d) ∈ l) (hn : d.handleName? = some nm) (hf : d.funcsIn? = none) (hg : P.globalNamed n = some g)
    (hR : (P.cutTypes.find? (·.1 == "internal/reflectlite.rtype")).map (·.2) = some R) (hN : P.types.size = N) (hone : ((List.range N).filter fun t => P.rowNamed t nm) = [t]) (hh : typeHandle P t = .pointer (some ⟨ng, t, none⟩)) :
    W.cell? ⟨g, 0, none⟩ = some (.iface R (.agg #[.pointer (some ⟨ng, t, none⟩)])) := by
  have h1 := h _ hm
  simp only [hf] at h1
  obtain ⟨name, u, ty, e1, e2, e3, e4, e5⟩ := h1
  rw [hn] at e1
  have en := Option.some.inj e1
  subst en
  obtain rfl := Option.some.inj (hR.symm.trans e2)
  have hmm : ty ∈ (List.range N).filter fun t => P.rowNamed t nm := List.mem_filter.2 ⟨List.mem_range.2 (by rw [← hN]; exact e3), e4⟩
  rw [hone] at hmm
  obtain rfl := List.mem_singleton.1 hmm
  rw [hh] at e5
  simpa using World.var?_cell hg e5 0
end Go.Proofs.YtdnjanhdnibkfaaGreatDoor.Jd

namespace Go.Proofs.YtdnjanhdnibkfaaGreatDoor.Jd
open Go.Proofs.Tryz
open Go.RowKit (Below)
set_option linter.unusedVariables false
set_option linter.unusedSimpArgs false
def Ky (a : Option Addr) (k lo c : Nat) : Option Addr := if c = lo then a else a.map fun x => x.add (lo * k)
theorem Sl.off {w : World} {α : Type} {enc : α → List Value} {k : Nat} {a : Option Addr} {xs : List α} (h : Sl w enc k a xs) (lo c : Nat) (hc : xs.length ≤ c) : Sl w enc k (Ky a k lo c) (xs.drop lo) := fun i x hx => by
  rw [List.getElem?_drop] at hx
  have hlt := (List.getElem?_eq_some_iff.1 hx).1
  obtain ⟨b, off, rfl, h2, h3⟩ := h _ _ hx
  refine ⟨b, off + lo * k, ?_, h2, fun j v hv => ?_⟩
  · simp only [Ky]
    rw [if_neg z8, Option.map_some, Ao]
  · have := h3 j v hv
    rw [Nat.add_mul] at this
    rw [show off + lo * k + i * k + j = off + (lo * k + i * k) + j by omega]
    exact this
section
variable {b0 : World} {Mk : List Nat} {B L : Am} {α : Type} {enc : α → List Value} {k : Nat} {a : Option Addr} {xs : List α}
theorem Ch.off (h : Ch b0 Mk L enc k a xs) (lo c : Nat) (hc : xs.length ≤ c) : Ch b0 Mk L enc k (Ky a k lo c) (xs.drop lo) := fun w hw => (h w hw).off lo c hc
theorem nL.off (h : nL b0 B enc k a xs) (lo c : Nat) (hc : xs.length ≤ c) : nL b0 B enc k (Ky a k lo c) (xs.drop lo) := fun w he hw => (h w he hw).off lo c hc
theorem SH.notIn {w : World} {r : Nat} {o : Obj} {R : Am} {β : Type} {ys : List β} (h : SH b0 Mk L w) (hp : List.Perm L ((r, o) :: (B ++ R))) : ∀ m ∈ keys B, oY (some (⟨r, 0, none⟩ : Addr)) ys m := fun m hm p hp' _ e => by
  cases hp'
  have hn := (h.perm hp).nd
  simp only [List.map_cons, List.nodup_cons, List.map_append, List.mem_append] at hn
  have e' : m = r := e
  subst e'
  exact hn.1 (.inl hm)
theorem Bi.nd {e : TypeId} {c : Nat} (h : Bi enc k e a c B xs) : (B.map Prod.fst).Nodup := by
  rcases h with ⟨_, rfl, _⟩ | ⟨r, cur, fz, _, rfl, _⟩ <;> simp
end
section
variable {P : Program} {rd : Option Nat} {b0 : World} {Mk : List Nat} {N : Nat} {D : List Deferred} {ops : Array Oper} {L V : Am} {E : Eg} {T : Act → World → Prop}
variable {op : Op} {ty : TypeId} {pos : String} {after : Array Edge} {d : Nat}
theorem Gh {t e k : TypeId} {x y : Operand} {a : Option Addr} {n c : Nat} {i : Int} {ki : IntKind} (lo m : Nat) (hU : ∀ w, (underlying t).run P w = .ok (.slice e) w) (hS : ∀ w, (sizeOf e).run P w = .ok k w) (hlo : lo ≤ n) (hnc : n ≤ c) (hm : m = n - lo) (hx : ev E x = some (.slice a n c) := by rfl) (hy : ev E y = some (.int ki i) := by rfl) (hi : i = (lo : Int) := by first | rfl | omega) :
    Cm P N D b0 Mk L E (.slice t x (some y) none none) ty (.slice (Ky a k lo c) m (c - lo)) := fun ac w ha _ => by
  subst hi hm
  simp [Em, execOp, ha.eval hx, ha.eval hy, Instr.sliceAt, hU, Instr.slice, Instr.sliceBounds, Instr.sliceBound, asIntOf, hlo, hS w, Ky]
theorem xM {t e : TypeId} {x : Operand} {a : Option Addr} {n c : Nat} (hU : ∀ w, (underlying t).run P w = .ok (.slice e) w) (hx : ev E x = some (.slice a n c) := by rfl) :
    Cm P N D b0 Mk L E (.call { callee := .builtin .cap, args := #[x], argTypes := #[t] }) ty (.int .i64 c) := fun ac w ha _ => by
  simp [Em, execOp, resolve, invoke, builtin, ha.eval hx, Builtin.cap_, hU, goInt]
theorem dX {α : Type} {enc : α → List Value} {k by_ : Nat} {t e : TypeId} {z : Value} {x y : Operand} {a a' : Option Addr} {c c' dn dc sn : Nat} {B : Am} {xs ys : List α} (lo q : Nat) (hT : Ty P e k by_ z) (hU : P.underlying t = some (.slice e)) (hE : Dm enc k) (ho : Bi enc k e a c B xs)
    (hs : Ch b0 Mk L enc k a' ys) (hB : ∀ p ∈ B, p ∈ L) (hq : q = min sn dn) (hqy : q ≤ ys.length) (hlo : lo ≤ xs.length) (hc : lo + q ≤ c) (hx : ev E x = some (.slice (Ky a k lo c) dn dc) := by rfl) (hy : ev E y = some (.slice a' sn c') := by rfl) :
    Rb P N D b0 Mk L E (.call { callee := .builtin .copy, args := #[x, y], argTypes := #[t, t] }) ty B Am (fun _ => .value (.int .i64 q)) (fun h => h) (fun h => Bi enc k e a c h (xs.take lo ++ ys.take q ++ xs.drop (lo + q))) := by
  intro ac w ha hw
  obtain ⟨i, hi, rfl, rfl, hz⟩ := hT.ex
  have Ns : ∀ (v' : Value) (w' : World), (Builtin.copy_ #[t, t] ty #[.slice (Ky a i.size lo c) dn dc, .slice a' sn c']).run P w = .ok v' w' →
      (execOp ac.eval (Em (.call { callee := .builtin .copy, args := #[x, y], argTypes := #[t, t] }) ty)).run P w = .ok (.value v') w' := fun v' w' h => by
    simp [Em, execOp, resolve, invoke, builtin, ha.eval hx, ha.eval hy, h]
  have hsl := hs w hw
  have hmin : Nat.min sn dn = q := hq.symm
  have hle : xs.length ≤ c := ho.le'
  by_cases hq0 : q = 0
  · have e0 : xs.take lo ++ ys.take q ++ xs.drop (lo + q) = xs := by rw [hq0]; simp
    rw [e0]
    refine ⟨B, w, Ns _ _ ?_, Tr.refl (fun p hp => hw.own p (hB p hp)) ho.nd, ho⟩
    have hf : ∀ v, (Builtin.firstCells i.size 0 v).run P w = .ok #[] w ∨ True := fun _ => .inr trivial
    rw [hq0] at hmin ⊢
    rcases Ky a i.size lo c with _ | ad <;> rcases a' with _ | ad' <;> simp [Builtin.copy_, run_underlying hU, Builtin.lenOf, Builtin.firstCells, sizeOf, typeInfo, hi, hmin, loadCells, loadCellsFrom, storeCells, goInt]
  · rcases ho with ⟨rfl, rfl, rfl⟩ | ⟨r, cur, fz, rfl, rfl, hfz, h1, h2, h3⟩
    · omega
    · have hh : w.heap[r]? = some (.cells cur e fz) := hw.own _ (hB _ List.mem_cons_self)
      have hyn : (ys.take q).length = q := by rw [List.length_take]; omega
      have hfl : (Dx enc (ys.take q)).length = q * i.size := by rw [Ck hE, hyn]
      have hle2 : lo * i.size + q * i.size ≤ c * i.size := by rw [← Nat.add_mul]; exact Nat.mul_le_mul_right _ hc
      have hst := Fj P r (lo * i.size) e fz (Dx enc (ys.take q)) 0 cur w hh hfz (by rw [hfl]; omega) (Uq hE _)
      have hoff : Ky (some (⟨r, 0, none⟩ : Addr)) i.size lo c = some ⟨r, lo * i.size, none⟩ := by
        simp only [Ky]; rw [if_neg z8, Option.map_some, Ao, Nat.zero_add]
      obtain ⟨y0, hy0⟩ : ∃ y0, ys[0]? = some y0 := ⟨_, List.getElem?_eq_getElem z8⟩
      obtain ⟨b1, o1, rfl, _, _⟩ := hsl 0 y0 hy0
      have hl : (loadCells ⟨b1, o1, none⟩ (q * i.size)).run P w = .ok (Dx enc (ys.take q)).toArray w := by
        rw [← hfl]
        exact run_loadCells_list w _ _ (Sl.cells hE hsl q hqy)
      refine ⟨[(r, .cells (cur.toList.take (lo * i.size + 0) ++ Dx enc (ys.take q) ++ cur.toList.drop (lo * i.size + 0 + (Dx enc (ys.take q)).length)).toArray e fz)], _, Ns _ _ ?_, Wj hh, Bi.fullF ?_ ?_ ?_ ?_⟩
      · rw [hoff]
        simp [Builtin.copy_, run_underlying hU, Builtin.lenOf, Builtin.firstCells, sizeOf, typeInfo, hi, hmin, hl, hst, goInt]
      · refine hfz.imp id fun h => Nat.le_trans (Nat.le_of_eq ?_) h
        simp only [List.size_toArray, List.length_append, List.length_take, List.length_drop, Array.length_toList, hfl, h2]; omega
      · simp only [List.length_append, List.length_take, List.length_drop]; omega
      · simp only [List.size_toArray, List.length_append, List.length_take, List.length_drop, Array.length_toList, hfl, h2]; omega
      · have hA : cur.toList.take (lo * i.size) = Dx enc (xs.take lo) := by
          have := congrArg (List.take (lo * i.size)) h3
          rw [List.take_take, Nat.min_eq_left (Nat.mul_le_mul_right _ hlo)] at this
          rw [this]
          have hl : Dx enc xs = Dx enc (xs.take lo) ++ Dx enc (xs.drop lo) := by rw [← Gp, List.take_append_drop]
          rw [hl, List.take_left' (by rw [Ck hE, List.length_take]; congr 1; omega)]
        simp only [List.toList_toArray, Nat.add_zero, hfl]
        rw [hA, Gp, Gp]
        by_cases hlong : lo + q ≤ xs.length
        · have hD : (cur.toList.drop (lo * i.size + q * i.size)).take ((xs.length - (lo + q)) * i.size) = Dx enc (xs.drop (lo + q)) := by
            have := congrArg (List.drop ((lo + q) * i.size)) h3
            rw [List.drop_take, ← Nat.sub_mul] at this
            rw [← Nat.add_mul, this]
            have hl : Dx enc xs = Dx enc (xs.take (lo + q)) ++ Dx enc (xs.drop (lo + q)) := by rw [← Gp, List.take_append_drop]
            rw [hl, List.drop_left' (by rw [Ck hE, List.length_take]; congr 1; omega)]
          have hlen : (xs.take lo ++ ys.take q ++ xs.drop (lo + q)).length * i.size = (Dx enc (xs.take lo) ++ Dx enc (ys.take q)).length + (xs.length - (lo + q)) * i.size := by
            rw [@List.length_append _ (Dx enc (xs.take lo)), hfl, Ck hE]
            simp only [List.length_append, List.length_drop, Nat.add_mul, hyn]
          rw [hlen, List.take_length_add_append, hD]
        · have hd : xs.drop (lo + q) = [] := List.drop_eq_nil_of_le z8
          rw [hd]
          simp only [Dx, List.map_nil, List.flatten_nil, List.append_nil]
          rw [List.take_left' (by
            have h5 : (List.map enc (List.take lo xs)).flatten.length = (xs.take lo).length * i.size := Ck hE _
            have h6 : (List.map enc (List.take q ys)).flatten.length = (ys.take q).length * i.size := Ck hE _
            rw [List.length_append, List.length_append, h5, h6, Nat.add_mul])]
theorem bB {α : Type} {enc : α → List Value} {k by_ : Nat} {t e : TypeId} {z : Value} {x y : Operand} {a a' : Option Addr} {c c' dn dc sn : Nat} {B R : Am} {xs ys : List α} {l : List Oper} (lo q : Nat) (zs : List α) (hz : xs.take lo ++ ys.take q ++ xs.drop (lo + q) = zs) (hT : Ty P e k by_ z) (hU : P.underlying t = some (.slice e)) (hE : Dm enc k) (ho : Bi enc k e a c B xs) (hL : List.Perm L (B ++ R))
    (hs : Ch b0 Mk L enc k a' ys) (hq : q = min sn dn) (hqy : q ≤ ys.length) (hlo : lo ≤ xs.length) (hc : lo + q ≤ c) (hx : ev E x = some (.slice (Ky a k lo c) dn dc) := by rfl) (hy : ev E y = some (.slice a' sn c') := by rfl) (hd : Nat.blt d N = true := by rfl)
    (kk : ∀ B2, Bi enc k e a c B2 zs → JL P rd b0 Mk N D ops (B2 ++ R) ((d, .int .i64 q) :: E) l T) :
    JL P rd b0 Mk N D ops L E ({ dst := some d, op := .call { callee := .builtin .copy, args := #[x, y], argTypes := #[t, t] }, type := ty, pos := pos, after := after, guard := none } :: l) T :=
  nF hL (dX lo q hT hU hE ho hs (fun p hp => hL.mem_iff.2 (List.mem_append_left _ hp)) hq hqy hlo hc hx hy) rfl hd (fun h hh => kk h (hz ▸ hh))
theorem bC {α : Type} {enc : α → List Value} {k by_ : Nat} {t e : TypeId} {z : Value} {x y : Operand} {a a' : Option Addr} {c c' dn dc sn : Nat} {B R : Am} {xs ys : List α} {l : List (Bool × Oper)} (lo q : Nat) (zs : List α) (hz : xs.take lo ++ ys.take q ++ xs.drop (lo + q) = zs) (hT : Ty P e k by_ z) (hU : P.underlying t = some (.slice e)) (hE : Dm enc k) (ho : Bi enc k e a c B xs) (hV : List.Perm V (B ++ R))
    (hs : Ch b0 Mk (V ++ L) enc k a' ys) (hq : q = min sn dn) (hqy : q ≤ ys.length) (hlo : lo ≤ xs.length) (hc : lo + q ≤ c) (hx : ev E x = some (.slice (Ky a k lo c) dn dc) := by rfl) (hy : ev E y = some (.slice a' sn c') := by rfl) (hd : Nat.blt d N = true := by rfl)
    (kk : ∀ B2, Bi enc k e a c B2 zs → JD P rd b0 Mk N D ops L (B2 ++ R) ((d, .int .i64 q) :: E) l T) :
    JD P rd b0 Mk N D ops L V E ((false, { dst := some d, op := .call { callee := .builtin .copy, args := #[x, y], argTypes := #[t, t] }, type := ty, pos := pos, after := after, guard := none }) :: l) T :=
  L6 hV (dX lo q hT hU hE ho hs (fun p hp => List.mem_append_left _ (hV.mem_iff.2 (List.mem_append_left _ hp))) hq hqy hlo hc hx hy) rfl hd (fun h hh => kk h (hz ▸ hh))
theorem Re {α : Type} {enc : α → List Value} {k : Nat} {z : Value} {x0 : α} (hE : Dm enc k) (hz : Cp z = enc x0) (n : Nat) : (Builtin.zeroCells z.cells n).toList = Dx enc (List.replicate n x0) := by
  have h := dQ hE hz n
  have hs : z.cells.size = k := by rw [Ft, hz]; simpa using hE.len x0
  have e : Builtin.zeroCells z.cells n = madeCells z.cells (n * k) := by rw [← hs]; rfl
  rw [e, h]
theorem nP {α : Type} {enc : α → List Value} {k by_ : Nat} {t e : TypeId} {z : Value} {x : Operand} {a : Option Addr} {c dn dc : Nat} {B : Am} {xs : List α} (lo : Nat) {x0 : α} (hT : Ty P e k by_ z) (hZ : ∀ w, (zeroValue e).run P w = .ok z w) (hz0 : Cp z = enc x0) (hU : P.underlying t = some (.slice e)) (hE : Dm enc k) (ho : Bi enc k e a c B xs)
    (hB : ∀ p ∈ B, p ∈ L) (hlo : xs.length ≤ lo) (hc : lo + dn ≤ c) (hx : ev E x = some (.slice (Ky a k lo c) dn dc) := by rfl) :
    Rb P N D b0 Mk L E (.call { callee := .builtin .clear, args := #[x], argTypes := #[t] }) ty B Am (fun _ => .value (.tuple #[])) (fun h => h) (fun h => Bi enc k e a c h xs) := by
  intro ac w ha hw
  obtain ⟨i, hi, rfl, rfl, hz⟩ := hT.ex
  have hzs := hT.zs
  have Ns : ∀ (v' : Value) (w' : World), (Builtin.clear_ #[t] ty #[.slice (Ky a i.size lo c) dn dc]).run P w = .ok v' w' →
      (execOp ac.eval (Em (.call { callee := .builtin .clear, args := #[x], argTypes := #[t] }) ty)).run P w = .ok (.value v') w' := fun v' w' h => by
    simp [Em, execOp, resolve, invoke, builtin, ha.eval hx, h]
  by_cases hq0 : dn = 0
  · subst hq0
    refine ⟨B, w, Ns _ _ ?_, Tr.refl (fun p hp => hw.own p (hB p hp)) ho.nd, ho⟩
    rcases Ky a i.size lo c with _ | ad <;> simp [Builtin.clear_, run_underlying hU]
  · rcases ho with ⟨rfl, rfl, rfl⟩ | ⟨r, cur, fz, rfl, rfl, hfz, h1, h2, h3⟩
    · omega
    · have hh : w.heap[r]? = some (.cells cur e fz) := hw.own _ (hB _ List.mem_cons_self)
      have hle2 : lo * i.size + dn * i.size ≤ c * i.size := by rw [← Nat.add_mul]; exact Nat.mul_le_mul_right _ hc
      have hzl : (Builtin.zeroCells z.cells dn).toList.length = dn * i.size := by rw [Yl, hzs]
      have hz1 : ∀ v ∈ (Builtin.zeroCells z.cells dn).toList, v.oneCell' = true := fun v hv => by
        rw [Re hE hz0 dn] at hv
        exact Uq hE _ v hv
      have hst := Fj P r (lo * i.size) e fz (Builtin.zeroCells z.cells dn).toList 0 cur w hh hfz (by rw [hzl]; omega) hz1
      have hoff : Ky (some (⟨r, 0, none⟩ : Addr)) i.size lo c = some ⟨r, lo * i.size, none⟩ := by
        simp only [Ky]; rw [if_neg z8, Option.map_some, Ao, Nat.zero_add]
      refine ⟨[(r, .cells (cur.toList.take (lo * i.size + 0) ++ (Builtin.zeroCells z.cells dn).toList ++ cur.toList.drop (lo * i.size + 0 + (Builtin.zeroCells z.cells dn).toList.length)).toArray e fz)], _, Ns _ _ ?_, Wj hh, Bi.fullF ?_ h1 ?_ ?_⟩
      · rw [hoff]
        cases dn with
        | zero => exact absurd rfl hq0
        | succ dn => simp [Builtin.clear_, run_underlying hU, hZ, hst]
      · refine hfz.imp id fun h => Nat.le_trans (Nat.le_of_eq ?_) h
        simp only [List.size_toArray, List.length_append, List.length_take, List.length_drop, Array.length_toList, hzl, h2]; omega
      · simp only [List.size_toArray, List.length_append, List.length_take, List.length_drop, Array.length_toList, hzl, h2]; omega
      · have hm : xs.length * i.size ≤ lo * i.size := Nat.mul_le_mul_right _ hlo
        simp only [List.toList_toArray, Nat.add_zero]
        have hm2 : xs.length * i.size ≤ (List.take (lo * i.size) cur.toList).length := by
          rw [List.length_take]
          have : cur.toList.length = c * i.size := by simpa using h2
          omega
        rw [List.append_assoc, List.take_append_of_le_length hm2, List.take_take, Nat.min_eq_left hm, h3]
theorem kH {α : Type} {enc : α → List Value} {k by_ : Nat} {t e : TypeId} {z : Value} {x : Operand} {a : Option Addr} {c dn dc : Nat} {B R : Am} {xs : List α} {l : List Oper} (lo : Nat) {x0 : α} (hT : Ty P e k by_ z) (hZ : ∀ w, (zeroValue e).run P w = .ok z w) (hz0 : Cp z = enc x0) (hU : P.underlying t = some (.slice e)) (hE : Dm enc k) (ho : Bi enc k e a c B xs) (hL : List.Perm L (B ++ R))
    (hlo : xs.length ≤ lo) (hc : lo + dn ≤ c) (hx : ev E x = some (.slice (Ky a k lo c) dn dc) := by rfl) 
    (kk : ∀ B2, Bi enc k e a c B2 xs → JL P rd b0 Mk N D ops (B2 ++ R) E l T) :
    JL P rd b0 Mk N D ops L E ({ dst := none, op := .call { callee := .builtin .clear, args := #[x], argTypes := #[t] }, type := ty, pos := pos, after := after, guard := none } :: l) T := by
  intro ac w ha hw
  unfold Mn
  rw [if_pos (by rfl)]
  obtain ⟨h, w', h1, h2, h3⟩ := nP (ty := ty) lo hT hZ hz0 hU hE ho (fun p hp => hL.mem_iff.2 (List.mem_append_left _ hp)) hlo hc hx ac w ha hw
  have hE2 : Dk N D E (ac.put none (.tuple #[])) := ha
  exact Df (o := { dst := none, op := .call { callee := .builtin .clear, args := #[x], argTypes := #[t] }, type := ty, pos := pos, after := after, guard := none }) rfl uD (kk h h3 _ _ hE2 ((hw.perm hL).tr h2))
theorem sM {α : Type} {enc : α → List Value} {k by_ : Nat} {t tn e : TypeId} {z : Value} {x0 : α} {x y : Operand} {a : Option Addr} {c n m : Nat} {i : Int} {xs : List α} {kn : IntKind} (hT : Ty P e k by_ z) (hU : P.underlying t = some (.slice e)) (hN : P.underlying tn = some (.int kn)) (hE : Dm enc k) (hz : Cp z = enc x0)
    (hs : Ch b0 Mk L enc k a xs) (hn : xs.length = n) (h0 : 0 < m) (hg : c < n + m) (hb : 2 * (n + m) * by_ ≤ 281474976710656) (hb2 : n + m ≤ 4611686018427387904) (hi : i = (m : Int)) (hx : ev E x = some (.slice a n c) := by rfl) (hy : ev E y = some (.int .i64 i) := by rfl) :
    Rb P N D b0 Mk L E (.call { callee := .builtin .append, args := #[x, y], argTypes := #[t, tn] }) ty [] (Option Addr × Nat × Am) (fun q => .value (.slice q.1 (n + m) q.2.1)) (fun q => q.2.2) (fun q => Bi enc k e q.1 q.2.1 q.2.2 (xs ++ List.replicate m x0)) := by
  intro ac w ha hw
  obtain ⟨i, hi, rfl, rfl, hzz⟩ := hT.ex
  subst hn
  rename_i hi'
  have hzs := hT.zs
  have hk := hE.pos
  subst hi'
  have Ns : ∀ (v' : Value) (w' : World), (Builtin.append_ #[t, tn] ty #[.slice a xs.length c, .int .i64 m]).run P w = .ok v' w' →
      (execOp ac.eval (Em (.call { callee := .builtin .append, args := #[x, y], argTypes := #[t, tn] }) ty)).run P w = .ok (.value v') w' := fun v' w' h => by
    simp [Em, execOp, resolve, invoke, builtin, ha.eval hx, ha.eval hy, h]
  have hsl := hs w hw
  have hnx : Builtin.nextslicecap (xs.length + m) c ≤ 2 * (xs.length + m) := nextslicecap_le hg
  have holds : (Builtin.firstCells i.size xs.length (.slice a xs.length c)).run P w.drew = .ok (Dx enc xs).toArray w.drew := by
    by_cases hx0 : xs = []
    · subst hx0
      rcases a with _ | ad <;> simp [Builtin.firstCells, loadCells, loadCellsFrom, Dx]
    · obtain ⟨y0, hy0⟩ : ∃ y0, xs[0]? = some y0 := ⟨_, List.getElem?_eq_getElem (List.length_pos_iff.2 hx0)⟩
      obtain ⟨b1, o1, rfl, _, _⟩ := hsl 0 y0 hy0
      have h5 := Sl.cells hE hsl xs.length (Nat.le_refl _)
      rw [List.take_length] at h5
      have : ∀ j v, (Dx enc xs)[j]? = some v → w.drew.cell? ((⟨b1, o1, none⟩ : Addr).add j) = some v := fun j v hj => h5 j v hj
      exact run_firstCells_some (P := P) w.drew i.size xs.length _ xs.length c (Dx enc xs) (Ck hE xs) this
  have hbm : m * i.bytes ≤ 281474976710656 := by
    have : m * i.bytes ≤ 2 * (xs.length + m) * i.bytes := Nat.mul_le_mul_right _ z8
    omega
  have hr := Lib.run_append_grow_zeros (P := P) w t tn ty e i z .i64 kn hU hN hi hzz a xs.length c (Dx enc xs) holds m h0 hk hg z8 hbm (Nat.le_trans (Nat.mul_le_mul_right _ hnx) hb)
  refine ⟨(some ⟨w.heap.size, 0, none⟩, grownCap w (xs.length + m) c e, [(w.heap.size, _)]), _, Ns _ _ hr, Yq (Rc (w := w.drew) _), ?_⟩
  · have hge := grownCap_ge w (xs.length + m) c e
    refine Bi.full hE (by simpa using hge) ?_ ?_
    · rw [Array.size_append, Array.size_append, List.size_toArray, Ck hE, size_zeroCells, size_zeroCells, hzs, ← Nat.add_mul, ← Nat.add_mul]
      dsimp only
      congr 1
      omega
    · simp only [Array.toList_append, List.toList_toArray]
      rw [Re hE hz m, List.take_left' (by rw [List.length_append, Ck hE, Ck hE, List.length_append, Nat.add_mul]), Gp]
theorem bD {α : Type} {enc : α → List Value} {kk by_ : Nat} {t tn e : TypeId} {z : Value} {x0 : α} {x y : Operand} {a : Option Addr} {c n m : Nat} {i : Int} {xs : List α} {kn : IntKind} {l : List Oper} (hT : Ty P e kk by_ z) (hU : P.underlying t = some (.slice e)) (hN : P.underlying tn = some (.int kn)) (hE : Dm enc kk) (hz : Cp z = enc x0)
    (hs : Ch b0 Mk L enc kk a xs) (hn : xs.length = n) (h0 : 0 < m) (hg : c < n + m) (hb : 2 * (n + m) * by_ ≤ 281474976710656 ∧ n + m ≤ 4611686018427387904) (hi : i = (m : Int)) (hx : ev E x = some (.slice a n c) := by rfl) (hy : ev E y = some (.int .i64 i) := by rfl) (hd : Nat.blt d N = true := by rfl)
    (k : ∀ a2 c2 B2, Bi enc kk e a2 c2 B2 (xs ++ List.replicate m x0) → JL P rd b0 Mk N D ops (B2 ++ L) ((d, .slice a2 (xs ++ List.replicate m x0).length c2) :: E) l T) :
    JL P rd b0 Mk N D ops L E ({ dst := some d, op := .call { callee := .builtin .append, args := #[x, y], argTypes := #[t, tn] }, type := ty, pos := pos, after := after, guard := none } :: l) T :=
  nF (List.Perm.refl _) (sM hT hU hN hE hz hs hn h0 hg hb.1 hb.2 hi hx hy) rfl hd (fun q hq => by
    have := k q.1 q.2.1 q.2.2 hq
    rwa [List.length_append, List.length_replicate, hn] at this)
theorem Oh {x : Operand} {l : List Operand} {tys : Array TypeId} {k : FuncId} {t : TypeId} {name : String} {v recv : Value} {vs args : List Value} {nm : Nat} (hnm : P.types.size + Made.depth = nm)
    (hm : ∀ w, SH b0 Mk L w → (Go.method nm t v name).run P w = .ok (k, recv) w) (hc : ∀ args w, (callFunc k args).run P w = .ok (.enter k args) w)
    (hx : ev E x = some (.iface t v) := by rfl) (ha : B4 E l = some vs := by rfl) (he : recv :: vs = args := by rfl) :
    Lz P N D b0 Mk L E (.call { callee := .invoke x name, args := l.toArray, argTypes := tys }) ty k args := fun a w h hw => by
  subst he hnm
  have h1 := h.evals ha
  have h2 : (l.toArray.map a.eval) = vs.toArray := by rw [← h1]; simp
  have hme := hm w hw
  have hprog : ∀ w : World, (Go.program).run P w = .ok P w := fun _ => rfl
  simp only [Em, execOp, resolve, Sem.run_bind, Sem.run_pure, Result.andThen_ok, invoke, h2, h.eval hx]
  simp [callMethod, hprog, hme, hc]
end
end Go.Proofs.YtdnjanhdnibkfaaGreatDoor.Jd

namespace Go.Proofs.YtdnjanhdnibkfaaGreatDoor.Jd
open Go.Proofs.Tryz
open Go.RowKit (Below)
set_option linter.unusedVariables false
set_option linter.unusedSimpArgs false
theorem lb {p : Prop} (h : p := by first | omega | (simp only [List.length_append, List.length_take, List.length_drop, List.length_set, List.length_replicate, List.length_cons, List.length_nil, List.length_map, Cq, Ce]; omega) | (simp only [List.length_append, List.length_take, List.length_drop, List.length_set, List.length_replicate, List.length_cons, List.length_nil, List.length_map, Cq, Ce] at *; omega)) : p := h
theorem ix {p : Prop} (h : p := by first | omega | (simp only [List.length_set]; omega) | (simp only [List.length_append, List.length_take, List.length_drop, List.length_set, List.length_replicate, List.length_cons, List.length_nil, List.length_map, Cq, Ce]; omega)) : p := h
theorem se {E E' : Eg} (h : Iq E E' := by repeat (first | exact Iq.nil | refine Iq.cons rfl ?_)) : Iq E E' := h
theorem me {α : Type} {p : α} {l : List α} (h : p ∈ l := by repeat (first | exact List.mem_cons_self | apply List.mem_cons_of_mem | apply List.mem_append_right)) : p ∈ l := h
theorem q0 {l : Am} : List.Perm l l := List.Perm.refl _
theorem qa {x a : Nat × Obj} {t r : Am} (p : List.Perm t (a :: r)) : List.Perm (x :: t) (a :: x :: r) := (List.Perm.cons _ p).trans (List.Perm.swap _ _ _)
theorem qb {x : Nat × Obj} {t r S : Am} (p : List.Perm t (S ++ r)) : List.Perm (x :: t) (S ++ (x :: r)) := (List.Perm.cons _ p).trans List.perm_middle.symm
theorem qc {a : Nat × Obj} {t r S : Am} (p : List.Perm t (a :: r)) : List.Perm (S ++ t) (a :: (S ++ r)) := (List.Perm.append_left _ p).trans List.perm_middle
theorem qd {t r S U : Am} (p : List.Perm t (U ++ r)) : List.Perm (S ++ t) (U ++ (S ++ r)) := (List.Perm.append_left _ p).trans (wV _ _ _)
section
variable {P : Program} {rd : Option Nat} {b0 : World} {Mk : List Nat} {N : Nat} {D : List Deferred} {ops : Array Oper} {L V : Am} {E : Eg} {T : Act → World → Prop}
variable {op : Op} {ty : TypeId} {pos : String} {after : Array Edge} {d : Nat}
theorem Cy {κ : Type} [DecidableEq κ] {kd : TypeDesc} {enc : κ → Value} {t kt et : TypeId} {x y : Operand} {r ck : Nat} {es : Array MapEntry} {l : List (κ × Value)} {z v : Value} (q : κ) (hk : Mb kd enc) (hU : ∀ w, (underlying t).run P w = .ok (.map kt et) w) (hK : ∀ w, (underlying kt).run P w = .ok kd w)
    (hz : ∀ w, (zeroValue et).run P w = .ok z w) (hes : Hg enc es l) (hv : Jg l q = some v) (hx : ev E x = some (.map (some r)) := by rfl) (hy : ev E y = some (enc q) := by rfl)
    (hm : (r, Obj.map es ck) ∈ L := by repeat (first | exact List.mem_cons_self | apply List.mem_cons_of_mem | apply List.mem_append_right)) :
    Cm P N D b0 Mk L E (.lookup t x y true) ty (.tuple [v, .bool true].toArray) := by
  have := aS (N := N) (D := D) (b0 := b0) (Mk := Mk) (ty := ty) q hk hU hK hz hes hx hy hm
  rwa [hv] at this
theorem Pm {κ : Type} [DecidableEq κ] {kd : TypeDesc} {enc : κ → Value} {t kt et : TypeId} {x y : Operand} {r ck : Nat} {es : Array MapEntry} {l : List (κ × Value)} {z : Value} (q : κ) (hk : Mb kd enc) (hU : ∀ w, (underlying t).run P w = .ok (.map kt et) w) (hK : ∀ w, (underlying kt).run P w = .ok kd w)
    (hz : ∀ w, (zeroValue et).run P w = .ok z w) (hes : Hg enc es l) (hv : Jg l q = none) (hx : ev E x = some (.map (some r)) := by rfl) (hy : ev E y = some (enc q) := by rfl)
    (hm : (r, Obj.map es ck) ∈ L := by repeat (first | exact List.mem_cons_self | apply List.mem_cons_of_mem | apply List.mem_append_right)) :
    Cm P N D b0 Mk L E (.lookup t x y true) ty (.tuple [z, .bool false].toArray) := by
  have := aS (N := N) (D := D) (b0 := b0) (Mk := Mk) (ty := ty) q hk hU hK hz hes hx hy hm
  rwa [hv] at this
theorem AO6 {κ : Type} [DecidableEq κ] {kd : TypeDesc} {enc : κ → Value} {t kt et : TypeId} {x y u : Operand} {r ck : Nat} {es : Array MapEntry} {l : List (κ × Value)} {v : Value} (q : κ) (hk : Mb kd enc) (hU : ∀ w, (underlying t).run P w = .ok (.map kt et) w) (hK : ∀ w, (underlying kt).run P w = .ok kd w)
    (hes : Hg enc es l) (hnew : ∀ p ∈ l, p.1 ≠ q) (hx : ev E x = some (.map (some r)) := by rfl) (hy : ev E y = some (enc q) := by rfl) (hu : ev E u = some v := by rfl)
    (hm : (r, Obj.map es ck) ∈ L := by repeat (first | exact List.mem_cons_self | apply List.mem_cons_of_mem | apply List.mem_append_right)) :
    Rb P N D b0 Mk L E (.insert t x y u) ty [(r, .map es ck)] (Array MapEntry × Nat) (fun _ => .skip) (fun x => [(r, .map x.1 x.2)]) (fun x => Hg enc x.1 (l ++ [(q, v)])) := fun a w ha hw => by
  obtain ⟨x, w', h1, h2, h3⟩ := wT (ty := ty) q hk hU hK hes hnew hx hy hu hm a w ha hw
  exact ⟨x, w', h1, h2, h3⟩
theorem Fs {κ : Type} [DecidableEq κ] {kd : TypeDesc} {enc : κ → Value} {t kt et : TypeId} {x y u : Operand} {r ck : Nat} {es : Array MapEntry} {ml : List (κ × Value)} {v : Value} {R : Am} {l : List Oper} (q : κ) (hk : Mb kd enc) (hU : ∀ w, (underlying t).run P w = .ok (.map kt et) w) (hK : ∀ w, (underlying kt).run P w = .ok kd w)
    (hes : Hg enc es ml) (hnew : ∀ p ∈ ml, p.1 ≠ q) (hL : List.Perm L ((r, Obj.map es ck) :: R)) (hx : ev E x = some (.map (some r)) := by rfl) (hy : ev E y = some (enc q) := by rfl) (hu : ev E u = some v := by rfl)
    (k : ∀ es2 ck2, Hg enc es2 (ml ++ [(q, v)]) → JL P rd b0 Mk N D ops ((r, Obj.map es2 ck2) :: R) E l T) :
    JL P rd b0 Mk N D ops L E ({ dst := none, op := .insert t x y u, type := ty, pos := pos, after := after, guard := none } :: l) T :=
  wO (H := [(r, Obj.map es ck)]) hL (AO6 q hk hU hK hes hnew hx hy hu (hL.mem_iff.2 List.mem_cons_self)) rfl (fun x hq => k x.1 x.2 hq)
theorem nR {t xT : TypeId} {x : Operand} {v : Value} {u : TypeDesc} (hU : P.underlying t = some u) (hu : ∀ ms, u ≠ .interface ms := by intro ms h; cases h) (hx : ev E x = some (.iface t v) := by rfl) :
    Cm P N D b0 Mk L E (.typeAssert x xT t true) ty (.tuple [v, .bool true].toArray) := fun a w ha _ => by
  have : (Instr.typeAssert (.iface t v) xT t true).run P w = .ok (.tuple [v, .bool true].toArray) w := by
    unfold Instr.typeAssert
    simp only [Sem.run_bind, run_underlying hU, Result.andThen_ok]
    cases u <;> simp_all
  simp [Em, execOp, ha.eval hx, this]
theorem AD8 {t t' : TypeId} {x y : Operand} {p : Int} (hx : ev E x = some (.int .i64 p) := by rfl) (hy : ev E y = some (.int .i64 2) := by rfl) (h : -1 ≤ p ∧ p ≤ 9223372036854775807 := by omega) : Cm P N D b0 Mk L E (.binOp .quo t x y t') ty (.int .i64 ((p.toNat / 2 : Nat) : Int)) := fun a w ha _ => by
  have h2 : p.tdiv 2 = ((p.toNat / 2 : Nat) : Int) := by
    rcases Int.lt_or_le p 0 with h0 | h0
    · have : p = -1 := by omega
      subst this; rfl
    · rw [Int.tdiv_eq_ediv_of_nonneg h0]; omega
  have h3 : IntKind.i64.wrap ((p.toNat / 2 : Nat) : Int) = ((p.toNat / 2 : Nat) : Int) := Gx ⟨by omega, by omega⟩
  simp only [Em, execOp, ha.eval hx, ha.eval hy]
  simp [eqGuard, binOp, Op.intDiv, h2, -Int.natCast_ediv]
  exact h3
theorem U1 {l : List Oper} {n f' : Nat} {listed : Array Bool} {i : Nat} {f : FuncId} {args : List Value} {R : World → Ending → World → Prop} (hi : l[i]? = some { dst := some d, op := op, type := ty, pos := pos, after := after, guard := none }) (hc : Lz P N D b0 Mk L E op ty f args)
    (h : ∀ w, SH b0 Mk L w → Calls P f args.toArray w (R w)) (hn : Be op = true := by rfl) (hd : Nat.blt d N = true := by rfl)
    (k : ∀ w e w', SH b0 Mk L w → R w e w' → ∃ v B V', e = .returned v ∧ Dz w w' B ∧ V' = B ++ V ∧ JG P rd b0 Mk N D l n f' (listed.setIfInBounds i true) L V' ((d, v) :: E) T) : JO P rd b0 Mk N D l n f' listed L V E T i := by
  intro hg inv a w ha hw
  have hi' : l.toArray[i]? = some { dst := some d, op := op, type := ty, pos := pos, after := after, guard := none } := by simpa using hi
  unfold wpO
  simp only [hi']
  rw [if_pos (by rfl)]
  refine Ea (Bf hn) U9 ((h w hw.right).mono fun e w' he => ?_)
  obtain ⟨v, B, V', rfl, h2, rfl, h3⟩ := k w e w' hw.right he
  have h4 : SH b0 Mk ((B ++ V) ++ L) w' := by rw [List.append_assoc]; exact hw.fresh h2
  exact ⟨_, rfl, SH b0 Mk L, fun y hy => hy, h4.right, h3 hg inv _ _ (ha.put hd _) h4⟩
theorem Pn {t : TypeId} {a : Addr} {v : Value} {w : World} (hA : ∀ w, (isAgg t).run P w = .ok false w) (h : w.cell? a = some v) : (loadVar t a).run P w = .ok v w := by
  simp [loadVar, hA, h]
end
theorem Bv {κ : Type} [DecidableEq κ] {k q : κ} {v : Value} {l : List (κ × Value)} (h : k = q) : Jg ((k, v) :: l) q = some v := by simp [Jg, h]
theorem Af {κ : Type} [DecidableEq κ] {k q : κ} {v : Value} {l : List (κ × Value)} (h : ¬ k = q) : Jg ((k, v) :: l) q = Jg l q := by simp [Jg, h]
theorem Jv {κ : Type} [DecidableEq κ] {q : κ} : Jg ([] : List (κ × Value)) q = none := rfl
theorem xN {α : Type} [Inhabited α] {p : α → Prop} {xs : List α} (h : ∀ z ∈ xs, p z) {i j : Nat} (hi : i < xs.length) (hj : j < xs.length) : ∀ z ∈ ((xs.set i (xs.getD j default)).set j (xs.getD i default)), p z := fun z hz => by
  have hg : ∀ k, k < xs.length → p (xs.getD k default) := fun k hk => by
    rw [List.getD_eq_getElem?_getD, List.getElem?_eq_getElem hk]; exact h _ (List.getElem_mem hk)
  rcases List.mem_or_eq_of_mem_set hz with hz | rfl
  · rcases List.mem_or_eq_of_mem_set hz with hz | rfl
    · exact h _ hz
    · exact hg _ hj
  · exact hg _ hi
def Nx {α : Type} (xs : List α) (i : Nat) (v : α) : List α := xs.take i ++ v :: xs.drop i
theorem Ak {α : Type} {xs : List α} {i : Nat} {v : α} (h : i ≤ xs.length) : (Nx xs i v).length = xs.length + 1 := by
  simp [Nx]; omega
theorem xO {α : Type} (xs : List α) (v : α) : xs ++ [v] = Nx xs xs.length v := by simp [Nx]
end Go.Proofs.YtdnjanhdnibkfaaGreatDoor.Jd

namespace Go.Proofs.YtdnjanhdnibkfaaGreatDoor.Jd
open Go.Proofs.Tryz
open Go.RowKit (Below)
set_option linter.unusedVariables false
set_option linter.unusedSimpArgs false
def gH {α β : Type} (D : World → α → β → Prop) : Prop := ∀ w w' x t, (∀ p v, w.cell? p = some v → w'.cell? p = some v) → D w x t → D w' x t
def cG (w : World) {α β : Type} [Inhabited α] [Inhabited β] (enc : α × β → List Value) (k : Nat) (D : World → α → β → Prop) (a : Option Addr) (xs : List α) (ts : List β) : Prop :=
  ts.length = xs.length ∧ Sl w enc k a (List.zip xs ts) ∧ ∀ i, i < xs.length → D w (xs.getD i default) (ts.getD i default)
def Hh (b0 : World) (Mk : List Nat) (L : Am) {α β : Type} [Inhabited α] [Inhabited β] (enc : α × β → List Value) (k : Nat) (D : World → α → β → Prop) (a : Option Addr) (xs : List α) (ts : List β) : Prop :=
  ts.length = xs.length ∧ ∀ w, SH b0 Mk L w → cG w enc k D a xs ts
def Rf (b0 : World) (B : Am) {α β : Type} [Inhabited α] [Inhabited β] (enc : α × β → List Value) (k : Nat) (D : World → α → β → Prop) (a : Option Addr) (xs : List α) (ts : List β) : Prop :=
  ts.length = xs.length ∧ ∀ w, aD b0 w → (∀ p ∈ B, w.heap[p.1]? = some p.2) → cG w enc k D a xs ts
def Ko (B : Am) {α β : Type} [Inhabited α] [Inhabited β] (enc : α × β → List Value) (k : Nat) (D : World → α → β → Prop) (a : Option Addr) (xs : List α) (ts : List β) : Prop :=
  ts.length = xs.length ∧ ∀ w : World, (∀ p ∈ B, w.heap[p.1]? = some p.2) → cG w enc k D a xs ts
def Dr (B : Am) {α β : Type} [Inhabited α] [Inhabited β] (D : World → α → β → Prop) (xs : List α) (ts : List β) : Prop :=
  ts.length = xs.length ∧ ∀ w : World, (∀ p ∈ B, w.heap[p.1]? = some p.2) → ∀ i, i < xs.length → D w (xs.getD i default) (ts.getD i default)
theorem sN {w w' : World} (he : aD w w') : ∀ p v, w.cell? p = some v → w'.cell? p = some v := fun p v h => Pg h (he.block _ (World.block_lt_of_cell? w _ h))
theorem Yy {α β : Type} [Inhabited α] [Inhabited β] {xs : List α} {ts : List β} {m : Nat} (hl : ts.length = xs.length) (h : m < xs.length) : (List.zip xs ts)[m]? = some (xs.getD m default, ts.getD m default) := by
  rw [List.getD_eq_getElem?_getD, List.getD_eq_getElem?_getD, List.getElem?_eq_getElem h, List.getElem?_eq_getElem (show m < ts.length by omega), List.getElem?_eq_getElem (by rw [List.length_zip]; omega)]
  simp
theorem Kd {α β : Type} {xs : List α} {ts : List β} (hl : ts.length = xs.length) : (List.zip xs ts).length = xs.length := by rw [List.length_zip]; omega
theorem Po {α : Type} [Inhabited α] {xs : List α} {i n : Nat} (h : i < n) : (xs.take n).getD i default = xs.getD i default := by
  rw [List.getD_eq_getElem?_getD, List.getD_eq_getElem?_getD, List.getElem?_take, if_pos h]
theorem Pp {α : Type} [Inhabited α] {xs : List α} {i n : Nat} : (xs.drop n).getD i default = xs.getD (n + i) default := by
  rw [List.getD_eq_getElem?_getD, List.getD_eq_getElem?_getD, List.getElem?_drop]
theorem Uy {α : Type} [Inhabited α] {xs ys : List α} {i : Nat} : (xs ++ ys).getD i default = if i < xs.length then xs.getD i default else ys.getD (i - xs.length) default := by
  simp only [List.getD_eq_getElem?_getD]
  by_cases h : i < xs.length
  · rw [if_pos h, List.getElem?_append_left h]
  · rw [if_neg h, List.getElem?_append_right z8]
section
variable {α β : Type} [Inhabited α] [Inhabited β] {enc : α × β → List Value} {k : Nat} {D : World → α → β → Prop} {a : Option Addr} {xs : List α} {ts : List β} {b0 : World} {Mk : List Nat} {B L : Am}
theorem cG.ext {w w' : World} (hD : gH D) (h : cG w enc k D a xs ts) (he : aD w w') : cG w' enc k D a xs ts := ⟨h.1, h.2.1.ext he, fun i hi => hD _ _ _ _ (sN he) (h.2.2 i hi)⟩
theorem Hh.of_base (hD : gH D) (h : cG b0 enc k D a xs ts) : Hh b0 [] L enc k D a xs ts := ⟨h.1, fun _ hw => h.ext hD hw.ext_out⟩
theorem Rf.base (hD : gH D) (h : cG b0 enc k D a xs ts) : Rf b0 B enc k D a xs ts := ⟨h.1, fun _ he _ => h.ext hD he⟩
theorem Hh.nil : Hh b0 Mk L enc k D a ([] : List α) ([] : List β) := ⟨rfl, fun _ _ => ⟨rfl, Sl.nil, fun i hi => by simp at hi⟩⟩
theorem Rf.nil : Rf b0 B enc k D a ([] : List α) ([] : List β) := ⟨rfl, fun _ _ _ => ⟨rfl, Sl.nil, fun i hi => by simp at hi⟩⟩
theorem Ko.nil : Ko B enc k D a ([] : List α) ([] : List β) := ⟨rfl, fun _ _ => ⟨rfl, Sl.nil, fun i hi => by simp at hi⟩⟩
theorem Rf.j (h : Rf b0 B enc k D a xs ts) (hB : ∀ p ∈ B, p ∈ L := by intro p hp; repeat (first | exact hp | exact List.mem_append_left _ hp | apply List.mem_append_right | apply List.mem_cons_of_mem)) : Hh b0 [] L enc k D a xs ts := ⟨h.1, fun w hw => h.2 w hw.ext_out fun p hp => hw.own p (hB p hp)⟩
theorem Ko.j (h : Ko B enc k D a xs ts) (hB : ∀ p ∈ B, p ∈ L := by intro p hp; repeat (first | exact hp | exact List.mem_append_left _ hp | apply List.mem_append_right | apply List.mem_cons_of_mem)) : Hh b0 Mk L enc k D a xs ts := ⟨h.1, fun w hw => h.2 w fun p hp => hw.own p (hB p hp)⟩
theorem Ko.mono {B' : Am} (h : Ko B enc k D a xs ts) (hB : ∀ p ∈ B, p ∈ B') : Ko B' enc k D a xs ts := ⟨h.1, fun w hw => h.2 w fun p hp => hw p (hB p hp)⟩
theorem Rf.mono {B' : Am} (h : Rf b0 B enc k D a xs ts) (hB : ∀ p ∈ B, p ∈ B' := by intro p hp; repeat (first | exact hp | exact List.mem_append_left _ hp | apply List.mem_append_right | apply List.mem_cons_of_mem)) : Rf b0 B' enc k D a xs ts := ⟨h.1, fun w he hw => h.2 w he fun p hp => hw p (hB p hp)⟩
theorem Hh.sl (h : Hh b0 Mk L enc k D a xs ts) : Ch b0 Mk L enc k a (List.zip xs ts) := fun w hw => (h.2 w hw).2.1
theorem Hh.at (h : Hh b0 Mk L enc k D a xs ts) {m : Nat} (hm : m < xs.length) : ∀ w, SH b0 Mk L w → D w (xs.getD m default) (ts.getD m default) := fun w hw => (h.2 w hw).2.2 m hm
theorem Rf.at (h : Rf b0 B enc k D a xs ts) {m : Nat} (hm : m < xs.length) : ∀ w, aD b0 w → (∀ p ∈ B, w.heap[p.1]? = some p.2) → D w (xs.getD m default) (ts.getD m default) := fun w he hw => (h.2 w he hw).2.2 m hm
theorem Ko.at (h : Ko B enc k D a xs ts) {m : Nat} (hm : m < xs.length) : ∀ w : World, (∀ p ∈ B, w.heap[p.1]? = some p.2) → D w (xs.getD m default) (ts.getD m default) := fun w hw => (h.2 w hw).2.2 m hm
theorem xP {α β : Type} {xs : List α} {ts : List β} (n : Nat) : (List.zip xs ts).take n = List.zip (xs.take n) (ts.take n) := List.take_zipWith
theorem xQ {α β : Type} {xs : List α} {ts : List β} (n : Nat) : (List.zip xs ts).drop n = List.zip (xs.drop n) (ts.drop n) := List.drop_zipWith
theorem cG.take {w : World} (h : cG w enc k D a xs ts) (n : Nat) : cG w enc k D a (xs.take n) (ts.take n) := by
  refine ⟨by rw [List.length_take, List.length_take, h.1], ?_, fun i hi => ?_⟩
  · rw [← xP]
    intro i x hx
    refine h.2.1 i x ?_
    rw [List.getElem?_take] at hx
    split at hx
    · exact hx
    · cases hx
  · rw [List.length_take] at hi
    rw [Po z8, Po z8]
    exact h.2.2 i z8
theorem cG.off {w : World} (h : cG w enc k D a xs ts) (lo c : Nat) (hc : xs.length ≤ c) : cG w enc k D (Ky a k lo c) (xs.drop lo) (ts.drop lo) := by
  refine ⟨by rw [List.length_drop, List.length_drop, h.1], ?_, fun i hi => ?_⟩
  · rw [← xQ]
    exact h.2.1.off lo c (by rw [Kd h.1]; exact hc)
  · rw [List.length_drop] at hi
    rw [Pp, Pp]
    exact h.2.2 _ z8
theorem Hh.take (h : Hh b0 Mk L enc k D a xs ts) (n : Nat) : Hh b0 Mk L enc k D a (xs.take n) (ts.take n) := ⟨by rw [List.length_take, List.length_take, h.1], fun w hw => (h.2 w hw).take n⟩
theorem Rf.take (h : Rf b0 B enc k D a xs ts) (n : Nat) : Rf b0 B enc k D a (xs.take n) (ts.take n) := ⟨by rw [List.length_take, List.length_take, h.1], fun w he hw => (h.2 w he hw).take n⟩
theorem Ko.take (h : Ko B enc k D a xs ts) (n : Nat) : Ko B enc k D a (xs.take n) (ts.take n) := ⟨by rw [List.length_take, List.length_take, h.1], fun w hw => (h.2 w hw).take n⟩
theorem Hh.off (h : Hh b0 Mk L enc k D a xs ts) (lo c : Nat) (hc : xs.length ≤ c) : Hh b0 Mk L enc k D (Ky a k lo c) (xs.drop lo) (ts.drop lo) := ⟨by rw [List.length_drop, List.length_drop, h.1], fun w hw => (h.2 w hw).off lo c hc⟩
theorem Rf.off (h : Rf b0 B enc k D a xs ts) (lo c : Nat) (hc : xs.length ≤ c) : Rf b0 B enc k D (Ky a k lo c) (xs.drop lo) (ts.drop lo) := ⟨by rw [List.length_drop, List.length_drop, h.1], fun w he hw => (h.2 w he hw).off lo c hc⟩
theorem Dr.nil : Dr B D ([] : List α) ([] : List β) := ⟨rfl, fun _ _ i hi => by simp at hi⟩
theorem Dr.mono {B' : Am} (h : Dr B D xs ts) (hB : ∀ p ∈ B, p ∈ B' := by intro p hp; repeat (first | exact hp | exact List.mem_append_left _ hp | apply List.mem_append_right | apply List.mem_cons_of_mem)) : Dr B' D xs ts := ⟨h.1, fun w hw => h.2 w fun p hp => hw p (hB p hp)⟩
theorem Dr.append {ys : List α} {us : List β} (h : Dr B D xs ts) (h2 : Dr B D ys us) : Dr B D (xs ++ ys) (ts ++ us) := by
  refine ⟨by rw [List.length_append, List.length_append, h.1, h2.1], fun w hw i hi => ?_⟩
  rw [Uy, Uy, h.1]
  rw [List.length_append] at hi
  by_cases hc : i < xs.length
  · rw [if_pos hc, if_pos hc]; exact h.2 w hw i hc
  · rw [if_neg hc, if_neg hc]; exact h2.2 w hw _ z8
theorem Dr.take (h : Dr B D xs ts) (n : Nat) : Dr B D (xs.take n) (ts.take n) := by
  refine ⟨by rw [List.length_take, List.length_take, h.1], fun w hw i hi => ?_⟩
  rw [List.length_take] at hi
  rw [Po z8, Po z8]
  exact h.2 w hw i z8
theorem Dr.drop (h : Dr B D xs ts) (n : Nat) : Dr B D (xs.drop n) (ts.drop n) := by
  refine ⟨by rw [List.length_drop, List.length_drop, h.1], fun w hw i hi => ?_⟩
  rw [List.length_drop] at hi
  rw [Pp, Pp]
  exact h.2 w hw _ z8
theorem Dr.one {x : α} {t : β} (h : ∀ w : World, (∀ p ∈ B, w.heap[p.1]? = some p.2) → D w x t) : Dr B D [x] [t] := ⟨rfl, fun w hw i hi => by
  have : i = 0 := by simp at hi; omega
  subst this; exact h w hw⟩
theorem Dr.of (h : Ko B enc k D a xs ts) : Dr B D xs ts := ⟨h.1, fun w hw => (h.2 w hw).2.2⟩
theorem Bi.nj {e : TypeId} {c : Nat} {R : Am} (hE : Dm enc k) (h : Bi enc k e a c B (List.zip xs ts)) (hd : Dr R D xs ts) (hB : ∀ p ∈ B, p ∈ L := by intro p hp; repeat (first | exact hp | exact List.mem_append_left _ hp | apply List.mem_append_right | apply List.mem_cons_of_mem)) (hR : ∀ p ∈ R, p ∈ L := by intro p hp; repeat (first | exact hp | exact List.mem_append_left _ hp | apply List.mem_append_right | apply List.mem_cons_of_mem)) : Hh b0 Mk L enc k D a xs ts :=
  ⟨hd.1, fun w hw => ⟨hd.1, h.sl hE fun p hp => hw.own p (hB p hp), hd.2 w fun p hp => hw.own p (hR p hp)⟩⟩
theorem Bi.nb {e : TypeId} {c : Nat} {R U : Am} (hE : Dm enc k) (h : Bi enc k e a c B (List.zip xs ts)) (hd : Dr R D xs ts) (hB : ∀ p ∈ B, p ∈ U := by intro p hp; repeat (first | exact hp | exact List.mem_append_left _ hp | apply List.mem_append_right | apply List.mem_cons_of_mem)) (hR : ∀ p ∈ R, p ∈ U := by intro p hp; repeat (first | exact hp | exact List.mem_append_left _ hp | apply List.mem_append_right | apply List.mem_cons_of_mem)) : Ko U enc k D a xs ts :=
  ⟨hd.1, fun w hw => ⟨hd.1, h.sl hE fun p hp => hw p (hB p hp), hd.2 w fun p hp => hw p (hR p hp)⟩⟩
end
section
variable {P : Program} {b0 : World} {Mk : List Nat} {N : Nat} {D : List Deferred} {L V : Am} {E : Eg} {ty : TypeId}
theorem Me.len {κ : Type} {enc : κ → Value} {es : Array MapEntry} {xs : List κ} (h : Me enc es xs) : es.size = xs.length := by
  have := congrArg List.length h
  simpa using this
theorem gI {t kt et : TypeId} {x : Operand} {r ck : Nat} {es : Array MapEntry} {κ : Type} {enc : κ → Value} {xs : List κ} (hU : ∀ w, (underlying t).run P w = .ok (.map kt et) w) (hes : Me enc es xs) (hx : ev E x = some (.map (some r)) := by rfl)
    (hm : (r, Obj.map es ck) ∈ L := by repeat (first | exact List.mem_cons_self | apply List.mem_cons_of_mem | apply List.mem_append_right)) :
    Cm P N D b0 Mk L E (.call { callee := .builtin .len, args := #[x], argTypes := #[t] }) ty (.int .i64 (xs.length : Int)) := by
  rw [← hes.len]
  exact AC1 hU hx hm
end
section
variable {P : Program} {rd : Option Nat} {b0 : World} {Mk : List Nat} {N : Nat} {D : List Deferred} {ops : Array Oper} {L V : Am} {E : Eg} {T : Act → World → Prop}
variable {ty : TypeId} {pos : String} {after : Array Edge} {d : Nat}
theorem Uz {α : Type} {enc : α → List Value} {kk by_ n : Nat} {i : Int} {t e : TypeId} {z : Value} {x0 : α} {x y : Operand} {l : List Oper} (hT : Ty P e kk by_ z) (hU : P.underlying t = some (.slice e)) (hE : Dm enc kk) (hz : Cp z = enc x0) (hb : by_ * n ≤ 281474976710656 ∧ n ≤ 4611686018427387904) (hx : ev E x = some (.int .i64 i) := by rfl) (hy : ev E y = some (.int .i64 i) := by rfl) (hi : i = (n : Int) := by omega) (hd : Nat.blt d N = true := by rfl)
    (k : ∀ a2 B2, Bi enc kk e a2 n B2 (List.replicate n x0) → JL P rd b0 Mk N D ops (B2 ++ L) ((d, .slice a2 n n) :: E) l T) :
    JL P rd b0 Mk N D ops L E ({ dst := some d, op := .makeSlice t x y, type := ty, pos := pos, after := after, guard := none } :: l) T :=
  M6 hT hU hE hz hb hx hy hi hd (fun a2 B2 ho => by have h := k a2 B2 ho; rw [List.length_replicate]; exact h)
theorem bE {α : Type} {enc : α → List Value} {kk by_ n : Nat} {i : Int} {t e : TypeId} {z : Value} {x0 : α} {x y : Operand} {l : List Oper} {n' f' : Nat} {listed : Array Bool} {j : Nat} (hj : l[j]? = some { dst := some d, op := .makeSlice t x y, type := ty, pos := pos, after := after, guard := none }) (hT : Ty P e kk by_ z) (hU : P.underlying t = some (.slice e)) (hE : Dm enc kk) (hz : Cp z = enc x0) (hb : by_ * n ≤ 281474976710656 ∧ n ≤ 4611686018427387904) (hx : ev E x = some (.int .i64 i) := by rfl) (hy : ev E y = some (.int .i64 i) := by rfl) (hi : i = (n : Int) := by omega) (hd : Nat.blt d N = true := by rfl)
    (k : ∀ a2 B2, Bi enc kk e a2 n B2 (List.replicate n x0) → JG P rd b0 Mk N D l n' f' (listed.setIfInBounds j true) (B2 ++ L) V ((d, .slice a2 n n) :: E) T) :
    JO P rd b0 Mk N D l n' f' listed L V E T j :=
  Iy hj hT hU hE hz hb hx hy hi hd (fun a2 B2 ho => by have h := k a2 B2 ho; rw [List.length_replicate]; exact h)
end
section
variable {P : Program} {b0 : World} {Mk : List Nat} {N : Nat} {D : List Deferred} {L : Am} {E : Eg} {ty : TypeId}
theorem Jb {t e len n : TypeId} {x y : Operand} {k : IntKind} {p : Int} {l cs : List Value} {m : Nat} (hU : ∀ w, (underlying t).run P w = .ok (.array len e) w) (hS : ∀ w, (sizeOf e).run P w = .ok n w) (hA : ∀ w, (isAgg e).run P w = .ok true w) (hx : ev E x = some (.agg l.toArray) := by rfl) (hy : ev E y = some (.int k p) := by rfl) (hi : p = (m : Int) := by rfl) (hm : Nat.blt m len = true := by rfl) (hv : (l.drop (m * n)).take n = cs := by rfl) :
    Cm P N D b0 Mk L E (.index t x y) ty (.agg cs.toArray) := fun a w ha _ => by
  subst hi
  have hm' : m < len := by simpa [Nat.blt_eq] using hm
  subst hv
  simp [Em, execOp, ha.eval hx, ha.eval hy, Instr.index, asIntOf, hU, hS, hm', part, hA]
  try rw [List.take_drop]
end
end Go.Proofs.YtdnjanhdnibkfaaGreatDoor.Jd

namespace Go.Proofs.YtdnjanhdnibkfaaGreatDoor.Jd
open Go.Proofs.Tryz
open Go.RowKit (Below)
set_option linter.unusedVariables false
set_option linter.unusedSimpArgs false
theorem Sl.cmono {w w' : World} {α : Type} {enc : α → List Value} {k : Nat} {a : Option Addr} {xs : List α} (hc : ∀ p v, w.cell? p = some v → w'.cell? p = some v) (h : Sl w enc k a xs) : Sl w' enc k a xs := fun i x hx => by
  obtain ⟨b, off, e, hl, h2⟩ := h i x hx
  exact ⟨b, off, e, hl, fun j v hv => hc _ _ (h2 j v hv)⟩
theorem Ch.nilj {b0 : World} {Mk : List Nat} {L : Am} {α : Type} {enc : α → List Value} {k : Nat} {a : Option Addr} : Ch b0 Mk L enc k a ([] : List α) := fun _ _ => Sl.nil
theorem sk {a : Nat × Obj} {L' L : Am} (h : List.Sublist L' L) : List.Sublist (a :: L') (a :: L) := h.cons_cons a
theorem sd {a : Nat × Obj} {L' L : Am} (h : List.Sublist L' L) : List.Sublist L' (a :: L) := h.cons a
theorem sa {A L' L : Am} (h : List.Sublist L' L) : List.Sublist (A ++ L') (A ++ L) := (List.Sublist.refl A).append h
theorem sx {A L' L : Am} (h : List.Sublist L' L) : List.Sublist L' (A ++ L) := h.trans (List.sublist_append_right A L)
theorem sz : List.Sublist ([] : Am) [] := List.nil_sublist _
abbrev vi (n : Int) : Value := .int .i64 n
abbrev vs (a : Option Addr) (n c : Nat) : Value := .slice a n c
abbrev vt (s : Ai) : Value := .string (bs s)
abbrev oc (l : List Value) (t : TypeId) : Obj := .cells l.toArray t
theorem nE {L : Am} : ([] : Am) ++ L = L := rfl
theorem nC {a : Nat × Obj} {V L X : Am} (h : V ++ L = X) : (a :: V) ++ L = a :: X := h ▸ rfl
theorem nA {B V L X : Am} (h : V ++ L = X) : (B ++ V) ++ L = B ++ X := by rw [List.append_assoc, h]
theorem vp {L L2 V L' : Am} (p : List.Perm L L2) (e : V ++ L' = L2) : List.Perm L (V ++ L') := e ▸ p
theorem eqp {L L' : Am} (e : L = L') : List.Perm L L' := .of_eq e
theorem N3 {A B C : Am} (h1 : ∀ p ∈ A, p ∈ C) (h2 : ∀ p ∈ B, p ∈ C) : ∀ p ∈ A ++ B, p ∈ C := fun p hp => (List.mem_append.1 hp).elim (h1 p) (h2 p)
theorem xR {C : Am} : ∀ p ∈ ([] : Am), p ∈ C := fun p hp => by cases hp
theorem N4 {r : Nat} {o : Obj} {C : Am} (h : (r, o) ∈ C) : ∀ p ∈ [(r, o)], p ∈ C := fun p hp => by
  rw [List.mem_singleton] at hp; subst hp; exact h
theorem sh {A C : Am} (h : ∀ p ∈ A, p ∈ C := by
    (repeat' (first | exact xR | refine N3 ?_ ?_ | refine N4 ?_)) <;>
    first
    | (intro p hp; (repeat (first | exact hp | exact List.mem_append_left _ hp | apply List.mem_append_right | apply List.mem_cons_of_mem)); done)
    | ((repeat (first | exact List.mem_cons_self | apply List.mem_cons_of_mem | apply List.mem_append_right)); done)
    | (intro p hp; simp_all; done)) : ∀ p ∈ A, p ∈ C := h
section
variable {P : Program} {b0 : World} {Mk : List Nat} {N : Nat} {D : List Deferred} {L : Am} {E : Eg} {ty : TypeId}
theorem xS {κ : Type} [DecidableEq κ] {kd : TypeDesc} {enc : κ → Value} {t kt et : TypeId} {x y : Operand} {r ck : Nat} {es : Array MapEntry} {xs : List κ} (q : κ) [inst : Decidable (q ∈ xs)] (hk : Mb kd enc) (hU : ∀ w, (underlying t).run P w = .ok (.map kt et) w) (hK : ∀ w, (underlying kt).run P w = .ok kd w)
    (hz : ∀ w, (zeroValue et).run P w = .ok (.bool false) w) (hes : Me enc es xs) (hx : ev E x = some (.map (some r)) := by rfl) (hy : ev E y = some (enc q) := by rfl)
    (hm : (r, Obj.map es ck) ∈ L := by repeat (first | exact List.mem_cons_self | apply List.mem_cons_of_mem | apply List.mem_append_right)) :
    Cm P N D b0 Mk L E (.lookup t x y false) ty (.bool (decide (q ∈ xs))) := by
  have h := Ux (P := P) (N := N) (D := D) (b0 := b0) (Mk := Mk) (L := L) (E := E) (ty := ty) (t := t) q hk hU hK hz hes hx hy hm
  have e : ∀ (i1 i2 : Decidable (q ∈ xs)), @decide _ i1 = @decide _ i2 := fun i1 i2 => by congr
  rw [e _ inst] at h
  exact h
end
end Go.Proofs.YtdnjanhdnibkfaaGreatDoor.Jd

namespace Go.Proofs.YtdnjanhdnibkfaaGreatDoor.Jd
open Go.Proofs.Tryz
set_option linter.unusedVariables false
set_option linter.unusedSimpArgs false
theorem N5 {A C : Am} {w : World} (hw : ∀ p ∈ C, w.heap[p.1]? = some p.2) (h : ∀ p ∈ A, p ∈ C := by exact sh) : ∀ p ∈ A, w.heap[p.1]? = some p.2 := fun p hp => hw p (h p hp)
end Go.Proofs.YtdnjanhdnibkfaaGreatDoor.Jd

namespace Go.Proofs.YtdnjanhdnibkfaaGreatDoor.Jd
open Go.Proofs.Tryz
open Go.RowKit (Below)
set_option linter.unusedVariables false
set_option linter.unusedSimpArgs false
section
variable {P : Program} {rd : Option Nat} {b0 : World} {Mk : List Nat} {N : Nat} {D : List Deferred} {l : List Oper} {n f : Nat} {listed : Array Bool} {L V : Am} {E : Eg} {T : Act → World → Prop}
variable {op : Op} {ty : TypeId} {pos : String} {after : Array Edge} {v : Value} {d : Nat}
theorem Hp {o : Obj} {v : Nat → Value} {i : Nat} (hi : l[i]? = some { dst := some d, op := op, type := ty, pos := pos, after := after, guard := none }) (hM : ∀ k ∈ Mk, k < b0.heap.size) (h : aH P N D b0 Mk L E op ty o v) (hn : Be op = true := by rfl) (hd : Nat.blt d N = true := by rfl)
    (k : ∀ r, b0.heap.size ≤ r → JG P rd b0 Mk N D l n f (listed.setIfInBounds i true) L ((r, o) :: V) ((d, v r) :: E) T) : JO P rd b0 Mk N D l n f listed L V E T i := by
  intro hg inv a w ha hw
  have hi' : l.toArray[i]? = some { dst := some d, op := op, type := ty, pos := pos, after := after, guard := none } := by simpa using hi
  unfold wpO
  simp only [hi']
  rw [if_pos (by rfl)]
  have h4 : SH b0 Mk (((w.heap.size, o) :: V) ++ L) (w.alloc o) := hw.alloc o hM
  exact Df (Bf hn) z79
    ⟨SH b0 Mk L, fun x hx => hx, h4.right, k _ hw.size hg inv _ _ (ha.put hd _) h4⟩
theorem kI {i : Nat} {V' : Am} (hi : l[i]? = some { dst := none, op := op, type := ty, pos := pos, after := after, guard := none }) (h : mW P N D b0 Mk (V ++ L) E op ty (V' ++ L) .skip) (hn : Be op = true := by rfl)
    (k : JG P rd b0 Mk N D l n f (listed.setIfInBounds i true) L V' E T) : JO P rd b0 Mk N D l n f listed L V E T i := by
  intro hg inv a w ha hw
  have hi' : l.toArray[i]? = some { dst := none, op := op, type := ty, pos := pos, after := after, guard := none } := by simpa using hi
  unfold wpO
  simp only [hi']
  rw [if_pos (by rfl)]
  obtain ⟨w', h1, h2⟩ := h a w ha hw
  exact Jq (Bf hn) uD ⟨SH b0 Mk L, fun y hy => hy, h2.right, k hg inv _ _ ha h2⟩
end
end Go.Proofs.YtdnjanhdnibkfaaGreatDoor.Jd

namespace Go.Proofs.YtdnjanhdnibkfaaGreatDoor.Jd
open Go.Proofs.Tryz
open Go.ChangeShapes Go.WideShapes Go.ChangeAt Go.RowKit
set_option linter.unusedVariables false
set_option linter.unusedSimpArgs false
section
variable {H : Type} {encH : TypeId × Value → H} {P : Program} {W : World}
def xU {H : Type} (x : Int × Ai × Int) : DataW H := .agg [.lit (.int .i64 x.1), .lit (.string x.2.1), .lit (.int .i64 x.2.2)]
def xV (x : Int × Ai × Int) : List Value := [.int .i64 x.1, .string (bs x.2.1), .int .i64 x.2.2]
theorem sO {base : Nat} {sp : Nat → Bool} {held : Bool} {fuel : Nat} {e : TypeId} {fs : Array Field} {f0 f1 f2 : Field} {cs : List Value} {x : Int × Ai × Int} {ps : List MemPlace} (hs : P.underlying e = some (.struct fs)) (hfs : fs = #[f0, f1, f2]) (hce : P.cellsOf e = 3)
    (o0 : f0.offset = 0) (o1 : f1.offset = 1) (o2 : f2.offset = 2) (t0 : P.underlying f0.type = some (.int .i64)) (t1 : P.underlying f1.type = some .string) (t2 : P.underlying f2.type = some (.int .i64)) (c0 : P.cellsOf f0.type = 1) (c1 : P.cellsOf f1.type = 1) (c2 : P.cellsOf f2.type = 1)
    (h : DataW.trod encH P W base sp held fuel e cs = some (xU x, ps)) : cs = xV x := by
  subst hfs
  obtain ⟨xs, m, _, hx, hlen, hxl, hf⟩ := DataW.trod_struct hs h
  have hxl' : xs.length = 3 := by simpa using hxl
  rw [hce] at hlen
  obtain ⟨x0, x1, x2, rfl⟩ : ∃ x0 x1 x2, xs = [x0, x1, x2] := by
    match xs, hxl' with
    | [a, b, c], _ => exact ⟨a, b, c, rfl⟩
  obtain ⟨v0, v1, v2, rfl⟩ : ∃ v0 v1 v2, cs = [v0, v1, v2] := by
    match cs, hlen with
    | [a, b, c], _ => exact ⟨a, b, c, rfl⟩
  have e0 : _ = some x0 := hf 0 f0 rfl
  have e1 : _ = some x1 := hf 1 f1 rfl
  have e2 : _ = some x2 := hf 2 f2 rfl
  rw [o0, c0] at e0
  rw [o1, c1] at e1
  rw [o2, c2] at e2
  obtain ⟨n0, q0, r0, _⟩ := DataW.trod_int t0 e0
  obtain ⟨s1, q1, r1, _⟩ := DataW.trod_string t1 e1
  obtain ⟨n2, q2, r2, _⟩ := DataW.trod_int t2 e2
  have hd := congrArg Prod.fst hx
  simp only [xU, r0, r1, r2, List.map_cons, List.map_nil, DataW.agg.injEq, List.cons.injEq, DataW.lit.injEq, Lit.int.injEq, Lit.string.injEq, true_and, and_true] at hd
  obtain ⟨d0, d1, d2⟩ := hd
  simp at q0 q1 q2
  rw [q0, q1, q2, ← d0, ← d2, U0 s1, ← d1]
  rfl
theorem gJ {name : String} {l : List (Int × Ai × Int)} {rest : List (String × DataW Unit)} {g : Nat} {t e : TypeId} {n : Nat} {fs : Array Field} {f0 f1 f2 : Field} (hg : P.globalNamed name = some g) (hty : (P.globals[g]?).map (·.type) = some t) (ht : P.underlying t = some (.array n e)) (hs : P.underlying e = some (.struct fs)) (hfs : fs = #[f0, f1, f2]) (hce : P.cellsOf e = 3) (hct : P.cellsOf t = 3 * n)
    (o0 : f0.offset = 0) (o1 : f1.offset = 1) (o2 : f2.offset = 2) (t0 : P.underlying f0.type = some (.int .i64)) (t1 : P.underlying f1.type = some .string) (t2 : P.underlying f2.type = some (.int .i64)) (c0 : P.cellsOf f0.type = 1) (c1 : P.cellsOf f1.type = 1) (c2 : P.cellsOf f2.type = 1) (hl : l.length = n)
    (h : laidMet P ((name, .agg (l.map xU)) :: rest) W) : W.var? P name = some (l.flatMap xV).toArray := by
  obtain ⟨ps, ⟨g', t', cs, fuel, p, q, hg', ht', hvar, hd, _, _⟩, _⟩ := h
  obtain rfl := Option.some.inj (hg.symm.trans hg')
  obtain rfl := Option.some.inj (hty.symm.trans ht')
  refine hvar.trans (congrArg some ?_)
  obtain ⟨xs, m, _, hx, hlen, hxl, hf⟩ := DataW.trod_array ht hd
  rw [hct] at hlen
  rw [hce] at hf
  have hdx : xs.map (·.1) = l.map xU := by
    have := congrArg Prod.fst hx
    simpa using this.symm
  have row : ∀ i (hi : i < n), (cs.toList.drop (i * 3)).take 3 = xV (l.getD i default) := fun i hi => by
    have h1 := hf i hi
    rw [List.getElem?_eq_getElem z8] at h1
    have h2 : xs[i].1 = xU (l.getD i default) := by
      have := congrArg (·[i]?) hdx
      simpa [show i < xs.length by omega, show i < l.length by omega, List.getD] using this
    exact sO hs hfs hce o0 o1 o2 t0 t1 t2 c0 c1 c2 (x := l.getD i default) (ps := xs[i].2) (by rw [h1, ← h2])
  have key : ∀ (l : List (Int × Ai × Int)) (cs : List Value), cs.length = 3 * l.length → (∀ i, i < l.length → (cs.drop (i * 3)).take 3 = xV (l.getD i default)) → cs = l.flatMap xV := by
    intro l
    induction l with
    | nil => intro cs hc _; simpa using hc
    | cons x r ih =>
      intro cs hc hr
      have h0 := hr 0 Hs
      simp at h0
      rw [List.flatMap_cons, ← List.take_append_drop 3 cs, h0]
      congr 1
      refine ih (cs.drop 3) (by simp at hc ⊢; omega) fun i hi => ?_
      have := hr (i + 1) (by simp; omega)
      rw [List.drop_drop, show 3 + i * 3 = (i + 1) * 3 by omega, this]
      simp
  have := key l cs.toList (by rw [hl]; simpa using hlen) (fun i hi => row i z8)
  rw [← this]
end
end Go.Proofs.YtdnjanhdnibkfaaGreatDoor.Jd

namespace Go.Proofs.YtdnjanhdnibkfaaGreatDoor.Jd
open Go.Proofs.Tryz
open Go.Proofs
set_option linter.unusedVariables false
set_option linter.unusedSimpArgs false
def N6 (B : Am) {α : Type} (enc : α → List Value) (k : Nat) (a : Option Addr) (c : Nat) (xs : List α) : Prop := ∀ w : World, (∀ p ∈ B, w.heap[p.1]? = some p.2) → Sl w enc k a xs ∧ xs.length ≤ c
theorem N6.slb {B : Am} {α : Type} {enc : α → List Value} {k : Nat} {a : Option Addr} {c : Nat} {xs : List α} (h : N6 B enc k a c xs) : Hb B enc k a xs := fun w hw => (h w hw).1
theorem N6.nil {B : Am} {α : Type} {enc : α → List Value} {k : Nat} {a : Option Addr} {c : Nat} : N6 B enc k a c ([] : List α) := fun _ _ => ⟨Sl.nil, Nat.zero_le _⟩
end Go.Proofs.YtdnjanhdnibkfaaGreatDoor.Jd

namespace Go.Proofs.YtdnjanhdnibkfaaGreatDoor.Jd
open Go.Proofs.Tryz
open Go.Proofs
set_option linter.unusedVariables false
set_option linter.unusedSimpArgs false
section
variable {P : Program} {rd : Option Nat} {b0 : World} {Mk : List Nat} {N : Nat} {D : List Deferred} {ops : Array Oper} {L V : Am} {E : Eg} {T : Act → World → Prop}
variable {op : Op} {ty : TypeId} {pos : String} {after : Array Edge} {d : Nat}
theorem AO7 {l : List (Bool × Oper)} {f : FuncId} {args : List Value} {R : World → Ending → World → Prop} (hc : Lz P N D b0 Mk L E op ty f args) (h : ∀ w, SH b0 Mk (V ++ L) w → Calls P f args.toArray w (R w)) (hn : Be op = true := by rfl) (hd : Nat.blt d N = true := by rfl)
    (k : ∀ w e w', SH b0 Mk (V ++ L) w → R w e w' → ∃ v V', e = .returned v ∧ SH b0 Mk (V' ++ L) w' ∧ JD P rd b0 Mk N D ops L V' ((d, v) :: E) l T) :
    JD P rd b0 Mk N D ops L V E ((false, { dst := some d, op := op, type := ty, pos := pos, after := after, guard := none }) :: l) T := by
  intro a w ha hw
  unfold Qx
  rw [if_pos (by rfl)]
  refine Ea (Bf hn) U9 ((h w hw).mono fun e w' he => ?_)
  obtain ⟨v, V', rfl, h2, h3⟩ := k w e w' hw he
  exact ⟨_, rfl, SH b0 Mk L, fun y hy => hy, h2.right, h3 _ _ (ha.put hd _) h2⟩
end
end Go.Proofs.YtdnjanhdnibkfaaGreatDoor.Jd

namespace Go.Proofs
open Go.Shelf
open Go.RowKit in
set_option linter.unusedVariables false
set_option linter.unusedSimpArgs false
def Tryz.lays156_ren : Go.Shelf.Ren := ⟨fun | 156 => 48 | 165 => 98 | 166 => 99 | 169 => 100 | 240 => 153 | 241 => 154 | 276 => 206 | 277 => 207 | n => n, fun | 31 => 106 | 9 => 9 | 3 => 3 | 4 => 4 | 0 => 0 | 20 => 20 | 72 => 178 | 76 => 180 | 70 => 176 | 37 => 174 | 75 => 93 | 127 => 250 | 164 => 303 | 5 => 5 | 80 => 182 | n => n, fun | n => n⟩
theorem Tryz.lays156 : Go.Proofs.Lays.n156 Tryz.prog Tryz.lays156_ren := {
  mixed := by kernel_rfl
  f156 := func48.trans (congrArg some (by kernel_rfl))
  f165 := func98.trans (congrArg some (by kernel_rfl))
  f166 := func99.trans (congrArg some (by kernel_rfl))
  f169 := func100.trans (congrArg some (by kernel_rfl))
  f240 := func153.trans (congrArg some (by kernel_rfl))
  f241 := func154.trans (congrArg some (by kernel_rfl))
  f276 := func206.trans (congrArg some (by kernel_rfl))
  f277 := func207.trans (congrArg some (by kernel_rfl))
  t0 := underlying0
  a0 := isAgg0
  z0 := sizeOf0
  v0 := zeroValue0
  t3 := underlying3
  a3 := isAgg3
  z3 := sizeOf3
  v3 := zeroValue3
  t4 := underlying4
  a4 := isAgg4
  z4 := sizeOf4
  v4 := zeroValue4
  t9 := underlying9
  a9 := isAgg9
  z9 := sizeOf9
  v9 := zeroValue9
  t20 := underlying20
  a20 := isAgg20
  z20 := sizeOf20
  v20 := zeroValue20
  t31 := underlying106
  a31 := isAgg106
  z31 := sizeOf106
  v31 := zeroValue106
  t37 := underlying174
  a37 := isAgg174
  z37 := sizeOf174
  v37 := zeroValue174
  t70 := underlying176
  a70 := isAgg176
  z70 := sizeOf176
  v70 := zeroValue176
  t72 := underlying178
  a72 := isAgg178
  z72 := sizeOf178
  v72 := zeroValue178
  t75 := underlying93
  a75 := isAgg93
  z75 := sizeOf93
  v75 := zeroValue93
  t76 := underlying180
  a76 := isAgg180
  z76 := sizeOf180
  v76 := zeroValue180
  t127 := underlying250
  a127 := isAgg250
  z127 := sizeOf250
  v127 := zeroValue250
  t164 := underlying303
  a164 := isAgg303
  z164 := sizeOf303
  v164 := zeroValue303 }
theorem Tryz.Builder_Extra_156 : Builder.Extra Tryz.prog Tryz.lays156_ren := {
  sizeBuilder := by kernel_rfl
  liesBuilder := by kernel_rfl
  t5 := underlying5
  a5 := isAgg5
  z5 := sizeOf5
  v5 := zeroValue5
  infoByte := by kernel_rfl
  cellsByte := by kernel_rfl
  sizeByte := by kernel_rfl
  neB5 := by decide }
open Go.RowKit in
theorem Tryz.strings_Join_none (a : Option Addr) (c : Nat) (sep : ByteArray) (w : World) :
    Calls Tryz.prog 48 #[.slice a 0 c, .string sep] w fun e w' => e = .returned (.string ⟨#[]⟩) ∧ w' = w := Any.strings_Join_none Tryz.lays156 Tryz.Builder_Extra_156 a c sep w
open Go.RowKit in
theorem Tryz.strings_Join (bk o c : Nat) (xs : List ByteArray) (sep : ByteArray) (w : World) (hcells : ∀ (j : Nat) x, xs[j]? = some x → w.cell? ⟨bk, o + j, none⟩ = some (.string x)) (hbk : bk < w.heap.size) (hN : xs.length ≤ 140737488355328) (hcap : xs.length ≤ c) (hlen : (Lib.join (xs.map (·.data.toList)) sep.data.toList).length ≤ 140737488355328) :
    Calls Tryz.prog 48 #[.slice (some ⟨bk, o, none⟩) xs.length c, .string sep] w fun e w' => e = .returned (.string ⟨(Lib.join (xs.map (·.data.toList)) sep.data.toList).toArray⟩) ∧ Below w.heap.size w w' := Any.strings_Join Tryz.lays156 Tryz.Builder_Extra_156 bk o c xs sep w hcells hbk hN hcap hlen
open Go.RowKit Go.Sort Go.Lib in
def Tryz.laysM171_ren : Go.Shelf.Ren := ⟨fun | 171 => 46 | 243 => 93 | 246 => 148 | 283 => 198 | 284 => 199 | 285 => 200 | 286 => 201 | 129 => 245 | 317 => 244 | 318 => 246 | 319 => 247 | 320 => 248 | 337 => 264 | 338 => 265 | n => n, fun | 3 => 3 | 9 => 9 | 2 => 2 | 4 => 4 | 171 => 328 | 0 => 0 | 53 => 329 | 37 => 174 | 5 => 5 | 173 => 332 | 212 => 371 | 51 => 163 | 20 => 20 | 213 => 372 | 46 => 175 | 232 => 396 | 233 => 225 | n => n, fun | 17 => 20 | 18 => 21 | 19 => 22 | n => n⟩
theorem Tryz.laysM171 : Go.Proofs.LaysM.n171 Tryz.prog Tryz.laysM171_ren := {
  mixed := by kernel_rfl
  f129 := func245.trans (congrArg some (by kernel_rfl))
  f171 := func46.trans (congrArg some (by kernel_rfl))
  f243 := func93.trans (congrArg some (by kernel_rfl))
  f246 := func148.trans (congrArg some (by kernel_rfl))
  f283 := func198.trans (congrArg some (by kernel_rfl))
  f284 := func199.trans (congrArg some (by kernel_rfl))
  f285 := func200.trans (congrArg some (by kernel_rfl))
  f286 := func201.trans (congrArg some (by kernel_rfl))
  f317 := func244.trans (congrArg some (by kernel_rfl))
  f318 := func246.trans (congrArg some (by kernel_rfl))
  f319 := func247.trans (congrArg some (by kernel_rfl))
  f320 := func248.trans (congrArg some (by kernel_rfl))
  f337 := func264.trans (congrArg some (by kernel_rfl))
  f338 := func265.trans (congrArg some (by kernel_rfl))
  t0 := underlying0
  a0 := isAgg0
  z0 := sizeOf0
  v0 := zeroValue0
  t2 := underlying2
  a2 := isAgg2
  z2 := sizeOf2
  v2 := zeroValue2
  t3 := underlying3
  a3 := isAgg3
  z3 := sizeOf3
  v3 := zeroValue3
  t4 := underlying4
  a4 := isAgg4
  z4 := sizeOf4
  v4 := zeroValue4
  t5 := underlying5
  a5 := isAgg5
  z5 := sizeOf5
  v5 := zeroValue5
  t9 := underlying9
  a9 := isAgg9
  z9 := sizeOf9
  v9 := zeroValue9
  t20 := underlying20
  a20 := isAgg20
  z20 := sizeOf20
  v20 := zeroValue20
  t37 := underlying174
  a37 := isAgg174
  z37 := sizeOf174
  v37 := zeroValue174
  t46 := underlying175
  a46 := isAgg175
  z46 := sizeOf175
  v46 := zeroValue175
  t51 := underlying163
  a51 := isAgg163
  z51 := sizeOf163
  v51 := zeroValue163
  t53 := underlying329
  a53 := isAgg329
  z53 := sizeOf329
  v53 := zeroValue329
  t171 := underlying328
  a171 := isAgg328
  z171 := sizeOf328
  v171 := zeroValue328
  t173 := underlying332
  a173 := isAgg332
  z173 := sizeOf332
  v173 := zeroValue332
  t212 := underlying371
  a212 := isAgg371
  z212 := sizeOf371
  v212 := zeroValue371
  t213 := underlying372
  a213 := isAgg372
  z213 := sizeOf372
  t232 := underlying396
  a232 := isAgg396
  z232 := sizeOf396
  v232 := zeroValue396
  t233 := underlying225
  a233 := isAgg225
  z233 := sizeOf225
  v233 := zeroValue225
  g17 := by kernel_rfl
  g18 := by kernel_rfl
  g19 := by kernel_rfl
  i0 := by kernel_rfl
  i2 := by kernel_rfl
  i3 := by kernel_rfl
  i4 := by kernel_rfl
  i5 := by kernel_rfl
  i9 := by kernel_rfl
  i20 := by kernel_rfl
  i37 := by kernel_rfl
  i46 := by kernel_rfl
  i51 := by kernel_rfl
  i53 := by kernel_rfl
  i171 := by kernel_rfl
  i173 := by kernel_rfl
  i212 := by kernel_rfl
  i232 := by kernel_rfl
  i233 := by kernel_rfl
  m17 := by kernel_rfl
  m18 := by kernel_rfl
  m19 := by kernel_rfl }
open Go.RowKit Go.Sort Go.Lib in
theorem Tryz.strconv_Itoa (n : Int) (h0 : -9223372036854775808 ≤ n) (h1 : n ≤ 9223372036854775807) (w : World) (htab : Lib.TabIs Tryz.prog w "internal/strconv.uint64pow10" .u64 Lib.pow10Tab) :
    Calls Tryz.prog 46 #[.int .i64 n] w fun e w' => e = .returned (.string ⟨(Lib.itoa n).toArray⟩) ∧ ∃ k os, w' = grow (w.drewN k) os := Any.strconv_Itoa Tryz.laysM171 n h0 h1 w htab
open Go.RowKit Go.Lib in
def Tryz.lays145_ren : Go.Shelf.Ren := ⟨fun | 145 => 51 | 220 => 104 | 219 => 162 | 217 => 209 | 225 => 210 | 224 => 211 | 267 => 212 | 266 => 251 | 314 => 252 | n => n, fun | 9 => 9 | 4 => 4 | 59 => 115 | 3 => 3 | 5 => 5 | 46 => 175 | 146 => 376 | 51 => 163 | n => n, fun | 1 => 14 | n => n⟩
theorem Tryz.lays145 : Go.Proofs.Lays.n145 Tryz.prog Tryz.lays145_ren := {
  mixed := by kernel_rfl
  f145 := func51.trans (congrArg some (by kernel_rfl))
  f217 := func209.trans (congrArg some (by kernel_rfl))
  f219 := func162.trans (congrArg some (by kernel_rfl))
  f220 := func104.trans (congrArg some (by kernel_rfl))
  f224 := func211.trans (congrArg some (by kernel_rfl))
  f225 := func210.trans (congrArg some (by kernel_rfl))
  f266 := func251.trans (congrArg some (by kernel_rfl))
  f267 := func212.trans (congrArg some (by kernel_rfl))
  f314 := func252.trans (congrArg some (by kernel_rfl))
  t3 := underlying3
  a3 := isAgg3
  z3 := sizeOf3
  v3 := zeroValue3
  t4 := underlying4
  a4 := isAgg4
  z4 := sizeOf4
  v4 := zeroValue4
  t5 := underlying5
  a5 := isAgg5
  z5 := sizeOf5
  v5 := zeroValue5
  t9 := underlying9
  a9 := isAgg9
  z9 := sizeOf9
  v9 := zeroValue9
  t46 := underlying175
  a46 := isAgg175
  z46 := sizeOf175
  v46 := zeroValue175
  t51 := underlying163
  a51 := isAgg163
  z51 := sizeOf163
  v51 := zeroValue163
  t59 := underlying115
  a59 := isAgg115
  z59 := sizeOf115
  v59 := zeroValue115
  t146 := underlying376
  a146 := isAgg376
  z146 := sizeOf376
  v146 := zeroValue376
  g1 := by kernel_rfl }
open Go.RowKit Go.Lib in
theorem Tryz.strings_Cut (s sep : ByteArray) (m : Int) (w : World) (hs : s.size < 4294967281) (hm : w.cell? ⟨14, 0, none⟩ = some (.int .i64 m)) :
    Calls Tryz.prog 51 #[.string s, .string sep] w fun e w' => e = .returned (.tuple #[.string ⟨(Lib.cut s.data.toList sep.data.toList).1.toArray⟩, .string ⟨(Lib.cut s.data.toList sep.data.toList).2.1.toArray⟩, .bool (Lib.cut s.data.toList sep.data.toList).2.2]) ∧ ∃ n, w' = w.drewN n := Any.strings_Cut Tryz.lays145 s sep m w hs hm
def Tryz.laysM145_ren : Go.Shelf.Ren := ⟨fun | 145 => 51 | 220 => 104 | 219 => 162 | 217 => 209 | 225 => 210 | 224 => 211 | 267 => 212 | 266 => 251 | 314 => 252 | n => n, fun | 9 => 9 | 4 => 4 | 59 => 115 | 3 => 3 | 5 => 5 | 46 => 175 | 146 => 376 | 51 => 163 | n => n, fun | 1 => 14 | n => n⟩
theorem Tryz.laysM145 : Go.Proofs.LaysM.n145 Tryz.prog Tryz.laysM145_ren := {
  mixed := by kernel_rfl
  f145 := func51.trans (congrArg some (by kernel_rfl))
  f217 := func209.trans (congrArg some (by kernel_rfl))
  f219 := func162.trans (congrArg some (by kernel_rfl))
  f220 := func104.trans (congrArg some (by kernel_rfl))
  f224 := func211.trans (congrArg some (by kernel_rfl))
  f225 := func210.trans (congrArg some (by kernel_rfl))
  f266 := func251.trans (congrArg some (by kernel_rfl))
  f267 := func212.trans (congrArg some (by kernel_rfl))
  f314 := func252.trans (congrArg some (by kernel_rfl))
  t3 := underlying3
  a3 := isAgg3
  z3 := sizeOf3
  v3 := zeroValue3
  t4 := underlying4
  a4 := isAgg4
  z4 := sizeOf4
  v4 := zeroValue4
  t5 := underlying5
  a5 := isAgg5
  z5 := sizeOf5
  v5 := zeroValue5
  t9 := underlying9
  a9 := isAgg9
  z9 := sizeOf9
  v9 := zeroValue9
  t46 := underlying175
  a46 := isAgg175
  z46 := sizeOf175
  v46 := zeroValue175
  t51 := underlying163
  a51 := isAgg163
  z51 := sizeOf163
  v51 := zeroValue163
  t59 := underlying115
  a59 := isAgg115
  z59 := sizeOf115
  v59 := zeroValue115
  t146 := underlying376
  a146 := isAgg376
  z146 := sizeOf376
  v146 := zeroValue376
  g1 := by kernel_rfl
  i3 := by kernel_rfl
  i4 := by kernel_rfl
  i5 := by kernel_rfl
  i9 := by kernel_rfl
  i46 := by kernel_rfl
  i51 := by kernel_rfl
  i59 := by kernel_rfl
  i146 := by kernel_rfl
  m1 := by kernel_rfl
  s1_3 := fun w h => Go.Proofs.cell_of_shapedOpen_int (zero := #[.int .i64 0]) (t := 3) h (of_decide_eq_true (by kernel_rfl)) (by kernel_rfl) rfl (by kernel_rfl) (by kernel_rfl) underlying3 }
def Tryz.laysGu47_ren : Go.Shelf.Ren := ⟨fun | 47 => 296 | n => n, fun | 24 => 201 | 3 => 3 | 0 => 0 | n => n, fun | n => n⟩
theorem Tryz.laysGu47 : Go.Proofs.LaysGu.n47 Tryz.prog Tryz.laysGu47_ren := {
  mixed := by kernel_rfl
  f47 := func296.trans (congrArg some (by kernel_rfl))
  t0 := underlying0
  a0 := isAgg0
  z0 := sizeOf0
  v0 := zeroValue0
  i0 := by kernel_rfl
  t3 := underlying3
  a3 := isAgg3
  z3 := sizeOf3
  v3 := zeroValue3
  i3 := by kernel_rfl
  t24 := underlying201
  a24 := isAgg201
  z24 := sizeOf201
  v24 := zeroValue201
  i24 := by kernel_rfl }
open Go.RowKit Go.Lib Go.Sort in
theorem Tryz.IntSlice_Swap (blk off c size : Nat) (W : World) (x y : Int) (i j : Nat) (hi : i < size) (hj : j < size) (_hsz : size < 4611686018427387904) (ci : W.cell? ⟨blk, off + i, none⟩ = some (.int .i64 x)) (cj : W.cell? ⟨blk, off + j, none⟩ = some (.int .i64 y)) (fi : W.frozen? ⟨blk, off + i, none⟩ = false) (fj : W.frozen? ⟨blk, off + j, none⟩ = false) :
    Calls Tryz.prog 296 #[.slice (some ⟨blk, off, none⟩) size c, .int .i64 i, .int .i64 j] W fun e w' => e = .returned (.tuple #[]) ∧ ∃ q, w' = ((W.setCell ⟨blk, off + i, none⟩ (.int .i64 y)).setCell ⟨blk, off + j, none⟩ (.int .i64 x)).drewN q := Any.IntSlice_Swap Tryz.laysGu47 blk off c size W x y i j hi hj _hsz ci cj fi fj
end Go.Proofs

namespace Go.Proofs.YtdnjanhdnibkfaaGreatDoor.Jd
open Go.Proofs.Tryz
open Go.Proofs
open Go.RowKit (Below)
set_option maxRecDepth 100000
set_option maxHeartbeats 8000000
set_option linter.unusedVariables false
set_option linter.unusedSimpArgs false
def Rg : List Int := [1116352408, 1899447441, 3049323471, 3921009573, 961987163, 1508970993, 2453635748, 2870763221, 3624381080, 310598401, 607225278, 1426881987, 1925078388, 2162078206, 2614888103, 3248222580, 3835390401, 4022224774, 264347078, 604807628, 770255983, 1249150122, 1555081692, 1996064986, 2554220882, 2821834349, 2952996808, 3210313671, 3336571891, 3584528711, 113926993, 338241895, 666307205, 773529912, 1294757372, 1396182291, 1695183700, 1986661051, 2177026350, 2456956037, 2730485921, 2820302411, 3259730800, 3345764771, 3516065817, 3600352804, 4094571909, 275423344, 430227734, 506948616, 659060556, 883997877, 958139571, 1322822218, 1537002063, 1747873779, 1955562222, 2024104815, 2227730452, 2361852424, 2428436474, 2756734187, 3204031479, 3329325298]
theorem nS : Rg.length = 64 := rfl
def AE0 (x : Int) (k : Int) : Int := (jZ .u32 (Ym .u32 x (Ca .u64 (IntKind.u64.wrap k) 31)) (Ab .u32 x (IntKind.u64.wrap (32 - (Ca .u64 (IntKind.u64.wrap k) 31)))))
def gK (w_ : Int) (n_ : Int) : Int := (AE0 w_ (IntKind.wrap .i64 (0 - n_)))
def N7 (w_ : Int) (a : Int) (b : Int) (c : Int) : Int := (Fr .u32 (Fr .u32 (gK w_ a) (gK w_ b)) (gK w_ c))
def pI (w_ : Int) : Int := (Fr .u32 (Fr .u32 (gK w_ 7) (gK w_ 18)) (Ab .u32 w_ 3))
def pJ (w_ : Int) : Int := (Fr .u32 (Fr .u32 (gK w_ 17) (gK w_ 19)) (Ab .u32 w_ 10))
def gL (w_ : Int) : Int := (N7 w_ 2 13 22)
def Wp (w_ : Int) : Int := (N7 w_ 6 11 25)
def Ll (b : Ai) (x_1 : Nat) (x_2 : List Int) : Nat → Nat → List Int → Nat × (List Int)
  | 0, x_7, x_8 => (x_7, x_8)
  | n_9 + 1, x_7, x_8 => (if ((x_7 : Nat) : Int) < ((((Je ((b.take ((4 * x_1) + 4)).drop (4 * x_1))).length) : Nat) : Int) then (Ll b x_1 x_2 n_9 (x_7 + 1) (x_8.set x_1 (jZ .u32 (Ym .u32 (x_8.getD x_1 default) 8) (IntKind.u32.wrap ((Je ((b.take ((4 * x_1) + 4)).drop (4 * x_1))).getD x_7 default))))) else (x_7, x_8))
def Jw (b : Ai) : Nat → Nat → List Int → Nat × (List Int)
  | 0, x_1, x_2 => (x_1, x_2)
  | n_3 + 1, x_1, x_2 => (if ((x_1 : Nat) : Int) < 64 then (if ((x_1 : Nat) : Int) < 16 then (Iw (Ll b x_1 x_2 (((Je ((b.take ((4 * x_1) + 4)).drop (4 * x_1))).length) + 1) 0 x_2) (fun x_7 x_8 => (Jw b n_3 (x_1 + 1) x_8))) else (Jw b n_3 (x_1 + 1) (x_2.set x_1 (IntKind.u32.wrap ((IntKind.u32.wrap ((IntKind.u32.wrap ((x_2.getD (((((x_1 : Nat) : Int) - 16)).toNat) default) + (pI (x_2.getD (((((x_1 : Nat) : Int) - 15)).toNat) default)))) + (x_2.getD (((((x_1 : Nat) : Int) - 7)).toNat) default))) + (pJ (x_2.getD (((((x_1 : Nat) : Int) - 2)).toNat) default))))))) else (x_1, x_2))
def Pq (b : Ai) : List Int := (Iw (Jw b (64 + 1) 0 (List.replicate 64 (0 : Int))) (fun x_1 x_2 => x_2))
def Yz (s : Ai) : Nat → List Int → List Int
  | 0, out_1 => (out_1)
  | n_2 + 1, out_1 => (if (((out_1.length : Nat) : Int) % 64) ≠ 56 then (Yz s n_2 (out_1 ++ ([0] : List Int))) else (out_1))
def kJ (s : Ai) : Ai := (Ns (Yz s ((120 - ((Je s) ++ ([128] : List Int)).length % 64) % 64 + 1) ((Je s) ++ ([128] : List Int))) (fun out_1 => (Md ((((((((out_1 ++ ([(IntKind.u8.wrap (Ab .i64 (((s.length : Nat) : Int) * 8) 56))] : List Int)) ++ ([(IntKind.u8.wrap (Ab .i64 (((s.length : Nat) : Int) * 8) 48))] : List Int)) ++ ([(IntKind.u8.wrap (Ab .i64 (((s.length : Nat) : Int) * 8) 40))] : List Int)) ++ ([(IntKind.u8.wrap (Ab .i64 (((s.length : Nat) : Int) * 8) 32))] : List Int)) ++ ([(IntKind.u8.wrap (Ab .i64 (((s.length : Nat) : Int) * 8) 24))] : List Int)) ++ ([(IntKind.u8.wrap (Ab .i64 (((s.length : Nat) : Int) * 8) 16))] : List Int)) ++ ([(IntKind.u8.wrap (Ab .i64 (((s.length : Nat) : Int) * 8) 8))] : List Int)) ++ ([(IntKind.u8.wrap (Ab .i64 (((s.length : Nat) : Int) * 8) 0))] : List Int)))))
def Za (s : Ai) (x_1 : Int) (x_2 : Int) (x_3 : Int) (x_4 : Int) (x_5 : Int) (x_6 : Int) (x_7 : Int) (x_8 : Int) (x_9 : Ai) : Nat → Nat → Int → Int → Int → Int → Int → Int → Int → Int → Nat × Int × Int × Int × Int × Int × Int × Int × Int
  | 0, x_13, x_14, x_15, x_16, x_17, x_18, x_19, x_20, x_21 => (x_13, x_14, x_15, x_16, x_17, x_18, x_19, x_20, x_21)
  | n_22 + 1, x_13, x_14, x_15, x_16, x_17, x_18, x_19, x_20, x_21 => (if ((x_13 : Nat) : Int) < 64 then (Za s x_1 x_2 x_3 x_4 x_5 x_6 x_7 x_8 x_9 n_22 (x_13 + 1) (IntKind.u32.wrap ((IntKind.u32.wrap ((IntKind.u32.wrap ((IntKind.u32.wrap ((IntKind.u32.wrap (x_21 + (Wp x_18))) + (Fr .u32 (Ca .u32 x_18 x_19) (Ca .u32 (Fr .u32 (IntKind.max .u32) x_18) x_20)))) + (Rg.getD x_13 default))) + ((Pq (x_9.take 64)).getD x_13 default))) + (IntKind.u32.wrap ((gL x_14) + (Fr .u32 (Fr .u32 (Ca .u32 x_14 x_15) (Ca .u32 x_14 x_16)) (Ca .u32 x_15 x_16)))))) x_14 x_15 x_16 (IntKind.u32.wrap (x_17 + (IntKind.u32.wrap ((IntKind.u32.wrap ((IntKind.u32.wrap ((IntKind.u32.wrap (x_21 + (Wp x_18))) + (Fr .u32 (Ca .u32 x_18 x_19) (Ca .u32 (Fr .u32 (IntKind.max .u32) x_18) x_20)))) + (Rg.getD x_13 default))) + ((Pq (x_9.take 64)).getD x_13 default))))) x_18 x_19 x_20) else (x_13, x_14, x_15, x_16, x_17, x_18, x_19, x_20, x_21))
def Zb (s : Ai) : Nat → Int → Int → Int → Int → Int → Int → Int → Int → Ai → Int × Int × Int × Int × Int × Int × Int × Int × Ai
  | 0, x_1, x_2, x_3, x_4, x_5, x_6, x_7, x_8, x_9 => (x_1, x_2, x_3, x_4, x_5, x_6, x_7, x_8, x_9)
  | n_10 + 1, x_1, x_2, x_3, x_4, x_5, x_6, x_7, x_8, x_9 => (if 64 ≤ ((x_9.length : Nat) : Int) then (L9 (Za s x_1 x_2 x_3 x_4 x_5 x_6 x_7 x_8 x_9 (64 + 1) 0 x_1 x_2 x_3 x_4 x_5 x_6 x_7 x_8) (fun x_13 x_14 x_15 x_16 x_17 x_18 x_19 x_20 x_21 => (Zb s n_10 (IntKind.u32.wrap (x_1 + x_14)) (IntKind.u32.wrap (x_2 + x_15)) (IntKind.u32.wrap (x_3 + x_16)) (IntKind.u32.wrap (x_4 + x_17)) (IntKind.u32.wrap (x_5 + x_18)) (IntKind.u32.wrap (x_6 + x_19)) (IntKind.u32.wrap (x_7 + x_20)) (IntKind.u32.wrap (x_8 + x_21)) (x_9.drop 64)))) else (x_1, x_2, x_3, x_4, x_5, x_6, x_7, x_8, x_9))
def Kz (s : Ai) : Ai := (L9 (Zb s ((kJ s).length + 1) 1779033703 3144134277 1013904242 2773480762 1359893119 2600822924 528734635 1541459225 (kJ s)) (fun x_1 x_2 x_3 x_4 x_5 x_6 x_7 x_8 x_9 => (Md (((((((([(IntKind.u8.wrap (Ab .u32 x_1 24)), (IntKind.u8.wrap (Ab .u32 x_1 16)), (IntKind.u8.wrap (Ab .u32 x_1 8)), (IntKind.u8.wrap x_1)] : List Int) ++ ([(IntKind.u8.wrap (Ab .u32 x_2 24)), (IntKind.u8.wrap (Ab .u32 x_2 16)), (IntKind.u8.wrap (Ab .u32 x_2 8)), (IntKind.u8.wrap x_2)] : List Int)) ++ ([(IntKind.u8.wrap (Ab .u32 x_3 24)), (IntKind.u8.wrap (Ab .u32 x_3 16)), (IntKind.u8.wrap (Ab .u32 x_3 8)), (IntKind.u8.wrap x_3)] : List Int)) ++ ([(IntKind.u8.wrap (Ab .u32 x_4 24)), (IntKind.u8.wrap (Ab .u32 x_4 16)), (IntKind.u8.wrap (Ab .u32 x_4 8)), (IntKind.u8.wrap x_4)] : List Int)) ++ ([(IntKind.u8.wrap (Ab .u32 x_5 24)), (IntKind.u8.wrap (Ab .u32 x_5 16)), (IntKind.u8.wrap (Ab .u32 x_5 8)), (IntKind.u8.wrap x_5)] : List Int)) ++ ([(IntKind.u8.wrap (Ab .u32 x_6 24)), (IntKind.u8.wrap (Ab .u32 x_6 16)), (IntKind.u8.wrap (Ab .u32 x_6 8)), (IntKind.u8.wrap x_6)] : List Int)) ++ ([(IntKind.u8.wrap (Ab .u32 x_7 24)), (IntKind.u8.wrap (Ab .u32 x_7 16)), (IntKind.u8.wrap (Ab .u32 x_7 8)), (IntKind.u8.wrap x_7)] : List Int)) ++ ([(IntKind.u8.wrap (Ab .u32 x_8 24)), (IntKind.u8.wrap (Ab .u32 x_8 16)), (IntKind.u8.wrap (Ab .u32 x_8 8)), (IntKind.u8.wrap x_8)] : List Int)))))
end Go.Proofs.YtdnjanhdnibkfaaGreatDoor.Jd

namespace Go.Proofs.YtdnjanhdnibkfaaGreatDoor.Jd
open Go.Proofs.Tryz
open Go.Proofs
open Go.RowKit (Below)
set_option linter.unusedVariables false
set_option linter.unusedSimpArgs false
/-- What the library's variables hold where a call begins. -/
structure Gl (w : World) : Prop where
  mx : ∃ m, w.cell? ⟨14, 0, none⟩ = some (.int .i64 m)
  p10 : Lib.TabIs Tryz.prog w "internal/strconv.uint64pow10" .u64 Lib.pow10Tab
  vb : ∃ T f, w.heap[15]? = some (Obj.cells ([(Value.int .i64 (1)), (Value.string (bs ([99, 114, 101, 97, 116, 101] : Ai))), (Value.int .i64 (4)), (Value.int .i64 (2)), (Value.string (bs ([115, 117, 115, 112, 101, 110, 100] : Ai))), (Value.int .i64 (2)), (Value.int .i64 (3)), (Value.string (bs ([114, 101, 115, 117, 109, 101] : Ai))), (Value.int .i64 (2)), (Value.int .i64 (4)), (Value.string (bs ([100, 114, 97, 105, 110] : Ai))), (Value.int .i64 (2)), (Value.int .i64 (5)), (Value.string (bs ([100, 101, 108, 101, 116, 101] : Ai))), (Value.int .i64 (4)), (Value.int .i64 (6)), (Value.string (bs ([114, 111, 116, 97, 116, 101] : Ai))), (Value.int .i64 (4)), (Value.int .i64 (7)), (Value.string (bs ([97, 99, 108] : Ai))), (Value.int .i64 (4)), (Value.int .i64 (8)), (Value.string (bs ([107, 105, 108, 108] : Ai))), (Value.int .i64 (2)), (Value.int .i64 (9)), (Value.string (bs ([108, 105, 115, 116] : Ai))), (Value.int .i64 (1)), (Value.int .i64 (10)), (Value.string (bs ([115, 104, 111, 119] : Ai))), (Value.int .i64 (1))]).toArray T f)
  sha : ∃ T f, w.heap[11]? = some (Obj.cells (aI .u32 Rg).toArray T f)
  ety : w.cell? ⟨12, 0, none⟩ = some (.iface 317 (.agg #[.pointer (some ⟨23, 93, none⟩)]))
theorem N8 {w w' : World} (he : aD w w') {name : String} {cs : Array Value} (h : w.var? Tryz.prog name = some cs) : w'.var? Tryz.prog name = some cs := by
  unfold World.var? at *
  cases hg : Tryz.prog.globalNamed name with
  | none => rw [hg] at h; cases h
  | some b =>
    rw [hg] at h
    simp only [Option.bind_some] at h ⊢
    cases hb : w.heap[b]? with
    | none => rw [hb] at h; cases h
    | some ob =>
      rw [he.block b (Array.getElem?_eq_some_iff.1 hb).1]
      exact h
theorem xW {w w' : World} (he : aD w w') {k : Nat} (h : ∃ m, w.cell? ⟨k, 0, none⟩ = some (.int .i64 m)) : ∃ m, w'.cell? ⟨k, 0, none⟩ = some (.int .i64 m) := by
  obtain ⟨m, hm⟩ := h
  refine ⟨m, ?_⟩
  have hlt := World.block_lt_of_cell? w _ hm
  simp only [World.cell?] at hm ⊢
  rw [he.block _ hlt]
  exact hm
theorem sP {w w' : World} (he : aD w w') {a : Addr} {v : Value} (h : w.cell? a = some v) : w'.cell? a = some v := by
  have hlt := World.block_lt_of_cell? w _ h
  simp only [World.cell?] at h ⊢
  rw [he.block _ hlt]
  exact h
theorem pK {w w' : World} (he : aD w w') {k : Nat} {cs : Array Value} (h : ∃ T f, w.heap[k]? = some (Obj.cells cs T f)) : ∃ T f, w'.heap[k]? = some (Obj.cells cs T f) := by
  obtain ⟨T, f, h⟩ := h
  exact ⟨T, f, by rw [he.block k (Array.getElem?_eq_some_iff.1 h).1]; exact h⟩
theorem Gl.ext {w w' : World} (h : Gl w) (he : aD w w') : Gl w' := ⟨xW he h.mx, N8 he h.p10, pK he h.vb, pK he h.sha, sP he h.ety⟩
theorem dY (w : World) (n : Nat) : aD w (w.drewN n) := ⟨rfl, rfl, rfl, Nat.le_refl _, fun _ _ => rfl⟩
theorem xX (w : World) (os : Array Obj) : aD w (Sort.grow w os) := ⟨rfl, rfl, rfl, by simp [Sort.grow], fun k hk => by
  simp only [Sort.grow]
  exact Array.getElem?_append_left hk⟩
theorem Va (s : Ai) : (bs s).data.toList = s := by simp [bs]
theorem bF (w : World) {s sep : Ai} (hG : Gl w) (hn : s.length ≤ 4000000000) : Gz Tryz.prog 51 [.string (bs s), .string (bs sep)] w (.tuple [.string (bs (Lib.cut s sep).1), .string (bs (Lib.cut s sep).2.1), .bool (Lib.cut s sep).2.2].toArray) := by
  obtain ⟨m, hm⟩ := hG.mx
  refine (Tryz.strings_Cut (bs s) (bs sep) m w (by rw [Ha]; omega) hm).mono fun e w' ⟨he, n, hw⟩ => ⟨?_, hw ▸ dY w n⟩
  rw [he, Va, Va]; rfl

theorem Nf (w : World) {n : Int} (hG : Gl w) (hn : -9223372036854775808 ≤ n ∧ n ≤ 9223372036854775807) : Gz Tryz.prog 46 [.int .i64 n] w (.string (bs (Lib.itoa n))) := by
  refine (Tryz.strconv_Itoa n hn.1 hn.2 w hG.p10).mono fun e w' ⟨he, k, os, hw⟩ => ⟨he, ?_⟩
  subst hw
  exact (dY w k).trans ((xX _ os).mono Hs)

theorem Zc (w : World) {a : Option Addr} {c : Nat} {xs : List Ai} {sep : Ai} (h_xs : Sl w eS 1 a xs) (hc : xs.length ≤ c) (hn : xs.length ≤ 1000000) (hl : (Lib.join xs sep).length ≤ 1000000) : Gz Tryz.prog 48 [.slice a xs.length c, .string (bs sep)] w (.string (bs (Lib.join xs sep))) := by
  by_cases hx : xs = []
  · subst hx
    refine (Tryz.strings_Join_none a c (bs sep) w).mono fun e w' ⟨he, hw⟩ => ⟨he, hw ▸ Below.refl _ _⟩
  · obtain ⟨x0, hx0⟩ : ∃ x, xs[0]? = some x := by cases xs with
      | nil => exact absurd rfl hx
      | cons x r => exact ⟨x, rfl⟩
    obtain ⟨b, off, rfl, _, hc0⟩ := h_xs 0 x0 hx0
    have hb : b < w.heap.size := World.block_lt_of_cell? w _ (hc0 0 _ rfl)
    have hm : (xs.map bs).map (fun x : ByteArray => x.data.toList) = xs := by
      rw [List.map_map]
      conv => rhs; rw [← List.map_id xs]
      exact List.map_congr_left fun x _ => Va x
    have := Tryz.strings_Join b off c (xs.map bs) (bs sep) w (fun j x hj => by
      rw [List.getElem?_map] at hj
      cases hy : xs[j]? with
      | none => rw [hy] at hj; cases hj
      | some y =>
        rw [hy] at hj; cases hj
        obtain ⟨b', off', he, _, hcj⟩ := h_xs j y hy
        cases he
        have := hcj 0 _ rfl
        simpa using this) hb (by rw [List.length_map]; omega) (by rw [List.length_map]; exact hc) (by rw [hm, Va]; omega)
    rw [List.length_map] at this
    refine this.mono fun e w' ⟨he, hw⟩ => ⟨?_, hw⟩
    rw [he, hm, Va]; rfl

end Go.Proofs.YtdnjanhdnibkfaaGreatDoor.Jd

namespace Go.Proofs.YtdnjanhdnibkfaaGreatDoor.Jd
open Go.Proofs.Tryz
open Go.Proofs
set_option maxRecDepth 100000
open Go.RowKit Go.Extern.Stop Go.Stop Go.Extern
set_option linter.unusedVariables false
set_option linter.unusedSimpArgs false
theorem kK (v : Value) (w : World) : (Extern.ReflectliteType.typeOf #[.iface 400 v]).run Tryz.prog w = .ok (.iface 317 (.agg #[.pointer (some ⟨23, 400, none⟩)])) w := by kernel_rfl
theorem Vb (w : World) : ((Extern.ReflectliteType.method fun t => do Extern.Rtype.noPackHeld "Comparable" t; pure (.bool (← typeInfo t).comparable)) #[.agg #[.pointer (some ⟨23, 400, none⟩)]]).run Tryz.prog w = .ok (.bool true) w := by kernel_rfl
theorem Mf (v : Value) (w : World) : (Go.method 530 317 v "Comparable").run Tryz.prog w = .ok (306, v) w := by kernel_rfl
theorem xY : (Tryz.prog.info? 400).map (·.comparable) = some true := by kernel_rfl
theorem xZ : (Tryz.prog.info? 419).map (·.size) = some 1 := by kernel_rfl
theorem AO8 (v : Value) (xT : TypeId) (w : World) : (Instr.typeAssert (.iface 400 v) xT 319 true).run Tryz.prog w = .ok (.tuple #[.nilIface, .bool false]) w := run_typeAssert_lacksB underlying319 z6 z6 v xT w
theorem sQ (v : Value) (xT : TypeId) (w : World) : (Instr.typeAssert (.iface 400 v) xT 322 true).run Tryz.prog w = .ok (.tuple #[.nilIface, .bool false]) w := run_typeAssert_lacksB underlying322 z6 z6 v xT w
theorem nT (v : Value) (xT : TypeId) (w : World) : (Instr.typeAssert (.iface 400 v) xT 324 true).run Tryz.prog w = .ok (.tuple #[.nilIface, .bool false]) w := run_typeAssert_lacksB underlying324 z6 z6 v xT w
theorem N9 (a : Addr) (w : World) :
    Calls Tryz.prog 81 #[.iface 400 (.pointer (some a)), .iface 400 (.pointer (some a))] w fun e w' => e = .returned (.bool true) ∧ w' = w := by
  obtain ⟨i, hi, hcmp⟩ := Option.map_eq_some_iff.1 xY
  obtain ⟨j, hj, hjs⟩ := Option.map_eq_some_iff.1 xZ
  have h8 := @run_callFunc_extern Tryz.prog 132 _ Extern.ReflectliteType.typeOf func132 z6 z6 z6 z6
  have h32 := fun w => (@run_callFunc_extern Tryz.prog 306 _ (Extern.ReflectliteType.method fun t => do Extern.Rtype.noPackHeld "Comparable" t; pure (.bool (← typeInfo t).comparable)) func306 z6 z6 z6 z6 #[.agg #[.pointer (some ⟨23, 400, none⟩)]] w).trans (by rw [Vb]; rfl : _ = Result.ok (Next.value (.bool true)) w)
  have tT := kK
  have mR := Mf
  have heq := run_eql_iface_ptr_same (P := Tryz.prog) w a underlying93 underlying400 hi hcmp hj
  go_enter func81, ntmps81
  go_wp2
  refine wp_loop_rounds 1 ?_
  rw [rounds_succ]
  go_wp2
  go_ret
  exact ⟨rfl, rfl⟩
theorem yA (a b : Addr) (ca cb : Array Value) (ta tb : TypeId) (w : World) (hne : a ≠ b) (ha : w.heap[a.block]? = some (.cells ca ta (0, 0))) (hb : w.heap[b.block]? = some (.cells cb tb (0, 0))) :
    Calls Tryz.prog 81 #[.iface 400 (.pointer (some a)), .iface 400 (.pointer (some b))] w fun e w' => e = .returned (.bool false) ∧ w' = w := by
  obtain ⟨i, hi, hcmp⟩ := Option.map_eq_some_iff.1 xY
  obtain ⟨j, hj, hjs⟩ := Option.map_eq_some_iff.1 xZ
  have h8 := @run_callFunc_extern Tryz.prog 132 _ Extern.ReflectliteType.typeOf func132 z6 z6 z6 z6
  have h32 := fun w => (@run_callFunc_extern Tryz.prog 306 _ (Extern.ReflectliteType.method fun t => do Extern.Rtype.noPackHeld "Comparable" t; pure (.bool (← typeInfo t).comparable)) func306 z6 z6 z6 z6 #[.agg #[.pointer (some ⟨23, 400, none⟩)]] w).trans (by rw [Vb]; rfl : _ = Result.ok (Next.value (.bool true)) w)
  have tT := kK
  have mR := Mf
  have nE := AO8
  have uE := sQ
  have vE := nT
  have heq := run_eql_iface_ptr_other (P := Tryz.prog) w underlying93 underlying400 hi hcmp hj (by rw [hjs]; decide) hne ha hb
  go_enter func81, ntmps81
  go_wp2
  refine wp_loop_rounds 1 ?_
  rw [rounds_succ]
  go_wp2
  go_ret
  exact ⟨rfl, rfl⟩
theorem Hl (w : World) {a : Addr} : Gz Tryz.prog 81 [.iface 400 (.pointer (some a)), .iface 400 (.pointer (some a))] w (.bool true) :=
  (N9 a w).mono fun e w' ⟨he, hw⟩ => ⟨he, hw ▸ Below.refl _ _⟩
theorem Hi (w : World) {a b : Addr} (hne : a ≠ b) (ha : ∃ c t, w.heap[a.block]? = some (.cells c t (0, 0))) (hb : ∃ c t, w.heap[b.block]? = some (.cells c t (0, 0))) : Gz Tryz.prog 81 [.iface 400 (.pointer (some a)), .iface 400 (.pointer (some b))] w (.bool false) := by
  obtain ⟨ca, ta, ha⟩ := ha
  obtain ⟨cb, tb, hb⟩ := hb
  exact (yA a b ca cb ta tb w hne ha hb).mono fun e w' ⟨he, hw⟩ => ⟨he, hw ▸ Below.refl _ _⟩

/-- What the sentinels hold where a call begins. -/
structure Er (w : World) (ea0 ea1 ea2 ea3 ea4 ea5 ea6 ea7 ea8 ea9 ea10 ea11 ea12 ea13 ea14 ea15 : Addr) : Prop where
  v0 : ∃ T f, w.heap[0]? = some (Obj.cells [Value.iface 400 (.pointer (some ea0))].toArray T f)
  b0 : ∃ c t, w.heap[ea0.block]? = some (.cells c t (0, 0))
  v1 : ∃ T f, w.heap[1]? = some (Obj.cells [Value.iface 400 (.pointer (some ea1))].toArray T f)
  b1 : ∃ c t, w.heap[ea1.block]? = some (.cells c t (0, 0))
  v2 : ∃ T f, w.heap[2]? = some (Obj.cells [Value.iface 400 (.pointer (some ea2))].toArray T f)
  b2 : ∃ c t, w.heap[ea2.block]? = some (.cells c t (0, 0))
  v3 : ∃ T f, w.heap[3]? = some (Obj.cells [Value.iface 400 (.pointer (some ea3))].toArray T f)
  b3 : ∃ c t, w.heap[ea3.block]? = some (.cells c t (0, 0))
  v4 : ∃ T f, w.heap[4]? = some (Obj.cells [Value.iface 400 (.pointer (some ea4))].toArray T f)
  b4 : ∃ c t, w.heap[ea4.block]? = some (.cells c t (0, 0))
  v5 : ∃ T f, w.heap[5]? = some (Obj.cells [Value.iface 400 (.pointer (some ea5))].toArray T f)
  b5 : ∃ c t, w.heap[ea5.block]? = some (.cells c t (0, 0))
  v6 : ∃ T f, w.heap[6]? = some (Obj.cells [Value.iface 400 (.pointer (some ea6))].toArray T f)
  b6 : ∃ c t, w.heap[ea6.block]? = some (.cells c t (0, 0))
  v7 : ∃ T f, w.heap[7]? = some (Obj.cells [Value.iface 400 (.pointer (some ea7))].toArray T f)
  b7 : ∃ c t, w.heap[ea7.block]? = some (.cells c t (0, 0))
  v8 : ∃ T f, w.heap[8]? = some (Obj.cells [Value.iface 400 (.pointer (some ea8))].toArray T f)
  b8 : ∃ c t, w.heap[ea8.block]? = some (.cells c t (0, 0))
  v9 : ∃ T f, w.heap[9]? = some (Obj.cells [Value.iface 400 (.pointer (some ea9))].toArray T f)
  b9 : ∃ c t, w.heap[ea9.block]? = some (.cells c t (0, 0))
  v10 : ∃ T f, w.heap[10]? = some (Obj.cells [Value.iface 400 (.pointer (some ea10))].toArray T f)
  b10 : ∃ c t, w.heap[ea10.block]? = some (.cells c t (0, 0))
  v11 : ∃ T f, w.heap[13]? = some (Obj.cells [Value.iface 400 (.pointer (some ea11))].toArray T f)
  b11 : ∃ c t, w.heap[ea11.block]? = some (.cells c t (0, 0))
  v12 : ∃ T f, w.heap[16]? = some (Obj.cells [Value.iface 400 (.pointer (some ea12))].toArray T f)
  b12 : ∃ c t, w.heap[ea12.block]? = some (.cells c t (0, 0))
  v13 : ∃ T f, w.heap[17]? = some (Obj.cells [Value.iface 400 (.pointer (some ea13))].toArray T f)
  b13 : ∃ c t, w.heap[ea13.block]? = some (.cells c t (0, 0))
  v14 : ∃ T f, w.heap[18]? = some (Obj.cells [Value.iface 400 (.pointer (some ea14))].toArray T f)
  b14 : ∃ c t, w.heap[ea14.block]? = some (.cells c t (0, 0))
  v15 : ∃ T f, w.heap[19]? = some (Obj.cells [Value.iface 400 (.pointer (some ea15))].toArray T f)
  b15 : ∃ c t, w.heap[ea15.block]? = some (.cells c t (0, 0))
  n1_0 : ea1 ≠ ea0
  n2_6 : ea2 ≠ ea6
  n3_7 : ea3 ≠ ea7
  n5_0 : ea5 ≠ ea0
  n5_1 : ea5 ≠ ea1
  n8_4 : ea8 ≠ ea4
  n9_4 : ea9 ≠ ea4
  n9_8 : ea9 ≠ ea8
  n10_4 : ea10 ≠ ea4
  n10_8 : ea10 ≠ ea8
  n10_9 : ea10 ≠ ea9
theorem Cl {w w' : World} (he : aD w w') {k : Nat} {ob : Obj} (h : w.heap[k]? = some ob) : w'.heap[k]? = some ob := by rw [he.block k (Array.getElem?_eq_some_iff.1 h).1]; exact h
theorem Er.ext {w w' : World} {ea0 ea1 ea2 ea3 ea4 ea5 ea6 ea7 ea8 ea9 ea10 ea11 ea12 ea13 ea14 ea15 : Addr} (h : Er w ea0 ea1 ea2 ea3 ea4 ea5 ea6 ea7 ea8 ea9 ea10 ea11 ea12 ea13 ea14 ea15) (he : aD w w') : Er w' ea0 ea1 ea2 ea3 ea4 ea5 ea6 ea7 ea8 ea9 ea10 ea11 ea12 ea13 ea14 ea15 :=
  ⟨h.v0.imp fun T h => h.imp fun f h => Cl he h, h.b0.imp fun T h => h.imp fun f h => Cl he h, h.v1.imp fun T h => h.imp fun f h => Cl he h, h.b1.imp fun T h => h.imp fun f h => Cl he h, h.v2.imp fun T h => h.imp fun f h => Cl he h, h.b2.imp fun T h => h.imp fun f h => Cl he h, h.v3.imp fun T h => h.imp fun f h => Cl he h, h.b3.imp fun T h => h.imp fun f h => Cl he h, h.v4.imp fun T h => h.imp fun f h => Cl he h, h.b4.imp fun T h => h.imp fun f h => Cl he h, h.v5.imp fun T h => h.imp fun f h => Cl he h, h.b5.imp fun T h => h.imp fun f h => Cl he h, h.v6.imp fun T h => h.imp fun f h => Cl he h, h.b6.imp fun T h => h.imp fun f h => Cl he h, h.v7.imp fun T h => h.imp fun f h => Cl he h, h.b7.imp fun T h => h.imp fun f h => Cl he h, h.v8.imp fun T h => h.imp fun f h => Cl he h, h.b8.imp fun T h => h.imp fun f h => Cl he h, h.v9.imp fun T h => h.imp fun f h => Cl he h, h.b9.imp fun T h => h.imp fun f h => Cl he h, h.v10.imp fun T h => h.imp fun f h => Cl he h, h.b10.imp fun T h => h.imp fun f h => Cl he h, h.v11.imp fun T h => h.imp fun f h => Cl he h, h.b11.imp fun T h => h.imp fun f h => Cl he h, h.v12.imp fun T h => h.imp fun f h => Cl he h, h.b12.imp fun T h => h.imp fun f h => Cl he h, h.v13.imp fun T h => h.imp fun f h => Cl he h, h.b13.imp fun T h => h.imp fun f h => Cl he h, h.v14.imp fun T h => h.imp fun f h => Cl he h, h.b14.imp fun T h => h.imp fun f h => Cl he h, h.v15.imp fun T h => h.imp fun f h => Cl he h, h.b15.imp fun T h => h.imp fun f h => Cl he h, h.n1_0, h.n2_6, h.n3_7, h.n5_0, h.n5_1, h.n8_4, h.n9_4, h.n9_8, h.n10_4, h.n10_8, h.n10_9⟩
end Go.Proofs.YtdnjanhdnibkfaaGreatDoor.Jd

namespace Go.Proofs.YtdnjanhdnibkfaaGreatDoor.Jd
open Go.Proofs.Tryz
open Go.Proofs
open Go.RowKit (Below)
set_option maxRecDepth 100000
set_option maxHeartbeats 8000000
set_option linter.unusedVariables false
set_option linter.unusedSimpArgs false
structure Handle where
  slot : Int
  gen : Int
instance : Inhabited Handle := ⟨⟨default, default⟩⟩
instance : DecidableEq Handle := fun a b => decidable_of_iff (a.slot = b.slot ∧ a.gen = b.gen) ⟨fun h => by cases a; cases b; simp_all, fun h => by subst h; simp⟩
structure Slots where
  gens : List Int
  used : List Bool
  free : List Int
instance : Inhabited Slots := ⟨⟨default, default, default⟩⟩
instance : DecidableEq Slots := fun a b => decidable_of_iff (a.gens = b.gens ∧ a.used = b.used ∧ a.free = b.free) ⟨fun h => by cases a; cases b; simp_all, fun h => by subst h; simp⟩
def Oi (s : Slots) (x_1 : Nat) (x_6 : Nat) (x_7 : List Int) : Nat → Nat → Int → Nat × Int
  | 0, x_12, x_13 => (x_12, x_13)
  | n_14 + 1, x_12, x_13 => (if ((x_12 : Nat) : Int) < ((s.used.length : Nat) : Int) then (if (s.used.getD x_12 default) = true then (Oi s x_1 x_6 x_7 n_14 (x_12 + 1) (x_13 - 1)) else (Oi s x_1 x_6 x_7 n_14 (x_12 + 1) x_13)) else (x_12, x_13))
def Sa (s : Slots) (x_1 : Nat) : Nat → Nat → List Int → Except Bool (Nat × (List Int))
  | 0, x_6, x_7 => .ok (x_6, x_7)
  | n_8 + 1, x_6, x_7 => (if ((x_6 : Nat) : Int) < ((s.free.length : Nat) : Int) then (if (s.free.getD x_6 default) < 0 then .error false else (if ((s.used.length : Nat) : Int) ≤ (s.free.getD x_6 default) then .error false else (if (s.used.getD (((s.free.getD x_6 default)).toNat) default) = true then .error false else (if (s.free.getD x_6 default) ∈ x_7 then .error false else (Sa s x_1 n_8 (x_6 + 1) (x_7 ++ [(s.free.getD x_6 default)])))))) else .ok (x_6, x_7))
def Oj (s : Slots) (x_1 : Nat) (x_19 : Nat) (x_20 : List Int) : Nat → Nat → Int → Nat × Int
  | 0, x_25, x_26 => (x_25, x_26)
  | n_27 + 1, x_25, x_26 => (if ((x_25 : Nat) : Int) < ((s.used.length : Nat) : Int) then (if (s.used.getD x_25 default) = true then (Oj s x_1 x_19 x_20 n_27 (x_25 + 1) (x_26 - 1)) else (Oj s x_1 x_19 x_20 n_27 (x_25 + 1) x_26)) else (x_25, x_26))
def Sb (s : Slots) (x_1 : Nat) : Nat → Nat → List Int → Except Bool (Nat × (List Int))
  | 0, x_19, x_20 => .ok (x_19, x_20)
  | n_21 + 1, x_19, x_20 => (if ((x_19 : Nat) : Int) < ((s.free.length : Nat) : Int) then (if (s.free.getD x_19 default) < 0 then .error false else (if ((s.used.length : Nat) : Int) ≤ (s.free.getD x_19 default) then .error false else (if (s.used.getD (((s.free.getD x_19 default)).toNat) default) = true then .error false else (if (s.free.getD x_19 default) ∈ x_20 then .error false else (Sb s x_1 n_21 (x_19 + 1) (x_20 ++ [(s.free.getD x_19 default)])))))) else .ok (x_19, x_20))
def Ik (s : Slots) (x_1 : Nat) (x_32 : Nat) (x_33 : List Int) : Nat → Nat → Int → Nat × Int
  | 0, x_38, x_39 => (x_38, x_39)
  | n_40 + 1, x_38, x_39 => (if ((x_38 : Nat) : Int) < ((s.used.length : Nat) : Int) then (if (s.used.getD x_38 default) = true then (Ik s x_1 x_32 x_33 n_40 (x_38 + 1) (x_39 - 1)) else (Ik s x_1 x_32 x_33 n_40 (x_38 + 1) x_39)) else (x_38, x_39))
def Fh (s : Slots) (x_1 : Nat) : Nat → Nat → List Int → Except Bool (Nat × (List Int))
  | 0, x_32, x_33 => .ok (x_32, x_33)
  | n_34 + 1, x_32, x_33 => (if ((x_32 : Nat) : Int) < ((s.free.length : Nat) : Int) then (if (s.free.getD x_32 default) < 0 then .error false else (if ((s.used.length : Nat) : Int) ≤ (s.free.getD x_32 default) then .error false else (if (s.used.getD (((s.free.getD x_32 default)).toNat) default) = true then .error false else (if (s.free.getD x_32 default) ∈ x_33 then .error false else (Fh s x_1 n_34 (x_32 + 1) (x_33 ++ [(s.free.getD x_32 default)])))))) else .ok (x_32, x_33))
def Fv (s : Slots) : Nat → Nat → Except Bool Nat
  | 0, x_1 => .ok (x_1)
  | n_2 + 1, x_1 => (if ((x_1 : Nat) : Int) < ((s.gens.length : Nat) : Int) then (if (s.gens.getD x_1 default) < 0 then .error (if ¬ (¬ (0 ≤ ((x_1 : Nat) : Int))) then false else (Ho (Sa s x_1 (s.free.length + 1) 0 ([] : List Int)) (fun r => r) (fun x_6 x_7 => (Iw (Oi s x_1 x_6 x_7 (s.used.length + 1) 0 ((s.gens.length : Nat) : Int)) (fun x_12 x_13 => (if ¬ (x_13 = ((x_7.length : Nat) : Int)) then false else true)))))) else (if 1000000000 < (s.gens.getD x_1 default) then .error (if ¬ (¬ (0 ≤ ((x_1 : Nat) : Int))) then false else (Ho (Sb s x_1 (s.free.length + 1) 0 ([] : List Int)) (fun r => r) (fun x_19 x_20 => (Iw (Oj s x_1 x_19 x_20 (s.used.length + 1) 0 ((s.gens.length : Nat) : Int)) (fun x_25 x_26 => (if ¬ (x_26 = ((x_20.length : Nat) : Int)) then false else true)))))) else (Fv s n_2 (x_1 + 1)))) else .ok (x_1))
def La (s : Slots) : Bool := (if 1 ≤ ((s.gens.length : Nat) : Int) then (if ((s.gens.length : Nat) : Int) ≤ 64 then (if ¬ (((s.used.length : Nat) : Int) = ((s.gens.length : Nat) : Int)) then false else (Fg (Fv s (s.gens.length + 1) 0) (fun r => r) (fun x_1 => (Ho (Fh s x_1 (s.free.length + 1) 0 ([] : List Int)) (fun r => r) (fun x_32 x_33 => (Iw (Ik s x_1 x_32 x_33 (s.used.length + 1) 0 ((s.gens.length : Nat) : Int)) (fun x_38 x_39 => (if ¬ (x_39 = ((x_33.length : Nat) : Int)) then false else true)))))))) else false) else false)
def Ng (s : Slots) : Nat → Nat → List Handle → Nat × (List Handle)
  | 0, x_1, x_2 => (x_1, x_2)
  | n_3 + 1, x_1, x_2 => (if ((x_1 : Nat) : Int) < ((s.used.length : Nat) : Int) then (if (s.used.getD x_1 default) = true then (Ng s n_3 (x_1 + 1) (x_2 ++ ([(Handle.mk ((x_1 : Nat) : Int) (s.gens.getD x_1 default))] : List Handle))) else (Ng s n_3 (x_1 + 1) x_2)) else (x_1, x_2))
def Ss (s : Slots) : List Handle := (if (!(La s)) = true then [] else (Iw (Ng s (s.used.length + 1) 0 []) (fun x_1 x_2 => x_2)))
def Fk (s : Slots) : Slots × Handle × Int := (if (!(La s)) = true then ((Slots.mk ([]) ([]) ([])), (Handle.mk 0 0), 90) else (if (((((s.free).length) : Nat) : Int) - 1) < 0 then ((Slots.mk ([]) ([]) ([])), (Handle.mk 0 0), 92) else (if (s.gens.getD ((((s.free).getD (((((((s.free).length) : Nat) : Int) - 1)).toNat) default)).toNat) default) = 1000000000 then ((Slots.mk ([]) ([]) ([])), (Handle.mk 0 0), 92) else ((Slots.mk (s.gens.set ((((s.free).getD (((((((s.free).length) : Nat) : Int) - 1)).toNat) default)).toNat) ((s.gens.getD ((((s.free).getD (((((((s.free).length) : Nat) : Int) - 1)).toNat) default)).toNat) default) + 1)) ((s.used).set ((((s.free).getD (((((((s.free).length) : Nat) : Int) - 1)).toNat) default)).toNat) true) ((s.free).take (((((((s.free).length) : Nat) : Int) - 1)).toNat))), (Handle.mk ((s.free).getD (((((((s.free).length) : Nat) : Int) - 1)).toNat) default) ((s.gens.set ((((s.free).getD (((((((s.free).length) : Nat) : Int) - 1)).toNat) default)).toNat) ((s.gens.getD ((((s.free).getD (((((((s.free).length) : Nat) : Int) - 1)).toNat) default)).toNat) default) + 1)).getD ((((s.free).getD (((((((s.free).length) : Nat) : Int) - 1)).toNat) default)).toNat) default)), 0))))
def Zd (n_ : Int) (x_1 : List Int) (x_2 : List Bool) : Nat → Nat → List Int → Nat × (List Int)
  | 0, x_6, x_7 => (x_6, x_7)
  | n_8 + 1, x_6, x_7 => (if ((x_6 : Nat) : Int) < n_ then (Zd n_ x_1 x_2 n_8 (x_6 + 1) (x_7 ++ ([((n_ - 1) - ((x_6 : Nat) : Int))] : List Int))) else (x_6, x_7))
def Wq (n_ : Int) : Slots × Int := (if n_ < 1 then ((Slots.mk ([]) ([]) ([])), 2) else (if 64 < n_ then ((Slots.mk ([]) ([]) ([])), 2) else (Iw ((List.replicate ((n_).toNat) (default : Int)), (List.replicate ((n_).toNat) (default : Bool))) (fun x_1 x_2 => (Iw (Zd n_ x_1 x_2 ((n_ - ((0 : Nat) : Int)).toNat + 1) 0 []) (fun x_6 x_7 => ((Slots.mk x_1 x_2 x_7), 0)))))))
end Go.Proofs.YtdnjanhdnibkfaaGreatDoor.Jd

namespace Go.Proofs.YtdnjanhdnibkfaaGreatDoor.Jd
open Go.Proofs.Tryz
open Go.Proofs
open Go.RowKit (Below)
set_option maxRecDepth 100000
set_option maxHeartbeats 8000000
set_option linter.unusedVariables false
set_option linter.unusedSimpArgs false
def Mg (r : Int) : Int := (if r = 3 then (jZ .i64 (jZ .i64 (jZ .i64 0 4) 2) 1) else (if r = 2 then (jZ .i64 (jZ .i64 0 2) 1) else (if r = 1 then (jZ .i64 0 1) else 0)))
def Ed (n_ : Int) : List Int := (if (Ca .i64 (Mg n_) 4) ≠ 0 then (if (Ca .i64 (Mg n_) 2) ≠ 0 then (if (Ca .i64 (Mg n_) 1) ≠ 0 then (((((((((([1] : List Int) ++ ([2] : List Int)) ++ ([3] : List Int)) ++ ([4] : List Int)) ++ ([5] : List Int)) ++ ([6] : List Int)) ++ ([7] : List Int)) ++ ([8] : List Int)) ++ ([9] : List Int)) ++ ([10] : List Int)) else (((((((([1] : List Int) ++ ([2] : List Int)) ++ ([3] : List Int)) ++ ([4] : List Int)) ++ ([5] : List Int)) ++ ([6] : List Int)) ++ ([7] : List Int)) ++ ([8] : List Int))) else (if (Ca .i64 (Mg n_) 1) ≠ 0 then (((((([1] : List Int) ++ ([5] : List Int)) ++ ([6] : List Int)) ++ ([7] : List Int)) ++ ([9] : List Int)) ++ ([10] : List Int)) else (((([1] : List Int) ++ ([5] : List Int)) ++ ([6] : List Int)) ++ ([7] : List Int)))) else (if (Ca .i64 (Mg n_) 2) ≠ 0 then (if (Ca .i64 (Mg n_) 1) ≠ 0 then (((((([2] : List Int) ++ ([3] : List Int)) ++ ([4] : List Int)) ++ ([8] : List Int)) ++ ([9] : List Int)) ++ ([10] : List Int)) else (((([2] : List Int) ++ ([3] : List Int)) ++ ([4] : List Int)) ++ ([8] : List Int))) else (if (Ca .i64 (Mg n_) 1) ≠ 0 then (([9] : List Int) ++ ([10] : List Int)) else [])))
def Ok (n_ : Int) (v : Int) : Nat → Nat → Except Bool Nat
  | 0, x_1 => .ok (x_1)
  | n_2 + 1, x_1 => (if ((x_1 : Nat) : Int) < ((((Ed n_).length) : Nat) : Int) then (if ((Ed n_).getD x_1 default) = v then .error true else (Ok n_ v n_2 (x_1 + 1))) else .ok (x_1))
def dZ (n_ : Int) (v : Int) : Bool := (Fg (Ok n_ v (((Ed n_).length) + 1) 0) (fun r => r) (fun x_1 => false))
end Go.Proofs.YtdnjanhdnibkfaaGreatDoor.Jd

namespace Go.Proofs.YtdnjanhdnibkfaaGreatDoor.Jd
open Go.Proofs.Tryz
open Go.Proofs
open Go.RowKit (Below)
set_option maxRecDepth 100000
set_option maxHeartbeats 8000000
set_option linter.unusedVariables false
set_option linter.unusedSimpArgs false
def Rh (key : Ai) : Bool := (if 1 ≤ ((key.length : Nat) : Int) then decide (((key.length : Nat) : Int) ≤ 64) else false)
def Ze (key : Ai) (l : List Ai) (x_1 : Nat) (x_2 : List Int) : Nat → Nat → List Int → Nat × (List Int)
  | 0, x_9, x_10 => (x_9, x_10)
  | n_11 + 1, x_9, x_10 => (if ((x_9 : Nat) : Int) < 64 then (Ze key l x_1 x_2 n_11 (x_9 + 1) (x_10 ++ ([(Fr .u8 ((Je (key.take 64) ++ (List.replicate 64 (0 : Int)).drop key.length).getD x_9 default) 92)] : List Int))) else (x_9, x_10))
def Zf (key : Ai) (l : List Ai) : Nat → Nat → List Int → Nat × (List Int)
  | 0, x_1, x_2 => (x_1, x_2)
  | n_3 + 1, x_1, x_2 => (if ((x_1 : Nat) : Int) < 64 then (Zf key l n_3 (x_1 + 1) (x_2 ++ ([(Fr .u8 ((Je (key.take 64) ++ (List.replicate 64 (0 : Int)).drop key.length).getD x_1 default) 54)] : List Int))) else (x_1, x_2))
def yB (key : Ai) (l : List Ai) : Ai := (Iw (Zf key l (64 + 1) 0 []) (fun x_1 x_2 => (wX () (Iw (Ze key l x_1 x_2 (64 + 1) 0 []) (fun x_9 x_10 => (wX () (Kz ((Md x_10) ++ (Lib.join ([(Kz ((Md x_2) ++ (Lib.join l ([] : Ai))))] : List Ai) ([] : Ai))))))))))
def Vc (a : Ai) (b : Ai) : Nat → Nat → Int → Nat × Int
  | 0, x_1, differ_2 => (x_1, differ_2)
  | n_3 + 1, x_1, differ_2 => (if ((x_1 : Nat) : Int) < (if ((b.length : Nat) : Int) < ((a.length : Nat) : Int) then ((b.length : Nat) : Int) else ((a.length : Nat) : Int)) then (Vc a b n_3 (x_1 + 1) (jZ .i64 differ_2 (Fr .u8 (((a.getD x_1 default).toNat : Nat) : Int) (((b.getD x_1 default).toNat : Nat) : Int)))) else (x_1, differ_2))
def yC (a : Ai) (b : Ai) : Bool := (Iw (Vc a b (((if ((b.length : Nat) : Int) < ((a.length : Nat) : Int) then ((b.length : Nat) : Int) else ((a.length : Nat) : Int)) - ((0 : Nat) : Int)).toNat + 1) 0 (Fr .i64 ((a.length : Nat) : Int) ((b.length : Nat) : Int))) (fun x_1 differ_2 => decide (differ_2 = 0)))
def Ol (a : Int) (b : Int) : Ai × Int := (if 0 ≤ (([a, b] : List Int).getD 0 default) then (if (([a, b] : List Int).getD 0 default) ≤ 2147483647 then (if 0 ≤ (([a, b] : List Int).getD 1 default) then (if (([a, b] : List Int).getD 1 default) ≤ 2147483647 then ((Kz (Lib.join ((([([99, 104, 97, 108, 108, 101, 110, 103, 101] : Ai)] : List Ai) ++ ([(Lib.itoa (([a, b] : List Int).getD 0 default))] : List Ai)) ++ ([(Lib.itoa (([a, b] : List Int).getD 1 default))] : List Ai)) ([32] : Ai))), 0) else (([] : Ai), 2)) else (([] : Ai), 2)) else (([] : Ai), 2)) else (([] : Ai), 2))
def Hz (key : Ai) (challenge : Ai) (name : Ai) : Ai × Int := (if (Rh key) = true then (if ((challenge.length : Nat) : Int) = 32 then ((yB key ([challenge, name] : List Ai)), 0) else (([] : Ai), 2)) else (([] : Ai), 50))
end Go.Proofs.YtdnjanhdnibkfaaGreatDoor.Jd

namespace Go.Proofs.YtdnjanhdnibkfaaGreatDoor.Jd
open Go.Proofs.Tryz
open Go.Proofs
open Go.RowKit (Below)
set_option maxRecDepth 100000
set_option maxHeartbeats 8000000
set_option linter.unusedVariables false
set_option linter.unusedSimpArgs false
structure En where
  id : Int
  key : Ai
  frm : Int
  to : Int
instance : Inhabited En := ⟨⟨default, default, default, default⟩⟩
instance : DecidableEq En := fun a b => decidable_of_iff (a.id = b.id ∧ a.key = b.key ∧ a.frm = b.frm ∧ a.to = b.to) ⟨fun h => by cases a; cases b; simp_all, fun h => by subst h; simp⟩
def Vd (n_ : Int) (least : Int) (most : Int) : Bool := (if least ≤ n_ then decide (n_ ≤ most) else false)
def Xm (c : En) : Bool := (Vd c.id 1 1000000000)
def Ri (c : En) : Bool := (Rh c.key)
def Nh (c : En) : Bool := (if 0 ≤ c.frm then (if c.frm < c.to then decide (c.to ≤ 1000000000000) else false) else false)
def nU (c : En) (now : Int) : Bool := (if c.frm ≤ now then decide (now < c.to) else false)
def Lm (l : List En) (x_1 : Nat) (last_2 : Int) (x_3 : List Int) : Nat → Nat → Except Bool Nat
  | 0, x_8 => .ok (x_8)
  | n_9 + 1, x_8 => (if ((x_8 : Nat) : Int) < ((l.length : Nat) : Int) then (if (!(Xm (l.getD x_8 default))) = true then .error false else (if (!(Ri (l.getD x_8 default))) = true then .error false else (if (!(Nh (l.getD x_8 default))) = true then .error false else (Lm l x_1 last_2 x_3 n_9 (x_8 + 1))))) else .ok (x_8))
def Jx (l : List En) : Nat → Nat → Int → List Int → Except Bool (Nat × Int × (List Int))
  | 0, x_1, last_2, x_3 => .ok (x_1, last_2, x_3)
  | n_4 + 1, x_1, last_2, x_3 => (if ((x_1 : Nat) : Int) < ((l.length : Nat) : Int) then (if ((l.getD x_1 default).id) ∈ x_3 then .error false else (if ((l.getD x_1 default).id) < last_2 then .error false else (Jx l n_4 (x_1 + 1) ((l.getD x_1 default).id) (x_3 ++ [((l.getD x_1 default).id)])))) else .ok (x_1, last_2, x_3))
def Mh (l : List En) : Bool := (Xj (Jx l (l.length + 1) 0 0 ([] : List Int)) (fun r => r) (fun x_1 last_2 x_3 => (if ((l.length : Nat) : Int) ≤ 4 then (Fg (Lm l x_1 last_2 x_3 (l.length + 1) 0) (fun r => r) (fun x_8 => true)) else false)))
def Kp (l : List En) (now : Int) : Nat → Nat → List En → Nat × (List En)
  | 0, x_1, x_2 => (x_1, x_2)
  | n_3 + 1, x_1, x_2 => (if ((x_1 : Nat) : Int) < ((l.length : Nat) : Int) then (if (nU (l.getD x_1 default) now) = true then (Kp l now n_3 (x_1 + 1) (x_2 ++ ([(l.getD x_1 default)] : List En))) else (Kp l now n_3 (x_1 + 1) x_2)) else (x_1, x_2))
def Dt (l : List En) (now : Int) : List En := (if (!(Mh l)) = true then [] else (Iw (Kp l now (l.length + 1) 0 []) (fun x_1 x_2 => x_2)))
def Ln (l : List En) (now : Int) (challenge : Ai) (name : Ai) (proof : Ai) : Nat → Nat → Except (Int × Bool) Nat
  | 0, x_1 => .ok (x_1)
  | n_2 + 1, x_1 => (if ((x_1 : Nat) : Int) < ((((Dt l now).length) : Nat) : Int) then (if ¬ ((((Dt l now).getD x_1 default).id) = 0 ∧ (((Dt l now).getD x_1 default).key) = ([] : Ai) ∧ (((Dt l now).getD x_1 default).frm) = 0 ∧ (((Dt l now).getD x_1 default).to) = 0) then (if ((Hz (((Dt l now).getD x_1 default).key) challenge name).2) = 0 then (if (yC ((Hz (((Dt l now).getD x_1 default).key) challenge name).1) proof) = true then .error ((((Dt l now).getD x_1 default).id), true) else (Ln l now challenge name proof n_2 (x_1 + 1))) else (Ln l now challenge name proof n_2 (x_1 + 1))) else (Ln l now challenge name proof n_2 (x_1 + 1))) else .ok (x_1))
def Wr (l : List En) (now : Int) (challenge : Ai) (name : Ai) (proof : Ai) : Int × Bool := (Fg (Ln l now challenge name proof (((Dt l now).length) + 1) 0) (fun r => r) (fun x_1 => (0, false)))
end Go.Proofs.YtdnjanhdnibkfaaGreatDoor.Jd

namespace Go.Proofs.YtdnjanhdnibkfaaGreatDoor.Jd
open Go.Proofs.Tryz
open Go.Proofs
open Go.RowKit (Below)
set_option maxRecDepth 100000
set_option linter.unusedVariables false
set_option linter.unusedSimpArgs false
structure Ia where
  addr : Int
  bits : Int
instance : Inhabited Ia := ⟨⟨default, default⟩⟩
instance : DecidableEq Ia := fun a b => decidable_of_iff (a.addr = b.addr ∧ a.bits = b.bits) ⟨fun h => by cases a; cases b; simp_all, fun h => by subst h; simp⟩
def Tp (a : Int) : Bool := (if 0 ≤ a then decide (a ≤ 4294967295) else false)
def kL (bits : Int) : Int := (Ym .i64 1 (32 - bits))
def pL (p : Ia) : Int := ((Ym .i64 1 (32 - p.bits)) - 1)
def Ws (p : Ia) : Bool := (if 0 ≤ p.bits then (if p.bits ≤ 32 then (Tp p.addr) else false) else false)
def yD (p : Ia) : Bool := decide ((Ca .i64 p.addr (pL p)) = 0)
def Wt (p : Ia) : Bool := (if (!(Ws p)) = true then false else (if (!(yD p)) = true then false else true))
def AE1 (p : Ia) (a : Int) : Bool := (if (Wt p) = true then (if (Tp a) = true then decide ((fZ .i64 a (pL p)) = p.addr) else false) else false)
def Jy (a : Int) : Ai × Int := (if (!(Tp a)) = true then (([] : Ai), 60) else ((Lib.join (((([(Lib.itoa (Ca .i64 (Ab .i64 a 24) 255))] : List Ai) ++ ([(Lib.itoa (Ca .i64 (Ab .i64 a 16) 255))] : List Ai)) ++ ([(Lib.itoa (Ca .i64 (Ab .i64 a 8) 255))] : List Ai)) ++ ([(Lib.itoa (Ca .i64 (Ab .i64 a 0) 255))] : List Ai)) ([46] : Ai)), 0))
def Ps (t : Ai) (most : Int) : Nat → Int → Nat → Except (Int × Bool) (Int × Nat)
  | 0, n_1, x_2 => .ok (n_1, x_2)
  | n_3 + 1, n_1, x_2 => (if x_2 < t.length then (if (((Wm t x_2).1 : Nat) : Int) < 48 then .error (0, false) else (if 57 < (((Wm t x_2).1 : Nat) : Int) then .error (0, false) else (if most < n_1 then .error (0, false) else (Ps t most n_3 ((n_1 * 10) + ((((Wm t x_2).1 : Nat) : Int) - 48)) (x_2 + (Wm t x_2).2))))) else .ok (n_1, x_2))
def Di (t : Ai) (most : Int) : Int × Bool := (Ho (Ps t most (t.length + 1) 0 0) (fun r => r) (fun n_1 x_2 => (if n_1 ≤ most then (n_1, decide ((Lib.itoa n_1) = t)) else (n_1, false))))
def Rj (s : Ai) : Int × Int := (if ((Di ((Lib.cut s ([46] : Ai)).1) 255).2) = true then (if (!((Lib.cut s ([46] : Ai)).2.2 == true)) = true then (0, 60) else (if ((Di ((Lib.cut ((Lib.cut s ([46] : Ai)).2.1) ([46] : Ai)).1) 255).2) = true then (if (!((Lib.cut ((Lib.cut s ([46] : Ai)).2.1) ([46] : Ai)).2.2 == true)) = true then (0, 60) else (if ((Di ((Lib.cut ((Lib.cut ((Lib.cut s ([46] : Ai)).2.1) ([46] : Ai)).2.1) ([46] : Ai)).1) 255).2) = true then (if (!((Lib.cut ((Lib.cut ((Lib.cut s ([46] : Ai)).2.1) ([46] : Ai)).2.1) ([46] : Ai)).2.2 == true)) = true then (0, 60) else (if ((Di ((Lib.cut ((Lib.cut ((Lib.cut ((Lib.cut s ([46] : Ai)).2.1) ([46] : Ai)).2.1) ([46] : Ai)).2.1) ([46] : Ai)).1) 255).2) = true then (if (!((Lib.cut ((Lib.cut ((Lib.cut ((Lib.cut s ([46] : Ai)).2.1) ([46] : Ai)).2.1) ([46] : Ai)).2.1) ([46] : Ai)).2.2 == false)) = true then (0, 60) else ((jZ .i64 (Ym .i64 (jZ .i64 (Ym .i64 (jZ .i64 (Ym .i64 (jZ .i64 (Ym .i64 0 8) ((Di ((Lib.cut s ([46] : Ai)).1) 255).1)) 8) ((Di ((Lib.cut ((Lib.cut s ([46] : Ai)).2.1) ([46] : Ai)).1) 255).1)) 8) ((Di ((Lib.cut ((Lib.cut ((Lib.cut s ([46] : Ai)).2.1) ([46] : Ai)).2.1) ([46] : Ai)).1) 255).1)) 8) ((Di ((Lib.cut ((Lib.cut ((Lib.cut ((Lib.cut s ([46] : Ai)).2.1) ([46] : Ai)).2.1) ([46] : Ai)).2.1) ([46] : Ai)).1) 255).1)), 0)) else (0, 60))) else (0, 60))) else (0, 60))) else (0, 60))
end Go.Proofs.YtdnjanhdnibkfaaGreatDoor.Jd

namespace Go.Proofs.YtdnjanhdnibkfaaGreatDoor.Jd
open Go.Proofs.Tryz
open Go.Proofs
open Go.RowKit (Below)
set_option maxRecDepth 100000
set_option linter.unusedVariables false
set_option linter.unusedSimpArgs false
structure Rk where
  lo : Int
  hi : Int
instance : Inhabited Rk := ⟨⟨default, default⟩⟩
instance : DecidableEq Rk := fun a b => decidable_of_iff (a.lo = b.lo ∧ a.hi = b.hi) ⟨fun h => by cases a; cases b; simp_all, fun h => by subst h; simp⟩
structure Bp where
  addr : Int
  port : Int
instance : Inhabited Bp := ⟨⟨default, default⟩⟩
instance : DecidableEq Bp := fun a b => decidable_of_iff (a.addr = b.addr ∧ a.port = b.port) ⟨fun h => by cases a; cases b; simp_all, fun h => by subst h; simp⟩
def Wu (p : Rk) : Bool := (if ¬ (p.lo ≤ p.hi) then false else (if ¬ (0 ≤ p.lo) then false else (if ¬ (p.hi ≤ 65535) then false else true)))
def Pt (t : Ai) : Nat → Int → Nat → Except Int (Int × Nat)
  | 0, n_1, x_2 => .ok (n_1, x_2)
  | n_3 + 1, n_1, x_2 => (if x_2 < t.length then (if ((n_1 * 10) + ((((Wm t x_2).1 : Nat) : Int) - 48)) < 0 then .error (-1) else (if 65535 < ((n_1 * 10) + ((((Wm t x_2).1 : Nat) : Int) - 48)) then .error (-1) else (Pt t n_3 ((n_1 * 10) + ((((Wm t x_2).1 : Nat) : Int) - 48)) (x_2 + (Wm t x_2).2)))) else .ok (n_1, x_2))
def Sc (t : Ai) : Int := (Ho (Pt t (t.length + 1) 0 0) (fun r => r) (fun n_1 x_2 => n_1))
def AE2 (p : Rk) (n_ : Int) : Bool := (if (Wu p) = true then (if p.lo ≤ n_ then decide (n_ ≤ p.hi) else false) else false)
def Rl (t : Bp) : Ai × Int := (if ((Jy t.addr).2) ≠ 0 then (([] : Ai), 71) else (if t.port < 1 then (([] : Ai), 71) else (if 65535 < t.port then (([] : Ai), 71) else (((((Jy t.addr).1) ++ ([58] : Ai)) ++ (Lib.itoa t.port)), 0))))
def Cw (s : Ai) : Bp × Int := (if ((Rj ((Lib.cut s ([58] : Ai)).1)).2) ≠ 0 then ((Bp.mk 0 0), 71) else (if ((Rl (Bp.mk ((Rj ((Lib.cut s ([58] : Ai)).1)).1) (Sc ((Lib.cut s ([58] : Ai)).2.1)))).2) ≠ 0 then ((Bp.mk 0 0), 71) else (if ((Rl (Bp.mk ((Rj ((Lib.cut s ([58] : Ai)).1)).1) (Sc ((Lib.cut s ([58] : Ai)).2.1)))).1) ≠ s then ((Bp.mk 0 0), 71) else ((Bp.mk ((Rj ((Lib.cut s ([58] : Ai)).1)).1) (Sc ((Lib.cut s ([58] : Ai)).2.1))), 0))))
end Go.Proofs.YtdnjanhdnibkfaaGreatDoor.Jd

namespace Go.Proofs.YtdnjanhdnibkfaaGreatDoor.Jd
open Go.Proofs.Tryz
open Go.Proofs
open Go.RowKit (Below)
set_option maxRecDepth 100000
set_option maxHeartbeats 8000000
set_option linter.unusedVariables false
set_option linter.unusedSimpArgs false
def Ni (s : Ai) : Nat → Nat → Except Bool Nat
  | 0, x_1 => .ok (x_1)
  | n_2 + 1, x_1 => (if x_1 < s.length then (if (((Wm s x_1).1 : Nat) : Int) < 32 then .error false else (if 126 < (((Wm s x_1).1 : Nat) : Int) then .error false else (Ni s n_2 (x_1 + (Wm s x_1).2)))) else .ok (x_1))
def bG (s : Ai) : Bool := (Fg (Ni s (s.length + 1) 0) (fun r => r) (fun x_1 => true))
structure Ib where
  allow : Bool
  pfx : Ia
  prt : Rk
instance : Inhabited Ib := ⟨⟨default, default, default⟩⟩
instance : DecidableEq Ib := fun a b => decidable_of_iff (a.allow = b.allow ∧ a.pfx = b.pfx ∧ a.prt = b.prt) ⟨fun h => by cases a; cases b; simp_all, fun h => by subst h; simp⟩
def gM (r : Ib) : Bool := (if (Wt r.pfx) = true then (Wu r.prt) else false)
def Fl (r : Ib) (t : Bp) : Bool := (if (gM r) = true then (if (AE1 r.pfx t.addr) = true then (AE2 r.prt t.port) else false) else false)
def Nj (l : List Ib) : Nat → Nat → Except Bool Nat
  | 0, x_1 => .ok (x_1)
  | n_2 + 1, x_1 => (if ((x_1 : Nat) : Int) < ((l.length : Nat) : Int) then (if (!(gM (l.getD x_1 default))) = true then .error false else (Nj l n_2 (x_1 + 1))) else .ok (x_1))
def Hv (l : List Ib) : Bool := (if ((l.length : Nat) : Int) ≤ 16 then (Fg (Nj l (l.length + 1) 0) (fun r => r) (fun x_1 => true)) else false)
def Fy (l : List Ib) (t : Bp) (i_1 : Int) (x_2 : List Int) : Nat → Int → List Int → Int × (List Int)
  | 0, j_9, x_10 => (j_9, x_10)
  | n_11 + 1, j_9, x_10 => (if (((((j_9 - 1)).toNat / 2) : Nat) : Int) = j_9 then (j_9, x_10) else (if ¬ ((x_10.getD ((j_9).toNat) default) < (x_10.getD (((j_9 - 1)).toNat / 2) default)) then (j_9, x_10) else (Fy l t i_1 x_2 n_11 (((((j_9 - 1)).toNat / 2) : Nat) : Int) ((x_10.set ((((((j_9 - 1)).toNat / 2) : Nat) : Int)).toNat (x_10.getD (j_9).toNat default)).set (j_9).toNat (x_10.getD ((((((j_9 - 1)).toNat / 2) : Nat) : Int)).toNat default)))))
def Fz (l : List Ib) (t : Bp) : Nat → Int → List Int → Int × (List Int)
  | 0, i_1, x_2 => (i_1, x_2)
  | n_3 + 1, i_1, x_2 => (if 0 ≤ i_1 then (if (Fl (l.getD ((i_1).toNat) default) t) = true then (Iw (Fy l t i_1 x_2 ((((((x_2 ++ ([i_1] : List Int)).length) : Nat) : Int) - 1).toNat + 1) (((((x_2 ++ ([i_1] : List Int)).length) : Nat) : Int) - 1) (x_2 ++ ([i_1] : List Int))) (fun j_9 x_10 => (Fz l t n_3 (i_1 - 1) x_10))) else (Fz l t n_3 (i_1 - 1) x_2)) else (i_1, x_2))
def Ey (l : List Ib) (t : Bp) : Bool × Int × Int := (if (!(Hv l)) = true then (false, 0, 81) else (if ((Rl t).2) ≠ 0 then (false, 0, 71) else (Iw (Fz l t (((((l.length : Nat) : Int) - 1) + 1).toNat + 1) (((l.length : Nat) : Int) - 1) []) (fun i_1 x_2 => (if ((x_2.length : Nat) : Int) = 0 then (false, (-1), 0) else (((l.getD (((x_2.getD 0 default)).toNat) default).allow), (x_2.getD 0 default), 0))))))
end Go.Proofs.YtdnjanhdnibkfaaGreatDoor.Jd

namespace Go.Proofs.YtdnjanhdnibkfaaGreatDoor.Jd
open Go.Proofs.Tryz
open Go.Proofs
open Go.RowKit (Below)
set_option maxRecDepth 100000
set_option maxHeartbeats 8000000
set_option linter.unusedVariables false
set_option linter.unusedSimpArgs false
def nV (s : Ai) : Bool := (if ((s.length : Nat) : Int) ≤ 64 then (bG s) else false)
end Go.Proofs.YtdnjanhdnibkfaaGreatDoor.Jd

namespace Go.Proofs.YtdnjanhdnibkfaaGreatDoor.Jd
open Go.Proofs.Tryz
open Go.Proofs
open Go.RowKit (Below)
set_option maxRecDepth 100000
set_option maxHeartbeats 8000000
set_option linter.unusedVariables false
set_option linter.unusedSimpArgs false
structure Ah where
  handle : Handle
  name : Ai
  state : Int
  version : Int
  rules : List Ib
  creds : List En
  deadline : Int
instance : Inhabited Ah := ⟨⟨default, default, default, default, default, default, default⟩⟩
instance : DecidableEq Ah := fun a b => decidable_of_iff (a.handle = b.handle ∧ a.name = b.name ∧ a.state = b.state ∧ a.version = b.version ∧ a.rules = b.rules ∧ a.creds = b.creds ∧ a.deadline = b.deadline) ⟨fun h => by cases a; cases b; simp_all, fun h => by subst h; simp⟩
structure Bs where
  slots : Slots
  l : List Ah
  seq : Int
instance : Inhabited Bs := ⟨⟨default, default, default⟩⟩
instance : DecidableEq Bs := fun a b => decidable_of_iff (a.slots = b.slots ∧ a.l = b.l ∧ a.seq = b.seq) ⟨fun h => by cases a; cases b; simp_all, fun h => by subst h; simp⟩
structure pM where
  verb : Int
  name : Ai
  want : Int
  at_ : Int
  rule : Ib
  key : Ai
  n : Int
  m : Int
instance : Inhabited pM := ⟨⟨default, default, default, default, default, default, default, default⟩⟩
instance : DecidableEq pM := fun a b => decidable_of_iff (a.verb = b.verb ∧ a.name = b.name ∧ a.want = b.want ∧ a.at_ = b.at_ ∧ a.rule = b.rule ∧ a.key = b.key ∧ a.n = b.n ∧ a.m = b.m) ⟨fun h => by cases a; cases b; simp_all, fun h => by subst h; simp⟩
structure pN where
  err : Int
  seq : Int
  handle : Handle
  version : Int
  state : Int
instance : Inhabited pN := ⟨⟨default, default, default, default, default⟩⟩
instance : DecidableEq pN := fun a b => decidable_of_iff (a.err = b.err ∧ a.seq = b.seq ∧ a.handle = b.handle ∧ a.version = b.version ∧ a.state = b.state) ⟨fun h => by cases a; cases b; simp_all, fun h => by subst h; simp⟩
/-- Where a tenant's two slices lie. -/
structure TA where
  ra : Option Addr
  rc : Nat
  ca : Option Addr
  cc : Nat
instance : Inhabited TA := ⟨⟨none, 0, none, 0⟩⟩
def Gq (l : List Ah) : Prop := ∀ i, i < l.length → (l.getD i default).rules.length ≤ 1000 ∧ (l.getD i default).creds.length ≤ 1000
def Pu (s : Ai) : Bool := (if s ≠ ([] : Ai) then (if ((s.length : Nat) : Int) ≤ 40 then (nV s) else false) else false)
def Ic (t : (Ah × Int)) : Bool := (if 1 ≤ t.1.version then decide (t.1.version ≤ t.2) else false)
def Ie (t : (Ah × Int)) : Bool := (if 1 ≤ t.1.state then (if t.1.state ≤ 3 then (if 0 ≤ t.1.deadline then (if t.1.deadline ≤ 1000000000000 then (if t.1.deadline = 0 then true else decide (t.1.state = 3)) else false) else false) else false) else false)
def Mi (t : (Ah × Int)) : Bool := (if (Pu t.1.name) = true then (if (Hv t.1.rules) = true then (Mh t.1.creds) else false) else false)
def Hm (r : Bs) (name : Ai) : Nat → Nat → Except (Int × Bool) Nat
  | 0, x_1 => .ok (x_1)
  | n_2 + 1, x_1 => (if ((x_1 : Nat) : Int) < ((r.l.length : Nat) : Int) then (if ((r.l.getD x_1 default).name) = name then .error (((x_1 : Nat) : Int), true) else (Hm r name n_2 (x_1 + 1))) else .ok (x_1))
def Hj (r : Bs) (name : Ai) : Int × Bool := (Fg (Hm r name (r.l.length + 1) 0) (fun r => r) (fun x_1 => (0, false)))
def Lo (r : Bs) : Nat → Nat → List Ai → Except Bool (Nat × (List Ai))
  | 0, x_1, x_2 => .ok (x_1, x_2)
  | n_3 + 1, x_1, x_2 => (if ((x_1 : Nat) : Int) < ((r.l.length : Nat) : Int) then (if ¬ (((r.l.getD x_1 default).handle.slot) = (((Ss r.slots).getD x_1 default).slot) ∧ ((r.l.getD x_1 default).handle.gen) = (((Ss r.slots).getD x_1 default).gen)) then .error false else (if ((r.l.getD x_1 default).name) ∈ x_2 then .error false else (if (!(Ic ((r.l.getD x_1 default), r.seq))) = true then .error false else (if (!(Ie ((r.l.getD x_1 default), r.seq))) = true then .error false else (if (!(Mi ((r.l.getD x_1 default), r.seq))) = true then .error false else (Lo r n_3 (x_1 + 1) (x_2 ++ [((r.l.getD x_1 default).name)]))))))) else .ok (x_1, x_2))
def Tq (r : Bs) : Bool := (if (!(La r.slots)) = true then false else (if r.seq < 0 then false else (if 1000000000000 < r.seq then false else (if ((((Ss r.slots).length) : Nat) : Int) ≠ ((r.l.length : Nat) : Int) then false else (Ho (Lo r (r.l.length + 1) 0 ([] : List Ai)) (fun r => r) (fun x_1 x_2 => true))))))
end Go.Proofs.YtdnjanhdnibkfaaGreatDoor.Jd

namespace Go.Proofs.YtdnjanhdnibkfaaGreatDoor.Jd
open Go.Proofs.Tryz
set_option linter.unusedVariables false
set_option linter.unusedSimpArgs false
theorem kM (x : Int) : 0 ≤ IntKind.u64.wrap x := by
  simp only [IntKind.wrap, IntKind.bits, IntKind.signed]
  simp
  omega
theorem O0 (a b : Int) : 0 ≤ Ca .u64 a b := kM _
theorem Tb (b : Ai) (x : Nat) (y : List Int) : ∀ (n k : Nat) (xs : List Int), (Ll b x y n k xs).2.length = xs.length
  | 0, _, _ => rfl
  | n + 1, k, xs => by
    rw [Ll]
    split
    · rw [Tb b x y n]; simp
    · rfl
theorem Ny (b : Ai) : ∀ (n k : Nat) (xs : List Int), (Jw b n k xs).2.length = xs.length
  | 0, _, _ => rfl
  | n + 1, k, xs => by
    rw [Jw]
    split
    · split
      · simp only [Iw]
        rw [Ny b n, Tb]
      · rw [Ny b n]; simp
    · rfl
theorem nW {b : Ai} : (Pq b).length = 64 := by
  unfold Pq
  simp only [Iw]
  rw [Ny]; simp
theorem Gi (s : Ai) : (Kz s).length = 32 := by
  unfold Kz
  simp only [L9]
  rw [Cq]; simp
end Go.Proofs.YtdnjanhdnibkfaaGreatDoor.Jd

namespace Go.Proofs.YtdnjanhdnibkfaaGreatDoor.Jd
open Go.Proofs.Tryz
set_option linter.unusedVariables false
set_option linter.unusedSimpArgs false
theorem Mj (x s : List UInt8) : Lib.join [x] s = x := by simp [Lib.join, List.intercalate]
theorem yE (x y s : List UInt8) : (Lib.join [x, y] s).length = x.length + s.length + y.length := by
  simp [Lib.join, List.intercalate, List.intersperse]; omega
theorem bH (x y z s : List UInt8) : (Lib.join [x, y, z] s).length = x.length + s.length + y.length + s.length + z.length := by
  simp [Lib.join, List.intercalate, List.intersperse]; omega
theorem kN (key : Ai) (l : List Ai) : (yB key l).length = 32 := by
  unfold yB
  simp only [Iw, wX]
  exact Gi _
theorem Om (a b : Int) : (Ol a b).1.length ≤ 32 := by
  unfold Ol
  repeat' split
  all_goals first | simp only [Gi]; omega | simp
theorem kO (key challenge name : Ai) : (Hz key challenge name).1.length ≤ 32 := by
  unfold Hz
  repeat' split
  all_goals first | simp only [kN]; omega | simp
end Go.Proofs.YtdnjanhdnibkfaaGreatDoor.Jd

namespace Go.Proofs.YtdnjanhdnibkfaaGreatDoor.Jd
open Go.Proofs.Tryz
set_option linter.unusedVariables false
set_option linter.unusedSimpArgs false
theorem eA {α : Type} [Inhabited α] (l : List α) (k : Nat) (h : k < l.length) : l.drop k = l.getD k default :: l.drop (k + 1) := by
  rw [List.drop_eq_getElem_cons h]
  simp [List.getD, h]
theorem Sd {α : Type} (l : List α) (k : Nat) (h : ¬ k < l.length) : l.drop k = [] := List.drop_of_length_le z8
theorem eC {n a b : Int} : Vd n a b = true ↔ a ≤ n ∧ n ≤ b := by
  unfold Vd
  split <;> simp <;> omega
theorem gN {n a b : Int} (h : Vd n a b = true) : a ≤ n ∧ n ≤ b := eC.1 h
theorem nX {key : Ai} : Rh key = true ↔ 1 ≤ key.length ∧ key.length ≤ 64 := by
  unfold Rh
  split <;> simp <;> omega
def yF (c : En) : Prop := (1 ≤ c.id ∧ c.id ≤ 1000000000) ∧ (1 ≤ c.key.length ∧ c.key.length ≤ 64) ∧ 0 ≤ c.frm ∧ c.frm < c.to ∧ c.to ≤ 1000000000000
theorem pO {c : En} : (Xm c && Ri c && Nh c) = true ↔ yF c := by
  unfold Xm Ri Nh yF
  rw [Bool.and_eq_true, Bool.and_eq_true, eC, nX]
  constructor
  · rintro ⟨⟨h1, h2⟩, h3⟩
    refine ⟨h1, h2, ?_⟩
    split at h3
    · split at h3
      · exact ⟨‹_›, ‹_›, by simpa using h3⟩
      · cases h3
    · cases h3
  · rintro ⟨h1, h2, h3, h4, h5⟩
    exact ⟨⟨h1, h2⟩, by rw [if_pos h3, if_pos h4]; simpa using h5⟩
def yG (l : List En) : Prop := l.length ≤ 4 ∧ (∀ c ∈ l, yF c) ∧ l.Pairwise fun a b => a.id < b.id
theorem Ve (l : List En) (a : Nat) (b : Int) (c : List Int) : ∀ n k, l.length < n + k → Fg (Lm l a b c n k) (fun r => r) (fun _ => true) = (l.drop k).all fun c => Xm c && Ri c && Nh c
  | 0, k, h => by
    rw [Sd l k z8]
    rfl
  | n + 1, k, h => by
    rw [Lm]
    by_cases hk : k < l.length
    · rw [if_pos z8, eA l k hk, List.all_cons]
      cases h1 : Xm (l.getD k default)
      · simp [Fg]
      · cases h2 : Ri (l.getD k default)
        · simp [Fg]
        · cases h3 : Nh (l.getD k default)
          · simp [Fg]
          · simpa using Ve l a b c n (k + 1) z8
    · rw [if_neg z8, Sd l k hk]
      rfl
def Rm : Int → List Int → List En → Bool
  | _, _, [] => true
  | last, seen, c :: r => if c.id ∈ seen then false else if c.id < last then false else Rm c.id (seen ++ [c.id]) r
theorem Vf (l : List En) (B : Nat → Int → List Int → Bool) (b : Bool) (hB : ∀ x y z, B x y z = b) : ∀ n k last seen, l.length < n + k → Xj (Jx l n k last seen) (fun r => r) B = (Rm last seen (l.drop k) && b)
  | 0, k, last, seen, h => by
    rw [Sd l k z8]
    simp [Jx, Xj, Rm, hB]
  | n + 1, k, last, seen, h => by
    rw [Jx]
    by_cases hk : k < l.length
    · rw [if_pos z8, eA l k hk, Rm]
      by_cases h1 : (l.getD k default).id ∈ seen
      · rw [if_pos h1, if_pos h1]; simp [Xj]
      · rw [if_neg h1, if_neg h1]
        by_cases h2 : (l.getD k default).id < last
        · rw [if_pos h2, if_pos h2]; simp [Xj]
        · rw [if_neg h2, if_neg h2]
          exact Vf l B b hB n (k + 1) _ _ z8
    · rw [if_neg z8, Sd l k hk]
      simp [Xj, Rm, hB]
theorem bI : ∀ (xs : List En) (last : Int) (seen : List Int), (∀ s ∈ seen, s ≤ last) → (Rm last seen xs = true ↔ (∀ c ∈ xs, last ≤ c.id ∧ c.id ∉ seen) ∧ xs.Pairwise fun a b => a.id < b.id)
  | [], last, seen, _ => by simp [Rm]
  | c :: r, last, seen, hs => by
    rw [Rm]
    by_cases h1 : c.id ∈ seen
    · rw [if_pos h1]
      exact ⟨nofun, fun ⟨h, _⟩ => absurd h1 (h c List.mem_cons_self).2⟩
    · rw [if_neg h1]
      by_cases h2 : c.id < last
      · rw [if_pos h2]
        exact ⟨nofun, fun ⟨h, _⟩ => by have := (h c List.mem_cons_self).1; omega⟩
      · rw [if_neg h2, bI r c.id (seen ++ [c.id]) (fun s hm => by
          rcases List.mem_append.1 hm with hm | hm
          · have := hs s hm; omega
          · have : s = c.id := by simpa using hm
            omega), List.pairwise_cons]
        constructor
        · rintro ⟨g1, g2⟩
          have g3 : ∀ d ∈ r, c.id < d.id := fun d hd => by
            obtain ⟨a1, a2⟩ := g1 d hd
            have : d.id ≠ c.id := fun e => a2 (by simp [e])
            omega
          refine ⟨fun d hd => ?_, g3, g2⟩
          rcases List.mem_cons.1 hd with rfl | hd
          · exact ⟨by omega, h1⟩
          · obtain ⟨a1, a2⟩ := g1 d hd
            exact ⟨by omega, fun hm => a2 (List.mem_append_left _ hm)⟩
        · rintro ⟨g1, g2, g3⟩
          refine ⟨fun d hd => ?_, g3⟩
          have := g2 d hd
          refine ⟨by omega, fun hm => ?_⟩
          rcases List.mem_append.1 hm with hm | hm
          · have := hs _ hm; omega
          · have : d.id = c.id := by simpa using hm
            omega
theorem nY {l : List En} : Mh l = true ↔ yG l := by
  unfold Mh yG
  rw [Vf l _ (decide (((l.length : Nat) : Int) ≤ 4) && l.all fun c => Xm c && Ri c && Nh c) (fun x y z => by
    by_cases h : ((l.length : Nat) : Int) ≤ 4
    · rw [if_pos h, Ve l x y z _ _ z8]
      simp [h]
    · rw [if_neg h]; simp [h]) _ _ _ _ z8]
  rw [List.drop_zero, Bool.and_eq_true, Bool.and_eq_true, bI l 0 [] Hs, List.all_eq_true, decide_eq_true_eq]
  constructor
  · rintro ⟨⟨_, h2⟩, h3, h4⟩
    exact ⟨by omega, fun c hc => pO.1 (h4 c hc), h2⟩
  · rintro ⟨h1, h2, h3⟩
    exact ⟨⟨fun c hc => ⟨by have := (h2 c hc).1; omega, by simp⟩, h3⟩, by omega, fun c hc => pO.2 (h2 c hc)⟩
def nZ (l : List En) : Prop := ∀ k : Nat, 0 ≤ (l.getD k default).id ∧ (l.getD k default).id ≤ 1000000000
theorem nZ.id {l : List En} (h : nZ l) (k : Nat) : 0 ≤ (l.getD k default).id ∧ (l.getD k default).id ≤ 1000000000 := h k
theorem kP {α : Type} [Inhabited α] (l : List α) (k : Nat) : l.getD k default ∈ l ∨ l.getD k default = default := by
  by_cases h : k < l.length
  · left; simp [List.getD, h]
  · right; simp [List.getD, h]
theorem kQ {l : List En} (h : Mh l = true) : nZ l := fun k => by
  obtain ⟨_, h2, _⟩ := nY.1 h
  rcases kP l k with hm | hm
  · have := (h2 _ hm).1; omega
  · rw [hm]
    show 0 ≤ (0 : Int) ∧ (0 : Int) ≤ _
    omega
end Go.Proofs.YtdnjanhdnibkfaaGreatDoor.Jd

namespace Go.Proofs.YtdnjanhdnibkfaaGreatDoor.Jd
open Go.Proofs.Tryz
set_option linter.unusedVariables false
set_option linter.unusedSimpArgs false
theorem Vg {a : Int} (h : Tp a = true) : 0 ≤ a ∧ a ≤ 4294967295 := by
  unfold Tp at h; split at h
  · exact ⟨‹_›, by simpa using h⟩
  · cases h
theorem sR {bits : Int} (h : 0 ≤ bits ∧ bits ≤ 32) : kL bits = 2 ^ (32 - bits).toNat := by
  obtain ⟨n, hn⟩ : ∃ n : Nat, bits = 32 - (n : Int) := ⟨(32 - bits).toNat, by omega⟩
  have h1 : (32 - bits).toNat = n := by omega
  have h2 : n ≤ 32 := by omega
  unfold kL Ym
  rw [h1, show min n IntKind.i64.bits = n from by show min n 64 = n; omega, Int.one_mul]
  apply Gx
  have h3 : (2 : Int) ^ n ≤ 2 ^ 32 := kA h2
  have h4 : (0 : Int) < 2 ^ n := Int.pow_pos z8
  omega
theorem yH {bits : Int} (h : 0 ≤ bits ∧ bits ≤ 32) : 1 ≤ kL bits ∧ kL bits ≤ 4294967296 := by
  rw [sR h]
  have h3 : (2 : Int) ^ (32 - bits).toNat ≤ 2 ^ 32 := kA z8
  have h4 : (0 : Int) < 2 ^ (32 - bits).toNat := Int.pow_pos z8
  omega
theorem kR {p : Ia} (h : Ws p = true) : 0 ≤ p.bits ∧ p.bits ≤ 32 ∧ 0 ≤ p.addr ∧ p.addr ≤ 4294967295 := by
  unfold Ws at h
  split at h
  · split at h
    · have := Vg h; omega
    · cases h
  · cases h
theorem kS {p : Ia} (h : Wt p = true) : 0 ≤ p.bits ∧ p.bits ≤ 32 ∧ 0 ≤ p.addr ∧ p.addr ≤ 4294967295 := by
  apply kR
  unfold Wt at h
  cases hs : Ws p
  · simp [hs] at h
  · rfl
theorem Rn {a : Int} (h : 0 ≤ a ∧ a ≤ 4294967295) : (0 ≤ Ca .i64 (Ab .i64 a 24) 255 ∧ Ca .i64 (Ab .i64 a 24) 255 ≤ 255) ∧ (0 ≤ Ca .i64 (Ab .i64 a 16) 255 ∧ Ca .i64 (Ab .i64 a 16) 255 ≤ 255) ∧ (0 ≤ Ca .i64 (Ab .i64 a 8) 255 ∧ Ca .i64 (Ab .i64 a 8) 255 ≤ 255) ∧ (0 ≤ Ca .i64 (Ab .i64 a 0) 255 ∧ Ca .i64 (Ab .i64 a 0) 255 ≤ 255) :=
  ⟨(Yv h 24 z8).2, (Yv h 16 z8).2, (Yv h 8 z8).2, (Yv h 0 z8).2⟩
theorem Wv {x y z u : Ai} (hx : x.length ≤ 21) (hy : y.length ≤ 21) (hz : z.length ≤ 21) (hu : u.length ≤ 21) : (Lib.join ((([x] ++ [y]) ++ [z]) ++ [u]) [46]).length ≤ 87 := by
  simp [Lib.join, List.intercalate]
  omega
theorem oA (a : Int) : (Jy a).1.length ≤ 87 := by
  unfold Jy
  split
  · simp
  · rename_i hn
    have h := Vg (a := a) (by simpa using hn)
    have hbb := Rn h
    exact Wv (Eb z8) (Eb z8) (Eb z8) (Eb z8)
end Go.Proofs.YtdnjanhdnibkfaaGreatDoor.Jd

namespace Go.Proofs.YtdnjanhdnibkfaaGreatDoor.Jd
open Go.Proofs.Tryz
set_option linter.unusedVariables false
set_option linter.unusedSimpArgs false
theorem yI {p : Rk} (h : Wu p = true) : 0 ≤ p.lo ∧ p.lo ≤ p.hi ∧ p.hi ≤ 65535 := by
  unfold Wu at h
  split at h
  · cases h
  · split at h
    · cases h
    · split at h
      · cases h
      · omega
end Go.Proofs.YtdnjanhdnibkfaaGreatDoor.Jd

namespace Go.Proofs.YtdnjanhdnibkfaaGreatDoor.Jd
open Go.Proofs.Tryz
set_option linter.unusedVariables false
set_option linter.unusedSimpArgs false
theorem Ke (s : Slots) : ∀ (n i : Nat) (b : Bool), Fv s n i = .error b → b = false
  | 0, i, b, h => by simp [Fv] at h
  | n + 1, i, b, h => by
    unfold Fv at h
    split at h
    · split at h
      · have h0 : (0 : Int) ≤ ((i : Nat) : Int) := by omega
        simp only [h0, not_true_eq_false, not_false_eq_true, if_true] at h
        exact (Except.error.inj h).symm
      · split at h
        · have h0 : (0 : Int) ≤ ((i : Nat) : Int) := by omega
          simp only [h0, not_true_eq_false, not_false_eq_true, if_true] at h
          exact (Except.error.inj h).symm
        · exact Ke s n _ b h
    · simp at h
theorem Vh (s : Slots) : ∀ (n i j : Nat), Fv s n i = .ok j → ∀ k : Nat, i ≤ k → k < i + n → k < s.gens.length → 0 ≤ s.gens.getD k default ∧ s.gens.getD k default ≤ 1000000000
  | 0, i, j, h, k, h1, h2, h3 => by omega
  | n + 1, i, j, h, k, h1, h2, h3 => by
    unfold Fv at h
    split at h
    · split at h
      · simp at h
      · split at h
        · simp at h
        · by_cases e : k = i
          · subst e; omega
          · exact Vh s n _ j h k z8 z8 h3
    · omega
theorem Nz (s : Slots) (x : Nat) : ∀ (n i : Nat) (l : List Int) (b : Bool), Fh s x n i l = .error b → b = false
  | 0, i, l, b, h => by simp [Fh] at h
  | n + 1, i, l, b, h => by
    unfold Fh at h
    split at h
    · split at h
      · exact (Except.error.inj h).symm
      · split at h
        · exact (Except.error.inj h).symm
        · split at h
          · exact (Except.error.inj h).symm
          · split at h
            · exact (Except.error.inj h).symm
            · exact Nz s x n _ _ b h
    · simp at h
theorem Vi (s : Slots) (x : Nat) : ∀ (n i : Nat) (l : List Int) (r : Nat × List Int), Fh s x n i l = .ok r → ∀ k : Nat, i ≤ k → k < i + n → k < s.free.length → 0 ≤ s.free.getD k default ∧ s.free.getD k default < ((s.used.length : Nat) : Int) ∧ s.used.getD ((s.free.getD k default)).toNat default = false
  | 0, i, l, r, h, k, h1, h2, h3 => by omega
  | n + 1, i, l, r, h, k, h1, h2, h3 => by
    unfold Fh at h
    split at h
    · split at h
      · simp at h
      · split at h
        · simp at h
        · split at h
          · simp at h
          · split at h
            · simp at h
            · by_cases e : k = i
              · subst e; refine ⟨by omega, by omega, by simp_all⟩
              · exact Vi s x n _ _ r h k z8 z8 h3
    · omega
theorem Ts {s : Slots} (h : La s = true) : 1 ≤ s.gens.length ∧ s.gens.length ≤ 64 ∧ s.used.length = s.gens.length ∧ (∀ k : Nat, k < s.gens.length → 0 ≤ s.gens.getD k default ∧ s.gens.getD k default ≤ 1000000000) ∧ (∀ k : Nat, k < s.free.length → 0 ≤ s.free.getD k default ∧ s.free.getD k default < ((s.used.length : Nat) : Int) ∧ s.used.getD ((s.free.getD k default)).toNat default = false) := by
  unfold La at h
  split at h
  · split at h
    · split at h
      · exact absurd h (by decide)
      · rename_i h1 h2 h3
        have h3' : ((s.used.length : Nat) : Int) = ((s.gens.length : Nat) : Int) := by omega
        refine ⟨by omega, by omega, by omega, ?_, ?_⟩
        · cases e : Fv s (s.gens.length + 1) 0 with
          | error b =>
            have := Ke s _ _ _ e
            subst this
            rw [e] at h; simp [Fg] at h
          | ok j =>
            intro k hk
            exact Vh s _ _ _ e k z8 z8 hk
        · cases e : Fv s (s.gens.length + 1) 0 with
          | error b =>
            have := Ke s _ _ _ e
            subst this
            rw [e] at h; simp [Fg] at h
          | ok j =>
            rw [e] at h
            simp only [Fg] at h
            cases e2 : Fh s j (s.free.length + 1) 0 ([] : List Int) with
            | error b =>
              have := Nz s _ _ _ _ _ e2
              subst this
              rw [e2] at h; simp [Ho] at h
            | ok r =>
              intro k hk
              exact Vi s _ _ _ _ _ e2 k z8 z8 hk
    · exact absurd h (by decide)
  · exact absurd h (by decide)
theorem Tc (s : Slots) (x : Nat) : ∀ (n i : Nat) (l : List Int) (r : Nat × List Int), Fh s x n i l = .ok r → s.free.length < i + n → i ≤ s.free.length → r.2.length = l.length + (s.free.length - i)
  | 0, i, l, r, h, h1, h2 => by omega
  | n + 1, i, l, r, h, h1, h2 => by
    unfold Fh at h
    split at h
    · split at h
      · simp at h
      · split at h
        · simp at h
        · split at h
          · simp at h
          · split at h
            · simp at h
            · have := Tc s x n _ _ r h z8 z8
              simp only [List.length_append, List.length_cons, List.length_nil] at this
              omega
    · have := Except.ok.inj h
      subst this; simp only; omega
theorem Pv (s : Slots) (a b : Nat) (l : List Int) : ∀ (n i : Nat) (x : Int), (Ik s a b l n i x).2 ≤ x
  | 0, i, x => by simp [Ik]
  | n + 1, i, x => by
    unfold Ik
    split
    · split
      · have := Pv s a b l n (i + 1) (x - 1); omega
      · exact Pv s a b l n (i + 1) x
    · simp
theorem kT {s : Slots} (h : La s = true) : s.free.length ≤ 64 := by
  have h0 := Ts h
  unfold La at h
  rw [if_pos z8, if_pos z8, if_neg z8] at h
  cases e : Fv s (s.gens.length + 1) 0 with
  | error b =>
    have := Ke s _ _ _ e
    subst this
    rw [e] at h; simp [Fg] at h
  | ok j =>
    rw [e] at h
    simp only [Fg] at h
    cases e2 : Fh s j (s.free.length + 1) 0 ([] : List Int) with
    | error b =>
      have := Nz s _ _ _ _ _ e2
      subst this
      rw [e2] at h; simp [Ho] at h
    | ok r =>
      have hl := Tc s _ _ _ _ _ e2 z8 z8
      rw [e2] at h
      obtain ⟨r1, r2⟩ := r
      simp only [Ho, Iw] at h
      have h6 := Pv s j r1 r2 (s.used.length + 1) 0 ((s.gens.length : Nat) : Int)
      split at h
      · exact absurd h (by decide)
      · rename_i h7
        simp only [List.length_nil] at hl
        omega
theorem O1 {l : List Int} {a b : Int} (ha : a ≤ 0) (hb : 0 ≤ b) (h : ∀ k : Nat, k < l.length → a ≤ l.getD k default ∧ l.getD k default ≤ b) (k : Nat) : a ≤ l.getD k default ∧ l.getD k default ≤ b := by
  by_cases e : k < l.length
  · exact h k e
  · have : l.getD k default = 0 := by rw [List.getD_eq_getElem?_getD, List.getElem?_eq_none z8]; rfl
    omega
theorem Vj {s : Slots} (h : La s = true) : s.free.length ≤ 64 ∧ 1 ≤ s.gens.length ∧ s.gens.length ≤ 64 ∧ s.used.length = s.gens.length ∧ (0 ≤ (((s.free.length : Nat) : Int) - 1) → 0 ≤ s.free.getD ((((s.free.length : Nat) : Int) - 1)).toNat default ∧ s.free.getD ((((s.free.length : Nat) : Int) - 1)).toNat default < ((s.gens.length : Nat) : Int)) ∧ 0 ≤ s.gens.getD ((s.free.getD ((((s.free.length : Nat) : Int) - 1)).toNat default)).toNat default ∧ s.gens.getD ((s.free.getD ((((s.free.length : Nat) : Int) - 1)).toNat default)).toNat default ≤ 1000000000 := by
  obtain ⟨h1, h2, h3, h4, h5⟩ := Ts h
  refine ⟨kT h, h1, h2, h3, ?_, O1 z8 z8 h4 _⟩
  intro h6
  have := h5 ((((s.free.length : Nat) : Int) - 1)).toNat z8
  omega
theorem Ro (s : Slots) : ∀ (n i : Nat) (l : List Handle), l.length ≤ i → i ≤ s.used.length → (Ng s n i l).2.length ≤ s.used.length
  | 0, i, l, h, h2 => by simp only [Ng]; omega
  | n + 1, i, l, h, h2 => by
    unfold Ng
    split
    · split
      · exact Ro s n _ _ (by simp; omega) z8
      · exact Ro s n _ _ z8 z8
    · simp only; omega
theorem yJ (s : Slots) : (Ss s).length ≤ 64 := by
  unfold Ss
  cases h : La s
  · simp
  · obtain ⟨h1, h2, h3, _, _⟩ := Ts h
    have := Ro s (s.used.length + 1) 0 [] Hs z8
    simp only [Bool.not_true, Bool.false_eq_true, if_false, Iw]; omega
end Go.Proofs.YtdnjanhdnibkfaaGreatDoor.Jd

namespace Go.Proofs.YtdnjanhdnibkfaaGreatDoor.Jd
open Go.Proofs.Tryz
open Go.Proofs
open Go.RowKit (Below)
set_option maxRecDepth 100000
set_option maxHeartbeats 8000000
set_option linter.unusedVariables false
set_option linter.unusedSimpArgs false
def gO (x : Handle) : List Value := [vi x.slot, vi x.gen]
theorem Tt : Dm gO 2 := ⟨by omega, fun _ => rfl, fun _ => rfl⟩
theorem mixed : Tryz.prog.follows .mixedOrders = true := by kernel_rfl
theorem Vk : Ba Tryz.prog 23 0 0 := fun r k w => by simp [Instr.fieldAt, Instr.sureAddr, fieldPlace, Ao]
theorem Vl : Ba Tryz.prog 31 0 0 := fun r k w => by simp [Instr.fieldAt, Instr.sureAddr, fieldPlace, Ao]
theorem Vm : Ba Tryz.prog 31 1 1 := fun r k w => by simp [Instr.fieldAt, Instr.sureAddr, fieldPlace, Ao]
theorem Se : Ba Tryz.prog 31 2 2 := fun r k w => by simp [Instr.fieldAt, Instr.sureAddr, fieldPlace, Ao]
theorem Rp : Ba Tryz.prog 276 0 0 := fun r k w => by simp [Instr.fieldAt, Instr.sureAddr, fieldPlace, Ao]
theorem AO9 : Ej Tryz.prog 23 [(0, 1), (1, 1)] := ⟨_, fun w => runUnderlying23 w, fun w => by simp⟩
theorem AP0 : Ej Tryz.prog 31 [(0, 1), (1, 1), (2, 1)] := ⟨_, fun w => runUnderlying31 w, fun w => by simp⟩
theorem oB : Ej Tryz.prog 276 [(0, 3)] := ⟨_, fun w => runUnderlying276 w, fun w => by simp⟩
theorem yK (a0 b0 : Int) (a1 b1 : Int) (n : Nat) (w : World) : (Op.equalIn (n + 2) 23 (Value.agg [vi a0, vi a1].toArray) (Value.agg [vi b0, vi b1].toArray)).run Tryz.prog w = .ok (decide (a0 = b0 ∧ a1 = b1)) w := by
 rw [show n + 2 = (n + 1) + 1 from rfl]
 unfold Op.equalIn
 simp [part, fU (P := Tryz.prog) (t := 3) n .i64 _ _ runUnderlying3]
 by_cases h0 : a0 = b0 <;> by_cases h1 : a1 = b1 <;> simp_all
theorem pP (x y : Operand) (a0 b0 : Int) (a1 b1 : Int) (w : World) : (do eqGuard .eql 23 x y (Value.agg [vi a0, vi a1].toArray) (Value.agg [vi b0, vi b1].toArray); binOp .eql 23 (Value.agg [vi a0, vi a1].toArray) (Value.agg [vi b0, vi b1].toArray) : Sem Value).run Tryz.prog w = .ok (.bool (decide (a0 = b0 ∧ a1 = b1))) w := by
 have h2 : (binOp .eql 23 (Value.agg [vi a0, vi a1].toArray) (Value.agg [vi b0, vi b1].toArray)).run Tryz.prog w = .ok (.bool (decide (a0 = b0 ∧ a1 = b1))) w := by
  show (do pure (.bool (← Op.equal 23 _ _)) : Sem Value).run Tryz.prog w = _
  simp only [Sem.run_bind, Op.equal, Op.maxDepth, yK a0 b0 a1 b1 9998, Result.andThen_ok, Sem.run_pure]
 simp [eqGuard]
 simpa using h2
theorem AP1 (x y : Operand) (a0 b0 : Int) (a1 b1 : Int) (w : World) : (do eqGuard .neq 23 x y (Value.agg [vi a0, vi a1].toArray) (Value.agg [vi b0, vi b1].toArray); binOp .neq 23 (Value.agg [vi a0, vi a1].toArray) (Value.agg [vi b0, vi b1].toArray) : Sem Value).run Tryz.prog w = .ok (.bool (decide (¬ (a0 = b0 ∧ a1 = b1)))) w := by
 have h2 : (binOp .neq 23 (Value.agg [vi a0, vi a1].toArray) (Value.agg [vi b0, vi b1].toArray)).run Tryz.prog w = .ok (.bool (decide (¬ (a0 = b0 ∧ a1 = b1)))) w := by
  show (do pure (.bool (!(← Op.equal 23 _ _))) : Sem Value).run Tryz.prog w = _
  simp only [Sem.run_bind, Op.equal, Op.maxDepth, yK a0 b0 a1 b1 9998, Result.andThen_ok, Sem.run_pure]
  congr 2
  simp
 simp [eqGuard]
 simpa using h2
theorem Ev : Ty Tryz.prog 3 1 8 (vi 0) := ⟨⟨Tryz.t3, by kernel_rfl, rfl, rfl, rfl⟩, rfl⟩
theorem sS : Ty Tryz.prog 4 1 1 (Value.bool false) := ⟨⟨Tryz.t4, by kernel_rfl, rfl, rfl, rfl⟩, rfl⟩
theorem AP2 : Ty Tryz.prog 23 2 16 (Value.agg [(vi 0), (vi 0)].toArray) := ⟨⟨Tryz.t23, by kernel_rfl, rfl, rfl, rfl⟩, rfl⟩
theorem Il {w : World} {α : Type} {enc : α → List Value} {k : Nat} {a : Option Addr} {s : List α} (h : Sl w enc k a s) (hn : Option.isNone a = true) : ([] : List α) = s := by
 have : a = none := by simpa using hn
 subst this
 exact (Sl.none h).symm
theorem Tu (w : World) {s_a : Option Addr} {s_c : Nat} {s : List Int} (h_s : Sl w eI 1 s_a s) (n_s : s.length ≤ 1000000) : Calls Tryz.prog 123 (List.toArray [(vs s_a s.length s_c)]) w fun e w2 => ∃ a1 : Option Addr, ∃ c1 : Nat, ∃ B1 : Am, e = .returned (vs a1 s.length c1) ∧ Dz w w2 B1 ∧ Bi eI 1 3 a1 c1 B1 s := by
 have hF := Is.refl s
 refine enter func123 ntmps123 (h := ?_)
 refine Qj ?_
 refine Ad (Yr runUnderlying24) (k := ?_)
 refine Z0 ?_
 refine Dc rfl (fun hq1 => ?_) (fun hq1 => ?_)
 ·refine Bw ?_
  refine Yf ?_
  refine Ac results123 z1 (fun w1 hw1 => ?_)
  have hcan0 : ([] : List Int) = s := by (first | rfl | (exact Il h_s Zn))
  have hlen0 : 0 = s.length := by first | (rw [← hcan0]; done) | (rw [← hcan0]; first | rfl | (simp; done) | (simp only [List.length_append, List.length_take, List.length_drop, List.length_set, List.length_replicate, List.length_cons, List.length_nil, List.length_map, Cq, Ce]; omega) | (simp; omega))
  exact ⟨none, 0, [], qK, (hw1.fresh_out.sub Mt), (hcan0 ▸ Bi.nil)⟩
 refine Wd ?_
 refine Aj Ae (Dd (l := []) runUnderlying24 sizeOf3 zeroValue3) (k := fun r1 hr1 => ?_)
 refine Cg ?_
 refine Ar s (List.nil_append _) Ev underlying24 Au Bi.nil (List.Perm.refl _) (Ch.of_base h_s) ⟨by omega, by omega⟩ (n := 0) (m := s.length) (k := fun ax1 cx1 Bx1 hox1 => ?_)
 refine Z5 ?_
 refine Ac results123 z1 (fun w1 hw1 => ?_)
 have hcan0 : s = s := by (first | rfl | (exact Il h_s Zn))
 have hlen0 : s.length = s.length := by first | (rw [← hcan0]; done) | (rw [← hcan0]; first | rfl | (simp; done) | (simp only [List.length_append, List.length_take, List.length_drop, List.length_set, List.length_replicate, List.length_cons, List.length_nil, List.length_map, Cq, Ce]; omega) | (simp; omega))
 exact ⟨ax1, cx1, Bx1, qK, (Aq (L := Bx1) (hw1.perm (List.Perm.refl _)) rfl.symm), (hcan0 ▸ hox1)⟩

theorem bJ (w : World) {s_a : Option Addr} {s_c : Nat} {s : List Bool} (h_s : Sl w eB 1 s_a s) (n_s : s.length ≤ 1000000) : Calls Tryz.prog 124 (List.toArray [(vs s_a s.length s_c)]) w fun e w2 => ∃ a1 : Option Addr, ∃ c1 : Nat, ∃ B1 : Am, e = .returned (vs a1 s.length c1) ∧ Dz w w2 B1 ∧ Bi eB 1 4 a1 c1 B1 s := by
 have hF := Is.refl s
 refine enter func124 ntmps124 (h := ?_)
 refine Qj ?_
 refine Ad (Yr runUnderlying29) (k := ?_)
 refine Z0 ?_
 refine Dc rfl (fun hq1 => ?_) (fun hq1 => ?_)
 ·refine Bw ?_
  refine Yf ?_
  refine Ac results124 z1 (fun w1 hw1 => ?_)
  have hcan0 : ([] : List Bool) = s := by (first | rfl | (exact Il h_s Zn))
  have hlen0 : 0 = s.length := by first | (rw [← hcan0]; done) | (rw [← hcan0]; first | rfl | (simp; done) | (simp only [List.length_append, List.length_take, List.length_drop, List.length_set, List.length_replicate, List.length_cons, List.length_nil, List.length_map, Cq, Ce]; omega) | (simp; omega))
  exact ⟨none, 0, [], qK, (hw1.fresh_out.sub Mt), (hcan0 ▸ Bi.nil)⟩
 refine Wd ?_
 refine Aj Ae (Dd (l := []) runUnderlying29 sizeOf4 zeroValue4) (k := fun r1 hr1 => ?_)
 refine Cg ?_
 refine Ar s (List.nil_append _) sS underlying29 Mc Bi.nil (List.Perm.refl _) (Ch.of_base h_s) ⟨by omega, by omega⟩ (n := 0) (m := s.length) (k := fun ax1 cx1 Bx1 hox1 => ?_)
 refine Z5 ?_
 refine Ac results124 z1 (fun w1 hw1 => ?_)
 have hcan0 : s = s := by (first | rfl | (exact Il h_s Zn))
 have hlen0 : s.length = s.length := by first | (rw [← hcan0]; done) | (rw [← hcan0]; first | rfl | (simp; done) | (simp only [List.length_append, List.length_take, List.length_drop, List.length_set, List.length_replicate, List.length_cons, List.length_nil, List.length_map, Cq, Ce]; omega) | (simp; omega))
 exact ⟨ax1, cx1, Bx1, qK, (Aq (L := Bx1) (hw1.perm (List.Perm.refl _)) rfl.symm), (hcan0 ▸ hox1)⟩

theorem eD (w : World) {s_gens_a : Option Addr} {s_gens_c : Nat} {s_used_a : Option Addr} {s_used_c : Nat} {s_free_a : Option Addr} {s_free_c : Nat} {s : Slots} (h_s_gens : Sl w eI 1 s_gens_a s.gens) (n_s_gens : s.gens.length ≤ 1000) (h_s_used : Sl w eB 1 s_used_a s.used) (n_s_used : s.used.length ≤ 1000) (h_s_free : Sl w eI 1 s_free_a s.free) (n_s_free : s.free.length ≤ 1000) : Gz Tryz.prog 118 [(Value.agg [(vs s_gens_a s.gens.length s_gens_c), (vs s_used_a s.used.length s_used_c), (vs s_free_a s.free.length s_free_c)].toArray)] w (Value.bool (La s)) := by
 have hF := Is.refl (La s)
 refine enter func118 ntmps118 (h := ?_)
 refine Z2 ?_
 refine Aj Ae Lb (k := fun r1 hr1 => ?_)
 refine Oy ?_
 refine jD ?_
 refine Ad (Cf (cs := [_, _, _]) zeroValue276 oB) (k := ?_)
 refine Aj Ae Lb (k := fun r2 hr2 => ?_)
 refine Aj Ae (Dd (l := [_, _, _]) runUnderlying357 sizeOf280 zeroValue280) (k := fun r3 hr3 => ?_)
 refine Bh (args := [_, _]) (Aa call173) func173 ntmps173 ?_
 refine Qj ?_
 refine Ad (Dg runUnderlying357) (k := ?_)
 refine Zx ?_
 refine Ad (Dy runUnderlying357 sizeOf280 0) (k := ?_)
 refine Ad (Bb isAgg280) (k := ?_)
 refine Ew ?_
 refine Bh (args := [_]) (Aa call174) func174 ntmps174 ?_
 refine Z2 ?_
 refine Jj ?_
 refine Dw mixed 32 [(true, 0), (true, 1), (true, 2), (true, 3), (true, 4), (true, 5), (true, 6), (true, 7), (true, 8), (true, 9), (true, 10), (true, 11), (true, 12), (true, 13), (true, 14), (true, 15), (true, 16), (true, 17), (true, 18), (true, 19), (true, 20), (true, 21), (true, 22), (true, 23), (true, 24), (true, 25), (true, 26), (true, 27), (true, 28), (true, 29), (true, 30), (true, 31)] z6 ?_
 refine Z4 ?_
 refine mC ?_
 refine Ay (Dg runUnderlying24) (k := ?_)
 refine Ay My (k := ?_)
 refine Fi ?_
 refine Ge 10 rfl (fun hq1 => ?_) (fun hq1 => ?_)
 rotate_left
 ·refine Bl 7 rfl ?_
  refine eR ?_
  refine Bl 13 rfl ?_
  refine Th ?_
  refine Av results174 z1 ?_
  refine Y2 ?_
  refine Ac results118 z1 (fun w1 hw1 => ?_)
  exact ⟨(rq (hF.neg hq1)), hw1.ext_out⟩
 refine vS ?_
 refine qT ?_
 refine Bj Oe (k := ?_)
 refine Tf ?_
 refine Ge 19 rfl (fun hq2 => ?_) (fun hq2 => ?_)
 rotate_left
 ·refine Bl 13 rfl ?_
  refine Th ?_
  refine Av results174 z1 ?_
  refine Y2 ?_
  refine Ac results118 z1 (fun w1 hw1 => ?_)
  exact ⟨(rq ((hF.pos hq1).neg hq2)), hw1.ext_out⟩
 refine uZ ?_
 refine Bj (Al Vm) (k := ?_)
 refine Bj (Bb isAgg29) (k := ?_)
 refine Bj (Dg runUnderlying29) (k := ?_)
 refine vS ?_
 refine qT ?_
 refine Bj Gw (k := ?_)
 refine mH ?_
 refine Av results174 z1 ?_
 refine Sj ?_
 refine Bd rfl (fun hq3 => ?_) (fun hq3 => ?_)
 ·refine Bw ?_
  refine Lf ?_
  refine B3 ?_
  refine Ac results118 z1 (fun w1 hw1 => ?_)
  exact ⟨(rq (((hF.pos hq1).pos hq2).pos hq3)), hw1.ext_out⟩
 refine Wa ?_
 refine Ad (Dy runUnderlying357 sizeOf280 1) (k := ?_)
 refine Ad (Bb isAgg280) (k := ?_)
 refine Ew ?_
 refine Bh (args := [_]) (Aa call175) func175 ntmps175 ?_
 refine Jn ?_
 refine Mu ?_
 refine mE ?_
 refine iS ?_
 refine qU ?_
 refine lS ?_
 refine lZ ?_
 refine Lt ?_
 refine Ka (σ1 := Nat) (σ2 := Nat) (fun n_2 x_1 => ((r3, oc [(Value.func (.func 174) [].toArray [].toArray), (Value.func (.func 175) [].toArray [].toArray), (Value.func (.func 176) [].toArray [].toArray)] 280) :: ((r2, oc [(vs s_gens_a s.gens.length s_gens_c), (vs s_used_a s.used.length s_used_c), (vs s_free_a s.free.length s_free_c)] 276) :: ((r1, oc [(vs s_gens_a s.gens.length s_gens_c), (vs s_used_a s.used.length s_used_c), (vs s_free_a s.free.length s_free_c)] 31) :: [])))) (fun n_2 x_1 => [(0, (vs s_gens_a s.gens.length s_gens_c)), (1, (Value.func (.func 224) [].toArray [].toArray)), (4, (vi 0)), (7, (vi ((s.gens.length : Nat) : Int))), (8, (vi ((x_1 : Nat) : Int)))]) (fun n_2 x_1 => s.gens.length - x_1 < n_2 ∧ Is (Fv s (s.gens.length + 1) 0) (Fv s n_2 x_1) ∧ x_1 ≤ s.gens.length) (fun n_2 x_1 => n_2) (s.gens.length + 1) 0 ?_ se (List.Perm.refl _) ?_
 ·exact ⟨Nat.lt_succ_self _, Is.refl _, Qc⟩
 ·rintro (_ | n_2) x_1 ⟨hm4, hF3, hi5⟩
  ·omega
  refine Tx ?_
  refine Bd rfl (fun hq4 => ?_) (fun hq4 => ?_)
  rotate_left
  ·refine Cu ?_
   refine Kg ?_
   refine Yc ?_
   refine lW ?_
   refine Av results175 z1 ?_
   refine Oc ?_
   refine cL ?_
   refine Y3 ?_
   refine AA1 ?_
   refine Jn ?_
   refine Aj Ae Sx (k := fun r12 hr12 => ?_)
   refine Hc ?_
   refine Vy ?_
   refine Tz ?_
   refine Lt ?_
   refine Uj (σ1 := Nat) (σ2 := Nat) (σ3 := List Int) (σ4 := Array MapEntry) (σ5 := Nat) (fun n_34 x_32 x_33 x_33e x_33k => ((r12, Obj.map x_33e x_33k) :: ((r3, oc [(Value.func (.func 174) [].toArray [].toArray), (Value.func (.func 175) [].toArray [].toArray), (Value.func (.func 176) [].toArray [].toArray)] 280) :: ((r2, oc [(vs s_gens_a s.gens.length s_gens_c), (vs s_used_a s.used.length s_used_c), (vs s_free_a s.free.length s_free_c)] 276) :: ((r1, oc [(vs s_gens_a s.gens.length s_gens_c), (vs s_used_a s.used.length s_used_c), (vs s_free_a s.free.length s_free_c)] 31) :: []))))) (fun n_34 x_32 x_33 x_33e x_33k => [(0, (Value.pointer (some ⟨r2, 0, none⟩))), (2, (Value.bool false)), (3, (Value.map (some r12))), (12, (vs s_free_a s.free.length s_free_c)), (13, (vi ((s.free.length : Nat) : Int))), (14, (vi ((x_32 : Nat) : Int)))]) (fun n_34 x_32 x_33 x_33e x_33k => s.free.length - x_32 < n_34 ∧ Is (Fh s x_1 (s.free.length + 1) 0 ([] : List Int)) (Fh s x_1 n_34 x_32 x_33) ∧ Me (fun x : Int => vi x) x_33e x_33 ∧ x_32 ≤ s.free.length) (fun n_34 x_32 x_33 x_33e x_33k => n_34) (s.free.length + 1) 0 ([] : List Int) (#[]) 0 ?_ se (List.Perm.refl _) ?_
   ·exact ⟨Nat.lt_succ_self _, Is.refl _, Me.nil, Qc⟩
   ·rintro (_ | n_34) x_32 x_33 x_33e x_33k ⟨hm36, hF35, hx_33, hi37⟩
    ·omega
    refine Tx ?_
    refine Bd rfl (fun hq25 => ?_) (fun hq25 => ?_)
    rotate_left
    ·refine Cu ?_
     refine Kg ?_
     refine Z3 ?_
     refine mE ?_
     refine Tz ?_
     refine Aj Ae S5 (k := fun r13 hr13 => ?_)
     refine rE ?_
     refine Z3 ?_
     refine F1 ?_
     refine Aj Ae Qh (k := fun r14 hr14 => ?_)
     refine H9 ?_
     refine Kt ?_
     refine Fc Ae rfl call223 func223 ntmps223 (fun l15 rD15 rr15 hl15 => ?_)
     refine J8 ?_
     refine B5 ?_
     refine I9 ?_
     refine Lt ?_
     refine Kb (σ1 := Nat) (σ2 := Nat) (σ3 := Int) (fun n_40 x_38 x_39 => ((l15, Cb rr15 .ready none) :: ((rD15, Obj.deferred (some [])) :: ((r14, oc [(Value.pointer (some ⟨r2, 0, none⟩))] 274) :: ((r13, oc [(vi x_39)] 3) :: ((r12, Obj.map x_33e x_33k) :: ((r3, oc [(Value.func (.func 174) [].toArray [].toArray), (Value.func (.func 175) [].toArray [].toArray), (Value.func (.func 176) [].toArray [].toArray)] 280) :: ((r2, oc [(vs s_gens_a s.gens.length s_gens_c), (vs s_used_a s.used.length s_used_c), (vs s_free_a s.free.length s_free_c)] 276) :: ((r1, oc [(vs s_gens_a s.gens.length s_gens_c), (vs s_used_a s.used.length s_used_c), (vs s_free_a s.free.length s_free_c)] 31) :: []))))))))) (fun n_40 x_38 x_39 => [(0, (Value.func (.yield l15) [].toArray [].toArray)), (1, (Value.pointer (some ⟨r14, 0, none⟩))), (9, (vs s_used_a s.used.length s_used_c)), (10, (vi ((s.used.length : Nat) : Int))), (11, (vi ((x_38 : Nat) : Int)))]) (fun n_40 x_38 x_39 => s.used.length - x_38 < n_40 ∧ Is (Ik s x_1 x_32 x_33 (s.used.length + 1) 0 ((s.gens.length : Nat) : Int)) (Ik s x_1 x_32 x_33 n_40 x_38 x_39) ∧ x_38 ≤ s.used.length ∧ (0 ≤ x_39 + ((x_38 : Nat) : Int) ∧ x_39 ≤ 1000)) (fun n_40 x_38 x_39 => n_40) (s.used.length + 1) 0 ((s.gens.length : Nat) : Int) ?_ se (List.Perm.refl _) ?_
     ·exact ⟨Nat.lt_succ_self _, Is.refl _, Qc, Qc⟩
     ·rintro (_ | n_40) x_38 x_39 ⟨hm42, hF41, hi43, hi44⟩
      ·omega
      refine Tx ?_
      refine Bd rfl (fun hq30 => ?_) (fun hq30 => ?_)
      ·refine Br ?_
       refine Gv ?_
       refine Vx ?_
       refine Ad (Dl (n := s.used.length) runUnderlying29 sizeOf4 x_38 oU (gD Da) Lp) (k := ?_)
       refine Ad (Cr isAgg4 x_38 0 oU (gD Da)) (k := ?_)
       refine Hr ?_
       refine Ew ?_
       refine Cs 17 rfl (fun hq31 => ?_) (fun hq31 => ?_)
       rotate_left
       ·refine Ag 13 rfl ?_
        refine Rx ?_
        refine Pb ?_
        exact Gt n_40 (x_38 + 1) x_39 ⟨by omega, ((hF41.pos hq30).f hq31), lK, lK⟩ (Nat.lt_succ_self _) se (List.Perm.refl _)
       refine J7 ?_
       refine cK ?_
       refine G1 ?_
       refine Ep ?_
       refine An (Dl (n := s.gens.length) runUnderlying24 sizeOf3 x_38 qL (gD Da) Lp) (k := ?_)
       refine An (Cr isAgg3 x_38 0 qL (gD Da)) (k := ?_)
       refine J9 ?_
       refine Dv (vs := [(Value.agg [(vi ((x_38 : Nat) : Int)), (vi (s.gens.getD x_38 default))].toArray)]) hl15 q0 Dh ?_
       refine Br ?_
       refine C9 ?_
       refine Dn ?_
       refine I0 ?_
       refine H6 ?_
       refine Ex q0 ?_
       refine An It (k := ?_)
       refine B0 ?_
       refine Pb ?_
       exact Gt n_40 (x_38 + 1) (x_39 - 1) ⟨by omega, ((hF41.pos hq30).t hq31), lK, lK⟩ (Nat.lt_succ_self _) se (List.Perm.refl _)
      refine Cu ?_
      refine Jl ?_
      refine Gg (.inr rfl) results223 q0 ?_
      refine Ti ?_
      refine cJ ?_
      refine Ad (gI runUnderlying251 hx_33) (k := ?_)
      refine mK ?_
      refine Ix [rD15] (qa q0) results176 z1 ?_
      refine Sj ?_
      refine Bd rfl (fun hq32 => ?_) (fun hq32 => ?_)
      ·refine Bw ?_
       refine Lf ?_
       refine B3 ?_
       refine Ac results118 z1 (fun w1 hw1 => ?_)
       exact ⟨(rq (((((((hF.pos hq1).pos hq2).neg hq3).ok1 (hF3.neg hq4)).ok2 (hF35.neg hq25)).rn2 (hF41.neg hq30)).pos hq32)), hw1.ext_out⟩
      refine Wb ?_
      refine B3 ?_
      refine Ac results118 z1 (fun w1 hw1 => ?_)
      exact ⟨(rq (((((((hF.pos hq1).pos hq2).neg hq3).ok1 (hF3.neg hq4)).ok2 (hF35.neg hq25)).rn2 (hF41.neg hq30)).neg hq32)), hw1.ext_out⟩
    refine aA ?_
    refine Ad (Dl (n := s.free.length) runUnderlying24 sizeOf3 x_32 (Ch.of_base h_s_free) (gD Da) Lp) (k := ?_)
    refine Ad (Cr isAgg3 x_32 0 (Ch.of_base h_s_free) (gD Da)) (k := ?_)
    refine Hc ?_
    refine cH ?_
    refine Aw 20 rfl (fun hq26 => ?_) (fun hq26 => ?_)
    ·refine Ag 8 rfl ?_
     refine Qq ?_
     refine Ag 8 rfl ?_
     refine Yd ?_
     refine fE ?_
     refine Ac results118 z1 (fun w1 hw1 => ?_)
     exact ⟨(rq (((((hF.pos hq1).pos hq2).neg hq3).ok1 (hF3.neg hq4)).er2 ((hF35.pos hq25).pos hq26))), hw1.ext_out⟩
    refine Oz ?_
    refine cK ?_
    refine rA ?_
    refine An (Dg runUnderlying29) (k := ?_)
    refine An My (k := ?_)
    refine Te ?_
    refine Aw 30 rfl (fun hq27 => ?_) (fun hq27 => ?_)
    ·refine Ag 8 rfl ?_
     refine Yd ?_
     refine fE ?_
     refine Ac results118 z1 (fun w1 hw1 => ?_)
     exact ⟨(rq (((((hF.pos hq1).pos hq2).neg hq3).ok1 (hF3.neg hq4)).er2 (((hF35.pos hq25).neg hq26).pos hq27))), hw1.ext_out⟩
    refine Ep ?_
    refine cK ?_
    refine rA ?_
    refine Ep ?_
    refine An (Dl (n := s.used.length) runUnderlying29 sizeOf4 ((s.free.getD x_32 default).toNat) oU (gD Da) Lp) (k := ?_)
    refine An (Cr isAgg4 ((s.free.getD x_32 default).toNat) 0 oU (gD Da)) (k := ?_)
    refine Te ?_
    refine Cs 40 rfl (fun hq28 => ?_) (fun hq28 => ?_)
    ·refine Ag 3 rfl ?_
     refine fE ?_
     refine Ac results118 z1 (fun w1 hw1 => ?_)
     exact ⟨(rq (((((hF.pos hq1).pos hq2).neg hq3).ok1 (hF3.neg hq4)).er2 ((((hF35.pos hq25).neg hq26).neg hq27).t hq28))), hw1.ext_out⟩
    refine Oz ?_
    refine An (Ux (xs := x_33) (s.free.getD x_32 default) Bo runUnderlying251 runUnderlying3 zeroValue4 hx_33) (k := ?_)
    refine Rx ?_
    refine Bd rfl (fun hq29 => ?_) (fun hq29 => ?_)
    rotate_left
    ·refine Br ?_
     refine Gv ?_
     refine Sv ?_
     refine Yx (xs := x_33) (s.free.getD x_32 default) Bo runUnderlying251 runUnderlying3 hx_33 Zn q0 (k := fun em9 km9 hms9 => ?_)
     refine fD ?_
     exact Uk n_34 (x_32 + 1) (x_33 ++ [(s.free.getD x_32 default)]) em9 km9 ⟨by omega, (((((hF35.pos hq25).neg hq26).neg hq27).f hq28).neg hq29), hms9, z8⟩ (Nat.lt_succ_self _) se (List.Perm.refl _)
    refine Z2 ?_
    refine Qr ?_
    refine H5 ?_
    refine Ac results118 z1 (fun w1 hw1 => ?_)
    exact ⟨(rq (((((hF.pos hq1).pos hq2).neg hq3).ok1 (hF3.neg hq4)).er2 (((((hF35.pos hq25).neg hq26).neg hq27).f hq28).pos hq29))), hw1.ext_out⟩
  refine Qd ?_
  refine Vx ?_
  refine uU ?_
  refine Ad (Dl (n := s.gens.length) runUnderlying24 sizeOf3 x_1 qL (gD Da) Lp) (k := ?_)
  refine Ad (Cr isAgg3 x_1 0 qL (gD Da)) (k := ?_)
  refine Bh (args := [_]) (Aa call224) func224 ntmps224 ?_
  refine AL8 ?_
  refine Aw 5 rfl (fun hq5 => ?_) (fun hq5 => ?_)
  ·refine Ag 2 rfl ?_
   refine Ry ?_
   refine Av results224 z1 ?_
   refine Z0 ?_
   refine eV ?_
   refine iB ?_
   refine W6 ?_
   refine Av results116 z1 ?_
   refine Ad aK (k := ?_)
   refine Z5 ?_
   refine Av results175 z1 ?_
   refine Sj ?_
   refine Bd rfl (fun hq6 => ?_) (fun hq6 => ?_)
   ·refine Bw ?_
    refine Lf ?_
    refine B3 ?_
    refine Ac results118 z1 (fun w1 hw1 => ?_)
    exact ⟨(rq (((((hF.pos hq1).pos hq2).neg hq3).er1 ((hF3.pos hq4).pos hq5)).pos hq6)), hw1.ext_out⟩
   refine Wa ?_
   refine Y3 ?_
   refine AA1 ?_
   refine Jn ?_
   refine Aj Ae Sx (k := fun r4 hr4 => ?_)
   refine Hc ?_
   refine Vy ?_
   refine Tz ?_
   refine Lt ?_
   refine Uj (σ1 := Nat) (σ2 := Nat) (σ3 := List Int) (σ4 := Array MapEntry) (σ5 := Nat) (fun n_8 x_6 x_7 x_7e x_7k => ((r4, Obj.map x_7e x_7k) :: ((r3, oc [(Value.func (.func 174) [].toArray [].toArray), (Value.func (.func 175) [].toArray [].toArray), (Value.func (.func 176) [].toArray [].toArray)] 280) :: ((r2, oc [(vs s_gens_a s.gens.length s_gens_c), (vs s_used_a s.used.length s_used_c), (vs s_free_a s.free.length s_free_c)] 276) :: ((r1, oc [(vs s_gens_a s.gens.length s_gens_c), (vs s_used_a s.used.length s_used_c), (vs s_free_a s.free.length s_free_c)] 31) :: []))))) (fun n_8 x_6 x_7 x_7e x_7k => [(0, (Value.pointer (some ⟨r2, 0, none⟩))), (2, (Value.bool false)), (3, (Value.map (some r4))), (12, (vs s_free_a s.free.length s_free_c)), (13, (vi ((s.free.length : Nat) : Int))), (14, (vi ((x_6 : Nat) : Int)))]) (fun n_8 x_6 x_7 x_7e x_7k => s.free.length - x_6 < n_8 ∧ Is (Sa s x_1 (s.free.length + 1) 0 ([] : List Int)) (Sa s x_1 n_8 x_6 x_7) ∧ Me (fun x : Int => vi x) x_7e x_7 ∧ x_6 ≤ s.free.length) (fun n_8 x_6 x_7 x_7e x_7k => n_8) (s.free.length + 1) 0 ([] : List Int) (#[]) 0 ?_ se (List.Perm.refl _) ?_
   ·exact ⟨Nat.lt_succ_self _, Is.refl _, Me.nil, Qc⟩
   ·rintro (_ | n_8) x_6 x_7 x_7e x_7k ⟨hm10, hF9, hx_7, hi11⟩
    ·omega
    refine Tx ?_
    refine Bd rfl (fun hq7 => ?_) (fun hq7 => ?_)
    rotate_left
    ·refine Cu ?_
     refine Kg ?_
     refine Z3 ?_
     refine mE ?_
     refine Tz ?_
     refine Aj Ae S5 (k := fun r5 hr5 => ?_)
     refine rE ?_
     refine Z3 ?_
     refine F1 ?_
     refine Aj Ae Qh (k := fun r6 hr6 => ?_)
     refine H9 ?_
     refine Kt ?_
     refine Fc Ae rfl call223 func223 ntmps223 (fun l7 rD7 rr7 hl7 => ?_)
     refine J8 ?_
     refine B5 ?_
     refine I9 ?_
     refine Lt ?_
     refine Kb (σ1 := Nat) (σ2 := Nat) (σ3 := Int) (fun n_14 x_12 x_13 => ((l7, Cb rr7 .ready none) :: ((rD7, Obj.deferred (some [])) :: ((r6, oc [(Value.pointer (some ⟨r2, 0, none⟩))] 274) :: ((r5, oc [(vi x_13)] 3) :: ((r4, Obj.map x_7e x_7k) :: ((r3, oc [(Value.func (.func 174) [].toArray [].toArray), (Value.func (.func 175) [].toArray [].toArray), (Value.func (.func 176) [].toArray [].toArray)] 280) :: ((r2, oc [(vs s_gens_a s.gens.length s_gens_c), (vs s_used_a s.used.length s_used_c), (vs s_free_a s.free.length s_free_c)] 276) :: ((r1, oc [(vs s_gens_a s.gens.length s_gens_c), (vs s_used_a s.used.length s_used_c), (vs s_free_a s.free.length s_free_c)] 31) :: []))))))))) (fun n_14 x_12 x_13 => [(0, (Value.func (.yield l7) [].toArray [].toArray)), (1, (Value.pointer (some ⟨r6, 0, none⟩))), (9, (vs s_used_a s.used.length s_used_c)), (10, (vi ((s.used.length : Nat) : Int))), (11, (vi ((x_12 : Nat) : Int)))]) (fun n_14 x_12 x_13 => s.used.length - x_12 < n_14 ∧ Is (Oi s x_1 x_6 x_7 (s.used.length + 1) 0 ((s.gens.length : Nat) : Int)) (Oi s x_1 x_6 x_7 n_14 x_12 x_13) ∧ x_12 ≤ s.used.length ∧ (0 ≤ x_13 + ((x_12 : Nat) : Int) ∧ x_13 ≤ 1000)) (fun n_14 x_12 x_13 => n_14) (s.used.length + 1) 0 ((s.gens.length : Nat) : Int) ?_ se (List.Perm.refl _) ?_
     ·exact ⟨Nat.lt_succ_self _, Is.refl _, Qc, Qc⟩
     ·rintro (_ | n_14) x_12 x_13 ⟨hm16, hF15, hi17, hi18⟩
      ·omega
      refine Tx ?_
      refine Bd rfl (fun hq12 => ?_) (fun hq12 => ?_)
      ·refine Br ?_
       refine Gv ?_
       refine Vx ?_
       refine Ad (Dl (n := s.used.length) runUnderlying29 sizeOf4 x_12 oU (gD Da) Lp) (k := ?_)
       refine Ad (Cr isAgg4 x_12 0 oU (gD Da)) (k := ?_)
       refine Hr ?_
       refine Ew ?_
       refine Cs 17 rfl (fun hq13 => ?_) (fun hq13 => ?_)
       rotate_left
       ·refine Ag 13 rfl ?_
        refine Rx ?_
        refine Pb ?_
        exact Gt n_14 (x_12 + 1) x_13 ⟨by omega, ((hF15.pos hq12).f hq13), lK, lK⟩ (Nat.lt_succ_self _) se (List.Perm.refl _)
       refine J7 ?_
       refine cK ?_
       refine G1 ?_
       refine Ep ?_
       refine An (Dl (n := s.gens.length) runUnderlying24 sizeOf3 x_12 qL (gD Da) Lp) (k := ?_)
       refine An (Cr isAgg3 x_12 0 qL (gD Da)) (k := ?_)
       refine J9 ?_
       refine Dv (vs := [(Value.agg [(vi ((x_12 : Nat) : Int)), (vi (s.gens.getD x_12 default))].toArray)]) hl7 q0 Dh ?_
       refine Br ?_
       refine C9 ?_
       refine Dn ?_
       refine I0 ?_
       refine H6 ?_
       refine Ex q0 ?_
       refine An It (k := ?_)
       refine B0 ?_
       refine Pb ?_
       exact Gt n_14 (x_12 + 1) (x_13 - 1) ⟨by omega, ((hF15.pos hq12).t hq13), lK, lK⟩ (Nat.lt_succ_self _) se (List.Perm.refl _)
      refine Cu ?_
      refine Jl ?_
      refine Gg (.inr rfl) results223 q0 ?_
      refine Ti ?_
      refine cJ ?_
      refine Ad (gI runUnderlying251 hx_7) (k := ?_)
      refine mK ?_
      refine Ix [rD7] (qa q0) results176 z1 ?_
      refine Sj ?_
      refine Bd rfl (fun hq14 => ?_) (fun hq14 => ?_)
      ·refine Bw ?_
       refine Lf ?_
       refine B3 ?_
       refine Ac results118 z1 (fun w1 hw1 => ?_)
       exact ⟨(rq ((((((((hF.pos hq1).pos hq2).neg hq3).er1 ((hF3.pos hq4).pos hq5)).neg hq6).ok2 (hF9.neg hq7)).rn2 (hF15.neg hq12)).pos hq14)), hw1.ext_out⟩
      refine Wb ?_
      refine B3 ?_
      refine Ac results118 z1 (fun w1 hw1 => ?_)
      exact ⟨(rq ((((((((hF.pos hq1).pos hq2).neg hq3).er1 ((hF3.pos hq4).pos hq5)).neg hq6).ok2 (hF9.neg hq7)).rn2 (hF15.neg hq12)).neg hq14)), hw1.ext_out⟩
    refine aA ?_
    refine Ad (Dl (n := s.free.length) runUnderlying24 sizeOf3 x_6 (Ch.of_base h_s_free) (gD Da) Lp) (k := ?_)
    refine Ad (Cr isAgg3 x_6 0 (Ch.of_base h_s_free) (gD Da)) (k := ?_)
    refine Hc ?_
    refine cH ?_
    refine Aw 20 rfl (fun hq8 => ?_) (fun hq8 => ?_)
    ·refine Ag 8 rfl ?_
     refine Qq ?_
     refine Ag 8 rfl ?_
     refine Yd ?_
     refine fE ?_
     refine Ac results118 z1 (fun w1 hw1 => ?_)
     exact ⟨(rq ((((((hF.pos hq1).pos hq2).neg hq3).er1 ((hF3.pos hq4).pos hq5)).neg hq6).er2 ((hF9.pos hq7).pos hq8))), hw1.ext_out⟩
    refine Oz ?_
    refine cK ?_
    refine rA ?_
    refine An (Dg runUnderlying29) (k := ?_)
    refine An My (k := ?_)
    refine Te ?_
    refine Aw 30 rfl (fun hq9 => ?_) (fun hq9 => ?_)
    ·refine Ag 8 rfl ?_
     refine Yd ?_
     refine fE ?_
     refine Ac results118 z1 (fun w1 hw1 => ?_)
     exact ⟨(rq ((((((hF.pos hq1).pos hq2).neg hq3).er1 ((hF3.pos hq4).pos hq5)).neg hq6).er2 (((hF9.pos hq7).neg hq8).pos hq9))), hw1.ext_out⟩
    refine Ep ?_
    refine cK ?_
    refine rA ?_
    refine Ep ?_
    refine An (Dl (n := s.used.length) runUnderlying29 sizeOf4 ((s.free.getD x_6 default).toNat) oU (gD Da) Lp) (k := ?_)
    refine An (Cr isAgg4 ((s.free.getD x_6 default).toNat) 0 oU (gD Da)) (k := ?_)
    refine Te ?_
    refine Cs 40 rfl (fun hq10 => ?_) (fun hq10 => ?_)
    ·refine Ag 3 rfl ?_
     refine fE ?_
     refine Ac results118 z1 (fun w1 hw1 => ?_)
     exact ⟨(rq ((((((hF.pos hq1).pos hq2).neg hq3).er1 ((hF3.pos hq4).pos hq5)).neg hq6).er2 ((((hF9.pos hq7).neg hq8).neg hq9).t hq10))), hw1.ext_out⟩
    refine Oz ?_
    refine An (Ux (xs := x_7) (s.free.getD x_6 default) Bo runUnderlying251 runUnderlying3 zeroValue4 hx_7) (k := ?_)
    refine Rx ?_
    refine Bd rfl (fun hq11 => ?_) (fun hq11 => ?_)
    rotate_left
    ·refine Br ?_
     refine Gv ?_
     refine Sv ?_
     refine Yx (xs := x_7) (s.free.getD x_6 default) Bo runUnderlying251 runUnderlying3 hx_7 Zn q0 (k := fun em3 km3 hms3 => ?_)
     refine fD ?_
     exact Uk n_8 (x_6 + 1) (x_7 ++ [(s.free.getD x_6 default)]) em3 km3 ⟨by omega, (((((hF9.pos hq7).neg hq8).neg hq9).f hq10).neg hq11), hms3, z8⟩ (Nat.lt_succ_self _) se (List.Perm.refl _)
    refine Z2 ?_
    refine Qr ?_
    refine H5 ?_
    refine Ac results118 z1 (fun w1 hw1 => ?_)
    exact ⟨(rq ((((((hF.pos hq1).pos hq2).neg hq3).er1 ((hF3.pos hq4).pos hq5)).neg hq6).er2 (((((hF9.pos hq7).neg hq8).neg hq9).f hq10).pos hq11))), hw1.ext_out⟩
  refine rL ?_
  refine Lr ?_
  refine Av results224 z1 ?_
  refine Z0 ?_
  refine Bd rfl (fun hq15 => ?_) (fun hq15 => ?_)
  rotate_left
  ·refine Br ?_
   refine iK ?_
   exact Hw n_2 (x_1 + 1) ⟨by omega, (((hF3.pos hq4).neg hq5).neg hq15), z8⟩ (Nat.lt_succ_self _) se (List.Perm.refl _)
  refine Z3 ?_
  refine iB ?_
  refine W6 ?_
  refine Av results116 z1 ?_
  refine Ad aK (k := ?_)
  refine Z5 ?_
  refine Av results175 z1 ?_
  refine Sj ?_
  refine Bd rfl (fun hq16 => ?_) (fun hq16 => ?_)
  ·refine Bw ?_
   refine Lf ?_
   refine B3 ?_
   refine Ac results118 z1 (fun w1 hw1 => ?_)
   exact ⟨(rq (((((hF.pos hq1).pos hq2).neg hq3).er1 (((hF3.pos hq4).neg hq5).pos hq15)).pos hq16)), hw1.ext_out⟩
  refine Wa ?_
  refine Y3 ?_
  refine AA1 ?_
  refine Jn ?_
  refine Aj Ae Sx (k := fun r8 hr8 => ?_)
  refine Hc ?_
  refine Vy ?_
  refine Tz ?_
  refine Lt ?_
  refine Uj (σ1 := Nat) (σ2 := Nat) (σ3 := List Int) (σ4 := Array MapEntry) (σ5 := Nat) (fun n_21 x_19 x_20 x_20e x_20k => ((r8, Obj.map x_20e x_20k) :: ((r3, oc [(Value.func (.func 174) [].toArray [].toArray), (Value.func (.func 175) [].toArray [].toArray), (Value.func (.func 176) [].toArray [].toArray)] 280) :: ((r2, oc [(vs s_gens_a s.gens.length s_gens_c), (vs s_used_a s.used.length s_used_c), (vs s_free_a s.free.length s_free_c)] 276) :: ((r1, oc [(vs s_gens_a s.gens.length s_gens_c), (vs s_used_a s.used.length s_used_c), (vs s_free_a s.free.length s_free_c)] 31) :: []))))) (fun n_21 x_19 x_20 x_20e x_20k => [(0, (Value.pointer (some ⟨r2, 0, none⟩))), (2, (Value.bool false)), (3, (Value.map (some r8))), (12, (vs s_free_a s.free.length s_free_c)), (13, (vi ((s.free.length : Nat) : Int))), (14, (vi ((x_19 : Nat) : Int)))]) (fun n_21 x_19 x_20 x_20e x_20k => s.free.length - x_19 < n_21 ∧ Is (Sb s x_1 (s.free.length + 1) 0 ([] : List Int)) (Sb s x_1 n_21 x_19 x_20) ∧ Me (fun x : Int => vi x) x_20e x_20 ∧ x_19 ≤ s.free.length) (fun n_21 x_19 x_20 x_20e x_20k => n_21) (s.free.length + 1) 0 ([] : List Int) (#[]) 0 ?_ se (List.Perm.refl _) ?_
  ·exact ⟨Nat.lt_succ_self _, Is.refl _, Me.nil, Qc⟩
  ·rintro (_ | n_21) x_19 x_20 x_20e x_20k ⟨hm23, hF22, hx_20, hi24⟩
   ·omega
   refine Tx ?_
   refine Bd rfl (fun hq17 => ?_) (fun hq17 => ?_)
   rotate_left
   ·refine Cu ?_
    refine Kg ?_
    refine Z3 ?_
    refine mE ?_
    refine Tz ?_
    refine Aj Ae S5 (k := fun r9 hr9 => ?_)
    refine rE ?_
    refine Z3 ?_
    refine F1 ?_
    refine Aj Ae Qh (k := fun r10 hr10 => ?_)
    refine H9 ?_
    refine Kt ?_
    refine Fc Ae rfl call223 func223 ntmps223 (fun l11 rD11 rr11 hl11 => ?_)
    refine J8 ?_
    refine B5 ?_
    refine I9 ?_
    refine Lt ?_
    refine Kb (σ1 := Nat) (σ2 := Nat) (σ3 := Int) (fun n_27 x_25 x_26 => ((l11, Cb rr11 .ready none) :: ((rD11, Obj.deferred (some [])) :: ((r10, oc [(Value.pointer (some ⟨r2, 0, none⟩))] 274) :: ((r9, oc [(vi x_26)] 3) :: ((r8, Obj.map x_20e x_20k) :: ((r3, oc [(Value.func (.func 174) [].toArray [].toArray), (Value.func (.func 175) [].toArray [].toArray), (Value.func (.func 176) [].toArray [].toArray)] 280) :: ((r2, oc [(vs s_gens_a s.gens.length s_gens_c), (vs s_used_a s.used.length s_used_c), (vs s_free_a s.free.length s_free_c)] 276) :: ((r1, oc [(vs s_gens_a s.gens.length s_gens_c), (vs s_used_a s.used.length s_used_c), (vs s_free_a s.free.length s_free_c)] 31) :: []))))))))) (fun n_27 x_25 x_26 => [(0, (Value.func (.yield l11) [].toArray [].toArray)), (1, (Value.pointer (some ⟨r10, 0, none⟩))), (9, (vs s_used_a s.used.length s_used_c)), (10, (vi ((s.used.length : Nat) : Int))), (11, (vi ((x_25 : Nat) : Int)))]) (fun n_27 x_25 x_26 => s.used.length - x_25 < n_27 ∧ Is (Oj s x_1 x_19 x_20 (s.used.length + 1) 0 ((s.gens.length : Nat) : Int)) (Oj s x_1 x_19 x_20 n_27 x_25 x_26) ∧ x_25 ≤ s.used.length ∧ (0 ≤ x_26 + ((x_25 : Nat) : Int) ∧ x_26 ≤ 1000)) (fun n_27 x_25 x_26 => n_27) (s.used.length + 1) 0 ((s.gens.length : Nat) : Int) ?_ se (List.Perm.refl _) ?_
    ·exact ⟨Nat.lt_succ_self _, Is.refl _, Qc, Qc⟩
    ·rintro (_ | n_27) x_25 x_26 ⟨hm29, hF28, hi30, hi31⟩
     ·omega
     refine Tx ?_
     refine Bd rfl (fun hq22 => ?_) (fun hq22 => ?_)
     ·refine Br ?_
      refine Gv ?_
      refine Vx ?_
      refine Ad (Dl (n := s.used.length) runUnderlying29 sizeOf4 x_25 oU (gD Da) Lp) (k := ?_)
      refine Ad (Cr isAgg4 x_25 0 oU (gD Da)) (k := ?_)
      refine Hr ?_
      refine Ew ?_
      refine Cs 17 rfl (fun hq23 => ?_) (fun hq23 => ?_)
      rotate_left
      ·refine Ag 13 rfl ?_
       refine Rx ?_
       refine Pb ?_
       exact Gt n_27 (x_25 + 1) x_26 ⟨by omega, ((hF28.pos hq22).f hq23), lK, lK⟩ (Nat.lt_succ_self _) se (List.Perm.refl _)
      refine J7 ?_
      refine cK ?_
      refine G1 ?_
      refine Ep ?_
      refine An (Dl (n := s.gens.length) runUnderlying24 sizeOf3 x_25 qL (gD Da) Lp) (k := ?_)
      refine An (Cr isAgg3 x_25 0 qL (gD Da)) (k := ?_)
      refine J9 ?_
      refine Dv (vs := [(Value.agg [(vi ((x_25 : Nat) : Int)), (vi (s.gens.getD x_25 default))].toArray)]) hl11 q0 Dh ?_
      refine Br ?_
      refine C9 ?_
      refine Dn ?_
      refine I0 ?_
      refine H6 ?_
      refine Ex q0 ?_
      refine An It (k := ?_)
      refine B0 ?_
      refine Pb ?_
      exact Gt n_27 (x_25 + 1) (x_26 - 1) ⟨by omega, ((hF28.pos hq22).t hq23), lK, lK⟩ (Nat.lt_succ_self _) se (List.Perm.refl _)
     refine Cu ?_
     refine Jl ?_
     refine Gg (.inr rfl) results223 q0 ?_
     refine Ti ?_
     refine cJ ?_
     refine Ad (gI runUnderlying251 hx_20) (k := ?_)
     refine mK ?_
     refine Ix [rD11] (qa q0) results176 z1 ?_
     refine Sj ?_
     refine Bd rfl (fun hq24 => ?_) (fun hq24 => ?_)
     ·refine Bw ?_
      refine Lf ?_
      refine B3 ?_
      refine Ac results118 z1 (fun w1 hw1 => ?_)
      exact ⟨(rq ((((((((hF.pos hq1).pos hq2).neg hq3).er1 (((hF3.pos hq4).neg hq5).pos hq15)).neg hq16).ok2 (hF22.neg hq17)).rn2 (hF28.neg hq22)).pos hq24)), hw1.ext_out⟩
     refine Wb ?_
     refine B3 ?_
     refine Ac results118 z1 (fun w1 hw1 => ?_)
     exact ⟨(rq ((((((((hF.pos hq1).pos hq2).neg hq3).er1 (((hF3.pos hq4).neg hq5).pos hq15)).neg hq16).ok2 (hF22.neg hq17)).rn2 (hF28.neg hq22)).neg hq24)), hw1.ext_out⟩
   refine aA ?_
   refine Ad (Dl (n := s.free.length) runUnderlying24 sizeOf3 x_19 (Ch.of_base h_s_free) (gD Da) Lp) (k := ?_)
   refine Ad (Cr isAgg3 x_19 0 (Ch.of_base h_s_free) (gD Da)) (k := ?_)
   refine Hc ?_
   refine cH ?_
   refine Aw 20 rfl (fun hq18 => ?_) (fun hq18 => ?_)
   ·refine Ag 8 rfl ?_
    refine Qq ?_
    refine Ag 8 rfl ?_
    refine Yd ?_
    refine fE ?_
    refine Ac results118 z1 (fun w1 hw1 => ?_)
    exact ⟨(rq ((((((hF.pos hq1).pos hq2).neg hq3).er1 (((hF3.pos hq4).neg hq5).pos hq15)).neg hq16).er2 ((hF22.pos hq17).pos hq18))), hw1.ext_out⟩
   refine Oz ?_
   refine cK ?_
   refine rA ?_
   refine An (Dg runUnderlying29) (k := ?_)
   refine An My (k := ?_)
   refine Te ?_
   refine Aw 30 rfl (fun hq19 => ?_) (fun hq19 => ?_)
   ·refine Ag 8 rfl ?_
    refine Yd ?_
    refine fE ?_
    refine Ac results118 z1 (fun w1 hw1 => ?_)
    exact ⟨(rq ((((((hF.pos hq1).pos hq2).neg hq3).er1 (((hF3.pos hq4).neg hq5).pos hq15)).neg hq16).er2 (((hF22.pos hq17).neg hq18).pos hq19))), hw1.ext_out⟩
   refine Ep ?_
   refine cK ?_
   refine rA ?_
   refine Ep ?_
   refine An (Dl (n := s.used.length) runUnderlying29 sizeOf4 ((s.free.getD x_19 default).toNat) oU (gD Da) Lp) (k := ?_)
   refine An (Cr isAgg4 ((s.free.getD x_19 default).toNat) 0 oU (gD Da)) (k := ?_)
   refine Te ?_
   refine Cs 40 rfl (fun hq20 => ?_) (fun hq20 => ?_)
   ·refine Ag 3 rfl ?_
    refine fE ?_
    refine Ac results118 z1 (fun w1 hw1 => ?_)
    exact ⟨(rq ((((((hF.pos hq1).pos hq2).neg hq3).er1 (((hF3.pos hq4).neg hq5).pos hq15)).neg hq16).er2 ((((hF22.pos hq17).neg hq18).neg hq19).t hq20))), hw1.ext_out⟩
   refine Oz ?_
   refine An (Ux (xs := x_20) (s.free.getD x_19 default) Bo runUnderlying251 runUnderlying3 zeroValue4 hx_20) (k := ?_)
   refine Rx ?_
   refine Bd rfl (fun hq21 => ?_) (fun hq21 => ?_)
   rotate_left
   ·refine Br ?_
    refine Gv ?_
    refine Sv ?_
    refine Yx (xs := x_20) (s.free.getD x_19 default) Bo runUnderlying251 runUnderlying3 hx_20 Zn q0 (k := fun em6 km6 hms6 => ?_)
    refine fD ?_
    exact Uk n_21 (x_19 + 1) (x_20 ++ [(s.free.getD x_19 default)]) em6 km6 ⟨by omega, (((((hF22.pos hq17).neg hq18).neg hq19).f hq20).neg hq21), hms6, z8⟩ (Nat.lt_succ_self _) se (List.Perm.refl _)
   refine Z2 ?_
   refine Qr ?_
   refine H5 ?_
   refine Ac results118 z1 (fun w1 hw1 => ?_)
   exact ⟨(rq ((((((hF.pos hq1).pos hq2).neg hq3).er1 (((hF3.pos hq4).neg hq5).pos hq15)).neg hq16).er2 (((((hF22.pos hq17).neg hq18).neg hq19).f hq20).pos hq21))), hw1.ext_out⟩

theorem O2 (w : World) {s_gens_a : Option Addr} {s_gens_c : Nat} {s_used_a : Option Addr} {s_used_c : Nat} {s_free_a : Option Addr} {s_free_c : Nat} {s : Slots} (h_s_gens : Sl w eI 1 s_gens_a s.gens) (n_s_gens : s.gens.length ≤ 1000) (h_s_used : Sl w eB 1 s_used_a s.used) (n_s_used : s.used.length ≤ 1000) (h_s_free : Sl w eI 1 s_free_a s.free) (n_s_free : s.free.length ≤ 1000) : Calls Tryz.prog 117 (List.toArray [(Value.agg [(vs s_gens_a s.gens.length s_gens_c), (vs s_used_a s.used.length s_used_c), (vs s_free_a s.free.length s_free_c)].toArray)]) w fun e w2 => ∃ a1 : Option Addr, ∃ c1 : Nat, ∃ B : Am, e = .returned (vs a1 ((Ss s).length) c1) ∧ Dz w w2 B ∧ Hb B gO 2 a1 (Ss s) ∧ (Ss s).length ≤ 1000 := by
 have hF := Is.refl (Ss s)
 refine Pi func117 ntmps117 (h := ?_)
 refine Z2 ?_
 refine Aj Ae Lb (k := fun r1 hr1 => ?_)
 refine Jj ?_
 refine Z2 ?_
 refine AK1 ?_
 refine Oc ?_
 refine Dc rfl (fun hq1 => ?_) (fun hq1 => ?_)
 ·refine Bw ?_
  refine Yf ?_
  refine Db [] (List.Perm.refl _) results117 z1 (fun w1 hw1 => ?_)
  exact ⟨none, 0, [], (rq (hF.t hq1)), (hw1.fresh_out.sub Mt), (rn (hF.t hq1)), (rl (hF.t hq1))⟩
 have hfhq1 := Vj uF
 refine Wd ?_
 refine Aj Ae (Bz (l := [_]) zeroValue212) (k := fun r2 hr2 => ?_)
 refine Qn ?_
 refine jD ?_
 refine Ad (Cf (cs := [_, _, _]) zeroValue276 oB) (k := ?_)
 refine Aj Ae Lb (k := fun r3 hr3 => ?_)
 refine Wf ?_
 refine Hc ?_
 refine F1 ?_
 refine Aj Ae Qh (k := fun r4 hr4 => ?_)
 refine H9 ?_
 refine Kt ?_
 refine Fc Ae rfl call223 func223 ntmps223 (fun l5 rD5 rr5 hl5 => ?_)
 refine J8 ?_
 refine B5 ?_
 refine I9 ?_
 refine Lt ?_
 refine Na (σ1 := Nat) (σ2 := Nat) (σ3 := List Handle) (σ4 := Option Addr) (σ5 := Nat) (σ6 := Am) (fun n_3 x_1 x_2 x_2a x_2c x_2B => (x_2B ++ ((l5, Cb rr5 .ready none) :: ((rD5, Obj.deferred (some [])) :: ((r4, oc [(Value.pointer (some ⟨r3, 0, none⟩))] 274) :: ((r3, oc [(vs s_gens_a s.gens.length s_gens_c), (vs s_used_a s.used.length s_used_c), (vs s_free_a s.free.length s_free_c)] 276) :: ((r2, oc [(vs x_2a x_2.length x_2c)] 212) :: ((r1, oc [(vs s_gens_a s.gens.length s_gens_c), (vs s_used_a s.used.length s_used_c), (vs s_free_a s.free.length s_free_c)] 31) :: [])))))))) (fun n_3 x_1 x_2 x_2a x_2c x_2B => [(0, (Value.func (.yield l5) [].toArray [].toArray)), (1, (Value.pointer (some ⟨r4, 0, none⟩))), (9, (vs s_used_a s.used.length s_used_c)), (10, (vi ((s.used.length : Nat) : Int))), (11, (vi ((x_1 : Nat) : Int)))]) (fun n_3 x_1 x_2 x_2a x_2c x_2B => s.used.length - x_1 < n_3 ∧ Is (Ng s (s.used.length + 1) 0 []) (Ng s n_3 x_1 x_2) ∧ Bi gO 2 23 x_2a x_2c x_2B x_2 ∧ x_1 ≤ s.used.length ∧ x_2.length ≤ x_1) (fun n_3 x_1 x_2 x_2a x_2c x_2B => n_3) (s.used.length + 1) 0 ([]) none 0 ([]) ?_ se (List.Perm.refl _) ?_
 ·exact ⟨Nat.lt_succ_self _, Is.refl _, Bi.nil, Qc, Qc⟩
 ·rintro (_ | n_3) x_1 x_2 x_2a x_2c x_2B ⟨hm5, hF4, hx_2, hi6, hi7⟩
  ·omega
  refine Tx ?_
  refine Bd rfl (fun hq2 => ?_) (fun hq2 => ?_)
  rotate_left
  ·refine Cu ?_
   refine Jl ?_
   refine Gg (.inr rfl) results223 (qc q0) ?_
   refine Ti ?_
   refine Ad (Bb isAgg212) (k := ?_)
   refine Z5 ?_
   refine Db [rD5] (qa (qc q0)) results117 z1 (fun w1 hw1 => ?_)
   exact ⟨x_2a, x_2c, x_2B, (rq ((hF.f hq1).rn2 (hF4.neg hq2))), (Aq (L := x_2B) (hw1.perm (qb q0)) rfl.symm), (by rw [((hF.f hq1).rn2 (hF4.neg hq2)).eq]; exact (hx_2.slb Tt)), (rl ((hF.f hq1).rn2 (hF4.neg hq2)))⟩
  refine Qd ?_
  refine Vx ?_
  refine Ad (Dl (n := s.used.length) runUnderlying29 sizeOf4 x_1 oU (gD Da) Lp) (k := ?_)
  refine Ad (Cr isAgg4 x_1 0 oU (gD Da)) (k := ?_)
  refine Hr ?_
  refine Ew ?_
  refine Cs 17 rfl (fun hq3 => ?_) (fun hq3 => ?_)
  rotate_left
  ·refine Ag 13 rfl ?_
   refine Rx ?_
   refine Pb ?_
   exact Hx n_3 (x_1 + 1) x_2 x_2a x_2c x_2B ⟨by omega, ((hF4.pos hq2).f hq3), hx_2, lK, lK⟩ (Nat.lt_succ_self _) se (List.Perm.refl _)
  refine J7 ?_
  refine cK ?_
  refine G1 ?_
  refine Ep ?_
  refine An (Dl (n := s.gens.length) runUnderlying24 sizeOf3 x_1 qL (gD Da) Lp) (k := ?_)
  refine An (Cr isAgg3 x_1 0 qL (gD Da)) (k := ?_)
  refine J9 ?_
  refine Dv (vs := [(Value.agg [(vi ((x_1 : Nat) : Int)), (vi (s.gens.getD x_1 default))].toArray)]) hl5 (qc q0) Dh ?_
  refine Dn ?_
  refine Aj Ae (Bz (l := [_, _]) zeroValue23) (k := fun r6 hr6 => ?_)
  refine Eh (Bc (l' := [_, _]) sizeOf23) (k := ?_)
  refine Ef ?_
  refine W4 ?_
  refine Ad (Bb isAgg212) (k := ?_)
  refine Ad A7 (k := ?_)
  refine Aj Ae (Dd (l := [_, _]) runUnderlying212 sizeOf23 zeroValue23) (k := fun r7 hr7 => ?_)
  refine Ar (x_2 ++ ([(Handle.mk ((x_1 : Nat) : Int) (s.gens.getD x_1 default))] : List Handle)) rfl AP2 underlying212 Tt hx_2 (qb (qb (qb q0))) (Ch.lit (xs := ([(Handle.mk ((x_1 : Nat) : Int) (s.gens.getD x_1 default))] : List Handle)) Tt) ⟨by omega, by omega⟩ (n := x_2.length) (m := 1) (k := fun ax1 cx1 Bx1 hox1 => ?_)
  have hal1 : (x_2 ++ ([(Handle.mk ((x_1 : Nat) : Int) (s.gens.getD x_1 default))] : List Handle)).length = x_2.length + 1 := by first | rfl | exact List.length_append | simp
  refine Eh (Bc (l' := [_]) sizeOf212) (k := ?_)
  refine Ef ?_
  refine uR ?_
  refine Pb ?_
  refine Dj _ (((((((qa (qc (qa (qa (qa (qa (qa (qa q0)))))))).trans (qa (qa (qc (qa (qa (qa (qa (qa q0))))))))).trans (qa (qa (qa (qc (qa (qa (qa (qa q0))))))))).trans (qa (qa (qa (qa (qc (qa (qa (qa q0))))))))).trans (qa (qa (qa (qa (qa (qc (qa (qa q0))))))))).trans (qa (qa (qa (qa (qa q0)))))).trans (qb (qb (qb (qb (qb (qb q0))))))) ?_
  refine Cc _ (List.Sublist.append Xw R8) ?_
  exact Hx n_3 (x_1 + 1) (x_2 ++ ([(Handle.mk ((x_1 : Nat) : Int) (s.gens.getD x_1 default))] : List Handle)) ax1 cx1 Bx1 ⟨by omega, ((hF4.pos hq2).t hq3), hox1, lK, lK⟩ (Nat.lt_succ_self _) se (List.Perm.refl _)

theorem yL (w : World) {s_gens_a : Option Addr} {s_gens_c : Nat} {s_used_a : Option Addr} {s_used_c : Nat} {s_free_a : Option Addr} {s_free_c : Nat} {s : Slots} (h_s_gens : Sl w eI 1 s_gens_a s.gens) (n_s_gens : s.gens.length ≤ 1000) (h_s_used : Sl w eB 1 s_used_a s.used) (n_s_used : s.used.length ≤ 1000) (h_s_free : Sl w eI 1 s_free_a s.free) (n_s_free : s.free.length ≤ 1000) : Calls Tryz.prog 180 (List.toArray [(Value.agg [(vs s_gens_a s.gens.length s_gens_c), (vs s_used_a s.used.length s_used_c), (vs s_free_a s.free.length s_free_c)].toArray)]) w fun e w2 => ∃ a1 : Option Addr, ∃ c1 : Nat, ∃ a2 : Option Addr, ∃ c2 : Nat, ∃ a3 : Option Addr, ∃ c3 : Nat, ∃ B : Am, e = .returned (Value.tuple [(Value.agg [(vs a1 ((Fk s).1.gens.length) c1), (vs a2 ((Fk s).1.used.length) c2), (vs a3 ((Fk s).1.free.length) c3)].toArray), (Value.agg [(vi ((Fk s).2.1.slot)), (vi ((Fk s).2.1.gen))].toArray), (vi ((Fk s).2.2))].toArray) ∧ Dz w w2 B ∧ Hb B eI 1 a1 (Fk s).1.gens ∧ Hb B eB 1 a2 (Fk s).1.used ∧ Hb B eI 1 a3 (Fk s).1.free ∧ (Fk s).1.gens.length ≤ 1000 ∧ (Fk s).1.used.length ≤ 1000 ∧ (Fk s).1.free.length ≤ 1000 := by
 have hF := Is.refl (Fk s)
 refine enter func180 ntmps180 (h := ?_)
 refine Z2 ?_
 refine Aj Ae Lb (k := fun r1 hr1 => ?_)
 refine Aj Ae A5 (k := fun r2 hr2 => ?_)
 refine Aj Ae (Bz (l := [_, _]) zeroValue23) (k := fun r3 hr3 => ?_)
 refine Jj ?_
 refine Z2 ?_
 refine AK1 ?_
 refine Oc ?_
 refine Dc rfl (fun hq1 => ?_) (fun hq1 => ?_)
 ·refine Bw ?_
  refine Dn ?_
  refine lO ?_
  refine iH ?_
  refine Qr ?_
  refine Ac results180 (Bk.agg isAgg31 sizeOf31 rfl me rfl (Bk.agg isAgg23 sizeOf23 rfl me rfl z1)) (fun w1 hw1 => ?_)
  exact ⟨none, 0, none, 0, none, 0, [], (rq (hF.t hq1)), (hw1.fresh_out.sub Mt), (rn (hF.t hq1)), (rn (hF.t hq1)), (rn (hF.t hq1)), (rl (hF.t hq1)), (rl (hF.t hq1)), (rl (hF.t hq1))⟩
 have hfhq1 := Vj uF
 refine Wd ?_
 refine jD ?_
 refine Bh (args := [_]) (Aa call228) func228 ntmps228 ?_
 refine Z2 ?_
 refine Aj Ae Lb (k := fun r4 hr4 => ?_)
 refine Jj ?_
 refine Ui (V := []) mixed 14 z6 ?_
 refine Ci 0 rfl z6 (Al Vl) (k := ?_)
 refine Ci 1 rfl z6 lN (k := ?_)
 refine Ci 2 rfl z6 (Dg runUnderlying24) (k := ?_)
 refine Ci 4 rfl z6 (Al Vm) (k := ?_)
 refine Ci 5 rfl z6 (Bb isAgg29) (k := ?_)
 refine Ci 7 rfl z6 (Al Se) (k := ?_)
 refine Ci 8 rfl z6 lN (k := ?_)
 refine Bn [3, 6] z6 rfl (List.forall_mem_cons.2 ⟨?_, (List.forall_mem_cons.2 ⟨?_, nofun⟩)⟩)
 ·skip
  refine bE rfl (n := s.gens.length) (x0 := default) Ev underlying24 Au rfl ⟨by omega, by omega⟩ (k := fun ax81 Bx81 hox81 => ?_)
  refine Bn [6] z6 rfl (List.forall_mem_cons.2 ⟨?_, nofun⟩)
  ·skip
   refine AM6 ?_
   rintro w1_141 e1_141 w2_141 hw1_141 ⟨a1_141, c1_141, B1_141, he_141, hf_141, ho1_141⟩
   refine ⟨_, _, _, he_141, hf_141, rfl, ?_⟩
   refine Bn [9] z6 rfl (List.forall_mem_cons.2 ⟨?_, nofun⟩)
   ·skip
    refine AB3 ?_
    rintro w1_201 e1_201 w2_201 hw1_201 ⟨a1_201, c1_201, B1_201, he_201, hf_201, ho1_201⟩
    refine ⟨_, _, _, he_201, hf_201, rfl, ?_⟩
    refine X0 ?_
    refine Bn [12] z6 rfl (List.forall_mem_cons.2 ⟨?_, nofun⟩)
    ·skip
     refine cY rfl Ae Lb (k := fun r265 hr265 => ?_)
     refine AA7 ?_
     refine Fq (nA (nA nE)) ?_
     refine X4 ?_
     refine Z4 ?_
     refine mC ?_
     refine uK ?_
     refine fT (n := s.gens.length) Ev underlying24 Au hox81 q0 qL Hs rfl (kk := fun Bx302 hox302 => ?_)
     refine eZ ?_
     refine fC ?_
     refine Av results228 z1 ?_
     refine Mu ?_
     refine Vy ?_
     refine Tz ?_
     refine Sq ?_
     refine Jj ?_
     refine Ez ?_
     refine V9 ?_
     refine Ay Mx (k := ?_)
     refine Fi ?_
     refine Ge 24 rfl (fun hq2 => ?_) (fun hq2 => ?_)
     ·refine Bl 16 rfl ?_
      refine iY ?_
      refine tZ ?_
      refine lO ?_
      refine iH ?_
      refine Qr ?_
      refine Ac results180 (Bk.agg isAgg31 sizeOf31 rfl me rfl (Bk.agg isAgg23 sizeOf23 rfl me rfl z1)) (fun w1 hw1 => ?_)
      exact ⟨none, 0, none, 0, none, 0, [], (rq ((hF.f hq1).pos hq2)), (hw1.fresh_out.sub Mt), (rn ((hF.f hq1).pos hq2)), (rn ((hF.f hq1).pos hq2)), (rn ((hF.f hq1).pos hq2)), (rl ((hF.f hq1).pos hq2)), (rl ((hF.f hq1).pos hq2)), (rl ((hF.f hq1).pos hq2))⟩
     refine vS ?_
     refine Bj lN (k := ?_)
     refine uZ ?_
     refine AA9 ?_
     refine Pd ?_
     refine V7 ?_
     refine V3 ?_
     refine Bj Gw (k := ?_)
     refine cM ?_
     refine Bd rfl (fun hq3 => ?_) (fun hq3 => ?_)
     ·refine Bw ?_
      refine Dn ?_
      refine lO ?_
      refine iH ?_
      refine Qr ?_
      refine Ac results180 (Bk.agg isAgg31 sizeOf31 rfl me rfl (Bk.agg isAgg23 sizeOf23 rfl me rfl z1)) (fun w1 hw1 => ?_)
      exact ⟨none, 0, none, 0, none, 0, [], (rq (((hF.f hq1).neg hq2).pos hq3)), (hw1.fresh_out.sub Mt), (rn (((hF.f hq1).neg hq2).pos hq3)), (rn (((hF.f hq1).neg hq2).pos hq3)), (rn (((hF.f hq1).neg hq2).pos hq3)), (rl (((hF.f hq1).neg hq2).pos hq3)), (rl (((hF.f hq1).neg hq2).pos hq3)), (rl (((hF.f hq1).neg hq2).pos hq3))⟩
     refine Qd ?_
     refine Z3 ?_
     refine Vy ?_
     refine iS ?_
     refine V8 ?_
     refine Ew ?_
     refine Vy ?_
     refine jE ?_
     refine Qi ?_
     have hl4 : (s.free.take ((((s.free.length : Nat) : Int) - 1).toNat)).length = (((s.free.length : Nat) : Int) - 1).toNat := by rw [List.length_take]; omega
     have hl4c := ho1_201.le'
     refine W3 ?_
     refine K0 ?_
     refine Jm ?_
     refine B5 ?_
     refine C4 ?_
     refine W1 ?_
     refine Jr ((s.free.getD ((((s.free.length : Nat) : Int) - 1).toNat) default).toNat) true sizeOf4 Mc ho1_141 (qd (qd q0)) tW (k := fun Bs301 hos301 => ?_)
     refine Jm ?_
     refine mE ?_
     refine iS ?_
     refine V4 ?_
     refine W2 ?_
     refine Jr ((s.free.getD ((((s.free.length : Nat) : Int) - 1).toNat) default).toNat) ((s.gens.getD ((s.free.getD ((((s.free.length : Nat) : Int) - 1).toNat) default).toNat) default) + 1) sizeOf3 Au hox302 (qd q0) tW (k := fun Bs302 hos302 => ?_)
     refine V6 ?_
     refine Z4 ?_
     refine AA0 ?_
     refine V1 ?_
     refine mC ?_
     refine Fi ?_
     refine AA8 ?_
     refine W9 ?_
     refine uL ?_
     refine Ac results180 (Bk.agg isAgg31 sizeOf31 rfl me rfl (Bk.agg isAgg23 sizeOf23 rfl me rfl z1)) (fun w1 hw1 => ?_)
     exact ⟨ax81, s.gens.length, a1_141, c1_141, a1_201, ((((s.free.length : Nat) : Int) - 1).toNat), (Bs302 ++ (Bs301 ++ B1_201)), (rq (((hF.f hq1).neg hq2).neg hq3)), (Aq (L := (Bs302 ++ (Bs301 ++ B1_201))) (hw1.perm (((qb (qb (qd (qd q0)))).trans (qd (qb (qb (qd q0))))).trans (qd (qd (qb (qb q0)))))) (nA (nA rfl)).symm), (by rw [(((hF.f hq1).neg hq2).neg hq3).eq]; exact (hos302.slb Au)), (by rw [(((hF.f hq1).neg hq2).neg hq3).eq]; exact (hos301.slb Mc)), (by rw [(((hF.f hq1).neg hq2).neg hq3).eq]; exact ((ho1_201.take Au ((((s.free.length : Nat) : Int) - 1).toNat)).slb Au)), (rl (((hF.f hq1).neg hq2).neg hq3)), (rl (((hF.f hq1).neg hq2).neg hq3)), (rl (((hF.f hq1).neg hq2).neg hq3))⟩
 ·skip
  refine AM6 ?_
  rintro w1_141 e1_141 w2_141 hw1_141 ⟨a1_141, c1_141, B1_141, he_141, hf_141, ho1_141⟩
  refine ⟨_, _, _, he_141, hf_141, rfl, ?_⟩
  refine Bn [3, 9] z6 rfl (List.forall_mem_cons.2 ⟨?_, (List.forall_mem_cons.2 ⟨?_, nofun⟩)⟩)
  ·skip
   refine bE rfl (n := s.gens.length) (x0 := default) Ev underlying24 Au rfl ⟨by omega, by omega⟩ (k := fun ax81 Bx81 hox81 => ?_)
   refine Bn [9] z6 rfl (List.forall_mem_cons.2 ⟨?_, nofun⟩)
   ·skip
    refine AB3 ?_
    rintro w1_201 e1_201 w2_201 hw1_201 ⟨a1_201, c1_201, B1_201, he_201, hf_201, ho1_201⟩
    refine ⟨_, _, _, he_201, hf_201, rfl, ?_⟩
    refine X0 ?_
    refine Bn [12] z6 rfl (List.forall_mem_cons.2 ⟨?_, nofun⟩)
    ·skip
     refine cY rfl Ae Lb (k := fun r265 hr265 => ?_)
     refine AA7 ?_
     refine Fq (nA (nA nE)) ?_
     refine X4 ?_
     refine Z4 ?_
     refine mC ?_
     refine uK ?_
     refine fT (n := s.gens.length) Ev underlying24 Au hox81 q0 qL Hs rfl (kk := fun Bx302 hox302 => ?_)
     refine eZ ?_
     refine fC ?_
     refine Av results228 z1 ?_
     refine Mu ?_
     refine Vy ?_
     refine Tz ?_
     refine Sq ?_
     refine Jj ?_
     refine Ez ?_
     refine V9 ?_
     refine Ay Mx (k := ?_)
     refine Fi ?_
     refine Ge 24 rfl (fun hq5 => ?_) (fun hq5 => ?_)
     ·refine Bl 16 rfl ?_
      refine iY ?_
      refine tZ ?_
      refine lO ?_
      refine iH ?_
      refine Qr ?_
      refine Ac results180 (Bk.agg isAgg31 sizeOf31 rfl me rfl (Bk.agg isAgg23 sizeOf23 rfl me rfl z1)) (fun w1 hw1 => ?_)
      exact ⟨none, 0, none, 0, none, 0, [], (rq ((hF.f hq1).pos hq5)), (hw1.fresh_out.sub Mt), (rn ((hF.f hq1).pos hq5)), (rn ((hF.f hq1).pos hq5)), (rn ((hF.f hq1).pos hq5)), (rl ((hF.f hq1).pos hq5)), (rl ((hF.f hq1).pos hq5)), (rl ((hF.f hq1).pos hq5))⟩
     refine vS ?_
     refine Bj lN (k := ?_)
     refine uZ ?_
     refine AA9 ?_
     refine Pd ?_
     refine V7 ?_
     refine V3 ?_
     refine Bj Gw (k := ?_)
     refine cM ?_
     refine Bd rfl (fun hq6 => ?_) (fun hq6 => ?_)
     ·refine Bw ?_
      refine Dn ?_
      refine lO ?_
      refine iH ?_
      refine Qr ?_
      refine Ac results180 (Bk.agg isAgg31 sizeOf31 rfl me rfl (Bk.agg isAgg23 sizeOf23 rfl me rfl z1)) (fun w1 hw1 => ?_)
      exact ⟨none, 0, none, 0, none, 0, [], (rq (((hF.f hq1).neg hq5).pos hq6)), (hw1.fresh_out.sub Mt), (rn (((hF.f hq1).neg hq5).pos hq6)), (rn (((hF.f hq1).neg hq5).pos hq6)), (rn (((hF.f hq1).neg hq5).pos hq6)), (rl (((hF.f hq1).neg hq5).pos hq6)), (rl (((hF.f hq1).neg hq5).pos hq6)), (rl (((hF.f hq1).neg hq5).pos hq6))⟩
     refine Qd ?_
     refine Z3 ?_
     refine Vy ?_
     refine iS ?_
     refine V8 ?_
     refine Ew ?_
     refine Vy ?_
     refine jE ?_
     refine Qi ?_
     have hl7 : (s.free.take ((((s.free.length : Nat) : Int) - 1).toNat)).length = (((s.free.length : Nat) : Int) - 1).toNat := by rw [List.length_take]; omega
     have hl7c := ho1_201.le'
     refine W3 ?_
     refine K0 ?_
     refine Jm ?_
     refine B5 ?_
     refine C4 ?_
     refine W1 ?_
     refine Jr ((s.free.getD ((((s.free.length : Nat) : Int) - 1).toNat) default).toNat) true sizeOf4 Mc ho1_141 (qd (qd q0)) tW (k := fun Bs301 hos301 => ?_)
     refine Jm ?_
     refine mE ?_
     refine iS ?_
     refine V4 ?_
     refine W2 ?_
     refine Jr ((s.free.getD ((((s.free.length : Nat) : Int) - 1).toNat) default).toNat) ((s.gens.getD ((s.free.getD ((((s.free.length : Nat) : Int) - 1).toNat) default).toNat) default) + 1) sizeOf3 Au hox302 (qd q0) tW (k := fun Bs302 hos302 => ?_)
     refine V6 ?_
     refine Z4 ?_
     refine AA0 ?_
     refine V1 ?_
     refine mC ?_
     refine Fi ?_
     refine AA8 ?_
     refine W9 ?_
     refine uL ?_
     refine Ac results180 (Bk.agg isAgg31 sizeOf31 rfl me rfl (Bk.agg isAgg23 sizeOf23 rfl me rfl z1)) (fun w1 hw1 => ?_)
     exact ⟨ax81, s.gens.length, a1_141, c1_141, a1_201, ((((s.free.length : Nat) : Int) - 1).toNat), (Bs302 ++ (Bs301 ++ B1_201)), (rq (((hF.f hq1).neg hq5).neg hq6)), (Aq (L := (Bs302 ++ (Bs301 ++ B1_201))) (hw1.perm (((qb (qb (qd (qd q0)))).trans (qd (qb (qb (qd q0))))).trans (qd (qd (qb (qb q0)))))) (nA (nA rfl)).symm), (by rw [(((hF.f hq1).neg hq5).neg hq6).eq]; exact (hos302.slb Au)), (by rw [(((hF.f hq1).neg hq5).neg hq6).eq]; exact (hos301.slb Mc)), (by rw [(((hF.f hq1).neg hq5).neg hq6).eq]; exact ((ho1_201.take Au ((((s.free.length : Nat) : Int) - 1).toNat)).slb Au)), (rl (((hF.f hq1).neg hq5).neg hq6)), (rl (((hF.f hq1).neg hq5).neg hq6)), (rl (((hF.f hq1).neg hq5).neg hq6))⟩
  ·skip
   refine AB3 ?_
   rintro w1_201 e1_201 w2_201 hw1_201 ⟨a1_201, c1_201, B1_201, he_201, hf_201, ho1_201⟩
   refine ⟨_, _, _, he_201, hf_201, rfl, ?_⟩
   refine Bn [3] z6 rfl (List.forall_mem_cons.2 ⟨?_, nofun⟩)
   ·skip
    refine bE rfl (n := s.gens.length) (x0 := default) Ev underlying24 Au rfl ⟨by omega, by omega⟩ (k := fun ax81 Bx81 hox81 => ?_)
    refine X0 ?_
    refine Bn [12] z6 rfl (List.forall_mem_cons.2 ⟨?_, nofun⟩)
    ·skip
     refine cY rfl Ae Lb (k := fun r265 hr265 => ?_)
     refine AA7 ?_
     refine Fq (nA (nA nE)) ?_
     refine X4 ?_
     refine Z4 ?_
     refine mC ?_
     refine uK ?_
     refine fT (n := s.gens.length) Ev underlying24 Au hox81 q0 qL Hs rfl (kk := fun Bx302 hox302 => ?_)
     refine eZ ?_
     refine fC ?_
     refine Av results228 z1 ?_
     refine Mu ?_
     refine Vy ?_
     refine Tz ?_
     refine Sq ?_
     refine Jj ?_
     refine Ez ?_
     refine V9 ?_
     refine Ay Mx (k := ?_)
     refine Fi ?_
     refine Ge 24 rfl (fun hq8 => ?_) (fun hq8 => ?_)
     ·refine Bl 16 rfl ?_
      refine iY ?_
      refine tZ ?_
      refine lO ?_
      refine iH ?_
      refine Qr ?_
      refine Ac results180 (Bk.agg isAgg31 sizeOf31 rfl me rfl (Bk.agg isAgg23 sizeOf23 rfl me rfl z1)) (fun w1 hw1 => ?_)
      exact ⟨none, 0, none, 0, none, 0, [], (rq ((hF.f hq1).pos hq8)), (hw1.fresh_out.sub Mt), (rn ((hF.f hq1).pos hq8)), (rn ((hF.f hq1).pos hq8)), (rn ((hF.f hq1).pos hq8)), (rl ((hF.f hq1).pos hq8)), (rl ((hF.f hq1).pos hq8)), (rl ((hF.f hq1).pos hq8))⟩
     refine vS ?_
     refine Bj lN (k := ?_)
     refine uZ ?_
     refine AA9 ?_
     refine Pd ?_
     refine V7 ?_
     refine V3 ?_
     refine Bj Gw (k := ?_)
     refine cM ?_
     refine Bd rfl (fun hq9 => ?_) (fun hq9 => ?_)
     ·refine Bw ?_
      refine Dn ?_
      refine lO ?_
      refine iH ?_
      refine Qr ?_
      refine Ac results180 (Bk.agg isAgg31 sizeOf31 rfl me rfl (Bk.agg isAgg23 sizeOf23 rfl me rfl z1)) (fun w1 hw1 => ?_)
      exact ⟨none, 0, none, 0, none, 0, [], (rq (((hF.f hq1).neg hq8).pos hq9)), (hw1.fresh_out.sub Mt), (rn (((hF.f hq1).neg hq8).pos hq9)), (rn (((hF.f hq1).neg hq8).pos hq9)), (rn (((hF.f hq1).neg hq8).pos hq9)), (rl (((hF.f hq1).neg hq8).pos hq9)), (rl (((hF.f hq1).neg hq8).pos hq9)), (rl (((hF.f hq1).neg hq8).pos hq9))⟩
     refine Qd ?_
     refine Z3 ?_
     refine Vy ?_
     refine iS ?_
     refine V8 ?_
     refine Ew ?_
     refine Vy ?_
     refine jE ?_
     refine Qi ?_
     have hl10 : (s.free.take ((((s.free.length : Nat) : Int) - 1).toNat)).length = (((s.free.length : Nat) : Int) - 1).toNat := by rw [List.length_take]; omega
     have hl10c := ho1_201.le'
     refine W3 ?_
     refine K0 ?_
     refine Jm ?_
     refine B5 ?_
     refine C4 ?_
     refine W1 ?_
     refine Jr ((s.free.getD ((((s.free.length : Nat) : Int) - 1).toNat) default).toNat) true sizeOf4 Mc ho1_141 (qd (qd q0)) tW (k := fun Bs301 hos301 => ?_)
     refine Jm ?_
     refine mE ?_
     refine iS ?_
     refine V4 ?_
     refine W2 ?_
     refine Jr ((s.free.getD ((((s.free.length : Nat) : Int) - 1).toNat) default).toNat) ((s.gens.getD ((s.free.getD ((((s.free.length : Nat) : Int) - 1).toNat) default).toNat) default) + 1) sizeOf3 Au hox302 (qd q0) tW (k := fun Bs302 hos302 => ?_)
     refine V6 ?_
     refine Z4 ?_
     refine AA0 ?_
     refine V1 ?_
     refine mC ?_
     refine Fi ?_
     refine AA8 ?_
     refine W9 ?_
     refine uL ?_
     refine Ac results180 (Bk.agg isAgg31 sizeOf31 rfl me rfl (Bk.agg isAgg23 sizeOf23 rfl me rfl z1)) (fun w1 hw1 => ?_)
     exact ⟨ax81, s.gens.length, a1_141, c1_141, a1_201, ((((s.free.length : Nat) : Int) - 1).toNat), (Bs302 ++ (Bs301 ++ B1_201)), (rq (((hF.f hq1).neg hq8).neg hq9)), (Aq (L := (Bs302 ++ (Bs301 ++ B1_201))) (hw1.perm (((qb (qb (qd (qd q0)))).trans (qd (qb (qb (qd q0))))).trans (qd (qd (qb (qb q0)))))) (nA (nA rfl)).symm), (by rw [(((hF.f hq1).neg hq8).neg hq9).eq]; exact (hos302.slb Au)), (by rw [(((hF.f hq1).neg hq8).neg hq9).eq]; exact (hos301.slb Mc)), (by rw [(((hF.f hq1).neg hq8).neg hq9).eq]; exact ((ho1_201.take Au ((((s.free.length : Nat) : Int) - 1).toNat)).slb Au)), (rl (((hF.f hq1).neg hq8).neg hq9)), (rl (((hF.f hq1).neg hq8).neg hq9)), (rl (((hF.f hq1).neg hq8).neg hq9))⟩

theorem O3 (w : World) {n_ : Int} : Calls Tryz.prog 72 (List.toArray [(vi n_)]) w fun e w2 => ∃ a1 : Option Addr, ∃ c1 : Nat, ∃ a2 : Option Addr, ∃ c2 : Nat, ∃ a3 : Option Addr, ∃ c3 : Nat, ∃ B : Am, e = .returned (Value.tuple [(Value.agg [(vs a1 ((Wq n_).1.gens.length) c1), (vs a2 ((Wq n_).1.used.length) c2), (vs a3 ((Wq n_).1.free.length) c3)].toArray), (vi ((Wq n_).2))].toArray) ∧ Dz w w2 B ∧ Hb B eI 1 a1 (Wq n_).1.gens ∧ Hb B eB 1 a2 (Wq n_).1.used ∧ Hb B eI 1 a3 (Wq n_).1.free ∧ (Wq n_).1.gens.length ≤ 1000 ∧ (Wq n_).1.used.length ≤ 1000 ∧ (Wq n_).1.free.length ≤ 1000 := by
 have hF := Is.refl (Wq n_)
 refine enter func72 ntmps72 (h := ?_)
 refine Z2 ?_
 refine Aj Ae A5 (k := fun r1 hr1 => ?_)
 refine Hc ?_
 refine cH ?_
 refine Aw 8 rfl (fun hq1 => ?_) (fun hq1 => ?_)
 ·refine Ag 2 rfl ?_
  refine Ua ?_
  refine Ad z67 (k := ?_)
  refine mO ?_
  refine Qr ?_
  refine Ac results72 (Bk.agg isAgg31 sizeOf31 rfl me rfl z1) (fun w1 hw1 => ?_)
  exact ⟨none, 0, none, 0, none, 0, [], (rq (hF.pos hq1)), (hw1.fresh_out.sub Mt), (rn (hF.pos hq1)), (rn (hF.pos hq1)), (rn (hF.pos hq1)), (rl (hF.pos hq1)), (rl (hF.pos hq1)), (rl (hF.pos hq1))⟩
 refine rL ?_
 refine Rx ?_
 refine Bd rfl (fun hq2 => ?_) (fun hq2 => ?_)
 ·refine Bw ?_
  refine Dn ?_
  refine Ad z67 (k := ?_)
  refine mO ?_
  refine Qr ?_
  refine Ac results72 (Bk.agg isAgg31 sizeOf31 rfl me rfl z1) (fun w1 hw1 => ?_)
  exact ⟨none, 0, none, 0, none, 0, [], (rq ((hF.neg hq1).pos hq2)), (hw1.fresh_out.sub Mt), (rn ((hF.neg hq1).pos hq2)), (rn ((hF.neg hq1).pos hq2)), (rn ((hF.neg hq1).pos hq2)), (rl ((hF.neg hq1).pos hq2)), (rl ((hF.neg hq1).pos hq2)), (rl ((hF.neg hq1).pos hq2))⟩
 refine cQ ?_
 refine fV (σ1 := List Int) (σ2 := Option Addr) (σ3 := Nat) (σ4 := Am) (σ5 := List Bool) (σ6 := Option Addr) (σ7 := Nat) (σ8 := Am) (σ9 := Nat) (fun x_1 x_1a x_1c x_1B x_2 x_2a x_2c x_2B r122 => (x_2B ++ (x_1B ++ ((r122, oc [(vs x_1a x_1.length x_1c), (vs x_2a x_2.length x_2c), (vs none 0 0)] 31) :: ((r1, oc [(vs none 0 0), (vs none 0 0), (vs none 0 0)] 31) :: []))))) (fun x_1 x_1a x_1c x_1B x_2 x_2a x_2c x_2B r122 => [(0, (vi n_)), (2, (Value.pointer (some ⟨r1, 0, none⟩))), (3, (vi 0)), (4, (Value.pointer (some ⟨r122, 0, none⟩)))]) (fun x_1 x_1a x_1c x_1B x_2 x_2a x_2c x_2B r122 => Is (Is.xr2 ((hF.neg hq1).neg hq2)) (x_1, x_2) ∧ Bi eI 1 3 x_1a x_1c x_1B x_1 ∧ Bi eB 1 4 x_2a x_2c x_2B x_2 ∧ x_1.length ≤ 64 ∧ x_2.length ≤ 64) ?_ ?_
 ·skip
  refine Ui (V := []) mixed 6 z6 ?_
  refine Ci 0 rfl z6 Fp (k := ?_)
  refine Ci 2 rfl z6 Fp (k := ?_)
  refine Bn [1, 3, 5] z6 rfl (List.forall_mem_cons.2 ⟨?_, (List.forall_mem_cons.2 ⟨?_, (List.forall_mem_cons.2 ⟨?_, nofun⟩)⟩)⟩)
  ·skip
   refine Iy rfl (n := n_.toNat) (x0 := default) Ev underlying24 Au rfl ⟨by omega, by omega⟩ (k := fun ax41 Bx41 hox41 => ?_)
   refine Bn [3, 5] z6 rfl (List.forall_mem_cons.2 ⟨?_, (List.forall_mem_cons.2 ⟨?_, nofun⟩)⟩)
   ·skip
    refine Iy rfl (n := n_.toNat) (x0 := default) sS underlying29 Mc rfl ⟨by omega, by omega⟩ (k := fun ax81 Bx81 hox81 => ?_)
    refine AB4 ?_
    refine Bn [5] z6 rfl (List.forall_mem_cons.2 ⟨?_, nofun⟩)
    ·skip
     refine cY rfl Ae A5 (k := fun r122 hr122 => ?_)
     refine W5 ?_
     refine Ef ?_
     refine Dj _ ((((qa (qc (qc q0))).trans (qa q0)).trans (qb (qb (qd q0)))).trans (qd (qb (qb q0)))) ?_
     exact Hu (List.replicate n_.toNat (default : Int)) ax41 n_.toNat Bx41 (List.replicate n_.toNat (default : Bool)) ax81 n_.toNat Bx81 r122 ⟨(Is.refl (Is.xr2 ((hF.neg hq1).neg hq2))), hox41, hox81, tX, tX⟩ se (List.Perm.refl _)
   ·skip
    refine cY rfl Ae A5 (k := fun r122 hr122 => ?_)
    refine Bn [3] z6 rfl (List.forall_mem_cons.2 ⟨?_, nofun⟩)
    ·skip
     refine Iy rfl (n := n_.toNat) (x0 := default) sS underlying29 Mc rfl ⟨by omega, by omega⟩ (k := fun ax81 Bx81 hox81 => ?_)
     refine E2 ?_
     refine Ef ?_
     refine Dj _ ((((qc (qa (qc q0))).trans (qa (qc q0))).trans (qb (qb (qd q0)))).trans (qd (qb (qb q0)))) ?_
     exact Hu (List.replicate n_.toNat (default : Int)) ax41 n_.toNat Bx41 (List.replicate n_.toNat (default : Bool)) ax81 n_.toNat Bx81 r122 ⟨(Is.refl (Is.xr2 ((hF.neg hq1).neg hq2))), hox41, hox81, tX, tX⟩ se (List.Perm.refl _)
  ·skip
   refine Iy rfl (n := n_.toNat) (x0 := default) sS underlying29 Mc rfl ⟨by omega, by omega⟩ (k := fun ax81 Bx81 hox81 => ?_)
   refine Bn [1, 5] z6 rfl (List.forall_mem_cons.2 ⟨?_, (List.forall_mem_cons.2 ⟨?_, nofun⟩)⟩)
   ·skip
    refine Iy rfl (n := n_.toNat) (x0 := default) Ev underlying24 Au rfl ⟨by omega, by omega⟩ (k := fun ax41 Bx41 hox41 => ?_)
    refine AB4 ?_
    refine Bn [5] z6 rfl (List.forall_mem_cons.2 ⟨?_, nofun⟩)
    ·skip
     refine cY rfl Ae A5 (k := fun r122 hr122 => ?_)
     refine W5 ?_
     refine Ef ?_
     refine Dj _ ((((qa (qc (qc q0))).trans (qa q0)).trans (qb (qb q0))).trans (qd (qb (qb q0)))) ?_
     exact Hu (List.replicate n_.toNat (default : Int)) ax41 n_.toNat Bx41 (List.replicate n_.toNat (default : Bool)) ax81 n_.toNat Bx81 r122 ⟨(Is.refl (Is.xr2 ((hF.neg hq1).neg hq2))), hox41, hox81, tX, tX⟩ se (List.Perm.refl _)
   ·skip
    refine cY rfl Ae A5 (k := fun r122 hr122 => ?_)
    refine Bn [1] z6 rfl (List.forall_mem_cons.2 ⟨?_, nofun⟩)
    ·skip
     refine Iy rfl (n := n_.toNat) (x0 := default) Ev underlying24 Au rfl ⟨by omega, by omega⟩ (k := fun ax41 Bx41 hox41 => ?_)
     refine E2 ?_
     refine Ef ?_
     refine Dj _ ((((qc (qa (qc q0))).trans (qa (qc q0))).trans (qb (qb q0))).trans (qd (qb (qb q0)))) ?_
     exact Hu (List.replicate n_.toNat (default : Int)) ax41 n_.toNat Bx41 (List.replicate n_.toNat (default : Bool)) ax81 n_.toNat Bx81 r122 ⟨(Is.refl (Is.xr2 ((hF.neg hq1).neg hq2))), hox41, hox81, tX, tX⟩ se (List.Perm.refl _)
  ·skip
   refine cY rfl Ae A5 (k := fun r122 hr122 => ?_)
   refine Bn [1, 3] z6 rfl (List.forall_mem_cons.2 ⟨?_, (List.forall_mem_cons.2 ⟨?_, nofun⟩)⟩)
   ·skip
    refine Iy rfl (n := n_.toNat) (x0 := default) Ev underlying24 Au rfl ⟨by omega, by omega⟩ (k := fun ax41 Bx41 hox41 => ?_)
    refine Bn [3] z6 rfl (List.forall_mem_cons.2 ⟨?_, nofun⟩)
    ·skip
     refine Iy rfl (n := n_.toNat) (x0 := default) sS underlying29 Mc rfl ⟨by omega, by omega⟩ (k := fun ax81 Bx81 hox81 => ?_)
     refine E2 ?_
     refine Ef ?_
     exact Hu (List.replicate n_.toNat (default : Int)) ax41 n_.toNat Bx41 (List.replicate n_.toNat (default : Bool)) ax81 n_.toNat Bx81 r122 ⟨(Is.refl (Is.xr2 ((hF.neg hq1).neg hq2))), hox41, hox81, tX, tX⟩ se (List.Perm.refl _)
   ·skip
    refine Iy rfl (n := n_.toNat) (x0 := default) sS underlying29 Mc rfl ⟨by omega, by omega⟩ (k := fun ax81 Bx81 hox81 => ?_)
    refine Bn [1] z6 rfl (List.forall_mem_cons.2 ⟨?_, nofun⟩)
    ·skip
     refine Iy rfl (n := n_.toNat) (x0 := default) Ev underlying24 Au rfl ⟨by omega, by omega⟩ (k := fun ax41 Bx41 hox41 => ?_)
     refine E2 ?_
     refine Ef ?_
     refine Dj _ ((((qc (qc (qa q0))).trans (qa (qc (qc q0)))).trans (qb (qb q0))).trans (qd (qb (qb q0)))) ?_
     exact Hu (List.replicate n_.toNat (default : Int)) ax41 n_.toNat Bx41 (List.replicate n_.toNat (default : Bool)) ax81 n_.toNat Bx81 r122 ⟨(Is.refl (Is.xr2 ((hF.neg hq1).neg hq2))), hox41, hox81, tX, tX⟩ se (List.Perm.refl _)
 rintro x_1 x_1a x_1c x_1B x_2 x_2a x_2c x_2B r122 ⟨hJ3, hx_1, hx_2, hi4, hi5⟩
 refine Gv ?_
 refine Ez ?_
 refine Qp ?_
 refine Kt ?_
 refine Na (σ1 := Nat) (σ2 := Nat) (σ3 := List Int) (σ4 := Option Addr) (σ5 := Nat) (σ6 := Am) (fun n_8 x_6 x_7 x_7a x_7c x_7B => (x_7B ++ (x_2B ++ (x_1B ++ ((r122, oc [(vs x_1a x_1.length x_1c), (vs x_2a x_2.length x_2c), (vs x_7a x_7.length x_7c)] 31) :: ((r1, oc [(vs none 0 0), (vs none 0 0), (vs none 0 0)] 31) :: [])))))) (fun n_8 x_6 x_7 x_7a x_7c x_7B => [(0, (vi n_)), (2, (Value.pointer (some ⟨r1, 0, none⟩))), (3, (vi 0)), (4, (Value.pointer (some ⟨r122, 0, none⟩))), (18, (vi n_)), (19, (vi ((x_6 : Nat) : Int)))]) (fun n_8 x_6 x_7 x_7a x_7c x_7B => (n_ - ((x_6 : Nat) : Int)).toNat < n_8 ∧ Is (Zd n_ x_1 x_2 ((n_ - ((0 : Nat) : Int)).toNat + 1) 0 []) (Zd n_ x_1 x_2 n_8 x_6 x_7) ∧ Bi eI 1 3 x_7a x_7c x_7B x_7 ∧ x_7.length ≤ x_6 ∧ ((x_6 : Nat) : Int) ≤ n_) (fun n_8 x_6 x_7 x_7a x_7c x_7B => n_8) ((n_ - ((0 : Nat) : Int)).toNat + 1) 0 ([]) none 0 ([]) ?_ se (List.Perm.refl _) ?_
 ·exact ⟨Nat.lt_succ_self _, Is.refl _, Bi.nil, Qc, Qc⟩
 ·rintro (_ | n_8) x_6 x_7 x_7a x_7c x_7B ⟨hm10, hF9, hx_7, hi11, hi12⟩
  ·omega
  refine Tx ?_
  refine Bd rfl (fun hq3 => ?_) (fun hq3 => ?_)
  rotate_left
  ·refine Cu ?_
   refine Kg ?_
   refine Z2 ?_
   refine jD ?_
   refine mO ?_
   refine Z5 ?_
   refine Ac results72 (Bk.agg isAgg31 sizeOf31 rfl me rfl z1) (fun w1 hw1 => ?_)
   exact ⟨x_1a, x_1c, x_2a, x_2c, x_7a, x_7c, (x_1B ++ (x_2B ++ x_7B)), (rq ((((hF.neg hq1).neg hq2).rn2 hJ3).rn2 (hF9.neg hq3))), (Aq (L := (x_1B ++ (x_2B ++ x_7B))) (hw1.perm ((q0.trans (qd q0)).trans (qd (qd q0)))) (nA (nA rfl)).symm), (by rw [((((hF.neg hq1).neg hq2).rn2 hJ3).rn2 (hF9.neg hq3)).eq]; exact (hx_1.slb Au)), (by rw [((((hF.neg hq1).neg hq2).rn2 hJ3).rn2 (hF9.neg hq3)).eq]; exact (hx_2.slb Mc)), (by rw [((((hF.neg hq1).neg hq2).rn2 hJ3).rn2 (hF9.neg hq3)).eq]; exact (hx_7.slb Au)), (rl ((((hF.neg hq1).neg hq2).rn2 hJ3).rn2 (hF9.neg hq3))), (rl ((((hF.neg hq1).neg hq2).rn2 hJ3).rn2 (hF9.neg hq3))), (rl ((((hF.neg hq1).neg hq2).rn2 hJ3).rn2 (hF9.neg hq3)))⟩
  refine Qd ?_
  refine Vx ?_
  refine Z1 ?_
  refine Dn ?_
  refine Ad (Al Se) (k := ?_)
  refine iS ?_
  refine Sq ?_
  refine Cg ?_
  refine Sq ?_
  refine Aj Ae Xe (k := fun r162 hr162 => ?_)
  refine Ar (x_7 ++ ([((n_ - 1) - ((x_6 : Nat) : Int))] : List Int)) rfl Ev underlying24 Au hx_7 (qb q0) (Ch.lit (xs := ([((n_ - 1) - ((x_6 : Nat) : Int))] : List Int)) Au) ⟨by omega, by omega⟩ (n := x_7.length) (m := 1) (k := fun ax161 cx161 Bx161 hox161 => ?_)
  have hal161 : (x_7 ++ ([((n_ - 1) - ((x_6 : Nat) : Int))] : List Int)).length = x_7.length + 1 := by first | rfl | exact List.length_append | simp
  refine Ad (Al Se) (k := ?_)
  refine K0 ?_
  refine fD ?_
  refine Dj _ (((((qc (qa (qc (qc (qa q0))))).trans (qa (qc (qa (qc (qc q0)))))).trans (qb (qb (qd (qb (qd q0)))))).trans (qd (qb (qb (qd (qb q0)))))).trans (qd (qd (qb (qb q0))))) ?_
  refine Cc _ (List.Sublist.append Xw (List.Sublist.append Xw (List.Sublist.append Xw (List.Sublist.cons_cons _ (List.Sublist.cons_cons _ Mt))))) ?_
  exact Hx n_8 (x_6 + 1) (x_7 ++ ([((n_ - 1) - ((x_6 : Nat) : Int))] : List Int)) ax161 cx161 Bx161 ⟨by omega, (hF9.pos hq3), hox161, z8, z8⟩ (Nat.lt_succ_self _) se (List.Perm.refl _)

end Go.Proofs.YtdnjanhdnibkfaaGreatDoor.Jd

