/- What a list of laid variables says of its sentinels. No condition. -/
import Derived.Test.YtodejmindmiknaaDoorJ17
import Derived.Stop.LaidTwo
namespace Go.Proofs.YtodejmindmiknaaDoor.Jd
set_option linter.unusedSimpArgs false
open Go.ChangeShapes
set_option linter.unusedVariables false
theorem laidMet_skip {P : Program} {x y : String × DataW Unit} {l : List (String × DataW Unit)} {w : World} (h : laidMet P (x :: y :: l) w) : laidMet P (x :: l) w := by
  obtain ⟨ps, hv, hn, ha⟩ := h
  obtain ⟨n, d⟩ := x
  obtain ⟨n2, d2⟩ := y
  obtain ⟨g, t, cs, fuel, p, q, h1, h2, h3, h4, h5, rfl⟩ := hv
  obtain ⟨g2, t2, cs2, fuel2, p2, q2, k1, k2, k3, k4, k5, rfl⟩ := h5
  have hs := List.Sublist.append (List.Sublist.refl (MemPlace.row ⟨g, 0, none⟩ cs.size ++ p)) (List.sublist_append_right (MemPlace.row ⟨g2, 0, none⟩ cs2.size ++ p2) q2)
  exact ⟨_, ⟨g, t, cs, fuel, p, q2, h1, h2, h3, h4, k5, rfl⟩, hn.sublist hs, fun b off hm => ha b off (hs.subset hm)⟩
theorem heap_of_var {P : Program} {W : World} {n : String} {g : Nat} {cs : Array Value} (hg : P.globalNamed n = some g) (h : W.var? P n = some cs) : ∃ T f, W.heap[g]? = some (.cells cs T f) := by
  unfold World.var? at h
  rw [hg] at h
  simp only [Option.bind_some] at h
  split at h
  · cases h; exact ⟨_, _, ‹_›⟩
  · cases h
theorem sent_one {P : Program} {n nm : String} {text : List UInt8} {r : List (String × DataW Unit)} {W : World} {g : Nat} {ti tp te ts : TypeId} {ms : Array (String × TypeId)} {f : Field}
    (h : laidMet P ((n, .iface nm (.ptr (.agg [.lit (.string text)]))) :: r) W)
    (hg : P.globalNamed n = some g) (ht : (P.globals[g]?).map (·.type) = some ti) (hi : P.underlying ti = some (.interface ms)) (hrow : ∀ u, P.typeName? 3 u = some nm → u = tp)
    (hp : P.underlying tp = some (.pointer te)) (he : P.underlying te = some (.struct #[f])) (hft : f.type = ts) (hfo : f.offset = 0) (hs : P.underlying ts = some .string) (hc : P.cellsOf te = 1) (hcs : P.cellsOf ts = 1) :
    ∃ a : Addr, (∃ T f, W.heap[g]? = some (.cells [Value.iface tp (.pointer (some a))].toArray T f)) ∧ ∃ c t, W.heap[a.block]? = some (.cells c t (0, 0)) := by
  obtain ⟨ps, ⟨g0, t0, cs0, f0, p0, q0, hg0, ht0, hv0, hd0, _, e0⟩, _, hrows⟩ := h
  obtain rfl := Option.some.inj (hg.symm.trans hg0)
  obtain rfl := Option.some.inj (ht.symm.trans ht0)
  subst e0
  obtain ⟨l0⟩ := cs0
  have ok0 : ∀ u v, l0 = [.iface u v] → Value.okWide P W .any 0 u v := fun u v e => by
    subst e
    exact (hrows g 0 (by simp [MemPlace.row])).2 u v (by simpa using World.var?_cell hg0 hv0 0)
  obtain ⟨a0, s0, rfl, hc0, hs0, hz0, rfl⟩ := errorString_of_trod hi hrow hp he hft hfo hs hc hcs hd0 ok0
  exact ⟨a0, heap_of_var hg hv0, (hrows a0.block a0.off (by simp [MemPlace.row])).1⟩
theorem sent_ne {P : Program} {n0 n1 nm : String} {text0 text1 : List UInt8} {r : List (String × DataW Unit)} {W : World} {g0 g1 : Nat} {ti tp te ts : TypeId} {ms : Array (String × TypeId)} {f : Field} {a0 a1 : Addr}
    (h : laidMet P ((n0, .iface nm (.ptr (.agg [.lit (.string text0)]))) :: (n1, .iface nm (.ptr (.agg [.lit (.string text1)]))) :: r) W)
    (hg0 : P.globalNamed n0 = some g0) (ht0 : (P.globals[g0]?).map (·.type) = some ti) (hg1 : P.globalNamed n1 = some g1) (ht1 : (P.globals[g1]?).map (·.type) = some ti)
    (hi : P.underlying ti = some (.interface ms)) (hrow : ∀ u, P.typeName? 3 u = some nm → u = tp)
    (hp : P.underlying tp = some (.pointer te)) (he : P.underlying te = some (.struct #[f])) (hft : f.type = ts) (hfo : f.offset = 0) (hs : P.underlying ts = some .string) (hc : P.cellsOf te = 1) (hcs : P.cellsOf ts = 1)
    (v0 : ∃ T f, W.heap[g0]? = some (.cells [Value.iface tp (.pointer (some a0))].toArray T f)) (v1 : ∃ T f, W.heap[g1]? = some (.cells [Value.iface tp (.pointer (some a1))].toArray T f)) : a0 ≠ a1 := by
  obtain ⟨b0, b1, _, _, _, _, _, _, hv0, hv1, _, _, _, _, _, _, hne, _, _⟩ := laid_sentinels2 h hg0 ht0 hg1 ht1 hi hrow hp he hft hfo hs hc hcs
  obtain ⟨T0, f0, v0⟩ := v0
  obtain ⟨T1, f1, v1⟩ := v1
  obtain ⟨T0', f0', u0⟩ := heap_of_var hg0 hv0
  obtain ⟨T1', f1', u1⟩ := heap_of_var hg1 hv1
  rw [v0] at u0
  rw [v1] at u1
  simp at u0 u1
  rw [u0.1, u1.1]
  exact hne
end Go.Proofs.YtodejmindmiknaaDoor.Jd
