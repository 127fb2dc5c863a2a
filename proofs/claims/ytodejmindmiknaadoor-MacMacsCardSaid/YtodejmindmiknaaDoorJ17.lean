/- Slices that are only read, kept through loops; make with a length that is a number; slices of slices. No condition. -/
import Derived.Test.YtodejmindmiknaaDoorJ16
namespace Go.Proofs.YtodejmindmiknaaDoor.Jd
set_option linter.unusedSimpArgs false
open Go.RowKit (Below)
set_option linter.unusedVariables false
/-- The slice (a) holds xs in each world behind b0 that holds the blocks B. -/
def SlG (b0 : World) (B : Heap) {α : Type} (enc : α → List Value) (k : Nat) (a : Option Addr) (xs : List α) : Prop := ∀ w : World, Ext b0 w → (∀ p ∈ B, w.heap[p.1]? = some p.2) → Sl w enc k a xs
section
variable {b0 : World} {B L : Heap} {α : Type} {enc : α → List Value} {k : Nat} {a : Option Addr} {xs : List α}
theorem SlG.base (h : Sl b0 enc k a xs) : SlG b0 B enc k a xs := fun _ he _ => h.ext he
theorem SlG.of_slb {B' : Heap} (h : SlB B' enc k a xs) (hB : ∀ p ∈ B', p ∈ B := by intro p hp; repeat (first | exact hp | exact List.mem_append_left _ hp | apply List.mem_append_right | apply List.mem_cons_of_mem)) : SlG b0 B enc k a xs := fun w _ hw => h w fun p hp => hw p (hB p hp)
theorem SlG.of_own {B' : Heap} {e : TypeId} {c : Nat} (hE : EncOk enc k) (h : OwnB enc k e a c B' xs) (hB : ∀ p ∈ B', p ∈ B := by intro p hp; repeat (first | exact hp | exact List.mem_append_left _ hp | apply List.mem_append_right | apply List.mem_cons_of_mem)) : SlG b0 B enc k a xs := fun w _ hw => h.sl hE fun p hp => hw p (hB p hp)
theorem SlG.mono {B' : Heap} (h : SlG b0 B' enc k a xs) (hB : ∀ p ∈ B', p ∈ B := by intro p hp; repeat (first | exact hp | exact List.mem_append_left _ hp | apply List.mem_append_right | apply List.mem_cons_of_mem)) : SlG b0 B enc k a xs := fun w he hw => h w he fun p hp => hw p (hB p hp)
theorem SlG.nil : SlG b0 B enc k a ([] : List α) := fun _ _ _ => Sl.nil
theorem SlG.take (h : SlG b0 B enc k a xs) (n : Nat) : SlG b0 B enc k a (xs.take n) := fun w he hw i x hx => h w he hw i x (by
    rw [List.getElem?_take] at hx
    split at hx
    · exact hx
    · cases hx)
theorem SlG.slj (h : SlG b0 B enc k a xs) (hB : ∀ p ∈ B, p ∈ L := by intro p hp; repeat (first | exact hp | exact List.mem_append_left _ hp | apply List.mem_append_right | apply List.mem_cons_of_mem)) : SlJ b0 [] L enc k a xs := fun w hw => h w hw.ext_out fun p hp => hw.own p (hB p hp)
theorem OwnB.le' {e : TypeId} {c : Nat} (h : OwnB enc k e a c B xs) : xs.length ≤ c := by
  rcases h with ⟨rfl, _, rfl⟩ | ⟨_, _, _, _, _, _, h1, _⟩
  · simp
  · exact h1
theorem OwnB.take {e : TypeId} {c : Nat} (hE : EncOk enc k) (h : OwnB enc k e a c B xs) (n : Nat) : OwnB enc k e a c B (xs.take n) := by
  rcases h with ⟨rfl, rfl, rfl⟩ | ⟨r, cur, fz, rfl, rfl, hfz, h1, h2, h3⟩
  · simpa using OwnB.nil
  · refine .inr ⟨r, cur, fz, rfl, rfl, hfz, by simp; omega, h2, ?_⟩
    have hm : (xs.take n).length * k ≤ xs.length * k := Nat.mul_le_mul_right _ (by simp; omega)
    rw [show (xs.take n).length * k = min ((xs.take n).length * k) (xs.length * k) by omega, ← List.take_take, h3]
    have hl : flat enc xs = flat enc (xs.take n) ++ flat enc (xs.drop n) := by rw [← flat_append, List.take_append_drop]
    rw [hl, List.take_left' (flat_length hE _)]
end
section
variable {P : Program} {rd : Option Nat} {b0 : World} {Mk : List Nat} {N : Nat} {D : List Deferred} {ops : Array Oper} {L V : Heap} {E : Env} {T : Act → World → Prop}
variable {op : Op} {ty : TypeId} {pos : String} {after : Array Edge} {d : Nat}
/-- make([]T, n), told as a slice of the call's own. -/
theorem e_make {α : Type} {enc : α → List Value} {k by_ n : Nat} {i : Int} {t e : TypeId} {z : Value} {x0 : α} {x y : Operand} (hT : Ty P e k by_ z) (hU : P.underlying t = some (.slice e)) (hE : EncOk enc k) (hz : cellsL z = enc x0) (hb : by_ * n ≤ 281474976710656 ∧ n ≤ 4611686018427387904) (hi : i = (n : Int)) (hx : ev E x = some (.int .i64 i) := by rfl) (hy : ev E y = some (.int .i64 i) := by rfl) :
    RunM P N D b0 Mk L E (.makeSlice t x y) ty [] (Option Addr × Heap) (fun q => .value (.slice q.1 (List.replicate n x0).length n)) (fun q => q.2) (fun q => OwnB enc k e q.1 n q.2 (List.replicate n x0)) := fun a w ha _ => by
  subst hi
  obtain ⟨i, hi, rfl, rfl, hzz⟩ := hT.ex
  have hb3 : (i.bytes : Int) * (n : Int) ≤ 281474976710656 := by
    rw [← Int.natCast_mul]; omega
  have := run_make (P := P) w t e i z hU hi hzz .i64 .i64 (n : Int) (n : Int) (by omega) (by omega) hb3 (by omega)
  refine ⟨(some ⟨w.heap.size, 0, none⟩, [(w.heap.size, .cells (madeCells z.cells (n * i.size)) e)]), w.alloc (.cells (madeCells z.cells (n * i.size)) e), ?_, tr_alloc _, OwnB.made hE hz⟩
  simp [mkO, execOp, ha.eval hx, ha.eval hy, this]
theorem JL_make {α : Type} {enc : α → List Value} {kk by_ n : Nat} {i : Int} {t e : TypeId} {z : Value} {x0 : α} {x y : Operand} {l : List Oper} (hT : Ty P e kk by_ z) (hU : P.underlying t = some (.slice e)) (hE : EncOk enc kk) (hz : cellsL z = enc x0) (hb : by_ * n ≤ 281474976710656 ∧ n ≤ 4611686018427387904) (hx : ev E x = some (.int .i64 i) := by rfl) (hy : ev E y = some (.int .i64 i) := by rfl) (hi : i = (n : Int) := by omega) (hd : Nat.blt d N = true := by rfl)
    (k : ∀ a2 B2, OwnB enc kk e a2 n B2 (List.replicate n x0) → JL P rd b0 Mk N D ops (B2 ++ L) ((d, .slice a2 (List.replicate n x0).length n) :: E) l T) :
    JL P rd b0 Mk N D ops L E ({ dst := some d, op := .makeSlice t x y, type := ty, pos := pos, after := after, guard := none } :: l) T :=
  JL_e (List.Perm.refl _) (e_make hT hU hE hz hb hi hx hy) rfl hd (fun q hq => k q.1 q.2 hq)
theorem JD_make {α : Type} {enc : α → List Value} {kk by_ n : Nat} {i : Int} {t e : TypeId} {z : Value} {x0 : α} {x y : Operand} {l : List (Bool × Oper)} (hT : Ty P e kk by_ z) (hU : P.underlying t = some (.slice e)) (hE : EncOk enc kk) (hz : cellsL z = enc x0) (hb : by_ * n ≤ 281474976710656 ∧ n ≤ 4611686018427387904) (hx : ev E x = some (.int .i64 i) := by rfl) (hy : ev E y = some (.int .i64 i) := by rfl) (hi : i = (n : Int) := by omega) (hd : Nat.blt d N = true := by rfl)
    (k : ∀ a2 B2, OwnB enc kk e a2 n B2 (List.replicate n x0) → JD P rd b0 Mk N D ops L (B2 ++ V) ((d, .slice a2 (List.replicate n x0).length n) :: E) l T) :
    JD P rd b0 Mk N D ops L V E ((false, { dst := some d, op := .makeSlice t x y, type := ty, pos := pos, after := after, guard := none }) :: l) T :=
  JD_e (List.Perm.refl _) (e_make hT hU hE hz hb hi hx hy) rfl hd (fun q hq => k q.1 q.2 hq)
theorem JO_make {α : Type} {enc : α → List Value} {kk by_ n : Nat} {i : Int} {t e : TypeId} {z : Value} {x0 : α} {x y : Operand} {l : List Oper} {n' f' : Nat} {listed : Array Bool} {j : Nat} (hj : l[j]? = some { dst := some d, op := .makeSlice t x y, type := ty, pos := pos, after := after, guard := none }) (hT : Ty P e kk by_ z) (hU : P.underlying t = some (.slice e)) (hE : EncOk enc kk) (hz : cellsL z = enc x0) (hb : by_ * n ≤ 281474976710656 ∧ n ≤ 4611686018427387904) (hx : ev E x = some (.int .i64 i) := by rfl) (hy : ev E y = some (.int .i64 i) := by rfl) (hi : i = (n : Int) := by omega) (hd : Nat.blt d N = true := by rfl)
    (k : ∀ a2 B2, OwnB enc kk e a2 n B2 (List.replicate n x0) → JG P rd b0 Mk N D l n' f' (listed.setIfInBounds j true) (B2 ++ L) V ((d, .slice a2 (List.replicate n x0).length n) :: E) T) :
    JO P rd b0 Mk N D l n' f' listed L V E T j :=
  JO_e hj (e_make hT hU hE hz hb hi hx hy) rfl hd (fun q hq => k q.1 q.2 hq)
theorem q_sliceHi' {t e : TypeId} {x y : Operand} {a : Option Addr} {n c : Nat} {i : Int} {ki : IntKind} (m : Nat) (hU : ∀ w, (underlying t).run P w = .ok (.slice e) w) (hS : ∀ w, ∃ q, (sizeOf e).run P w = .ok q w) (hx : ev E x = some (.slice a n c) := by rfl) (hy : ev E y = some (.int ki i) := by rfl) (hm : m ≤ c := by omega) (hi : i = (m : Int) := by first | rfl | omega) :
    RunQ P N D b0 Mk L E (.slice t x none (some y) none) ty (.slice a m c) := q_sliceHi m hU hS hm hx hy hi
theorem q_sliceHiMax' {t e : TypeId} {x y y2 : Operand} {a : Option Addr} {n c : Nat} {i i2 : Int} {ki ki2 : IntKind} (m m2 : Nat) (hU : ∀ w, (underlying t).run P w = .ok (.slice e) w) (hS : ∀ w, ∃ q, (sizeOf e).run P w = .ok q w) (hx : ev E x = some (.slice a n c) := by rfl) (hy : ev E y = some (.int ki i) := by rfl) (hy2 : ev E y2 = some (.int ki2 i2) := by rfl)
    (hm : m ≤ m2 := by omega) (hm2 : m2 ≤ c := by omega) (hi : i = (m : Int) := by first | rfl | omega) (hi2 : i2 = (m2 : Int) := by first | rfl | omega) :
    RunQ P N D b0 Mk L E (.slice t x none (some y) (some y2)) ty (.slice a m m2) := q_sliceHiMax m m2 hU hS hm hm2 hx hy hy2 hi hi2
end
end Go.Proofs.YtodejmindmiknaaDoor.Jd
