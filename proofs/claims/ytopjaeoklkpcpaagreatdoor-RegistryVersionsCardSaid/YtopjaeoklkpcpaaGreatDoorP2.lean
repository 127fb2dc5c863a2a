/- Part of the proofs of this seat: walks and plain facts. No condition. -/
import Derived.Test.YtopjaeoklkpcpaaGreatDoorP0
import Derived.Lib.AppendZeros
import Derived.Lib.AppendZerosOnto
import Derived.Lib.Overlaps
import Derived.Lib.Builder
import Derived.Lib.UnsafeStr
import Derived.Lay
import Derived.LaidHandle
import Derived.Shelf.Slices.Equal
import Derived.Ground.Names2Prog
import Derived.Shelf.Slices.Clone
import Derived.Shelf.Slices.Empties2
import Derived.Test.YtopjaeoklkpcpaaGreatDoorProg
import Derived.Test.YtopjaeoklkpcpaaGreatDoorChecked
import Derived.WalkKit
import Derived.LaidEql
import Derived.Stop.Asserts
import Derived.RowKitTokens
import Derived.Test.YtopjaeoklkpcpaaGreatDoorP1
namespace Go.Proofs.YtopjaeoklkpcpaaGreatDoor.Jd
open Go.RowKit (Below)
set_option linter.unusedVariables false
set_option linter.unusedSimpArgs false
def offA (a : Option Addr) (k lo c : Nat) : Option Addr := if c = lo then a else a.map fun x => x.add (lo * k)
theorem Sl.off {w : World} {α : Type} {enc : α → List Value} {k : Nat} {a : Option Addr} {xs : List α} (h : Sl w enc k a xs) (lo c : Nat) (hc : xs.length ≤ c) : Sl w enc k (offA a k lo c) (xs.drop lo) := fun i x hx => by
  rw [List.getElem?_drop] at hx
  have hlt := (List.getElem?_eq_some_iff.1 hx).1
  obtain ⟨b, off, rfl, h2, h3⟩ := h _ _ hx
  refine ⟨b, off + lo * k, ?_, h2, fun j v hv => ?_⟩
  · simp only [offA]
    rw [if_neg (by omega), Option.map_some, addr_add]
  · have := h3 j v hv
    rw [Nat.add_mul] at this
    rw [show off + lo * k + i * k + j = off + (lo * k + i * k) + j by omega]
    exact this
section
variable {b0 : World} {Mk : List Nat} {B L : Heap} {α : Type} {enc : α → List Value} {k : Nat} {a : Option Addr} {xs : List α}
theorem SlJ.off (h : SlJ b0 Mk L enc k a xs) (lo c : Nat) (hc : xs.length ≤ c) : SlJ b0 Mk L enc k (offA a k lo c) (xs.drop lo) := fun w hw => (h w hw).off lo c hc
theorem SlG.off (h : SlG b0 B enc k a xs) (lo c : Nat) (hc : xs.length ≤ c) : SlG b0 B enc k (offA a k lo c) (xs.drop lo) := fun w he hw => (h w he hw).off lo c hc
theorem SH.notIn {w : World} {r : Nat} {o : Obj} {R : Heap} {β : Type} {ys : List β} (h : SH b0 Mk L w) (hp : List.Perm L ((r, o) :: (B ++ R))) : ∀ m ∈ keys B, NotIn (some (⟨r, 0, none⟩ : Addr)) ys m := fun m hm p hp' _ e => by
  cases hp'
  have hn := (h.perm hp).nd
  simp only [List.map_cons, List.nodup_cons, List.map_append, List.mem_append] at hn
  have e' : m = r := e
  subst e'
  exact hn.1 (.inl hm)
theorem OwnB.nd {e : TypeId} {c : Nat} (h : OwnB enc k e a c B xs) : (B.map Prod.fst).Nodup := by
  rcases h with ⟨_, rfl, _⟩ | ⟨r, cur, fz, _, rfl, _⟩ <;> simp
end
section
variable {P : Program} {rd : Option Nat} {b0 : World} {Mk : List Nat} {N : Nat} {D : List Deferred} {ops : Array Oper} {L V : Heap} {E : Env} {T : Act → World → Prop}
variable {op : Op} {ty : TypeId} {pos : String} {after : Array Edge} {d : Nat}
theorem q_sliceLo {t e k : TypeId} {x y : Operand} {a : Option Addr} {n c : Nat} {i : Int} {ki : IntKind} (lo m : Nat) (hU : ∀ w, (underlying t).run P w = .ok (.slice e) w) (hS : ∀ w, (sizeOf e).run P w = .ok k w) (hlo : lo ≤ n) (hnc : n ≤ c) (hm : m = n - lo) (hx : ev E x = some (.slice a n c) := by rfl) (hy : ev E y = some (.int ki i) := by rfl) (hi : i = (lo : Int) := by first | rfl | omega) :
    RunQ P N D b0 Mk L E (.slice t x (some y) none none) ty (.slice (offA a k lo c) m (c - lo)) := fun ac w ha _ => by
  subst hi hm
  simp [mkO, execOp, ha.eval hx, ha.eval hy, Instr.sliceAt, hU, Instr.slice, Instr.sliceBounds, Instr.sliceBound, asIntOf, hlo, hS w, offA]
theorem q_sliceLoHi {t e k : TypeId} {x y y2 : Operand} {a : Option Addr} {n c : Nat} {i i2 : Int} {ki ki2 : IntKind} (lo hi m : Nat) (hU : ∀ w, (underlying t).run P w = .ok (.slice e) w) (hS : ∀ w, (sizeOf e).run P w = .ok k w) (hlo : lo ≤ hi) (hhi : hi ≤ c) (hm : m = hi - lo) (hx : ev E x = some (.slice a n c) := by rfl) (hy : ev E y = some (.int ki i) := by rfl) (hy2 : ev E y2 = some (.int ki2 i2) := by rfl) (hi1 : i = (lo : Int) := by first | rfl | omega) (hi2 : i2 = (hi : Int) := by first | rfl | omega) :
    RunQ P N D b0 Mk L E (.slice t x (some y) (some y2) none) ty (.slice (offA a k lo c) m (c - lo)) := fun ac w ha _ => by
  subst hi1 hi2 hm
  simp [mkO, execOp, ha.eval hx, ha.eval hy, ha.eval hy2, Instr.sliceAt, hU, Instr.slice, Instr.sliceBounds, Instr.sliceBound, asIntOf, hlo, hhi, hS w, offA]
theorem q_sliceLoHiMax {t e k : TypeId} {x y y2 y3 : Operand} {a : Option Addr} {n c : Nat} {i i2 i3 : Int} {ki ki2 ki3 : IntKind} (lo hi mx m : Nat) (hU : ∀ w, (underlying t).run P w = .ok (.slice e) w) (hS : ∀ w, (sizeOf e).run P w = .ok k w) (hlo : lo ≤ hi) (hhi : hi ≤ mx) (hmx : mx ≤ c) (hm : m = hi - lo) (hx : ev E x = some (.slice a n c) := by rfl) (hy : ev E y = some (.int ki i) := by rfl) (hy2 : ev E y2 = some (.int ki2 i2) := by rfl) (hy3 : ev E y3 = some (.int ki3 i3) := by rfl) (hi1 : i = (lo : Int) := by first | rfl | omega) (hi2 : i2 = (hi : Int) := by first | rfl | omega) (hi3 : i3 = (mx : Int) := by first | rfl | omega) :
    RunQ P N D b0 Mk L E (.slice t x (some y) (some y2) (some y3)) ty (.slice (offA a k lo mx) m (mx - lo)) := fun ac w ha _ => by
  subst hi1 hi2 hi3 hm
  simp [mkO, execOp, ha.eval hx, ha.eval hy, ha.eval hy2, ha.eval hy3, Instr.sliceAt, hU, Instr.slice, Instr.sliceBounds, Instr.sliceBound, asIntOf, hlo, hhi, hmx, hS w, offA]
theorem q_cap {t e : TypeId} {x : Operand} {a : Option Addr} {n c : Nat} (hU : ∀ w, (underlying t).run P w = .ok (.slice e) w) (hx : ev E x = some (.slice a n c) := by rfl) :
    RunQ P N D b0 Mk L E (.call { callee := .builtin .cap, args := #[x], argTypes := #[t] }) ty (.int .i64 c) := fun ac w ha _ => by
  simp [mkO, execOp, resolve, invoke, builtin, ha.eval hx, Builtin.cap_, hU, goInt]
theorem e_copyOff {α : Type} {enc : α → List Value} {k by_ : Nat} {t e : TypeId} {z : Value} {x y : Operand} {a a' : Option Addr} {c c' dn dc sn : Nat} {B : Heap} {xs ys : List α} (lo q : Nat) (hT : Ty P e k by_ z) (hU : P.underlying t = some (.slice e)) (hE : EncOk enc k) (ho : OwnB enc k e a c B xs)
    (hs : SlJ b0 Mk L enc k a' ys) (hB : ∀ p ∈ B, p ∈ L) (hq : q = min sn dn) (hqy : q ≤ ys.length) (hlo : lo ≤ xs.length) (hc : lo + q ≤ c) (hx : ev E x = some (.slice (offA a k lo c) dn dc) := by rfl) (hy : ev E y = some (.slice a' sn c') := by rfl) :
    RunM P N D b0 Mk L E (.call { callee := .builtin .copy, args := #[x, y], argTypes := #[t, t] }) ty B Heap (fun _ => .value (.int .i64 q)) (fun h => h) (fun h => OwnB enc k e a c h (xs.take lo ++ ys.take q ++ xs.drop (lo + q))) := by
  intro ac w ha hw
  obtain ⟨i, hi, rfl, rfl, hz⟩ := hT.ex
  have run1 : ∀ (v' : Value) (w' : World), (Builtin.copy_ #[t, t] ty #[.slice (offA a i.size lo c) dn dc, .slice a' sn c']).run P w = .ok v' w' →
      (execOp ac.eval (mkO (.call { callee := .builtin .copy, args := #[x, y], argTypes := #[t, t] }) ty)).run P w = .ok (.value v') w' := fun v' w' h => by
    simp [mkO, execOp, resolve, invoke, builtin, ha.eval hx, ha.eval hy, h]
  have hsl := hs w hw
  have hmin : Nat.min sn dn = q := hq.symm
  have hle : xs.length ≤ c := ho.le'
  by_cases hq0 : q = 0
  · have e0 : xs.take lo ++ ys.take q ++ xs.drop (lo + q) = xs := by rw [hq0]; simp
    rw [e0]
    refine ⟨B, w, run1 _ _ ?_, Tr.refl (fun p hp => hw.own p (hB p hp)) ho.nd, ho⟩
    have hf : ∀ v, (Builtin.firstCells i.size 0 v).run P w = .ok #[] w ∨ True := fun _ => .inr trivial
    rw [hq0] at hmin ⊢
    rcases offA a i.size lo c with _ | ad <;> rcases a' with _ | ad' <;> simp [Builtin.copy_, run_underlying hU, Builtin.lenOf, Builtin.firstCells, sizeOf, typeInfo, hi, hmin, loadCells, loadCellsFrom, storeCells, goInt]
  · rcases ho with ⟨rfl, rfl, rfl⟩ | ⟨r, cur, fz, rfl, rfl, hfz, h1, h2, h3⟩
    · omega
    · have hh : w.heap[r]? = some (.cells cur e fz) := hw.own _ (hB _ List.mem_cons_self)
      have hyn : (ys.take q).length = q := by rw [List.length_take]; omega
      have hfl : (flat enc (ys.take q)).length = q * i.size := by rw [flat_length hE, hyn]
      have hle2 : lo * i.size + q * i.size ≤ c * i.size := by rw [← Nat.add_mul]; exact Nat.mul_le_mul_right _ hc
      have hst := run_storeCells_atG P r (lo * i.size) e fz (flat enc (ys.take q)) 0 cur w hh hfz (by rw [hfl]; omega) (flat_one hE _)
      have hoff : offA (some (⟨r, 0, none⟩ : Addr)) i.size lo c = some ⟨r, lo * i.size, none⟩ := by
        simp only [offA]; rw [if_neg (by omega), Option.map_some, addr_add, Nat.zero_add]
      obtain ⟨y0, hy0⟩ : ∃ y0, ys[0]? = some y0 := ⟨_, List.getElem?_eq_getElem (by omega)⟩
      obtain ⟨b1, o1, rfl, _, _⟩ := hsl 0 y0 hy0
      have hl : (loadCells ⟨b1, o1, none⟩ (q * i.size)).run P w = .ok (flat enc (ys.take q)).toArray w := by
        rw [← hfl]
        exact run_loadCells_list w _ _ (Sl.cells hE hsl q hqy)
      refine ⟨[(r, .cells (cur.toList.take (lo * i.size + 0) ++ flat enc (ys.take q) ++ cur.toList.drop (lo * i.size + 0 + (flat enc (ys.take q)).length)).toArray e fz)], _, run1 _ _ ?_, tr_row hh, OwnB.fullF ?_ ?_ ?_ ?_⟩
      · rw [hoff]
        simp [Builtin.copy_, run_underlying hU, Builtin.lenOf, Builtin.firstCells, sizeOf, typeInfo, hi, hmin, hl, hst, goInt]
      · refine hfz.imp id fun h => Nat.le_trans (Nat.le_of_eq ?_) h
        simp only [List.size_toArray, List.length_append, List.length_take, List.length_drop, Array.length_toList, hfl, h2]; omega
      · simp only [List.length_append, List.length_take, List.length_drop]; omega
      · simp only [List.size_toArray, List.length_append, List.length_take, List.length_drop, Array.length_toList, hfl, h2]; omega
      · have hA : cur.toList.take (lo * i.size) = flat enc (xs.take lo) := by
          have := congrArg (List.take (lo * i.size)) h3
          rw [List.take_take, Nat.min_eq_left (Nat.mul_le_mul_right _ hlo)] at this
          rw [this]
          have hl : flat enc xs = flat enc (xs.take lo) ++ flat enc (xs.drop lo) := by rw [← flat_append, List.take_append_drop]
          rw [hl, List.take_left' (by rw [flat_length hE, List.length_take]; congr 1; omega)]
        simp only [List.toList_toArray, Nat.add_zero, hfl]
        rw [hA, flat_append, flat_append]
        by_cases hlong : lo + q ≤ xs.length
        · have hD : (cur.toList.drop (lo * i.size + q * i.size)).take ((xs.length - (lo + q)) * i.size) = flat enc (xs.drop (lo + q)) := by
            have := congrArg (List.drop ((lo + q) * i.size)) h3
            rw [List.drop_take, ← Nat.sub_mul] at this
            rw [← Nat.add_mul, this]
            have hl : flat enc xs = flat enc (xs.take (lo + q)) ++ flat enc (xs.drop (lo + q)) := by rw [← flat_append, List.take_append_drop]
            rw [hl, List.drop_left' (by rw [flat_length hE, List.length_take]; congr 1; omega)]
          have hlen : (xs.take lo ++ ys.take q ++ xs.drop (lo + q)).length * i.size = (flat enc (xs.take lo) ++ flat enc (ys.take q)).length + (xs.length - (lo + q)) * i.size := by
            rw [@List.length_append _ (flat enc (xs.take lo)), hfl, flat_length hE]
            simp only [List.length_append, List.length_drop, Nat.add_mul, hyn]
          rw [hlen, List.take_length_add_append, hD]
        · have hd : xs.drop (lo + q) = [] := List.drop_eq_nil_of_le (by omega)
          rw [hd]
          simp only [flat, List.map_nil, List.flatten_nil, List.append_nil]
          rw [List.take_left' (by
            have h5 : (List.map enc (List.take lo xs)).flatten.length = (xs.take lo).length * i.size := flat_length hE _
            have h6 : (List.map enc (List.take q ys)).flatten.length = (ys.take q).length * i.size := flat_length hE _
            rw [List.length_append, List.length_append, h5, h6, Nat.add_mul])]
theorem JL_copyOff {α : Type} {enc : α → List Value} {k by_ : Nat} {t e : TypeId} {z : Value} {x y : Operand} {a a' : Option Addr} {c c' dn dc sn : Nat} {B R : Heap} {xs ys : List α} {l : List Oper} (lo q : Nat) (zs : List α) (hz : xs.take lo ++ ys.take q ++ xs.drop (lo + q) = zs) (hT : Ty P e k by_ z) (hU : P.underlying t = some (.slice e)) (hE : EncOk enc k) (ho : OwnB enc k e a c B xs) (hL : List.Perm L (B ++ R))
    (hs : SlJ b0 Mk L enc k a' ys) (hq : q = min sn dn) (hqy : q ≤ ys.length) (hlo : lo ≤ xs.length) (hc : lo + q ≤ c) (hx : ev E x = some (.slice (offA a k lo c) dn dc) := by rfl) (hy : ev E y = some (.slice a' sn c') := by rfl) (hd : Nat.blt d N = true := by rfl)
    (kk : ∀ B2, OwnB enc k e a c B2 zs → JL P rd b0 Mk N D ops (B2 ++ R) ((d, .int .i64 q) :: E) l T) :
    JL P rd b0 Mk N D ops L E ({ dst := some d, op := .call { callee := .builtin .copy, args := #[x, y], argTypes := #[t, t] }, type := ty, pos := pos, after := after, guard := none } :: l) T :=
  JL_e hL (e_copyOff lo q hT hU hE ho hs (fun p hp => hL.mem_iff.2 (List.mem_append_left _ hp)) hq hqy hlo hc hx hy) rfl hd (fun h hh => kk h (hz ▸ hh))
theorem JD_copyOff {α : Type} {enc : α → List Value} {k by_ : Nat} {t e : TypeId} {z : Value} {x y : Operand} {a a' : Option Addr} {c c' dn dc sn : Nat} {B R : Heap} {xs ys : List α} {l : List (Bool × Oper)} (lo q : Nat) (zs : List α) (hz : xs.take lo ++ ys.take q ++ xs.drop (lo + q) = zs) (hT : Ty P e k by_ z) (hU : P.underlying t = some (.slice e)) (hE : EncOk enc k) (ho : OwnB enc k e a c B xs) (hV : List.Perm V (B ++ R))
    (hs : SlJ b0 Mk (V ++ L) enc k a' ys) (hq : q = min sn dn) (hqy : q ≤ ys.length) (hlo : lo ≤ xs.length) (hc : lo + q ≤ c) (hx : ev E x = some (.slice (offA a k lo c) dn dc) := by rfl) (hy : ev E y = some (.slice a' sn c') := by rfl) (hd : Nat.blt d N = true := by rfl)
    (kk : ∀ B2, OwnB enc k e a c B2 zs → JD P rd b0 Mk N D ops L (B2 ++ R) ((d, .int .i64 q) :: E) l T) :
    JD P rd b0 Mk N D ops L V E ((false, { dst := some d, op := .call { callee := .builtin .copy, args := #[x, y], argTypes := #[t, t] }, type := ty, pos := pos, after := after, guard := none }) :: l) T :=
  JD_e hV (e_copyOff lo q hT hU hE ho hs (fun p hp => List.mem_append_left _ (hV.mem_iff.2 (List.mem_append_left _ hp))) hq hqy hlo hc hx hy) rfl hd (fun h hh => kk h (hz ▸ hh))
theorem zeroCells_flat {α : Type} {enc : α → List Value} {k : Nat} {z : Value} {x0 : α} (hE : EncOk enc k) (hz : cellsL z = enc x0) (n : Nat) : (Builtin.zeroCells z.cells n).toList = flat enc (List.replicate n x0) := by
  have h := made_flat hE hz n
  have hs : z.cells.size = k := by rw [cellsL_eq, hz]; simpa using hE.len x0
  have e : Builtin.zeroCells z.cells n = madeCells z.cells (n * k) := by rw [← hs]; rfl
  rw [e, h]
theorem e_clearOff {α : Type} {enc : α → List Value} {k by_ : Nat} {t e : TypeId} {z : Value} {x : Operand} {a : Option Addr} {c dn dc : Nat} {B : Heap} {xs : List α} (lo : Nat) {x0 : α} (hT : Ty P e k by_ z) (hZ : ∀ w, (zeroValue e).run P w = .ok z w) (hz0 : cellsL z = enc x0) (hU : P.underlying t = some (.slice e)) (hE : EncOk enc k) (ho : OwnB enc k e a c B xs)
    (hB : ∀ p ∈ B, p ∈ L) (hlo : xs.length ≤ lo) (hc : lo + dn ≤ c) (hx : ev E x = some (.slice (offA a k lo c) dn dc) := by rfl) :
    RunM P N D b0 Mk L E (.call { callee := .builtin .clear, args := #[x], argTypes := #[t] }) ty B Heap (fun _ => .value (.tuple #[])) (fun h => h) (fun h => OwnB enc k e a c h xs) := by
  intro ac w ha hw
  obtain ⟨i, hi, rfl, rfl, hz⟩ := hT.ex
  have hzs := hT.zs
  have run1 : ∀ (v' : Value) (w' : World), (Builtin.clear_ #[t] ty #[.slice (offA a i.size lo c) dn dc]).run P w = .ok v' w' →
      (execOp ac.eval (mkO (.call { callee := .builtin .clear, args := #[x], argTypes := #[t] }) ty)).run P w = .ok (.value v') w' := fun v' w' h => by
    simp [mkO, execOp, resolve, invoke, builtin, ha.eval hx, h]
  by_cases hq0 : dn = 0
  · subst hq0
    refine ⟨B, w, run1 _ _ ?_, Tr.refl (fun p hp => hw.own p (hB p hp)) ho.nd, ho⟩
    rcases offA a i.size lo c with _ | ad <;> simp [Builtin.clear_, run_underlying hU]
  · rcases ho with ⟨rfl, rfl, rfl⟩ | ⟨r, cur, fz, rfl, rfl, hfz, h1, h2, h3⟩
    · omega
    · have hh : w.heap[r]? = some (.cells cur e fz) := hw.own _ (hB _ List.mem_cons_self)
      have hle2 : lo * i.size + dn * i.size ≤ c * i.size := by rw [← Nat.add_mul]; exact Nat.mul_le_mul_right _ hc
      have hzl : (Builtin.zeroCells z.cells dn).toList.length = dn * i.size := by rw [size_zeroCells', hzs]
      have hz1 : ∀ v ∈ (Builtin.zeroCells z.cells dn).toList, v.oneCell' = true := fun v hv => by
        rw [zeroCells_flat hE hz0 dn] at hv
        exact flat_one hE _ v hv
      have hst := run_storeCells_atG P r (lo * i.size) e fz (Builtin.zeroCells z.cells dn).toList 0 cur w hh hfz (by rw [hzl]; omega) hz1
      have hoff : offA (some (⟨r, 0, none⟩ : Addr)) i.size lo c = some ⟨r, lo * i.size, none⟩ := by
        simp only [offA]; rw [if_neg (by omega), Option.map_some, addr_add, Nat.zero_add]
      refine ⟨[(r, .cells (cur.toList.take (lo * i.size + 0) ++ (Builtin.zeroCells z.cells dn).toList ++ cur.toList.drop (lo * i.size + 0 + (Builtin.zeroCells z.cells dn).toList.length)).toArray e fz)], _, run1 _ _ ?_, tr_row hh, OwnB.fullF ?_ h1 ?_ ?_⟩
      · rw [hoff]
        cases dn with
        | zero => exact absurd rfl hq0
        | succ dn => simp [Builtin.clear_, run_underlying hU, hZ, hst]
      · refine hfz.imp id fun h => Nat.le_trans (Nat.le_of_eq ?_) h
        simp only [List.size_toArray, List.length_append, List.length_take, List.length_drop, Array.length_toList, hzl, h2]; omega
      · simp only [List.size_toArray, List.length_append, List.length_take, List.length_drop, Array.length_toList, hzl, h2]; omega
      · have hm : xs.length * i.size ≤ lo * i.size := Nat.mul_le_mul_right _ hlo
        simp only [List.toList_toArray, Nat.add_zero]
        have hm2 : xs.length * i.size ≤ (List.take (lo * i.size) cur.toList).length := by
          rw [List.length_take]
          have : cur.toList.length = c * i.size := by simpa using h2
          omega
        rw [List.append_assoc, List.take_append_of_le_length hm2, List.take_take, Nat.min_eq_left hm, h3]
theorem JL_clearOff {α : Type} {enc : α → List Value} {k by_ : Nat} {t e : TypeId} {z : Value} {x : Operand} {a : Option Addr} {c dn dc : Nat} {B R : Heap} {xs : List α} {l : List Oper} (lo : Nat) {x0 : α} (hT : Ty P e k by_ z) (hZ : ∀ w, (zeroValue e).run P w = .ok z w) (hz0 : cellsL z = enc x0) (hU : P.underlying t = some (.slice e)) (hE : EncOk enc k) (ho : OwnB enc k e a c B xs) (hL : List.Perm L (B ++ R))
    (hlo : xs.length ≤ lo) (hc : lo + dn ≤ c) (hx : ev E x = some (.slice (offA a k lo c) dn dc) := by rfl) 
    (kk : ∀ B2, OwnB enc k e a c B2 xs → JL P rd b0 Mk N D ops (B2 ++ R) E l T) :
    JL P rd b0 Mk N D ops L E ({ dst := none, op := .call { callee := .builtin .clear, args := #[x], argTypes := #[t] }, type := ty, pos := pos, after := after, guard := none } :: l) T := by
  intro ac w ha hw
  unfold wpL
  rw [if_pos (by rfl)]
  obtain ⟨h, w', h1, h2, h3⟩ := e_clearOff (ty := ty) lo hT hZ hz0 hU hE ho (fun p hp => hL.mem_iff.2 (List.mem_append_left _ hp)) hlo hc hx ac w ha hw
  have hE2 : Holds N D E (ac.put none (.tuple #[])) := ha
  exact wpIn_value (o := { dst := none, op := .call { callee := .builtin .clear, args := #[x], argTypes := #[t] }, type := ty, pos := pos, after := after, guard := none }) rfl (by rw [execOp_mkO]; exact h1) (kk h h3 _ _ hE2 ((hw.perm hL).tr h2))
theorem e_appendIn {α : Type} {enc : α → List Value} {k by_ : Nat} {t e : TypeId} {z : Value} {x y : Operand} {a a' : Option Addr} {c c' n m : Nat} {B : Heap} {xs ys : List α} (hT : Ty P e k by_ z) (hU : P.underlying t = some (.slice e)) (hE : EncOk enc k) (ho : OwnB enc k e a c B xs)
    (hs : SlJ b0 Mk L enc k a' ys) (hB : ∀ p ∈ B, p ∈ L) (hn : xs.length = n) (hm : ys.length = m) (hroom : n + m ≤ c) (hx : ev E x = some (.slice a n c) := by rfl) (hy : ev E y = some (.slice a' m c') := by rfl) :
    RunM P N D b0 Mk L E (.call { callee := .builtin .append, args := #[x, y], argTypes := #[t, t] }) ty B Heap (fun _ => .value (.slice a (n + m) c)) (fun q => q) (fun q => OwnB enc k e a c q (xs ++ ys)) := by
  intro ac w ha hw
  obtain ⟨i, hi, rfl, rfl, hz⟩ := hT.ex
  subst hn hm
  have run1 : ∀ (v' : Value) (w' : World), (Builtin.append_ #[t, t] ty #[.slice a xs.length c, .slice a' ys.length c']).run P w = .ok v' w' →
      (execOp ac.eval (mkO (.call { callee := .builtin .append, args := #[x, y], argTypes := #[t, t] }) ty)).run P w = .ok (.value v') w' := fun v' w' h => by
    simp [mkO, execOp, resolve, invoke, builtin, ha.eval hx, ha.eval hy, h]
  have hsl := hs w hw
  by_cases hy0 : ys = []
  · subst hy0
    have hrun : (Builtin.append_ #[t, t] ty #[.slice a xs.length c, .slice a' 0 c']).run P w = .ok (.slice a xs.length c) w := by
      have hf : (Builtin.firstCells i.size 0 (.slice a' 0 c')).run P w = .ok #[] w := by
        cases a' with
        | none => simp [Builtin.firstCells]
        | some q => simp [Builtin.firstCells, loadCells, loadCellsFrom]
      have hle' : xs.length ≤ c := by simpa using hroom
      rcases a with _ | ad
      · simp [Builtin.append_, run_underlying hU, sizeOf, typeInfo, hi, Builtin.lenOf, hf, hle']
      · simp [Builtin.append_, run_underlying hU, sizeOf, typeInfo, hi, Builtin.lenOf, hf, hle', storeCells]
    exact ⟨B, w, run1 _ _ (by simpa using hrun), Tr.refl (fun p hp => hw.own p (hB p hp)) ho.nd, by simpa using ho⟩
  · have hpos : 0 < ys.length := List.length_pos_iff.2 hy0
    obtain ⟨y0, hy0'⟩ : ∃ y0, ys[0]? = some y0 := ⟨_, List.getElem?_eq_getElem hpos⟩
    obtain ⟨b1, off1, rfl, _, _⟩ := hsl 0 y0 hy0'
    have hnews := Sl.cells hE hsl ys.length (Nat.le_refl _)
    rw [List.take_length] at hnews
    have hnl : (flat enc ys).length = ys.length * i.size := flat_length hE ys
    rcases ho with ⟨rfl, rfl, rfl⟩ | ⟨r, cur, fz, rfl, rfl, hfz, h1, h2, h3⟩
    · omega
    · have hh : w.heap[r]? = some (.cells cur e fz) := hw.own _ (hB _ List.mem_cons_self)
      have hr := run_append_roomG (P := P) (w := w) (ty := ty) t e i hU hi r xs.length c cur fz hh hfz ⟨b1, off1, none⟩ ys.length c' (flat enc ys) hnl hnews (flat_one hE ys) hroom (by rw [hnl, h2, ← Nat.add_mul]; exact Nat.mul_le_mul_right _ hroom)
      have hle : xs.length * i.size + ys.length * i.size ≤ c * i.size := by rw [← Nat.add_mul]; exact Nat.mul_le_mul_right _ hroom
      refine ⟨[(r, _)], _, run1 _ _ hr, tr_row hh, OwnB.fullF ?_ (by simpa using hroom) ?_ ?_⟩
      · refine hfz.imp id fun h => Nat.le_trans (Nat.le_of_eq ?_) h
        simp only [List.size_toArray, List.length_append, List.length_take, List.length_drop, Array.length_toList, hnl, h2]
        omega
      · simp only [List.size_toArray, List.length_append, List.length_take, List.length_drop, Array.length_toList, hnl, h2]
        omega
      · have hle3 : xs.length * i.size ≤ c * i.size := Nat.mul_le_mul_right _ h1
        have e1 : (cur.toList.take (xs.length * i.size)).length = xs.length * i.size := by simp [h2, Nat.min_eq_left hle3]
        simp only [List.toList_toArray, List.length_append, Nat.add_mul]
        rw [List.take_left' (by rw [List.length_append, e1, hnl]), h3, flat_append]
theorem JD_appendIn {α : Type} {enc : α → List Value} {kk by_ : Nat} {t e : TypeId} {z : Value} {x y : Operand} {a a' : Option Addr} {c c' n m : Nat} {B R : Heap} {xs ys : List α} {l : List (Bool × Oper)} (zs : List α) (hz : xs ++ ys = zs) (hT : Ty P e kk by_ z) (hU : P.underlying t = some (.slice e)) (hE : EncOk enc kk) (ho : OwnB enc kk e a c B xs) (hV : List.Perm V (B ++ R))
    (hs : SlJ b0 Mk (V ++ L) enc kk a' ys) (hroom : n + m ≤ c) (hx : ev E x = some (.slice a n c) := by rfl) (hy : ev E y = some (.slice a' m c') := by rfl) (hn : xs.length = n := by rfl) (hm : ys.length = m := by rfl) (hd : Nat.blt d N = true := by rfl) (hzl : n + m = zs.length := by simp)
    (k : ∀ B2, OwnB enc kk e a c B2 zs → JD P rd b0 Mk N D ops L (B2 ++ R) ((d, .slice a zs.length c) :: E) l T) :
    JD P rd b0 Mk N D ops L V E ((false, { dst := some d, op := .call { callee := .builtin .append, args := #[x, y], argTypes := #[t, t] }, type := ty, pos := pos, after := after, guard := none }) :: l) T :=
  JD_e hV (e_appendIn hT hU hE ho hs (fun p hp => List.mem_append_left _ (hV.mem_iff.2 (List.mem_append_left _ hp))) hn hm hroom hx hy) rfl hd (fun q hq => by rw [hzl]; exact k q (hz ▸ hq))
theorem e_appendZ {α : Type} {enc : α → List Value} {k by_ : Nat} {t tn e : TypeId} {z : Value} {x0 : α} {x y : Operand} {a : Option Addr} {c n m : Nat} {i : Int} {xs : List α} {kn : IntKind} (hT : Ty P e k by_ z) (hU : P.underlying t = some (.slice e)) (hN : P.underlying tn = some (.int kn)) (hE : EncOk enc k) (hz : cellsL z = enc x0)
    (hs : SlJ b0 Mk L enc k a xs) (hn : xs.length = n) (h0 : 0 < m) (hg : c < n + m) (hb : 2 * (n + m) * by_ ≤ 281474976710656) (hb2 : n + m ≤ 4611686018427387904) (hi : i = (m : Int)) (hx : ev E x = some (.slice a n c) := by rfl) (hy : ev E y = some (.int .i64 i) := by rfl) :
    RunM P N D b0 Mk L E (.call { callee := .builtin .append, args := #[x, y], argTypes := #[t, tn] }) ty [] (Option Addr × Nat × Heap) (fun q => .value (.slice q.1 (n + m) q.2.1)) (fun q => q.2.2) (fun q => OwnB enc k e q.1 q.2.1 q.2.2 (xs ++ List.replicate m x0)) := by
  intro ac w ha hw
  obtain ⟨i, hi, rfl, rfl, hzz⟩ := hT.ex
  subst hn
  rename_i hi'
  have hzs := hT.zs
  have hk := hE.pos
  subst hi'
  have run1 : ∀ (v' : Value) (w' : World), (Builtin.append_ #[t, tn] ty #[.slice a xs.length c, .int .i64 m]).run P w = .ok v' w' →
      (execOp ac.eval (mkO (.call { callee := .builtin .append, args := #[x, y], argTypes := #[t, tn] }) ty)).run P w = .ok (.value v') w' := fun v' w' h => by
    simp [mkO, execOp, resolve, invoke, builtin, ha.eval hx, ha.eval hy, h]
  have hsl := hs w hw
  have hnx : Builtin.nextslicecap (xs.length + m) c ≤ 2 * (xs.length + m) := nextslicecap_le hg
  have holds : (Builtin.firstCells i.size xs.length (.slice a xs.length c)).run P w.drew = .ok (flat enc xs).toArray w.drew := by
    by_cases hx0 : xs = []
    · subst hx0
      rcases a with _ | ad <;> simp [Builtin.firstCells, loadCells, loadCellsFrom, flat]
    · obtain ⟨y0, hy0⟩ : ∃ y0, xs[0]? = some y0 := ⟨_, List.getElem?_eq_getElem (List.length_pos_iff.2 hx0)⟩
      obtain ⟨b1, o1, rfl, _, _⟩ := hsl 0 y0 hy0
      have h5 := Sl.cells hE hsl xs.length (Nat.le_refl _)
      rw [List.take_length] at h5
      have : ∀ j v, (flat enc xs)[j]? = some v → w.drew.cell? ((⟨b1, o1, none⟩ : Addr).add j) = some v := fun j v hj => h5 j v hj
      exact run_firstCells_some (P := P) w.drew i.size xs.length _ xs.length c (flat enc xs) (flat_length hE xs) this
  have hbm : m * i.bytes ≤ 281474976710656 := by
    have : m * i.bytes ≤ 2 * (xs.length + m) * i.bytes := Nat.mul_le_mul_right _ (by omega)
    omega
  have hr := Lib.run_append_grow_zeros (P := P) w t tn ty e i z .i64 kn hU hN hi hzz a xs.length c (flat enc xs) holds m h0 hk hg (by omega) hbm (Nat.le_trans (Nat.mul_le_mul_right _ hnx) hb)
  refine ⟨(some ⟨w.heap.size, 0, none⟩, grownCap w (xs.length + m) c e, [(w.heap.size, _)]), _, run1 _ _ hr, tr_drew (tr_alloc (w := w.drew) _), ?_⟩
  · have hge := grownCap_ge w (xs.length + m) c e
    refine OwnB.full hE (by simpa using hge) ?_ ?_
    · rw [Array.size_append, Array.size_append, List.size_toArray, flat_length hE, size_zeroCells, size_zeroCells, hzs, ← Nat.add_mul, ← Nat.add_mul]
      dsimp only
      congr 1
      omega
    · simp only [Array.toList_append, List.toList_toArray]
      rw [zeroCells_flat hE hz m, List.take_left' (by rw [List.length_append, flat_length hE, flat_length hE, List.length_append, Nat.add_mul]), flat_append]
theorem JL_appendZ {α : Type} {enc : α → List Value} {kk by_ : Nat} {t tn e : TypeId} {z : Value} {x0 : α} {x y : Operand} {a : Option Addr} {c n m : Nat} {i : Int} {xs : List α} {kn : IntKind} {l : List Oper} (hT : Ty P e kk by_ z) (hU : P.underlying t = some (.slice e)) (hN : P.underlying tn = some (.int kn)) (hE : EncOk enc kk) (hz : cellsL z = enc x0)
    (hs : SlJ b0 Mk L enc kk a xs) (hn : xs.length = n) (h0 : 0 < m) (hg : c < n + m) (hb : 2 * (n + m) * by_ ≤ 281474976710656 ∧ n + m ≤ 4611686018427387904) (hi : i = (m : Int)) (hx : ev E x = some (.slice a n c) := by rfl) (hy : ev E y = some (.int .i64 i) := by rfl) (hd : Nat.blt d N = true := by rfl)
    (k : ∀ a2 c2 B2, OwnB enc kk e a2 c2 B2 (xs ++ List.replicate m x0) → JL P rd b0 Mk N D ops (B2 ++ L) ((d, .slice a2 (xs ++ List.replicate m x0).length c2) :: E) l T) :
    JL P rd b0 Mk N D ops L E ({ dst := some d, op := .call { callee := .builtin .append, args := #[x, y], argTypes := #[t, tn] }, type := ty, pos := pos, after := after, guard := none } :: l) T :=
  JL_e (List.Perm.refl _) (e_appendZ hT hU hN hE hz hs hn h0 hg hb.1 hb.2 hi hx hy) rfl hd (fun q hq => by
    have := k q.1 q.2.1 q.2.2 hq
    rwa [List.length_append, List.length_replicate, hn] at this)
end
end Go.Proofs.YtopjaeoklkpcpaaGreatDoor.Jd

namespace Go.Proofs.YtopjaeoklkpcpaaGreatDoor.Jd
open Go.RowKit (Below)
set_option linter.unusedVariables false
set_option linter.unusedSimpArgs false
theorem lb {p : Prop} (h : p := by first | omega | (simp only [List.length_append, List.length_take, List.length_drop, List.length_set, List.length_replicate, List.length_cons, List.length_nil, List.length_map, toS_length, toI_length]; omega) | (simp only [List.length_append, List.length_take, List.length_drop, List.length_set, List.length_replicate, List.length_cons, List.length_nil, List.length_map, toS_length, toI_length] at *; omega)) : p := h
theorem ix {p : Prop} (h : p := by first | omega | (simp only [List.length_set]; omega) | (simp only [List.length_append, List.length_take, List.length_drop, List.length_set, List.length_replicate, List.length_cons, List.length_nil, List.length_map, toS_length, toI_length]; omega)) : p := h
theorem se {E E' : Env} (h : SubE E E' := by repeat (first | exact SubE.nil | refine SubE.cons rfl ?_)) : SubE E E' := h
theorem me {α : Type} {p : α} {l : List α} (h : p ∈ l := by repeat (first | exact List.mem_cons_self | apply List.mem_cons_of_mem | apply List.mem_append_right)) : p ∈ l := h
theorem q0 {l : Heap} : List.Perm l l := List.Perm.refl _
theorem qa {x a : Nat × Obj} {t r : Heap} (p : List.Perm t (a :: r)) : List.Perm (x :: t) (a :: x :: r) := (List.Perm.cons _ p).trans (List.Perm.swap _ _ _)
theorem qb {x : Nat × Obj} {t r S : Heap} (p : List.Perm t (S ++ r)) : List.Perm (x :: t) (S ++ (x :: r)) := (List.Perm.cons _ p).trans List.perm_middle.symm
theorem qc {a : Nat × Obj} {t r S : Heap} (p : List.Perm t (a :: r)) : List.Perm (S ++ t) (a :: (S ++ r)) := (List.Perm.append_left _ p).trans List.perm_middle
theorem qd {t r S U : Heap} (p : List.Perm t (U ++ r)) : List.Perm (S ++ t) (U ++ (S ++ r)) := (List.Perm.append_left _ p).trans (perm_seg _ _ _)
section
variable {P : Program} {rd : Option Nat} {b0 : World} {Mk : List Nat} {N : Nat} {D : List Deferred} {ops : Array Oper} {L V : Heap} {E : Env} {T : Act → World → Prop}
variable {op : Op} {ty : TypeId} {pos : String} {after : Array Edge} {d : Nat}
theorem q_look1 {κ : Type} [DecidableEq κ] {kd : TypeDesc} {enc : κ → Value} {t kt et : TypeId} {x y : Operand} {r ck : Nat} {es : Array MapEntry} {l : List (κ × Value)} {z v : Value} (q : κ) (hk : KeyOk kd enc) (hU : ∀ w, (underlying t).run P w = .ok (.map kt et) w) (hK : ∀ w, (underlying kt).run P w = .ok kd w)
    (hz : ∀ w, (zeroValue et).run P w = .ok z w) (hes : MapIs enc es l) (hv : (lookL l q).getD z = v) (hx : ev E x = some (.map (some r)) := by rfl) (hy : ev E y = some (enc q) := by rfl)
    (hm : (r, Obj.map es ck) ∈ L := by repeat (first | exact List.mem_cons_self | apply List.mem_cons_of_mem | apply List.mem_append_right)) :
    RunQ P N D b0 Mk L E (.lookup t x y false) ty v := hv ▸ q_lookup q hk hU hK hz hes hx hy hm
theorem e_ins {κ : Type} [DecidableEq κ] {kd : TypeDesc} {enc : κ → Value} {t kt et : TypeId} {x y u : Operand} {r ck : Nat} {es : Array MapEntry} {l : List (κ × Value)} {v : Value} (q : κ) (hk : KeyOk kd enc) (hU : ∀ w, (underlying t).run P w = .ok (.map kt et) w) (hK : ∀ w, (underlying kt).run P w = .ok kd w)
    (hes : MapIs enc es l) (hnew : ∀ p ∈ l, p.1 ≠ q) (hx : ev E x = some (.map (some r)) := by rfl) (hy : ev E y = some (enc q) := by rfl) (hu : ev E u = some v := by rfl)
    (hm : (r, Obj.map es ck) ∈ L := by repeat (first | exact List.mem_cons_self | apply List.mem_cons_of_mem | apply List.mem_append_right)) :
    RunM P N D b0 Mk L E (.insert t x y u) ty [(r, .map es ck)] (Array MapEntry × Nat) (fun _ => .skip) (fun x => [(r, .map x.1 x.2)]) (fun x => MapIs enc x.1 (l ++ [(q, v)])) := fun a w ha hw => by
  obtain ⟨x, w', h1, h2, h3⟩ := e_put (ty := ty) q hk hU hK hes hnew hx hy hu hm a w ha hw
  exact ⟨x, w', h1, h2, h3⟩
theorem JL_ins {κ : Type} [DecidableEq κ] {kd : TypeDesc} {enc : κ → Value} {t kt et : TypeId} {x y u : Operand} {r ck : Nat} {es : Array MapEntry} {ml : List (κ × Value)} {v : Value} {R : Heap} {l : List Oper} (q : κ) (hk : KeyOk kd enc) (hU : ∀ w, (underlying t).run P w = .ok (.map kt et) w) (hK : ∀ w, (underlying kt).run P w = .ok kd w)
    (hes : MapIs enc es ml) (hnew : ∀ p ∈ ml, p.1 ≠ q) (hL : List.Perm L ((r, Obj.map es ck) :: R)) (hx : ev E x = some (.map (some r)) := by rfl) (hy : ev E y = some (enc q) := by rfl) (hu : ev E u = some v := by rfl)
    (k : ∀ es2 ck2, MapIs enc es2 (ml ++ [(q, v)]) → JL P rd b0 Mk N D ops ((r, Obj.map es2 ck2) :: R) E l T) :
    JL P rd b0 Mk N D ops L E ({ dst := none, op := .insert t x y u, type := ty, pos := pos, after := after, guard := none } :: l) T :=
  JL_es (H := [(r, Obj.map es ck)]) hL (e_ins q hk hU hK hes hnew hx hy hu (hL.mem_iff.2 List.mem_cons_self)) rfl (fun x hq => k x.1 x.2 hq)
theorem JO_pV {l : List Oper} {n f' : Nat} {listed : Array Bool} {i : Nat} {f : FuncId} {args : List Value} {R : World → Ending → World → Prop} (hi : l[i]? = some { dst := some d, op := op, type := ty, pos := pos, after := after, guard := none }) (hc : RunC P N D b0 Mk L E op ty f args)
    (h : ∀ w, SH b0 Mk L w → Calls P f args.toArray w (R w)) (hn : notDeferOp op = true := by rfl) (hd : Nat.blt d N = true := by rfl)
    (k : ∀ w e w', SH b0 Mk L w → R w e w' → ∃ v B V', e = .returned v ∧ Fresh w w' B ∧ V' = B ++ V ∧ JG P rd b0 Mk N D l n f' (listed.setIfInBounds i true) L V' ((d, v) :: E) T) : JO P rd b0 Mk N D l n f' listed L V E T i := by
  intro hg inv a w ha hw
  have hi' : l.toArray[i]? = some { dst := some d, op := op, type := ty, pos := pos, after := after, guard := none } := by simpa using hi
  unfold wpO
  simp only [hi']
  rw [if_pos (by rfl)]
  refine wpIn_enter (notDefer_mk hn) (by rw [execOp_mkO]; exact hc a w ha hw.right) ((h w hw.right).mono fun e w' he => ?_)
  obtain ⟨v, B, V', rfl, h2, rfl, h3⟩ := k w e w' hw.right he
  have h4 : SH b0 Mk ((B ++ V) ++ L) w' := by rw [List.append_assoc]; exact hw.fresh h2
  exact ⟨_, rfl, SH b0 Mk L, fun y hy => hy, h4.right, h3 hg inv _ _ (ha.put hd _) h4⟩
theorem JO_m {l : List Oper} {n f' : Nat} {listed : Array Bool} {i : Nat} {f : FuncId} {args : List Value} {R : World → Ending → World → Prop} (hi : l[i]? = some { dst := some d, op := op, type := ty, pos := pos, after := after, guard := none }) (hc : RunC P N D b0 Mk L E op ty f args)
    (h : ∀ w, SH b0 Mk (V ++ L) w → Calls P f args.toArray w (R w)) (hn : notDeferOp op = true := by rfl) (hd : Nat.blt d N = true := by rfl)
    (k : ∀ w e w', SH b0 Mk (V ++ L) w → R w e w' → ∃ v V', e = .returned v ∧ SH b0 Mk (V' ++ L) w' ∧ JG P rd b0 Mk N D l n f' (listed.setIfInBounds i true) L V' ((d, v) :: E) T) : JO P rd b0 Mk N D l n f' listed L V E T i := by
  intro hg inv a w ha hw
  have hi' : l.toArray[i]? = some { dst := some d, op := op, type := ty, pos := pos, after := after, guard := none } := by simpa using hi
  unfold wpO
  simp only [hi']
  rw [if_pos (by rfl)]
  refine wpIn_enter (notDefer_mk hn) (by rw [execOp_mkO]; exact hc a w ha hw.right) ((h w hw).mono fun e w' he => ?_)
  obtain ⟨v, V', rfl, h2, h3⟩ := k w e w' hw he
  exact ⟨_, rfl, SH b0 Mk L, fun y hy => hy, h2.right, h3 hg inv _ _ (ha.put hd _) h2⟩
end
theorem lookL_hit {κ : Type} [DecidableEq κ] {k q : κ} {v : Value} {l : List (κ × Value)} (h : k = q) : lookL ((k, v) :: l) q = some v := by simp [lookL, h]
theorem lookL_miss {κ : Type} [DecidableEq κ] {k q : κ} {v : Value} {l : List (κ × Value)} (h : ¬ k = q) : lookL ((k, v) :: l) q = lookL l q := by simp [lookL, h]
def insL {α : Type} (xs : List α) (i : Nat) (v : α) : List α := xs.take i ++ v :: xs.drop i
theorem insL_length {α : Type} {xs : List α} {i : Nat} {v : α} (h : i ≤ xs.length) : (insL xs i v).length = xs.length + 1 := by
  simp [insL]; omega
theorem insL_end {α : Type} (xs : List α) (v : α) : xs ++ [v] = insL xs xs.length v := by simp [insL]
def delL {α : Type} (xs : List α) (i j : Nat) : List α := xs.take i ++ xs.drop j
theorem delL_length {α : Type} {xs : List α} {i j : Nat} (h : i ≤ j) (hj : j ≤ xs.length) : (delL xs i j).length = xs.length - (j - i) := by
  simp [delL]; omega
end Go.Proofs.YtopjaeoklkpcpaaGreatDoor.Jd

namespace Go.Proofs.YtopjaeoklkpcpaaGreatDoor.Jd
open Go.RowKit (Below)
set_option linter.unusedVariables false
set_option linter.unusedSimpArgs false
def DeepOk {α β : Type} (D : World → α → β → Prop) : Prop := ∀ w w' x t, (∀ p v, w.cell? p = some v → w'.cell? p = some v) → D w x t → D w' x t
def SlN (w : World) {α β : Type} [Inhabited α] [Inhabited β] (enc : α × β → List Value) (k : Nat) (D : World → α → β → Prop) (a : Option Addr) (xs : List α) (ts : List β) : Prop :=
  ts.length = xs.length ∧ Sl w enc k a (List.zip xs ts) ∧ ∀ i, i < xs.length → D w (xs.getD i default) (ts.getD i default)
def SlNJ (b0 : World) (Mk : List Nat) (L : Heap) {α β : Type} [Inhabited α] [Inhabited β] (enc : α × β → List Value) (k : Nat) (D : World → α → β → Prop) (a : Option Addr) (xs : List α) (ts : List β) : Prop :=
  ts.length = xs.length ∧ ∀ w, SH b0 Mk L w → SlN w enc k D a xs ts
def SlNG (b0 : World) (B : Heap) {α β : Type} [Inhabited α] [Inhabited β] (enc : α × β → List Value) (k : Nat) (D : World → α → β → Prop) (a : Option Addr) (xs : List α) (ts : List β) : Prop :=
  ts.length = xs.length ∧ ∀ w, Ext b0 w → (∀ p ∈ B, w.heap[p.1]? = some p.2) → SlN w enc k D a xs ts
def SlNB (B : Heap) {α β : Type} [Inhabited α] [Inhabited β] (enc : α × β → List Value) (k : Nat) (D : World → α → β → Prop) (a : Option Addr) (xs : List α) (ts : List β) : Prop :=
  ts.length = xs.length ∧ ∀ w : World, (∀ p ∈ B, w.heap[p.1]? = some p.2) → SlN w enc k D a xs ts
def DeepB (B : Heap) {α β : Type} [Inhabited α] [Inhabited β] (D : World → α → β → Prop) (xs : List α) (ts : List β) : Prop :=
  ts.length = xs.length ∧ ∀ w : World, (∀ p ∈ B, w.heap[p.1]? = some p.2) → ∀ i, i < xs.length → D w (xs.getD i default) (ts.getD i default)
theorem ext_cells {w w' : World} (he : Ext w w') : ∀ p v, w.cell? p = some v → w'.cell? p = some v := fun p v h => cell_of_same h (he.block _ (World.block_lt_of_cell? w _ h))
theorem zip_get {α β : Type} [Inhabited α] [Inhabited β] {xs : List α} {ts : List β} {m : Nat} (hl : ts.length = xs.length) (h : m < xs.length) : (List.zip xs ts)[m]? = some (xs.getD m default, ts.getD m default) := by
  rw [List.getD_eq_getElem?_getD, List.getD_eq_getElem?_getD, List.getElem?_eq_getElem h, List.getElem?_eq_getElem (show m < ts.length by omega), List.getElem?_eq_getElem (by rw [List.length_zip]; omega)]
  simp
theorem zip_len {α β : Type} {xs : List α} {ts : List β} (hl : ts.length = xs.length) : (List.zip xs ts).length = xs.length := by rw [List.length_zip]; omega
theorem getD_take' {α : Type} [Inhabited α] {xs : List α} {i n : Nat} (h : i < n) : (xs.take n).getD i default = xs.getD i default := by
  rw [List.getD_eq_getElem?_getD, List.getD_eq_getElem?_getD, List.getElem?_take, if_pos h]
theorem getD_drop' {α : Type} [Inhabited α] {xs : List α} {i n : Nat} : (xs.drop n).getD i default = xs.getD (n + i) default := by
  rw [List.getD_eq_getElem?_getD, List.getD_eq_getElem?_getD, List.getElem?_drop]
theorem getD_append' {α : Type} [Inhabited α] {xs ys : List α} {i : Nat} : (xs ++ ys).getD i default = if i < xs.length then xs.getD i default else ys.getD (i - xs.length) default := by
  simp only [List.getD_eq_getElem?_getD]
  by_cases h : i < xs.length
  · rw [if_pos h, List.getElem?_append_left h]
  · rw [if_neg h, List.getElem?_append_right (by omega)]
section
variable {α β : Type} [Inhabited α] [Inhabited β] {enc : α × β → List Value} {k : Nat} {D : World → α → β → Prop} {a : Option Addr} {xs : List α} {ts : List β} {b0 : World} {Mk : List Nat} {B L : Heap}
theorem SlN.ext {w w' : World} (hD : DeepOk D) (h : SlN w enc k D a xs ts) (he : Ext w w') : SlN w' enc k D a xs ts := ⟨h.1, h.2.1.ext he, fun i hi => hD _ _ _ _ (ext_cells he) (h.2.2 i hi)⟩
theorem SlNJ.of_base (hD : DeepOk D) (h : SlN b0 enc k D a xs ts) : SlNJ b0 [] L enc k D a xs ts := ⟨h.1, fun _ hw => h.ext hD hw.ext_out⟩
theorem SlNG.base (hD : DeepOk D) (h : SlN b0 enc k D a xs ts) : SlNG b0 B enc k D a xs ts := ⟨h.1, fun _ he _ => h.ext hD he⟩
theorem SlNJ.nil : SlNJ b0 Mk L enc k D a ([] : List α) ([] : List β) := ⟨rfl, fun _ _ => ⟨rfl, Sl.nil, fun i hi => by simp at hi⟩⟩
theorem SlNG.nil : SlNG b0 B enc k D a ([] : List α) ([] : List β) := ⟨rfl, fun _ _ _ => ⟨rfl, Sl.nil, fun i hi => by simp at hi⟩⟩
theorem SlNB.nil : SlNB B enc k D a ([] : List α) ([] : List β) := ⟨rfl, fun _ _ => ⟨rfl, Sl.nil, fun i hi => by simp at hi⟩⟩
theorem SlNG.j (h : SlNG b0 B enc k D a xs ts) (hB : ∀ p ∈ B, p ∈ L := by intro p hp; repeat (first | exact hp | exact List.mem_append_left _ hp | apply List.mem_append_right | apply List.mem_cons_of_mem)) : SlNJ b0 [] L enc k D a xs ts := ⟨h.1, fun w hw => h.2 w hw.ext_out fun p hp => hw.own p (hB p hp)⟩
theorem SlNB.j (h : SlNB B enc k D a xs ts) (hB : ∀ p ∈ B, p ∈ L := by intro p hp; repeat (first | exact hp | exact List.mem_append_left _ hp | apply List.mem_append_right | apply List.mem_cons_of_mem)) : SlNJ b0 Mk L enc k D a xs ts := ⟨h.1, fun w hw => h.2 w fun p hp => hw.own p (hB p hp)⟩
theorem SlNB.mono {B' : Heap} (h : SlNB B enc k D a xs ts) (hB : ∀ p ∈ B, p ∈ B') : SlNB B' enc k D a xs ts := ⟨h.1, fun w hw => h.2 w fun p hp => hw p (hB p hp)⟩
theorem SlNG.mono {B' : Heap} (h : SlNG b0 B enc k D a xs ts) (hB : ∀ p ∈ B, p ∈ B' := by intro p hp; repeat (first | exact hp | exact List.mem_append_left _ hp | apply List.mem_append_right | apply List.mem_cons_of_mem)) : SlNG b0 B' enc k D a xs ts := ⟨h.1, fun w he hw => h.2 w he fun p hp => hw p (hB p hp)⟩
theorem SlNJ.sl (h : SlNJ b0 Mk L enc k D a xs ts) : SlJ b0 Mk L enc k a (List.zip xs ts) := fun w hw => (h.2 w hw).2.1
theorem SlNJ.at (h : SlNJ b0 Mk L enc k D a xs ts) {m : Nat} (hm : m < xs.length) : ∀ w, SH b0 Mk L w → D w (xs.getD m default) (ts.getD m default) := fun w hw => (h.2 w hw).2.2 m hm
theorem SlNG.at (h : SlNG b0 B enc k D a xs ts) {m : Nat} (hm : m < xs.length) : ∀ w, Ext b0 w → (∀ p ∈ B, w.heap[p.1]? = some p.2) → D w (xs.getD m default) (ts.getD m default) := fun w he hw => (h.2 w he hw).2.2 m hm
theorem SlNB.at (h : SlNB B enc k D a xs ts) {m : Nat} (hm : m < xs.length) : ∀ w : World, (∀ p ∈ B, w.heap[p.1]? = some p.2) → D w (xs.getD m default) (ts.getD m default) := fun w hw => (h.2 w hw).2.2 m hm
theorem take_zip {α β : Type} {xs : List α} {ts : List β} (n : Nat) : (List.zip xs ts).take n = List.zip (xs.take n) (ts.take n) := List.take_zipWith
theorem drop_zip {α β : Type} {xs : List α} {ts : List β} (n : Nat) : (List.zip xs ts).drop n = List.zip (xs.drop n) (ts.drop n) := List.drop_zipWith
theorem SlN.take {w : World} (h : SlN w enc k D a xs ts) (n : Nat) : SlN w enc k D a (xs.take n) (ts.take n) := by
  refine ⟨by rw [List.length_take, List.length_take, h.1], ?_, fun i hi => ?_⟩
  · rw [← take_zip]
    intro i x hx
    refine h.2.1 i x ?_
    rw [List.getElem?_take] at hx
    split at hx
    · exact hx
    · cases hx
  · rw [List.length_take] at hi
    rw [getD_take' (by omega), getD_take' (by omega)]
    exact h.2.2 i (by omega)
theorem SlN.off {w : World} (h : SlN w enc k D a xs ts) (lo c : Nat) (hc : xs.length ≤ c) : SlN w enc k D (offA a k lo c) (xs.drop lo) (ts.drop lo) := by
  refine ⟨by rw [List.length_drop, List.length_drop, h.1], ?_, fun i hi => ?_⟩
  · rw [← drop_zip]
    exact h.2.1.off lo c (by rw [zip_len h.1]; exact hc)
  · rw [List.length_drop] at hi
    rw [getD_drop', getD_drop']
    exact h.2.2 _ (by omega)
theorem SlNJ.take (h : SlNJ b0 Mk L enc k D a xs ts) (n : Nat) : SlNJ b0 Mk L enc k D a (xs.take n) (ts.take n) := ⟨by rw [List.length_take, List.length_take, h.1], fun w hw => (h.2 w hw).take n⟩
theorem SlNG.take (h : SlNG b0 B enc k D a xs ts) (n : Nat) : SlNG b0 B enc k D a (xs.take n) (ts.take n) := ⟨by rw [List.length_take, List.length_take, h.1], fun w he hw => (h.2 w he hw).take n⟩
theorem SlNB.take (h : SlNB B enc k D a xs ts) (n : Nat) : SlNB B enc k D a (xs.take n) (ts.take n) := ⟨by rw [List.length_take, List.length_take, h.1], fun w hw => (h.2 w hw).take n⟩
theorem SlNJ.off (h : SlNJ b0 Mk L enc k D a xs ts) (lo c : Nat) (hc : xs.length ≤ c) : SlNJ b0 Mk L enc k D (offA a k lo c) (xs.drop lo) (ts.drop lo) := ⟨by rw [List.length_drop, List.length_drop, h.1], fun w hw => (h.2 w hw).off lo c hc⟩
theorem SlNG.off (h : SlNG b0 B enc k D a xs ts) (lo c : Nat) (hc : xs.length ≤ c) : SlNG b0 B enc k D (offA a k lo c) (xs.drop lo) (ts.drop lo) := ⟨by rw [List.length_drop, List.length_drop, h.1], fun w he hw => (h.2 w he hw).off lo c hc⟩
theorem DeepB.nil : DeepB B D ([] : List α) ([] : List β) := ⟨rfl, fun _ _ i hi => by simp at hi⟩
theorem DeepB.mono {B' : Heap} (h : DeepB B D xs ts) (hB : ∀ p ∈ B, p ∈ B' := by intro p hp; repeat (first | exact hp | exact List.mem_append_left _ hp | apply List.mem_append_right | apply List.mem_cons_of_mem)) : DeepB B' D xs ts := ⟨h.1, fun w hw => h.2 w fun p hp => hw p (hB p hp)⟩
theorem DeepB.append {ys : List α} {us : List β} (h : DeepB B D xs ts) (h2 : DeepB B D ys us) : DeepB B D (xs ++ ys) (ts ++ us) := by
  refine ⟨by rw [List.length_append, List.length_append, h.1, h2.1], fun w hw i hi => ?_⟩
  rw [getD_append', getD_append', h.1]
  rw [List.length_append] at hi
  by_cases hc : i < xs.length
  · rw [if_pos hc, if_pos hc]; exact h.2 w hw i hc
  · rw [if_neg hc, if_neg hc]; exact h2.2 w hw _ (by omega)
theorem DeepB.take (h : DeepB B D xs ts) (n : Nat) : DeepB B D (xs.take n) (ts.take n) := by
  refine ⟨by rw [List.length_take, List.length_take, h.1], fun w hw i hi => ?_⟩
  rw [List.length_take] at hi
  rw [getD_take' (by omega), getD_take' (by omega)]
  exact h.2 w hw i (by omega)
theorem DeepB.drop (h : DeepB B D xs ts) (n : Nat) : DeepB B D (xs.drop n) (ts.drop n) := by
  refine ⟨by rw [List.length_drop, List.length_drop, h.1], fun w hw i hi => ?_⟩
  rw [List.length_drop] at hi
  rw [getD_drop', getD_drop']
  exact h.2 w hw _ (by omega)
theorem DeepB.one {x : α} {t : β} (h : ∀ w : World, (∀ p ∈ B, w.heap[p.1]? = some p.2) → D w x t) : DeepB B D [x] [t] := ⟨rfl, fun w hw i hi => by
  have : i = 0 := by simp at hi; omega
  subst this; exact h w hw⟩
theorem DeepB.of (h : SlNB B enc k D a xs ts) : DeepB B D xs ts := ⟨h.1, fun w hw => (h.2 w hw).2.2⟩
theorem OwnB.nj {e : TypeId} {c : Nat} {R : Heap} (hE : EncOk enc k) (h : OwnB enc k e a c B (List.zip xs ts)) (hd : DeepB R D xs ts) (hB : ∀ p ∈ B, p ∈ L := by intro p hp; repeat (first | exact hp | exact List.mem_append_left _ hp | apply List.mem_append_right | apply List.mem_cons_of_mem)) (hR : ∀ p ∈ R, p ∈ L := by intro p hp; repeat (first | exact hp | exact List.mem_append_left _ hp | apply List.mem_append_right | apply List.mem_cons_of_mem)) : SlNJ b0 Mk L enc k D a xs ts :=
  ⟨hd.1, fun w hw => ⟨hd.1, h.sl hE fun p hp => hw.own p (hB p hp), hd.2 w fun p hp => hw.own p (hR p hp)⟩⟩
theorem OwnB.nb {e : TypeId} {c : Nat} {R U : Heap} (hE : EncOk enc k) (h : OwnB enc k e a c B (List.zip xs ts)) (hd : DeepB R D xs ts) (hB : ∀ p ∈ B, p ∈ U := by intro p hp; repeat (first | exact hp | exact List.mem_append_left _ hp | apply List.mem_append_right | apply List.mem_cons_of_mem)) (hR : ∀ p ∈ R, p ∈ U := by intro p hp; repeat (first | exact hp | exact List.mem_append_left _ hp | apply List.mem_append_right | apply List.mem_cons_of_mem)) : SlNB U enc k D a xs ts :=
  ⟨hd.1, fun w hw => ⟨hd.1, h.sl hE fun p hp => hw p (hB p hp), hd.2 w fun p hp => hw p (hR p hp)⟩⟩
end
section
variable {P : Program} {b0 : World} {Mk : List Nat} {N : Nat} {D : List Deferred} {L V : Heap} {E : Env} {ty : TypeId}
theorem MSet.len {κ : Type} {enc : κ → Value} {es : Array MapEntry} {xs : List κ} (h : MSet enc es xs) : es.size = xs.length := by
  have := congrArg List.length h
  simpa using this
theorem q_lenMS {t kt et : TypeId} {x : Operand} {r ck : Nat} {es : Array MapEntry} {κ : Type} {enc : κ → Value} {xs : List κ} (hU : ∀ w, (underlying t).run P w = .ok (.map kt et) w) (hes : MSet enc es xs) (hx : ev E x = some (.map (some r)) := by rfl)
    (hm : (r, Obj.map es ck) ∈ L := by repeat (first | exact List.mem_cons_self | apply List.mem_cons_of_mem | apply List.mem_append_right)) :
    RunQ P N D b0 Mk L E (.call { callee := .builtin .len, args := #[x], argTypes := #[t] }) ty (.int .i64 (xs.length : Int)) := by
  rw [← hes.len]
  exact q_lenM hU hx hm
end
section
variable {P : Program} {rd : Option Nat} {b0 : World} {Mk : List Nat} {N : Nat} {D : List Deferred} {ops : Array Oper} {L V : Heap} {E : Env} {T : Act → World → Prop}
variable {ty : TypeId} {pos : String} {after : Array Edge} {d : Nat}
theorem JO_makeN {α : Type} {enc : α → List Value} {kk by_ n : Nat} {i : Int} {t e : TypeId} {z : Value} {x0 : α} {x y : Operand} {l : List Oper} {n' f' : Nat} {listed : Array Bool} {j : Nat} (hj : l[j]? = some { dst := some d, op := .makeSlice t x y, type := ty, pos := pos, after := after, guard := none }) (hT : Ty P e kk by_ z) (hU : P.underlying t = some (.slice e)) (hE : EncOk enc kk) (hz : cellsL z = enc x0) (hb : by_ * n ≤ 281474976710656 ∧ n ≤ 4611686018427387904) (hx : ev E x = some (.int .i64 i) := by rfl) (hy : ev E y = some (.int .i64 i) := by rfl) (hi : i = (n : Int) := by omega) (hd : Nat.blt d N = true := by rfl)
    (k : ∀ a2 B2, OwnB enc kk e a2 n B2 (List.replicate n x0) → JG P rd b0 Mk N D l n' f' (listed.setIfInBounds j true) (B2 ++ L) V ((d, .slice a2 n n) :: E) T) :
    JO P rd b0 Mk N D l n' f' listed L V E T j :=
  JO_make hj hT hU hE hz hb hx hy hi hd (fun a2 B2 ho => by have h := k a2 B2 ho; rw [List.length_replicate]; exact h)
end
section
variable {P : Program} {b0 : World} {Mk : List Nat} {N : Nat} {D : List Deferred} {L : Heap} {E : Env} {ty : TypeId}
theorem q_idxAg {t e len n : TypeId} {x y : Operand} {k : IntKind} {p : Int} {l cs : List Value} {m : Nat} (hU : ∀ w, (underlying t).run P w = .ok (.array len e) w) (hS : ∀ w, (sizeOf e).run P w = .ok n w) (hA : ∀ w, (isAgg e).run P w = .ok true w) (hx : ev E x = some (.agg l.toArray) := by rfl) (hy : ev E y = some (.int k p) := by rfl) (hi : p = (m : Int) := by rfl) (hm : Nat.blt m len = true := by rfl) (hv : (l.drop (m * n)).take n = cs := by rfl) :
    RunQ P N D b0 Mk L E (.index t x y) ty (.agg cs.toArray) := fun a w ha _ => by
  subst hi
  have hm' : m < len := by simpa [Nat.blt_eq] using hm
  subst hv
  simp [mkO, execOp, ha.eval hx, ha.eval hy, Instr.index, asIntOf, hU, hS, hm', part, hA]
  try rw [List.take_drop]
end
end Go.Proofs.YtopjaeoklkpcpaaGreatDoor.Jd

namespace Go.Proofs.YtopjaeoklkpcpaaGreatDoor.Jd
open Go.RowKit (Below)
set_option linter.unusedVariables false
set_option linter.unusedSimpArgs false
theorem Sl.cmono {w w' : World} {α : Type} {enc : α → List Value} {k : Nat} {a : Option Addr} {xs : List α} (hc : ∀ p v, w.cell? p = some v → w'.cell? p = some v) (h : Sl w enc k a xs) : Sl w' enc k a xs := fun i x hx => by
  obtain ⟨b, off, e, hl, h2⟩ := h i x hx
  exact ⟨b, off, e, hl, fun j v hv => hc _ _ (h2 j v hv)⟩
theorem SlJ.nilj {b0 : World} {Mk : List Nat} {L : Heap} {α : Type} {enc : α → List Value} {k : Nat} {a : Option Addr} : SlJ b0 Mk L enc k a ([] : List α) := fun _ _ => Sl.nil
theorem sk {a : Nat × Obj} {L' L : Heap} (h : List.Sublist L' L) : List.Sublist (a :: L') (a :: L) := h.cons_cons a
theorem sd {a : Nat × Obj} {L' L : Heap} (h : List.Sublist L' L) : List.Sublist L' (a :: L) := h.cons a
theorem sa {A L' L : Heap} (h : List.Sublist L' L) : List.Sublist (A ++ L') (A ++ L) := (List.Sublist.refl A).append h
theorem sx {A L' L : Heap} (h : List.Sublist L' L) : List.Sublist L' (A ++ L) := h.trans (List.sublist_append_right A L)
theorem sz : List.Sublist ([] : Heap) [] := List.nil_sublist _
abbrev vi (n : Int) : Value := .int .i64 n
abbrev vs (a : Option Addr) (n c : Nat) : Value := .slice a n c
abbrev vt (s : Str) : Value := .string (bs s)
abbrev oc (l : List Value) (t : TypeId) : Obj := .cells l.toArray t
theorem nE {L : Heap} : ([] : Heap) ++ L = L := rfl
theorem nC {a : Nat × Obj} {V L X : Heap} (h : V ++ L = X) : (a :: V) ++ L = a :: X := h ▸ rfl
theorem nA {B V L X : Heap} (h : V ++ L = X) : (B ++ V) ++ L = B ++ X := by rw [List.append_assoc, h]
theorem vp {L L2 V L' : Heap} (p : List.Perm L L2) (e : V ++ L' = L2) : List.Perm L (V ++ L') := e ▸ p
theorem eqp {L L' : Heap} (e : L = L') : List.Perm L L' := .of_eq e
theorem mem_app {A B C : Heap} (h1 : ∀ p ∈ A, p ∈ C) (h2 : ∀ p ∈ B, p ∈ C) : ∀ p ∈ A ++ B, p ∈ C := fun p hp => (List.mem_append.1 hp).elim (h1 p) (h2 p)
theorem mem_nil' {C : Heap} : ∀ p ∈ ([] : Heap), p ∈ C := fun p hp => by cases hp
theorem mem_one {r : Nat} {o : Obj} {C : Heap} (h : (r, o) ∈ C) : ∀ p ∈ [(r, o)], p ∈ C := fun p hp => by
  rw [List.mem_singleton] at hp; subst hp; exact h
theorem sh {A C : Heap} (h : ∀ p ∈ A, p ∈ C := by
    (repeat' (first | exact mem_nil' | refine mem_app ?_ ?_ | refine mem_one ?_)) <;>
    first
    | (intro p hp; (repeat (first | exact hp | exact List.mem_append_left _ hp | apply List.mem_append_right | apply List.mem_cons_of_mem)); done)
    | ((repeat (first | exact List.mem_cons_self | apply List.mem_cons_of_mem | apply List.mem_append_right)); done)
    | (intro p hp; simp_all; done)) : ∀ p ∈ A, p ∈ C := h
section
variable {P : Program} {b0 : World} {Mk : List Nat} {N : Nat} {D : List Deferred} {L : Heap} {E : Env} {ty : TypeId}
theorem q_inSetD {κ : Type} [DecidableEq κ] {kd : TypeDesc} {enc : κ → Value} {t kt et : TypeId} {x y : Operand} {r ck : Nat} {es : Array MapEntry} {xs : List κ} (q : κ) [inst : Decidable (q ∈ xs)] (hk : KeyOk kd enc) (hU : ∀ w, (underlying t).run P w = .ok (.map kt et) w) (hK : ∀ w, (underlying kt).run P w = .ok kd w)
    (hz : ∀ w, (zeroValue et).run P w = .ok (.bool false) w) (hes : MSet enc es xs) (hx : ev E x = some (.map (some r)) := by rfl) (hy : ev E y = some (enc q) := by rfl)
    (hm : (r, Obj.map es ck) ∈ L := by repeat (first | exact List.mem_cons_self | apply List.mem_cons_of_mem | apply List.mem_append_right)) :
    RunQ P N D b0 Mk L E (.lookup t x y false) ty (.bool (decide (q ∈ xs))) := by
  have h := q_inSet (P := P) (N := N) (D := D) (b0 := b0) (Mk := Mk) (L := L) (E := E) (ty := ty) (t := t) q hk hU hK hz hes hx hy hm
  have e : ∀ (i1 i2 : Decidable (q ∈ xs)), @decide _ i1 = @decide _ i2 := fun i1 i2 => by congr
  rw [e _ inst] at h
  exact h
end
end Go.Proofs.YtopjaeoklkpcpaaGreatDoor.Jd

namespace Go.Proofs.YtopjaeoklkpcpaaGreatDoor.Jd
set_option linter.unusedVariables false
set_option linter.unusedSimpArgs false
theorem shw {A C : Heap} {w : World} (hw : ∀ p ∈ C, w.heap[p.1]? = some p.2) (h : ∀ p ∈ A, p ∈ C := by exact sh) : ∀ p ∈ A, w.heap[p.1]? = some p.2 := fun p hp => hw p (h p hp)
theorem sho {b0 : World} {Mk : List Nat} {A L : Heap} {w : World} (hw : SH b0 Mk L w) (h : ∀ p ∈ A, p ∈ L := by exact sh) : ∀ p ∈ A, w.heap[p.1]? = some p.2 := fun p hp => hw.own p (h p hp)
end Go.Proofs.YtopjaeoklkpcpaaGreatDoor.Jd

namespace Go.Proofs.YtopjaeoklkpcpaaGreatDoor.Jd
open Go.RowKit (Below)
set_option linter.unusedVariables false
set_option linter.unusedSimpArgs false
section
variable {P : Program} {rd : Option Nat} {b0 : World} {Mk : List Nat} {N : Nat} {D : List Deferred} {ops : Array Oper} {L V : Heap} {C : List (Addr × Value)} {E : Env} {T : Act → World → Prop}
variable {op : Op} {ty : TypeId} {pos : String} {after : Array Edge} {v : Value} {d : Nat}
theorem JK_qV {l : List (Bool × Oper)} (h : RunQ P N D b0 Mk (V ++ L) E op ty v) (hn : notDeferOp op = true := by rfl) (hd : Nat.blt d N = true := by rfl) (k : JK P rd b0 Mk N D ops L V C ((d, v) :: E) l T) :
    JK P rd b0 Mk N D ops L V C E ((false, { dst := some d, op := op, type := ty, pos := pos, after := after, guard := none }) :: l) T := by
  intro a w ha hw hc
  unfold wpS
  rw [if_pos (by rfl)]
  exact wpIn_value (notDefer_mk hn) (by rw [execOp_mkO]; exact h a w ha hw) ⟨_, fun _ h => h, ⟨hw.right, hc⟩, k _ _ (ha.put hd v) hw hc⟩
theorem JK_p {l : List (Bool × Oper)} {f : FuncId} {args : List Value} {R : World → Ending → World → Prop} (hc : RunC P N D b0 Mk L E op ty f args) (h : ∀ w, SH b0 Mk L w → Calls P f args.toArray w (R w)) (hn : notDeferOp op = true := by rfl) (hd : Nat.blt d N = true := by rfl)
    (k : ∀ w e w', SH b0 Mk L w → R w e w' → ∃ v B L', e = .returned v ∧ Fresh w w' B ∧ L' = B ++ L ∧ JK P rd b0 Mk N D ops L' V C ((d, v) :: E) l T) :
    JK P rd b0 Mk N D ops L V C E ((false, { dst := some d, op := op, type := ty, pos := pos, after := after, guard := none }) :: l) T := by
  intro a w ha hw hk
  unfold wpS
  rw [if_pos (by rfl)]
  refine wpIn_enter (notDefer_mk hn) (by rw [execOp_mkO]; exact hc a w ha hw.right) ((h w hw.right).mono fun e w' he => ?_)
  obtain ⟨v, B, L', rfl, h2, rfl, h3⟩ := k w e w' hw.right he
  have h4 := fresh_shV hw h2
  exact ⟨_, rfl, SK b0 Mk (B ++ L) C, fun y hy => ⟨hy.1.right, hy.2⟩, ⟨h4.right, hk.ext h2.1⟩, h3 _ _ (ha.put hd _) h4 (hk.ext h2.1)⟩
end
end Go.Proofs.YtopjaeoklkpcpaaGreatDoor.Jd

namespace Go.Proofs.YtopjaeoklkpcpaaGreatDoor.Jd
open Go.ChangeShapes Go.WideShapes Go.ChangeAt Go.RowKit
set_option linter.unusedVariables false
set_option linter.unusedSimpArgs false
section
variable {H : Type} {encH : TypeId × Value → H} {P : Program} {W : World}
def OpensN {α β : Type} (encH : TypeId × Value → H) (P : Program) (W : World) (e : TypeId) (enc : α × β → List Value) (D : World → α → β → Prop) : Prop :=
  ∀ (n : Nat) (cs : List Value) (y : DataW H × List MemPlace), DataW.trod encH P W 0 (fun _ => true) true n e cs = some y → ∃ x t, cs = enc (x, t) ∧ D W x t
theorem open_slN {α β : Type} [Inhabited α] [Inhabited β] {enc : α × β → List Value} {D : World → α → β → Prop} {k : Nat} {t e : TypeId} {n : Nat} {cs : List Value} {y : DataW H × List MemPlace} (ht : P.underlying t = some (.slice e)) (hk : P.cellsOf e = k) (hE : EncOk enc k) (ho : OpensN encH P W e enc D)
    (h : DataW.trod encH P W 0 (fun _ => true) true n t cs = some y) : ∃ a c, ∃ xs : List α, ∃ ts : List β, cs = [.slice a xs.length c] ∧ xs.length ≤ c ∧ SlN W enc k D a xs ts := by
  obtain ⟨a, c, zs, h1, h2, h3⟩ := open_sl (enc := fun z : {z : α × β // D W z.1 z.2} => enc z.1) ht hk ⟨hE.pos, fun z => hE.len z.1, fun z => hE.one z.1⟩ (fun n cs y h => by
    obtain ⟨x, t, e, hd⟩ := ho n cs y h
    exact ⟨⟨(x, t), hd⟩, e⟩) h
  have hz : List.zip (zs.map fun z => z.1.1) (zs.map fun z => z.1.2) = zs.map fun z => z.1 := List.zip_map'
  refine ⟨a, c, zs.map (fun z => z.1.1), zs.map (fun z => z.1.2), by simpa using h1, by simpa using h2, by simp, ?_, fun i hi => ?_⟩
  · rw [hz]
    intro i x hx
    rw [List.getElem?_map, Option.map_eq_some_iff] at hx
    obtain ⟨z, hz1, rfl⟩ := hx
    exact h3 i z hz1
  · have hi' : i < zs.length := by simpa using hi
    simpa [List.getD, hi'] using (zs[i]).2
def rowD {H : Type} (x : Int × Str × Int) : DataW H := .agg [.lit (.int .i64 x.1), .lit (.string x.2.1), .lit (.int .i64 x.2.2)]
def rowV (x : Int × Str × Int) : List Value := [.int .i64 x.1, .string (bs x.2.1), .int .i64 x.2.2]
theorem trod_row3 {base : Nat} {sp : Nat → Bool} {held : Bool} {fuel : Nat} {e : TypeId} {fs : Array Field} {f0 f1 f2 : Field} {cs : List Value} {x : Int × Str × Int} {ps : List MemPlace} (hs : P.underlying e = some (.struct fs)) (hfs : fs = #[f0, f1, f2]) (hce : P.cellsOf e = 3)
    (o0 : f0.offset = 0) (o1 : f1.offset = 1) (o2 : f2.offset = 2) (t0 : P.underlying f0.type = some (.int .i64)) (t1 : P.underlying f1.type = some .string) (t2 : P.underlying f2.type = some (.int .i64)) (c0 : P.cellsOf f0.type = 1) (c1 : P.cellsOf f1.type = 1) (c2 : P.cellsOf f2.type = 1)
    (h : DataW.trod encH P W base sp held fuel e cs = some (rowD x, ps)) : cs = rowV x := by
  subst hfs
  obtain ⟨xs, m, _, hx, hlen, hxl, hf⟩ := DataW.trod_struct hs h
  have hxl' : xs.length = 3 := by simpa using hxl
  rw [hce] at hlen
  obtain ⟨x0, x1, x2, rfl⟩ : ∃ x0 x1 x2, xs = [x0, x1, x2] := by
    match xs, hxl' with
    | [a, b, c], _ => exact ⟨a, b, c, rfl⟩
  obtain ⟨v0, v1, v2, rfl⟩ : ∃ v0 v1 v2, cs = [v0, v1, v2] := by
    match cs, hlen with
    | [a, b, c], _ => exact ⟨a, b, c, rfl⟩
  have e0 : _ = some x0 := hf 0 f0 rfl
  have e1 : _ = some x1 := hf 1 f1 rfl
  have e2 : _ = some x2 := hf 2 f2 rfl
  rw [o0, c0] at e0
  rw [o1, c1] at e1
  rw [o2, c2] at e2
  obtain ⟨n0, q0, r0, _⟩ := DataW.trod_int t0 e0
  obtain ⟨s1, q1, r1, _⟩ := DataW.trod_string t1 e1
  obtain ⟨n2, q2, r2, _⟩ := DataW.trod_int t2 e2
  have hd := congrArg Prod.fst hx
  simp only [rowD, r0, r1, r2, List.map_cons, List.map_nil, DataW.agg.injEq, List.cons.injEq, DataW.lit.injEq, Lit.int.injEq, Lit.string.injEq, true_and, and_true] at hd
  obtain ⟨d0, d1, d2⟩ := hd
  simp at q0 q1 q2
  rw [q0, q1, q2, ← d0, ← d2, bs_of s1, ← d1]
  rfl
theorem rows_of_head {name : String} {l : List (Int × Str × Int)} {rest : List (String × DataW Unit)} {g : Nat} {t e : TypeId} {n : Nat} {fs : Array Field} {f0 f1 f2 : Field} (hg : P.globalNamed name = some g) (hty : (P.globals[g]?).map (·.type) = some t) (ht : P.underlying t = some (.array n e)) (hs : P.underlying e = some (.struct fs)) (hfs : fs = #[f0, f1, f2]) (hce : P.cellsOf e = 3) (hct : P.cellsOf t = 3 * n)
    (o0 : f0.offset = 0) (o1 : f1.offset = 1) (o2 : f2.offset = 2) (t0 : P.underlying f0.type = some (.int .i64)) (t1 : P.underlying f1.type = some .string) (t2 : P.underlying f2.type = some (.int .i64)) (c0 : P.cellsOf f0.type = 1) (c1 : P.cellsOf f1.type = 1) (c2 : P.cellsOf f2.type = 1) (hl : l.length = n)
    (h : laidMet P ((name, .agg (l.map rowD)) :: rest) W) : W.var? P name = some (l.flatMap rowV).toArray := by
  obtain ⟨ps, ⟨g', t', cs, fuel, p, q, hg', ht', hvar, hd, _, _⟩, _⟩ := h
  obtain rfl := Option.some.inj (hg.symm.trans hg')
  obtain rfl := Option.some.inj (hty.symm.trans ht')
  refine hvar.trans (congrArg some ?_)
  obtain ⟨xs, m, _, hx, hlen, hxl, hf⟩ := DataW.trod_array ht hd
  rw [hct] at hlen
  rw [hce] at hf
  have hdx : xs.map (·.1) = l.map rowD := by
    have := congrArg Prod.fst hx
    simpa using this.symm
  have row : ∀ i (hi : i < n), (cs.toList.drop (i * 3)).take 3 = rowV (l.getD i default) := fun i hi => by
    have h1 := hf i hi
    rw [List.getElem?_eq_getElem (by omega)] at h1
    have h2 : xs[i].1 = rowD (l.getD i default) := by
      have := congrArg (·[i]?) hdx
      simpa [show i < xs.length by omega, show i < l.length by omega, List.getD] using this
    exact trod_row3 hs hfs hce o0 o1 o2 t0 t1 t2 c0 c1 c2 (x := l.getD i default) (ps := xs[i].2) (by rw [h1, ← h2])
  have key : ∀ (l : List (Int × Str × Int)) (cs : List Value), cs.length = 3 * l.length → (∀ i, i < l.length → (cs.drop (i * 3)).take 3 = rowV (l.getD i default)) → cs = l.flatMap rowV := by
    intro l
    induction l with
    | nil => intro cs hc _; simpa using hc
    | cons x r ih =>
      intro cs hc hr
      have h0 := hr 0 (by simp)
      simp at h0
      rw [List.flatMap_cons, ← List.take_append_drop 3 cs, h0]
      congr 1
      refine ih (cs.drop 3) (by simp at hc ⊢; omega) fun i hi => ?_
      have := hr (i + 1) (by simp; omega)
      rw [List.drop_drop, show 3 + i * 3 = (i + 1) * 3 by omega, this]
      simp
  have := key l cs.toList (by rw [hl]; simpa using hlen) (fun i hi => row i (by omega))
  rw [← this]
end
end Go.Proofs.YtopjaeoklkpcpaaGreatDoor.Jd

namespace Go.Proofs.YtopjaeoklkpcpaaGreatDoor.Jd
open Go.ChangeShapes Go.WideShapes Go.ChangeAt Go.RowKit
set_option linter.unusedVariables false
set_option linter.unusedSimpArgs false
theorem laidMet_from {P : Program} (w0 : World) {laid : List (String × DataW Unit)} (args : Array Value)
    (hf : w0.layFits P laid [] = true) (hi : w0.layIfaces P laid (w0.layVars P laid) = true) :
    laidMet P laid ((w0.layVars P laid).forCall (fun _ _ => 0) ⟨#[], args, []⟩).memory := by
  have e1 : (laid.filter fun x => (laid.map (·.1)).contains x.1) = laid := List.filter_eq_self.2 fun x hx => List.contains_iff_mem.2 (List.mem_map.2 ⟨x, hx, rfl⟩)
  have e2 : (laid.filter fun x => !(laid.map (·.1)).contains x.1) = [] := List.filter_eq_nil_iff.2 fun x hx => by rw [List.contains_iff_mem.2 (List.mem_map.2 ⟨x, hx, rfl⟩)]; simp
  have h : laidMet P laid (w0.layVars P laid) := laidMet_layVars (w0 := w0) (laid.map (·.1)) [] (by rw [e1]) (by rw [e1]; exact hf) (by rw [e1]; exact hi) (by rw [e2]; exact LaidIn.none)
  exact h.of_heap (by simp [World.memory, World.forCall, Input.heap])
theorem handle_at {P : Program} {l : List (String × DataW Unit)} {W : World} {n : String} {d : DataW Unit} {g R t ng N : Nat} {nm : List UInt8} (h : handlesMet P l W) (hm : (n, d) ∈ l) (hn : d.handleName? = some nm) (hf : d.funcsIn? = none) (hg : P.globalNamed n = some g)
    (hR : (P.cutTypes.find? (·.1 == "internal/reflectlite.rtype")).map (·.2) = some R) (hN : P.types.size = N) (hone : ((List.range N).filter fun t => P.rowNamed t nm) = [t]) (hh : typeHandle P t = .pointer (some ⟨ng, t, none⟩)) :
    W.cell? ⟨g, 0, none⟩ = some (.iface R (.agg #[.pointer (some ⟨ng, t, none⟩)])) := by
  have h1 := h _ hm
  simp only [hf] at h1
  obtain ⟨name, u, ty, e1, e2, e3, e4, e5⟩ := h1
  rw [hn] at e1
  have en := Option.some.inj e1
  subst en
  obtain rfl := Option.some.inj (hR.symm.trans e2)
  have hmm : ty ∈ (List.range N).filter fun t => P.rowNamed t nm := List.mem_filter.2 ⟨List.mem_range.2 (by rw [← hN]; exact e3), e4⟩
  rw [hone] at hmm
  obtain rfl := List.mem_singleton.1 hmm
  rw [hh] at e5
  simpa using World.var?_cell hg e5 0
end Go.Proofs.YtopjaeoklkpcpaaGreatDoor.Jd

namespace Go.Proofs.YtopjaeoklkpcpaaGreatDoor.Jd
open Go.Proofs
open Go.RowKit (Below)
set_option linter.unusedVariables false
set_option linter.unusedSimpArgs false
/-- What the library's variables hold where a call begins. -/
structure Gl (w : World) : Prop where
  vb : ∃ T f, w.heap[1]? = some (Obj.cells ([(Value.int .i64 (1)), (Value.string (bs ([99, 114, 101, 97, 116, 101] : Str))), (Value.int .i64 (4)), (Value.int .i64 (2)), (Value.string (bs ([115, 117, 115, 112, 101, 110, 100] : Str))), (Value.int .i64 (2)), (Value.int .i64 (3)), (Value.string (bs ([114, 101, 115, 117, 109, 101] : Str))), (Value.int .i64 (2)), (Value.int .i64 (4)), (Value.string (bs ([100, 114, 97, 105, 110] : Str))), (Value.int .i64 (2)), (Value.int .i64 (5)), (Value.string (bs ([100, 101, 108, 101, 116, 101] : Str))), (Value.int .i64 (4)), (Value.int .i64 (6)), (Value.string (bs ([114, 111, 116, 97, 116, 101] : Str))), (Value.int .i64 (4)), (Value.int .i64 (7)), (Value.string (bs ([97, 99, 108] : Str))), (Value.int .i64 (4)), (Value.int .i64 (8)), (Value.string (bs ([107, 105, 108, 108] : Str))), (Value.int .i64 (2)), (Value.int .i64 (9)), (Value.string (bs ([108, 105, 115, 116] : Str))), (Value.int .i64 (1)), (Value.int .i64 (10)), (Value.string (bs ([115, 104, 111, 119] : Str))), (Value.int .i64 (1))]).toArray T f)
  ety : w.cell? ⟨0, 0, none⟩ = some (.iface 199 (.agg #[.pointer (some ⟨6, 78, none⟩)]))
theorem cell_ext2 {w w' : World} (he : Ext w w') {a : Addr} {v : Value} (h : w.cell? a = some v) : w'.cell? a = some v := by
  have hlt := World.block_lt_of_cell? w _ h
  simp only [World.cell?] at h ⊢
  rw [he.block _ hlt]
  exact h
theorem row_ext {w w' : World} (he : Ext w w') {k : Nat} {cs : Array Value} (h : ∃ T f, w.heap[k]? = some (Obj.cells cs T f)) : ∃ T f, w'.heap[k]? = some (Obj.cells cs T f) := by
  obtain ⟨T, f, h⟩ := h
  exact ⟨T, f, by rw [he.block k (Array.getElem?_eq_some_iff.1 h).1]; exact h⟩
theorem Gl.ext {w w' : World} (h : Gl w) (he : Ext w w') : Gl w' := ⟨row_ext he h.vb, cell_ext2 he h.ety⟩
end Go.Proofs.YtopjaeoklkpcpaaGreatDoor.Jd

namespace Go.Proofs.YtopjaeoklkpcpaaGreatDoor.Jd
open Go.Proofs
set_option maxRecDepth 100000
open Go.RowKit Go.Extern.Stop Go.Stop Go.Extern
set_option linter.unusedVariables false
set_option linter.unusedSimpArgs false
theorem isTypeOf (v : Value) (w : World) : (Extern.ReflectliteType.typeOf #[.iface 240 v]).run Tryz.prog w = .ok (.iface 199 (.agg #[.pointer (some ⟨6, 240, none⟩)])) w := by kernel_rfl
theorem isComparable (w : World) : ((Extern.ReflectliteType.method fun t => do Extern.Rtype.noPackHeld "Comparable" t; pure (.bool (← typeInfo t).comparable)) #[.agg #[.pointer (some ⟨6, 240, none⟩)]]).run Tryz.prog w = .ok (.bool true) w := by kernel_rfl
theorem isMethodComparable (v : Value) (w : World) : (Go.method 373 199 v "Comparable").run Tryz.prog w = .ok (205, v) w := by kernel_rfl
theorem isComp : (Tryz.prog.info? 240).map (·.comparable) = some true := by kernel_rfl
theorem isSize : (Tryz.prog.info? 261).map (·.size) = some 1 := by kernel_rfl
theorem noIsE (v : Value) (xT : TypeId) (w : World) : (Instr.typeAssert (.iface 240 v) xT 236 true).run Tryz.prog w = .ok (.tuple #[.nilIface, .bool false]) w := run_typeAssert_lacksB Tryz.underlying236 (by kernel_rfl) (by kernel_rfl) v xT w
theorem noUnwrapE (v : Value) (xT : TypeId) (w : World) : (Instr.typeAssert (.iface 240 v) xT 207 true).run Tryz.prog w = .ok (.tuple #[.nilIface, .bool false]) w := run_typeAssert_lacksB Tryz.underlying207 (by kernel_rfl) (by kernel_rfl) v xT w
theorem noUnwrapsE (v : Value) (xT : TypeId) (w : World) : (Instr.typeAssert (.iface 240 v) xT 208 true).run Tryz.prog w = .ok (.tuple #[.nilIface, .bool false]) w := run_typeAssert_lacksB Tryz.underlying208 (by kernel_rfl) (by kernel_rfl) v xT w
theorem is_same (a : Addr) (w : World) :
    Calls Tryz.prog 176 #[.iface 240 (.pointer (some a)), .iface 240 (.pointer (some a))] w fun e w' => e = .returned (.bool true) ∧ w' = w := by
  obtain ⟨i, hi, hcmp⟩ := Option.map_eq_some_iff.1 isComp
  obtain ⟨j, hj, hjs⟩ := Option.map_eq_some_iff.1 isSize
  have h8 := @run_callFunc_extern Tryz.prog 148 _ Extern.ReflectliteType.typeOf Tryz.func148 (by kernel_rfl) (by kernel_rfl) (by kernel_rfl) (by kernel_rfl)
  have h32 := fun w => (@run_callFunc_extern Tryz.prog 205 _ (Extern.ReflectliteType.method fun t => do Extern.Rtype.noPackHeld "Comparable" t; pure (.bool (← typeInfo t).comparable)) Tryz.func205 (by kernel_rfl) (by kernel_rfl) (by kernel_rfl) (by kernel_rfl) #[.agg #[.pointer (some ⟨6, 240, none⟩)]] w).trans (by rw [isComparable]; rfl : _ = Result.ok (Next.value (.bool true)) w)
  have tT := isTypeOf
  have mR := isMethodComparable
  have heq := run_eql_iface_ptr_same (P := Tryz.prog) w a Tryz.underlying78 Tryz.underlying240 hi hcmp hj
  go_enter Tryz.func176, Tryz.ntmps176
  go_wp2
  refine wp_loop_rounds 1 ?_
  rw [rounds_succ]
  go_wp2
  go_ret
  exact ⟨rfl, rfl⟩
theorem is_other (a b : Addr) (ca cb : Array Value) (ta tb : TypeId) (w : World) (hne : a ≠ b) (ha : w.heap[a.block]? = some (.cells ca ta (0, 0))) (hb : w.heap[b.block]? = some (.cells cb tb (0, 0))) :
    Calls Tryz.prog 176 #[.iface 240 (.pointer (some a)), .iface 240 (.pointer (some b))] w fun e w' => e = .returned (.bool false) ∧ w' = w := by
  obtain ⟨i, hi, hcmp⟩ := Option.map_eq_some_iff.1 isComp
  obtain ⟨j, hj, hjs⟩ := Option.map_eq_some_iff.1 isSize
  have h8 := @run_callFunc_extern Tryz.prog 148 _ Extern.ReflectliteType.typeOf Tryz.func148 (by kernel_rfl) (by kernel_rfl) (by kernel_rfl) (by kernel_rfl)
  have h32 := fun w => (@run_callFunc_extern Tryz.prog 205 _ (Extern.ReflectliteType.method fun t => do Extern.Rtype.noPackHeld "Comparable" t; pure (.bool (← typeInfo t).comparable)) Tryz.func205 (by kernel_rfl) (by kernel_rfl) (by kernel_rfl) (by kernel_rfl) #[.agg #[.pointer (some ⟨6, 240, none⟩)]] w).trans (by rw [isComparable]; rfl : _ = Result.ok (Next.value (.bool true)) w)
  have tT := isTypeOf
  have mR := isMethodComparable
  have nE := noIsE
  have uE := noUnwrapE
  have vE := noUnwrapsE
  have heq := run_eql_iface_ptr_other (P := Tryz.prog) w Tryz.underlying78 Tryz.underlying240 hi hcmp hj (by rw [hjs]; decide) hne ha hb
  go_enter Tryz.func176, Tryz.ntmps176
  go_wp2
  refine wp_loop_rounds 1 ?_
  rw [rounds_succ]
  go_wp2
  go_ret
  exact ⟨rfl, rfl⟩
theorem is_same_v (w : World) {a : Addr} : Val Tryz.prog 176 [.iface 240 (.pointer (some a)), .iface 240 (.pointer (some a))] w (.bool true) :=
  (is_same a w).mono fun e w' ⟨he, hw⟩ => ⟨he, hw ▸ Below.refl _ _⟩
theorem is_other_v (w : World) {a b : Addr} (hne : a ≠ b) (ha : ∃ c t, w.heap[a.block]? = some (.cells c t (0, 0))) (hb : ∃ c t, w.heap[b.block]? = some (.cells c t (0, 0))) : Val Tryz.prog 176 [.iface 240 (.pointer (some a)), .iface 240 (.pointer (some b))] w (.bool false) := by
  obtain ⟨ca, ta, ha⟩ := ha
  obtain ⟨cb, tb, hb⟩ := hb
  exact (is_other a b ca cb ta tb w hne ha hb).mono fun e w' ⟨he, hw⟩ => ⟨he, hw ▸ Below.refl _ _⟩

/-- What the sentinels hold where a call begins. -/
structure Er (w : World) (ea0 ea1 ea2 ea3 : Addr) : Prop where
  v0 : ∃ T f, w.heap[2]? = some (Obj.cells [Value.iface 240 (.pointer (some ea0))].toArray T f)
  b0 : ∃ c t, w.heap[ea0.block]? = some (.cells c t (0, 0))
  v1 : ∃ T f, w.heap[3]? = some (Obj.cells [Value.iface 240 (.pointer (some ea1))].toArray T f)
  b1 : ∃ c t, w.heap[ea1.block]? = some (.cells c t (0, 0))
  v2 : ∃ T f, w.heap[4]? = some (Obj.cells [Value.iface 240 (.pointer (some ea2))].toArray T f)
  b2 : ∃ c t, w.heap[ea2.block]? = some (.cells c t (0, 0))
  v3 : ∃ T f, w.heap[5]? = some (Obj.cells [Value.iface 240 (.pointer (some ea3))].toArray T f)
  b3 : ∃ c t, w.heap[ea3.block]? = some (.cells c t (0, 0))
  n0_1 : ea0 ≠ ea1
  n0_2 : ea0 ≠ ea2
  n0_3 : ea0 ≠ ea3
  n1_0 : ea1 ≠ ea0
  n1_2 : ea1 ≠ ea2
  n1_3 : ea1 ≠ ea3
  n2_0 : ea2 ≠ ea0
  n2_1 : ea2 ≠ ea1
  n2_3 : ea2 ≠ ea3
  n3_0 : ea3 ≠ ea0
  n3_1 : ea3 ≠ ea1
  n3_2 : ea3 ≠ ea2
theorem keep_row {w w' : World} (he : Ext w w') {k : Nat} {ob : Obj} (h : w.heap[k]? = some ob) : w'.heap[k]? = some ob := by rw [he.block k (Array.getElem?_eq_some_iff.1 h).1]; exact h
theorem Er.ext {w w' : World} {ea0 ea1 ea2 ea3 : Addr} (h : Er w ea0 ea1 ea2 ea3) (he : Ext w w') : Er w' ea0 ea1 ea2 ea3 :=
  ⟨h.v0.imp fun T h => h.imp fun f h => keep_row he h, h.b0.imp fun T h => h.imp fun f h => keep_row he h, h.v1.imp fun T h => h.imp fun f h => keep_row he h, h.b1.imp fun T h => h.imp fun f h => keep_row he h, h.v2.imp fun T h => h.imp fun f h => keep_row he h, h.b2.imp fun T h => h.imp fun f h => keep_row he h, h.v3.imp fun T h => h.imp fun f h => keep_row he h, h.b3.imp fun T h => h.imp fun f h => keep_row he h, h.n0_1, h.n0_2, h.n0_3, h.n1_0, h.n1_2, h.n1_3, h.n2_0, h.n2_1, h.n2_3, h.n3_0, h.n3_1, h.n3_2⟩
end Go.Proofs.YtopjaeoklkpcpaaGreatDoor.Jd

namespace Go.Proofs.YtopjaeoklkpcpaaGreatDoor.Jd
open Go.Proofs
open Go.RowKit (Below)
set_option maxRecDepth 100000
set_option maxHeartbeats 8000000
set_option linter.unusedVariables false
set_option linter.unusedSimpArgs false
structure Handle where
  slot : Int
  gen : Int
instance : Inhabited Handle := ⟨⟨default, default⟩⟩
instance : DecidableEq Handle := fun a b => decidable_of_iff (a.slot = b.slot ∧ a.gen = b.gen) ⟨fun h => by cases a; cases b; simp_all, fun h => by subst h; simp⟩
structure Slots where
  gens : List Int
  used : List Bool
  free : List Int
instance : Inhabited Slots := ⟨⟨default, default, default⟩⟩
instance : DecidableEq Slots := fun a b => decidable_of_iff (a.gens = b.gens ∧ a.used = b.used ∧ a.free = b.free) ⟨fun h => by cases a; cases b; simp_all, fun h => by subst h; simp⟩
def sRight_l2 (s : Slots) (x_1 : Nat) (x_6 : Nat) (x_7 : List Int) : Nat → Nat → Int → Nat × Int
  | 0, x_12, x_13 => (x_12, x_13)
  | n_14 + 1, x_12, x_13 => (if ((x_12 : Nat) : Int) < ((s.used.length : Nat) : Int) then (if (s.used.getD x_12 default) = true then (sRight_l2 s x_1 x_6 x_7 n_14 (x_12 + 1) (x_13 - 1)) else (sRight_l2 s x_1 x_6 x_7 n_14 (x_12 + 1) x_13)) else (x_12, x_13))
def sRight_l1 (s : Slots) (x_1 : Nat) : Nat → Nat → List Int → Except Bool (Nat × (List Int))
  | 0, x_6, x_7 => .ok (x_6, x_7)
  | n_8 + 1, x_6, x_7 => (if ((x_6 : Nat) : Int) < ((s.free.length : Nat) : Int) then (if (s.free.getD x_6 default) < 0 then .error false else (if ((s.used.length : Nat) : Int) ≤ (s.free.getD x_6 default) then .error false else (if (s.used.getD (((s.free.getD x_6 default)).toNat) default) = true then .error false else (if (s.free.getD x_6 default) ∈ x_7 then .error false else (sRight_l1 s x_1 n_8 (x_6 + 1) (x_7 ++ [(s.free.getD x_6 default)])))))) else .ok (x_6, x_7))
def sRight_l4 (s : Slots) (x_1 : Nat) (x_19 : Nat) (x_20 : List Int) : Nat → Nat → Int → Nat × Int
  | 0, x_25, x_26 => (x_25, x_26)
  | n_27 + 1, x_25, x_26 => (if ((x_25 : Nat) : Int) < ((s.used.length : Nat) : Int) then (if (s.used.getD x_25 default) = true then (sRight_l4 s x_1 x_19 x_20 n_27 (x_25 + 1) (x_26 - 1)) else (sRight_l4 s x_1 x_19 x_20 n_27 (x_25 + 1) x_26)) else (x_25, x_26))
def sRight_l3 (s : Slots) (x_1 : Nat) : Nat → Nat → List Int → Except Bool (Nat × (List Int))
  | 0, x_19, x_20 => .ok (x_19, x_20)
  | n_21 + 1, x_19, x_20 => (if ((x_19 : Nat) : Int) < ((s.free.length : Nat) : Int) then (if (s.free.getD x_19 default) < 0 then .error false else (if ((s.used.length : Nat) : Int) ≤ (s.free.getD x_19 default) then .error false else (if (s.used.getD (((s.free.getD x_19 default)).toNat) default) = true then .error false else (if (s.free.getD x_19 default) ∈ x_20 then .error false else (sRight_l3 s x_1 n_21 (x_19 + 1) (x_20 ++ [(s.free.getD x_19 default)])))))) else .ok (x_19, x_20))
def sRight_l6 (s : Slots) (x_1 : Nat) (x_32 : Nat) (x_33 : List Int) : Nat → Nat → Int → Nat × Int
  | 0, x_38, x_39 => (x_38, x_39)
  | n_40 + 1, x_38, x_39 => (if ((x_38 : Nat) : Int) < ((s.used.length : Nat) : Int) then (if (s.used.getD x_38 default) = true then (sRight_l6 s x_1 x_32 x_33 n_40 (x_38 + 1) (x_39 - 1)) else (sRight_l6 s x_1 x_32 x_33 n_40 (x_38 + 1) x_39)) else (x_38, x_39))
def sRight_l5 (s : Slots) (x_1 : Nat) : Nat → Nat → List Int → Except Bool (Nat × (List Int))
  | 0, x_32, x_33 => .ok (x_32, x_33)
  | n_34 + 1, x_32, x_33 => (if ((x_32 : Nat) : Int) < ((s.free.length : Nat) : Int) then (if (s.free.getD x_32 default) < 0 then .error false else (if ((s.used.length : Nat) : Int) ≤ (s.free.getD x_32 default) then .error false else (if (s.used.getD (((s.free.getD x_32 default)).toNat) default) = true then .error false else (if (s.free.getD x_32 default) ∈ x_33 then .error false else (sRight_l5 s x_1 n_34 (x_32 + 1) (x_33 ++ [(s.free.getD x_32 default)])))))) else .ok (x_32, x_33))
def sRight_l0 (s : Slots) : Nat → Nat → Except Bool Nat
  | 0, x_1 => .ok (x_1)
  | n_2 + 1, x_1 => (if ((x_1 : Nat) : Int) < ((s.gens.length : Nat) : Int) then (if (s.gens.getD x_1 default) < 0 then .error (if ¬ (¬ (0 ≤ ((x_1 : Nat) : Int))) then false else (outc2 (sRight_l1 s x_1 (s.free.length + 1) 0 ([] : List Int)) (fun r => r) (fun x_6 x_7 => (run2 (sRight_l2 s x_1 x_6 x_7 (s.used.length + 1) 0 ((s.gens.length : Nat) : Int)) (fun x_12 x_13 => (if ¬ (x_13 = ((x_7.length : Nat) : Int)) then false else true)))))) else (if 1000000000 < (s.gens.getD x_1 default) then .error (if ¬ (¬ (0 ≤ ((x_1 : Nat) : Int))) then false else (outc2 (sRight_l3 s x_1 (s.free.length + 1) 0 ([] : List Int)) (fun r => r) (fun x_19 x_20 => (run2 (sRight_l4 s x_1 x_19 x_20 (s.used.length + 1) 0 ((s.gens.length : Nat) : Int)) (fun x_25 x_26 => (if ¬ (x_26 = ((x_20.length : Nat) : Int)) then false else true)))))) else (sRight_l0 s n_2 (x_1 + 1)))) else .ok (x_1))
def sRight (s : Slots) : Bool := (if 1 ≤ ((s.gens.length : Nat) : Int) then (if ((s.gens.length : Nat) : Int) ≤ 64 then (if ¬ (((s.used.length : Nat) : Int) = ((s.gens.length : Nat) : Int)) then false else (outc1 (sRight_l0 s (s.gens.length + 1) 0) (fun r => r) (fun x_1 => (outc2 (sRight_l5 s x_1 (s.free.length + 1) 0 ([] : List Int)) (fun r => r) (fun x_32 x_33 => (run2 (sRight_l6 s x_1 x_32 x_33 (s.used.length + 1) 0 ((s.gens.length : Nat) : Int)) (fun x_38 x_39 => (if ¬ (x_39 = ((x_33.length : Nat) : Int)) then false else true)))))))) else false) else false)
def sAll_l0 (s : Slots) : Nat → Nat → List Handle → Nat × (List Handle)
  | 0, x_1, x_2 => (x_1, x_2)
  | n_3 + 1, x_1, x_2 => (if ((x_1 : Nat) : Int) < ((s.used.length : Nat) : Int) then (if (s.used.getD x_1 default) = true then (sAll_l0 s n_3 (x_1 + 1) (x_2 ++ ([(Handle.mk ((x_1 : Nat) : Int) (s.gens.getD x_1 default))] : List Handle))) else (sAll_l0 s n_3 (x_1 + 1) x_2)) else (x_1, x_2))
def sAll (s : Slots) : List Handle := (if (!(sRight s)) = true then [] else (run2 (sAll_l0 s (s.used.length + 1) 0 []) (fun x_1 x_2 => x_2)))
def sValid_l0 (s : Slots) (h : Handle) : Nat → Nat → Except Bool Nat
  | 0, x_1 => .ok (x_1)
  | n_2 + 1, x_1 => (if ((x_1 : Nat) : Int) < ((((sAll s).length) : Nat) : Int) then (if (((sAll s).getD x_1 default).slot) = h.slot ∧ (((sAll s).getD x_1 default).gen) = h.gen then .error true else (sValid_l0 s h n_2 (x_1 + 1))) else .ok (x_1))
def sValid (s : Slots) (h : Handle) : Bool := (outc1 (sValid_l0 s h (((sAll s).length) + 1) 0) (fun r => r) (fun x_1 => false))
def sTake (s : Slots) : Slots × Handle × Int := (if (!(sRight s)) = true then ((Slots.mk ([]) ([]) ([])), (Handle.mk 0 0), 90) else (if (((((s.free).length) : Nat) : Int) - 1) < 0 then ((Slots.mk ([]) ([]) ([])), (Handle.mk 0 0), 92) else (if (s.gens.getD ((((s.free).getD (((((((s.free).length) : Nat) : Int) - 1)).toNat) default)).toNat) default) = 1000000000 then ((Slots.mk ([]) ([]) ([])), (Handle.mk 0 0), 92) else ((Slots.mk (s.gens.set ((((s.free).getD (((((((s.free).length) : Nat) : Int) - 1)).toNat) default)).toNat) ((s.gens.getD ((((s.free).getD (((((((s.free).length) : Nat) : Int) - 1)).toNat) default)).toNat) default) + 1)) ((s.used).set ((((s.free).getD (((((((s.free).length) : Nat) : Int) - 1)).toNat) default)).toNat) true) ((s.free).take (((((((s.free).length) : Nat) : Int) - 1)).toNat))), (Handle.mk ((s.free).getD (((((((s.free).length) : Nat) : Int) - 1)).toNat) default) ((s.gens.set ((((s.free).getD (((((((s.free).length) : Nat) : Int) - 1)).toNat) default)).toNat) ((s.gens.getD ((((s.free).getD (((((((s.free).length) : Nat) : Int) - 1)).toNat) default)).toNat) default) + 1)).getD ((((s.free).getD (((((((s.free).length) : Nat) : Int) - 1)).toNat) default)).toNat) default)), 0))))
def sGive (s : Slots) (h : Handle) : Slots × Int := (if (!(sRight s)) = true then ((Slots.mk ([]) ([]) ([])), 90) else (if (!(sValid s h)) = true then ((Slots.mk ([]) ([]) ([])), 91) else ((Slots.mk s.gens ((s.used).set ((h.slot).toNat) false) ((s.free) ++ ([h.slot] : List Int))), 0)))
def sNew_l0 (n_ : Int) (x_1 : List Int) (x_2 : List Bool) : Nat → Nat → List Int → Nat × (List Int)
  | 0, x_6, x_7 => (x_6, x_7)
  | n_8 + 1, x_6, x_7 => (if ((x_6 : Nat) : Int) < n_ then (sNew_l0 n_ x_1 x_2 n_8 (x_6 + 1) (x_7 ++ ([((n_ - 1) - ((x_6 : Nat) : Int))] : List Int))) else (x_6, x_7))
def sNew (n_ : Int) : Slots × Int := (if n_ < 1 then ((Slots.mk ([]) ([]) ([])), 2) else (if 64 < n_ then ((Slots.mk ([]) ([]) ([])), 2) else (run2 ((List.replicate ((n_).toNat) (default : Int)), (List.replicate ((n_).toNat) (default : Bool))) (fun x_1 x_2 => (run2 (sNew_l0 n_ x_1 x_2 ((n_ - ((0 : Nat) : Int)).toNat + 1) 0 []) (fun x_6 x_7 => ((Slots.mk x_1 x_2 x_7), 0)))))))
end Go.Proofs.YtopjaeoklkpcpaaGreatDoor.Jd

namespace Go.Proofs.YtopjaeoklkpcpaaGreatDoor.Jd
open Go.Proofs
open Go.RowKit (Below)
set_option maxRecDepth 100000
set_option maxHeartbeats 8000000
set_option linter.unusedVariables false
set_option linter.unusedSimpArgs false
def roSets (r : Int) : Int := (if r = 3 then (orI .i64 (orI .i64 (orI .i64 0 4) 2) 1) else (if r = 2 then (orI .i64 (orI .i64 0 2) 1) else (if r = 1 then (orI .i64 0 1) else 0)))
def roVerbs (n_ : Int) : List Int := (if (andI .i64 (roSets n_) 4) ≠ 0 then (if (andI .i64 (roSets n_) 2) ≠ 0 then (if (andI .i64 (roSets n_) 1) ≠ 0 then (((((((((([1] : List Int) ++ ([2] : List Int)) ++ ([3] : List Int)) ++ ([4] : List Int)) ++ ([5] : List Int)) ++ ([6] : List Int)) ++ ([7] : List Int)) ++ ([8] : List Int)) ++ ([9] : List Int)) ++ ([10] : List Int)) else (((((((([1] : List Int) ++ ([2] : List Int)) ++ ([3] : List Int)) ++ ([4] : List Int)) ++ ([5] : List Int)) ++ ([6] : List Int)) ++ ([7] : List Int)) ++ ([8] : List Int))) else (if (andI .i64 (roSets n_) 1) ≠ 0 then (((((([1] : List Int) ++ ([5] : List Int)) ++ ([6] : List Int)) ++ ([7] : List Int)) ++ ([9] : List Int)) ++ ([10] : List Int)) else (((([1] : List Int) ++ ([5] : List Int)) ++ ([6] : List Int)) ++ ([7] : List Int)))) else (if (andI .i64 (roSets n_) 2) ≠ 0 then (if (andI .i64 (roSets n_) 1) ≠ 0 then (((((([2] : List Int) ++ ([3] : List Int)) ++ ([4] : List Int)) ++ ([8] : List Int)) ++ ([9] : List Int)) ++ ([10] : List Int)) else (((([2] : List Int) ++ ([3] : List Int)) ++ ([4] : List Int)) ++ ([8] : List Int))) else (if (andI .i64 (roSets n_) 1) ≠ 0 then (([9] : List Int) ++ ([10] : List Int)) else [])))
def roMay_l0 (n_ : Int) (v : Int) : Nat → Nat → Except Bool Nat
  | 0, x_1 => .ok (x_1)
  | n_2 + 1, x_1 => (if ((x_1 : Nat) : Int) < ((((roVerbs n_).length) : Nat) : Int) then (if ((roVerbs n_).getD x_1 default) = v then .error true else (roMay_l0 n_ v n_2 (x_1 + 1))) else .ok (x_1))
def roMay (n_ : Int) (v : Int) : Bool := (outc1 (roMay_l0 n_ v (((roVerbs n_).length) + 1) 0) (fun r => r) (fun x_1 => false))
end Go.Proofs.YtopjaeoklkpcpaaGreatDoor.Jd

namespace Go.Proofs.YtopjaeoklkpcpaaGreatDoor.Jd
open Go.Proofs
open Go.RowKit (Below)
set_option maxRecDepth 100000
set_option maxHeartbeats 8000000
set_option linter.unusedVariables false
set_option linter.unusedSimpArgs false
structure Cred where
  id : Int
  key : Str
  frm : Int
  to : Int
instance : Inhabited Cred := ⟨⟨default, default, default, default⟩⟩
instance : DecidableEq Cred := fun a b => decidable_of_iff (a.id = b.id ∧ a.key = b.key ∧ a.frm = b.frm ∧ a.to = b.to) ⟨fun h => by cases a; cases b; simp_all, fun h => by subst h; simp⟩
def mRight (key : Str) : Bool := (if 1 ≤ ((key.length : Nat) : Int) then decide (((key.length : Nat) : Int) ≤ 64) else false)
def cIsIn (n_ : Int) (least : Int) (most : Int) : Bool := (if least ≤ n_ then decide (n_ ≤ most) else false)
def cIsId (c : Cred) : Bool := (cIsIn c.id 1 1000000000)
def cIsKey (c : Cred) : Bool := (mRight c.key)
def cIsSpan (c : Cred) : Bool := (if 0 ≤ c.frm then (if c.frm < c.to then decide (c.to ≤ 1000000000000) else false) else false)
def cRight_l1 (l : List Cred) (x_1 : Nat) (last_2 : Int) (x_3 : List Int) : Nat → Nat → Except Bool Nat
  | 0, x_8 => .ok (x_8)
  | n_9 + 1, x_8 => (if ((x_8 : Nat) : Int) < ((l.length : Nat) : Int) then (if (!(cIsId (l.getD x_8 default))) = true then .error false else (if (!(cIsKey (l.getD x_8 default))) = true then .error false else (if (!(cIsSpan (l.getD x_8 default))) = true then .error false else (cRight_l1 l x_1 last_2 x_3 n_9 (x_8 + 1))))) else .ok (x_8))
def cRight_l0 (l : List Cred) : Nat → Nat → Int → List Int → Except Bool (Nat × Int × (List Int))
  | 0, x_1, last_2, x_3 => .ok (x_1, last_2, x_3)
  | n_4 + 1, x_1, last_2, x_3 => (if ((x_1 : Nat) : Int) < ((l.length : Nat) : Int) then (if ((l.getD x_1 default).id) ∈ x_3 then .error false else (if ((l.getD x_1 default).id) < last_2 then .error false else (cRight_l0 l n_4 (x_1 + 1) ((l.getD x_1 default).id) (x_3 ++ [((l.getD x_1 default).id)])))) else .ok (x_1, last_2, x_3))
def cRight (l : List Cred) : Bool := (outc3 (cRight_l0 l (l.length + 1) 0 0 ([] : List Int)) (fun r => r) (fun x_1 last_2 x_3 => (if ((l.length : Nat) : Int) ≤ 4 then (outc1 (cRight_l1 l x_1 last_2 x_3 (l.length + 1) 0) (fun r => r) (fun x_8 => true)) else false)))
def cRot_l0 (l : List Cred) (key : Str) (now : Int) (overlap : Int) (span : Int) : Nat → Nat → List Cred → Int → Nat × (List Cred) × Int
  | 0, x_1, out_2, x_3 => (x_1, out_2, x_3)
  | n_4 + 1, x_1, out_2, x_3 => (if ((x_1 : Nat) : Int) < ((l.length : Nat) : Int) then (if ((l.getD x_1 default).to) ≤ now then (cRot_l0 l key now overlap span n_4 (x_1 + 1) out_2 (((l.getD x_1 default).id) + 1)) else (if ((l.getD x_1 default).frm) < (if (now + overlap) < ((l.getD x_1 default).to) then (now + overlap) else ((l.getD x_1 default).to)) then (cRot_l0 l key now overlap span n_4 (x_1 + 1) (out_2 ++ ([(Cred.mk ((l.getD x_1 default).id) ((l.getD x_1 default).key) ((l.getD x_1 default).frm) (if (now + overlap) < ((l.getD x_1 default).to) then (now + overlap) else ((l.getD x_1 default).to)))] : List Cred)) (((l.getD x_1 default).id) + 1)) else (cRot_l0 l key now overlap span n_4 (x_1 + 1) out_2 (((l.getD x_1 default).id) + 1)))) else (x_1, out_2, x_3))
def cRot (l : List Cred) (key : Str) (now : Int) (overlap : Int) (span : Int) : (List Cred) × Int × Int := (if (!(cRight l)) = true then ([], 0, 110) else (if (!(mRight key)) = true then ([], 0, 50) else (if (!(cIsIn now 0 1000000000000)) = true then ([], 0, 2) else (if (!(cIsIn overlap 0 1000000000)) = true then ([], 0, 2) else (if (!(cIsIn span 1 1000000000)) = true then ([], 0, 2) else (if 1000000000000 < (now + span) then ([], 0, 2) else (run3 (cRot_l0 l key now overlap span (l.length + 1) 0 [] 1) (fun x_1 out_2 x_3 => (if 4 < ((((out_2 ++ ([(Cred.mk x_3 key now (now + span))] : List Cred)).length) : Nat) : Int) then ([], 0, 92) else (if 1000000000 < x_3 then ([], 0, 92) else ((out_2 ++ ([(Cred.mk x_3 key now (now + span))] : List Cred)), x_3, 0)))))))))))
end Go.Proofs.YtopjaeoklkpcpaaGreatDoor.Jd

namespace Go.Proofs.YtopjaeoklkpcpaaGreatDoor.Jd
open Go.Proofs
open Go.RowKit (Below)
set_option maxRecDepth 100000
set_option linter.unusedVariables false
set_option linter.unusedSimpArgs false
structure Prefix where
  addr : Int
  bits : Int
instance : Inhabited Prefix := ⟨⟨default, default⟩⟩
instance : DecidableEq Prefix := fun a b => decidable_of_iff (a.addr = b.addr ∧ a.bits = b.bits) ⟨fun h => by cases a; cases b; simp_all, fun h => by subst h; simp⟩
def rIsAddr (a : Int) : Bool := (if 0 ≤ a then decide (a ≤ 4294967295) else false)
def isAddr (a : Int) : Bool := (if 0 ≤ a then decide (a ≤ 4294967295) else false)
def rSize (bits : Int) : Int := (shlI .i64 1 (32 - bits))
def rRight (p : Prefix) : Bool := (if 0 ≤ p.bits then (if p.bits ≤ 32 then (if (rIsAddr p.addr) = true then decide ((p.addr % (rSize p.bits)) = 0) else false) else false) else false)
def aRest (p : Prefix) : Int := ((shlI .i64 1 (32 - p.bits)) - 1)
def aShort (p : Prefix) : Bool := (if 0 ≤ p.bits then (if p.bits ≤ 32 then (isAddr p.addr) else false) else false)
def aEven (p : Prefix) : Bool := decide ((andI .i64 p.addr (aRest p)) = 0)
def aRight (p : Prefix) : Bool := (if (!(aShort p)) = true then false else (if (!(aEven p)) = true then false else true))
def aPrint (a : Int) : Str × Int := (if (!(isAddr a)) = true then (([] : Str), 60) else ((Lib.join (((([(Lib.itoa (andI .i64 (shrI .i64 a 24) 255))] : List Str) ++ ([(Lib.itoa (andI .i64 (shrI .i64 a 16) 255))] : List Str)) ++ ([(Lib.itoa (andI .i64 (shrI .i64 a 8) 255))] : List Str)) ++ ([(Lib.itoa (andI .i64 (shrI .i64 a 0) 255))] : List Str)) ([46] : Str)), 0))
def aNumber_l0 (t : Str) (most : Int) : Nat → Int → Nat → Except (Int × Bool) (Int × Nat)
  | 0, n_1, x_2 => .ok (n_1, x_2)
  | n_3 + 1, n_1, x_2 => (if x_2 < t.length then (if (((dec t x_2).1 : Nat) : Int) < 48 then .error (0, false) else (if 57 < (((dec t x_2).1 : Nat) : Int) then .error (0, false) else (if most < n_1 then .error (0, false) else (aNumber_l0 t most n_3 ((n_1 * 10) + ((((dec t x_2).1 : Nat) : Int) - 48)) (x_2 + (dec t x_2).2))))) else .ok (n_1, x_2))
def aNumber (t : Str) (most : Int) : Int × Bool := (outc2 (aNumber_l0 t most (t.length + 1) 0 0) (fun r => r) (fun n_1 x_2 => (if n_1 ≤ most then (n_1, decide ((Lib.itoa n_1) = t)) else (n_1, false))))
def aParse (s : Str) : Int × Int := (if ((aNumber ((Lib.cut s ([46] : Str)).1) 255).2) = true then (if (!((Lib.cut s ([46] : Str)).2.2 == true)) = true then (0, 60) else (if ((aNumber ((Lib.cut ((Lib.cut s ([46] : Str)).2.1) ([46] : Str)).1) 255).2) = true then (if (!((Lib.cut ((Lib.cut s ([46] : Str)).2.1) ([46] : Str)).2.2 == true)) = true then (0, 60) else (if ((aNumber ((Lib.cut ((Lib.cut ((Lib.cut s ([46] : Str)).2.1) ([46] : Str)).2.1) ([46] : Str)).1) 255).2) = true then (if (!((Lib.cut ((Lib.cut ((Lib.cut s ([46] : Str)).2.1) ([46] : Str)).2.1) ([46] : Str)).2.2 == true)) = true then (0, 60) else (if ((aNumber ((Lib.cut ((Lib.cut ((Lib.cut ((Lib.cut s ([46] : Str)).2.1) ([46] : Str)).2.1) ([46] : Str)).2.1) ([46] : Str)).1) 255).2) = true then (if (!((Lib.cut ((Lib.cut ((Lib.cut ((Lib.cut s ([46] : Str)).2.1) ([46] : Str)).2.1) ([46] : Str)).2.1) ([46] : Str)).2.2 == false)) = true then (0, 60) else ((orI .i64 (shlI .i64 (orI .i64 (shlI .i64 (orI .i64 (shlI .i64 (orI .i64 (shlI .i64 0 8) ((aNumber ((Lib.cut s ([46] : Str)).1) 255).1)) 8) ((aNumber ((Lib.cut ((Lib.cut s ([46] : Str)).2.1) ([46] : Str)).1) 255).1)) 8) ((aNumber ((Lib.cut ((Lib.cut ((Lib.cut s ([46] : Str)).2.1) ([46] : Str)).2.1) ([46] : Str)).1) 255).1)) 8) ((aNumber ((Lib.cut ((Lib.cut ((Lib.cut ((Lib.cut s ([46] : Str)).2.1) ([46] : Str)).2.1) ([46] : Str)).2.1) ([46] : Str)).1) 255).1)), 0)) else (0, 60))) else (0, 60))) else (0, 60))) else (0, 60))
def aParsePrefix (s : Str) : Prefix × Int := (if (!((aNumber ((Lib.cut s ([47] : Str)).2.1) 32).2)) = true then ((Prefix.mk 0 0), 61) else (if ((aParse ((Lib.cut s ([47] : Str)).1)).2) ≠ 0 then ((Prefix.mk 0 0), 61) else (if (!(aRight (Prefix.mk ((aParse ((Lib.cut s ([47] : Str)).1)).1) ((aNumber ((Lib.cut s ([47] : Str)).2.1) 32).1)))) = true then ((Prefix.mk 0 0), 61) else ((Prefix.mk ((aParse ((Lib.cut s ([47] : Str)).1)).1) ((aNumber ((Lib.cut s ([47] : Str)).2.1) 32).1)), 0))))
end Go.Proofs.YtopjaeoklkpcpaaGreatDoor.Jd

namespace Go.Proofs.YtopjaeoklkpcpaaGreatDoor.Jd
open Go.Proofs
open Go.RowKit (Below)
set_option maxRecDepth 100000
set_option linter.unusedVariables false
set_option linter.unusedSimpArgs false
structure PortsT where
  lo : Int
  hi : Int
instance : Inhabited PortsT := ⟨⟨default, default⟩⟩
instance : DecidableEq PortsT := fun a b => decidable_of_iff (a.lo = b.lo ∧ a.hi = b.hi) ⟨fun h => by cases a; cases b; simp_all, fun h => by subst h; simp⟩
structure Target where
  addr : Int
  port : Int
instance : Inhabited Target := ⟨⟨default, default⟩⟩
instance : DecidableEq Target := fun a b => decidable_of_iff (a.addr = b.addr ∧ a.port = b.port) ⟨fun h => by cases a; cases b; simp_all, fun h => by subst h; simp⟩
def pRight (p : PortsT) : Bool := (if ¬ (p.lo ≤ p.hi) then false else (if ¬ (0 ≤ p.lo) then false else (if ¬ (p.hi ≤ 65535) then false else true)))
def pPrint (p : PortsT) : Str × Int := (if (!(pRight p)) = true then (([] : Str), 70) else (if p.lo = 0 ∧ p.hi = 65535 then (([42] : Str), 0) else (if p.lo = p.hi then ((Lib.itoa p.lo), 0) else ((((Lib.itoa p.lo) ++ ([45] : Str)) ++ (Lib.itoa p.hi)), 0))))
def pNumber_l0 (t : Str) : Nat → Int → Nat → Except Int (Int × Nat)
  | 0, n_1, x_2 => .ok (n_1, x_2)
  | n_3 + 1, n_1, x_2 => (if x_2 < t.length then (if ((n_1 * 10) + ((((dec t x_2).1 : Nat) : Int) - 48)) < 0 then .error (-1) else (if 65535 < ((n_1 * 10) + ((((dec t x_2).1 : Nat) : Int) - 48)) then .error (-1) else (pNumber_l0 t n_3 ((n_1 * 10) + ((((dec t x_2).1 : Nat) : Int) - 48)) (x_2 + (dec t x_2).2)))) else .ok (n_1, x_2))
def pNumber (t : Str) : Int := (outc2 (pNumber_l0 t (t.length + 1) 0 0) (fun r => r) (fun n_1 x_2 => n_1))
def pParse (s : Str) : PortsT × Int := (if ((pPrint (PortsT.mk 0 65535)).2) = 0 then (if ((pPrint (PortsT.mk 0 65535)).1) = s then ((PortsT.mk 0 65535), 0) else (if ((pPrint (PortsT.mk (pNumber s) (pNumber s))).2) = 0 then (if ((pPrint (PortsT.mk (pNumber s) (pNumber s))).1) = s then ((PortsT.mk (pNumber s) (pNumber s)), 0) else (if ((pPrint (PortsT.mk (pNumber ((Lib.cut s ([45] : Str)).1)) (pNumber ((Lib.cut s ([45] : Str)).2.1)))).2) = 0 then (if ((pPrint (PortsT.mk (pNumber ((Lib.cut s ([45] : Str)).1)) (pNumber ((Lib.cut s ([45] : Str)).2.1)))).1) = s then ((PortsT.mk (pNumber ((Lib.cut s ([45] : Str)).1)) (pNumber ((Lib.cut s ([45] : Str)).2.1))), 0) else ((PortsT.mk 0 0), 70)) else ((PortsT.mk 0 0), 70))) else (if ((pPrint (PortsT.mk (pNumber ((Lib.cut s ([45] : Str)).1)) (pNumber ((Lib.cut s ([45] : Str)).2.1)))).2) = 0 then (if ((pPrint (PortsT.mk (pNumber ((Lib.cut s ([45] : Str)).1)) (pNumber ((Lib.cut s ([45] : Str)).2.1)))).1) = s then ((PortsT.mk (pNumber ((Lib.cut s ([45] : Str)).1)) (pNumber ((Lib.cut s ([45] : Str)).2.1))), 0) else ((PortsT.mk 0 0), 70)) else ((PortsT.mk 0 0), 70)))) else (if ((pPrint (PortsT.mk (pNumber s) (pNumber s))).2) = 0 then (if ((pPrint (PortsT.mk (pNumber s) (pNumber s))).1) = s then ((PortsT.mk (pNumber s) (pNumber s)), 0) else (if ((pPrint (PortsT.mk (pNumber ((Lib.cut s ([45] : Str)).1)) (pNumber ((Lib.cut s ([45] : Str)).2.1)))).2) = 0 then (if ((pPrint (PortsT.mk (pNumber ((Lib.cut s ([45] : Str)).1)) (pNumber ((Lib.cut s ([45] : Str)).2.1)))).1) = s then ((PortsT.mk (pNumber ((Lib.cut s ([45] : Str)).1)) (pNumber ((Lib.cut s ([45] : Str)).2.1))), 0) else ((PortsT.mk 0 0), 70)) else ((PortsT.mk 0 0), 70))) else (if ((pPrint (PortsT.mk (pNumber ((Lib.cut s ([45] : Str)).1)) (pNumber ((Lib.cut s ([45] : Str)).2.1)))).2) = 0 then (if ((pPrint (PortsT.mk (pNumber ((Lib.cut s ([45] : Str)).1)) (pNumber ((Lib.cut s ([45] : Str)).2.1)))).1) = s then ((PortsT.mk (pNumber ((Lib.cut s ([45] : Str)).1)) (pNumber ((Lib.cut s ([45] : Str)).2.1))), 0) else ((PortsT.mk 0 0), 70)) else ((PortsT.mk 0 0), 70))))
def tPrint (t : Target) : Str × Int := (if ((aPrint t.addr).2) ≠ 0 then (([] : Str), 71) else (if t.port < 1 then (([] : Str), 71) else (if 65535 < t.port then (([] : Str), 71) else (((((aPrint t.addr).1) ++ ([58] : Str)) ++ (Lib.itoa t.port)), 0))))
def tParse (s : Str) : Target × Int := (if ((aParse ((Lib.cut s ([58] : Str)).1)).2) ≠ 0 then ((Target.mk 0 0), 71) else (if ((tPrint (Target.mk ((aParse ((Lib.cut s ([58] : Str)).1)).1) (pNumber ((Lib.cut s ([58] : Str)).2.1)))).2) ≠ 0 then ((Target.mk 0 0), 71) else (if ((tPrint (Target.mk ((aParse ((Lib.cut s ([58] : Str)).1)).1) (pNumber ((Lib.cut s ([58] : Str)).2.1)))).1) ≠ s then ((Target.mk 0 0), 71) else ((Target.mk ((aParse ((Lib.cut s ([58] : Str)).1)).1) (pNumber ((Lib.cut s ([58] : Str)).2.1))), 0))))
end Go.Proofs.YtopjaeoklkpcpaaGreatDoor.Jd

namespace Go.Proofs.YtopjaeoklkpcpaaGreatDoor.Jd
open Go.Proofs
open Go.RowKit (Below)
set_option maxRecDepth 100000
set_option maxHeartbeats 8000000
set_option linter.unusedVariables false
set_option linter.unusedSimpArgs false
def wIsPlain_l0 (s : Str) : Nat → Nat → Except Bool Nat
  | 0, x_1 => .ok (x_1)
  | n_2 + 1, x_1 => (if x_1 < s.length then (if (((dec s x_1).1 : Nat) : Int) < 32 then .error false else (if 126 < (((dec s x_1).1 : Nat) : Int) then .error false else (wIsPlain_l0 s n_2 (x_1 + (dec s x_1).2)))) else .ok (x_1))
def wIsPlain (s : Str) : Bool := (outc1 (wIsPlain_l0 s (s.length + 1) 0) (fun r => r) (fun x_1 => true))
structure Rule where
  allow : Bool
  pfx : Prefix
  prt : PortsT
instance : Inhabited Rule := ⟨⟨default, default, default⟩⟩
instance : DecidableEq Rule := fun a b => decidable_of_iff (a.allow = b.allow ∧ a.pfx = b.pfx ∧ a.prt = b.prt) ⟨fun h => by cases a; cases b; simp_all, fun h => by subst h; simp⟩
def aclOne (r : Rule) : Bool := (if (aRight r.pfx) = true then (pRight r.prt) else false)
def aclRight_l0 (l : List Rule) : Nat → Nat → Except Bool Nat
  | 0, x_1 => .ok (x_1)
  | n_2 + 1, x_1 => (if ((x_1 : Nat) : Int) < ((l.length : Nat) : Int) then (if (!(aclOne (l.getD x_1 default))) = true then .error false else (aclRight_l0 l n_2 (x_1 + 1))) else .ok (x_1))
def aclRight (l : List Rule) : Bool := (if ((l.length : Nat) : Int) ≤ 16 then (outc1 (aclRight_l0 l (l.length + 1) 0) (fun r => r) (fun x_1 => true)) else false)
def aclInsert (l : List Rule) (at_ : Int) (r : Rule) : (List Rule) × Int := (if (!(aclRight l)) = true then ([], 81) else (if (!(aclOne r)) = true then ([], 80) else (if at_ < 0 then ([], 82) else (if ((l.length : Nat) : Int) < at_ then ([], 82) else (if 16 ≤ ((l.length : Nat) : Int) then ([], 82) else ((insL (l) at_.toNat r), 0))))))
def aclRemove (l : List Rule) (at_ : Int) : (List Rule) × Int := (if (!(aclRight l)) = true then ([], 81) else (if at_ < 0 then ([], 82) else (if ((l.length : Nat) : Int) ≤ at_ then ([], 82) else ((delL (l) at_.toNat (at_ + 1).toNat), 0))))
def lFew8 (l : List Rule) : List Rule := (l.take (min l.length 18))
end Go.Proofs.YtopjaeoklkpcpaaGreatDoor.Jd

namespace Go.Proofs.YtopjaeoklkpcpaaGreatDoor.Jd
open Go.Proofs
open Go.RowKit (Below)
set_option maxRecDepth 100000
set_option maxHeartbeats 8000000
set_option linter.unusedVariables false
set_option linter.unusedSimpArgs false
def wRight (s : Str) : Bool := (if ((s.length : Nat) : Int) ≤ 64 then (wIsPlain s) else false)
end Go.Proofs.YtopjaeoklkpcpaaGreatDoor.Jd

namespace Go.Proofs.YtopjaeoklkpcpaaGreatDoor.Jd
open Go.Proofs
open Go.RowKit (Below)
set_option maxRecDepth 100000
set_option maxHeartbeats 8000000
set_option linter.unusedVariables false
set_option linter.unusedSimpArgs false
structure Tenant where
  handle : Handle
  name : Str
  state : Int
  version : Int
  rules : List Rule
  creds : List Cred
  deadline : Int
instance : Inhabited Tenant := ⟨⟨default, default, default, default, default, default, default⟩⟩
instance : DecidableEq Tenant := fun a b => decidable_of_iff (a.handle = b.handle ∧ a.name = b.name ∧ a.state = b.state ∧ a.version = b.version ∧ a.rules = b.rules ∧ a.creds = b.creds ∧ a.deadline = b.deadline) ⟨fun h => by cases a; cases b; simp_all, fun h => by subst h; simp⟩
structure Registry where
  slots : Slots
  l : List Tenant
  seq : Int
instance : Inhabited Registry := ⟨⟨default, default, default⟩⟩
instance : DecidableEq Registry := fun a b => decidable_of_iff (a.slots = b.slots ∧ a.l = b.l ∧ a.seq = b.seq) ⟨fun h => by cases a; cases b; simp_all, fun h => by subst h; simp⟩
structure Command where
  verb : Int
  name : Str
  want : Int
  at_ : Int
  rule : Rule
  key : Str
  n : Int
  m : Int
instance : Inhabited Command := ⟨⟨default, default, default, default, default, default, default, default⟩⟩
instance : DecidableEq Command := fun a b => decidable_of_iff (a.verb = b.verb ∧ a.name = b.name ∧ a.want = b.want ∧ a.at_ = b.at_ ∧ a.rule = b.rule ∧ a.key = b.key ∧ a.n = b.n ∧ a.m = b.m) ⟨fun h => by cases a; cases b; simp_all, fun h => by subst h; simp⟩
structure Reply where
  err : Int
  seq : Int
  handle : Handle
  version : Int
  state : Int
instance : Inhabited Reply := ⟨⟨default, default, default, default, default⟩⟩
instance : DecidableEq Reply := fun a b => decidable_of_iff (a.err = b.err ∧ a.seq = b.seq ∧ a.handle = b.handle ∧ a.version = b.version ∧ a.state = b.state) ⟨fun h => by cases a; cases b; simp_all, fun h => by subst h; simp⟩
/-- Where a tenant's two slices lie. -/
structure TA where
  ra : Option Addr
  rc : Nat
  ca : Option Addr
  cc : Nat
instance : Inhabited TA := ⟨⟨none, 0, none, 0⟩⟩
def Small (l : List Tenant) : Prop := ∀ i, i < l.length → (l.getD i default).rules.length ≤ 1000 ∧ (l.getD i default).creds.length ≤ 1000
def gIsName (s : Str) : Bool := (if s ≠ ([] : Str) then (if ((s.length : Nat) : Int) ≤ 40 then (wRight s) else false) else false)
def gIsCounted (t : (Tenant × Int)) : Bool := (if 1 ≤ t.1.version then decide (t.1.version ≤ t.2) else false)
def gIsInState (t : (Tenant × Int)) : Bool := (if 1 ≤ t.1.state then (if t.1.state ≤ 3 then (if 0 ≤ t.1.deadline then (if t.1.deadline ≤ 1000000000000 then (if t.1.deadline = 0 then true else decide (t.1.state = 3)) else false) else false) else false) else false)
def gIsWhole (t : (Tenant × Int)) : Bool := (if (gIsName t.1.name) = true then (if (aclRight t.1.rules) = true then (cRight t.1.creds) else false) else false)
def gPlace_l0 (r : Registry) (name : Str) : Nat → Nat → Except (Int × Bool) Nat
  | 0, x_1 => .ok (x_1)
  | n_2 + 1, x_1 => (if ((x_1 : Nat) : Int) < ((r.l.length : Nat) : Int) then (if ((r.l.getD x_1 default).name) = name then .error (((x_1 : Nat) : Int), true) else (gPlace_l0 r name n_2 (x_1 + 1))) else .ok (x_1))
def gPlace (r : Registry) (name : Str) : Int × Bool := (outc1 (gPlace_l0 r name (r.l.length + 1) 0) (fun r => r) (fun x_1 => (0, false)))
def gRight_l0 (r : Registry) : Nat → Nat → List Str → Except Bool (Nat × (List Str))
  | 0, x_1, x_2 => .ok (x_1, x_2)
  | n_3 + 1, x_1, x_2 => (if ((x_1 : Nat) : Int) < ((r.l.length : Nat) : Int) then (if ¬ (((r.l.getD x_1 default).handle.slot) = (((sAll r.slots).getD x_1 default).slot) ∧ ((r.l.getD x_1 default).handle.gen) = (((sAll r.slots).getD x_1 default).gen)) then .error false else (if ((r.l.getD x_1 default).name) ∈ x_2 then .error false else (if (!(gIsCounted ((r.l.getD x_1 default), r.seq))) = true then .error false else (if (!(gIsInState ((r.l.getD x_1 default), r.seq))) = true then .error false else (if (!(gIsWhole ((r.l.getD x_1 default), r.seq))) = true then .error false else (gRight_l0 r n_3 (x_1 + 1) (x_2 ++ [((r.l.getD x_1 default).name)]))))))) else .ok (x_1, x_2))
def gRight (r : Registry) : Bool := (if (!(sRight r.slots)) = true then false else (if r.seq < 0 then false else (if 1000000000000 < r.seq then false else (if ((((sAll r.slots).length) : Nat) : Int) ≠ ((r.l.length : Nat) : Int) then false else (outc2 (gRight_l0 r (r.l.length + 1) 0 ([] : List Str)) (fun r => r) (fun x_1 x_2 => true))))))
end Go.Proofs.YtopjaeoklkpcpaaGreatDoor.Jd

namespace Go.Proofs.YtopjaeoklkpcpaaGreatDoor.Jd
set_option linter.unusedVariables false
set_option linter.unusedSimpArgs false
theorem drop_getD {α : Type} [Inhabited α] (l : List α) (k : Nat) (h : k < l.length) : l.drop k = l.getD k default :: l.drop (k + 1) := by
  rw [List.drop_eq_getElem_cons h]
  simp [List.getD, h]
theorem drop_none {α : Type} (l : List α) (k : Nat) (h : ¬ k < l.length) : l.drop k = [] := List.drop_of_length_le (by omega)
theorem cIsIn_iff {n a b : Int} : cIsIn n a b = true ↔ a ≤ n ∧ n ≤ b := by
  unfold cIsIn
  split <;> simp <;> omega
theorem cIsIn_t {n a b : Int} (h : cIsIn n a b = true) : a ≤ n ∧ n ≤ b := cIsIn_iff.1 h
theorem mRight_iff {key : Str} : mRight key = true ↔ 1 ≤ key.length ∧ key.length ≤ 64 := by
  unfold mRight
  split <;> simp <;> omega
def GoodC (c : Cred) : Prop := (1 ≤ c.id ∧ c.id ≤ 1000000000) ∧ (1 ≤ c.key.length ∧ c.key.length ≤ 64) ∧ 0 ≤ c.frm ∧ c.frm < c.to ∧ c.to ≤ 1000000000000
theorem cIs_iff {c : Cred} : (cIsId c && cIsKey c && cIsSpan c) = true ↔ GoodC c := by
  unfold cIsId cIsKey cIsSpan GoodC
  rw [Bool.and_eq_true, Bool.and_eq_true, cIsIn_iff, mRight_iff]
  constructor
  · rintro ⟨⟨h1, h2⟩, h3⟩
    refine ⟨h1, h2, ?_⟩
    split at h3
    · split at h3
      · exact ⟨‹_›, ‹_›, by simpa using h3⟩
      · cases h3
    · cases h3
  · rintro ⟨h1, h2, h3, h4, h5⟩
    exact ⟨⟨h1, h2⟩, by rw [if_pos h3, if_pos h4]; simpa using h5⟩
def RightL (l : List Cred) : Prop := l.length ≤ 4 ∧ (∀ c ∈ l, GoodC c) ∧ l.Pairwise fun a b => a.id < b.id
theorem cRight_l1_eq (l : List Cred) (a : Nat) (b : Int) (c : List Int) : ∀ n k, l.length < n + k → outc1 (cRight_l1 l a b c n k) (fun r => r) (fun _ => true) = (l.drop k).all fun c => cIsId c && cIsKey c && cIsSpan c
  | 0, k, h => by
    rw [drop_none l k (by omega)]
    rfl
  | n + 1, k, h => by
    rw [cRight_l1]
    by_cases hk : k < l.length
    · rw [if_pos (by omega), drop_getD l k hk, List.all_cons]
      cases h1 : cIsId (l.getD k default)
      · simp [outc1]
      · cases h2 : cIsKey (l.getD k default)
        · simp [outc1]
        · cases h3 : cIsSpan (l.getD k default)
          · simp [outc1]
          · simpa using cRight_l1_eq l a b c n (k + 1) (by omega)
    · rw [if_neg (by omega), drop_none l k hk]
      rfl
def chkIds : Int → List Int → List Cred → Bool
  | _, _, [] => true
  | last, seen, c :: r => if c.id ∈ seen then false else if c.id < last then false else chkIds c.id (seen ++ [c.id]) r
theorem cRight_l0_eq (l : List Cred) (B : Nat → Int → List Int → Bool) (b : Bool) (hB : ∀ x y z, B x y z = b) : ∀ n k last seen, l.length < n + k → outc3 (cRight_l0 l n k last seen) (fun r => r) B = (chkIds last seen (l.drop k) && b)
  | 0, k, last, seen, h => by
    rw [drop_none l k (by omega)]
    simp [cRight_l0, outc3, chkIds, hB]
  | n + 1, k, last, seen, h => by
    rw [cRight_l0]
    by_cases hk : k < l.length
    · rw [if_pos (by omega), drop_getD l k hk, chkIds]
      by_cases h1 : (l.getD k default).id ∈ seen
      · rw [if_pos h1, if_pos h1]; simp [outc3]
      · rw [if_neg h1, if_neg h1]
        by_cases h2 : (l.getD k default).id < last
        · rw [if_pos h2, if_pos h2]; simp [outc3]
        · rw [if_neg h2, if_neg h2]
          exact cRight_l0_eq l B b hB n (k + 1) _ _ (by omega)
    · rw [if_neg (by omega), drop_none l k hk]
      simp [outc3, chkIds, hB]
theorem chkIds_iff : ∀ (xs : List Cred) (last : Int) (seen : List Int), (∀ s ∈ seen, s ≤ last) → (chkIds last seen xs = true ↔ (∀ c ∈ xs, last ≤ c.id ∧ c.id ∉ seen) ∧ xs.Pairwise fun a b => a.id < b.id)
  | [], last, seen, _ => by simp [chkIds]
  | c :: r, last, seen, hs => by
    rw [chkIds]
    by_cases h1 : c.id ∈ seen
    · rw [if_pos h1]
      exact ⟨nofun, fun ⟨h, _⟩ => absurd h1 (h c List.mem_cons_self).2⟩
    · rw [if_neg h1]
      by_cases h2 : c.id < last
      · rw [if_pos h2]
        exact ⟨nofun, fun ⟨h, _⟩ => by have := (h c List.mem_cons_self).1; omega⟩
      · rw [if_neg h2, chkIds_iff r c.id (seen ++ [c.id]) (fun s hm => by
          rcases List.mem_append.1 hm with hm | hm
          · have := hs s hm; omega
          · have : s = c.id := by simpa using hm
            omega), List.pairwise_cons]
        constructor
        · rintro ⟨g1, g2⟩
          have g3 : ∀ d ∈ r, c.id < d.id := fun d hd => by
            obtain ⟨a1, a2⟩ := g1 d hd
            have : d.id ≠ c.id := fun e => a2 (by simp [e])
            omega
          refine ⟨fun d hd => ?_, g3, g2⟩
          rcases List.mem_cons.1 hd with rfl | hd
          · exact ⟨by omega, h1⟩
          · obtain ⟨a1, a2⟩ := g1 d hd
            exact ⟨by omega, fun hm => a2 (List.mem_append_left _ hm)⟩
        · rintro ⟨g1, g2, g3⟩
          refine ⟨fun d hd => ?_, g3⟩
          have := g2 d hd
          refine ⟨by omega, fun hm => ?_⟩
          rcases List.mem_append.1 hm with hm | hm
          · have := hs _ hm; omega
          · have : d.id = c.id := by simpa using hm
            omega
theorem cRight_iff {l : List Cred} : cRight l = true ↔ RightL l := by
  unfold cRight RightL
  rw [cRight_l0_eq l _ (decide (((l.length : Nat) : Int) ≤ 4) && l.all fun c => cIsId c && cIsKey c && cIsSpan c) (fun x y z => by
    by_cases h : ((l.length : Nat) : Int) ≤ 4
    · rw [if_pos h, cRight_l1_eq l x y z _ _ (by omega)]
      simp [h]
    · rw [if_neg h]; simp [h]) _ _ _ _ (by omega)]
  rw [List.drop_zero, Bool.and_eq_true, Bool.and_eq_true, chkIds_iff l 0 [] (by simp), List.all_eq_true, decide_eq_true_eq]
  constructor
  · rintro ⟨⟨_, h2⟩, h3, h4⟩
    exact ⟨by omega, fun c hc => cIs_iff.1 (h4 c hc), h2⟩
  · rintro ⟨h1, h2, h3⟩
    exact ⟨⟨fun c hc => ⟨by have := (h2 c hc).1; omega, by simp⟩, h3⟩, by omega, fun c hc => cIs_iff.2 (h2 c hc)⟩
def RightC (l : List Cred) : Prop := ∀ k : Nat, 0 ≤ (l.getD k default).id ∧ (l.getD k default).id ≤ 1000000000
theorem RightC.id {l : List Cred} (h : RightC l) (k : Nat) : 0 ≤ (l.getD k default).id ∧ (l.getD k default).id ≤ 1000000000 := h k
theorem getD_mem_or {α : Type} [Inhabited α] (l : List α) (k : Nat) : l.getD k default ∈ l ∨ l.getD k default = default := by
  by_cases h : k < l.length
  · left; simp [List.getD, h]
  · right; simp [List.getD, h]
theorem cRight_t {l : List Cred} (h : cRight l = true) : RightC l := fun k => by
  obtain ⟨_, h2, _⟩ := cRight_iff.1 h
  rcases getD_mem_or l k with hm | hm
  · have := (h2 _ hm).1; omega
  · rw [hm]
    show 0 ≤ (0 : Int) ∧ (0 : Int) ≤ _
    omega
theorem cRot_l0_id {l : List Cred} (hl : RightC l) (key : Str) (now overlap span : Int) : ∀ n k out id, 0 ≤ id → 0 ≤ (cRot_l0 l key now overlap span n k out id).2.2
  | 0, k, out, id, h => h
  | n + 1, k, out, id, h => by
    have := hl.id k
    rw [cRot_l0]
    repeat' split
    all_goals first | exact h | exact cRot_l0_id hl key now overlap span n _ _ _ (by omega)
theorem cRot_bd (l : List Cred) (key : Str) (now overlap span : Int) : (cRot l key now overlap span).2.2 = 0 → (0 ≤ now ∧ now ≤ 1000000000000) ∧ (0 ≤ overlap ∧ overlap ≤ 1000000000) ∧ (1 ≤ span ∧ span ≤ 1000000000) ∧ now + span ≤ 1000000000000 ∧ 0 ≤ (cRot l key now overlap span).2.1 ∧ (cRot l key now overlap span).2.1 ≤ 1000000000 := by
  unfold cRot
  cases h1 : cRight l
  · simp
  · have hid := cRot_l0_id (cRight_t h1) key now overlap span (l.length + 1) 0 [] 1 (by omega)
    cases h2 : mRight key
    · simp
    · cases h3 : cIsIn now 0 1000000000000
      · simp
      · cases h4 : cIsIn overlap 0 1000000000
        · simp
        · cases h5 : cIsIn span 1 1000000000
          · simp
          · intro h
            have g3 := cIsIn_iff.1 h3
            have g4 := cIsIn_iff.1 h4
            have g5 := cIsIn_iff.1 h5
            simp only [run3, Bool.not_true, Bool.false_eq_true, if_false] at h ⊢
            generalize cRot_l0 l key now overlap span (l.length + 1) 0 [] 1 = q at h hid ⊢
            by_cases h6 : 1000000000000 < now + span
            · simp [h6] at h
            · rw [if_neg h6] at h ⊢
              split at h
              · simp at h
              · split at h
                · simp at h
                · rename_i g7 g8
                  rw [if_neg g7, if_neg g8]
                  exact ⟨g3, g4, g5, by omega, hid, Int.not_lt.1 g8⟩
end Go.Proofs.YtopjaeoklkpcpaaGreatDoor.Jd

namespace Go.Proofs.YtopjaeoklkpcpaaGreatDoor.Jd
set_option linter.unusedVariables false
set_option linter.unusedSimpArgs false
theorem isAddr_t {a : Int} (h : isAddr a = true) : 0 ≤ a ∧ a ≤ 4294967295 := by
  unfold isAddr at h; split at h
  · exact ⟨‹_›, by simpa using h⟩
  · cases h
theorem rSize_pow {bits : Int} (h : 0 ≤ bits ∧ bits ≤ 32) : rSize bits = 2 ^ (32 - bits).toNat := by
  obtain ⟨n, hn⟩ : ∃ n : Nat, bits = 32 - (n : Int) := ⟨(32 - bits).toNat, by omega⟩
  have h1 : (32 - bits).toNat = n := by omega
  have h2 : n ≤ 32 := by omega
  unfold rSize shlI
  rw [h1, show min n IntKind.i64.bits = n from by show min n 64 = n; omega, Int.one_mul]
  apply wrap_i64
  have h3 : (2 : Int) ^ n ≤ 2 ^ 32 := pow_mono h2
  have h4 : (0 : Int) < 2 ^ n := Int.pow_pos (by omega)
  omega
theorem rSize_bd {bits : Int} (h : 0 ≤ bits ∧ bits ≤ 32) : 1 ≤ rSize bits ∧ rSize bits ≤ 4294967296 := by
  rw [rSize_pow h]
  have h3 : (2 : Int) ^ (32 - bits).toNat ≤ 2 ^ 32 := pow_mono (by omega)
  have h4 : (0 : Int) < 2 ^ (32 - bits).toNat := Int.pow_pos (by omega)
  omega
theorem aShort_t {p : Prefix} (h : aShort p = true) : 0 ≤ p.bits ∧ p.bits ≤ 32 ∧ 0 ≤ p.addr ∧ p.addr ≤ 4294967295 := by
  unfold aShort at h
  split at h
  · split at h
    · have := isAddr_t h; omega
    · cases h
  · cases h
theorem aRight_t {p : Prefix} (h : aRight p = true) : 0 ≤ p.bits ∧ p.bits ≤ 32 ∧ 0 ≤ p.addr ∧ p.addr ≤ 4294967295 := by
  apply aShort_t
  unfold aRight at h
  cases hs : aShort p
  · simp [hs] at h
  · rfl
end Go.Proofs.YtopjaeoklkpcpaaGreatDoor.Jd

namespace Go.Proofs.YtopjaeoklkpcpaaGreatDoor.Jd
set_option linter.unusedVariables false
set_option linter.unusedSimpArgs false
def Good (p : Prefix) : Prop := (0 ≤ p.bits ∧ p.bits ≤ 32) ∧ (0 ≤ p.addr ∧ p.addr ≤ 4294967295) ∧ p.addr % rSize p.bits = 0
theorem Good.size {p : Prefix} (h : Good p) : 1 ≤ rSize p.bits ∧ rSize p.bits ≤ 4294967296 := rSize_bd h.1
def decF : Nat → Nat → Str
  | 0, _ => []
  | f + 1, u => if u < 10 then [UInt8.ofNat (48 + u)] else decF f (u / 10) ++ [UInt8.ofNat (48 + u % 10)]
theorem decF_eq : ∀ (f u : Nat), u < f → decF f u = Lib.decDigits u
  | 0, u, h => by omega
  | f + 1, u, h => by
    rw [Lib.decDigits]
    unfold decF
    split
    · rfl
    · rw [decF_eq f (u / 10) (by omega)]
def itoaF (n : Int) : Str := if n < 0 then 45 :: decF (n.natAbs + 1) n.natAbs else decF (n.toNat + 1) n.toNat
theorem itoaF_eq : Lib.itoa = itoaF := by
  funext n
  unfold Lib.itoa itoaF
  rw [decF_eq _ _ (by omega), decF_eq _ _ (by omega)]
def aNumberF (t : Str) (most : Int) : Int × Bool := outc2 (aNumber_l0 t most (t.length + 1) 0 0) (fun r => r) (fun a _ => if a ≤ most then (a, decide (itoaF a = t)) else (a, false))
theorem aNumberF_eq : aNumber = aNumberF := by
  funext t most
  unfold aNumber aNumberF
  rw [itoaF_eq]
end Go.Proofs.YtopjaeoklkpcpaaGreatDoor.Jd

namespace Go.Proofs.YtopjaeoklkpcpaaGreatDoor.Jd
set_option linter.unusedVariables false
set_option linter.unusedSimpArgs false
theorem e1 : aParsePrefix [49, 48, 46, 49, 46, 48, 46, 48, 47, 49, 54] = (⟨167837696, 16⟩, 0) := by unfold aParsePrefix aParse; rw [aNumberF_eq]; kernel_rfl
theorem e2 : aParse [49, 48, 46, 49, 46, 50, 46, 51] = (167838211, 0) := by unfold aParse; rw [aNumberF_eq]; kernel_rfl
theorem e3 : aParse [49, 48, 46, 50, 46, 48, 46, 48] = (167903232, 0) := by unfold aParse; rw [aNumberF_eq]; kernel_rfl
theorem e4 : aPrint 167903231 = ([49, 48, 46, 49, 46, 50, 53, 53, 46, 50, 53, 53], 0) := by unfold aPrint; rw [itoaF_eq]; kernel_rfl
theorem e5 : aParse [49, 46, 50, 46, 51, 46, 48, 52] = (0, 60) := by unfold aParse; rw [aNumberF_eq]; kernel_rfl
theorem e6 : aParsePrefix [49, 48, 46, 49, 46, 48, 46, 49, 47, 49, 54] = (⟨0, 0⟩, 61) := by unfold aParsePrefix aParse; rw [aNumberF_eq]; kernel_rfl
end Go.Proofs.YtopjaeoklkpcpaaGreatDoor.Jd

namespace Go.Proofs.YtopjaeoklkpcpaaGreatDoor.Jd
set_option linter.unusedVariables false
set_option linter.unusedSimpArgs false
theorem q1 : pParse [56, 48, 45, 57, 48] = (⟨80, 90⟩, 0) := by unfold pParse pPrint; rw [itoaF_eq]; kernel_rfl
theorem q2 : pParse [42] = (⟨0, 65535⟩, 0) := by unfold pParse pPrint; rw [itoaF_eq]; kernel_rfl
theorem q3 : tParse [49, 46, 50, 46, 51, 46, 52, 58, 56, 48] = (⟨16909060, 80⟩, 0) := by unfold tParse tPrint aParse aPrint; rw [aNumberF_eq, itoaF_eq]; kernel_rfl
theorem q4 : tPrint ⟨16909060, 80⟩ = ([49, 46, 50, 46, 51, 46, 52, 58, 56, 48], 0) := by unfold tPrint aPrint; rw [itoaF_eq]; kernel_rfl
theorem q5 : pParse [56, 48, 45, 56, 48] = (⟨0, 0⟩, 70) := by unfold pParse pPrint; rw [itoaF_eq]; kernel_rfl
theorem q6 : tParse [49, 46, 50, 46, 51, 46, 52, 58, 48] = (⟨0, 0⟩, 71) := by unfold tParse tPrint aParse aPrint; rw [aNumberF_eq, itoaF_eq]; kernel_rfl
end Go.Proofs.YtopjaeoklkpcpaaGreatDoor.Jd

namespace Go.Proofs.YtopjaeoklkpcpaaGreatDoor.Jd
set_option linter.unusedVariables false
set_option linter.unusedSimpArgs false
def one (s : Str) : PortsT := ⟨pNumber s, pNumber s⟩
end Go.Proofs.YtopjaeoklkpcpaaGreatDoor.Jd

namespace Go.Proofs.YtopjaeoklkpcpaaGreatDoor.Jd
open Go.Proofs
set_option maxRecDepth 100000
open Go.RowKit Go.Extern.Stop Go.Stop Go.Extern
set_option linter.unusedVariables false
set_option linter.unusedSimpArgs false
theorem as_nil (t : Value) (w : World) : Calls Tryz.prog 76 #[.nilIface, t] w fun e w' => e = .returned (.bool false) ∧ w' = w := by
  go_enter Tryz.func76, Tryz.ntmps76
  go_wp2
  go_ret
  exact ⟨rfl, rfl⟩
theorem as_nil_v (w : World) {t : Value} : Val Tryz.prog 76 [.nilIface, t] w (.bool false) :=
  (as_nil t w).mono fun e w' ⟨he, hw⟩ => ⟨he, hw ▸ Below.refl _ _⟩
theorem as_valueOfP (t : Addr) (w : World) : (ReflectliteValue.unpack (.iface 219 (.pointer (some t)))).run Tryz.prog w
    = .ok (.agg #[.pointer (some ⟨6, 219, none⟩), .pointer (some ⟨w.heap.size, 0, none⟩), .int .u64 150]) (w.alloc (.cells #[.pointer (some t)] 219)) := by kernel_rfl
theorem as_typeP (a : Addr) (w : World) : (ReflectliteValue.methodAny (ReflectliteValue.valueError "reflectlite.Value.Type" 0) (fun t _ _ _ => ReflectliteType.toType t) #[.agg #[.pointer (some ⟨6, 219, none⟩), .pointer (some a), .int .u64 150]]).run Tryz.prog w
    = .ok (.iface 199 (.agg #[.pointer (some ⟨6, 219, none⟩)])) w := by kernel_rfl
theorem as_methodKind (h : Value) (w : World) : (Go.method 373 199 (.agg #[h]) "Kind").run Tryz.prog w = .ok (196, h) w := by kernel_rfl
theorem as_kindP (w : World) : ((ReflectliteType.abiMethod fun t => (fun a : Nat => Value.int IntKind.u8 (a : Int)) <$> Rtype.kind t) #[.pointer (some ⟨6, 219, none⟩)]).run Tryz.prog w = .ok (.int .u8 22) w := by kernel_rfl
theorem as_kindW (w : World) : ((ReflectliteType.abiMethod fun t => (fun a : Nat => Value.int IntKind.u8 (a : Int)) <$> Rtype.kind t) #[.pointer (some ⟨6, 216, none⟩)]).run Tryz.prog w = .ok (.int .u8 25) w := by kernel_rfl
theorem as_rlm (z : Sem Value) (f : TypeId → Addr → Nat → Nat → Sem Value) (v : Value) :
    ReflectliteValue.method z f #[v] = (do match ← ReflectliteValue.parts v with | none => z | some (t, a, fl) => f t a fl (fl % 32)) := rfl
theorem as_partsP (a : Addr) (w : World) : (ReflectliteValue.parts (.agg #[.pointer (some ⟨6, 219, none⟩), .pointer (some a), .int .u64 150])).run Tryz.prog w = .ok (some (219, a, 150)) w := by kernel_rfl
theorem as_isNilP (a p : Addr) (W : World) (ha : W.cell? a = some (.pointer (some p))) :
    (ReflectliteValue.method (ReflectliteValue.valueError "reflectlite.Value.IsNil" 0) ReflectliteValue.isNil #[.agg #[.pointer (some ⟨6, 219, none⟩), .pointer (some a), .int .u64 150]]).run Tryz.prog W = .ok (.bool false) W := by
  rw [as_rlm]
  simp only [Sem.run_bind, as_partsP, Result.andThen]
  simp [ReflectliteValue.isNil, loadVar, isAgg, underlying, Tryz.underlying219, ha, Result.andThen]
theorem as_methodElem (h : Value) (w : World) : (Go.method 373 199 (.agg #[h]) "Elem").run Tryz.prog w = .ok (206, .agg #[h]) w := by kernel_rfl
theorem as_methodImplements (h : Value) (w : World) : (Go.method 373 199 (.agg #[h]) "Implements").run Tryz.prog w = .ok (207, .agg #[h]) w := by kernel_rfl
theorem as_methodAssignableTo (h : Value) (w : World) : (Go.method 373 199 (.agg #[h]) "AssignableTo").run Tryz.prog w = .ok (204, .agg #[h]) w := by kernel_rfl
theorem as_elemP (w : World) : (ReflectliteType.method ReflectliteType.elem #[.agg #[.pointer (some ⟨6, 219, none⟩)]]).run Tryz.prog w = .ok (.iface 199 (.agg #[.pointer (some ⟨6, 216, none⟩)])) w := by kernel_rfl
theorem as_implementsW (w : World) : (ReflectliteType.relation "Implements" ReflectliteType.implements_ #[.agg #[.pointer (some ⟨6, 216, none⟩)], .iface 199 (.agg #[.pointer (some ⟨6, 78, none⟩)])]).run Tryz.prog w = .ok (.bool true) w := by kernel_rfl
theorem as_typeOfW (v : Value) (w : World) : (ReflectliteType.typeOf #[.iface 216 v]).run Tryz.prog w = .ok (.iface 199 (.agg #[.pointer (some ⟨6, 216, none⟩)])) w := by kernel_rfl
theorem as_assignableW (w : World) : (ReflectliteType.relation "AssignableTo" ReflectliteType.assignableTo #[.agg #[.pointer (some ⟨6, 216, none⟩)], .iface 199 (.agg #[.pointer (some ⟨6, 216, none⟩)])]).run Tryz.prog w = .ok (.bool true) w := by kernel_rfl
theorem as_valueOfW (k : Int) (w : World) : (ReflectliteValue.unpack (.iface 216 (.agg #[.int .i64 k]))).run Tryz.prog w
    = .ok (.agg #[.pointer (some ⟨6, 216, none⟩), .pointer (some ⟨w.heap.size, 0, none⟩), .int .u64 153]) (w.alloc (.cells #[.int .i64 k] 216)) := by kernel_rfl
theorem as_elemOfP (w : World) : (Rtype.elem? 219).run Tryz.prog w = .ok (some 216) w := by kernel_rfl
theorem as_mkW (p : Addr) (w : World) : (ReflectliteValue.mk 216 p ReflectliteValue.flagAddr).run Tryz.prog w = .ok (.agg #[.pointer (some ⟨6, 216, none⟩), .pointer (some p), .int .u64 409]) w := by kernel_rfl
theorem as_elemVP (a p : Addr) (W : World) (ha : W.cell? a = some (.pointer (some p))) :
    (ReflectliteValue.method (ReflectliteValue.valueError "reflectlite.Value.Elem" 0) ReflectliteValue.elem #[.agg #[.pointer (some ⟨6, 219, none⟩), .pointer (some a), .int .u64 150]]).run Tryz.prog W
      = .ok (.agg #[.pointer (some ⟨6, 216, none⟩), .pointer (some p), .int .u64 409]) W := by
  rw [as_rlm]
  simp only [Sem.run_bind, as_partsP, Result.andThen]
  simp [ReflectliteValue.elem, loadVar, isAgg, underlying, Tryz.underlying219, ha, Result.andThen, as_elemOfP, as_mkW]
theorem as_rls (v x : Value) : ReflectliteValue.set #[v, x] = (do
    let (some (dst, a, fl), some (src, b, _)) := (← ReflectliteValue.parts v, ← ReflectliteValue.parts x)
      | unsupported (.noEntry "extern/(internal/reflectlite.Value).Set.zeroValue")
    if fl / ReflectliteValue.flagAddr % 2 == 0 then unsupported (.noEntry "extern/(internal/reflectlite.Value).Set.unaddressable")
    let val ← loadVar src b
    if ← Rtype.directlyAssignable dst src then storeVar dst a val
    else if ← Rtype.implements dst src then
      if (← Rtype.kind src) == 20 then
        match val with
        | .nilIface => unsupported (.noEntry "extern/reflectlite: a nil value of one interface type handed on as a value of another")
        | _ => storeVar dst a val
      else storeVar dst a (.iface src val)
    else panicString ("reflectlite.Set: value of type " ++ (← Rtype.spelt src) ++ " is not assignable to type " ++ (← Rtype.spelt dst))
    pure (.tuple #[])) := rfl
theorem as_partsA (a : Addr) (w : World) : (ReflectliteValue.parts (.agg #[.pointer (some ⟨6, 216, none⟩), .pointer (some a), .int .u64 409])).run Tryz.prog w = .ok (some (216, a, 409)) w := by kernel_rfl
theorem as_partsW (a : Addr) (w : World) : (ReflectliteValue.parts (.agg #[.pointer (some ⟨6, 216, none⟩), .pointer (some a), .int .u64 153])).run Tryz.prog w = .ok (some (216, a, 153)) w := by kernel_rfl
theorem as_directW (w : World) : (Rtype.directlyAssignable 216 216).run Tryz.prog w = .ok true w := by kernel_rfl
theorem as_sizeW (w : World) : (sizeOf 216).run Tryz.prog w = .ok 1 w := by kernel_rfl
theorem as_aggW (w : World) : (isAgg 216).run Tryz.prog w = .ok true w := by kernel_rfl
theorem as_setW (ta b : Addr) (k : Int) (old : Value) (W : World) (hb : W.cell? b = some (.int .i64 k)) (hsb : b.spot = none) (ht : W.cell? ta = some old) (hst : ta.spot = none) (hf : W.frozen? ta = false) :
    (ReflectliteValue.set #[.agg #[.pointer (some ⟨6, 216, none⟩), .pointer (some ta), .int .u64 409], .agg #[.pointer (some ⟨6, 216, none⟩), .pointer (some b), .int .u64 153]]).run Tryz.prog W
      = .ok (.tuple #[]) (W.setCell ta (.int .i64 k)) := by
  have hl : (loadCells b 1).run Tryz.prog W = .ok #[.int .i64 k] W := run_loadCells_list (P := Tryz.prog) W b [.int .i64 k] (fun j v hj => by
    rcases j with _ | j
    · cases hj
      simpa [Addr.add] using hb
    · simp at hj)
  rw [as_rls]
  simp only [Sem.run_bind, as_partsA, as_partsW, Result.andThen]
  simp [ReflectliteValue.flagAddr, loadVar, as_aggW, as_sizeW, hl, Result.andThen, as_directW, storeVar, Value.cells, storeCells, Addr.add]
  rw [run_store Tryz.prog W ta _ _ (by rfl)]
  simp [ht, hf]
set_option maxHeartbeats 4000000 in
theorem as_hit (k : Int) (t : Addr) (old : Value) (w : World) (hg : w.cell? ⟨0, 0, none⟩ = some (.iface 199 (.agg #[.pointer (some ⟨6, 78, none⟩)]))) (ht0 : w.cell? t = some old) (hst : t.spot = none) (hf0 : w.frozen? t = false) :
    Calls Tryz.prog 76 #[.iface 216 (.agg #[.int .i64 k]), .iface 219 (.pointer (some t))] w fun ev w' => ev = .returned (.bool true) ∧ w' = ((((w.alloc (.cells #[.pointer (some t)] 219)).alloc (.cells #[.pointer (some ⟨6, 219, none⟩), .pointer (some ⟨w.heap.size, 0, none⟩), .int .u64 150] 169)).alloc (.cells #[.pointer (some ⟨6, 219, none⟩), .pointer (some ⟨w.heap.size, 0, none⟩), .int .u64 150] 169)).alloc (.cells #[.int .i64 k] 216)).setCell t (.int .i64 k) := by
  have h6 := @run_callFunc_extern Tryz.prog 116 _ (fun args => ReflectliteValue.unpack (args.getD 0 (.tuple #[]))) Tryz.func116 (by kernel_rfl) (by kernel_rfl) (by kernel_rfl) (by kernel_rfl)
  have h7 := @run_callFunc_extern Tryz.prog 117 _ (ReflectliteValue.methodAny (ReflectliteValue.valueError "reflectlite.Value.Type" 0) (fun t _ _ _ => ReflectliteType.toType t)) Tryz.func117 (by kernel_rfl) (by kernel_rfl) (by kernel_rfl) (by kernel_rfl)
  have h8 := @run_callFunc_extern Tryz.prog 118 _ (ReflectliteValue.method (ReflectliteValue.valueError "reflectlite.Value.IsNil" 0) ReflectliteValue.isNil) Tryz.func118 (by kernel_rfl) (by kernel_rfl) (by kernel_rfl) (by kernel_rfl)
  have h27 := @run_callFunc_extern Tryz.prog 196 _ (ReflectliteType.abiMethod fun t => do pure (.int .u8 (← Rtype.kind t))) Tryz.func196 (by kernel_rfl) (by kernel_rfl) (by kernel_rfl) (by kernel_rfl)
  have h37 := @run_callFunc_extern Tryz.prog 206 _ (ReflectliteType.method ReflectliteType.elem) Tryz.func206 (by kernel_rfl) (by kernel_rfl) (by kernel_rfl) (by kernel_rfl)
  have h38 := @run_callFunc_extern Tryz.prog 207 _ (ReflectliteType.relation "Implements" ReflectliteType.implements_) Tryz.func207 (by kernel_rfl) (by kernel_rfl) (by kernel_rfl) (by kernel_rfl)
  have h10 := @run_callFunc_extern Tryz.prog 148 _ ReflectliteType.typeOf Tryz.func148 (by kernel_rfl) (by kernel_rfl) (by kernel_rfl) (by kernel_rfl)
  have h35 := @run_callFunc_extern Tryz.prog 204 _ (ReflectliteType.relation "AssignableTo" ReflectliteType.assignableTo) Tryz.func204 (by kernel_rfl) (by kernel_rfl) (by kernel_rfl) (by kernel_rfl)
  have h11 := @run_callFunc_extern Tryz.prog 149 _ (ReflectliteValue.method (ReflectliteValue.valueError "reflectlite.Value.Elem" 0) ReflectliteValue.elem) Tryz.func149 (by kernel_rfl) (by kernel_rfl) (by kernel_rfl) (by kernel_rfl)
  have h12 := @run_callFunc_extern Tryz.prog 150 _ ReflectliteValue.set Tryz.func150 (by kernel_rfl) (by kernel_rfl) (by kernel_rfl) (by kernel_rfl)
  have tO := as_typeOfW
  have mA := as_methodAssignableTo
  have a25 := as_assignableW
  have v25 := as_valueOfW
  have f6 := as_valueOfP
  have f7 := as_typeP
  have mK := as_methodKind
  have mE := as_methodElem
  have mI := as_methodImplements
  have k27 := as_kindP
  have k25 := as_kindW
  have e27 := as_elemP
  have i25 := as_implementsW
  have n8 := as_isNilP ⟨w.heap.size, 0, none⟩ t ((w.alloc (.cells #[.pointer (some t)] 219)).alloc (.cells #[.pointer (some ⟨6, 219, none⟩), .pointer (some ⟨w.heap.size, 0, none⟩), .int .u64 150] 169)) (by simp)
  have hlt : 0 < w.heap.size := by
    rcases Nat.lt_or_ge 0 w.heap.size with h | h
    · exact h
    · simp [World.cell?, Array.getElem?_eq_none h] at hg
  have hg2 : ((w.alloc (.cells #[.pointer (some t)] 219)).alloc (.cells #[.pointer (some ⟨6, 219, none⟩), .pointer (some ⟨w.heap.size, 0, none⟩), .int .u64 150] 169)).cell? ⟨0, 0, none⟩ = some (.iface 199 (.agg #[.pointer (some ⟨6, 78, none⟩)])) := by
    rw [World.cell?_alloc_lt _ _ ⟨0, 0, none⟩ (by first | (simp; done) | (simp; omega)), World.cell?_alloc_lt _ _ ⟨0, 0, none⟩ hlt]; exact hg
  have htl : t.block < w.heap.size := by
    rcases Nat.lt_or_ge t.block w.heap.size with h | h
    · exact h
    · simp [World.cell?, Array.getElem?_eq_none h] at ht0
  have el := as_elemVP ⟨w.heap.size, 0, none⟩ t (((w.alloc (.cells #[.pointer (some t)] 219)).alloc (.cells #[.pointer (some ⟨6, 219, none⟩), .pointer (some ⟨w.heap.size, 0, none⟩), .int .u64 150] 169)).alloc (.cells #[.pointer (some ⟨6, 219, none⟩), .pointer (some ⟨w.heap.size, 0, none⟩), .int .u64 150] 169)) (by rw [World.cell?_alloc_lt _ _ ⟨w.heap.size, 0, none⟩ (by simp; omega)]; simp)
  have st := as_setW t ⟨w.heap.size + 1 + 1 + 1, 0, none⟩ k old ((((w.alloc (.cells #[.pointer (some t)] 219)).alloc (.cells #[.pointer (some ⟨6, 219, none⟩), .pointer (some ⟨w.heap.size, 0, none⟩), .int .u64 150] 169)).alloc (.cells #[.pointer (some ⟨6, 219, none⟩), .pointer (some ⟨w.heap.size, 0, none⟩), .int .u64 150] 169)).alloc (.cells #[.int .i64 k] 216))
    (by rw [World.cell?_alloc_at _ _ _ _ (by simp)]; rfl) rfl
    (by rw [World.cell?_alloc_lt _ _ t (by first | (simp; done) | (simp; omega)), World.cell?_alloc_lt _ _ t (by simp; omega), World.cell?_alloc_lt _ _ t (by simp; omega), World.cell?_alloc_lt _ _ t htl]; exact ht0) hst
    (by rw [World.frozen?_alloc_old _ _ t (by simp; omega), World.frozen?_alloc_old _ _ t (by simp; omega), World.frozen?_alloc_old _ _ t (by simp; omega), World.frozen?_alloc_old _ _ t (Nat.ne_of_lt htl)]; exact hf0)
  go_enter Tryz.func76, Tryz.ntmps76
  go_wp2
  refine wp_loop_rounds 1 ?_
  rw [rounds_succ]
  go_wp2
  go_ret
  exact ⟨rfl, rfl⟩
theorem as_hit_t (w : World) {k : Int} {r : Nat} {old : Value} {T : TypeId} (hg : w.cell? ⟨0, 0, none⟩ = some (.iface 199 (.agg #[.pointer (some ⟨6, 78, none⟩)]))) (hr : w.heap[r]? = some (.cells [old].toArray T)) :
    Calls Tryz.prog 76 [.iface 216 (.agg [.int .i64 k].toArray), .iface 219 (.pointer (some ⟨r, 0, none⟩))].toArray w fun e w' => e = .returned (.bool true) ∧ Tr w w' [(r, .cells [old].toArray T)] [(r, .cells [Value.int .i64 k].toArray T)] := by
  have hlt := (Array.getElem?_eq_some_iff.1 hr).1
  refine (as_hit k ⟨r, 0, none⟩ old w hg (by simp [World.cell?, hr]) rfl (by simp [World.frozen?, hr])).mono ?_
  rintro e w' ⟨rfl, rfl⟩
  have hx : ∀ (o1 o2 o3 o4 : Obj) (j : Nat), j < w.heap.size → ((((w.alloc o1).alloc o2).alloc o3).alloc o4).heap[j]? = w.heap[j]? := fun o1 o2 o3 o4 j hj => by
    rw [Below.heap_alloc _ _ j (by simp; omega), Below.heap_alloc _ _ j (by simp; omega), Below.heap_alloc _ _ j (by simp; omega), Below.heap_alloc _ _ j hj]
  refine ⟨rfl, rfl, rfl, rfl, ?_, fun j hj hk => ?_, fun p hp => ?_, fun p hp => .inl ?_, by simp [keys]⟩
  · simp [World.setCell]; omega
  · rw [Below.heap_setCell _ _ _ j (fun e => hk (by subst e; simp [keys]))]
    exact hx _ _ _ _ j hj
  · have : p = (r, .cells [Value.int .i64 k].toArray T) := by simpa using hp
    subst this
    have h0 := hx (.cells #[.pointer (some ⟨r, 0, none⟩)] 219) (.cells #[.pointer (some ⟨6, 219, none⟩), .pointer (some ⟨w.heap.size, 0, none⟩), .int .u64 150] 169) (.cells #[.pointer (some ⟨6, 219, none⟩), .pointer (some ⟨w.heap.size, 0, none⟩), .int .u64 150] 169) (.cells #[.int .i64 k] 216) r hlt
    rw [hr] at h0
    simp only [World.setCell, Array.getElem?_modify, if_true]
    rw [h0]
    simp
  · have : p = (r, .cells [Value.int .i64 k].toArray T) := by simpa using hp
    subst this
    simp [keys]
end Go.Proofs.YtopjaeoklkpcpaaGreatDoor.Jd

namespace Go.Proofs.YtopjaeoklkpcpaaGreatDoor.Jd
set_option linter.unusedVariables false
set_option linter.unusedSimpArgs false
theorem sRight_l0_err (s : Slots) : ∀ (n i : Nat) (b : Bool), sRight_l0 s n i = .error b → b = false
  | 0, i, b, h => by simp [sRight_l0] at h
  | n + 1, i, b, h => by
    unfold sRight_l0 at h
    split at h
    · split at h
      · have h0 : (0 : Int) ≤ ((i : Nat) : Int) := by omega
        simp only [h0, not_true_eq_false, not_false_eq_true, if_true] at h
        exact (Except.error.inj h).symm
      · split at h
        · have h0 : (0 : Int) ≤ ((i : Nat) : Int) := by omega
          simp only [h0, not_true_eq_false, not_false_eq_true, if_true] at h
          exact (Except.error.inj h).symm
        · exact sRight_l0_err s n _ b h
    · simp at h
theorem sRight_l0_ok (s : Slots) : ∀ (n i j : Nat), sRight_l0 s n i = .ok j → ∀ k : Nat, i ≤ k → k < i + n → k < s.gens.length → 0 ≤ s.gens.getD k default ∧ s.gens.getD k default ≤ 1000000000
  | 0, i, j, h, k, h1, h2, h3 => by omega
  | n + 1, i, j, h, k, h1, h2, h3 => by
    unfold sRight_l0 at h
    split at h
    · split at h
      · simp at h
      · split at h
        · simp at h
        · by_cases e : k = i
          · subst e; omega
          · exact sRight_l0_ok s n _ j h k (by omega) (by omega) h3
    · omega
theorem sRight_l5_err (s : Slots) (x : Nat) : ∀ (n i : Nat) (l : List Int) (b : Bool), sRight_l5 s x n i l = .error b → b = false
  | 0, i, l, b, h => by simp [sRight_l5] at h
  | n + 1, i, l, b, h => by
    unfold sRight_l5 at h
    split at h
    · split at h
      · exact (Except.error.inj h).symm
      · split at h
        · exact (Except.error.inj h).symm
        · split at h
          · exact (Except.error.inj h).symm
          · split at h
            · exact (Except.error.inj h).symm
            · exact sRight_l5_err s x n _ _ b h
    · simp at h
theorem sRight_l5_ok (s : Slots) (x : Nat) : ∀ (n i : Nat) (l : List Int) (r : Nat × List Int), sRight_l5 s x n i l = .ok r → ∀ k : Nat, i ≤ k → k < i + n → k < s.free.length → 0 ≤ s.free.getD k default ∧ s.free.getD k default < ((s.used.length : Nat) : Int) ∧ s.used.getD ((s.free.getD k default)).toNat default = false
  | 0, i, l, r, h, k, h1, h2, h3 => by omega
  | n + 1, i, l, r, h, k, h1, h2, h3 => by
    unfold sRight_l5 at h
    split at h
    · split at h
      · simp at h
      · split at h
        · simp at h
        · split at h
          · simp at h
          · split at h
            · simp at h
            · by_cases e : k = i
              · subst e; refine ⟨by omega, by omega, by simp_all⟩
              · exact sRight_l5_ok s x n _ _ r h k (by omega) (by omega) h3
    · omega
theorem sRight_all {s : Slots} (h : sRight s = true) : 1 ≤ s.gens.length ∧ s.gens.length ≤ 64 ∧ s.used.length = s.gens.length ∧ (∀ k : Nat, k < s.gens.length → 0 ≤ s.gens.getD k default ∧ s.gens.getD k default ≤ 1000000000) ∧ (∀ k : Nat, k < s.free.length → 0 ≤ s.free.getD k default ∧ s.free.getD k default < ((s.used.length : Nat) : Int) ∧ s.used.getD ((s.free.getD k default)).toNat default = false) := by
  unfold sRight at h
  split at h
  · split at h
    · split at h
      · exact absurd h (by decide)
      · rename_i h1 h2 h3
        have h3' : ((s.used.length : Nat) : Int) = ((s.gens.length : Nat) : Int) := by omega
        refine ⟨by omega, by omega, by omega, ?_, ?_⟩
        · cases e : sRight_l0 s (s.gens.length + 1) 0 with
          | error b =>
            have := sRight_l0_err s _ _ _ e
            subst this
            rw [e] at h; simp [outc1] at h
          | ok j =>
            intro k hk
            exact sRight_l0_ok s _ _ _ e k (by omega) (by omega) hk
        · cases e : sRight_l0 s (s.gens.length + 1) 0 with
          | error b =>
            have := sRight_l0_err s _ _ _ e
            subst this
            rw [e] at h; simp [outc1] at h
          | ok j =>
            rw [e] at h
            simp only [outc1] at h
            cases e2 : sRight_l5 s j (s.free.length + 1) 0 ([] : List Int) with
            | error b =>
              have := sRight_l5_err s _ _ _ _ _ e2
              subst this
              rw [e2] at h; simp [outc2] at h
            | ok r =>
              intro k hk
              exact sRight_l5_ok s _ _ _ _ _ e2 k (by omega) (by omega) hk
    · exact absurd h (by decide)
  · exact absurd h (by decide)
theorem sRight_l5_len (s : Slots) (x : Nat) : ∀ (n i : Nat) (l : List Int) (r : Nat × List Int), sRight_l5 s x n i l = .ok r → s.free.length < i + n → i ≤ s.free.length → r.2.length = l.length + (s.free.length - i)
  | 0, i, l, r, h, h1, h2 => by omega
  | n + 1, i, l, r, h, h1, h2 => by
    unfold sRight_l5 at h
    split at h
    · split at h
      · simp at h
      · split at h
        · simp at h
        · split at h
          · simp at h
          · split at h
            · simp at h
            · have := sRight_l5_len s x n _ _ r h (by omega) (by omega)
              simp only [List.length_append, List.length_cons, List.length_nil] at this
              omega
    · have := Except.ok.inj h
      subst this; simp only; omega
theorem sRight_l6_le (s : Slots) (a b : Nat) (l : List Int) : ∀ (n i : Nat) (x : Int), (sRight_l6 s a b l n i x).2 ≤ x
  | 0, i, x => by simp [sRight_l6]
  | n + 1, i, x => by
    unfold sRight_l6
    split
    · split
      · have := sRight_l6_le s a b l n (i + 1) (x - 1); omega
      · exact sRight_l6_le s a b l n (i + 1) x
    · simp
theorem sRight_free {s : Slots} (h : sRight s = true) : s.free.length ≤ 64 := by
  have h0 := sRight_all h
  unfold sRight at h
  rw [if_pos (by omega), if_pos (by omega), if_neg (by omega)] at h
  cases e : sRight_l0 s (s.gens.length + 1) 0 with
  | error b =>
    have := sRight_l0_err s _ _ _ e
    subst this
    rw [e] at h; simp [outc1] at h
  | ok j =>
    rw [e] at h
    simp only [outc1] at h
    cases e2 : sRight_l5 s j (s.free.length + 1) 0 ([] : List Int) with
    | error b =>
      have := sRight_l5_err s _ _ _ _ _ e2
      subst this
      rw [e2] at h; simp [outc2] at h
    | ok r =>
      have hl := sRight_l5_len s _ _ _ _ _ e2 (by omega) (by omega)
      rw [e2] at h
      obtain ⟨r1, r2⟩ := r
      simp only [outc2, run2] at h
      have h6 := sRight_l6_le s j r1 r2 (s.used.length + 1) 0 ((s.gens.length : Nat) : Int)
      split at h
      · exact absurd h (by decide)
      · rename_i h7
        simp only [List.length_nil] at hl
        omega
theorem getD_nn {l : List Int} {a b : Int} (ha : a ≤ 0) (hb : 0 ≤ b) (h : ∀ k : Nat, k < l.length → a ≤ l.getD k default ∧ l.getD k default ≤ b) (k : Nat) : a ≤ l.getD k default ∧ l.getD k default ≤ b := by
  by_cases e : k < l.length
  · exact h k e
  · have : l.getD k default = 0 := by rw [List.getD_eq_getElem?_getD, List.getElem?_eq_none (by omega)]; rfl
    omega
theorem sRight_t {s : Slots} (h : sRight s = true) : s.free.length ≤ 64 ∧ 1 ≤ s.gens.length ∧ s.gens.length ≤ 64 ∧ s.used.length = s.gens.length ∧ (0 ≤ (((s.free.length : Nat) : Int) - 1) → 0 ≤ s.free.getD ((((s.free.length : Nat) : Int) - 1)).toNat default ∧ s.free.getD ((((s.free.length : Nat) : Int) - 1)).toNat default < ((s.gens.length : Nat) : Int)) ∧ 0 ≤ s.gens.getD ((s.free.getD ((((s.free.length : Nat) : Int) - 1)).toNat default)).toNat default ∧ s.gens.getD ((s.free.getD ((((s.free.length : Nat) : Int) - 1)).toNat default)).toNat default ≤ 1000000000 := by
  obtain ⟨h1, h2, h3, h4, h5⟩ := sRight_all h
  refine ⟨sRight_free h, h1, h2, h3, ?_, getD_nn (by omega) (by omega) h4 _⟩
  intro h6
  have := h5 ((((s.free.length : Nat) : Int) - 1)).toNat (by omega)
  omega
theorem sAll_l0_len (s : Slots) : ∀ (n i : Nat) (l : List Handle), l.length ≤ i → i ≤ s.used.length → (sAll_l0 s n i l).2.length ≤ s.used.length
  | 0, i, l, h, h2 => by simp only [sAll_l0]; omega
  | n + 1, i, l, h, h2 => by
    unfold sAll_l0
    split
    · split
      · exact sAll_l0_len s n _ _ (by simp; omega) (by omega)
      · exact sAll_l0_len s n _ _ (by omega) (by omega)
    · simp only; omega
theorem sAll_len (s : Slots) : (sAll s).length ≤ 64 := by
  unfold sAll
  cases h : sRight s
  · simp
  · obtain ⟨h1, h2, h3, _, _⟩ := sRight_all h
    have := sAll_l0_len s (s.used.length + 1) 0 [] (by simp) (by omega)
    simp only [Bool.not_true, Bool.false_eq_true, if_false, run2]; omega
theorem sAll_l0_in (s : Slots) : ∀ (n i : Nat) (l : List Handle), (∀ x ∈ l, 0 ≤ x.slot ∧ x.slot < ((s.used.length : Nat) : Int)) → ∀ x ∈ (sAll_l0 s n i l).2, 0 ≤ x.slot ∧ x.slot < ((s.used.length : Nat) : Int)
  | 0, i, l, h => by simpa only [sAll_l0] using h
  | n + 1, i, l, h => by
    unfold sAll_l0
    split
    · split
      · refine sAll_l0_in s n _ _ ?_
        intro x hx
        simp only [List.mem_append, List.mem_singleton] at hx
        rcases hx with hx | hx
        · exact h x hx
        · subst hx; exact ⟨by simp only; omega, by simp only; omega⟩
      · exact sAll_l0_in s n _ _ h
    · simpa only using h
theorem sAll_in (s : Slots) : ∀ x ∈ sAll s, 0 ≤ x.slot ∧ x.slot < ((s.used.length : Nat) : Int) := by
  unfold sAll
  cases h : sRight s
  · simp
  · simp only [Bool.not_true, Bool.false_eq_true, if_false, run2]
    exact sAll_l0_in s _ _ _ (by simp)
theorem sValid_l0_t (s : Slots) (h : Handle) : ∀ (n i : Nat) (b : Bool), sValid_l0 s h n i = .error b → b = true ∧ ∃ x ∈ sAll s, x = h
  | 0, i, b, e => by simp [sValid_l0] at e
  | n + 1, i, b, e => by
    unfold sValid_l0 at e
    split at e
    · rename_i hi
      split at e
      · rename_i h2
        refine ⟨(Except.error.inj e).symm, (sAll s).getD i default, ?_, ?_⟩
        · have hi' : i < (sAll s).length := by omega
          rw [List.getD_eq_getElem?_getD, List.getElem?_eq_getElem hi']; exact List.getElem_mem hi'
        · obtain ⟨a1, a2⟩ := h2
          cases h with | mk a b => cases hh : (sAll s).getD i default with | mk c d => rw [hh] at a1 a2; simp only at a1 a2; subst a1 a2; rfl
      · exact sValid_l0_t s h n _ b e
    · simp at e
theorem sValid_in {s : Slots} {h : Handle} (e : sValid s h = true) : h ∈ sAll s := by
  unfold sValid at e
  cases e2 : sValid_l0 s h ((sAll s).length + 1) 0 with
  | error b => obtain ⟨_, x, hx, hh⟩ := sValid_l0_t s h _ _ b e2; subst hh; exact hx
  | ok j => rw [e2] at e; simp [outc1] at e
theorem sValid_t {s : Slots} {h : Handle} (e : sValid s h = true) : 0 ≤ h.slot ∧ h.slot < ((s.used.length : Nat) : Int) := sAll_in s h (sValid_in e)
end Go.Proofs.YtopjaeoklkpcpaaGreatDoor.Jd

namespace Go.Proofs.YtopjaeoklkpcpaaGreatDoor.Jd
open Go.Proofs
open Go.RowKit (Below)
set_option maxRecDepth 100000
set_option maxHeartbeats 8000000
set_option linter.unusedVariables false
set_option linter.unusedSimpArgs false
def eHandle (x : Handle) : List Value := [vi x.slot, vi x.gen]
theorem eHandle_ok : EncOk eHandle 2 := ⟨by omega, fun _ => rfl, fun _ => rfl⟩
theorem mixed : Tryz.prog.follows .mixedOrders = true := by kernel_rfl
theorem FO_25_0 : FieldOff Tryz.prog 25 0 0 := fun r k w => by simp [Instr.fieldAt, Instr.sureAddr, fieldPlace, addr_add]
theorem FO_25_1 : FieldOff Tryz.prog 25 1 1 := fun r k w => by simp [Instr.fieldAt, Instr.sureAddr, fieldPlace, addr_add]
theorem FO_25_2 : FieldOff Tryz.prog 25 2 2 := fun r k w => by simp [Instr.fieldAt, Instr.sureAddr, fieldPlace, addr_add]
theorem FO_42_0 : FieldOff Tryz.prog 42 0 0 := fun r k w => by simp [Instr.fieldAt, Instr.sureAddr, fieldPlace, addr_add]
theorem FO_131_0 : FieldOff Tryz.prog 131 0 0 := fun r k w => by simp [Instr.fieldAt, Instr.sureAddr, fieldPlace, addr_add]
theorem PL_25 : Places Tryz.prog 25 [(0, 1), (1, 1), (2, 1)] := ⟨_, fun w => Tryz.runUnderlying25 w, fun w => by simp⟩
theorem PL_42 : Places Tryz.prog 42 [(0, 1), (1, 1)] := ⟨_, fun w => Tryz.runUnderlying42 w, fun w => by simp⟩
theorem PL_131 : Places Tryz.prog 131 [(0, 3)] := ⟨_, fun w => Tryz.runUnderlying131 w, fun w => by simp⟩
theorem EQH_42 (a0 b0 : Int) (a1 b1 : Int) (n : Nat) (w : World) : (Op.equalIn (n + 2) 42 (Value.agg [vi a0, vi a1].toArray) (Value.agg [vi b0, vi b1].toArray)).run Tryz.prog w = .ok (decide (a0 = b0 ∧ a1 = b1)) w := by
 rw [show n + 2 = (n + 1) + 1 from rfl]
 unfold Op.equalIn
 simp [part, run_eqI (P := Tryz.prog) (t := 3) n .i64 _ _ Tryz.runUnderlying3]
 by_cases h0 : a0 = b0 <;> by_cases h1 : a1 = b1 <;> simp_all
theorem EQ_42 (x y : Operand) (a0 b0 : Int) (a1 b1 : Int) (w : World) : (do eqGuard .eql 42 x y (Value.agg [vi a0, vi a1].toArray) (Value.agg [vi b0, vi b1].toArray); binOp .eql 42 (Value.agg [vi a0, vi a1].toArray) (Value.agg [vi b0, vi b1].toArray) : Sem Value).run Tryz.prog w = .ok (.bool (decide (a0 = b0 ∧ a1 = b1))) w := by
 have h2 : (binOp .eql 42 (Value.agg [vi a0, vi a1].toArray) (Value.agg [vi b0, vi b1].toArray)).run Tryz.prog w = .ok (.bool (decide (a0 = b0 ∧ a1 = b1))) w := by
  show (do pure (.bool (← Op.equal 42 _ _)) : Sem Value).run Tryz.prog w = _
  simp only [Sem.run_bind, Op.equal, Op.maxDepth, EQH_42 a0 b0 a1 b1 9998, Result.andThen_ok, Sem.run_pure]
 simp [eqGuard]
 simpa using h2
theorem NE_42 (x y : Operand) (a0 b0 : Int) (a1 b1 : Int) (w : World) : (do eqGuard .neq 42 x y (Value.agg [vi a0, vi a1].toArray) (Value.agg [vi b0, vi b1].toArray); binOp .neq 42 (Value.agg [vi a0, vi a1].toArray) (Value.agg [vi b0, vi b1].toArray) : Sem Value).run Tryz.prog w = .ok (.bool (decide (¬ (a0 = b0 ∧ a1 = b1)))) w := by
 have h2 : (binOp .neq 42 (Value.agg [vi a0, vi a1].toArray) (Value.agg [vi b0, vi b1].toArray)).run Tryz.prog w = .ok (.bool (decide (¬ (a0 = b0 ∧ a1 = b1)))) w := by
  show (do pure (.bool (!(← Op.equal 42 _ _))) : Sem Value).run Tryz.prog w = _
  simp only [Sem.run_bind, Op.equal, Op.maxDepth, EQH_42 a0 b0 a1 b1 9998, Result.andThen_ok, Sem.run_pure]
  congr 2
  simp
 simp [eqGuard]
 simpa using h2
theorem TY_3 : Ty Tryz.prog 3 1 8 (vi 0) := ⟨⟨Tryz.t3, by kernel_rfl, rfl, rfl, rfl⟩, rfl⟩
theorem TY_4 : Ty Tryz.prog 4 1 1 (Value.bool false) := ⟨⟨Tryz.t4, by kernel_rfl, rfl, rfl, rfl⟩, rfl⟩
theorem TY_42 : Ty Tryz.prog 42 2 16 (Value.agg [(vi 0), (vi 0)].toArray) := ⟨⟨Tryz.t42, by kernel_rfl, rfl, rfl, rfl⟩, rfl⟩
theorem clone_nil {w : World} {α : Type} {enc : α → List Value} {k : Nat} {a : Option Addr} {s : List α} (h : Sl w enc k a s) (hn : Option.isNone a = true) : ([] : List α) = s := by
 have : a = none := by simpa using hn
 subst this
 exact (Sl.none h).symm
theorem inClone_ok (w : World) {s_a : Option Addr} {s_c : Nat} {s : List Int} (h_s : Sl w eI 1 s_a s) (n_s : s.length ≤ 1000000) : Calls Tryz.prog 71 (List.toArray [(vs s_a s.length s_c)]) w fun e w2 => ∃ a1 : Option Addr, ∃ c1 : Nat, ∃ B1 : Heap, e = .returned (vs a1 s.length c1) ∧ Fresh w w2 B1 ∧ OwnB eI 1 3 a1 c1 B1 s := by
 have hF := Is.refl s
 refine enter Tryz.func71 Tryz.ntmps71 (h := ?_)
 refine Z216 ?_
 refine JL_q (q_eqNil Tryz.runUnderlying22) (k := ?_)
 refine Z0 ?_
 refine J_cond rfl (fun hq1 => ?_) (fun hq1 => ?_)
 ·refine J_seq ?_
  refine Z270 ?_
  refine JX_ret Tryz.results71 (Res.tmp rfl Res.nil) (fun w1 hw1 => ?_)
  have hcan0 : ([] : List Int) = s := by (first | rfl | (exact clone_nil h_s (by assumption)))
  have hlen0 : 0 = s.length := by first | (rw [← hcan0]; done) | (rw [← hcan0]; first | rfl | (simp; done) | (simp only [List.length_append, List.length_take, List.length_drop, List.length_set, List.length_replicate, List.length_cons, List.length_nil, List.length_map, toS_length, toI_length]; omega) | (simp; omega))
  exact ⟨none, 0, [], (by rw [← hlen0]; first | rfl | rfl), (hw1.fresh_out.sub (List.nil_sublist _)), (hcan0 ▸ OwnB.nil)⟩
 refine Z390 ?_
 refine JL_a noMk (a_bslice (l := []) Tryz.runUnderlying22 Tryz.sizeOf3 Tryz.zeroValue3) (k := fun r1 hr1 => ?_)
 refine Z481 ?_
 refine JL_append s (List.nil_append _) TY_3 Tryz.underlying22 eI_ok OwnB.nil (List.Perm.refl _) (SlJ.of_base h_s) ⟨by omega, by omega⟩ (n := 0) (m := s.length) (k := fun ax1 cx1 Bx1 hox1 => ?_)
 refine Z6 ?_
 refine JX_ret Tryz.results71 (Res.tmp rfl Res.nil) (fun w1 hw1 => ?_)
 have hcan0 : s = s := by (first | rfl | (exact clone_nil h_s (by assumption)))
 have hlen0 : s.length = s.length := by first | (rw [← hcan0]; done) | (rw [← hcan0]; first | rfl | (simp; done) | (simp only [List.length_append, List.length_take, List.length_drop, List.length_set, List.length_replicate, List.length_cons, List.length_nil, List.length_map, toS_length, toI_length]; omega) | (simp; omega))
 exact ⟨ax1, cx1, Bx1, (by rw [← hlen0]; first | rfl | rfl), (fresh_segs (L := Bx1) (hw1.perm (List.Perm.refl _)) rfl.symm), (hcan0 ▸ hox1)⟩

theorem boClone_ok (w : World) {s_a : Option Addr} {s_c : Nat} {s : List Bool} (h_s : Sl w eB 1 s_a s) (n_s : s.length ≤ 1000000) : Calls Tryz.prog 72 (List.toArray [(vs s_a s.length s_c)]) w fun e w2 => ∃ a1 : Option Addr, ∃ c1 : Nat, ∃ B1 : Heap, e = .returned (vs a1 s.length c1) ∧ Fresh w w2 B1 ∧ OwnB eB 1 4 a1 c1 B1 s := by
 have hF := Is.refl s
 refine enter Tryz.func72 Tryz.ntmps72 (h := ?_)
 refine Z216 ?_
 refine JL_q (q_eqNil Tryz.runUnderlying23) (k := ?_)
 refine Z0 ?_
 refine J_cond rfl (fun hq1 => ?_) (fun hq1 => ?_)
 ·refine J_seq ?_
  refine Z270 ?_
  refine JX_ret Tryz.results72 (Res.tmp rfl Res.nil) (fun w1 hw1 => ?_)
  have hcan0 : ([] : List Bool) = s := by (first | rfl | (exact clone_nil h_s (by assumption)))
  have hlen0 : 0 = s.length := by first | (rw [← hcan0]; done) | (rw [← hcan0]; first | rfl | (simp; done) | (simp only [List.length_append, List.length_take, List.length_drop, List.length_set, List.length_replicate, List.length_cons, List.length_nil, List.length_map, toS_length, toI_length]; omega) | (simp; omega))
  exact ⟨none, 0, [], (by rw [← hlen0]; first | rfl | rfl), (hw1.fresh_out.sub (List.nil_sublist _)), (hcan0 ▸ OwnB.nil)⟩
 refine Z390 ?_
 refine JL_a noMk (a_bslice (l := []) Tryz.runUnderlying23 Tryz.sizeOf4 Tryz.zeroValue4) (k := fun r1 hr1 => ?_)
 refine Z481 ?_
 refine JL_append s (List.nil_append _) TY_4 Tryz.underlying23 eB_ok OwnB.nil (List.Perm.refl _) (SlJ.of_base h_s) ⟨by omega, by omega⟩ (n := 0) (m := s.length) (k := fun ax1 cx1 Bx1 hox1 => ?_)
 refine Z6 ?_
 refine JX_ret Tryz.results72 (Res.tmp rfl Res.nil) (fun w1 hw1 => ?_)
 have hcan0 : s = s := by (first | rfl | (exact clone_nil h_s (by assumption)))
 have hlen0 : s.length = s.length := by first | (rw [← hcan0]; done) | (rw [← hcan0]; first | rfl | (simp; done) | (simp only [List.length_append, List.length_take, List.length_drop, List.length_set, List.length_replicate, List.length_cons, List.length_nil, List.length_map, toS_length, toI_length]; omega) | (simp; omega))
 exact ⟨ax1, cx1, Bx1, (by rw [← hlen0]; first | rfl | rfl), (fresh_segs (L := Bx1) (hw1.perm (List.Perm.refl _)) rfl.symm), (hcan0 ▸ hox1)⟩

theorem sRight_ok (w : World) {s_gens_a : Option Addr} {s_gens_c : Nat} {s_used_a : Option Addr} {s_used_c : Nat} {s_free_a : Option Addr} {s_free_c : Nat} {s : Slots} (h_s_gens : Sl w eI 1 s_gens_a s.gens) (n_s_gens : s.gens.length ≤ 1000) (h_s_used : Sl w eB 1 s_used_a s.used) (n_s_used : s.used.length ≤ 1000) (h_s_free : Sl w eI 1 s_free_a s.free) (n_s_free : s.free.length ≤ 1000) : Val Tryz.prog 52 [(Value.agg [(vs s_gens_a s.gens.length s_gens_c), (vs s_used_a s.used.length s_used_c), (vs s_free_a s.free.length s_free_c)].toArray)] w (Value.bool (sRight s)) := by
 have hF := Is.refl (sRight s)
 refine enter Tryz.func52 Tryz.ntmps52 (h := ?_)
 refine Z2 ?_
 refine JL_a noMk (a_box (l := [_, _, _])) (k := fun r1 hr1 => ?_)
 refine Z91 ?_
 refine Z482 ?_
 refine JL_q (q_build (cs := [_, _, _]) Tryz.zeroValue131 PL_131) (k := ?_)
 refine JL_a noMk (a_box (l := [_, _, _])) (k := fun r2 hr2 => ?_)
 refine JL_a noMk (a_bslice (l := [_, _, _]) Tryz.runUnderlying184 Tryz.sizeOf138 Tryz.zeroValue138) (k := fun r3 hr3 => ?_)
 refine JL_inl (args := [_, _]) (c_callA Tryz.call88) Tryz.func88 Tryz.ntmps88 ?_
 refine Z216 ?_
 refine JL_q (q_lenS Tryz.runUnderlying184) (k := ?_)
 refine Z283 ?_
 refine Z69 ?_
 refine JL_q (q_idxO Tryz.runUnderlying184 Tryz.sizeOf138 0) (k := ?_)
 refine JL_q (q_load Tryz.isAgg138) (k := ?_)
 refine Z276 ?_
 refine JL_inl (args := [_]) (c_callA Tryz.call89) Tryz.func89 Tryz.ntmps89 ?_
 refine Z2 ?_
 refine Z31 ?_
 refine J_plan mixed 32 [(true, 0), (true, 1), (true, 2), (true, 3), (true, 4), (true, 5), (true, 6), (true, 7), (true, 8), (true, 9), (true, 10), (true, 11), (true, 12), (true, 13), (true, 14), (true, 15), (true, 16), (true, 17), (true, 18), (true, 19), (true, 20), (true, 21), (true, 22), (true, 23), (true, 24), (true, 25), (true, 26), (true, 27), (true, 28), (true, 29), (true, 30), (true, 31)] (by kernel_rfl) ?_
 refine Z483 ?_
 refine Z458 ?_
 refine JD_q (q_lenS Tryz.runUnderlying22) (k := ?_)
 refine JD_q q_geq (k := ?_)
 refine Z483 ?_
 refine JD_dec 10 rfl (fun hq1 => ?_) (fun hq1 => ?_)
 rotate_left
 ·refine JD_skips 7 rfl ?_
  refine Z23 ?_
  refine JD_skips 13 rfl ?_
  refine Z139 ?_
  refine JX_retI Tryz.results89 (Res.tmp rfl Res.nil) ?_
  refine Z484 ?_
  refine Z344 ?_
  refine JX_ret Tryz.results52 (Res.tmp rfl Res.nil) (fun w1 hw1 => ?_)
  exact ⟨(by rw [(hF.neg hq1).eq] <;> first | rfl | (simp only [List.length_set] <;> rfl)), hw1.ext_out⟩
 refine Z485 ?_
 refine Z433 ?_
 refine JD_qg (q_load Tryz.isAgg22) (k := ?_)
 refine JD_qg (q_lenS Tryz.runUnderlying22) (k := ?_)
 refine JD_qg q_leq (k := ?_)
 refine Z54 ?_
 refine JD_dec 19 rfl (fun hq2 => ?_) (fun hq2 => ?_)
 rotate_left
 ·refine JD_skips 13 rfl ?_
  refine Z139 ?_
  refine JX_retI Tryz.results89 (Res.tmp rfl Res.nil) ?_
  refine Z484 ?_
  refine Z344 ?_
  refine JX_ret Tryz.results52 (Res.tmp rfl Res.nil) (fun w1 hw1 => ?_)
  exact ⟨(by rw [((hF.pos hq1).neg hq2).eq] <;> first | rfl | (simp only [List.length_set] <;> rfl)), hw1.ext_out⟩
 refine Z485 ?_
 refine Z208 ?_
 refine JD_qg (q_fld FO_25_1) (k := ?_)
 refine JD_qg (q_load Tryz.isAgg23) (k := ?_)
 refine JD_qg (q_lenS Tryz.runUnderlying23) (k := ?_)
 refine Z485 ?_
 refine Z433 ?_
 refine JD_qg (q_load Tryz.isAgg22) (k := ?_)
 refine JD_qg (q_lenS Tryz.runUnderlying22) (k := ?_)
 refine JD_qg q_eql (k := ?_)
 refine Z359 ?_
 refine JX_retI Tryz.results89 (Res.tmp rfl Res.nil) ?_
 refine Z257 ?_
 refine J_dec rfl (fun hq3 => ?_) (fun hq3 => ?_)
 ·refine J_seq ?_
  refine Z486 ?_
  refine Z271 ?_
  refine JX_ret Tryz.results52 (Res.tmp rfl Res.nil) (fun w1 hw1 => ?_)
  exact ⟨(by rw [(((hF.pos hq1).pos hq2).pos hq3).eq] <;> first | rfl | (simp only [List.length_set] <;> rfl)), hw1.ext_out⟩
 refine Z100 ?_
 refine JL_q (q_idxO Tryz.runUnderlying184 Tryz.sizeOf138 1) (k := ?_)
 refine JL_q (q_load Tryz.isAgg138) (k := ?_)
 refine Z276 ?_
 refine JL_inl (args := [_]) (c_callA Tryz.call90) Tryz.func90 Tryz.ntmps90 ?_
 refine Z195 ?_
 refine Z107 ?_
 refine Z57 ?_
 refine Z179 ?_
 refine Z481 ?_
 refine JL_inl (args := [_, _]) (c_callA Tryz.call129) Tryz.func129 Tryz.ntmps129 ?_
 refine Z2 ?_
 refine Z276 ?_
 refine JL_inl (args := [_, _]) (c_callA Tryz.call151) Tryz.func151 Tryz.ntmps151 ?_
 refine Z216 ?_
 refine Z323 ?_
 refine J_loop2 (σ1 := Nat) (σ2 := Nat) (fun n_2 x_1 => ((r3, oc [(Value.func (.func 89) [].toArray [].toArray), (Value.func (.func 90) [].toArray [].toArray), (Value.func (.func 91) [].toArray [].toArray)] 138) :: ((r2, oc [(vs s_gens_a s.gens.length s_gens_c), (vs s_used_a s.used.length s_used_c), (vs s_free_a s.free.length s_free_c)] 131) :: ((r1, oc [(vs s_gens_a s.gens.length s_gens_c), (vs s_used_a s.used.length s_used_c), (vs s_free_a s.free.length s_free_c)] 25) :: [])))) (fun n_2 x_1 => [(0, (vs s_gens_a s.gens.length s_gens_c)), (1, (Value.func (.func 128) [].toArray [].toArray)), (4, (vi 0)), (7, (vi ((s.gens.length : Nat) : Int))), (8, (vi ((x_1 : Nat) : Int)))]) (fun n_2 x_1 => s.gens.length - x_1 < n_2 ∧ Is (sRight_l0 s (s.gens.length + 1) 0) (sRight_l0 s n_2 x_1) ∧ x_1 ≤ s.gens.length) (fun n_2 x_1 => n_2) (s.gens.length + 1) 0 ?_ se (List.Perm.refl _) ?_
 ·exact ⟨Nat.lt_succ_self _, Is.refl _, (by first | omega | rfl | (simp; done))⟩
 ·rintro (_ | n_2) x_1 ⟨hm4, hF3, hi5⟩
  ·omega
  refine Z38 ?_
  refine J_dec rfl (fun hq4 => ?_) (fun hq4 => ?_)
  rotate_left
  ·refine J_exit ?_
   refine Z272 ?_
   refine Z472 ?_
   refine Z6 ?_
   refine JX_retI Tryz.results129 (Res.tmp rfl Res.nil) ?_
   refine Z484 ?_
   refine Z6 ?_
   refine JX_retI Tryz.results90 (Res.tmp rfl Res.nil) ?_
   refine Z326 ?_
   refine Z100 ?_
   refine Z391 ?_
   refine Z446 ?_
   refine Z195 ?_
   refine JL_a noMk a_map (k := fun r12 hr12 => ?_)
   refine Z104 ?_
   refine Z400 ?_
   refine Z323 ?_
   refine J_loop5 (σ1 := Nat) (σ2 := Nat) (σ3 := List Int) (σ4 := Array MapEntry) (σ5 := Nat) (fun n_34 x_32 x_33 x_33e x_33k => ((r12, Obj.map x_33e x_33k) :: ((r3, oc [(Value.func (.func 89) [].toArray [].toArray), (Value.func (.func 90) [].toArray [].toArray), (Value.func (.func 91) [].toArray [].toArray)] 138) :: ((r2, oc [(vs s_gens_a s.gens.length s_gens_c), (vs s_used_a s.used.length s_used_c), (vs s_free_a s.free.length s_free_c)] 131) :: ((r1, oc [(vs s_gens_a s.gens.length s_gens_c), (vs s_used_a s.used.length s_used_c), (vs s_free_a s.free.length s_free_c)] 25) :: []))))) (fun n_34 x_32 x_33 x_33e x_33k => [(0, (Value.pointer (some ⟨r2, 0, none⟩))), (2, (Value.bool false)), (3, (Value.map (some r12))), (12, (vs s_free_a s.free.length s_free_c)), (13, (vi ((s.free.length : Nat) : Int))), (14, (vi ((x_32 : Nat) : Int)))]) (fun n_34 x_32 x_33 x_33e x_33k => s.free.length - x_32 < n_34 ∧ Is (sRight_l5 s x_1 (s.free.length + 1) 0 ([] : List Int)) (sRight_l5 s x_1 n_34 x_32 x_33) ∧ MSet (fun x : Int => vi x) x_33e x_33 ∧ x_32 ≤ s.free.length) (fun n_34 x_32 x_33 x_33e x_33k => n_34) (s.free.length + 1) 0 ([] : List Int) (#[]) 0 ?_ se (List.Perm.refl _) ?_
   ·exact ⟨Nat.lt_succ_self _, Is.refl _, MSet.nil, (by first | omega | rfl | (simp; done))⟩
   ·rintro (_ | n_34) x_32 x_33 x_33e x_33k ⟨hm36, hF35, hx_33, hi37⟩
    ·omega
    refine Z38 ?_
    refine J_dec rfl (fun hq25 => ?_) (fun hq25 => ?_)
    rotate_left
    ·refine J_exit ?_
     refine Z353 ?_
     refine Z57 ?_
     refine Z179 ?_
     refine Z487 ?_
     refine JL_a noMk (a_alloc (l := [_]) Tryz.zeroValue3) (k := fun r13 hr13 => ?_)
     refine Z422 ?_
     refine Z4 ?_
     refine Z348 ?_
     refine JL_a noMk (a_box (l := [_])) (k := fun r14 hr14 => ?_)
     refine Z438 ?_
     refine Z426 ?_
     refine J_rangeI noMk rfl Tryz.call126 Tryz.func126 Tryz.ntmps126 (fun l15 rD15 rr15 hl15 => ?_)
     refine Z471 ?_
     refine Z57 ?_
     refine Z226 ?_
     refine Z367 ?_
     refine J_loop3 (σ1 := Nat) (σ2 := Nat) (σ3 := Int) (fun n_40 x_38 x_39 => ((l15, loopAt rr15 .ready none) :: ((rD15, Obj.deferred (some [])) :: ((r14, oc [(Value.pointer (some ⟨r2, 0, none⟩))] 129) :: ((r13, oc [(vi x_39)] 3) :: ((r12, Obj.map x_33e x_33k) :: ((r3, oc [(Value.func (.func 89) [].toArray [].toArray), (Value.func (.func 90) [].toArray [].toArray), (Value.func (.func 91) [].toArray [].toArray)] 138) :: ((r2, oc [(vs s_gens_a s.gens.length s_gens_c), (vs s_used_a s.used.length s_used_c), (vs s_free_a s.free.length s_free_c)] 131) :: ((r1, oc [(vs s_gens_a s.gens.length s_gens_c), (vs s_used_a s.used.length s_used_c), (vs s_free_a s.free.length s_free_c)] 25) :: []))))))))) (fun n_40 x_38 x_39 => [(0, (Value.func (.yield l15) [].toArray [].toArray)), (1, (Value.pointer (some ⟨r14, 0, none⟩))), (9, (vs s_used_a s.used.length s_used_c)), (10, (vi ((s.used.length : Nat) : Int))), (11, (vi ((x_38 : Nat) : Int)))]) (fun n_40 x_38 x_39 => s.used.length - x_38 < n_40 ∧ Is (sRight_l6 s x_1 x_32 x_33 (s.used.length + 1) 0 ((s.gens.length : Nat) : Int)) (sRight_l6 s x_1 x_32 x_33 n_40 x_38 x_39) ∧ x_38 ≤ s.used.length ∧ (0 ≤ x_39 + ((x_38 : Nat) : Int) ∧ x_39 ≤ 1000)) (fun n_40 x_38 x_39 => n_40) (s.used.length + 1) 0 ((s.gens.length : Nat) : Int) ?_ se (List.Perm.refl _) ?_
     ·exact ⟨Nat.lt_succ_self _, Is.refl _, (by first | omega | rfl | (simp; done)), (by first | omega | rfl | (simp; done))⟩
     ·rintro (_ | n_40) x_38 x_39 ⟨hm42, hF41, hi43, hi44⟩
      ·omega
      refine Z38 ?_
      refine J_dec rfl (fun hq30 => ?_) (fun hq30 => ?_)
      ·refine J_skip ?_
       refine JX_seq ?_
       refine Z265 ?_
       refine JL_q (q_idx (n := s.used.length) Tryz.runUnderlying23 Tryz.sizeOf4 x_38 (SlJ.of_base h_s_used) (gD (by first | exact ix)) (by first | rfl | simp)) (k := ?_)
       refine JL_q (q_loadE Tryz.isAgg4 x_38 0 (SlJ.of_base h_s_used) (gD (by first | exact ix))) (k := ?_)
       refine Z488 ?_
       refine Z276 ?_
       refine JL_bool 17 rfl (fun hq31 => ?_) (fun hq31 => ?_)
       rotate_left
       ·refine JL_skips 13 rfl ?_
        refine Z98 ?_
        refine Z306 ?_
        exact JX_inv3 n_40 (x_38 + 1) x_39 ⟨by omega, ((hF41.pos hq30).f hq31), (by first | omega | (simp only [List.length_append, List.length_cons, List.length_nil]; omega)), (by first | omega | (simp only [List.length_append, List.length_cons, List.length_nil]; omega))⟩ (Nat.lt_succ_self _) se (List.Perm.refl _)
       refine Z468 ?_
       refine Z187 ?_
       refine Z369 ?_
       refine Z489 ?_
       refine JL_qg (q_idx (n := s.gens.length) Tryz.runUnderlying22 Tryz.sizeOf3 x_38 (SlJ.of_base h_s_gens) (gD (by first | exact ix)) (by first | rfl | simp)) (k := ?_)
       refine JL_qg (q_loadE Tryz.isAgg3 x_38 0 (SlJ.of_base h_s_gens) (gD (by first | exact ix))) (k := ?_)
       refine Z490 ?_
       refine JL_yIng (vs := [(Value.agg [(vi ((x_38 : Nat) : Int)), (vi (s.gens.getD x_38 default))].toArray)]) hl15 q0 y_call ?_
       refine J_skip ?_
       refine JX_begin q0 ?_
       refine J_block ?_
       refine Z486 ?_
       refine Z423 ?_
       refine Z491 ?_
       refine JL_nil ?_
       refine JX_block ?_
       refine JX_roundI q0 ?_
       refine Z210 ?_
       refine Z306 ?_
       exact JX_inv3 n_40 (x_38 + 1) (x_39 - 1) ⟨by omega, ((hF41.pos hq30).t hq31), (by first | omega | (simp only [List.length_append, List.length_cons, List.length_nil]; omega)), (by first | omega | (simp only [List.length_append, List.length_cons, List.length_nil]; omega))⟩ (Nat.lt_succ_self _) se (List.Perm.refl _)
      refine J_exit ?_
      refine Z191 ?_
      refine JX_it0 (.inr rfl) Tryz.results126 q0 ?_
      refine Z452 ?_
      refine Z345 ?_
      refine JL_q (q_lenMS Tryz.runUnderlying142 hx_33) (k := ?_)
      refine JL_q q_eql (k := ?_)
      refine Z6 ?_
      refine JX_retIM [rD15] (qa q0) Tryz.results91 (Res.tmp rfl Res.nil) ?_
      refine Z257 ?_
      refine J_dec rfl (fun hq32 => ?_) (fun hq32 => ?_)
      ·refine J_seq ?_
       refine Z486 ?_
       refine Z271 ?_
       refine JX_ret Tryz.results52 (Res.tmp rfl Res.nil) (fun w1 hw1 => ?_)
       exact ⟨(by rw [(((((((hF.pos hq1).pos hq2).neg hq3).ok1 (hF3.neg hq4)).ok2 (hF35.neg hq25)).rn2 (hF41.neg hq30)).pos hq32).eq] <;> first | rfl | (simp only [List.length_set] <;> rfl)), hw1.ext_out⟩
      refine Z250 ?_
      refine Z272 ?_
      refine Z85 ?_
      refine JX_ret Tryz.results52 (Res.tmp rfl Res.nil) (fun w1 hw1 => ?_)
      exact ⟨(by rw [(((((((hF.pos hq1).pos hq2).neg hq3).ok1 (hF3.neg hq4)).ok2 (hF35.neg hq25)).rn2 (hF41.neg hq30)).neg hq32).eq] <;> first | rfl | (simp only [List.length_set] <;> rfl)), hw1.ext_out⟩
    refine Z14 ?_
    refine Z61 ?_
    refine JL_q (q_idx (n := s.free.length) Tryz.runUnderlying22 Tryz.sizeOf3 x_32 (SlJ.of_base h_s_free) (gD (by first | exact ix)) (by first | rfl | simp)) (k := ?_)
    refine JL_q (q_loadE Tryz.isAgg3 x_32 0 (SlJ.of_base h_s_free) (gD (by first | exact ix))) (k := ?_)
    refine Z104 ?_
    refine Z209 ?_
    refine JL_dec 20 rfl (fun hq26 => ?_) (fun hq26 => ?_)
    ·refine JL_skips 8 rfl ?_
     refine Z18 ?_
     refine JL_skips 8 rfl ?_
     refine Z241 ?_
     refine Z462 ?_
     refine JX_ret Tryz.results52 (Res.tmp rfl Res.nil) (fun w1 hw1 => ?_)
     exact ⟨(by rw [(((((hF.pos hq1).pos hq2).neg hq3).ok1 (hF3.neg hq4)).er2 ((hF35.pos hq25).pos hq26)).eq] <;> first | rfl | (simp only [List.length_set] <;> rfl)), hw1.ext_out⟩
    refine Z141 ?_
    refine Z187 ?_
    refine Z188 ?_
    refine JL_qg (q_lenS Tryz.runUnderlying23) (k := ?_)
    refine JL_qg q_geq (k := ?_)
    refine Z5 ?_
    refine JL_dec 30 rfl (fun hq27 => ?_) (fun hq27 => ?_)
    ·refine JL_skips 8 rfl ?_
     refine Z241 ?_
     refine Z462 ?_
     refine JX_ret Tryz.results52 (Res.tmp rfl Res.nil) (fun w1 hw1 => ?_)
     exact ⟨(by rw [(((((hF.pos hq1).pos hq2).neg hq3).ok1 (hF3.neg hq4)).er2 (((hF35.pos hq25).neg hq26).pos hq27)).eq] <;> first | rfl | (simp only [List.length_set] <;> rfl)), hw1.ext_out⟩
    refine Z489 ?_
    refine Z187 ?_
    refine Z188 ?_
    refine Z489 ?_
    refine JL_qg (q_idx (n := s.used.length) Tryz.runUnderlying23 Tryz.sizeOf4 ((s.free.getD x_32 default).toNat) (SlJ.of_base h_s_used) (gD (by first | exact ix)) (by first | rfl | simp)) (k := ?_)
    refine JL_qg (q_loadE Tryz.isAgg4 ((s.free.getD x_32 default).toNat) 0 (SlJ.of_base h_s_used) (gD (by first | exact ix))) (k := ?_)
    refine Z5 ?_
    refine JL_bool 40 rfl (fun hq28 => ?_) (fun hq28 => ?_)
    ·refine JL_skips 3 rfl ?_
     refine Z462 ?_
     refine JX_ret Tryz.results52 (Res.tmp rfl Res.nil) (fun w1 hw1 => ?_)
     exact ⟨(by rw [(((((hF.pos hq1).pos hq2).neg hq3).ok1 (hF3.neg hq4)).er2 ((((hF35.pos hq25).neg hq26).neg hq27).t hq28)).eq] <;> first | rfl | (simp only [List.length_set] <;> rfl)), hw1.ext_out⟩
    refine Z141 ?_
    refine JL_qg (q_inSet (xs := x_33) (s.free.getD x_32 default) keyInt Tryz.runUnderlying142 Tryz.runUnderlying3 Tryz.zeroValue4 hx_33) (k := ?_)
    refine Z247 ?_
    refine J_dec rfl (fun hq29 => ?_) (fun hq29 => ?_)
    rotate_left
    ·refine J_skip ?_
     refine JX_seq ?_
     refine Z174 ?_
     refine JL_sput (xs := x_33) (s.free.getD x_32 default) keyInt Tryz.runUnderlying142 Tryz.runUnderlying3 hx_33 (by assumption) q0 (k := fun em9 km9 hms9 => ?_)
     refine JL_nil ?_
     refine Z40 ?_
     exact JX_inv5 n_34 (x_32 + 1) (x_33 ++ [(s.free.getD x_32 default)]) em9 km9 ⟨by omega, (((((hF35.pos hq25).neg hq26).neg hq27).f hq28).neg hq29), hms9, (by omega)⟩ (Nat.lt_succ_self _) se (List.Perm.refl _)
    refine Z2 ?_
    refine Z402 ?_
    refine JX_ret Tryz.results52 (Res.tmp rfl Res.nil) (fun w1 hw1 => ?_)
    exact ⟨(by rw [(((((hF.pos hq1).pos hq2).neg hq3).ok1 (hF3.neg hq4)).er2 (((((hF35.pos hq25).neg hq26).neg hq27).f hq28).pos hq29)).eq] <;> first | rfl | (simp only [List.length_set] <;> rfl)), hw1.ext_out⟩
  refine Z476 ?_
  refine Z107 ?_
  refine Z27 ?_
  refine JL_q (q_idx (n := s.gens.length) Tryz.runUnderlying22 Tryz.sizeOf3 x_1 (SlJ.of_base h_s_gens) (gD (by first | exact ix)) (by first | rfl | simp)) (k := ?_)
  refine JL_q (q_loadE Tryz.isAgg3 x_1 0 (SlJ.of_base h_s_gens) (gD (by first | exact ix))) (k := ?_)
  refine JL_inl (args := [_]) (c_callA Tryz.call128) Tryz.func128 Tryz.ntmps128 ?_
  refine Z2 ?_
  refine Z107 ?_
  refine Z209 ?_
  refine JL_dec 5 rfl (fun hq5 => ?_) (fun hq5 => ?_)
  ·refine JL_skips 2 rfl ?_
   refine Z79 ?_
   refine JX_retI Tryz.results128 (Res.tmp rfl Res.nil) ?_
   refine Z45 ?_
   refine Z4 ?_
   refine Z105 ?_
   refine Z472 ?_
   refine Z6 ?_
   refine JX_retI Tryz.results129 (Res.tmp rfl Res.nil) ?_
   refine JL_q q_notD (k := ?_)
   refine Z6 ?_
   refine JX_retI Tryz.results90 (Res.tmp rfl Res.nil) ?_
   refine Z257 ?_
   refine J_dec rfl (fun hq6 => ?_) (fun hq6 => ?_)
   ·refine J_seq ?_
    refine Z486 ?_
    refine Z271 ?_
    refine JX_ret Tryz.results52 (Res.tmp rfl Res.nil) (fun w1 hw1 => ?_)
    exact ⟨(by rw [(((((hF.pos hq1).pos hq2).neg hq3).er1 ((hF3.pos hq4).pos hq5)).pos hq6).eq] <;> first | rfl | (simp only [List.length_set] <;> rfl)), hw1.ext_out⟩
   refine Z100 ?_
   refine Z391 ?_
   refine Z446 ?_
   refine Z195 ?_
   refine JL_a noMk a_map (k := fun r4 hr4 => ?_)
   refine Z104 ?_
   refine Z400 ?_
   refine Z323 ?_
   refine J_loop5 (σ1 := Nat) (σ2 := Nat) (σ3 := List Int) (σ4 := Array MapEntry) (σ5 := Nat) (fun n_8 x_6 x_7 x_7e x_7k => ((r4, Obj.map x_7e x_7k) :: ((r3, oc [(Value.func (.func 89) [].toArray [].toArray), (Value.func (.func 90) [].toArray [].toArray), (Value.func (.func 91) [].toArray [].toArray)] 138) :: ((r2, oc [(vs s_gens_a s.gens.length s_gens_c), (vs s_used_a s.used.length s_used_c), (vs s_free_a s.free.length s_free_c)] 131) :: ((r1, oc [(vs s_gens_a s.gens.length s_gens_c), (vs s_used_a s.used.length s_used_c), (vs s_free_a s.free.length s_free_c)] 25) :: []))))) (fun n_8 x_6 x_7 x_7e x_7k => [(0, (Value.pointer (some ⟨r2, 0, none⟩))), (2, (Value.bool false)), (3, (Value.map (some r4))), (12, (vs s_free_a s.free.length s_free_c)), (13, (vi ((s.free.length : Nat) : Int))), (14, (vi ((x_6 : Nat) : Int)))]) (fun n_8 x_6 x_7 x_7e x_7k => s.free.length - x_6 < n_8 ∧ Is (sRight_l1 s x_1 (s.free.length + 1) 0 ([] : List Int)) (sRight_l1 s x_1 n_8 x_6 x_7) ∧ MSet (fun x : Int => vi x) x_7e x_7 ∧ x_6 ≤ s.free.length) (fun n_8 x_6 x_7 x_7e x_7k => n_8) (s.free.length + 1) 0 ([] : List Int) (#[]) 0 ?_ se (List.Perm.refl _) ?_
   ·exact ⟨Nat.lt_succ_self _, Is.refl _, MSet.nil, (by first | omega | rfl | (simp; done))⟩
   ·rintro (_ | n_8) x_6 x_7 x_7e x_7k ⟨hm10, hF9, hx_7, hi11⟩
    ·omega
    refine Z38 ?_
    refine J_dec rfl (fun hq7 => ?_) (fun hq7 => ?_)
    rotate_left
    ·refine J_exit ?_
     refine Z353 ?_
     refine Z57 ?_
     refine Z179 ?_
     refine Z487 ?_
     refine JL_a noMk (a_alloc (l := [_]) Tryz.zeroValue3) (k := fun r5 hr5 => ?_)
     refine Z422 ?_
     refine Z4 ?_
     refine Z348 ?_
     refine JL_a noMk (a_box (l := [_])) (k := fun r6 hr6 => ?_)
     refine Z438 ?_
     refine Z426 ?_
     refine J_rangeI noMk rfl Tryz.call126 Tryz.func126 Tryz.ntmps126 (fun l7 rD7 rr7 hl7 => ?_)
     refine Z471 ?_
     refine Z57 ?_
     refine Z226 ?_
     refine Z367 ?_
     refine J_loop3 (σ1 := Nat) (σ2 := Nat) (σ3 := Int) (fun n_14 x_12 x_13 => ((l7, loopAt rr7 .ready none) :: ((rD7, Obj.deferred (some [])) :: ((r6, oc [(Value.pointer (some ⟨r2, 0, none⟩))] 129) :: ((r5, oc [(vi x_13)] 3) :: ((r4, Obj.map x_7e x_7k) :: ((r3, oc [(Value.func (.func 89) [].toArray [].toArray), (Value.func (.func 90) [].toArray [].toArray), (Value.func (.func 91) [].toArray [].toArray)] 138) :: ((r2, oc [(vs s_gens_a s.gens.length s_gens_c), (vs s_used_a s.used.length s_used_c), (vs s_free_a s.free.length s_free_c)] 131) :: ((r1, oc [(vs s_gens_a s.gens.length s_gens_c), (vs s_used_a s.used.length s_used_c), (vs s_free_a s.free.length s_free_c)] 25) :: []))))))))) (fun n_14 x_12 x_13 => [(0, (Value.func (.yield l7) [].toArray [].toArray)), (1, (Value.pointer (some ⟨r6, 0, none⟩))), (9, (vs s_used_a s.used.length s_used_c)), (10, (vi ((s.used.length : Nat) : Int))), (11, (vi ((x_12 : Nat) : Int)))]) (fun n_14 x_12 x_13 => s.used.length - x_12 < n_14 ∧ Is (sRight_l2 s x_1 x_6 x_7 (s.used.length + 1) 0 ((s.gens.length : Nat) : Int)) (sRight_l2 s x_1 x_6 x_7 n_14 x_12 x_13) ∧ x_12 ≤ s.used.length ∧ (0 ≤ x_13 + ((x_12 : Nat) : Int) ∧ x_13 ≤ 1000)) (fun n_14 x_12 x_13 => n_14) (s.used.length + 1) 0 ((s.gens.length : Nat) : Int) ?_ se (List.Perm.refl _) ?_
     ·exact ⟨Nat.lt_succ_self _, Is.refl _, (by first | omega | rfl | (simp; done)), (by first | omega | rfl | (simp; done))⟩
     ·rintro (_ | n_14) x_12 x_13 ⟨hm16, hF15, hi17, hi18⟩
      ·omega
      refine Z38 ?_
      refine J_dec rfl (fun hq12 => ?_) (fun hq12 => ?_)
      ·refine J_skip ?_
       refine JX_seq ?_
       refine Z265 ?_
       refine JL_q (q_idx (n := s.used.length) Tryz.runUnderlying23 Tryz.sizeOf4 x_12 (SlJ.of_base h_s_used) (gD (by first | exact ix)) (by first | rfl | simp)) (k := ?_)
       refine JL_q (q_loadE Tryz.isAgg4 x_12 0 (SlJ.of_base h_s_used) (gD (by first | exact ix))) (k := ?_)
       refine Z488 ?_
       refine Z276 ?_
       refine JL_bool 17 rfl (fun hq13 => ?_) (fun hq13 => ?_)
       rotate_left
       ·refine JL_skips 13 rfl ?_
        refine Z98 ?_
        refine Z306 ?_
        exact JX_inv3 n_14 (x_12 + 1) x_13 ⟨by omega, ((hF15.pos hq12).f hq13), (by first | omega | (simp only [List.length_append, List.length_cons, List.length_nil]; omega)), (by first | omega | (simp only [List.length_append, List.length_cons, List.length_nil]; omega))⟩ (Nat.lt_succ_self _) se (List.Perm.refl _)
       refine Z468 ?_
       refine Z187 ?_
       refine Z369 ?_
       refine Z489 ?_
       refine JL_qg (q_idx (n := s.gens.length) Tryz.runUnderlying22 Tryz.sizeOf3 x_12 (SlJ.of_base h_s_gens) (gD (by first | exact ix)) (by first | rfl | simp)) (k := ?_)
       refine JL_qg (q_loadE Tryz.isAgg3 x_12 0 (SlJ.of_base h_s_gens) (gD (by first | exact ix))) (k := ?_)
       refine Z490 ?_
       refine JL_yIng (vs := [(Value.agg [(vi ((x_12 : Nat) : Int)), (vi (s.gens.getD x_12 default))].toArray)]) hl7 q0 y_call ?_
       refine J_skip ?_
       refine JX_begin q0 ?_
       refine J_block ?_
       refine Z486 ?_
       refine Z423 ?_
       refine Z491 ?_
       refine JL_nil ?_
       refine JX_block ?_
       refine JX_roundI q0 ?_
       refine Z210 ?_
       refine Z306 ?_
       exact JX_inv3 n_14 (x_12 + 1) (x_13 - 1) ⟨by omega, ((hF15.pos hq12).t hq13), (by first | omega | (simp only [List.length_append, List.length_cons, List.length_nil]; omega)), (by first | omega | (simp only [List.length_append, List.length_cons, List.length_nil]; omega))⟩ (Nat.lt_succ_self _) se (List.Perm.refl _)
      refine J_exit ?_
      refine Z191 ?_
      refine JX_it0 (.inr rfl) Tryz.results126 q0 ?_
      refine Z452 ?_
      refine Z345 ?_
      refine JL_q (q_lenMS Tryz.runUnderlying142 hx_7) (k := ?_)
      refine JL_q q_eql (k := ?_)
      refine Z6 ?_
      refine JX_retIM [rD7] (qa q0) Tryz.results91 (Res.tmp rfl Res.nil) ?_
      refine Z257 ?_
      refine J_dec rfl (fun hq14 => ?_) (fun hq14 => ?_)
      ·refine J_seq ?_
       refine Z486 ?_
       refine Z271 ?_
       refine JX_ret Tryz.results52 (Res.tmp rfl Res.nil) (fun w1 hw1 => ?_)
       exact ⟨(by rw [((((((((hF.pos hq1).pos hq2).neg hq3).er1 ((hF3.pos hq4).pos hq5)).neg hq6).ok2 (hF9.neg hq7)).rn2 (hF15.neg hq12)).pos hq14).eq] <;> first | rfl | (simp only [List.length_set] <;> rfl)), hw1.ext_out⟩
      refine Z250 ?_
      refine Z272 ?_
      refine Z85 ?_
      refine JX_ret Tryz.results52 (Res.tmp rfl Res.nil) (fun w1 hw1 => ?_)
      exact ⟨(by rw [((((((((hF.pos hq1).pos hq2).neg hq3).er1 ((hF3.pos hq4).pos hq5)).neg hq6).ok2 (hF9.neg hq7)).rn2 (hF15.neg hq12)).neg hq14).eq] <;> first | rfl | (simp only [List.length_set] <;> rfl)), hw1.ext_out⟩
    refine Z14 ?_
    refine Z61 ?_
    refine JL_q (q_idx (n := s.free.length) Tryz.runUnderlying22 Tryz.sizeOf3 x_6 (SlJ.of_base h_s_free) (gD (by first | exact ix)) (by first | rfl | simp)) (k := ?_)
    refine JL_q (q_loadE Tryz.isAgg3 x_6 0 (SlJ.of_base h_s_free) (gD (by first | exact ix))) (k := ?_)
    refine Z104 ?_
    refine Z209 ?_
    refine JL_dec 20 rfl (fun hq8 => ?_) (fun hq8 => ?_)
    ·refine JL_skips 8 rfl ?_
     refine Z18 ?_
     refine JL_skips 8 rfl ?_
     refine Z241 ?_
     refine Z462 ?_
     refine JX_ret Tryz.results52 (Res.tmp rfl Res.nil) (fun w1 hw1 => ?_)
     exact ⟨(by rw [((((((hF.pos hq1).pos hq2).neg hq3).er1 ((hF3.pos hq4).pos hq5)).neg hq6).er2 ((hF9.pos hq7).pos hq8)).eq] <;> first | rfl | (simp only [List.length_set] <;> rfl)), hw1.ext_out⟩
    refine Z141 ?_
    refine Z187 ?_
    refine Z188 ?_
    refine JL_qg (q_lenS Tryz.runUnderlying23) (k := ?_)
    refine JL_qg q_geq (k := ?_)
    refine Z5 ?_
    refine JL_dec 30 rfl (fun hq9 => ?_) (fun hq9 => ?_)
    ·refine JL_skips 8 rfl ?_
     refine Z241 ?_
     refine Z462 ?_
     refine JX_ret Tryz.results52 (Res.tmp rfl Res.nil) (fun w1 hw1 => ?_)
     exact ⟨(by rw [((((((hF.pos hq1).pos hq2).neg hq3).er1 ((hF3.pos hq4).pos hq5)).neg hq6).er2 (((hF9.pos hq7).neg hq8).pos hq9)).eq] <;> first | rfl | (simp only [List.length_set] <;> rfl)), hw1.ext_out⟩
    refine Z489 ?_
    refine Z187 ?_
    refine Z188 ?_
    refine Z489 ?_
    refine JL_qg (q_idx (n := s.used.length) Tryz.runUnderlying23 Tryz.sizeOf4 ((s.free.getD x_6 default).toNat) (SlJ.of_base h_s_used) (gD (by first | exact ix)) (by first | rfl | simp)) (k := ?_)
    refine JL_qg (q_loadE Tryz.isAgg4 ((s.free.getD x_6 default).toNat) 0 (SlJ.of_base h_s_used) (gD (by first | exact ix))) (k := ?_)
    refine Z5 ?_
    refine JL_bool 40 rfl (fun hq10 => ?_) (fun hq10 => ?_)
    ·refine JL_skips 3 rfl ?_
     refine Z462 ?_
     refine JX_ret Tryz.results52 (Res.tmp rfl Res.nil) (fun w1 hw1 => ?_)
     exact ⟨(by rw [((((((hF.pos hq1).pos hq2).neg hq3).er1 ((hF3.pos hq4).pos hq5)).neg hq6).er2 ((((hF9.pos hq7).neg hq8).neg hq9).t hq10)).eq] <;> first | rfl | (simp only [List.length_set] <;> rfl)), hw1.ext_out⟩
    refine Z141 ?_
    refine JL_qg (q_inSet (xs := x_7) (s.free.getD x_6 default) keyInt Tryz.runUnderlying142 Tryz.runUnderlying3 Tryz.zeroValue4 hx_7) (k := ?_)
    refine Z247 ?_
    refine J_dec rfl (fun hq11 => ?_) (fun hq11 => ?_)
    rotate_left
    ·refine J_skip ?_
     refine JX_seq ?_
     refine Z174 ?_
     refine JL_sput (xs := x_7) (s.free.getD x_6 default) keyInt Tryz.runUnderlying142 Tryz.runUnderlying3 hx_7 (by assumption) q0 (k := fun em3 km3 hms3 => ?_)
     refine JL_nil ?_
     refine Z40 ?_
     exact JX_inv5 n_8 (x_6 + 1) (x_7 ++ [(s.free.getD x_6 default)]) em3 km3 ⟨by omega, (((((hF9.pos hq7).neg hq8).neg hq9).f hq10).neg hq11), hms3, (by omega)⟩ (Nat.lt_succ_self _) se (List.Perm.refl _)
    refine Z2 ?_
    refine Z402 ?_
    refine JX_ret Tryz.results52 (Res.tmp rfl Res.nil) (fun w1 hw1 => ?_)
    exact ⟨(by rw [((((((hF.pos hq1).pos hq2).neg hq3).er1 ((hF3.pos hq4).pos hq5)).neg hq6).er2 (((((hF9.pos hq7).neg hq8).neg hq9).f hq10).pos hq11)).eq] <;> first | rfl | (simp only [List.length_set] <;> rfl)), hw1.ext_out⟩
  refine Z409 ?_
  refine Z26 ?_
  refine JX_retI Tryz.results128 (Res.tmp rfl Res.nil) ?_
  refine Z0 ?_
  refine J_dec rfl (fun hq15 => ?_) (fun hq15 => ?_)
  rotate_left
  ·refine J_skip ?_
   refine Z40 ?_
   exact JX_inv2 n_2 (x_1 + 1) ⟨by omega, (((hF3.pos hq4).neg hq5).neg hq15), (by omega)⟩ (Nat.lt_succ_self _) se (List.Perm.refl _)
  refine Z4 ?_
  refine Z105 ?_
  refine Z472 ?_
  refine Z6 ?_
  refine JX_retI Tryz.results129 (Res.tmp rfl Res.nil) ?_
  refine JL_q q_notD (k := ?_)
  refine Z6 ?_
  refine JX_retI Tryz.results90 (Res.tmp rfl Res.nil) ?_
  refine Z257 ?_
  refine J_dec rfl (fun hq16 => ?_) (fun hq16 => ?_)
  ·refine J_seq ?_
   refine Z486 ?_
   refine Z271 ?_
   refine JX_ret Tryz.results52 (Res.tmp rfl Res.nil) (fun w1 hw1 => ?_)
   exact ⟨(by rw [(((((hF.pos hq1).pos hq2).neg hq3).er1 (((hF3.pos hq4).neg hq5).pos hq15)).pos hq16).eq] <;> first | rfl | (simp only [List.length_set] <;> rfl)), hw1.ext_out⟩
  refine Z100 ?_
  refine Z391 ?_
  refine Z446 ?_
  refine Z195 ?_
  refine JL_a noMk a_map (k := fun r8 hr8 => ?_)
  refine Z104 ?_
  refine Z400 ?_
  refine Z323 ?_
  refine J_loop5 (σ1 := Nat) (σ2 := Nat) (σ3 := List Int) (σ4 := Array MapEntry) (σ5 := Nat) (fun n_21 x_19 x_20 x_20e x_20k => ((r8, Obj.map x_20e x_20k) :: ((r3, oc [(Value.func (.func 89) [].toArray [].toArray), (Value.func (.func 90) [].toArray [].toArray), (Value.func (.func 91) [].toArray [].toArray)] 138) :: ((r2, oc [(vs s_gens_a s.gens.length s_gens_c), (vs s_used_a s.used.length s_used_c), (vs s_free_a s.free.length s_free_c)] 131) :: ((r1, oc [(vs s_gens_a s.gens.length s_gens_c), (vs s_used_a s.used.length s_used_c), (vs s_free_a s.free.length s_free_c)] 25) :: []))))) (fun n_21 x_19 x_20 x_20e x_20k => [(0, (Value.pointer (some ⟨r2, 0, none⟩))), (2, (Value.bool false)), (3, (Value.map (some r8))), (12, (vs s_free_a s.free.length s_free_c)), (13, (vi ((s.free.length : Nat) : Int))), (14, (vi ((x_19 : Nat) : Int)))]) (fun n_21 x_19 x_20 x_20e x_20k => s.free.length - x_19 < n_21 ∧ Is (sRight_l3 s x_1 (s.free.length + 1) 0 ([] : List Int)) (sRight_l3 s x_1 n_21 x_19 x_20) ∧ MSet (fun x : Int => vi x) x_20e x_20 ∧ x_19 ≤ s.free.length) (fun n_21 x_19 x_20 x_20e x_20k => n_21) (s.free.length + 1) 0 ([] : List Int) (#[]) 0 ?_ se (List.Perm.refl _) ?_
  ·exact ⟨Nat.lt_succ_self _, Is.refl _, MSet.nil, (by first | omega | rfl | (simp; done))⟩
  ·rintro (_ | n_21) x_19 x_20 x_20e x_20k ⟨hm23, hF22, hx_20, hi24⟩
   ·omega
   refine Z38 ?_
   refine J_dec rfl (fun hq17 => ?_) (fun hq17 => ?_)
   rotate_left
   ·refine J_exit ?_
    refine Z353 ?_
    refine Z57 ?_
    refine Z179 ?_
    refine Z487 ?_
    refine JL_a noMk (a_alloc (l := [_]) Tryz.zeroValue3) (k := fun r9 hr9 => ?_)
    refine Z422 ?_
    refine Z4 ?_
    refine Z348 ?_
    refine JL_a noMk (a_box (l := [_])) (k := fun r10 hr10 => ?_)
    refine Z438 ?_
    refine Z426 ?_
    refine J_rangeI noMk rfl Tryz.call126 Tryz.func126 Tryz.ntmps126 (fun l11 rD11 rr11 hl11 => ?_)
    refine Z471 ?_
    refine Z57 ?_
    refine Z226 ?_
    refine Z367 ?_
    refine J_loop3 (σ1 := Nat) (σ2 := Nat) (σ3 := Int) (fun n_27 x_25 x_26 => ((l11, loopAt rr11 .ready none) :: ((rD11, Obj.deferred (some [])) :: ((r10, oc [(Value.pointer (some ⟨r2, 0, none⟩))] 129) :: ((r9, oc [(vi x_26)] 3) :: ((r8, Obj.map x_20e x_20k) :: ((r3, oc [(Value.func (.func 89) [].toArray [].toArray), (Value.func (.func 90) [].toArray [].toArray), (Value.func (.func 91) [].toArray [].toArray)] 138) :: ((r2, oc [(vs s_gens_a s.gens.length s_gens_c), (vs s_used_a s.used.length s_used_c), (vs s_free_a s.free.length s_free_c)] 131) :: ((r1, oc [(vs s_gens_a s.gens.length s_gens_c), (vs s_used_a s.used.length s_used_c), (vs s_free_a s.free.length s_free_c)] 25) :: []))))))))) (fun n_27 x_25 x_26 => [(0, (Value.func (.yield l11) [].toArray [].toArray)), (1, (Value.pointer (some ⟨r10, 0, none⟩))), (9, (vs s_used_a s.used.length s_used_c)), (10, (vi ((s.used.length : Nat) : Int))), (11, (vi ((x_25 : Nat) : Int)))]) (fun n_27 x_25 x_26 => s.used.length - x_25 < n_27 ∧ Is (sRight_l4 s x_1 x_19 x_20 (s.used.length + 1) 0 ((s.gens.length : Nat) : Int)) (sRight_l4 s x_1 x_19 x_20 n_27 x_25 x_26) ∧ x_25 ≤ s.used.length ∧ (0 ≤ x_26 + ((x_25 : Nat) : Int) ∧ x_26 ≤ 1000)) (fun n_27 x_25 x_26 => n_27) (s.used.length + 1) 0 ((s.gens.length : Nat) : Int) ?_ se (List.Perm.refl _) ?_
    ·exact ⟨Nat.lt_succ_self _, Is.refl _, (by first | omega | rfl | (simp; done)), (by first | omega | rfl | (simp; done))⟩
    ·rintro (_ | n_27) x_25 x_26 ⟨hm29, hF28, hi30, hi31⟩
     ·omega
     refine Z38 ?_
     refine J_dec rfl (fun hq22 => ?_) (fun hq22 => ?_)
     ·refine J_skip ?_
      refine JX_seq ?_
      refine Z265 ?_
      refine JL_q (q_idx (n := s.used.length) Tryz.runUnderlying23 Tryz.sizeOf4 x_25 (SlJ.of_base h_s_used) (gD (by first | exact ix)) (by first | rfl | simp)) (k := ?_)
      refine JL_q (q_loadE Tryz.isAgg4 x_25 0 (SlJ.of_base h_s_used) (gD (by first | exact ix))) (k := ?_)
      refine Z488 ?_
      refine Z276 ?_
      refine JL_bool 17 rfl (fun hq23 => ?_) (fun hq23 => ?_)
      rotate_left
      ·refine JL_skips 13 rfl ?_
       refine Z98 ?_
       refine Z306 ?_
       exact JX_inv3 n_27 (x_25 + 1) x_26 ⟨by omega, ((hF28.pos hq22).f hq23), (by first | omega | (simp only [List.length_append, List.length_cons, List.length_nil]; omega)), (by first | omega | (simp only [List.length_append, List.length_cons, List.length_nil]; omega))⟩ (Nat.lt_succ_self _) se (List.Perm.refl _)
      refine Z468 ?_
      refine Z187 ?_
      refine Z369 ?_
      refine Z489 ?_
      refine JL_qg (q_idx (n := s.gens.length) Tryz.runUnderlying22 Tryz.sizeOf3 x_25 (SlJ.of_base h_s_gens) (gD (by first | exact ix)) (by first | rfl | simp)) (k := ?_)
      refine JL_qg (q_loadE Tryz.isAgg3 x_25 0 (SlJ.of_base h_s_gens) (gD (by first | exact ix))) (k := ?_)
      refine Z490 ?_
      refine JL_yIng (vs := [(Value.agg [(vi ((x_25 : Nat) : Int)), (vi (s.gens.getD x_25 default))].toArray)]) hl11 q0 y_call ?_
      refine J_skip ?_
      refine JX_begin q0 ?_
      refine J_block ?_
      refine Z486 ?_
      refine Z423 ?_
      refine Z491 ?_
      refine JL_nil ?_
      refine JX_block ?_
      refine JX_roundI q0 ?_
      refine Z210 ?_
      refine Z306 ?_
      exact JX_inv3 n_27 (x_25 + 1) (x_26 - 1) ⟨by omega, ((hF28.pos hq22).t hq23), (by first | omega | (simp only [List.length_append, List.length_cons, List.length_nil]; omega)), (by first | omega | (simp only [List.length_append, List.length_cons, List.length_nil]; omega))⟩ (Nat.lt_succ_self _) se (List.Perm.refl _)
     refine J_exit ?_
     refine Z191 ?_
     refine JX_it0 (.inr rfl) Tryz.results126 q0 ?_
     refine Z452 ?_
     refine Z345 ?_
     refine JL_q (q_lenMS Tryz.runUnderlying142 hx_20) (k := ?_)
     refine JL_q q_eql (k := ?_)
     refine Z6 ?_
     refine JX_retIM [rD11] (qa q0) Tryz.results91 (Res.tmp rfl Res.nil) ?_
     refine Z257 ?_
     refine J_dec rfl (fun hq24 => ?_) (fun hq24 => ?_)
     ·refine J_seq ?_
      refine Z486 ?_
      refine Z271 ?_
      refine JX_ret Tryz.results52 (Res.tmp rfl Res.nil) (fun w1 hw1 => ?_)
      exact ⟨(by rw [((((((((hF.pos hq1).pos hq2).neg hq3).er1 (((hF3.pos hq4).neg hq5).pos hq15)).neg hq16).ok2 (hF22.neg hq17)).rn2 (hF28.neg hq22)).pos hq24).eq] <;> first | rfl | (simp only [List.length_set] <;> rfl)), hw1.ext_out⟩
     refine Z250 ?_
     refine Z272 ?_
     refine Z85 ?_
     refine JX_ret Tryz.results52 (Res.tmp rfl Res.nil) (fun w1 hw1 => ?_)
     exact ⟨(by rw [((((((((hF.pos hq1).pos hq2).neg hq3).er1 (((hF3.pos hq4).neg hq5).pos hq15)).neg hq16).ok2 (hF22.neg hq17)).rn2 (hF28.neg hq22)).neg hq24).eq] <;> first | rfl | (simp only [List.length_set] <;> rfl)), hw1.ext_out⟩
   refine Z14 ?_
   refine Z61 ?_
   refine JL_q (q_idx (n := s.free.length) Tryz.runUnderlying22 Tryz.sizeOf3 x_19 (SlJ.of_base h_s_free) (gD (by first | exact ix)) (by first | rfl | simp)) (k := ?_)
   refine JL_q (q_loadE Tryz.isAgg3 x_19 0 (SlJ.of_base h_s_free) (gD (by first | exact ix))) (k := ?_)
   refine Z104 ?_
   refine Z209 ?_
   refine JL_dec 20 rfl (fun hq18 => ?_) (fun hq18 => ?_)
   ·refine JL_skips 8 rfl ?_
    refine Z18 ?_
    refine JL_skips 8 rfl ?_
    refine Z241 ?_
    refine Z462 ?_
    refine JX_ret Tryz.results52 (Res.tmp rfl Res.nil) (fun w1 hw1 => ?_)
    exact ⟨(by rw [((((((hF.pos hq1).pos hq2).neg hq3).er1 (((hF3.pos hq4).neg hq5).pos hq15)).neg hq16).er2 ((hF22.pos hq17).pos hq18)).eq] <;> first | rfl | (simp only [List.length_set] <;> rfl)), hw1.ext_out⟩
   refine Z141 ?_
   refine Z187 ?_
   refine Z188 ?_
   refine JL_qg (q_lenS Tryz.runUnderlying23) (k := ?_)
   refine JL_qg q_geq (k := ?_)
   refine Z5 ?_
   refine JL_dec 30 rfl (fun hq19 => ?_) (fun hq19 => ?_)
   ·refine JL_skips 8 rfl ?_
    refine Z241 ?_
    refine Z462 ?_
    refine JX_ret Tryz.results52 (Res.tmp rfl Res.nil) (fun w1 hw1 => ?_)
    exact ⟨(by rw [((((((hF.pos hq1).pos hq2).neg hq3).er1 (((hF3.pos hq4).neg hq5).pos hq15)).neg hq16).er2 (((hF22.pos hq17).neg hq18).pos hq19)).eq] <;> first | rfl | (simp only [List.length_set] <;> rfl)), hw1.ext_out⟩
   refine Z489 ?_
   refine Z187 ?_
   refine Z188 ?_
   refine Z489 ?_
   refine JL_qg (q_idx (n := s.used.length) Tryz.runUnderlying23 Tryz.sizeOf4 ((s.free.getD x_19 default).toNat) (SlJ.of_base h_s_used) (gD (by first | exact ix)) (by first | rfl | simp)) (k := ?_)
   refine JL_qg (q_loadE Tryz.isAgg4 ((s.free.getD x_19 default).toNat) 0 (SlJ.of_base h_s_used) (gD (by first | exact ix))) (k := ?_)
   refine Z5 ?_
   refine JL_bool 40 rfl (fun hq20 => ?_) (fun hq20 => ?_)
   ·refine JL_skips 3 rfl ?_
    refine Z462 ?_
    refine JX_ret Tryz.results52 (Res.tmp rfl Res.nil) (fun w1 hw1 => ?_)
    exact ⟨(by rw [((((((hF.pos hq1).pos hq2).neg hq3).er1 (((hF3.pos hq4).neg hq5).pos hq15)).neg hq16).er2 ((((hF22.pos hq17).neg hq18).neg hq19).t hq20)).eq] <;> first | rfl | (simp only [List.length_set] <;> rfl)), hw1.ext_out⟩
   refine Z141 ?_
   refine JL_qg (q_inSet (xs := x_20) (s.free.getD x_19 default) keyInt Tryz.runUnderlying142 Tryz.runUnderlying3 Tryz.zeroValue4 hx_20) (k := ?_)
   refine Z247 ?_
   refine J_dec rfl (fun hq21 => ?_) (fun hq21 => ?_)
   rotate_left
   ·refine J_skip ?_
    refine JX_seq ?_
    refine Z174 ?_
    refine JL_sput (xs := x_20) (s.free.getD x_19 default) keyInt Tryz.runUnderlying142 Tryz.runUnderlying3 hx_20 (by assumption) q0 (k := fun em6 km6 hms6 => ?_)
    refine JL_nil ?_
    refine Z40 ?_
    exact JX_inv5 n_21 (x_19 + 1) (x_20 ++ [(s.free.getD x_19 default)]) em6 km6 ⟨by omega, (((((hF22.pos hq17).neg hq18).neg hq19).f hq20).neg hq21), hms6, (by omega)⟩ (Nat.lt_succ_self _) se (List.Perm.refl _)
   refine Z2 ?_
   refine Z402 ?_
   refine JX_ret Tryz.results52 (Res.tmp rfl Res.nil) (fun w1 hw1 => ?_)
   exact ⟨(by rw [((((((hF.pos hq1).pos hq2).neg hq3).er1 (((hF3.pos hq4).neg hq5).pos hq15)).neg hq16).er2 (((((hF22.pos hq17).neg hq18).neg hq19).f hq20).pos hq21)).eq] <;> first | rfl | (simp only [List.length_set] <;> rfl)), hw1.ext_out⟩

theorem sAll_ok (w : World) {s_gens_a : Option Addr} {s_gens_c : Nat} {s_used_a : Option Addr} {s_used_c : Nat} {s_free_a : Option Addr} {s_free_c : Nat} {s : Slots} (h_s_gens : Sl w eI 1 s_gens_a s.gens) (n_s_gens : s.gens.length ≤ 1000) (h_s_used : Sl w eB 1 s_used_a s.used) (n_s_used : s.used.length ≤ 1000) (h_s_free : Sl w eI 1 s_free_a s.free) (n_s_free : s.free.length ≤ 1000) : Calls Tryz.prog 48 (List.toArray [(Value.agg [(vs s_gens_a s.gens.length s_gens_c), (vs s_used_a s.used.length s_used_c), (vs s_free_a s.free.length s_free_c)].toArray)]) w fun e w2 => ∃ a1 : Option Addr, ∃ c1 : Nat, ∃ B : Heap, e = .returned (vs a1 ((sAll s).length) c1) ∧ Fresh w w2 B ∧ SlB B eHandle 2 a1 (sAll s) ∧ (sAll s).length ≤ 1000 := by
 have hF := Is.refl (sAll s)
 refine enterD Tryz.func48 Tryz.ntmps48 (h := ?_)
 refine Z2 ?_
 refine JL_a noMk (a_box (l := [_, _, _])) (k := fun r1 hr1 => ?_)
 refine Z427 ?_
 refine Z135 ?_
 refine Z189 ?_
 refine J_cond rfl (fun hq1 => ?_) (fun hq1 => ?_)
 ·refine J_seq ?_
  refine Z270 ?_
  refine JX_retD [] (List.Perm.refl _) Tryz.results48 (Res.tmp rfl Res.nil) (fun w1 hw1 => ?_)
  exact ⟨none, 0, [], (by rw [(hF.t hq1).eq] <;> first | rfl | (simp only [List.length_set] <;> rfl)), (hw1.fresh_out.sub (List.nil_sublist _)), (by rw [(hF.t hq1).eq]; exact SlB.nil), (by rw [(hF.t hq1).eq]; first | exact lb)⟩
 have hfhq1 := sRight_t (by simpa using hq1)
 refine Z390 ?_
 refine JL_a noMk (a_alloc (l := [_]) Tryz.zeroValue90) (k := fun r2 hr2 => ?_)
 refine Z320 ?_
 refine Z482 ?_
 refine JL_q (q_build (cs := [_, _, _]) Tryz.zeroValue131 PL_131) (k := ?_)
 refine JL_a noMk (a_box (l := [_, _, _])) (k := fun r3 hr3 => ?_)
 refine JL_q q_func (k := ?_)
 refine Z104 ?_
 refine Z348 ?_
 refine JL_a noMk (a_box (l := [_])) (k := fun r4 hr4 => ?_)
 refine Z438 ?_
 refine Z426 ?_
 refine J_rangeI noMk rfl Tryz.call126 Tryz.func126 Tryz.ntmps126 (fun l5 rD5 rr5 hl5 => ?_)
 refine Z471 ?_
 refine Z57 ?_
 refine Z226 ?_
 refine Z367 ?_
 refine J_loop6 (σ1 := Nat) (σ2 := Nat) (σ3 := List Handle) (σ4 := Option Addr) (σ5 := Nat) (σ6 := Heap) (fun n_3 x_1 x_2 x_2a x_2c x_2B => (x_2B ++ ((l5, loopAt rr5 .ready none) :: ((rD5, Obj.deferred (some [])) :: ((r4, oc [(Value.pointer (some ⟨r3, 0, none⟩))] 129) :: ((r3, oc [(vs s_gens_a s.gens.length s_gens_c), (vs s_used_a s.used.length s_used_c), (vs s_free_a s.free.length s_free_c)] 131) :: ((r2, oc [(vs x_2a x_2.length x_2c)] 90) :: ((r1, oc [(vs s_gens_a s.gens.length s_gens_c), (vs s_used_a s.used.length s_used_c), (vs s_free_a s.free.length s_free_c)] 25) :: [])))))))) (fun n_3 x_1 x_2 x_2a x_2c x_2B => [(0, (Value.func (.yield l5) [].toArray [].toArray)), (1, (Value.pointer (some ⟨r4, 0, none⟩))), (9, (vs s_used_a s.used.length s_used_c)), (10, (vi ((s.used.length : Nat) : Int))), (11, (vi ((x_1 : Nat) : Int)))]) (fun n_3 x_1 x_2 x_2a x_2c x_2B => s.used.length - x_1 < n_3 ∧ Is (sAll_l0 s (s.used.length + 1) 0 []) (sAll_l0 s n_3 x_1 x_2) ∧ OwnB eHandle 2 42 x_2a x_2c x_2B x_2 ∧ x_1 ≤ s.used.length ∧ x_2.length ≤ x_1) (fun n_3 x_1 x_2 x_2a x_2c x_2B => n_3) (s.used.length + 1) 0 ([]) none 0 ([]) ?_ se (List.Perm.refl _) ?_
 ·exact ⟨Nat.lt_succ_self _, Is.refl _, OwnB.nil, (by first | omega | rfl | (simp; done)), (by first | omega | rfl | (simp; done))⟩
 ·rintro (_ | n_3) x_1 x_2 x_2a x_2c x_2B ⟨hm5, hF4, hx_2, hi6, hi7⟩
  ·omega
  refine Z38 ?_
  refine J_dec rfl (fun hq2 => ?_) (fun hq2 => ?_)
  rotate_left
  ·refine J_exit ?_
   refine Z191 ?_
   refine JX_it0 (.inr rfl) Tryz.results126 (qc q0) ?_
   refine Z452 ?_
   refine JL_q (q_load Tryz.isAgg90) (k := ?_)
   refine Z6 ?_
   refine JX_retD [rD5] (qa (qc q0)) Tryz.results48 (Res.tmp rfl Res.nil) (fun w1 hw1 => ?_)
   exact ⟨x_2a, x_2c, x_2B, (by rw [((hF.f hq1).rn2 (hF4.neg hq2)).eq] <;> first | rfl | (simp only [List.length_set] <;> rfl)), (fresh_segs (L := x_2B) (hw1.perm (qb q0)) rfl.symm), (by rw [((hF.f hq1).rn2 (hF4.neg hq2)).eq]; exact (hx_2.slb eHandle_ok)), (by rw [((hF.f hq1).rn2 (hF4.neg hq2)).eq]; first | exact lb)⟩
  refine Z476 ?_
  refine JL_q (q_idx (n := s.used.length) Tryz.runUnderlying23 Tryz.sizeOf4 x_1 (SlJ.of_base h_s_used) (gD (by first | exact ix)) (by first | rfl | simp)) (k := ?_)
  refine JL_q (q_loadE Tryz.isAgg4 x_1 0 (SlJ.of_base h_s_used) (gD (by first | exact ix))) (k := ?_)
  refine Z488 ?_
  refine Z276 ?_
  refine JL_bool 17 rfl (fun hq3 => ?_) (fun hq3 => ?_)
  rotate_left
  ·refine JL_skips 13 rfl ?_
   refine Z98 ?_
   refine Z306 ?_
   exact JX_inv6 n_3 (x_1 + 1) x_2 x_2a x_2c x_2B ⟨by omega, ((hF4.pos hq2).f hq3), hx_2, (by first | omega | (simp only [List.length_append, List.length_cons, List.length_nil]; omega)), (by first | omega | (simp only [List.length_append, List.length_cons, List.length_nil]; omega))⟩ (Nat.lt_succ_self _) se (List.Perm.refl _)
  refine Z468 ?_
  refine Z187 ?_
  refine Z369 ?_
  refine Z489 ?_
  refine JL_qg (q_idx (n := s.gens.length) Tryz.runUnderlying22 Tryz.sizeOf3 x_1 (SlJ.of_base h_s_gens) (gD (by first | exact ix)) (by first | rfl | simp)) (k := ?_)
  refine JL_qg (q_loadE Tryz.isAgg3 x_1 0 (SlJ.of_base h_s_gens) (gD (by first | exact ix))) (k := ?_)
  refine Z490 ?_
  refine JL_yIng (vs := [(Value.agg [(vi ((x_1 : Nat) : Int)), (vi (s.gens.getD x_1 default))].toArray)]) hl5 (qc q0) y_call ?_
  refine Z486 ?_
  refine JL_a noMk (a_alloc (l := [_, _]) Tryz.zeroValue42) (k := fun r6 hr6 => ?_)
  refine JL_s (w_store (l' := [_, _]) Tryz.sizeOf42) (k := ?_)
  refine JL_nil ?_
  refine Z194 ?_
  refine JL_q (q_load Tryz.isAgg90) (k := ?_)
  refine Z492 ?_
  refine JL_a noMk (a_bslice (l := [_, _]) Tryz.runUnderlying90 Tryz.sizeOf42 Tryz.zeroValue42) (k := fun r7 hr7 => ?_)
  refine JL_append (x_2 ++ ([(Handle.mk ((x_1 : Nat) : Int) (s.gens.getD x_1 default))] : List Handle)) rfl TY_42 Tryz.underlying90 eHandle_ok hx_2 (qb (qb (qb q0))) (SlJ.lit (xs := ([(Handle.mk ((x_1 : Nat) : Int) (s.gens.getD x_1 default))] : List Handle)) eHandle_ok) ⟨by omega, by omega⟩ (n := x_2.length) (m := 1) (k := fun ax1 cx1 Bx1 hox1 => ?_)
  have hal1 : (x_2 ++ ([(Handle.mk ((x_1 : Nat) : Int) (s.gens.getD x_1 default))] : List Handle)).length = x_2.length + 1 := by first | rfl | exact List.length_append | simp
  refine JL_s (w_store (l' := [_]) Tryz.sizeOf90) (k := ?_)
  refine JL_nil ?_
  refine Z222 ?_
  refine Z306 ?_
  refine JX_permL _ (((((((qa (qc (qa (qa (qa (qa (qa (qa q0)))))))).trans (qa (qa (qc (qa (qa (qa (qa (qa q0))))))))).trans (qa (qa (qa (qc (qa (qa (qa (qa q0))))))))).trans (qa (qa (qa (qa (qc (qa (qa (qa q0))))))))).trans (qa (qa (qa (qa (qa (qc (qa (qa q0))))))))).trans (qa (qa (qa (qa (qa q0)))))).trans (qb (qb (qb (qb (qb (qb q0))))))) ?_
  refine JX_subL _ (List.Sublist.append (List.Sublist.refl _) (List.Sublist.cons_cons _ (List.Sublist.cons_cons _ (List.Sublist.cons_cons _ (List.Sublist.cons_cons _ (List.Sublist.cons_cons _ (List.Sublist.cons_cons _ (List.nil_sublist _)))))))) ?_
  exact JX_inv6 n_3 (x_1 + 1) (x_2 ++ ([(Handle.mk ((x_1 : Nat) : Int) (s.gens.getD x_1 default))] : List Handle)) ax1 cx1 Bx1 ⟨by omega, ((hF4.pos hq2).t hq3), hox1, (by first | omega | (simp only [List.length_append, List.length_cons, List.length_nil]; omega)), (by first | omega | (simp only [List.length_append, List.length_cons, List.length_nil]; omega))⟩ (Nat.lt_succ_self _) se (List.Perm.refl _)

theorem sValid_ok (w : World) {s_gens_a : Option Addr} {s_gens_c : Nat} {s_used_a : Option Addr} {s_used_c : Nat} {s_free_a : Option Addr} {s_free_c : Nat} {s : Slots} {h : Handle} (h_s_gens : Sl w eI 1 s_gens_a s.gens) (n_s_gens : s.gens.length ≤ 1000) (h_s_used : Sl w eB 1 s_used_a s.used) (n_s_used : s.used.length ≤ 1000) (h_s_free : Sl w eI 1 s_free_a s.free) (n_s_free : s.free.length ≤ 1000) : Val Tryz.prog 21 [(Value.agg [(vs s_gens_a s.gens.length s_gens_c), (vs s_used_a s.used.length s_used_c), (vs s_free_a s.free.length s_free_c)].toArray), (Value.agg [(vi h.slot), (vi h.gen)].toArray)] w (Value.bool (sValid s h)) := by
 have hF := Is.refl (sValid s h)
 refine enter Tryz.func21 Tryz.ntmps21 (h := ?_)
 refine Z2 ?_
 refine JL_a noMk (a_box (l := [_, _, _])) (k := fun r1 hr1 => ?_)
 refine JL_a noMk (a_box (l := [_, _])) (k := fun r2 hr2 => ?_)
 refine Z427 ?_
 refine Z482 ?_
 refine JL_p (c_callA Tryz.call48) (fun w1 hw1 => sAll_ok w1 (s := s) (h_s_gens := (SlJ.of_base h_s_gens) w1 hw1) (n_s_gens := by first | exact lb | decide) (h_s_used := (SlJ.of_base h_s_used) w1 hw1) (n_s_used := by first | exact lb | decide) (h_s_free := (SlJ.of_base h_s_free) w1 hw1) (n_s_free := by first | exact lb | decide)) (k := ?_)
 rintro w1_1 e1_1 w2_1 hw1_1 ⟨a1_1, c1_1, B_1, he_1, hf_1, hs1_1, hl1_1⟩
 refine ⟨_, _, he_1, hw1_1.fresh hf_1, ?_⟩
 refine JL_q (q_lenS Tryz.runUnderlying90) (k := ?_)
 refine Z121 ?_
 refine J_loop2 (σ1 := Nat) (σ2 := Nat) (fun n_2 x_1 => (B_1 ++ ((r2, oc [(vi h.slot), (vi h.gen)] 42) :: ((r1, oc [(vs s_gens_a s.gens.length s_gens_c), (vs s_used_a s.used.length s_used_c), (vs s_free_a s.free.length s_free_c)] 25) :: [])))) (fun n_2 x_1 => [(3, (Value.pointer (some ⟨r2, 0, none⟩))), (4, (Value.bool false)), (8, (vs a1_1 ((sAll s).length) c1_1)), (9, (vi ((((sAll s).length) : Nat) : Int))), (10, (vi ((x_1 : Nat) : Int)))]) (fun n_2 x_1 => ((sAll s).length) - x_1 < n_2 ∧ Is (sValid_l0 s h (((sAll s).length) + 1) 0) (sValid_l0 s h n_2 x_1)) (fun n_2 x_1 => n_2) (((sAll s).length) + 1) 0 ?_ se (List.Perm.refl _) ?_
 ·exact ⟨Nat.lt_succ_self _, Is.refl _⟩
 ·rintro (_ | n_2) x_1 ⟨hm4, hF3⟩
  ·omega
  refine Z38 ?_
  refine J_dec rfl (fun hq1 => ?_) (fun hq1 => ?_)
  rotate_left
  ·refine J_exit ?_
   refine Z272 ?_
   refine JX_ret Tryz.results21 (Res.tmp rfl Res.nil) (fun w1 hw1 => ?_)
   exact ⟨(by rw [(hF.ok1 (hF3.neg hq1)).eq] <;> first | rfl | (simp only [List.length_set] <;> rfl)), hw1.ext_out⟩
  refine Z14 ?_
  refine Z61 ?_
  refine JL_q (q_idx (n := (sAll s).length) Tryz.runUnderlying90 Tryz.sizeOf42 x_1 (SlB.slj hs1_1) (gD (by first | exact ix)) (by first | rfl | simp)) (k := ?_)
  refine JL_q (q_loadEA Tryz.isAgg42 Tryz.sizeOf42 x_1 (SlB.slj hs1_1) (gD (by first | exact ix))) (k := ?_)
  refine JL_a noMk (a_alloc (l := [_, _]) Tryz.zeroValue42) (k := fun r3 hr3 => ?_)
  refine JL_s (w_store (l' := [_, _]) Tryz.sizeOf42) (k := ?_)
  refine Z320 ?_
  refine Z492 ?_
  refine Z492 ?_
  refine JL_q (q_eqS (EQ_42 _ _ _ _ _ _)) (k := ?_)
  refine Z0 ?_
  refine J_dec rfl (fun hq2 => ?_) (fun hq2 => ?_)
  rotate_left
  ·refine J_skip ?_
   refine Z40 ?_
   refine JX_permL _ (((qa (qc (qa q0))).trans (qa (qa (qc q0)))).trans (qb (qb (qb q0)))) ?_
   refine JX_subL _ (List.Sublist.append (List.Sublist.refl _) (List.Sublist.cons_cons _ (List.Sublist.cons_cons _ (List.nil_sublist _)))) ?_
   exact JX_inv2 n_2 (x_1 + 1) ⟨by omega, ((hF3.pos hq1).neg hq2)⟩ (Nat.lt_succ_self _) se (List.Perm.refl _)
  refine Z2 ?_
  refine Z105 ?_
  refine JX_ret Tryz.results21 (Res.tmp rfl Res.nil) (fun w1 hw1 => ?_)
  exact ⟨(by rw [(hF.er1 ((hF3.pos hq1).pos hq2)).eq] <;> first | rfl | (simp only [List.length_set] <;> rfl)), hw1.ext_out⟩

theorem sTake_ok (w : World) {s_gens_a : Option Addr} {s_gens_c : Nat} {s_used_a : Option Addr} {s_used_c : Nat} {s_free_a : Option Addr} {s_free_c : Nat} {s : Slots} (h_s_gens : Sl w eI 1 s_gens_a s.gens) (n_s_gens : s.gens.length ≤ 1000) (h_s_used : Sl w eB 1 s_used_a s.used) (n_s_used : s.used.length ≤ 1000) (h_s_free : Sl w eI 1 s_free_a s.free) (n_s_free : s.free.length ≤ 1000) : Calls Tryz.prog 110 (List.toArray [(Value.agg [(vs s_gens_a s.gens.length s_gens_c), (vs s_used_a s.used.length s_used_c), (vs s_free_a s.free.length s_free_c)].toArray)]) w fun e w2 => ∃ a1 : Option Addr, ∃ c1 : Nat, ∃ a2 : Option Addr, ∃ c2 : Nat, ∃ a3 : Option Addr, ∃ c3 : Nat, ∃ B : Heap, e = .returned (Value.tuple [(Value.agg [(vs a1 ((sTake s).1.gens.length) c1), (vs a2 ((sTake s).1.used.length) c2), (vs a3 ((sTake s).1.free.length) c3)].toArray), (Value.agg [(vi ((sTake s).2.1.slot)), (vi ((sTake s).2.1.gen))].toArray), (vi ((sTake s).2.2))].toArray) ∧ Fresh w w2 B ∧ SlB B eI 1 a1 (sTake s).1.gens ∧ SlB B eB 1 a2 (sTake s).1.used ∧ SlB B eI 1 a3 (sTake s).1.free ∧ (sTake s).1.gens.length ≤ 1000 ∧ (sTake s).1.used.length ≤ 1000 ∧ (sTake s).1.free.length ≤ 1000 := by
 have hF := Is.refl (sTake s)
 refine enter Tryz.func110 Tryz.ntmps110 (h := ?_)
 refine Z2 ?_
 refine JL_a noMk (a_box (l := [_, _, _])) (k := fun r1 hr1 => ?_)
 refine JL_a noMk (a_alloc (l := [_, _, _]) Tryz.zeroValue25) (k := fun r2 hr2 => ?_)
 refine JL_a noMk (a_alloc (l := [_, _]) Tryz.zeroValue42) (k := fun r3 hr3 => ?_)
 refine Z427 ?_
 refine Z135 ?_
 refine Z189 ?_
 refine J_cond rfl (fun hq1 => ?_) (fun hq1 => ?_)
 ·refine J_seq ?_
  refine Z486 ?_
  refine Z129 ?_
  refine Z128 ?_
  refine Z41 ?_
  refine JX_ret Tryz.results110 (Res.agg Tryz.isAgg25 Tryz.sizeOf25 rfl me rfl (Res.agg Tryz.isAgg42 Tryz.sizeOf42 rfl me rfl (Res.tmp rfl Res.nil))) (fun w1 hw1 => ?_)
  exact ⟨none, 0, none, 0, none, 0, [], (by rw [(hF.t hq1).eq] <;> first | rfl | (simp only [List.length_set] <;> rfl)), (hw1.fresh_out.sub (List.nil_sublist _)), (by rw [(hF.t hq1).eq]; exact SlB.nil), (by rw [(hF.t hq1).eq]; exact SlB.nil), (by rw [(hF.t hq1).eq]; exact SlB.nil), (by rw [(hF.t hq1).eq]; first | exact lb), (by rw [(hF.t hq1).eq]; first | exact lb), (by rw [(hF.t hq1).eq]; first | exact lb)⟩
 have hfhq1 := sRight_t (by simpa using hq1)
 refine Z390 ?_
 refine Z482 ?_
 refine JL_inl (args := [_]) (c_callA Tryz.call140) Tryz.func140 Tryz.ntmps140 ?_
 refine Z2 ?_
 refine JL_a noMk (a_box (l := [_, _, _])) (k := fun r4 hr4 => ?_)
 refine Z31 ?_
 refine J_any (V := []) mixed 14 (by kernel_rfl) ?_
 refine JG_q 0 rfl (by kernel_rfl) (q_fld FO_25_0) (k := ?_)
 refine JG_q 1 rfl (by kernel_rfl) (q_load Tryz.isAgg22) (k := ?_)
 refine JG_q 2 rfl (by kernel_rfl) (q_lenS Tryz.runUnderlying22) (k := ?_)
 refine JG_q 4 rfl (by kernel_rfl) (q_fld FO_25_1) (k := ?_)
 refine JG_q 5 rfl (by kernel_rfl) (q_load Tryz.isAgg23) (k := ?_)
 refine JG_q 7 rfl (by kernel_rfl) (q_fld FO_25_2) (k := ?_)
 refine JG_q 8 rfl (by kernel_rfl) (q_load Tryz.isAgg22) (k := ?_)
 refine JG_br [3, 6] (by kernel_rfl) rfl (List.forall_mem_cons.2 ⟨?_, (List.forall_mem_cons.2 ⟨?_, nofun⟩)⟩)
 ·skip
  refine JO_makeN rfl (n := s.gens.length) (x0 := default) TY_3 Tryz.underlying22 eI_ok rfl ⟨by omega, by omega⟩ (k := fun ax81 Bx81 hox81 => ?_)
  refine JG_br [6] (by kernel_rfl) rfl (List.forall_mem_cons.2 ⟨?_, nofun⟩)
  ·skip
   refine Z493 ?_
   rintro w1_141 e1_141 w2_141 hw1_141 ⟨a1_141, c1_141, B1_141, he_141, hf_141, ho1_141⟩
   refine ⟨_, _, _, he_141, hf_141, rfl, ?_⟩
   refine JG_br [9] (by kernel_rfl) rfl (List.forall_mem_cons.2 ⟨?_, nofun⟩)
   ·skip
    refine Z494 ?_
    rintro w1_201 e1_201 w2_201 hw1_201 ⟨a1_201, c1_201, B1_201, he_201, hf_201, ho1_201⟩
    refine ⟨_, _, _, he_201, hf_201, rfl, ?_⟩
    refine Z118 ?_
    refine JG_br [12] (by kernel_rfl) rfl (List.forall_mem_cons.2 ⟨?_, nofun⟩)
    ·skip
     refine JO_a rfl noMk (a_box (l := [_, _, _])) (k := fun r265 hr265 => ?_)
     refine Z440 ?_
     refine Z72 ?_
     refine Z113 ?_
     refine Z458 ?_
     refine Z83 ?_
     refine JD_copy (n := s.gens.length) TY_3 Tryz.underlying22 eI_ok hox81 q0 (SlJ.of_base h_s_gens) (by simp) rfl (kk := fun Bx302 hox302 => ?_)
     refine Z273 ?_
     refine Z237 ?_
     refine Z316 ?_
     refine Z107 ?_
     refine Z400 ?_
     refine Z487 ?_
     refine Z495 ?_
     refine Z31 ?_
     refine J_seq ?_
     refine Z176 ?_
     refine JD_q q_lss (k := ?_)
     refine Z483 ?_
     refine JD_dec 24 rfl (fun hq2 => ?_) (fun hq2 => ?_)
     ·refine JD_skips 16 rfl ?_
      refine Z92 ?_
      refine Z200 ?_
      refine Z129 ?_
      refine Z128 ?_
      refine Z41 ?_
      refine JX_ret Tryz.results110 (Res.agg Tryz.isAgg25 Tryz.sizeOf25 rfl me rfl (Res.agg Tryz.isAgg42 Tryz.sizeOf42 rfl me rfl (Res.tmp rfl Res.nil))) (fun w1 hw1 => ?_)
      exact ⟨none, 0, none, 0, none, 0, [], (by rw [((hF.f hq1).pos hq2).eq] <;> first | rfl | (simp only [List.length_set] <;> rfl)), (hw1.fresh_out.sub (List.nil_sublist _)), (by rw [((hF.f hq1).pos hq2).eq]; exact SlB.nil), (by rw [((hF.f hq1).pos hq2).eq]; exact SlB.nil), (by rw [((hF.f hq1).pos hq2).eq]; exact SlB.nil), (by rw [((hF.f hq1).pos hq2).eq]; first | exact lb), (by rw [((hF.f hq1).pos hq2).eq]; first | exact lb), (by rw [((hF.f hq1).pos hq2).eq]; first | exact lb)⟩
     refine Z485 ?_
     refine Z433 ?_
     refine Z290 ?_
     refine Z208 ?_
     refine JD_qg (q_fld FO_25_2) (k := ?_)
     refine Z290 ?_
     refine Z154 ?_
     refine Z136 ?_
     refine JD_qg q_eql (k := ?_)
     refine Z166 ?_
     refine Z0 ?_
     refine J_dec rfl (fun hq3 => ?_) (fun hq3 => ?_)
     ·refine J_seq ?_
      refine Z486 ?_
      refine Z129 ?_
      refine Z128 ?_
      refine Z41 ?_
      refine JX_ret Tryz.results110 (Res.agg Tryz.isAgg25 Tryz.sizeOf25 rfl me rfl (Res.agg Tryz.isAgg42 Tryz.sizeOf42 rfl me rfl (Res.tmp rfl Res.nil))) (fun w1 hw1 => ?_)
      exact ⟨none, 0, none, 0, none, 0, [], (by rw [(((hF.f hq1).neg hq2).pos hq3).eq] <;> first | rfl | (simp only [List.length_set] <;> rfl)), (hw1.fresh_out.sub (List.nil_sublist _)), (by rw [(((hF.f hq1).neg hq2).pos hq3).eq]; exact SlB.nil), (by rw [(((hF.f hq1).neg hq2).pos hq3).eq]; exact SlB.nil), (by rw [(((hF.f hq1).neg hq2).pos hq3).eq]; exact SlB.nil), (by rw [(((hF.f hq1).neg hq2).pos hq3).eq]; first | exact lb), (by rw [(((hF.f hq1).neg hq2).pos hq3).eq]; first | exact lb), (by rw [(((hF.f hq1).neg hq2).pos hq3).eq]; first | exact lb)⟩
     refine Z428 ?_
     refine Z400 ?_
     refine Z481 ?_
     refine Z155 ?_
     refine Z276 ?_
     refine Z400 ?_
     refine Z27 ?_
     have hl4 : (s.free.take ((((s.free.length : Nat) : Int) - 1).toNat)).length = (((s.free.length : Nat) : Int) - 1).toNat := by rw [List.length_take]; omega
     have hl4c := ho1_201.le'
     refine Z199 ?_
     refine JL_q (q_fld FO_25_2) (k := ?_)
     refine Z275 ?_
     refine Z57 ?_
     refine Z226 ?_
     refine Z196 ?_
     refine JL_storeE ((s.free.getD ((((s.free.length : Nat) : Int) - 1).toNat) default).toNat) true Tryz.sizeOf4 eB_ok ho1_141 (qd (qd q0)) (by first | omega | (simp only [List.length_set]; omega)) (k := fun Bs301 hos301 => ?_)
     refine Z237 ?_
     refine Z57 ?_
     refine Z179 ?_
     refine Z481 ?_
     refine Z137 ?_
     refine Z198 ?_
     refine JL_storeE ((s.free.getD ((((s.free.length : Nat) : Int) - 1).toNat) default).toNat) ((s.gens.getD ((s.free.getD ((((s.free.length : Nat) : Int) - 1).toNat) default).toNat) default) + 1) Tryz.sizeOf3 eI_ok hox302 (qd q0) (by first | omega | (simp only [List.length_set]; omega)) (k := fun Bs302 hos302 => ?_)
     refine Z72 ?_
     refine Z149 ?_
     refine Z88 ?_
     refine JD_q (q_loadA Tryz.isAgg25 Tryz.sizeOf25) (k := ?_)
     refine Z62 ?_
     refine Z458 ?_
     refine Z483 ?_
     refine Z469 ?_
     refine Z255 ?_
     refine Z124 ?_
     refine Z280 ?_
     refine JX_ret Tryz.results110 (Res.agg Tryz.isAgg25 Tryz.sizeOf25 rfl me rfl (Res.agg Tryz.isAgg42 Tryz.sizeOf42 rfl me rfl (Res.tmp rfl Res.nil))) (fun w1 hw1 => ?_)
     exact ⟨ax81, s.gens.length, a1_141, c1_141, a1_201, ((((s.free.length : Nat) : Int) - 1).toNat), (Bs302 ++ (Bs301 ++ B1_201)), (by rw [(((hF.f hq1).neg hq2).neg hq3).eq] <;> first | rfl | (simp only [List.length_set] <;> rfl)), (fresh_segs (L := (Bs302 ++ (Bs301 ++ B1_201))) (hw1.perm (((qb (qb (qd (qd q0)))).trans (qd (qb (qb (qd q0))))).trans (qd (qd (qb (qb q0)))))) (nA (nA rfl)).symm), (by rw [(((hF.f hq1).neg hq2).neg hq3).eq]; exact (hos302.slb eI_ok)), (by rw [(((hF.f hq1).neg hq2).neg hq3).eq]; exact (hos301.slb eB_ok)), (by rw [(((hF.f hq1).neg hq2).neg hq3).eq]; exact ((ho1_201.take eI_ok ((((s.free.length : Nat) : Int) - 1).toNat)).slb eI_ok)), (by rw [(((hF.f hq1).neg hq2).neg hq3).eq]; first | exact lb), (by rw [(((hF.f hq1).neg hq2).neg hq3).eq]; first | exact lb), (by rw [(((hF.f hq1).neg hq2).neg hq3).eq]; first | exact lb)⟩
 ·skip
  refine Z493 ?_
  rintro w1_141 e1_141 w2_141 hw1_141 ⟨a1_141, c1_141, B1_141, he_141, hf_141, ho1_141⟩
  refine ⟨_, _, _, he_141, hf_141, rfl, ?_⟩
  refine JG_br [3, 9] (by kernel_rfl) rfl (List.forall_mem_cons.2 ⟨?_, (List.forall_mem_cons.2 ⟨?_, nofun⟩)⟩)
  ·skip
   refine JO_makeN rfl (n := s.gens.length) (x0 := default) TY_3 Tryz.underlying22 eI_ok rfl ⟨by omega, by omega⟩ (k := fun ax81 Bx81 hox81 => ?_)
   refine JG_br [9] (by kernel_rfl) rfl (List.forall_mem_cons.2 ⟨?_, nofun⟩)
   ·skip
    refine Z494 ?_
    rintro w1_201 e1_201 w2_201 hw1_201 ⟨a1_201, c1_201, B1_201, he_201, hf_201, ho1_201⟩
    refine ⟨_, _, _, he_201, hf_201, rfl, ?_⟩
    refine Z118 ?_
    refine JG_br [12] (by kernel_rfl) rfl (List.forall_mem_cons.2 ⟨?_, nofun⟩)
    ·skip
     refine JO_a rfl noMk (a_box (l := [_, _, _])) (k := fun r265 hr265 => ?_)
     refine Z440 ?_
     refine Z72 ?_
     refine Z113 ?_
     refine Z458 ?_
     refine Z83 ?_
     refine JD_copy (n := s.gens.length) TY_3 Tryz.underlying22 eI_ok hox81 q0 (SlJ.of_base h_s_gens) (by simp) rfl (kk := fun Bx302 hox302 => ?_)
     refine Z273 ?_
     refine Z237 ?_
     refine Z316 ?_
     refine Z107 ?_
     refine Z400 ?_
     refine Z487 ?_
     refine Z495 ?_
     refine Z31 ?_
     refine J_seq ?_
     refine Z176 ?_
     refine JD_q q_lss (k := ?_)
     refine Z483 ?_
     refine JD_dec 24 rfl (fun hq5 => ?_) (fun hq5 => ?_)
     ·refine JD_skips 16 rfl ?_
      refine Z92 ?_
      refine Z200 ?_
      refine Z129 ?_
      refine Z128 ?_
      refine Z41 ?_
      refine JX_ret Tryz.results110 (Res.agg Tryz.isAgg25 Tryz.sizeOf25 rfl me rfl (Res.agg Tryz.isAgg42 Tryz.sizeOf42 rfl me rfl (Res.tmp rfl Res.nil))) (fun w1 hw1 => ?_)
      exact ⟨none, 0, none, 0, none, 0, [], (by rw [((hF.f hq1).pos hq5).eq] <;> first | rfl | (simp only [List.length_set] <;> rfl)), (hw1.fresh_out.sub (List.nil_sublist _)), (by rw [((hF.f hq1).pos hq5).eq]; exact SlB.nil), (by rw [((hF.f hq1).pos hq5).eq]; exact SlB.nil), (by rw [((hF.f hq1).pos hq5).eq]; exact SlB.nil), (by rw [((hF.f hq1).pos hq5).eq]; first | exact lb), (by rw [((hF.f hq1).pos hq5).eq]; first | exact lb), (by rw [((hF.f hq1).pos hq5).eq]; first | exact lb)⟩
     refine Z485 ?_
     refine Z433 ?_
     refine Z290 ?_
     refine Z208 ?_
     refine JD_qg (q_fld FO_25_2) (k := ?_)
     refine Z290 ?_
     refine Z154 ?_
     refine Z136 ?_
     refine JD_qg q_eql (k := ?_)
     refine Z166 ?_
     refine Z0 ?_
     refine J_dec rfl (fun hq6 => ?_) (fun hq6 => ?_)
     ·refine J_seq ?_
      refine Z486 ?_
      refine Z129 ?_
      refine Z128 ?_
      refine Z41 ?_
      refine JX_ret Tryz.results110 (Res.agg Tryz.isAgg25 Tryz.sizeOf25 rfl me rfl (Res.agg Tryz.isAgg42 Tryz.sizeOf42 rfl me rfl (Res.tmp rfl Res.nil))) (fun w1 hw1 => ?_)
      exact ⟨none, 0, none, 0, none, 0, [], (by rw [(((hF.f hq1).neg hq5).pos hq6).eq] <;> first | rfl | (simp only [List.length_set] <;> rfl)), (hw1.fresh_out.sub (List.nil_sublist _)), (by rw [(((hF.f hq1).neg hq5).pos hq6).eq]; exact SlB.nil), (by rw [(((hF.f hq1).neg hq5).pos hq6).eq]; exact SlB.nil), (by rw [(((hF.f hq1).neg hq5).pos hq6).eq]; exact SlB.nil), (by rw [(((hF.f hq1).neg hq5).pos hq6).eq]; first | exact lb), (by rw [(((hF.f hq1).neg hq5).pos hq6).eq]; first | exact lb), (by rw [(((hF.f hq1).neg hq5).pos hq6).eq]; first | exact lb)⟩
     refine Z428 ?_
     refine Z400 ?_
     refine Z481 ?_
     refine Z155 ?_
     refine Z276 ?_
     refine Z400 ?_
     refine Z27 ?_
     have hl7 : (s.free.take ((((s.free.length : Nat) : Int) - 1).toNat)).length = (((s.free.length : Nat) : Int) - 1).toNat := by rw [List.length_take]; omega
     have hl7c := ho1_201.le'
     refine Z199 ?_
     refine JL_q (q_fld FO_25_2) (k := ?_)
     refine Z275 ?_
     refine Z57 ?_
     refine Z226 ?_
     refine Z196 ?_
     refine JL_storeE ((s.free.getD ((((s.free.length : Nat) : Int) - 1).toNat) default).toNat) true Tryz.sizeOf4 eB_ok ho1_141 (qd (qd q0)) (by first | omega | (simp only [List.length_set]; omega)) (k := fun Bs301 hos301 => ?_)
     refine Z237 ?_
     refine Z57 ?_
     refine Z179 ?_
     refine Z481 ?_
     refine Z137 ?_
     refine Z198 ?_
     refine JL_storeE ((s.free.getD ((((s.free.length : Nat) : Int) - 1).toNat) default).toNat) ((s.gens.getD ((s.free.getD ((((s.free.length : Nat) : Int) - 1).toNat) default).toNat) default) + 1) Tryz.sizeOf3 eI_ok hox302 (qd q0) (by first | omega | (simp only [List.length_set]; omega)) (k := fun Bs302 hos302 => ?_)
     refine Z72 ?_
     refine Z149 ?_
     refine Z88 ?_
     refine JD_q (q_loadA Tryz.isAgg25 Tryz.sizeOf25) (k := ?_)
     refine Z62 ?_
     refine Z458 ?_
     refine Z483 ?_
     refine Z469 ?_
     refine Z255 ?_
     refine Z124 ?_
     refine Z280 ?_
     refine JX_ret Tryz.results110 (Res.agg Tryz.isAgg25 Tryz.sizeOf25 rfl me rfl (Res.agg Tryz.isAgg42 Tryz.sizeOf42 rfl me rfl (Res.tmp rfl Res.nil))) (fun w1 hw1 => ?_)
     exact ⟨ax81, s.gens.length, a1_141, c1_141, a1_201, ((((s.free.length : Nat) : Int) - 1).toNat), (Bs302 ++ (Bs301 ++ B1_201)), (by rw [(((hF.f hq1).neg hq5).neg hq6).eq] <;> first | rfl | (simp only [List.length_set] <;> rfl)), (fresh_segs (L := (Bs302 ++ (Bs301 ++ B1_201))) (hw1.perm (((qb (qb (qd (qd q0)))).trans (qd (qb (qb (qd q0))))).trans (qd (qd (qb (qb q0)))))) (nA (nA rfl)).symm), (by rw [(((hF.f hq1).neg hq5).neg hq6).eq]; exact (hos302.slb eI_ok)), (by rw [(((hF.f hq1).neg hq5).neg hq6).eq]; exact (hos301.slb eB_ok)), (by rw [(((hF.f hq1).neg hq5).neg hq6).eq]; exact ((ho1_201.take eI_ok ((((s.free.length : Nat) : Int) - 1).toNat)).slb eI_ok)), (by rw [(((hF.f hq1).neg hq5).neg hq6).eq]; first | exact lb), (by rw [(((hF.f hq1).neg hq5).neg hq6).eq]; first | exact lb), (by rw [(((hF.f hq1).neg hq5).neg hq6).eq]; first | exact lb)⟩
  ·skip
   refine Z494 ?_
   rintro w1_201 e1_201 w2_201 hw1_201 ⟨a1_201, c1_201, B1_201, he_201, hf_201, ho1_201⟩
   refine ⟨_, _, _, he_201, hf_201, rfl, ?_⟩
   refine JG_br [3] (by kernel_rfl) rfl (List.forall_mem_cons.2 ⟨?_, nofun⟩)
   ·skip
    refine JO_makeN rfl (n := s.gens.length) (x0 := default) TY_3 Tryz.underlying22 eI_ok rfl ⟨by omega, by omega⟩ (k := fun ax81 Bx81 hox81 => ?_)
    refine Z118 ?_
    refine JG_br [12] (by kernel_rfl) rfl (List.forall_mem_cons.2 ⟨?_, nofun⟩)
    ·skip
     refine JO_a rfl noMk (a_box (l := [_, _, _])) (k := fun r265 hr265 => ?_)
     refine Z440 ?_
     refine Z72 ?_
     refine Z113 ?_
     refine Z458 ?_
     refine Z83 ?_
     refine JD_copy (n := s.gens.length) TY_3 Tryz.underlying22 eI_ok hox81 q0 (SlJ.of_base h_s_gens) (by simp) rfl (kk := fun Bx302 hox302 => ?_)
     refine Z273 ?_
     refine Z237 ?_
     refine Z316 ?_
     refine Z107 ?_
     refine Z400 ?_
     refine Z487 ?_
     refine Z495 ?_
     refine Z31 ?_
     refine J_seq ?_
     refine Z176 ?_
     refine JD_q q_lss (k := ?_)
     refine Z483 ?_
     refine JD_dec 24 rfl (fun hq8 => ?_) (fun hq8 => ?_)
     ·refine JD_skips 16 rfl ?_
      refine Z92 ?_
      refine Z200 ?_
      refine Z129 ?_
      refine Z128 ?_
      refine Z41 ?_
      refine JX_ret Tryz.results110 (Res.agg Tryz.isAgg25 Tryz.sizeOf25 rfl me rfl (Res.agg Tryz.isAgg42 Tryz.sizeOf42 rfl me rfl (Res.tmp rfl Res.nil))) (fun w1 hw1 => ?_)
      exact ⟨none, 0, none, 0, none, 0, [], (by rw [((hF.f hq1).pos hq8).eq] <;> first | rfl | (simp only [List.length_set] <;> rfl)), (hw1.fresh_out.sub (List.nil_sublist _)), (by rw [((hF.f hq1).pos hq8).eq]; exact SlB.nil), (by rw [((hF.f hq1).pos hq8).eq]; exact SlB.nil), (by rw [((hF.f hq1).pos hq8).eq]; exact SlB.nil), (by rw [((hF.f hq1).pos hq8).eq]; first | exact lb), (by rw [((hF.f hq1).pos hq8).eq]; first | exact lb), (by rw [((hF.f hq1).pos hq8).eq]; first | exact lb)⟩
     refine Z485 ?_
     refine Z433 ?_
     refine Z290 ?_
     refine Z208 ?_
     refine JD_qg (q_fld FO_25_2) (k := ?_)
     refine Z290 ?_
     refine Z154 ?_
     refine Z136 ?_
     refine JD_qg q_eql (k := ?_)
     refine Z166 ?_
     refine Z0 ?_
     refine J_dec rfl (fun hq9 => ?_) (fun hq9 => ?_)
     ·refine J_seq ?_
      refine Z486 ?_
      refine Z129 ?_
      refine Z128 ?_
      refine Z41 ?_
      refine JX_ret Tryz.results110 (Res.agg Tryz.isAgg25 Tryz.sizeOf25 rfl me rfl (Res.agg Tryz.isAgg42 Tryz.sizeOf42 rfl me rfl (Res.tmp rfl Res.nil))) (fun w1 hw1 => ?_)
      exact ⟨none, 0, none, 0, none, 0, [], (by rw [(((hF.f hq1).neg hq8).pos hq9).eq] <;> first | rfl | (simp only [List.length_set] <;> rfl)), (hw1.fresh_out.sub (List.nil_sublist _)), (by rw [(((hF.f hq1).neg hq8).pos hq9).eq]; exact SlB.nil), (by rw [(((hF.f hq1).neg hq8).pos hq9).eq]; exact SlB.nil), (by rw [(((hF.f hq1).neg hq8).pos hq9).eq]; exact SlB.nil), (by rw [(((hF.f hq1).neg hq8).pos hq9).eq]; first | exact lb), (by rw [(((hF.f hq1).neg hq8).pos hq9).eq]; first | exact lb), (by rw [(((hF.f hq1).neg hq8).pos hq9).eq]; first | exact lb)⟩
     refine Z428 ?_
     refine Z400 ?_
     refine Z481 ?_
     refine Z155 ?_
     refine Z276 ?_
     refine Z400 ?_
     refine Z27 ?_
     have hl10 : (s.free.take ((((s.free.length : Nat) : Int) - 1).toNat)).length = (((s.free.length : Nat) : Int) - 1).toNat := by rw [List.length_take]; omega
     have hl10c := ho1_201.le'
     refine Z199 ?_
     refine JL_q (q_fld FO_25_2) (k := ?_)
     refine Z275 ?_
     refine Z57 ?_
     refine Z226 ?_
     refine Z196 ?_
     refine JL_storeE ((s.free.getD ((((s.free.length : Nat) : Int) - 1).toNat) default).toNat) true Tryz.sizeOf4 eB_ok ho1_141 (qd (qd q0)) (by first | omega | (simp only [List.length_set]; omega)) (k := fun Bs301 hos301 => ?_)
     refine Z237 ?_
     refine Z57 ?_
     refine Z179 ?_
     refine Z481 ?_
     refine Z137 ?_
     refine Z198 ?_
     refine JL_storeE ((s.free.getD ((((s.free.length : Nat) : Int) - 1).toNat) default).toNat) ((s.gens.getD ((s.free.getD ((((s.free.length : Nat) : Int) - 1).toNat) default).toNat) default) + 1) Tryz.sizeOf3 eI_ok hox302 (qd q0) (by first | omega | (simp only [List.length_set]; omega)) (k := fun Bs302 hos302 => ?_)
     refine Z72 ?_
     refine Z149 ?_
     refine Z88 ?_
     refine JD_q (q_loadA Tryz.isAgg25 Tryz.sizeOf25) (k := ?_)
     refine Z62 ?_
     refine Z458 ?_
     refine Z483 ?_
     refine Z469 ?_
     refine Z255 ?_
     refine Z124 ?_
     refine Z280 ?_
     refine JX_ret Tryz.results110 (Res.agg Tryz.isAgg25 Tryz.sizeOf25 rfl me rfl (Res.agg Tryz.isAgg42 Tryz.sizeOf42 rfl me rfl (Res.tmp rfl Res.nil))) (fun w1 hw1 => ?_)
     exact ⟨ax81, s.gens.length, a1_141, c1_141, a1_201, ((((s.free.length : Nat) : Int) - 1).toNat), (Bs302 ++ (Bs301 ++ B1_201)), (by rw [(((hF.f hq1).neg hq8).neg hq9).eq] <;> first | rfl | (simp only [List.length_set] <;> rfl)), (fresh_segs (L := (Bs302 ++ (Bs301 ++ B1_201))) (hw1.perm (((qb (qb (qd (qd q0)))).trans (qd (qb (qb (qd q0))))).trans (qd (qd (qb (qb q0)))))) (nA (nA rfl)).symm), (by rw [(((hF.f hq1).neg hq8).neg hq9).eq]; exact (hos302.slb eI_ok)), (by rw [(((hF.f hq1).neg hq8).neg hq9).eq]; exact (hos301.slb eB_ok)), (by rw [(((hF.f hq1).neg hq8).neg hq9).eq]; exact ((ho1_201.take eI_ok ((((s.free.length : Nat) : Int) - 1).toNat)).slb eI_ok)), (by rw [(((hF.f hq1).neg hq8).neg hq9).eq]; first | exact lb), (by rw [(((hF.f hq1).neg hq8).neg hq9).eq]; first | exact lb), (by rw [(((hF.f hq1).neg hq8).neg hq9).eq]; first | exact lb)⟩

theorem sGive_ok (w : World) {s_gens_a : Option Addr} {s_gens_c : Nat} {s_used_a : Option Addr} {s_used_c : Nat} {s_free_a : Option Addr} {s_free_c : Nat} {s : Slots} {h : Handle} (h_s_gens : Sl w eI 1 s_gens_a s.gens) (n_s_gens : s.gens.length ≤ 1000) (h_s_used : Sl w eB 1 s_used_a s.used) (n_s_used : s.used.length ≤ 1000) (h_s_free : Sl w eI 1 s_free_a s.free) (n_s_free : s.free.length ≤ 1000) : Calls Tryz.prog 113 (List.toArray [(Value.agg [(vs s_gens_a s.gens.length s_gens_c), (vs s_used_a s.used.length s_used_c), (vs s_free_a s.free.length s_free_c)].toArray), (Value.agg [(vi h.slot), (vi h.gen)].toArray)]) w fun e w2 => ∃ a1 : Option Addr, ∃ c1 : Nat, ∃ a2 : Option Addr, ∃ c2 : Nat, ∃ a3 : Option Addr, ∃ c3 : Nat, ∃ B : Heap, e = .returned (Value.tuple [(Value.agg [(vs a1 ((sGive s h).1.gens.length) c1), (vs a2 ((sGive s h).1.used.length) c2), (vs a3 ((sGive s h).1.free.length) c3)].toArray), (vi ((sGive s h).2))].toArray) ∧ Fresh w w2 B ∧ SlB B eI 1 a1 (sGive s h).1.gens ∧ SlB B eB 1 a2 (sGive s h).1.used ∧ SlB B eI 1 a3 (sGive s h).1.free ∧ (sGive s h).1.gens.length ≤ 1000 ∧ (sGive s h).1.used.length ≤ 1000 ∧ (sGive s h).1.free.length ≤ 1000 := by
 have hF := Is.refl (sGive s h)
 refine enter Tryz.func113 Tryz.ntmps113 (h := ?_)
 refine Z2 ?_
 refine JL_a noMk (a_box (l := [_, _, _])) (k := fun r1 hr1 => ?_)
 refine JL_a noMk (a_box (l := [_, _])) (k := fun r2 hr2 => ?_)
 refine JL_a noMk (a_alloc (l := [_, _, _]) Tryz.zeroValue25) (k := fun r3 hr3 => ?_)
 refine Z1 ?_
 refine Z61 ?_
 refine Z135 ?_
 refine Z424 ?_
 refine J_cond rfl (fun hq1 => ?_) (fun hq1 => ?_)
 ·refine J_seq ?_
  refine Z486 ?_
  refine Z251 ?_
  refine Z292 ?_
  refine JX_ret Tryz.results113 (Res.agg Tryz.isAgg25 Tryz.sizeOf25 rfl me rfl (Res.tmp rfl Res.nil)) (fun w1 hw1 => ?_)
  exact ⟨none, 0, none, 0, none, 0, [], (by rw [(hF.t hq1).eq] <;> first | rfl | (simp only [List.length_set] <;> rfl)), (hw1.fresh_out.sub (List.nil_sublist _)), (by rw [(hF.t hq1).eq]; exact SlB.nil), (by rw [(hF.t hq1).eq]; exact SlB.nil), (by rw [(hF.t hq1).eq]; exact SlB.nil), (by rw [(hF.t hq1).eq]; first | exact lb), (by rw [(hF.t hq1).eq]; first | exact lb), (by rw [(hF.t hq1).eq]; first | exact lb)⟩
 have hfhq1 := sRight_t (by simpa using hq1)
 refine Z2 ?_
 refine Z482 ?_
 refine Z492 ?_
 refine JL_v (c_callA Tryz.call21) (fun w1 hw1 => sValid_ok w1 (s := s) (h := h) (h_s_gens := (SlJ.of_base h_s_gens) w1 hw1) (n_s_gens := by first | exact lb | decide) (h_s_used := (SlJ.of_base h_s_used) w1 hw1) (n_s_used := by first | exact lb | decide) (h_s_free := (SlJ.of_base h_s_free) w1 hw1) (n_s_free := by first | exact lb | decide)) (k := ?_)
 refine Z424 ?_
 refine J_cond rfl (fun hq2 => ?_) (fun hq2 => ?_)
 ·refine J_seq ?_
  refine Z486 ?_
  refine Z251 ?_
  refine Z292 ?_
  refine JX_ret Tryz.results113 (Res.agg Tryz.isAgg25 Tryz.sizeOf25 rfl me rfl (Res.tmp rfl Res.nil)) (fun w1 hw1 => ?_)
  exact ⟨none, 0, none, 0, none, 0, [], (by rw [((hF.f hq1).t hq2).eq] <;> first | rfl | (simp only [List.length_set] <;> rfl)), (hw1.fresh_out.sub (List.nil_sublist _)), (by rw [((hF.f hq1).t hq2).eq]; exact SlB.nil), (by rw [((hF.f hq1).t hq2).eq]; exact SlB.nil), (by rw [((hF.f hq1).t hq2).eq]; exact SlB.nil), (by rw [((hF.f hq1).t hq2).eq]; first | exact lb), (by rw [((hF.f hq1).t hq2).eq]; first | exact lb), (by rw [((hF.f hq1).t hq2).eq]; first | exact lb)⟩
 have hfhq2 := sValid_t (by simpa using hq2)
 refine J_skip ?_
 refine Z452 ?_
 refine Z482 ?_
 refine JL_inl (args := [_]) (c_callA Tryz.call140) Tryz.func140 Tryz.ntmps140 ?_
 refine Z2 ?_
 refine JL_a noMk (a_box (l := [_, _, _])) (k := fun r4 hr4 => ?_)
 refine Z31 ?_
 refine J_any (V := []) mixed 14 (by kernel_rfl) ?_
 refine JG_q 0 rfl (by kernel_rfl) (q_fld FO_25_0) (k := ?_)
 refine JG_q 1 rfl (by kernel_rfl) (q_load Tryz.isAgg22) (k := ?_)
 refine JG_q 2 rfl (by kernel_rfl) (q_lenS Tryz.runUnderlying22) (k := ?_)
 refine JG_q 4 rfl (by kernel_rfl) (q_fld FO_25_1) (k := ?_)
 refine JG_q 5 rfl (by kernel_rfl) (q_load Tryz.isAgg23) (k := ?_)
 refine JG_q 7 rfl (by kernel_rfl) (q_fld FO_25_2) (k := ?_)
 refine JG_q 8 rfl (by kernel_rfl) (q_load Tryz.isAgg22) (k := ?_)
 refine JG_br [3, 6] (by kernel_rfl) rfl (List.forall_mem_cons.2 ⟨?_, (List.forall_mem_cons.2 ⟨?_, nofun⟩)⟩)
 ·skip
  refine JO_makeN rfl (n := s.gens.length) (x0 := default) TY_3 Tryz.underlying22 eI_ok rfl ⟨by omega, by omega⟩ (k := fun ax81 Bx81 hox81 => ?_)
  refine JG_br [6] (by kernel_rfl) rfl (List.forall_mem_cons.2 ⟨?_, nofun⟩)
  ·skip
   refine Z493 ?_
   rintro w1_141 e1_141 w2_141 hw1_141 ⟨a1_141, c1_141, B1_141, he_141, hf_141, ho1_141⟩
   refine ⟨_, _, _, he_141, hf_141, rfl, ?_⟩
   refine JG_br [9] (by kernel_rfl) rfl (List.forall_mem_cons.2 ⟨?_, nofun⟩)
   ·skip
    refine Z494 ?_
    rintro w1_201 e1_201 w2_201 hw1_201 ⟨a1_201, c1_201, B1_201, he_201, hf_201, ho1_201⟩
    refine ⟨_, _, _, he_201, hf_201, rfl, ?_⟩
    refine Z118 ?_
    refine JG_br [12] (by kernel_rfl) rfl (List.forall_mem_cons.2 ⟨?_, nofun⟩)
    ·skip
     refine JO_a rfl noMk (a_box (l := [_, _, _])) (k := fun r265 hr265 => ?_)
     refine Z440 ?_
     refine Z72 ?_
     refine Z113 ?_
     refine Z458 ?_
     refine Z83 ?_
     refine JD_copy (n := s.gens.length) TY_3 Tryz.underlying22 eI_ok hox81 q0 (SlJ.of_base h_s_gens) (by simp) rfl (kk := fun Bx302 hox302 => ?_)
     refine Z273 ?_
     refine Z237 ?_
     refine Z316 ?_
     refine Z31 ?_
     refine Z308 ?_
     refine Z88 ?_
     refine Z262 ?_
     refine JD_q (q_fld FO_42_0) (k := ?_)
     refine Z238 ?_
     refine JD_nil0 ?_
     refine JL_storeE h.slot.toNat false Tryz.sizeOf4 eB_ok ho1_141 (qd (qd q0)) (by first | omega | (simp only [List.length_set]; omega)) (k := fun Bs301 hos301 => ?_)
     refine Z212 ?_
     refine Z62 ?_
     refine Z88 ?_
     refine Z263 ?_
     refine JD_q (q_fld FO_42_0) (k := ?_)
     refine Z496 ?_
     refine JD_a noMk (a_bslice (l := [_]) Tryz.runUnderlying22 Tryz.sizeOf3 Tryz.zeroValue3) (k := fun r305 hr305 => ?_)
     refine JD_append (s.free ++ ([h.slot] : List Int)) rfl TY_3 Tryz.underlying22 eI_ok ho1_201 q0 (SlJ.lit (xs := ([h.slot] : List Int)) eI_ok) ⟨by omega, by omega⟩ (n := s.free.length) (m := 1) (k := fun ax304 cx304 Bx304 hox304 => ?_)
     have hal304 : (s.free ++ ([h.slot] : List Int)).length = s.free.length + 1 := by first | rfl | exact List.length_append | simp
     refine Z88 ?_
     refine JD_q (q_fld FO_25_2) (k := ?_)
     refine Z273 ?_
     refine Z275 ?_
     refine Z57 ?_
     refine Z277 ?_
     refine Z6 ?_
     refine JX_ret Tryz.results113 (Res.agg Tryz.isAgg25 Tryz.sizeOf25 rfl me rfl (Res.tmp rfl Res.nil)) (fun w1 hw1 => ?_)
     exact ⟨ax81, s.gens.length, a1_141, c1_141, ax304, cx304, (Bx302 ++ (Bs301 ++ Bx304)), (by rw [((hF.f hq1).f hq2).eq] <;> first | rfl | (simp only [List.length_set] <;> rfl)), (fresh_segs (L := (Bx302 ++ (Bs301 ++ Bx304))) (hw1.perm ((q0.trans (qd (qb q0))).trans (qd (qd (qb q0))))) (nA (nA rfl)).symm), (by rw [((hF.f hq1).f hq2).eq]; exact (hox302.slb eI_ok)), (by rw [((hF.f hq1).f hq2).eq]; exact (hos301.slb eB_ok)), (by rw [((hF.f hq1).f hq2).eq]; exact (hox304.slb eI_ok)), (by rw [((hF.f hq1).f hq2).eq]; first | exact lb), (by rw [((hF.f hq1).f hq2).eq]; first | exact lb), (by rw [((hF.f hq1).f hq2).eq]; first | exact lb)⟩
 ·skip
  refine Z493 ?_
  rintro w1_141 e1_141 w2_141 hw1_141 ⟨a1_141, c1_141, B1_141, he_141, hf_141, ho1_141⟩
  refine ⟨_, _, _, he_141, hf_141, rfl, ?_⟩
  refine JG_br [3, 9] (by kernel_rfl) rfl (List.forall_mem_cons.2 ⟨?_, (List.forall_mem_cons.2 ⟨?_, nofun⟩)⟩)
  ·skip
   refine JO_makeN rfl (n := s.gens.length) (x0 := default) TY_3 Tryz.underlying22 eI_ok rfl ⟨by omega, by omega⟩ (k := fun ax81 Bx81 hox81 => ?_)
   refine JG_br [9] (by kernel_rfl) rfl (List.forall_mem_cons.2 ⟨?_, nofun⟩)
   ·skip
    refine Z494 ?_
    rintro w1_201 e1_201 w2_201 hw1_201 ⟨a1_201, c1_201, B1_201, he_201, hf_201, ho1_201⟩
    refine ⟨_, _, _, he_201, hf_201, rfl, ?_⟩
    refine Z118 ?_
    refine JG_br [12] (by kernel_rfl) rfl (List.forall_mem_cons.2 ⟨?_, nofun⟩)
    ·skip
     refine JO_a rfl noMk (a_box (l := [_, _, _])) (k := fun r265 hr265 => ?_)
     refine Z440 ?_
     refine Z72 ?_
     refine Z113 ?_
     refine Z458 ?_
     refine Z83 ?_
     refine JD_copy (n := s.gens.length) TY_3 Tryz.underlying22 eI_ok hox81 q0 (SlJ.of_base h_s_gens) (by simp) rfl (kk := fun Bx302 hox302 => ?_)
     refine Z273 ?_
     refine Z237 ?_
     refine Z316 ?_
     refine Z31 ?_
     refine Z308 ?_
     refine Z88 ?_
     refine Z262 ?_
     refine JD_q (q_fld FO_42_0) (k := ?_)
     refine Z238 ?_
     refine JD_nil0 ?_
     refine JL_storeE h.slot.toNat false Tryz.sizeOf4 eB_ok ho1_141 (qd (qd q0)) (by first | omega | (simp only [List.length_set]; omega)) (k := fun Bs301 hos301 => ?_)
     refine Z212 ?_
     refine Z62 ?_
     refine Z88 ?_
     refine Z263 ?_
     refine JD_q (q_fld FO_42_0) (k := ?_)
     refine Z496 ?_
     refine JD_a noMk (a_bslice (l := [_]) Tryz.runUnderlying22 Tryz.sizeOf3 Tryz.zeroValue3) (k := fun r305 hr305 => ?_)
     refine JD_append (s.free ++ ([h.slot] : List Int)) rfl TY_3 Tryz.underlying22 eI_ok ho1_201 q0 (SlJ.lit (xs := ([h.slot] : List Int)) eI_ok) ⟨by omega, by omega⟩ (n := s.free.length) (m := 1) (k := fun ax304 cx304 Bx304 hox304 => ?_)
     have hal304 : (s.free ++ ([h.slot] : List Int)).length = s.free.length + 1 := by first | rfl | exact List.length_append | simp
     refine Z88 ?_
     refine JD_q (q_fld FO_25_2) (k := ?_)
     refine Z273 ?_
     refine Z275 ?_
     refine Z57 ?_
     refine Z277 ?_
     refine Z6 ?_
     refine JX_ret Tryz.results113 (Res.agg Tryz.isAgg25 Tryz.sizeOf25 rfl me rfl (Res.tmp rfl Res.nil)) (fun w1 hw1 => ?_)
     exact ⟨ax81, s.gens.length, a1_141, c1_141, ax304, cx304, (Bx302 ++ (Bs301 ++ Bx304)), (by rw [((hF.f hq1).f hq2).eq] <;> first | rfl | (simp only [List.length_set] <;> rfl)), (fresh_segs (L := (Bx302 ++ (Bs301 ++ Bx304))) (hw1.perm ((q0.trans (qd (qb q0))).trans (qd (qd (qb q0))))) (nA (nA rfl)).symm), (by rw [((hF.f hq1).f hq2).eq]; exact (hox302.slb eI_ok)), (by rw [((hF.f hq1).f hq2).eq]; exact (hos301.slb eB_ok)), (by rw [((hF.f hq1).f hq2).eq]; exact (hox304.slb eI_ok)), (by rw [((hF.f hq1).f hq2).eq]; first | exact lb), (by rw [((hF.f hq1).f hq2).eq]; first | exact lb), (by rw [((hF.f hq1).f hq2).eq]; first | exact lb)⟩
  ·skip
   refine Z494 ?_
   rintro w1_201 e1_201 w2_201 hw1_201 ⟨a1_201, c1_201, B1_201, he_201, hf_201, ho1_201⟩
   refine ⟨_, _, _, he_201, hf_201, rfl, ?_⟩
   refine JG_br [3] (by kernel_rfl) rfl (List.forall_mem_cons.2 ⟨?_, nofun⟩)
   ·skip
    refine JO_makeN rfl (n := s.gens.length) (x0 := default) TY_3 Tryz.underlying22 eI_ok rfl ⟨by omega, by omega⟩ (k := fun ax81 Bx81 hox81 => ?_)
    refine Z118 ?_
    refine JG_br [12] (by kernel_rfl) rfl (List.forall_mem_cons.2 ⟨?_, nofun⟩)
    ·skip
     refine JO_a rfl noMk (a_box (l := [_, _, _])) (k := fun r265 hr265 => ?_)
     refine Z440 ?_
     refine Z72 ?_
     refine Z113 ?_
     refine Z458 ?_
     refine Z83 ?_
     refine JD_copy (n := s.gens.length) TY_3 Tryz.underlying22 eI_ok hox81 q0 (SlJ.of_base h_s_gens) (by simp) rfl (kk := fun Bx302 hox302 => ?_)
     refine Z273 ?_
     refine Z237 ?_
     refine Z316 ?_
     refine Z31 ?_
     refine Z308 ?_
     refine Z88 ?_
     refine Z262 ?_
     refine JD_q (q_fld FO_42_0) (k := ?_)
     refine Z238 ?_
     refine JD_nil0 ?_
     refine JL_storeE h.slot.toNat false Tryz.sizeOf4 eB_ok ho1_141 (qd (qd q0)) (by first | omega | (simp only [List.length_set]; omega)) (k := fun Bs301 hos301 => ?_)
     refine Z212 ?_
     refine Z62 ?_
     refine Z88 ?_
     refine Z263 ?_
     refine JD_q (q_fld FO_42_0) (k := ?_)
     refine Z496 ?_
     refine JD_a noMk (a_bslice (l := [_]) Tryz.runUnderlying22 Tryz.sizeOf3 Tryz.zeroValue3) (k := fun r305 hr305 => ?_)
     refine JD_append (s.free ++ ([h.slot] : List Int)) rfl TY_3 Tryz.underlying22 eI_ok ho1_201 q0 (SlJ.lit (xs := ([h.slot] : List Int)) eI_ok) ⟨by omega, by omega⟩ (n := s.free.length) (m := 1) (k := fun ax304 cx304 Bx304 hox304 => ?_)
     have hal304 : (s.free ++ ([h.slot] : List Int)).length = s.free.length + 1 := by first | rfl | exact List.length_append | simp
     refine Z88 ?_
     refine JD_q (q_fld FO_25_2) (k := ?_)
     refine Z273 ?_
     refine Z275 ?_
     refine Z57 ?_
     refine Z277 ?_
     refine Z6 ?_
     refine JX_ret Tryz.results113 (Res.agg Tryz.isAgg25 Tryz.sizeOf25 rfl me rfl (Res.tmp rfl Res.nil)) (fun w1 hw1 => ?_)
     exact ⟨ax81, s.gens.length, a1_141, c1_141, ax304, cx304, (Bx302 ++ (Bs301 ++ Bx304)), (by rw [((hF.f hq1).f hq2).eq] <;> first | rfl | (simp only [List.length_set] <;> rfl)), (fresh_segs (L := (Bx302 ++ (Bs301 ++ Bx304))) (hw1.perm ((q0.trans (qd (qb q0))).trans (qd (qd (qb q0))))) (nA (nA rfl)).symm), (by rw [((hF.f hq1).f hq2).eq]; exact (hox302.slb eI_ok)), (by rw [((hF.f hq1).f hq2).eq]; exact (hos301.slb eB_ok)), (by rw [((hF.f hq1).f hq2).eq]; exact (hox304.slb eI_ok)), (by rw [((hF.f hq1).f hq2).eq]; first | exact lb), (by rw [((hF.f hq1).f hq2).eq]; first | exact lb), (by rw [((hF.f hq1).f hq2).eq]; first | exact lb)⟩

theorem sNew_ok (w : World) {n_ : Int} : Calls Tryz.prog 64 (List.toArray [(vi n_)]) w fun e w2 => ∃ a1 : Option Addr, ∃ c1 : Nat, ∃ a2 : Option Addr, ∃ c2 : Nat, ∃ a3 : Option Addr, ∃ c3 : Nat, ∃ B : Heap, e = .returned (Value.tuple [(Value.agg [(vs a1 ((sNew n_).1.gens.length) c1), (vs a2 ((sNew n_).1.used.length) c2), (vs a3 ((sNew n_).1.free.length) c3)].toArray), (vi ((sNew n_).2))].toArray) ∧ Fresh w w2 B ∧ SlB B eI 1 a1 (sNew n_).1.gens ∧ SlB B eB 1 a2 (sNew n_).1.used ∧ SlB B eI 1 a3 (sNew n_).1.free ∧ (sNew n_).1.gens.length ≤ 1000 ∧ (sNew n_).1.used.length ≤ 1000 ∧ (sNew n_).1.free.length ≤ 1000 := by
 have hF := Is.refl (sNew n_)
 refine enter Tryz.func64 Tryz.ntmps64 (h := ?_)
 refine Z2 ?_
 refine JL_a noMk (a_alloc (l := [_, _, _]) Tryz.zeroValue25) (k := fun r1 hr1 => ?_)
 refine Z104 ?_
 refine Z209 ?_
 refine JL_dec 8 rfl (fun hq1 => ?_) (fun hq1 => ?_)
 ·refine JL_skips 2 rfl ?_
  refine Z285 ?_
  refine Z251 ?_
  refine Z41 ?_
  refine JX_ret Tryz.results64 (Res.agg Tryz.isAgg25 Tryz.sizeOf25 rfl me rfl (Res.tmp rfl Res.nil)) (fun w1 hw1 => ?_)
  exact ⟨none, 0, none, 0, none, 0, [], (by rw [(hF.pos hq1).eq] <;> first | rfl | (simp only [List.length_set] <;> rfl)), (hw1.fresh_out.sub (List.nil_sublist _)), (by rw [(hF.pos hq1).eq]; exact SlB.nil), (by rw [(hF.pos hq1).eq]; exact SlB.nil), (by rw [(hF.pos hq1).eq]; exact SlB.nil), (by rw [(hF.pos hq1).eq]; first | exact lb), (by rw [(hF.pos hq1).eq]; first | exact lb), (by rw [(hF.pos hq1).eq]; first | exact lb)⟩
 refine Z409 ?_
 refine Z247 ?_
 refine J_dec rfl (fun hq2 => ?_) (fun hq2 => ?_)
 ·refine J_seq ?_
  refine Z486 ?_
  refine Z251 ?_
  refine Z41 ?_
  refine JX_ret Tryz.results64 (Res.agg Tryz.isAgg25 Tryz.sizeOf25 rfl me rfl (Res.tmp rfl Res.nil)) (fun w1 hw1 => ?_)
  exact ⟨none, 0, none, 0, none, 0, [], (by rw [((hF.neg hq1).pos hq2).eq] <;> first | rfl | (simp only [List.length_set] <;> rfl)), (hw1.fresh_out.sub (List.nil_sublist _)), (by rw [((hF.neg hq1).pos hq2).eq]; exact SlB.nil), (by rw [((hF.neg hq1).pos hq2).eq]; exact SlB.nil), (by rw [((hF.neg hq1).pos hq2).eq]; exact SlB.nil), (by rw [((hF.neg hq1).pos hq2).eq]; first | exact lb), (by rw [((hF.neg hq1).pos hq2).eq]; first | exact lb), (by rw [((hF.neg hq1).pos hq2).eq]; first | exact lb)⟩
 refine Z167 ?_
 refine J_join9 (σ1 := List Int) (σ2 := Option Addr) (σ3 := Nat) (σ4 := Heap) (σ5 := List Bool) (σ6 := Option Addr) (σ7 := Nat) (σ8 := Heap) (σ9 := Nat) (fun x_1 x_1a x_1c x_1B x_2 x_2a x_2c x_2B r122 => (x_2B ++ (x_1B ++ ((r122, oc [(vs x_1a x_1.length x_1c), (vs x_2a x_2.length x_2c), (vs none 0 0)] 25) :: ((r1, oc [(vs none 0 0), (vs none 0 0), (vs none 0 0)] 25) :: []))))) (fun x_1 x_1a x_1c x_1B x_2 x_2a x_2c x_2B r122 => [(0, (vi n_)), (2, (Value.pointer (some ⟨r1, 0, none⟩))), (3, (vi 0)), (4, (Value.pointer (some ⟨r122, 0, none⟩)))]) (fun x_1 x_1a x_1c x_1B x_2 x_2a x_2c x_2B r122 => Is (Is.xr2 ((hF.neg hq1).neg hq2)) (x_1, x_2) ∧ OwnB eI 1 3 x_1a x_1c x_1B x_1 ∧ OwnB eB 1 4 x_2a x_2c x_2B x_2 ∧ x_1.length ≤ 64 ∧ x_2.length ≤ 64) ?_ ?_
 ·skip
  refine J_any (V := []) mixed 6 (by kernel_rfl) ?_
  refine JG_q 0 rfl (by kernel_rfl) q_move (k := ?_)
  refine JG_q 2 rfl (by kernel_rfl) q_move (k := ?_)
  refine JG_br [1, 3, 5] (by kernel_rfl) rfl (List.forall_mem_cons.2 ⟨?_, (List.forall_mem_cons.2 ⟨?_, (List.forall_mem_cons.2 ⟨?_, nofun⟩)⟩)⟩)
  ·skip
   refine JO_make rfl (n := n_.toNat) (x0 := default) TY_3 Tryz.underlying22 eI_ok rfl ⟨by omega, by omega⟩ (k := fun ax41 Bx41 hox41 => ?_)
   refine JG_br [3, 5] (by kernel_rfl) rfl (List.forall_mem_cons.2 ⟨?_, (List.forall_mem_cons.2 ⟨?_, nofun⟩)⟩)
   ·skip
    refine JO_make rfl (n := n_.toNat) (x0 := default) TY_4 Tryz.underlying23 eB_ok rfl ⟨by omega, by omega⟩ (k := fun ax81 Bx81 hox81 => ?_)
    refine Z497 ?_
    refine JG_br [5] (by kernel_rfl) rfl (List.forall_mem_cons.2 ⟨?_, nofun⟩)
    ·skip
     refine JO_a rfl noMk (a_alloc (l := [_, _, _]) Tryz.zeroValue25) (k := fun r122 hr122 => ?_)
     refine Z218 ?_
     refine JL_nil ?_
     refine JX_permL _ ((((qa (qc (qc q0))).trans (qa q0)).trans (qb (qb (qd q0)))).trans (qd (qb (qb q0)))) ?_
     exact JX_join9 (List.replicate n_.toNat (default : Int)) ax41 n_.toNat Bx41 (List.replicate n_.toNat (default : Bool)) ax81 n_.toNat Bx81 r122 ⟨(Is.refl (Is.xr2 ((hF.neg hq1).neg hq2))), hox41, hox81, (by rw [List.length_replicate]; omega), (by rw [List.length_replicate]; omega)⟩ se (List.Perm.refl _)
   ·skip
    refine JO_a rfl noMk (a_alloc (l := [_, _, _]) Tryz.zeroValue25) (k := fun r122 hr122 => ?_)
    refine JG_br [3] (by kernel_rfl) rfl (List.forall_mem_cons.2 ⟨?_, nofun⟩)
    ·skip
     refine JO_make rfl (n := n_.toNat) (x0 := default) TY_4 Tryz.underlying23 eB_ok rfl ⟨by omega, by omega⟩ (k := fun ax81 Bx81 hox81 => ?_)
     refine Z307 ?_
     refine JL_nil ?_
     refine JX_permL _ ((((qc (qa (qc q0))).trans (qa (qc q0))).trans (qb (qb (qd q0)))).trans (qd (qb (qb q0)))) ?_
     exact JX_join9 (List.replicate n_.toNat (default : Int)) ax41 n_.toNat Bx41 (List.replicate n_.toNat (default : Bool)) ax81 n_.toNat Bx81 r122 ⟨(Is.refl (Is.xr2 ((hF.neg hq1).neg hq2))), hox41, hox81, (by rw [List.length_replicate]; omega), (by rw [List.length_replicate]; omega)⟩ se (List.Perm.refl _)
  ·skip
   refine JO_make rfl (n := n_.toNat) (x0 := default) TY_4 Tryz.underlying23 eB_ok rfl ⟨by omega, by omega⟩ (k := fun ax81 Bx81 hox81 => ?_)
   refine JG_br [1, 5] (by kernel_rfl) rfl (List.forall_mem_cons.2 ⟨?_, (List.forall_mem_cons.2 ⟨?_, nofun⟩)⟩)
   ·skip
    refine JO_make rfl (n := n_.toNat) (x0 := default) TY_3 Tryz.underlying22 eI_ok rfl ⟨by omega, by omega⟩ (k := fun ax41 Bx41 hox41 => ?_)
    refine Z497 ?_
    refine JG_br [5] (by kernel_rfl) rfl (List.forall_mem_cons.2 ⟨?_, nofun⟩)
    ·skip
     refine JO_a rfl noMk (a_alloc (l := [_, _, _]) Tryz.zeroValue25) (k := fun r122 hr122 => ?_)
     refine Z218 ?_
     refine JL_nil ?_
     refine JX_permL _ ((((qa (qc (qc q0))).trans (qa q0)).trans (qb (qb q0))).trans (qd (qb (qb q0)))) ?_
     exact JX_join9 (List.replicate n_.toNat (default : Int)) ax41 n_.toNat Bx41 (List.replicate n_.toNat (default : Bool)) ax81 n_.toNat Bx81 r122 ⟨(Is.refl (Is.xr2 ((hF.neg hq1).neg hq2))), hox41, hox81, (by rw [List.length_replicate]; omega), (by rw [List.length_replicate]; omega)⟩ se (List.Perm.refl _)
   ·skip
    refine JO_a rfl noMk (a_alloc (l := [_, _, _]) Tryz.zeroValue25) (k := fun r122 hr122 => ?_)
    refine JG_br [1] (by kernel_rfl) rfl (List.forall_mem_cons.2 ⟨?_, nofun⟩)
    ·skip
     refine JO_make rfl (n := n_.toNat) (x0 := default) TY_3 Tryz.underlying22 eI_ok rfl ⟨by omega, by omega⟩ (k := fun ax41 Bx41 hox41 => ?_)
     refine Z307 ?_
     refine JL_nil ?_
     refine JX_permL _ ((((qc (qa (qc q0))).trans (qa (qc q0))).trans (qb (qb q0))).trans (qd (qb (qb q0)))) ?_
     exact JX_join9 (List.replicate n_.toNat (default : Int)) ax41 n_.toNat Bx41 (List.replicate n_.toNat (default : Bool)) ax81 n_.toNat Bx81 r122 ⟨(Is.refl (Is.xr2 ((hF.neg hq1).neg hq2))), hox41, hox81, (by rw [List.length_replicate]; omega), (by rw [List.length_replicate]; omega)⟩ se (List.Perm.refl _)
  ·skip
   refine JO_a rfl noMk (a_alloc (l := [_, _, _]) Tryz.zeroValue25) (k := fun r122 hr122 => ?_)
   refine JG_br [1, 3] (by kernel_rfl) rfl (List.forall_mem_cons.2 ⟨?_, (List.forall_mem_cons.2 ⟨?_, nofun⟩)⟩)
   ·skip
    refine JO_make rfl (n := n_.toNat) (x0 := default) TY_3 Tryz.underlying22 eI_ok rfl ⟨by omega, by omega⟩ (k := fun ax41 Bx41 hox41 => ?_)
    refine JG_br [3] (by kernel_rfl) rfl (List.forall_mem_cons.2 ⟨?_, nofun⟩)
    ·skip
     refine JO_make rfl (n := n_.toNat) (x0 := default) TY_4 Tryz.underlying23 eB_ok rfl ⟨by omega, by omega⟩ (k := fun ax81 Bx81 hox81 => ?_)
     refine Z307 ?_
     refine JL_nil ?_
     exact JX_join9 (List.replicate n_.toNat (default : Int)) ax41 n_.toNat Bx41 (List.replicate n_.toNat (default : Bool)) ax81 n_.toNat Bx81 r122 ⟨(Is.refl (Is.xr2 ((hF.neg hq1).neg hq2))), hox41, hox81, (by rw [List.length_replicate]; omega), (by rw [List.length_replicate]; omega)⟩ se (List.Perm.refl _)
   ·skip
    refine JO_make rfl (n := n_.toNat) (x0 := default) TY_4 Tryz.underlying23 eB_ok rfl ⟨by omega, by omega⟩ (k := fun ax81 Bx81 hox81 => ?_)
    refine JG_br [1] (by kernel_rfl) rfl (List.forall_mem_cons.2 ⟨?_, nofun⟩)
    ·skip
     refine JO_make rfl (n := n_.toNat) (x0 := default) TY_3 Tryz.underlying22 eI_ok rfl ⟨by omega, by omega⟩ (k := fun ax41 Bx41 hox41 => ?_)
     refine Z307 ?_
     refine JL_nil ?_
     refine JX_permL _ ((((qc (qc (qa q0))).trans (qa (qc (qc q0)))).trans (qb (qb q0))).trans (qd (qb (qb q0)))) ?_
     exact JX_join9 (List.replicate n_.toNat (default : Int)) ax41 n_.toNat Bx41 (List.replicate n_.toNat (default : Bool)) ax81 n_.toNat Bx81 r122 ⟨(Is.refl (Is.xr2 ((hF.neg hq1).neg hq2))), hox41, hox81, (by rw [List.length_replicate]; omega), (by rw [List.length_replicate]; omega)⟩ se (List.Perm.refl _)
 rintro x_1 x_1a x_1c x_1B x_2 x_2a x_2c x_2B r122 ⟨hJ3, hx_1, hx_2, hi4, hi5⟩
 refine Z403 ?_
 refine Z39 ?_
 refine Z305 ?_
 refine J_loop6 (σ1 := Nat) (σ2 := Nat) (σ3 := List Int) (σ4 := Option Addr) (σ5 := Nat) (σ6 := Heap) (fun n_8 x_6 x_7 x_7a x_7c x_7B => (x_7B ++ (x_2B ++ (x_1B ++ ((r122, oc [(vs x_1a x_1.length x_1c), (vs x_2a x_2.length x_2c), (vs x_7a x_7.length x_7c)] 25) :: ((r1, oc [(vs none 0 0), (vs none 0 0), (vs none 0 0)] 25) :: [])))))) (fun n_8 x_6 x_7 x_7a x_7c x_7B => [(0, (vi n_)), (2, (Value.pointer (some ⟨r1, 0, none⟩))), (3, (vi 0)), (4, (Value.pointer (some ⟨r122, 0, none⟩))), (18, (vi n_)), (19, (vi ((x_6 : Nat) : Int)))]) (fun n_8 x_6 x_7 x_7a x_7c x_7B => (n_ - ((x_6 : Nat) : Int)).toNat < n_8 ∧ Is (sNew_l0 n_ x_1 x_2 ((n_ - ((0 : Nat) : Int)).toNat + 1) 0 []) (sNew_l0 n_ x_1 x_2 n_8 x_6 x_7) ∧ OwnB eI 1 3 x_7a x_7c x_7B x_7 ∧ x_7.length ≤ x_6 ∧ ((x_6 : Nat) : Int) ≤ n_) (fun n_8 x_6 x_7 x_7a x_7c x_7B => n_8) ((n_ - ((0 : Nat) : Int)).toNat + 1) 0 ([]) none 0 ([]) ?_ se (List.Perm.refl _) ?_
 ·exact ⟨Nat.lt_succ_self _, Is.refl _, OwnB.nil, (by first | omega | rfl | (simp; done)), (by first | omega | rfl | (simp; done))⟩
 ·rintro (_ | n_8) x_6 x_7 x_7a x_7c x_7B ⟨hm10, hF9, hx_7, hi11, hi12⟩
  ·omega
  refine Z38 ?_
  refine J_dec rfl (fun hq3 => ?_) (fun hq3 => ?_)
  rotate_left
  ·refine J_exit ?_
   refine Z123 ?_
   refine Z2 ?_
   refine Z277 ?_
   refine Z6 ?_
   refine JX_ret Tryz.results64 (Res.agg Tryz.isAgg25 Tryz.sizeOf25 rfl me rfl (Res.tmp rfl Res.nil)) (fun w1 hw1 => ?_)
   exact ⟨x_1a, x_1c, x_2a, x_2c, x_7a, x_7c, (x_1B ++ (x_2B ++ x_7B)), (by rw [((((hF.neg hq1).neg hq2).rn2 hJ3).rn2 (hF9.neg hq3)).eq] <;> first | rfl | (simp only [List.length_set] <;> rfl)), (fresh_segs (L := (x_1B ++ (x_2B ++ x_7B))) (hw1.perm ((q0.trans (qd q0)).trans (qd (qd q0)))) (nA (nA rfl)).symm), (by rw [((((hF.neg hq1).neg hq2).rn2 hJ3).rn2 (hF9.neg hq3)).eq]; exact (hx_1.slb eI_ok)), (by rw [((((hF.neg hq1).neg hq2).rn2 hJ3).rn2 (hF9.neg hq3)).eq]; exact (hx_2.slb eB_ok)), (by rw [((((hF.neg hq1).neg hq2).rn2 hJ3).rn2 (hF9.neg hq3)).eq]; exact (hx_7.slb eI_ok)), (by rw [((((hF.neg hq1).neg hq2).rn2 hJ3).rn2 (hF9.neg hq3)).eq]; first | exact lb), (by rw [((((hF.neg hq1).neg hq2).rn2 hJ3).rn2 (hF9.neg hq3)).eq]; first | exact lb), (by rw [((((hF.neg hq1).neg hq2).rn2 hJ3).rn2 (hF9.neg hq3)).eq]; first | exact lb)⟩
  refine Z476 ?_
  refine Z1 ?_
  refine Z486 ?_
  refine Z125 ?_
  refine Z481 ?_
  refine Z495 ?_
  refine Z481 ?_
  refine Z495 ?_
  refine JL_a noMk (a_bslice (l := [_]) Tryz.runUnderlying22 Tryz.sizeOf3 Tryz.zeroValue3) (k := fun r162 hr162 => ?_)
  refine JL_append (x_7 ++ ([((n_ - 1) - ((x_6 : Nat) : Int))] : List Int)) rfl TY_3 Tryz.underlying22 eI_ok hx_7 (qb q0) (SlJ.lit (xs := ([((n_ - 1) - ((x_6 : Nat) : Int))] : List Int)) eI_ok) ⟨by omega, by omega⟩ (n := x_7.length) (m := 1) (k := fun ax161 cx161 Bx161 hox161 => ?_)
  have hal161 : (x_7 ++ ([((n_ - 1) - ((x_6 : Nat) : Int))] : List Int)).length = x_7.length + 1 := by first | rfl | exact List.length_append | simp
  refine JL_q (q_fld FO_25_2) (k := ?_)
  refine JL_s (w_store (l' := [_, _, _]) Tryz.sizeOf22) (k := ?_)
  refine JL_nil ?_
  refine Z40 ?_
  refine JX_permL _ (((((qc (qa (qc (qc (qa q0))))).trans (qa (qc (qa (qc (qc q0)))))).trans (qb (qb (qd (qb (qd q0)))))).trans (qd (qb (qb (qd (qb q0)))))).trans (qd (qd (qb (qb q0))))) ?_
  refine JX_subL _ (List.Sublist.append (List.Sublist.refl _) (List.Sublist.append (List.Sublist.refl _) (List.Sublist.append (List.Sublist.refl _) (List.Sublist.cons_cons _ (List.Sublist.cons_cons _ (List.nil_sublist _)))))) ?_
  exact JX_inv6 n_8 (x_6 + 1) (x_7 ++ ([((n_ - 1) - ((x_6 : Nat) : Int))] : List Int)) ax161 cx161 Bx161 ⟨by omega, (hF9.pos hq3), hox161, (by omega), (by omega)⟩ (Nat.lt_succ_self _) se (List.Perm.refl _)

end Go.Proofs.YtopjaeoklkpcpaaGreatDoor.Jd

